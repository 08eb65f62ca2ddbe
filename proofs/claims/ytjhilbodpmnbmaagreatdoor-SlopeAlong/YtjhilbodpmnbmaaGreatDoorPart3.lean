/-
  A calculus of values, boxes and code, and what functions of the program compute, proved in it.
  Conditions: none beyond those that the theorems state. (Part 3.)
-/
import Derived.Test.YtjhilbodpmnbmaaGreatDoorPart2

set_option linter.unusedSectionVars false
set_option linter.unusedVariables false
set_option linter.unusedSimpArgs false
set_option linter.unnecessarySimpa false

namespace Go.Ab
section
open Go.RowKit
def Zeg(ν:Nat→FuncId)(τ:Nat→Nat):AOp→AOp
 | .call u args=>.call (ν u) args
 | .ifc k x=>.ifc (τ k) x
 | .inv nm _ _ r args=>.inv nm 0 (if nm="()" then 1 else 0) r args
 | .xop (.mkf k) xs=>.xop (.mkf (τ k)) xs
 | .xop (.mkv k) xs=>.xop (.mkv (τ k)) xs
 | op=>op
def Zap(ν:Nat→FuncId)(τ:Nat→Nat)(o:AO):AO:=⟨o.dst,o.guard,Zeg ν τ o.op⟩
def Zkj(ν:Nat→FuncId)(τ:Nat→Nat)(o:DO):DO:=⟨Zap ν τ o.ao,o.lo,o.hi⟩
def er(ν:Nat→FuncId)(τ:Nat→Nat):AX→AC
 | .skip=>.skip
 | .reg l=>.reg (l.map (Zap ν τ))
 | .draw l=>.draw (l.map (Zkj ν τ))
 | .seq a b=>.seq (er ν τ a) (er ν τ b)
 | .cond c x y=>.cond c (er ν τ x) (er ν τ y)
 | .block id c=>.block id (er ν τ c)
 | .loop c=>.loop (er ν τ c)
 | .exit id=>.exit id
 | .ret=>.ret
 | .note c _=>er ν τ c
 | .pre _ c=>er ν τ c
 | .scope c=>.scope (er ν τ c)
 | .lp id _ c _=>.block id (.loop (er ν τ c))
 | .bad=>.bad
 | .drawT hd tl=>.drawT (hd.map (Zap ν τ)) (tl.map (Zap ν τ))
 | .drawM hd tl=>.drawM (hd.map (Zap ν τ)) (tl.map (Zap ν τ))
 | .prim _=>.bad
def erF(ν:Nat→FuncId)(τ:Nat→Nat)(af:AFx):AF:=⟨af.np,af.nt,af.res,er ν τ af.body⟩
def Ex.out:Ex→Exit
 | .n=>.normal
 | .x id=>.exit id
 | .r=>.ret
def LWp(cx:Cx)(c:AC)(Q:Exit→St→Prop)(st:St):Prop:=
 ∀code,Zaj cx.P cx.nt code=some c→cx.P.follows .mixedOrders=true→∀a w,Rel cx st a w→∀(b:Frame) (k:List Item) (cs:List Frame),
  ∃e a' w',(∃st',Q e st'∧Rel cx st' a' w')∧Arrives cx.P (lone (b.at a (.code code :: .inLoop code::k)) cs w) b k cs e a' w'
theorem zx7{cx:Cx}{c:AC}{Q:Exit→St→Prop}{st:St}(h:AWp cx c (Zim (fun s=>LWp cx c Q s) Q) st):LWp cx c Q st:=by
 intro code hc hm a w hr b k cs;obtain⟨ex,a1,w1,⟨st1,hq1,hrel1⟩,harr⟩:=h code hc hm a w hr b (.inLoop code::k) cs;cases ex with
 | normal=>
  obtain⟨e2,a2,w2,hq2,harr2⟩:=hq1 code hc hm a1 w1 hrel1 b k cs;exact⟨e2,a2,w2,hq2,.of_steps (Steps.trans harr (.one step_inLoop)) harr2⟩
 | exit id=>exact⟨_,a1,w1,⟨st1,hq1,hrel1⟩,.pass (x:=.inLoop code) rfl (fun _ _=>.inl (by simp)) harr⟩
 | goto l=>exact⟨_,a1,w1,⟨st1,hq1,hrel1⟩,.pass (x:=.inLoop code) rfl (fun _ _=>.inl (by simp)) harr⟩
 | ret=>exact⟨_,a1,w1,⟨st1,hq1,hrel1⟩,.pass (x:=.inLoop code) rfl (fun _ _=>.inl (by simp)) harr⟩
 | panic ch=>exact⟨_,a1,w1,⟨st1,hq1,hrel1⟩,.pass (x:=.inLoop code) rfl (fun _ _=>.inl (by simp)) harr⟩
 | outgrown=>exact⟨_,a1,w1,⟨st1,hq1,hrel1⟩,.pass (x:=.inLoop code) rfl (fun _ _=>.inl (by simp)) harr⟩
theorem zh5{cx:Cx}{c:AC}{Q:Exit→St→Prop}{st:St}(h:LWp cx c Q st):AWp cx (.loop c) Q st:=by
 intro code hc hm a w hr;have hcode:=hc;cases code<;>simp only[Zaj]at hc<;>try cases hc
 case loop c1=>
  obtain⟨x',hx,he⟩:=map_some hc;cases he;intro b k cs;obtain⟨e,a',w',hq,harr⟩:=h c1 hx hm a w hr b k cs;exact⟨e,a',w',hq,.of_steps (.one step_loop) harr⟩
 case region id ops draw=>
  rcases zar hcode with ⟨_,l,_,h1⟩ | ⟨_,l,_,⟨n,_,h1⟩ | ⟨_,h1⟩ | ⟨n,_,h1⟩ | h1⟩<;>cases h1
 all_goals simp[Yl]at hc
theorem LWp.mono{cx:Cx}{c:AC}{Q Q':Exit→St→Prop}{st:St}(h:LWp cx c Q st)(hq:∀ex st,Q ex st→Q' ex st):LWp cx c Q' st:=
 fun code hc hm a w hr b k cs=>let ⟨e,a',w',⟨st',h1,h2⟩,h3⟩:=h code hc hm a w hr b k cs;⟨e,a',w',⟨st',hq _ _ h1,h2⟩,h3⟩
def Is(e:Ex)(st':St):Exit→St→Prop:=fun ex s=>ex=e.out∧s=st'
theorem zmf{ν:Nat→FuncId}{τ:Nat→Nat}(op:AOp):(Zeg ν τ op).writes=op.writes:=by
 cases op<;>first | rfl | (rename_i k xs;cases k<;>rfl)
theorem zx8(j:Nat):Zkf j≠"()":=by
 unfold Zkf
 repeat' split
 all_goals decide
theorem zmg{T:Tbl}{k:Nat}{nm:String}{u:Nat}(h:(nm,u)∈Z5 T k):nm≠"()":=by
 unfold Z5 at h;split at h
 ·split at h
  ·unfold Zep at h;obtain⟨r,_,hr⟩:=Ydk.1 h;split at hr
   ·cases hr;exact zx8 _
   ·cases hr
  ·cases h
 ·cases h
structure GoodO (P:Program) (ν:Nat→FuncId) (T:Tbl) (O:Orc):Prop where
 meth:∀k nm u,(nm,u)∈Z5 T k→Zcw P (Zo T k) nm=some (ν u)
 fnn:∀k u,Zeq T k=some u→Zo T k=ν u
 pure:∀u af xs r h,T u=some af→af.lent=none→O.call u xs []=some (r,h)→Zbb P (ν u) xs (·=r)
 lent:∀u af ms xs hb r hb',T u=some af→af.lent=some ms→O.call u xs hb=some (r,hb')→Zd0 P (ν u) xs hb (hb.length+1) (fun r1 h1 c1=>r1=r∧h1=hb'∧c1=hb.length+hb'.length+2)
 loop:∀k c st e st',O.loop k c st=some (e,st')→∀cx:Cx,cx.P=P→cx.clk0=k+1→LWp cx (er ν (Zo T) c) (Is e st') st
section
variable{P:Program}{ν:Nat→FuncId}{T:Tbl}{O:Orc}
theorem zi8(q:BId→Bool)(h:Heap)(b:BId):(h.filter fun p=>!q p.1).lookup b=if q b=true then none else h.lookup b:=by
 induction h with
 | nil=>simp
 | cons p h ih=>
  obtain⟨p1,p2⟩:=p;by_cases hp:q p1=true
  ·rw[Ycp,if_neg (by simp[hp]),ih];by_cases hb:b=p1
   ·subst hb;simp[hp]
   ·simp[hb]
  ·rw[Ycp,if_pos (by simp[hp])];by_cases hb:b=p1
   ·subst hb;simp[hp]
   ·simpa[hb]using ih
theorem zdy(hO:GoodO P ν T O){u:Nat}{xs:List AV}{d:Option Nat}{st st':St}{K:St→Prop}(h:Zc O T u xs d st=some st')(hK:K st') :
  Zhy P (ν u) xs st.heap (fun r h=>K ⟨Zr st.env d r,h,st.clk⟩)∨Zhz P (ν u) xs st.heap st.clk (fun r h c=>K ⟨Zr st.env d r,h,c⟩):=by
 unfold Zc at h;split at h
 ·cases h
 rename_i af hT;split at h
 ·rename_i hl;obtain⟨ys,h1,h2⟩:=bind_some h;obtain⟨r,h3,h4⟩:=bind_some h2;cases h4;refine .inl ⟨ys,(·=r.1),h1,(hO.pure u af _ r.1 r.2 hT hl h3).wk,?_⟩
  rintro r' rfl
  exact hK
 ·rename_i ms hl;obtain⟨ys,h1,h2⟩:=bind_some h;simp only at h2;generalize hh1:Zj (Zas ms xs) st.heap=h1' at *
  generalize hll:reach h1' 40 (Zcc ms xs) []=l at *
  generalize hhp:Zd3 h1' l=hp at *
  split at h2
  ·rename_i hc;obtain⟨r,h3,h4⟩:=bind_some h2;generalize hhb:(r.2.map fun p=>(Za3 l (d.getD 0) p.1,Zam true (Za3 l (d.getD 0)) (Zbe hp st.clk) p.2))=hb' at *
   split at h4
   ·rename_i hchk;cases h4;simp only[Yj,decide_eq_true_eq]at hchk;obtain⟨⟨k2,k3⟩,k4⟩:=hchk;have hmem:∀b bx,hp.lookup b=some bx→h1'.lookup b=some bx:=by
     intro b bx hb;have:=zbc _ _ _ hb;rw[←hhp]at this;exact zfx this
    have hin:∀b,(hp.lookup b).isSome=true↔b∈l:=by
     intro b;constructor
     ·intro hb;obtain⟨bx,hb⟩:=Ybm.1 hb;rw[←hc.1];exact Y2.2 ⟨_,zbc _ _ _ hb,rfl⟩
     ·intro hb;rw[←hc.1]at hb;obtain⟨p,hp1,rfl⟩:=Y2.1 hb;obtain⟨x,hx⟩:=zgm _ _ hp1;rw[hx];rfl
    have hlk:∀id,(h1'.filter fun p=>!(l.contains p.1 || (hb'.map (·.1)).contains p.1)).lookup id=if (l.contains id || (hb'.map (·.1)).contains id)=true then none else h1'.lookup id:=
     fun id=>zi8 (fun b=>l.contains b || (hb'.map (·.1)).contains b) h1' id
    refine .inr ⟨ms,ys,h1,hp,h1'.filter (fun p=>!(l.contains p.1 || (hb'.map (·.1)).contains p.1)),_,⟨fun id bx hid=>?_,fun id bx hid=>?_⟩,fun id hid=>?_,Zd0.rl hc.1 hc.2 (by rw[hhb];exact k2) (by
     have:=hO.lent u af ms _ _ r.1 r.2 hT hl h3;rw[Yau]at this;exact this),?_⟩
    ·rw[hh1];exact hmem id bx hid
    ·rw[hlk]at hid;split at hid
     ·cases hid
     ·rw[hh1];exact hid
    ·rw[hlk,if_pos (by rw[Ybq];exact .inl (by simpa using (hin id).1 hid))]
    ·rintro r' h' c' hle ⟨rfl,rfl,rfl⟩
     rw[hhb];refine⟨fun id hid=>?_,k3,k4,?_⟩
     ·obtain⟨bx,hb⟩:=Ybm.1 hid;have:id∈hb'.map (·.1):=Y2.2 ⟨(id,bx),zbc _ _ _ hb,rfl⟩;rw[hlk,if_pos (by rw[Ybq];exact .inr (by rw[Ydr];exact this))]
     ·have e1:st.clk+(hp.length+r.2.length+2-hp.length)=st.clk+r.2.length+2:=by omega
      rw[e1];exact hK
   ·cases h4
  ·cases h2
theorem zmh(hO:GoodO P ν T O){op:AOp}{d:Option Nat}{st st':St}{K:St→Prop}(h:opX O T op d st=some st')(hK:K st'):opK P (Zeg ν (Zo T) op) d st K:=by
 cases op<;>simp only[opX]at h
 case call u args=>exact zdy hO h hK
 case ifc k x=>
  cases h;exact⟨_,rfl,hK⟩
 case inv nm k u r args=>
  split at h
  ·rename_i t y hy;split at h
   ·rename_i hc;obtain⟨rfl,hm⟩:=hc;exact .inl ⟨if_neg (zmg hm),_,y,_,hy,hO.meth k nm u hm,zdy hO h hK⟩
   ·cases h
  ·rename_i f x hy;split at h
   ·rename_i hc;obtain⟨rfl,rfl,hm⟩:=hc;have hc:=zdy hO h hK;rw[←hO.fnn k u hm]at hc;exact .inr (.inl ⟨rfl,_,x,hy,hc⟩)
   ·cases h
  ·rename_i f id g z i o hy;split at h
   ·rename_i hc;obtain⟨rfl,rfl,hm⟩:=hc;have hc:=zdy hO h hK;rw[←hO.fnn k u hm]at hc;exact .inr (.inr ⟨rfl,_,id,g,z,i,o,hy,hc⟩)
   ·cases h
  ·cases h
 case bsl z zs len ps=>
  obtain⟨q,h1,rfl⟩:=map_some h;exact⟨q,h1,hK⟩
 case alloc zs=>
  obtain⟨q,h1,rfl⟩:=map_some h;exact⟨q,h1,hK⟩
 case store n x v=>
  obtain⟨q,h1,rfl⟩:=map_some h;exact⟨q,h1,hK⟩
 case mks z zs l c=>
  obtain⟨q,h1,rfl⟩:=map_some h;exact⟨q,h1,hK⟩
 case app z x y=>
  obtain⟨q,h1,rfl⟩:=map_some h;exact⟨q,h1,hK⟩
 case xop k xs=>
  cases k
  all_goals
   obtain⟨q,h1,rfl⟩:=map_some h;exact⟨q,h1,hK⟩
 all_goals
  obtain⟨q,h1,rfl⟩:=map_some h;exact⟨q,h1,hK⟩
theorem zmi(hO:GoodO P ν T O){o:AO}{st st':St}{K:St→Prop}(h:Zgi O T o st=some st')(hK:K st'):Zg3 P (Zap ν (Zo T) o) st K:=by
 unfold Zgi at h;unfold Zg3;simp only[Zap];cases hg:o.guard with
 | none=>rw[hg]at h;exact zmh hO h hK
 | some p=>
  obtain⟨t,want⟩:=p;rw[hg]at h;simp only[gX]at h ⊢;cases hx:st.env.get t<;>rw[hx]at h<;>simp only at h ⊢<;>try (cases h;done)
  ·split at h
   ·rename_i hv;rw[if_pos hv];exact zmh hO h hK
   ·rename_i hv;rw[if_neg hv];cases h;exact hK
  ·cases h;exact hK
theorem zet(hO:GoodO P ν T O):∀(l:List AO) (st st':St) (K:St→Prop),Zdt O T l st=some st'→K st'→Zeb P (l.map (Zap ν (Zo T))) st K
 | [],st,st',K,h,hK=>by simp only[Zdt]at h;cases h;exact hK
 | o::l,st,st',K,h,hK=>by
  simp only[Zdt]at h;obtain⟨s1,h1,h2⟩:=bind_some h;simp only[Y1,Zeb];exact zmi hO h1 (zet hO l s1 st' K h2 hK)
theorem zmj(hO:GoodO P ν T O){op:AOp}{e:Env}{h:Heap}{older:List Heap}{x:AV}{K:AV→Prop}(hx:opD O T op e h older=some x)(hK:K x):opQ P (Zeg ν (Zo T) op) e h older K:=by
 by_cases hap:∃z x0 y,op=.app z x0 y
 ·obtain⟨z,x0,y,rfl⟩:=hap;by_cases hc:x0=.c (.sl [] .nl)
  ·subst hc;exact⟨x,hx,hK⟩
  ·exfalso;cases x0 with
   | t n=>simp[opD,Zi]at hx
   | c a=>
    cases a
    case sl els f=>
     cases els with
     | nil=>cases f<;>first | exact hc rfl | simp[opD,Zi]at hx
     | cons r l=>simp[opD,Zi]at hx
    all_goals simp[opD,Zi]at hx
 cases op<;>(try exact absurd ⟨_,_,_,rfl⟩ hap)<;>simp only[opD]at hx
 case call u args=>
  split at hx
  ·cases hx
  rename_i af hT;split at hx
  ·rename_i hc;simp only[Yj]at hc;obtain⟨r,h1,rfl⟩:=map_some hx;exact⟨_,⟨zdw hc.2,fun hf=>by rw[hc.2]at hf;cases hf⟩,r.1,(hO.pure u af _ r.1 r.2 hT (by simpa using hc.1) h1).wk,hK⟩
  ·cases hx
 case ifc k x=>
  cases hx;exact⟨_,rfl,trivial,hK⟩
 case inv nm k u r args=>
  split at hx
  ·rename_i t y hy;split at hx
   ·rename_i hc0;obtain⟨rfl,hm⟩:=hc0;split at hx
    ·cases hx
    rename_i af hT;split at hx
    ·rename_i hc;simp only[Yj]at hc;obtain⟨r,h1,rfl⟩:=map_some hx;exact⟨if_neg (zmg hm),_,y,_,hy,hO.meth k nm u hm,hc.2,r.1,(hO.pure u af _ r.1 r.2 hT (by simpa using hc.1) h1).wk,hK⟩
    ·cases hx
   ·cases hx
  ·cases hx
 case bsl z zs len ps=>
  split at hx
  ·rename_i hc;obtain⟨q,h1,rfl⟩:=map_some hx;exact⟨hc,q,h1,hK⟩
  ·cases hx
 case xop k xs=>
  obtain⟨q,h1,_⟩:=bind_some hx;cases h1
 all_goals
  obtain⟨q,h1,h2⟩:=bind_some hx;split at h2
  ·rename_i hc;cases h2;refine⟨_,h1,?_,hK⟩;rcases zrh hc with hc | hc
   ·simp only[Zeg];rw[hc]
    trivial
   ·simp only[Zeg];split
    ·trivial
    ·exact hc
  ·cases h2
theorem zx9{o:AO}{e:Env}{h':Heap}{x:AV}(hf:o.op.free=false)(hw:o.op.writes=false)(hg:o.guard=none∨∃t want,o.guard=some (t,want)∧e.get t=.b want)(hs:Zg7 o.op e.get h'=some x):QF P h' (Zap ν (Zo T) o) e.get x:=by
 have hq:QOp P (Zeg ν (Zo T) o.op) e.get h' x:=by
  obtain⟨d,g,op⟩:=o;by_cases hap:∃z x0 y,op=.app z x0 y
  ·obtain⟨z,x0,y,rfl⟩:=hap;by_cases hc:x0=.c (.sl [] .nl)
   ·subst hc;cases hf
   ·exact absurd (show (AOp.app z x0 y).writes=false from hw) (by rw[zje hc];simp)
  cases op<;>first | exact absurd ⟨_,_,_,rfl⟩ hap | exact hs | (cases hf;done) | (cases hw;done) | (cases hs;done)
 unfold QF;simp only[Zap];rcases hg with hg | ⟨t,want,hg,ht⟩
 ·rw[hg];exact hq
 ·rw[hg];exact .inl ⟨ht,hq⟩
theorem z1m{o:AO}{e:Env}{h':Heap}(hg:∃t want,o.guard=some (t,want)∧(e.get t=.b (!want)∨e.get t=.tup [])):QF P h' (Zap ν (Zo T) o) e.get (.tup []):=by
 obtain⟨t,want,hg,ht⟩:=hg;unfold QF;simp only[Zap];rw[hg];exact .inr ⟨ht,by trivial⟩
theorem zya{o:AO}{e:Env}{h h':Heap}{x:AV}(hf:o.op.freeE e.get=true)(hq:QF P h (Zap ν (Zo T) o) e.get x):QF P h' (Zap ν (Zo T) o) e.get x:=
 ztk (o:=Zap ν (Zo T) o) (by show (Zeg ν (Zo T) o.op).freeE e.get=true;cases hop:o.op<;>rw[hop]at hf<;>first | rfl | exact hf | cases hf) h h' hq
theorem zyb{o:AO}{e:Env}{h:Heap}{older:List Heap}{r:AV×Bool}(hx:qX O T o e h older=some r)(hr:r.2=true)(hf:o.op.free=true):o.op.freeE e.get=true:=by
 cases hop:o.op
 case call u args=>
  have key:∀x,opD O T (.call u args) e h older=some x→(args.map (ev e.get)).all noRef=true:=by
   intro x hx;simp only[opD]at hx;split at hx
   ·cases hx
   split at hx
   ·rename_i hc;simp only[Yj]at hc;exact hc.2
   ·cases hx
  unfold qX at hx;rw[hop]at hx;split at hx
  ·obtain⟨x,h1,_⟩:=map_some hx;exact key x h1
  ·split at hx
   ·split at hx
    ·obtain⟨x,h1,_⟩:=map_some hx;exact key x h1
    ·cases hx;cases hr
   ·cases hx;cases hr
   ·cases hx
 all_goals (rw[hop]at hf;exact hf)
theorem zkw(hO:GoodO P ν T O){o:AO}{e:Env}{h:Heap}{older:List Heap}{r:AV×Bool}{K:AV→Prop}(hx:qX O T o e h older=some r)(hK:K r.1) :
  qK P (Zap ν (Zo T) o) e h older K∧(r.2=true→(o.guard=none∨∃t want,o.guard=some (t,want)∧e.get t=.b want))∧(r.2=false→r.1=.tup []∧∃t want,o.guard=some (t,want)∧(e.get t=.b (!want)∨e.get t=.tup [])):=by
 unfold qX at hx;unfold qK;simp only[Zap];cases hg:o.guard with
 | none=>
  rw[hg]at hx;obtain⟨x,h1,rfl⟩:=map_some hx;exact⟨zmj hO h1 hK,fun _=>.inl rfl,fun h=>by cases h⟩
 | some p=>
  obtain⟨t,want⟩:=p;rw[hg]at hx;simp only at hx ⊢;cases hx2:e.get t with
  | b v=>
   rw[hx2]at hx;simp only at hx ⊢;split at hx
   ·rename_i hv;rw[if_pos hv];obtain⟨x,h1,rfl⟩:=map_some hx;exact⟨zmj hO h1 hK,fun _=>.inr ⟨t,want,rfl,by rw[hx2,hv]⟩,fun h=>by cases h⟩
   ·rename_i hv;rw[if_neg hv];cases hx;refine⟨hK,?_,?_⟩
    ·intro h;cases h
    intro _;refine⟨rfl,t,want,rfl,.inl ?_⟩;rw[hx2];congr 1;cases v<;>cases want<;>simp_all
  | tup l=>
   rw[hx2]at hx;cases l with
   | nil=>
    simp only at hx ⊢;cases hx;refine⟨hK,?_,?_⟩
    ·intro h;cases h
    ·intro _;exact⟨rfl,t,want,rfl,.inr hx2⟩
   | cons c l=>simp at hx
  | _=>rw[hx2]at hx;simp at hx
theorem zoe{pend:Zck}{h:Heap}(hp:Zcy pend h=true):∀p∈pend,0<p.1→Zg7 p.2.1 p.2.2.1.get h=some p.2.2.2:=by
 classical
 unfold Zcy at hp;exact of_decide_eq_true hp
def Zgr(pendX:Zck)(pend:Zj9):Prop:=∀q∈pend,(∀h',q.2 h')∨q.1=0∨∃p∈pendX,p.1=q.1∧∀h',Zg7 p.2.1 p.2.2.1.get h'=some p.2.2.2→q.2 h'
theorem Zgr.next{pendX:Zck}{pend:Zj9}(h:Zgr pendX pend):Zgr (pendX.map fun p=>(p.1-1,p.2)) (pend.map fun p=>(p.1-1,p.2)):=by
 intro q hq;obtain⟨q0,h1,rfl⟩:=Y2.1 hq;rcases h q0 h1 with h2 | h2 | ⟨p,h2,h3,h4⟩
 ·exact .inl h2
 ·exact .inr (.inl (by simp only;omega))
 ·exact .inr (.inr ⟨_,Y2.2 ⟨p,h2,rfl⟩,by simp only;omega,h4⟩)
theorem zdz(hO:GoodO P ν T O):∀(l:List DO) (e:Env) (h:Heap) (clk:Nat) (older:List Heap) (pendX:Zck) (pend:Zj9) (st':St) (K:St→Prop),Zgr pendX pend→Zbx O T l e h clk older pendX=some st'→K st'→Zgh P (l.map (Zkj ν (Zo T))) e h clk older pend K
 | [],e,h,clk,older,pendX,pend,st',K,hpr,hx,hK=>by simp only[Zbx]at hx;cases hx;exact hK
 | o::l,e,h,clk,older,pendX,pend,st',K,hpr,hx,hK=>by
  simp only[Zbx]at hx;simp only[Y1,Zgh];have hw:(Zkj ν (Zo T) o).ao.op.writes=o.ao.op.writes:=by
   exact zmf _
  rw[hw];cases ho:o.ao.op.writes with
  | true=>
   rw[ho]at hx;simp only at hx ⊢;split at hx
   ·rename_i hg;obtain⟨q,h1,h2⟩:=bind_some hx;split at h2
    ·rename_i hpd;have e1:Zeg ν (Zo T) o.ao.op=o.ao.op:=by
      cases hop:o.ao.op<;>rw[hop]at ho<;>first | rfl | (simp[AOp.writes]at ho;done) | (rename_i k xs;cases k<;>first | rfl | (simp[AOp.writes]at ho))
     refine⟨by show o.ao.guard=none;simpa using hg,q,?_,fun p hp h0=>?_,zdz hO l _ _ _ _ _ _ st' K hpr.next h2 hK⟩
     ·show stepW (Zeg ν (Zo T) o.ao.op) o.ao.dst e.get h clk=some q;rw[e1];exact h1
     ·rcases hpr p hp with h3 | h3 | ⟨p',h3,h4,h5⟩
      ·exact h3 _
      ·omega
      ·exact h5 _ (zoe hpd p' h3 (by omega))
    ·cases h2
   ·cases hx
  | false=>
   rw[ho]at hx;simp only at hx ⊢;split at hx
   rotate_left
   ·rename_i p hrow;obtain⟨x,h1,h2⟩:=bind_some hx;obtain⟨hg,args,hop,hfr,hold⟩:=zl8 hrow;unfold Zfr at h1;split at h1
    ·cases h1
    rename_i af hT;split at h1
    rotate_left
    ·cases h1
    rename_i hl;obtain⟨r,h3,rfl⟩:=map_some h1;have hcall:Zbb P (ν p.1) p.2 (·=r.1):=(hO.pure p.1 af _ r.1 r.2 hT (by simpa using hl) h3).wk;have hao:Zap ν (Zo T) o.ao=⟨o.ao.dst,none,.call (ν p.1) args⟩:=by unfold Zap;rw[hg,hop];rfl
    show qK P (Zap ν (Zo T) o.ao) e h (older.take (older.length-o.lo)) _;rw[hao];refine⟨p.2,⟨hfr,fun _=>hold⟩,r.1,hcall,?_⟩;refine zdz hO l _ _ _ _ _ _ st' K ?_ h2 hK;intro q hq;rcases Y5.1 hq with rfl | hq
    ·by_cases hn:older.length<o.hi
     ·refine .inr (.inr ⟨(o.hi-older.length,o.ao.op,e,.tup p.2),?_,rfl,fun h' hs=>?_⟩)
      ·rw[if_pos hn];exact Yaa
      ·simp only[hop,Zg7]at hs;obtain⟨zs,h6,h7⟩:=map_some hs;cases h7;show QF P h' (Zap ν (Zo T) o.ao) e.get r.1;rw[hao];exact⟨_,h6,hcall⟩
     ·exact .inr (.inl (by show o.hi-older.length=0;omega))
    ·rcases hpr q hq with h3 | h3 | ⟨p',h3,h4,h5⟩
     ·exact .inl h3
     ·exact .inr (.inl h3)
     ·refine .inr (.inr ⟨p',?_,h4,h5⟩);split
      ·exact Ys _ h3
      ·exact h3
   rename_i hrow;obtain⟨r,h1,h2⟩:=bind_some hx;have key:=fun(K':AV→Prop) (hk:K' r.1)=>zkw hO (K:=K') h1 hk;refine(key _ ?_).1;refine zdz hO l _ _ _ _ _ _ st' K ?_ h2 hK;obtain⟨_,k1,k2⟩:=key (fun _=>True) trivial;intro q hq;rcases Y5.1 hq with rfl | hq
   ·cases hr2:r.2 with
    | false=>
     obtain⟨h3,h4⟩:=k2 hr2;exact .inl fun h'=>by
      show QF P h' (Zap ν (Zo T) o.ao) e.get r.1;rw[h3];exact z1m h4
    | true=>
     cases hf:o.ao.op.free with
     | true=>
      obtain⟨hqk,_⟩:=key (fun x=>x=r.1) rfl;obtain⟨x,hq1,_,hxr⟩:=zxq (o:=Zap ν (Zo T) o.ao) (by rw[←ho];exact hw) hqk;subst hxr;exact .inl fun h'=>zya (zyb h1 hr2 hf) hq1
     | false=>
      by_cases hn:older.length<o.hi
      ·refine .inr (.inr ⟨(o.hi-older.length,o.ao.op,e,r.1),?_,rfl,fun h' hs=>zx9 hf ho (k1 hr2) hs⟩);unfold Zey;rw[if_pos (by rw[hr2,hf,decide_eq_true hn];rfl)];exact Yaa
      ·exact .inr (.inl (by show o.hi-older.length=0;omega))
   ·rcases hpr q hq with h3 | h3 | ⟨p,h3,h4,h5⟩
    ·exact .inl h3
    ·exact .inr (.inl h3)
    ·refine .inr (.inr ⟨p,?_,h4,h5⟩);unfold Zey;split
     ·exact Ys _ h3
     ·exact h3
theorem zh6(hO:GoodO P ν T O)(tl:List AO):∀(l:List AO) (e:Env) (h:Heap) (clk:Nat) (st':St) (K:St→Prop),Zdg O T tl l e h clk=some st'→K st'→Zfe P (tl.map (Zap ν (Zo T))) (l.map (Zap ν (Zo T))) e h clk K
 | [],e,h,clk,st',K,hx,hK=>zet hO tl _ st' K hx hK
 | o::l,e,h,clk,st',K,hx,hK=>by
  simp only[Zdg]at hx;obtain⟨r,h1,h2⟩:=bind_some hx;simp only[Y1,Zfe];exact(zkw hO (K:=fun x=>Zfe P (tl.map (Zap ν (Zo T))) (l.map (Zap ν (Zo T))) (Zr e o.dst x) h clk K) h1 (zh6 hO tl l _ h clk st' K h2 hK)).1
theorem zgn{c0:Nat}{op:AOp}{e:Env}{l:List Nat}{ν:Nat→FuncId}{τ:Nat→Nat}(h:Zg8 c0 op e l=true):∀g∈l,Zfo c0 (Zeg ν τ op) e.get g:=by
 intro g hg;unfold Zg8 at h;have h1:=Yk.1 h g hg;simp only[Ybq,decide_eq_true_eq,Yeu,Ydr]at h1;rcases h1 with h1 | ⟨t,ht,h2⟩
 ·exact .inl h1
 ·refine .inr ⟨t,?_,h2⟩;cases op<;>first | exact ht | (cases ht;done) | (rename_i k xs;cases k<;>first | exact ht | cases ht)
theorem zof(hO:GoodO P ν T O){u:Nat}{xs:List AV}{d clk:Nat}{q:AV×Heap×Nat}(h:Zd4 O T u xs d clk=some q):∃m,q.2.2=clk+m∧Zka P (ν u) xs clk q.1 q.2.1 m:=by
 unfold Zd4 at h;split at h
 ·cases h
 rename_i af hT;split at h
 ·cases h
 rename_i ms hl;split at h
 ·rename_i hn;obtain⟨r,h3,h4⟩:=bind_some h;simp only at h4;generalize hhb:(r.2.map fun p=>(Za3 [] d p.1,Zam true (Za3 [] d) (Zbe [] clk) p.2))=hb' at *
  split at h4
  ·rename_i hc;cases h4;obtain⟨hnd,hg1,hg2⟩:=hc;refine⟨r.2.length+2,rfl,hn,?_,hnd,fun g hg=>?_,fun p hp g hg=>?_⟩
   ·have hA:=hO.lent u af ms _ _ r.1 r.2 hT hl h3;have:=Zd0.rl (ys:=xs) (hp:=[]) (clk:=clk) (d:=d) (ex:=af.exact) (l:=[]) (r0:=r.1) (hb':=r.2) (c':=0+r.2.length+2) rfl List.nodup_nil (by rw[hhb];exact hnd) (by simpa using hA);rw[hhb]at this;have e:clk+(0+r.2.length+2-([]:Heap).length)=clk+(r.2.length+2):=by simp
    rw[e]at this;exact this
   ·have:=Yk.1 hg1 g hg;simpa using this
   ·obtain⟨hk,rr,hr,y,hy,hgy⟩:=hg;have h5:=Yk.1 hg2 p hp;simp only[hk,if_true]at h5;have h6:=Yk.1 (Yk.1 h5 rr hr) y hy;have:=Yk.1 h6 g hgy;simpa using this
  ·cases h4
 ·cases h
theorem zjs{op:AOp}{ua:Nat×List Opd}(h:op.lentN=some ua):op=.call ua.1 ua.2:=by
 cases op<;>simp only[AOp.lentN]at h<;>try cases h
 split at h
 ·cases h;rfl
 ·cases h
theorem zfy(q:BId→Bool):∀(h:Heap) (id:BId),(h.filter fun p=>q p.1).lookup id=if q id then h.lookup id else none
 | [],id=>by split<;>rfl
 | (c,x)::h,id=>by
  have ih:=zfy q h id;rw[Ycp];by_cases hc:q c=true
  ·simp only[hc,if_true];rw[Y6,Y6,ih];by_cases hi:id=c
   ·subst hi;simp[hc]
   ·have:(id == c)=false:=by simpa using hi
    rw[this]
  ·simp only[hc,Yab,if_false];rw[ih];by_cases hi:id=c
   ·subst hi;simp[hc]
   ·have:(id == c)=false:=by simpa using hi
    rw[Y6,this]
theorem zfd(ids:List BId)(h:Heap):Zdd (Zez ids h) h:=by
 intro id bx hb;unfold Zez at hb;split at hb
 ·exact hb
 ·rw[zfy fun b=>!ids.contains b]at hb;split at hb
  ·exact hb
  ·cases hb
theorem zug{z d g g' z' off n:Nat}{x' y:Opd}{ρ:Nat→AV}{x:AV}{hp:Heap}{c:Nat}{b:BId}{o:Box}(hv:ev ρ x'=.bs b g' z' off n)(h:stepW (.app z x' y) (some d) ρ [(b,o)] g=some (x,hp,c)) :
  ∃bx,hp=[(b,bx),(b,o)]∧c=g+1∧bx.gen=g:=by
 simp only[stepW,Zg1]at h;obtain⟨ys,_,h1⟩:=bind_some h;rw[hv]at h1;simp only[Zhm]at h1;obtain⟨b0,_,h2⟩:=bind_some h1;split at h2
 ·simp only[Option.some.injEq,Prod.mk.injEq]at h2;obtain⟨_,rfl,rfl⟩:=h2;exact⟨_,rfl,rfl,rfl⟩
 ·cases h2
def Inv(X h:Heap)(c0:Nat):Prop:=∀id o,X.lookup id=some o→h.lookup id=some o∨∃o',h.lookup id=some o'∧c0≤o'.gen
theorem zb6(hO:GoodO P ν T O)(tl:List AO)(h0 X:Heap)(c0:Nat)(hX0:Zdd h0 X):∀(l:List AO) (e:Env) (h:Heap) (clk:Nat) (st':St) (K:St→Prop),Zdd h0 h→c0≤clk→Inv X h c0→Za8 O T tl h0 c0 X l e h clk=some st'→K st'→Zbv P h0 c0 X (fun e h clk=>Zeb P (tl.map (Zap ν (Zo T))) ⟨e,h,clk⟩ K) (l.map (Zap ν (Zo T))) e h clk
 | [],e,h,clk,st',K,_,_,_,hx,hK=>zet hO tl _ st' K hx hK
 | o::l,e,h,clk,st',K,hsb,hck,hinv,hx,hK=>by
  simp only[Za8]at hx;simp only[Y1,Zbv];have hmk:(Zap ν (Zo T) o).op.maker=o.op.maker:=by
   obtain⟨d,g,op⟩:=o;cases op<;>first | rfl | (rename_i k xs;cases k<;>rfl)
  have hsE:(Zap ν (Zo T) o).op.isStore=o.op.isStore:=by
   obtain⟨d,g,op⟩:=o;cases op<;>first | rfl | (rename_i k xs;cases k<;>rfl)
  have hadd:∀(B:Heap),(∀p∈B,h.lookup p.1=none)→Zdd h0 (B++h):=by
   intro B hB id bx hid;have h1:=hsb id bx hid;rw[zas,zdm B fun y hy=>by have:=hB _ hy;rw[this]at h1;cases h1];simpa using h1
  have hiadd:∀(B:Heap),(∀p∈B,h.lookup p.1=none)→Inv X (B++h) c0:=by
   intro B hB id o ho;have hn:B.lookup id=none:=by
    cases hl:B.lookup id with
    | none=>rfl
    | some y=>
     have h1:=hB _ (zcu _ _ _ hl);rcases hinv id o ho with h2 | ⟨o',h2,_⟩<;>(simp only at h1;rw[h1]at h2;cases h2)
   rw[zas,hn];simpa using hinv id o ho
  have hXn:∀id,h.lookup id=none→X.lookup id=none:=by
   intro id hid;cases hl:X.lookup id with
   | none=>rfl
   | some o=>rcases hinv id o hl with h2 | ⟨o',h2,_⟩<;>(rw[hid]at h2;cases h2)
  have h0n:∀id,X.lookup id=none→h0.lookup id=none:=by
   intro id hid;cases hl:h0.lookup id with
   | none=>rfl
   | some o=>have:=hX0 _ _ hl;rw[hid]at this;cases this
  rw[hmk,hsE];cases hm:o.op.maker with
  | true=>
   rw[hm]at hx;simp only at hx ⊢;split at hx
   ·rename_i d hg hd;have hop:Zeg ν (Zo T) o.op=o.op:=by
     obtain⟨d,g,op⟩:=o;cases op<;>first | rfl | (cases hm;done) | (rename_i k xs;cases k<;>first | rfl | cases hm)
    split at hx
    rotate_left
    ·rename_i p how;obtain⟨q,h1,h2⟩:=bind_some hx;split at h2
     ·rename_i hc;obtain⟨x,hp,c'⟩:=q;obtain⟨b,bo⟩:=p;obtain⟨z,x',y,g',z',off,n,hopa,hev⟩:∃z x' y g' z' off n,o.op=.app z x' y∧ev e.get x'=.bs b g' z' off n:=by
       unfold Zic at how;split at how
       ·rename_i z x' y hoa;cases hv:ev e.get x'<;>rw[hv]at how<;>simp only[Zjn]at how<;>try (cases how;done)
        rename_i b2 g' z' off n;unfold Zkh at how;split at how
        ·split at how<;>cases how;exact⟨z,x',y,g',z',off,n,hoa,hv⟩
        ·cases how
       ·cases how
      obtain⟨hb1,⟨ox,hb2⟩,hb3,hb4⟩:h0.lookup b=none∧(∃ox,X.lookup b=some ox)∧h.lookup b=some bo∧bo.gen<c0:=by
       rw[hopa]at how;simp only[Zic,hev,Zjn]at how;unfold Zkh at how;split at how
       ·rename_i o1 o2 e1 e2 e3;split at how<;>cases how;exact⟨e1,⟨_,e2⟩,e3,by assumption⟩
       ·cases how
      have hbx:X.lookup b=some bo:=by
       rcases hinv b ox hb2 with h3 | ⟨o',h3,h4⟩
       ·rw[hb3]at h3;cases h3;exact hb2
       ·rw[hb3]at h3;cases h3;omega
      obtain⟨bx,rfl,rfl,hbg⟩:=zug hev (by rw[hopa]at h1;exact h1);simp only[List.take_succ_cons,Ycr]at h2 hc;refine⟨hg,d,x,b,bx,some bo,hd,by rw[show (Zap ν (Zo T) o).op=o.op from hop];exact h1,hb3,hbx,hb1,fun o2 ho2=>by cases ho2;omega,fun g hgb=>?_,zb6 hO tl h0 X c0 hX0 l _ _ _ st' K (fun id y hy=>?_) (by omega) (fun id o2 ho2=>?_) h2 hK⟩
      ·obtain⟨hk,r,hr,y,hy,hgy⟩:=hgb;simp only[Zib,Yb1,Ye1,Yd2,hk,if_true,Yk]at hc;exact zgn (hc r hr y hy) g hgy
      ·have hne:(id == b)=false:=by
        cases hb:id == b with
        | false=>rfl
        | true=>have:=eq_of_beq hb;subst this;rw[hb1]at hy;cases hy
       show List.lookup id ((b,bx)::h)=some y;rw[Y6,hne];exact hsb id y hy
      ·show List.lookup id ((b,bx)::h)=some o2∨∃o',List.lookup id ((b,bx)::h)=some o'∧c0≤o'.gen;rw[Y6];by_cases hi:id=b
       ·subst hi;rw[beq_self_eq_true];exact .inr ⟨bx,rfl,by omega⟩
       ·have hne:(id == b)=false:=by simpa using hi
        rw[hne];exact hinv id o2 ho2
     ·cases h2
    obtain⟨q,h1,h2⟩:=bind_some hx;split at h2
    ·rename_i hc;simp only[Yj]at hc;obtain⟨x,hp,c'⟩:=q;obtain⟨bx,rfl,rfl⟩:∃bx,hp=[(.loc d,bx)]∧c'=clk+1:=zn2 hm h1;have hln:h.lookup (.loc d)=none:=Yca.1 hc.1;have hB1:∀p∈[((.loc d:BId),bx)],h.lookup p.1=none:=fun p hp=>by rw[Y9.1 hp];exact hln
     refine⟨hg,d,x,.loc d,bx,none,hd,by rw[show (Zap ν (Zo T) o).op=o.op from hop];exact h1,hln,hXn _ hln,h0n _ (hXn _ hln),fun o2 ho2=>(by cases ho2),fun g hgb=>?_,zb6 hO tl h0 X c0 hX0 l _ _ _ st' K (hadd [(.loc d,bx)] hB1) (by omega) (hiadd _ hB1) h2 hK⟩;obtain⟨hk,r,hr,y,hy,hgy⟩:=hgb;have h3:=hc.2;simp only[Zib,Yb1,Ye1,Yd2,hk,if_true,Yk]at h3;exact zgn (h3 r hr y hy) g hgy
    ·cases h2
   ·cases hx
  | false=>
   rw[hm]at hx;simp only at hx ⊢;cases hst:o.op.isStore with
   | true=>
    rw[hst]at hx;simp only at hx ⊢;split at hx
    ·rename_i hg hd;obtain⟨q,h1,h2⟩:=bind_some hx;split at h2
     ·rename_i hfr;obtain⟨dd,gg,op⟩:=o;simp only at hg hd hst h1 hfr;subst hg hd;cases op<;>try (cases hst;done)
      rename_i n x v;simp only[stepW]at h1;obtain⟨h',e1,rfl⟩:=map_some h1;refine⟨rfl,rfl,h',?_,?_,zb6 hO tl h0 X c0 hX0 l e h' clk st' K ?_ hck ?_ h2 hK⟩
      ·show stepW (.store n x v) none e.get h clk=_;simp only[stepW,e1]
       rfl
      rotate_left 2
      ·intro id bx hid;simp only[Zf4]at hfr;unfold Zc1 at e1;split at e1
       ·rename_i id2 g z i o hx2;rw[hx2]at hfr;simp only[Yca]at hfr;obtain⟨bx2,_,e2⟩:=bind_some e1;obtain⟨r2,_,e3⟩:=bind_some e2;obtain⟨cs,_,e4⟩:=bind_some e3;split at e4
        ·cases e4;have hne:(id == id2)=false:=by
          cases hb:id == id2 with
          | false=>rfl
          | true=>have:=eq_of_beq hb;subst this;rw[hid]at hfr;cases hfr
         simp only[Y6,hne];exact hinv id bx hid
        ·cases e4
       ·cases e1
      all_goals
       intro id bx hid;have h3:=hsb id bx hid;replace hid:=hX0 id bx hid;simp only[Zf4]at hfr;unfold Zc1 at e1;split at e1
       ·rename_i id2 g z i o hx2;rw[hx2]at hfr;simp only[Yca]at hfr;obtain⟨bx2,_,e2⟩:=bind_some e1;obtain⟨r2,_,e3⟩:=bind_some e2;obtain⟨cs,_,e4⟩:=bind_some e3;split at e4
        ·cases e4;have hne:(id == id2)=false:=by
          cases hb:id == id2 with
          | false=>rfl
          | true=>have:=eq_of_beq hb;subst this;rw[hid]at hfr;cases hfr
         simp only[Y6,hne];exact h3
        ·cases e4
       ·cases e1
     ·cases h2
    ·cases hx
   | false=>
   rw[hst]at hx;simp only at hx ⊢;cases hlN:o.op.lentN with
   | some ua=>
    rw[hlN]at hx;simp only at hx;split at hx
    ·rename_i d hg hd;obtain⟨q,h1,h2⟩:=bind_some hx;split at h2
     ·rename_i hfr;obtain⟨m,hm2,hcb⟩:=zof hO h1;obtain⟨dd,gg,op⟩:=o;simp only at hg hd hlN;subst hg hd;have hop:=zjs hlN;subst hop;rw[hm2]at h2;exact .inr ⟨rfl,ν ua.1,ua.2,d,q.1,q.2.1,m,rfl,rfl,hcb,fun p hp=>by simpa using Yk.1 hfr p hp,zb6 hO tl h0 X c0 hX0 l _ _ _ st' K (hadd _ fun p hp=>by simpa using Yk.1 hfr p hp) (by omega) (hiadd _ fun p hp=>by simpa using Yk.1 hfr p hp) h2 hK⟩
     ·cases h2
    ·cases hx
   | none=>
   rw[hlN]at hx;simp only at hx;obtain⟨x,h1,h2⟩:=bind_some hx;split at h2
   ·rename_i hc;refine .inl ?_;exact(zkw hO (K:=fun x=>(∀g∈gnA x,Zfo c0 (Zap ν (Zo T) o).op e.get g)∧Zbv P h0 c0 X (fun e h clk=>Zeb P (tl.map (Zap ν (Zo T))) ⟨e,h,clk⟩ K) (l.map (Zap ν (Zo T))) (Zr e o.dst x) h clk) h1 ⟨zgn hc,zb6 hO tl h0 X c0 hX0 l _ h clk st' K hsb hck hinv h2 hK⟩).1
   ·cases h2
theorem zuh{cx:Cx}{c:AC}{st:St}{id:Nat}{o:Option (Ex×St)}{e:Ex}{st':St}(h0:∀e1 s1,o=some (e1,s1)→AWp cx c (Is e1 s1) st)
  (h:(o.bind fun r=>match r.1 with | .x j=>if j=id then some (Ex.n,r.2) else some r | _=>some r)=some (e,st')):AWp cx (.block id c) (Is e st') st:=by
 obtain⟨⟨e1,s1⟩,h1,h2⟩:=bind_some h;refine zlv ((h0 e1 s1 h1).mono ?_)
 rintro ex s ⟨rfl,rfl⟩
 cases e1 with
 | n=>simp only at h2;cases h2;exact⟨rfl,rfl⟩
 | x j=>
  simp only at h2;show Zed id _ (.exit j) _;simp only[Zed];split at h2
  ·rename_i hj;rw[if_pos hj];cases h2;exact⟨rfl,rfl⟩
  ·rename_i hj;rw[if_neg hj];cases h2;exact⟨rfl,rfl⟩
 | r=>simp only at h2;cases h2;exact⟨rfl,rfl⟩
theorem zyc{k:Nat}{cx:Cx}(hk:cx.clk0=k+1){c:AC}{st:St}{g:Gh}{o:Option (Ex×St)}{e:Ex}{st':St}(h0:∀e1 s1,o=some (e1,s1)→AWp cx c (Is e1 s1) st)
  (h:(o.bind fun r=>match r.1 with | .n=>(ghS k g r.2).map fun s=>(Ex.n,s) | _=>some r)=some (e,st')):AWp cx c (Is e st') st:=by
 obtain⟨⟨e1,s1⟩,h1,h2⟩:=bind_some h;intro code hc hm a w hr;refine wp_mono (h0 e1 s1 h1 code hc hm a w hr) ?_
 rintro ex a' w' ⟨s,⟨rfl,rfl⟩,hr'⟩
 cases e1 with
 | n=>
  simp only at h2;obtain⟨s2,h3,h4⟩:=map_some h2;cases h4;exact⟨_,⟨rfl,rfl⟩,hr'.gh hk h3⟩
 | x id=>simp only at h2;cases h2;exact⟨_,⟨rfl,rfl⟩,hr'⟩
 | r=>simp only at h2;cases h2;exact⟨_,⟨rfl,rfl⟩,hr'⟩
theorem zbl(hO:GoodO P ν T O){k:Nat}{cx:Cx}(hP:cx.P=P)(hk:cx.clk0=k+1):∀(c:AX) (st:St) (e:Ex) (st':St),evX O T k c st=some (e,st')→AWp cx (er ν (Zo T) c) (Is e st') st
 | .skip,st,e,st',h=>by simp only[evX]at h;cases h;exact zxv ⟨rfl,rfl⟩
 | .reg l,st,e,st',h=>by
  simp only[evX]at h;obtain⟨s,h1,h2⟩:=map_some h;cases h2;refine z1e ?_;rw[hP];exact zet hO l st st' _ h1 ⟨rfl,rfl⟩
 | .draw l,st,e,st',h=>by
  simp only[evX]at h;obtain⟨s,h1,h2⟩:=map_some h;cases h2;refine zxw ?_;rw[hP];exact zdz hO l _ _ _ _ _ _ st' _ (fun q hq=>by simp at hq) h1 ⟨rfl,rfl⟩
 | .drawT hd tl,st,e,st',h=>by
  simp only[evX]at h;obtain⟨s,h1,h2⟩:=map_some h;cases h2;refine ztq ?_;rw[hP];exact zh6 hO tl hd _ _ _ st' _ h1 ⟨rfl,rfl⟩
 | .drawM hd tl,st,e,st',h=>by
  simp only[evX]at h;obtain⟨s,h1,h2⟩:=map_some h;cases h2;refine ztr (zfd (Zes hd st.env) st.heap) ?_;rw[hP];exact zb6 hO tl _ _ _ (zfd _ _) hd _ _ _ st' _ (zfd _ _) (Yh _) (fun _ _ h=>.inl h) h1 ⟨rfl,rfl⟩
 | .bad,st,e,st',h=>by simp only[evX]at h;cases h
 | .prim f,st,e,st',h=>by simp only[evX]at h;cases h
 | .seq a b,st,e,st',h=>by
  simp only[evX]at h;obtain⟨⟨e1,s1⟩,h1,h2⟩:=bind_some h;refine z1f ((zbl hO hP hk a st e1 s1 h1).mono ?_)
  rintro ex s ⟨rfl,rfl⟩
  cases e1 with
  | n=>exact zbl hO hP hk b _ e st' h2
  | x id=>simp only at h2;cases h2;exact⟨rfl,rfl⟩
  | r=>simp only at h2;cases h2;exact⟨rfl,rfl⟩
 | .cond c x y,st,e,st',h=>by
  simp only[evX]at h;split at h
  ·rename_i t ht;refine zxx ht (fun h1=>?_) (fun h1=>?_)
   ·subst h1;exact zbl hO hP hk x st e st' (by simpa using h)
   ·subst h1;exact zbl hO hP hk y st e st' (by simpa using h)
  ·cases h
 | .block id c,st,e,st',h=>by
  simp only[evX]at h;obtain⟨⟨e1,s1⟩,h1,h2⟩:=bind_some h;refine zlv ((zbl hO hP hk c st e1 s1 h1).mono ?_)
  rintro ex s ⟨rfl,rfl⟩
  cases e1 with
  | n=>simp only at h2;cases h2;exact⟨rfl,rfl⟩
  | x j=>
   simp only at h2;show Zed id _ (.exit j) _;simp only[Zed];split at h2
   ·rename_i hj;rw[if_pos hj];cases h2;exact⟨rfl,rfl⟩
   ·rename_i hj;rw[if_neg hj];cases h2;exact⟨rfl,rfl⟩
  | r=>simp only at h2;cases h2;exact⟨rfl,rfl⟩
 | .loop c,st,e,st',h=>zh5 (hO.loop k c st e st' (by simpa only[evX]using h) cx hP hk)
 | .exit id,st,e,st',h=>by simp only[evX]at h;cases h;exact zxy ⟨rfl,rfl⟩
 | .ret,st,e,st',h=>by simp only[evX]at h;cases h;exact z1g ⟨rfl,rfl⟩
 | .note c g,st,e,st',h=>by
  simp only[evX]at h;obtain⟨⟨e1,s1⟩,h1,h2⟩:=bind_some h;intro code hc hm a w hr;refine wp_mono (zbl hO hP hk c st e1 s1 h1 code hc hm a w hr) ?_
  rintro ex a' w' ⟨s,⟨rfl,rfl⟩,hr'⟩
  cases e1 with
  | n=>
   simp only at h2;obtain⟨s2,h3,h4⟩:=map_some h2;cases h4;exact⟨_,⟨rfl,rfl⟩,hr'.gh hk h3⟩
  | x id=>simp only at h2;cases h2;exact⟨_,⟨rfl,rfl⟩,hr'⟩
  | r=>simp only at h2;cases h2;exact⟨_,⟨rfl,rfl⟩,hr'⟩
 | .lp id g c g2,st,e,st',h=>by
  simp only[evX]at h;obtain⟨s,h1,h2⟩:=bind_some h;have h3:((O.loop k c s).bind fun r=>match r.1 with | .x j=>if j=id then some (Ex.n,r.2) else some r | _=>some r).bind (fun r=>match r.1 with | .n=>(ghS k g2 r.2).map fun s=>(Ex.n,s) | _=>some r)=some (e,st'):=by
   rw[←h2];cases O.loop k c s with
   | none=>rfl
   | some r=>
    obtain⟨e1,s1⟩:=r;cases e1 with
    | n=>rfl
    | r=>rfl
    | x j=>
     simp only[Y7];split<;>rfl
  have h4:AWp cx (.block id (.loop (er ν (Zo T) c))) (Is e st') s:=
   zyc hk (fun e1 s1 he=>zuh (fun e2 s2 he2=>zh5 (hO.loop k c s e2 s2 he2 cx hP hk)) he) h3
  intro code hc hm a w hr;exact h4 code hc hm a w (hr.gh hk h1)
 | .scope c,st,e,st',h=>by
  simp only[evX]at h;refine zts ((zbl hO hP hk c st e st' h).mono ?_)
  rintro ex s ⟨rfl,rfl⟩
  exact⟨fun l=>by cases e<;>(intro he;cases he),rfl,rfl⟩
 | .pre g c,st,e,st',h=>by
  simp only[evX]at h;obtain⟨s,h1,h2⟩:=bind_some h;intro code hc hm a w hr;exact zbl hO hP hk c s e st' h2 code hc hm a w (hr.gh hk h1)
theorem zrj{f:FuncId}{xs:List AV}{hb:Heap}{k:Nat}{ex:Bool}{x:AV}{hh:Heap}{cc:Nat}(h:Zd0 P f xs hb (k+1) (fun r h c=>r=x∧h=hh∧c=cc)) :
  Zd0 P f xs hb (k+1) (fun r h c=>r=(Zc8 ex k [0] ⟨[(0,x)],hh,cc⟩).env.get 0∧h=(Zc8 ex k [0] ⟨[(0,x)],hh,cc⟩).heap∧c=(Zc8 ex k [0] ⟨[(0,x)],hh,cc⟩).clk):=by
 refine⟨h.1,fun w S M cargs hl hC hheap hS hM=>(h.2 w S M cargs hl hC hheap hS hM).mono ?_⟩;intro e w' ⟨v,r,h',S',M',clk',he,⟨h1,h2,h3⟩,hCr,hw⟩;subst h1;subst h2;subst h3;have hrel:Rel ⟨P,1,w,S,M,k+1⟩ ⟨[(0,r)],h',clk'⟩ { tmps:=#[v],defers:=[] } w':=by
  refine⟨S',M',rfl,rfl,fun t=>?_,hw 1⟩;cases t with
  | zero=>simpa using hCr
  | succ t=>simp;exact .p (.dead _)
 obtain⟨S2,M2,hr2⟩:=hrel.norm (ex:=ex) (k:=k) (live:=[0]) rfl;refine⟨v,_,_,S2,M2,_,he,⟨rfl,rfl,rfl⟩,by simpa using hr2.env 0,fun nt=>?_⟩;have:=hr2.wr;exact⟨this.heap,this.ext,this.fr,this.Snew,this.Slt,this.Mnew⟩
theorem Zbb.res{f:FuncId}{xs:List AV}{y:AV}{ex:Bool}(h:Zbb P f xs (·=y)):Zbb P f xs (·=wkIf ex y):=
 ⟨h.1,fun w S cargs hl hC hS=>(h.2 w S cargs hl hC hS).mono fun _ _ ⟨v,r,he,hr,hb,hC⟩=>⟨v,_,he,rfl,hb,by have hr:r=y:=hr;rw[←hr];exact hC.wkIf ex⟩⟩
def TOk(P:Program)(ν:Nat→FuncId)(T:Tbl):Prop:=∀u af,T u=some af →
 match af.body.isPrim with
 | some f=>∀xs r,f xs=some r→Zbb P (ν u) xs (·=r)
 | none=>if af.body.isBad=true then (∀m∈Zep af,Zcw P af.np m.1=some (ν m.2))∧(af.res.isEmpty=true→af.np=ν af.nt) else Zcr P (ν u)=some (erF ν (Zo T) af)
theorem GoodO.next(hT:TOk P ν T)(hm:P.follows .mixedOrders=true)(hO:GoodO P ν T O):GoodO P ν T (Zcs T O):=by
 have bad_no:∀(af:AFx) (k:Nat) (s:St) (r:Ex×St),af.body.isBad=true→evX O T k af.body s=some r→False:=by
  intro af k s r hb he;cases hbd:af.body<;>rw[hbd]at hb he<;>first | (cases hb;done) | (simp only[evX]at he;cases he)
 refine⟨hO.meth,hO.fnn,fun u af xs r h hu hl hc=>?_,fun u af ms xs hb r hb' hu hl hc=>?_,fun k c st e st' h cx hP hk=>?_⟩
 ·have hTu:=hT u af hu;simp only[Zcs,hu]at hc;split at hc
  ·rename_i f hf;rw[hf]at hTu;split at hc
   ·obtain⟨x,h1,h2⟩:=map_some hc;cases h2;exact hTu xs _ h1
   ·cases hc
  rename_i hf;rw[hf]at hTu;simp only at hTu;split at hc
  ·rename_i hcond;obtain⟨⟨e,s⟩,h1,h2⟩:=bind_some hc;rw[if_neg (fun hb=>bad_no af _ _ _ hb h1)]at hTu;have key:∃x y,(e=.n∨e=.r)∧Zc2 s af.res=some x∧frz s.heap x=some y∧r=wkIf af.exact y:=by
    unfold Zki at h2;cases e with
    | x id=>simp at h2
    | n=>
     simp only at h2;obtain⟨x,h3,h4⟩:=bind_some h2;rw[hl]at h4;obtain⟨y,h5,h6⟩:=map_some h4;cases h6;exact⟨x,y,.inl rfl,h3,h5,rfl⟩
    | r=>
     simp only at h2;obtain⟨x,h3,h4⟩:=bind_some h2;rw[hl]at h4;obtain⟨y,h5,h6⟩:=map_some h4;cases h6;exact⟨x,y,.inr rfl,h3,h5,rfl⟩
   obtain⟨x,y,he,h3,h5,rfl⟩:=key;refine Zbb.res (ztt hTu hm hcond.1 fun cx hP hnt hclk=>((zbl hO hP hclk af.body _ e s h1).mono ?_))
   rintro ex s' ⟨rfl,rfl⟩
   exact⟨by rcases he with rfl | rfl;exact .inl rfl;exact .inr rfl,x,y,h3,h5,rfl⟩
  ·cases hc
 ·have hTu:=hT u af hu;simp only[Zcs,hu]at hc;split at hc
  ·rename_i f hf;split at hc
   ·rename_i hcond;rw[hcond.2]at hl;cases hl
   ·cases hc
  rename_i hf;rw[hf]at hTu;simp only at hTu;split at hc
  ·rename_i hcond;obtain⟨⟨e,s⟩,h1,h2⟩:=bind_some hc;rw[if_neg (fun hb=>bad_no af _ _ _ hb h1)]at hTu;have key:∃x,(e=.n∨e=.r)∧Zc2 s af.res=some x∧r=(Zc8 af.exact hb.length [0] ⟨[(0,x)],s.heap,s.clk⟩).env.get 0∧hb'=(Zc8 af.exact hb.length [0] ⟨[(0,x)],s.heap,s.clk⟩).heap:=by
    unfold Zki at h2;cases e with
    | x id=>simp at h2
    | n=>
     simp only at h2;obtain⟨x,h3,h4⟩:=bind_some h2;rw[hl]at h4;cases h4;exact⟨x,.inl rfl,h3,rfl,rfl⟩
    | r=>
     simp only at h2;obtain⟨x,h3,h4⟩:=bind_some h2;rw[hl]at h4;cases h4;exact⟨x,.inr rfl,h3,rfl,rfl⟩
   obtain⟨x,he,h3,rfl,rfl⟩:=key;have hA:Zd0 P (ν u) xs hb (hb.length+1) (fun r h c=>r=x∧h=s.heap∧c=s.clk):=by
    refine zlw hTu hm hcond.1 fun cx hP hnt hclk=>((zbl hO hP hclk af.body _ e s h1).mono ?_)
    rintro ex s' ⟨rfl,rfl⟩
    exact⟨by rcases he with rfl | rfl;exact .inl rfl;exact .inr rfl,x,h3,rfl,rfl,rfl⟩
   have hB:=zrj (ex:=af.exact) hA;refine⟨hB.1,fun w S M cargs hl hC hheap hS hM=>(hB.2 w S M cargs hl hC hheap hS hM).mono ?_⟩;intro e w' ⟨v,r,h',S',M',clk',he,⟨a1,a2,a3⟩,hCr,hw⟩;refine⟨v,r,h',S',M',clk',he,⟨a1,a2,?_⟩,hCr,hw⟩;rw[a3];simp only[Zc8,Yau]
  ·cases hc
 ·simp only[Zcs]at h;obtain⟨⟨e1,s1⟩,h1,h2⟩:=bind_some h;refine zx7 ((zbl hO hP hk c st e1 s1 h1).mono ?_)
  rintro ex s ⟨rfl,rfl⟩
  cases e1 with
  | n=>exact hO.loop k c _ e st' h2 cx hP hk
  | x id=>simp only at h2;cases h2;exact⟨rfl,rfl⟩
  | r=>simp only at h2;cases h2;exact⟨rfl,rfl⟩
theorem zadp(hT:TOk P ν T):∀k nm u,(nm,u)∈Z5 T k→Zcw P (Zo T k) nm=some (ν u):=by
 intro k nm u hm;unfold Z5 at hm;unfold Zo;cases hT':T (1000000+k) with
 | none=>rw[hT']at hm;cases hm
 | some af=>
  rw[hT']at hm;simp only at hm ⊢;split at hm
  ·rename_i hb;have:=hT _ af hT';have hp:af.body.isPrim=none:=by cases hbd:af.body<;>rw[hbd]at hb<;>first | rfl | cases hb
   rw[hp]at this;simp only[if_pos hb]at this;exact this.1 (nm,u) hm
  ·cases hm
theorem fnn0(hT:TOk P ν T):∀k u,Zeq T k=some u→Zo T k=ν u:=by
 intro k u hm;unfold Zeq at hm;unfold Zo;cases hT':T (1000000+k) with
 | none=>rw[hT']at hm;cases hm
 | some af=>
  rw[hT']at hm;simp only at hm ⊢;split at hm
  ·rename_i hb;cases hm;simp only[Yj]at hb;have:=hT _ af hT';have hp:af.body.isPrim=none:=by cases hbd:af.body<;>rw[hbd]at hb<;>first | rfl | cases hb.1
   rw[hp]at this;simp only[if_pos hb.1]at this;exact this.2 hb.2
  ·cases hm
theorem GoodO.orcN(hT:TOk P ν T)(hm:P.follows .mixedOrders=true):∀n,GoodO P ν T (orcN T n)
 | 0=>⟨zadp hT,fnn0 hT,fun _ _ _ _ _ _ _ h=>(by cases h),fun _ _ _ _ _ _ _ _ _ h=>(by cases h),fun _ _ _ _ _ h=>(by cases h)⟩
 | n+1=>(GoodO.orcN hT hm n).next hT hm
end
end
section
open Go.RowKit
inductive Qy where
 | call (u:Nat) (xs:List AV) (hb:Heap) (r:AV×Heap)
 | loop (k:Nat) (c:AX) (st:St) (r:Ex×St)
def Holds(O:Orc):Qy→Prop
 | .call u xs hb r=>O.call u xs hb=some r
 | .loop k c st r=>O.loop k c st=some r
def Zbj{α:Type}(f:Orc→Option α):Prop:=∀O r,f O=some r→∃L:List Qy,(∀q∈L,Holds O q)∧∀O',(∀q∈L,Holds O' q)→f O'=some r
theorem Zbj.const{α:Type}(a:Option α):Zbj fun _=>a:=fun _ _ h=>⟨[],by simp,fun _ _=>h⟩
theorem Zbj.bind{α β:Type}{g:Orc→Option α}{h:Orc→α→Option β}(hg:Zbj g)(hh:∀x,Zbj fun O=>h O x):Zbj fun O=>(g O).bind (h O):=by
 intro O r he;obtain⟨x,h1,h2⟩:=bind_some he;obtain⟨L1,a1,a2⟩:=hg O x h1;obtain⟨L2,b1,b2⟩:=hh x O r h2;refine⟨L1++L2,fun q hq=>?_,fun O' hO'=>?_⟩
 ·rcases Yaq.1 hq with hq | hq
  ·exact a1 q hq
  ·exact b1 q hq
 ·have e1:=a2 O' fun q hq=>hO' q (Yay _ hq);have e2:=b2 O' fun q hq=>hO' q (Yav _ hq);simp only at e2;simp only[e1,Y7,e2]
theorem Zbj.map{α β:Type}{g:Orc→Option α}(hg:Zbj g)(f:α→β):Zbj fun O=>(g O).map f:=by
 have:=hg.bind (h:=fun _ x=>some (f x)) fun x=>.const _;simpa only[Option.map_eq_bind,Function.comp_def]using this
theorem Zbj.call(u:Nat)(xs:List AV)(hb:Heap):Zbj fun O=>O.call u xs hb:=fun O r h=>⟨[.call u xs hb r],by simpa[Holds]using h,fun O' h'=>by simpa[Holds]using h'⟩
theorem Zbj.loop(k:Nat)(c:AX)(st:St):Zbj fun O=>O.loop k c st:=fun O r h=>⟨[.loop k c st r],by simpa[Holds]using h,fun O' h'=>by simpa[Holds]using h'⟩
section
variable(T:Tbl)
theorem zmk(u:Nat)(xs:List AV)(d:Option Nat)(st:St):Zbj fun O=>Zc O T u xs d st:=by
 unfold Zc;split
 ·exact .const _
 ·split
  ·refine Zbj.bind (.const _) fun ys=>Zbj.bind (.call _ _ _) fun r=>.const _
  ·refine Zbj.bind (.const _) fun ys=>?_;simp only;split
   ·refine Zbj.bind (.call _ _ _) fun r=>.const _
   ·exact .const _
theorem zui(op:AOp)(d:Option Nat)(st:St):Zbj fun O=>opX O T op d st:=by
 by_cases hx:∃k xs,op=.xop k xs
 ·obtain⟨k,xs,rfl⟩:=hx;cases k<;>exact .const _
 cases op<;>(try exact absurd ⟨_,_,rfl⟩ hx)<;>simp only[opX]<;>first | exact .const _ | exact zmk T _ _ _ _ | (split<;>first | exact .const _ | (split<;>first | exact .const _ | exact zmk T _ _ _ _))
theorem zuj(o:AO)(st:St):Zbj fun O=>Zgi O T o st:=by
 unfold Zgi;split
 ·exact zui T _ _ _
 ·unfold gX;split
  ·split
   ·exact zui T _ _ _
   ·exact .const _
  ·exact .const _
  ·exact .const _
theorem zhb:∀(l:List AO) (st:St),Zbj fun O=>Zdt O T l st
 | [],st=>.const _
 | o::l,st=>by
  simp only[Zdt];exact(zuj T o st).bind fun s=>zhb l s
theorem zuk(op:AOp)(e:Env)(h:Heap)(older:List Heap):Zbj fun O=>opD O T op e h older:=by
 by_cases hap:∃z x0 y,op=.app z x0 y
 ·obtain⟨z,x0,y,rfl⟩:=hap;by_cases hc:x0=.c (.sl [] .nl)
  ·subst hc;exact .const _
  ·simp only[zoc hc];exact .const _
 cases op<;>(try exact absurd ⟨_,_,_,rfl⟩ hap)<;>simp only[opD]<;>try exact .const _
 case call=>
  split
  ·exact .const _
  ·split
   ·exact(Zbj.call _ _ _).map _
   ·exact .const _
 case inv=>
  split
  ·split
   ·split
    ·exact .const _
    ·split
     ·exact(Zbj.call _ _ _).map _
     ·exact .const _
   ·exact .const _
  ·exact .const _
theorem zul(o:AO)(e:Env)(h:Heap)(older:List Heap):Zbj fun O=>qX O T o e h older:=by
 unfold qX;split
 ·exact(zuk T _ _ _ _).map _
 ·split
  ·split
   ·exact(zuk T _ _ _ _).map _
   ·exact .const _
  ·exact .const _
  ·exact .const _
theorem zum(u:Nat)(ys:List AV):Zbj fun O=>Zfr O T u ys:=by
 unfold Zfr;split
 ·exact .const _
 ·split
  ·exact(Zbj.call _ _ _).map _
  ·exact .const _
theorem zfz:∀(l:List DO) (e:Env) (h:Heap) (clk:Nat) (older:List Heap) (pend:Zck),Zbj fun O=>Zbx O T l e h clk older pend
 | [],e,h,clk,older,pend=>.const _
 | o::l,e,h,clk,older,pend=>by
  simp only[Zbx];split
  ·split
   ·refine Zbj.bind (.const _) fun q=>?_;split
    ·exact zfz l _ _ _ _ _
    ·exact .const _
   ·exact .const _
  ·split
   ·exact(zul T _ _ _ _).bind fun x=>zfz l _ _ _ _ _
   ·exact(zum T _ _).bind fun x=>zfz l _ _ _ _ _
theorem zml(tl:List AO):∀(l:List AO) (e:Env) (h:Heap) (clk:Nat),Zbj fun O=>Zdg O T tl l e h clk
 | [],e,h,clk=>zhb T tl _
 | o::l,e,h,clk=>by
  simp only[Zdg];exact(zul T _ _ _ _).bind fun x=>zml tl l _ _ _
theorem zun(u:Nat)(xs:List AV)(d clk:Nat):Zbj fun O=>Zd4 O T u xs d clk:=by
 unfold Zd4;split
 ·exact .const _
 ·split
  ·exact .const _
  ·split
   ·refine(Zbj.call _ _ _).bind fun r=>?_;exact .const _
   ·exact .const _
theorem zef(tl:List AO)(h0:Heap)(c0:Nat)(X:Heap):∀(l:List AO) (e:Env) (h:Heap) (clk:Nat),Zbj fun O=>Za8 O T tl h0 c0 X l e h clk
 | [],e,h,clk=>zhb T tl _
 | o::l,e,h,clk=>by
  simp only[Za8];split
  ·split
   ·split
    all_goals
     refine Zbj.bind (.const _) fun q=>?_;split
     ·exact zef tl h0 c0 X l _ _ _
     ·exact .const _
   ·exact .const _
  ·split
   ·split
    ·refine Zbj.bind (.const _) fun q=>?_;split
     ·exact zef tl h0 c0 X l _ _ _
     ·exact .const _
    ·exact .const _
   split
   ·split
    ·refine(zun T _ _ _ _).bind fun q=>?_;split
     ·exact zef tl h0 c0 X l _ _ _
     ·exact .const _
    ·exact .const _
   ·refine(zul T _ _ _ _).bind fun x=>?_;split
    ·exact zef tl h0 c0 X l _ _ _
    ·exact .const _
theorem zcy(k:Nat):∀(c:AX) (st:St),Zbj fun O=>evX O T k c st
 | .skip,st=>.const _
 | .reg l,st=>by simp only[evX];exact(zhb T l st).map _
 | .draw l,st=>by simp only[evX];exact(zfz T l _ _ _ _ _).map _
 | .drawT hd tl,st=>by simp only[evX];exact(zml T tl hd _ _ _).map _
 | .drawM hd tl,st=>by simp only[evX];exact(zef T tl _ _ _ hd _ _ _).map _
 | .bad,st=>.const _
 | .prim f,st=>.const _
 | .seq a b,st=>by
  simp only[evX];refine(zcy k a st).bind fun r=>?_;obtain⟨e,s⟩:=r;cases e
  ·exact zcy k b s
  ·exact .const _
  ·exact .const _
 | .cond c x y,st=>by
  simp only[evX];split
  ·split
   ·exact zcy k x st
   ·exact zcy k y st
  ·exact .const _
 | .block id c,st=>by simp only[evX];exact(zcy k c st).bind fun r=>.const _
 | .loop c,st=>by simp only[evX];exact .loop _ _ _
 | .exit id,st=>.const _
 | .ret,st=>.const _
 | .note c g,st=>by simp only[evX];exact(zcy k c st).bind fun r=>.const _
 | .pre g c,st=>by simp only[evX];exact Zbj.bind (.const _) fun s=>zcy k c s
 | .scope c,st=>by simp only[evX];exact zcy k c st
 | .lp id g c g2,st=>by simp only[evX];exact Zbj.bind (.const _) fun s=>(Zbj.loop _ _ _).bind fun r=>.const _
theorem zdh(u:Nat)(xs:List AV)(hb:Heap):Zbj fun O=>(Zcs T O).call u xs hb:=by
 simp only[Zcs];split
 ·exact .const _
 ·split
  ·exact .const _
  ·split
   ·exact(zcy T _ _ _).bind fun r=>.const _
   ·exact .const _
theorem zdi(k:Nat)(c:AX)(st:St):Zbj fun O=>(Zcs T O).loop k c st:=by
 simp only[Zcs];refine(zcy T k c st).bind fun r=>?_;obtain⟨e,s⟩:=r;cases e
 ·exact .loop _ _ _
 ·exact .const _
 ·exact .const _
theorem zh7:∀(n:Nat) (q:Qy),Holds (orcN T n) q→Holds (orcN T (n+1)) q
 | 0,q,h=>by cases q<;>cases h
 | n+1,.call u xs hb r,h=>by
  obtain⟨L,h1,h2⟩:=zdh T u xs hb _ r h;exact h2 _ fun q hq=>zh7 n q (h1 q hq)
 | n+1,.loop k c st r,h=>by
  obtain⟨L,h1,h2⟩:=zdi T k c st _ r h;exact h2 _ fun q hq=>zh7 n q (h1 q hq)
theorem zkx{n m:Nat}(h:n≤m)(q:Qy)(hq:Holds (orcN T n) q):Holds (orcN T m) q:=by
 induction h with
 | refl=>exact hq
 | step _ ih=>exact zh7 T _ q ih
open Classical in
noncomputable def lim{α:Type}(f:Nat→Option α):Option α:=if h:∃n a,f n=some a then f (Classical.choose h) else none
theorem zp1{α:Type}{f:Nat→Option α}(hm:∀n m a,n≤m→f n=some a→f m=some a)(a:α):lim f=some a↔∃n,f n=some a:=by
 unfold lim;constructor
 ·intro h;split at h
  ·exact⟨_,h⟩
  ·cases h
 ·intro ⟨n,h⟩;have hex:∃n a,f n=some a:=⟨n,a,h⟩;rw[dif_pos hex];obtain⟨b,hb⟩:=Classical.choose_spec hex;have h1:=hm _ _ _ (Ydl n (Classical.choose hex)) h;have h2:=hm _ _ _ (Yc8 n (Classical.choose hex)) hb;rw[hb,←h2,h1]
noncomputable def orc:Orc:=⟨fun u xs hb=>lim fun n=>(orcN T n).call u xs hb,fun k c st=>lim fun n=>(orcN T n).loop k c st⟩
theorem zcg(q:Qy):Holds (orc T) q↔∃n,Holds (orcN T n) q:=by
 cases q with
 | call u xs hb r=>exact zp1 (fun n m a hnm h=>zkx T hnm (.call u xs hb a) h) r
 | loop k c st r=>exact zp1 (fun n m a hnm h=>zkx T hnm (.loop k c st a) h) r
theorem zog{L:List Qy}(h:∀q∈L,Holds (orc T) q):∃n,∀q∈L,Holds (orcN T n) q:=by
 induction L with
 | nil=>exact⟨0,by simp⟩
 | cons q L ih=>
  obtain⟨n,hn⟩:=ih fun q hq=>h q (Ys _ hq);obtain⟨m,hm⟩:=(zcg T q).1 (h q Yaa);refine⟨max n m,fun x hx=>?_⟩;rcases Y5.1 hx with rfl | hx
  ·exact zkx T (Yc8 _ _) _ hm
  ·exact zkx T (Ydl _ _) _ (hn x hx)
theorem zky(u:Nat)(xs:List AV)(hb:Heap):(orc T).call u xs hb=(Zcs T (orc T)).call u xs hb:=by
 apply Option.ext;intro r;constructor
 ·intro h;obtain⟨n,hn⟩:=(zcg T (.call u xs hb r)).1 h;cases n with
  | zero=>cases hn
  | succ n=>
   obtain⟨L,h1,h2⟩:=zdh T u xs hb _ r hn;exact h2 _ fun q hq=>(zcg T q).2 ⟨n,h1 q hq⟩
 ·intro h;obtain⟨L,h1,h2⟩:=zdh T u xs hb _ r h;obtain⟨n,hn⟩:=zog T h1;exact(zcg T (.call u xs hb r)).2 ⟨n+1,h2 _ hn⟩
theorem zyd(k:Nat)(c:AX)(st:St):(orc T).loop k c st=(Zcs T (orc T)).loop k c st:=by
 apply Option.ext;intro r;constructor
 ·intro h;obtain⟨n,hn⟩:=(zcg T (.loop k c st r)).1 h;cases n with
  | zero=>cases hn
  | succ n=>
   obtain⟨L,h1,h2⟩:=zdi T k c st _ r hn;exact h2 _ fun q hq=>(zcg T q).2 ⟨n,h1 q hq⟩
 ·intro h;obtain⟨L,h1,h2⟩:=zdi T k c st _ r h;obtain⟨n,hn⟩:=zog T h1;exact(zcg T (.loop k c st r)).2 ⟨n+1,h2 _ hn⟩
end
noncomputable def Zb(T:Tbl)(u:Nat)(xs:List AV):Option AV:=((orc T).call u xs []).map (·.1)
noncomputable def Zaa(T:Tbl)(u:Nat)(xs:List AV)(hb:Heap):Option (AV×Heap):=(orc T).call u xs hb
noncomputable def Zip(T:Tbl)(k:Nat)(c:AX)(st:St):Option (Ex×St):=(orc T).loop k c st
theorem zh8{P:Program}{ν:Nat→FuncId}{T:Tbl}(hT:TOk P ν T)(hm:P.follows .mixedOrders=true){u:Nat}{af:AFx}{xs:List AV}{r:AV}(hu:T u=some af)(hl:af.lent=none)(h:Zb T u xs=some r):Zbb P (ν u) xs (·=r):=by
 obtain⟨⟨r',h'⟩,h1,rfl⟩:=map_some h;obtain⟨n,hn⟩:=(zcg T (.call u xs [] (r',h'))).1 h1;exact(GoodO.orcN hT hm n).pure u af xs r' h' hu hl hn
end
section
open Go.RowKit
def u8(n:Nat):AV:=.i .u8 (n:Int)
def u32(n:Nat):AV:=.i .u32 (n:Int)
def u64(n:Nat):AV:=.i .u64 (n:Int)
@[simp] theorem zak7(k:IntKind)(n:Int):wkA (.i k n)=.i k n:=rfl
@[simp] theorem zah9{h:Heap}(k:IntKind)(n:Int):Za7 h (.i k n)=some (.i k n):=rfl
@[simp] theorem zaia{h:Heap}(k:IntKind)(n:Int):Zb5 h (.i k n)=some (.i k n):=rfl
@[simp] theorem zak8{h:Heap}(k:IntKind)(n:Int):frz h (.i k n)=some (.i k n):=rfl
@[simp] theorem z6l(k:IntKind)(n:Int):Zaz (.i k n)=true:=rfl
@[simp] theorem z6m(k:IntKind)(n:Int):Za0 (.i k n)=true:=rfl
@[simp] theorem zaab(k:IntKind)(n:Int):scalar (.i k n)=true:=rfl
@[simp] theorem zadq(k:IntKind)(n:Int):pureC (.i k n)=true:=rfl
@[simp] theorem zadr(k:IntKind)(n:Int):noRef (.i k n)=true:=rfl
@[simp] theorem zaib(k:IntKind)(n:Int):refs (.i k n)=[]:=rfl
@[simp] theorem zak9(k:IntKind)(n:Int):rfC (.i k n)=[]:=rfl
@[simp] theorem zala(k:IntKind)(n:Int):rf1 (.i k n)=[]:=rfl
@[simp] theorem zalb(k:IntKind)(n:Int):rfA (.i k n)=[]:=rfl
@[simp] theorem zalc{σn:BId→BId}{σg:Nat→Nat}(k:IntKind)(n:Int):rlC σn σg (.i k n)=(.i k n):=rfl
@[simp] theorem zald{σn:BId→BId}{σg:Nat→Nat}(k:IntKind)(n:Int):rl1 σn σg (.i k n)=(.i k n):=rfl
@[simp] theorem zale{σn:BId→BId}{σg:Nat→Nat}(k:IntKind)(n:Int):rlA σn σg (.i k n)=(.i k n):=rfl
@[simp] theorem zaac{h:Heap}(k:IntKind)(n:Int):Zbd h (.i k n)=true:=rfl
@[simp] theorem zaad{h:Heap}(k:IntKind)(n:Int):Zbn h (.i k n)=true:=rfl
@[simp] theorem zads{h:Heap}(k:IntKind)(n:Int):Zcg h (.i k n)=true:=rfl
@[simp] theorem z6n(k:IntKind)(n:Int):cellsOf (.i k n)=some [.i k n]:=rfl
@[simp] theorem zalf(t:Bool):wkA (.b t)=.b t:=rfl
@[simp] theorem zaic{h:Heap}(t:Bool):Za7 h (.b t)=some (.b t):=rfl
@[simp] theorem zaid{h:Heap}(t:Bool):Zb5 h (.b t)=some (.b t):=rfl
@[simp] theorem zalg{h:Heap}(t:Bool):frz h (.b t)=some (.b t):=rfl
@[simp] theorem z6o(t:Bool):Zaz (.b t)=true:=rfl
@[simp] theorem z6p(t:Bool):Za0 (.b t)=true:=rfl
@[simp] theorem zaae(t:Bool):scalar (.b t)=true:=rfl
@[simp] theorem zadt(t:Bool):pureC (.b t)=true:=rfl
@[simp] theorem zadu(t:Bool):noRef (.b t)=true:=rfl
@[simp] theorem zaie(t:Bool):refs (.b t)=[]:=rfl
@[simp] theorem zalh(t:Bool):rfC (.b t)=[]:=rfl
@[simp] theorem zali(t:Bool):rf1 (.b t)=[]:=rfl
@[simp] theorem zalj(t:Bool):rfA (.b t)=[]:=rfl
@[simp] theorem zalk{σn:BId→BId}{σg:Nat→Nat}(t:Bool):rlC σn σg (.b t)=(.b t):=rfl
@[simp] theorem zall{σn:BId→BId}{σg:Nat→Nat}(t:Bool):rl1 σn σg (.b t)=(.b t):=rfl
@[simp] theorem zalm{σn:BId→BId}{σg:Nat→Nat}(t:Bool):rlA σn σg (.b t)=(.b t):=rfl
@[simp] theorem zaaf{h:Heap}(t:Bool):Zbd h (.b t)=true:=rfl
@[simp] theorem zaag{h:Heap}(t:Bool):Zbn h (.b t)=true:=rfl
@[simp] theorem zadv{h:Heap}(t:Bool):Zcg h (.b t)=true:=rfl
@[simp] theorem z6q(t:Bool):cellsOf (.b t)=some [.b t]:=rfl
@[simp] theorem zaln(l:List UInt8):wkA (.s l)=.s l:=rfl
@[simp] theorem zaif{h:Heap}(l:List UInt8):Za7 h (.s l)=some (.s l):=rfl
@[simp] theorem zaig{h:Heap}(l:List UInt8):Zb5 h (.s l)=some (.s l):=rfl
@[simp] theorem zalo{h:Heap}(l:List UInt8):frz h (.s l)=some (.s l):=rfl
@[simp] theorem z6r(l:List UInt8):Zaz (.s l)=true:=rfl
@[simp] theorem z6s(l:List UInt8):Za0 (.s l)=true:=rfl
@[simp] theorem zaah(l:List UInt8):scalar (.s l)=true:=rfl
@[simp] theorem zadw(l:List UInt8):pureC (.s l)=true:=rfl
@[simp] theorem zadx(l:List UInt8):noRef (.s l)=true:=rfl
@[simp] theorem zaih(l:List UInt8):refs (.s l)=[]:=rfl
@[simp] theorem zalp(l:List UInt8):rfC (.s l)=[]:=rfl
@[simp] theorem zalq(l:List UInt8):rf1 (.s l)=[]:=rfl
@[simp] theorem zalr(l:List UInt8):rfA (.s l)=[]:=rfl
@[simp] theorem zals{σn:BId→BId}{σg:Nat→Nat}(l:List UInt8):rlC σn σg (.s l)=(.s l):=rfl
@[simp] theorem zalt{σn:BId→BId}{σg:Nat→Nat}(l:List UInt8):rl1 σn σg (.s l)=(.s l):=rfl
@[simp] theorem zalu{σn:BId→BId}{σg:Nat→Nat}(l:List UInt8):rlA σn σg (.s l)=(.s l):=rfl
@[simp] theorem zaai{h:Heap}(l:List UInt8):Zbd h (.s l)=true:=rfl
@[simp] theorem zaaj{h:Heap}(l:List UInt8):Zbn h (.s l)=true:=rfl
@[simp] theorem zady{h:Heap}(l:List UInt8):Zcg h (.s l)=true:=rfl
@[simp] theorem z6t(l:List UInt8):cellsOf (.s l)=some [.s l]:=rfl
@[simp] theorem zadz(v:Value):wkA (.raw v)=.raw v:=rfl
@[simp] theorem zaak{h:Heap}(v:Value):Za7 h (.raw v)=some (.raw v):=rfl
@[simp] theorem zaal{h:Heap}(v:Value):Zb5 h (.raw v)=some (.raw v):=rfl
@[simp] theorem zad0{h:Heap}(v:Value):frz h (.raw v)=some (.raw v):=rfl
@[simp] theorem z1n(v:Value):Zaz (.raw v)=false:=rfl
@[simp] theorem z1o(v:Value):Za0 (.raw v)=false:=rfl
@[simp] theorem z4n(v:Value):scalar (.raw v)=false:=rfl
@[simp] theorem z6u(v:Value):pureC (.raw v)=true:=rfl
@[simp] theorem z6v(v:Value):noRef (.raw v)=true:=rfl
@[simp] theorem zaam(v:Value):refs (.raw v)=[]:=rfl
@[simp] theorem zad1(v:Value):rfC (.raw v)=[]:=rfl
@[simp] theorem zad2(v:Value):rf1 (.raw v)=[]:=rfl
@[simp] theorem zad3(v:Value):rfA (.raw v)=[]:=rfl
@[simp] theorem zad4{σn:BId→BId}{σg:Nat→Nat}(v:Value):rlC σn σg (.raw v)=(.raw v):=rfl
@[simp] theorem zad5{σn:BId→BId}{σg:Nat→Nat}(v:Value):rl1 σn σg (.raw v)=(.raw v):=rfl
@[simp] theorem zad6{σn:BId→BId}{σg:Nat→Nat}(v:Value):rlA σn σg (.raw v)=(.raw v):=rfl
@[simp] theorem z4o{h:Heap}(v:Value):Zbd h (.raw v)=true:=rfl
@[simp] theorem z4p{h:Heap}(v:Value):Zbn h (.raw v)=true:=rfl
@[simp] theorem z6w{h:Heap}(v:Value):Zcg h (.raw v)=true:=rfl
@[simp] theorem zad7{h:Heap}(els:List (List AV))(f:Fl):Za7 h (.sl els f)=some (.sl els f):=rfl
@[simp] theorem zad8{h:Heap}(els:List (List AV))(f:Fl):Zb5 h (.sl els f)=some (.sl els f):=rfl
@[simp] theorem zaii{h:Heap}(els:List (List AV))(f:Fl):frz h (.sl els f)=some (.sl els f):=rfl
@[simp] theorem z4q(els:List (List AV))(f:Fl):Zaz (.sl els f)=false:=rfl
@[simp] theorem z4r(els:List (List AV))(f:Fl):Za0 (.sl els f)=false:=rfl
@[simp] theorem z6x(els:List (List AV))(f:Fl):scalar (.sl els f)=false:=rfl
@[simp] theorem zaan(els:List (List AV))(f:Fl):pureC (.sl els f)=true:=rfl
@[simp] theorem zaao(els:List (List AV))(f:Fl):noRef (.sl els f)=true:=rfl
@[simp] theorem zad9(els:List (List AV))(f:Fl):refs (.sl els f)=[]:=rfl
@[simp] theorem zaij(els:List (List AV))(f:Fl):rfC (.sl els f)=[]:=rfl
@[simp] theorem zaik(els:List (List AV))(f:Fl):rf1 (.sl els f)=[]:=rfl
@[simp] theorem zail(els:List (List AV))(f:Fl):rfA (.sl els f)=[]:=rfl
@[simp] theorem zaim{σn:BId→BId}{σg:Nat→Nat}(els:List (List AV))(f:Fl):rlC σn σg (.sl els f)=(.sl els f):=rfl
@[simp] theorem zain{σn:BId→BId}{σg:Nat→Nat}(els:List (List AV))(f:Fl):rl1 σn σg (.sl els f)=(.sl els f):=rfl
@[simp] theorem zaio{σn:BId→BId}{σg:Nat→Nat}(els:List (List AV))(f:Fl):rlA σn σg (.sl els f)=(.sl els f):=rfl
@[simp] theorem z6y{h:Heap}(els:List (List AV))(f:Fl):Zbd h (.sl els f)=true:=rfl
@[simp] theorem z6z{h:Heap}(els:List (List AV))(f:Fl):Zbn h (.sl els f)=true:=rfl
@[simp] theorem zaap{h:Heap}(els:List (List AV))(f:Fl):Zcg h (.sl els f)=true:=rfl
@[simp] theorem z4s(els:List (List AV))(f:Fl):cellsOf (.sl els f)=some [.sl els f]:=rfl
@[simp] theorem zaip(cs:List AV)(o:Nat):wkA (.ep cs o)=.ep cs o:=rfl
@[simp] theorem zaea{h:Heap}(cs:List AV)(o:Nat):Za7 h (.ep cs o)=some (.ep cs o):=rfl
@[simp] theorem zaeb{h:Heap}(cs:List AV)(o:Nat):Zb5 h (.ep cs o)=some (.ep cs o):=rfl
@[simp] theorem zaiq{h:Heap}(cs:List AV)(o:Nat):frz h (.ep cs o)=some (.ep cs o):=rfl
@[simp] theorem z4t(cs:List AV)(o:Nat):Zaz (.ep cs o)=false:=rfl
@[simp] theorem z4u(cs:List AV)(o:Nat):Za0 (.ep cs o)=false:=rfl
@[simp] theorem z60(cs:List AV)(o:Nat):scalar (.ep cs o)=false:=rfl
@[simp] theorem zaaq(cs:List AV)(o:Nat):pureC (.ep cs o)=true:=rfl
@[simp] theorem zaar(cs:List AV)(o:Nat):noRef (.ep cs o)=true:=rfl
@[simp] theorem zaec(cs:List AV)(o:Nat):refs (.ep cs o)=[]:=rfl
@[simp] theorem zair(cs:List AV)(o:Nat):rfC (.ep cs o)=[]:=rfl
@[simp] theorem zais(cs:List AV)(o:Nat):rf1 (.ep cs o)=[]:=rfl
@[simp] theorem zait(cs:List AV)(o:Nat):rfA (.ep cs o)=[]:=rfl
@[simp] theorem zaiu{σn:BId→BId}{σg:Nat→Nat}(cs:List AV)(o:Nat):rlC σn σg (.ep cs o)=(.ep cs o):=rfl
@[simp] theorem zaiv{σn:BId→BId}{σg:Nat→Nat}(cs:List AV)(o:Nat):rl1 σn σg (.ep cs o)=(.ep cs o):=rfl
@[simp] theorem zaiw{σn:BId→BId}{σg:Nat→Nat}(cs:List AV)(o:Nat):rlA σn σg (.ep cs o)=(.ep cs o):=rfl
@[simp] theorem z61{h:Heap}(cs:List AV)(o:Nat):Zbd h (.ep cs o)=true:=rfl
@[simp] theorem z62{h:Heap}(cs:List AV)(o:Nat):Zbn h (.ep cs o)=true:=rfl
@[simp] theorem zaas{h:Heap}(cs:List AV)(o:Nat):Zcg h (.ep cs o)=true:=rfl
@[simp] theorem z4v(cs:List AV)(o:Nat):cellsOf (.ep cs o)=some [.ep cs o]:=rfl
@[simp] theorem zaix(n:Nat):wkA (u8 n)=u8 n:=rfl
@[simp] theorem zaed{h:Heap}(n:Nat):Za7 h (u8 n)=some (u8 n):=rfl
@[simp] theorem zaee{h:Heap}(n:Nat):Zb5 h (u8 n)=some (u8 n):=rfl
@[simp] theorem zaiy{h:Heap}(n:Nat):frz h (u8 n)=some (u8 n):=rfl
@[simp] theorem z4w(n:Nat):Zaz (u8 n)=true:=rfl
@[simp] theorem z4x(n:Nat):Za0 (u8 n)=true:=rfl
@[simp] theorem z63(n:Nat):scalar (u8 n)=true:=rfl
@[simp] theorem zaat(n:Nat):pureC (u8 n)=true:=rfl
@[simp] theorem zaau(n:Nat):noRef (u8 n)=true:=rfl
@[simp] theorem zaef(n:Nat):refs (u8 n)=[]:=rfl
@[simp] theorem zaiz(n:Nat):rfC (u8 n)=[]:=rfl
@[simp] theorem zai0(n:Nat):rf1 (u8 n)=[]:=rfl
@[simp] theorem zai1(n:Nat):rfA (u8 n)=[]:=rfl
@[simp] theorem zai2{σn:BId→BId}{σg:Nat→Nat}(n:Nat):rlC σn σg (u8 n)=(u8 n):=rfl
@[simp] theorem zai3{σn:BId→BId}{σg:Nat→Nat}(n:Nat):rl1 σn σg (u8 n)=(u8 n):=rfl
@[simp] theorem zai4{σn:BId→BId}{σg:Nat→Nat}(n:Nat):rlA σn σg (u8 n)=(u8 n):=rfl
@[simp] theorem z64{h:Heap}(n:Nat):Zbd h (u8 n)=true:=rfl
@[simp] theorem z65{h:Heap}(n:Nat):Zbn h (u8 n)=true:=rfl
@[simp] theorem zaav{h:Heap}(n:Nat):Zcg h (u8 n)=true:=rfl
@[simp] theorem z4y(n:Nat):cellsOf (u8 n)=some [u8 n]:=rfl
@[simp] theorem zaeg(n:Nat):wkA (u32 n)=u32 n:=rfl
@[simp] theorem zaaw{h:Heap}(n:Nat):Za7 h (u32 n)=some (u32 n):=rfl
@[simp] theorem zaax{h:Heap}(n:Nat):Zb5 h (u32 n)=some (u32 n):=rfl
@[simp] theorem zaeh{h:Heap}(n:Nat):frz h (u32 n)=some (u32 n):=rfl
@[simp] theorem z1p(n:Nat):Zaz (u32 n)=true:=rfl
@[simp] theorem z1q(n:Nat):Za0 (u32 n)=true:=rfl
@[simp] theorem z4z(n:Nat):scalar (u32 n)=true:=rfl
@[simp] theorem z66(n:Nat):pureC (u32 n)=true:=rfl
@[simp] theorem z67(n:Nat):noRef (u32 n)=true:=rfl
@[simp] theorem zaay(n:Nat):refs (u32 n)=[]:=rfl
@[simp] theorem zaei(n:Nat):rfC (u32 n)=[]:=rfl
@[simp] theorem zaej(n:Nat):rf1 (u32 n)=[]:=rfl
@[simp] theorem zaek(n:Nat):rfA (u32 n)=[]:=rfl
@[simp] theorem zael{σn:BId→BId}{σg:Nat→Nat}(n:Nat):rlC σn σg (u32 n)=(u32 n):=rfl
@[simp] theorem zaem{σn:BId→BId}{σg:Nat→Nat}(n:Nat):rl1 σn σg (u32 n)=(u32 n):=rfl
@[simp] theorem zaen{σn:BId→BId}{σg:Nat→Nat}(n:Nat):rlA σn σg (u32 n)=(u32 n):=rfl
@[simp] theorem z40{h:Heap}(n:Nat):Zbd h (u32 n)=true:=rfl
@[simp] theorem z41{h:Heap}(n:Nat):Zbn h (u32 n)=true:=rfl
@[simp] theorem z68{h:Heap}(n:Nat):Zcg h (u32 n)=true:=rfl
@[simp] theorem z1r(n:Nat):cellsOf (u32 n)=some [u32 n]:=rfl
@[simp] theorem zaeo(n:Nat):wkA (u64 n)=u64 n:=rfl
@[simp] theorem zaaz{h:Heap}(n:Nat):Za7 h (u64 n)=some (u64 n):=rfl
@[simp] theorem zaa0{h:Heap}(n:Nat):Zb5 h (u64 n)=some (u64 n):=rfl
@[simp] theorem zaep{h:Heap}(n:Nat):frz h (u64 n)=some (u64 n):=rfl
@[simp] theorem z1s(n:Nat):Zaz (u64 n)=true:=rfl
@[simp] theorem z1t(n:Nat):Za0 (u64 n)=true:=rfl
@[simp] theorem z42(n:Nat):scalar (u64 n)=true:=rfl
@[simp] theorem z69(n:Nat):pureC (u64 n)=true:=rfl
@[simp] theorem z7a(n:Nat):noRef (u64 n)=true:=rfl
@[simp] theorem zaa1(n:Nat):refs (u64 n)=[]:=rfl
@[simp] theorem zaeq(n:Nat):rfC (u64 n)=[]:=rfl
@[simp] theorem zaer(n:Nat):rf1 (u64 n)=[]:=rfl
@[simp] theorem zaes(n:Nat):rfA (u64 n)=[]:=rfl
@[simp] theorem zaet{σn:BId→BId}{σg:Nat→Nat}(n:Nat):rlC σn σg (u64 n)=(u64 n):=rfl
@[simp] theorem zaeu{σn:BId→BId}{σg:Nat→Nat}(n:Nat):rl1 σn σg (u64 n)=(u64 n):=rfl
@[simp] theorem zaev{σn:BId→BId}{σg:Nat→Nat}(n:Nat):rlA σn σg (u64 n)=(u64 n):=rfl
@[simp] theorem z43{h:Heap}(n:Nat):Zbd h (u64 n)=true:=rfl
@[simp] theorem z44{h:Heap}(n:Nat):Zbn h (u64 n)=true:=rfl
@[simp] theorem z7b{h:Heap}(n:Nat):Zcg h (u64 n)=true:=rfl
@[simp] theorem z1u(n:Nat):cellsOf (u64 n)=some [u64 n]:=rfl
@[simp] theorem zaa2 :wkA .dead=.dead:=rfl
@[simp] theorem z7c{h:Heap} :Za7 h .dead=some .dead:=rfl
@[simp] theorem z7d{h:Heap} :Zb5 h .dead=some .dead:=rfl
@[simp] theorem zaa3{h:Heap} :frz h .dead=some .dead:=rfl
@[simp] theorem z0i :Zaz .dead=false:=rfl
@[simp] theorem z0j :Za0 .dead=false:=rfl
@[simp] theorem z1v :scalar .dead=false:=rfl
@[simp] theorem z45 :pureC .dead=true:=rfl
@[simp] theorem z46 :noRef .dead=true:=rfl
@[simp] theorem z7e :refs .dead=[]:=rfl
@[simp] theorem zaa4 :rfC .dead=[]:=rfl
@[simp] theorem zaa5 :rf1 .dead=[]:=rfl
@[simp] theorem zaa6 :rfA .dead=[]:=rfl
@[simp] theorem zaa7{σn:BId→BId}{σg:Nat→Nat} :rlC σn σg .dead=.dead:=rfl
@[simp] theorem zaa8{σn:BId→BId}{σg:Nat→Nat} :rl1 σn σg .dead=.dead:=rfl
@[simp] theorem zaa9{σn:BId→BId}{σg:Nat→Nat} :rlA σn σg .dead=.dead:=rfl
@[simp] theorem z1w{h:Heap} :Zbd h .dead=true:=rfl
@[simp] theorem z1x{h:Heap} :Zbn h .dead=true:=rfl
@[simp] theorem z47{h:Heap} :Zcg h .dead=true:=rfl
@[simp] theorem zai5(els:List (List AV))(f:Fl):wkA (.sl els f)=.sl (wkL els) .an:=rfl
@[simp] theorem zaew(cs:List AV):wkA (.agg cs)=.agg (wkR cs):=rfl
@[simp] theorem zaex(cs:List AV):wkA (.tup cs)=.tup (wkR cs):=rfl
@[simp] theorem zai6(id:BId)(g z off n:Nat):wkA (.bs id g z off n)=.bs id g z off n:=rfl
@[simp] theorem zaey(id:BId)(g z i o:Nat):wkA (.ptr id g z i o)=.ptr id g z i o:=rfl
@[simp] theorem zaez(f:Nat)(id:BId)(g z i o:Nat):wkA (.fnp f id g z i o)=.fnp f id g z i o:=rfl
@[simp] theorem zae0(f:Nat)(x:AV):wkA (.fnv f x)=.fnv f (wkA x):=rfl
@[simp] theorem zae1 :wkR []=[]:=rfl
@[simp] theorem zaba(c:AV)(r:List AV):wkR (c::r)=wkA c::wkR r:=rfl
@[simp] theorem zae2 :wkL []=[]:=rfl
@[simp] theorem zabb(c:List AV)(r:List (List AV)):wkL (c::r)=wkR c::wkL r:=rfl
@[simp] theorem zae3{h:Heap}(id:BId)(g z off n:Nat):Zb5 h (.bs id g z off n)=(Zaf h id g z).bind fun bx=>if bx.kind≠.str∧off+n≤bx.els.length then some (.sl ((bx.els.drop off).take n) .an) else none:=rfl
@[simp] theorem zabc{h:Heap}(id:BId)(g z i o:Nat):Zb5 h (.ptr id g z i o)=some .dead:=rfl
@[simp] theorem zabd{h:Heap}(f:Nat)(id:BId)(g z i o:Nat):Zb5 h (.fnp f id g z i o)=some .dead:=rfl
@[simp] theorem zabe{h:Heap}(f:Nat)(x:AV):Zb5 h (.fnv f x)=some (.fnv f x):=rfl
@[simp] theorem zae4{h:Heap}(id:BId)(g z off n:Nat):Za7 h (.bs id g z off n)=(Zaf h id g z).bind fun bx=>if bx.kind≠.str∧off+n≤bx.els.length then some (.sl ((bx.els.drop off).take n) .an) else none:=rfl
@[simp] theorem zabf{h:Heap}(id:BId)(g z i o:Nat):Za7 h (.ptr id g z i o)=some .dead:=rfl
@[simp] theorem zabg{h:Heap}(f:Nat)(id:BId)(g z i o:Nat):Za7 h (.fnp f id g z i o)=some .dead:=rfl
@[simp] theorem zabh{h:Heap}(f:Nat)(x:AV):Za7 h (.fnv f x)=some (.fnv f x):=rfl
@[simp] theorem zai7{h:Heap}(id:BId)(g z off n:Nat):frz h (.bs id g z off n)=(Zaf h id g z).bind fun bx=>if bx.kind≠.str∧off+n≤bx.els.length then some (.sl ((bx.els.drop off).take n) .an) else none:=rfl
@[simp] theorem zae5{h:Heap}(id:BId)(g z i o:Nat):frz h (.ptr id g z i o)=some .dead:=rfl
@[simp] theorem zae6{h:Heap}(f:Nat)(id:BId)(g z i o:Nat):frz h (.fnp f id g z i o)=some .dead:=rfl
@[simp] theorem zae7{h:Heap}(f:Nat)(x:AV):frz h (.fnv f x)=some (.fnv f x):=rfl
@[simp] theorem zabi{h:Heap}(cs:List AV):Za7 h (.agg cs)=(cs.mapM (Zb5 h)).map .agg:=rfl
@[simp] theorem zae8{h:Heap}(cs:List AV):frz h (.agg cs)=(cs.mapM (Zb5 h)).map .agg:=rfl
@[simp] theorem zae9{h:Heap}(cs:List AV):frz h (.tup cs)=(cs.mapM (Za7 h)).map .tup:=rfl
@[simp] theorem z48(id:BId)(g z off n:Nat):Zaz (.bs id g z off n)=false:=rfl
@[simp] theorem z1y(id:BId)(g z i o:Nat):Zaz (.ptr id g z i o)=false:=rfl
@[simp] theorem z1z(f:Nat)(id:BId)(g z i o:Nat):Zaz (.fnp f id g z i o)=false:=rfl
@[simp] theorem z10(f:Nat)(x:AV):Zaz (.fnv f x)=false:=rfl
@[simp] theorem z49(id:BId)(g z off n:Nat):Za0 (.bs id g z off n)=false:=rfl
@[simp] theorem z11(id:BId)(g z i o:Nat):Za0 (.ptr id g z i o)=false:=rfl
@[simp] theorem z12(f:Nat)(id:BId)(g z i o:Nat):Za0 (.fnp f id g z i o)=false:=rfl
@[simp] theorem z13(f:Nat)(x:AV):Za0 (.fnv f x)=false:=rfl
@[simp] theorem z7f(id:BId)(g z off n:Nat):scalar (.bs id g z off n)=false:=rfl
@[simp] theorem z5a(id:BId)(g z i o:Nat):scalar (.ptr id g z i o)=false:=rfl
@[simp] theorem z5b(f:Nat)(id:BId)(g z i o:Nat):scalar (.fnp f id g z i o)=false:=rfl
@[simp] theorem z5c(f:Nat)(x:AV):scalar (.fnv f x)=false:=rfl
@[simp] theorem z14(cs:List AV):Za0 (.agg cs)=cs.all Zaz:=rfl
@[simp] theorem z5d(cs:List AV):scalar (.agg cs)=cs.all Zaz:=rfl
@[simp] theorem z5e(cs:List AV):scalar (.tup cs)=cs.all Za0:=rfl
@[simp] theorem zabj(id:BId)(g z off n:Nat):pureC (.bs id g z off n)=false:=rfl
@[simp] theorem z7g(id:BId)(g z i o:Nat):pureC (.ptr id g z i o)=false:=rfl
@[simp] theorem z7h(f:Nat)(id:BId)(g z i o:Nat):pureC (.fnp f id g z i o)=false:=rfl
@[simp] theorem z7i(f:Nat)(x:AV):pureC (.fnv f x)=true:=rfl
@[simp] theorem z7j(cs:List AV):pureC (.agg cs)=false:=rfl
@[simp] theorem z7k(cs:List AV):pureC (.tup cs)=false:=rfl
@[simp] theorem zabk(id:BId)(g z off n:Nat):noRef (.bs id g z off n)=false:=rfl
@[simp] theorem z7l(id:BId)(g z i o:Nat):noRef (.ptr id g z i o)=false:=rfl
@[simp] theorem z7m(f:Nat)(id:BId)(g z i o:Nat):noRef (.fnp f id g z i o)=false:=rfl
@[simp] theorem z7n(f:Nat)(x:AV):noRef (.fnv f x)=true:=rfl
@[simp] theorem z7o(cs:List AV):noRef (.agg cs)=cs.all pureC:=rfl
@[simp] theorem z7p(cs:List AV):noRef (.tup cs)=false:=rfl
@[simp] theorem zafa(id:BId)(g z off n:Nat):refs (.bs id g z off n)=[id]:=rfl
@[simp] theorem zabl(id:BId)(g z i o:Nat):refs (.ptr id g z i o)=[]:=rfl
@[simp] theorem zabm(f:Nat)(id:BId)(g z i o:Nat):refs (.fnp f id g z i o)=[]:=rfl
@[simp] theorem zabn(f:Nat)(x:AV):refs (.fnv f x)=[]:=rfl
@[simp] theorem zai8(id:BId)(g z off n:Nat):rfC (.bs id g z off n)=[id]:=rfl
@[simp] theorem zafb(id:BId)(g z i o:Nat):rfC (.ptr id g z i o)=[id]:=rfl
@[simp] theorem zafc(f:Nat)(id:BId)(g z i o:Nat):rfC (.fnp f id g z i o)=[id]:=rfl
@[simp] theorem zafd(f:Nat)(x:AV):rfC (.fnv f x)=[]:=rfl
@[simp] theorem zai9(id:BId)(g z off n:Nat):rf1 (.bs id g z off n)=[id]:=rfl
@[simp] theorem zafe(id:BId)(g z i o:Nat):rf1 (.ptr id g z i o)=[id]:=rfl
@[simp] theorem zaff(f:Nat)(id:BId)(g z i o:Nat):rf1 (.fnp f id g z i o)=[id]:=rfl
@[simp] theorem zafg(f:Nat)(x:AV):rf1 (.fnv f x)=[]:=rfl
@[simp] theorem zaja(id:BId)(g z off n:Nat):rfA (.bs id g z off n)=[id]:=rfl
@[simp] theorem zafh(id:BId)(g z i o:Nat):rfA (.ptr id g z i o)=[id]:=rfl
@[simp] theorem zafi(f:Nat)(id:BId)(g z i o:Nat):rfA (.fnp f id g z i o)=[id]:=rfl
@[simp] theorem zafj(f:Nat)(x:AV):rfA (.fnv f x)=[]:=rfl
def Zfh:AV→List BId
 | .bs id .. => [id]
 | _=>[]
@[simp] theorem zafk(cs:List AV):rf1 (.agg cs)=cs.flatMap rfC:=rfl
@[simp] theorem zafl(cs:List AV):rfA (.agg cs)=cs.flatMap rfC:=rfl
@[simp] theorem zafm(cs:List AV):rfA (.tup cs)=cs.flatMap rf1:=rfl
@[simp] theorem zajb{σn:BId→BId}{σg:Nat→Nat}(id:BId)(g z off n:Nat):rlC σn σg (.bs id g z off n)=.bs (σn id) (σg g) z off n:=rfl
@[simp] theorem zafn{σn:BId→BId}{σg:Nat→Nat}(id:BId)(g z i o:Nat):rlC σn σg (.ptr id g z i o)=.ptr (σn id) (σg g) z i o:=rfl
@[simp] theorem zafo{σn:BId→BId}{σg:Nat→Nat}(f:Nat)(id:BId)(g z i o:Nat):rlC σn σg (.fnp f id g z i o)=.fnp f (σn id) (σg g) z i o:=rfl
@[simp] theorem zafp{σn:BId→BId}{σg:Nat→Nat}(f:Nat)(x:AV):rlC σn σg (.fnv f x)=.fnv f x:=rfl
@[simp] theorem zajc{σn:BId→BId}{σg:Nat→Nat}(id:BId)(g z off n:Nat):rl1 σn σg (.bs id g z off n)=.bs (σn id) (σg g) z off n:=rfl
@[simp] theorem zafq{σn:BId→BId}{σg:Nat→Nat}(id:BId)(g z i o:Nat):rl1 σn σg (.ptr id g z i o)=.ptr (σn id) (σg g) z i o:=rfl
@[simp] theorem zafr{σn:BId→BId}{σg:Nat→Nat}(f:Nat)(id:BId)(g z i o:Nat):rl1 σn σg (.fnp f id g z i o)=.fnp f (σn id) (σg g) z i o:=rfl
@[simp] theorem zafs{σn:BId→BId}{σg:Nat→Nat}(f:Nat)(x:AV):rl1 σn σg (.fnv f x)=.fnv f x:=rfl
@[simp] theorem zajd{σn:BId→BId}{σg:Nat→Nat}(id:BId)(g z off n:Nat):rlA σn σg (.bs id g z off n)=.bs (σn id) (σg g) z off n:=rfl
@[simp] theorem zaft{σn:BId→BId}{σg:Nat→Nat}(id:BId)(g z i o:Nat):rlA σn σg (.ptr id g z i o)=.ptr (σn id) (σg g) z i o:=rfl
@[simp] theorem zafu{σn:BId→BId}{σg:Nat→Nat}(f:Nat)(id:BId)(g z i o:Nat):rlA σn σg (.fnp f id g z i o)=.fnp f (σn id) (σg g) z i o:=rfl
@[simp] theorem zafv{σn:BId→BId}{σg:Nat→Nat}(f:Nat)(x:AV):rlA σn σg (.fnv f x)=.fnv f x:=rfl
@[simp] theorem zafw{σn:BId→BId}{σg:Nat→Nat}(cs:List AV):rl1 σn σg (.agg cs)=.agg (cs.map (rlC σn σg)):=rfl
@[simp] theorem zafx{σn:BId→BId}{σg:Nat→Nat}(cs:List AV):rlA σn σg (.agg cs)=.agg (cs.map (rlC σn σg)):=rfl
@[simp] theorem zafy{σn:BId→BId}{σg:Nat→Nat}(cs:List AV):rlA σn σg (.tup cs)=.tup (cs.map (rl1 σn σg)):=rfl
@[simp] theorem z7q{h:Heap}(id:BId)(g z off n:Nat):Zbd h (.bs id g z off n)=(Zaf h id g z).isSome:=rfl
@[simp] theorem z5f{h:Heap}(id:BId)(g z i o:Nat):Zbd h (.ptr id g z i o)=(Zaf h id g z).isSome:=rfl
@[simp] theorem z5g{h:Heap}(f:Nat)(id:BId)(g z i o:Nat):Zbd h (.fnp f id g z i o)=(Zaf h id g z).isSome:=rfl
@[simp] theorem z5h{h:Heap}(f:Nat)(x:AV):Zbd h (.fnv f x)=true:=rfl
@[simp] theorem z7r{h:Heap}(id:BId)(g z off n:Nat):Zbn h (.bs id g z off n)=(Zaf h id g z).isSome:=rfl
@[simp] theorem z5i{h:Heap}(id:BId)(g z i o:Nat):Zbn h (.ptr id g z i o)=(Zaf h id g z).isSome:=rfl
@[simp] theorem z5j{h:Heap}(f:Nat)(id:BId)(g z i o:Nat):Zbn h (.fnp f id g z i o)=(Zaf h id g z).isSome:=rfl
@[simp] theorem z5k{h:Heap}(f:Nat)(x:AV):Zbn h (.fnv f x)=true:=rfl
@[simp] theorem zabo{h:Heap}(id:BId)(g z off n:Nat):Zcg h (.bs id g z off n)=(Zaf h id g z).isSome:=rfl
@[simp] theorem z7s{h:Heap}(id:BId)(g z i o:Nat):Zcg h (.ptr id g z i o)=(Zaf h id g z).isSome:=rfl
@[simp] theorem z7t{h:Heap}(f:Nat)(id:BId)(g z i o:Nat):Zcg h (.fnp f id g z i o)=(Zaf h id g z).isSome:=rfl
@[simp] theorem z7u{h:Heap}(f:Nat)(x:AV):Zcg h (.fnv f x)=true:=rfl
@[simp] theorem z5l{h:Heap}(cs:List AV):Zbn h (.agg cs)=cs.all (Zbd h):=rfl
@[simp] theorem z7v{h:Heap}(cs:List AV):Zcg h (.agg cs)=cs.all (Zbd h):=rfl
@[simp] theorem z7w{h:Heap}(cs:List AV):Zcg h (.tup cs)=cs.all (Zbn h):=rfl
@[simp] theorem z5m(id:BId)(g z off n:Nat):cellsOf (.bs id g z off n)=some [.bs id g z off n]:=rfl
@[simp] theorem z15(id:BId)(g z i o:Nat):cellsOf (.ptr id g z i o)=some [.ptr id g z i o]:=rfl
@[simp] theorem z16(f:Nat)(id:BId)(g z i o:Nat):cellsOf (.fnp f id g z i o)=some [.fnp f id g z i o]:=rfl
@[simp] theorem z17(f:Nat)(x:AV):cellsOf (.fnv f x)=some [.fnv f x]:=rfl
@[simp] theorem z18(cs:List AV):cellsOf (.agg cs)=some cs:=rfl
@[simp] theorem zaje(k:IntKind)(n:Int):Zfh (.i k n)=[]:=rfl
@[simp] theorem zajf(t:Bool):Zfh (.b t)=[]:=rfl
@[simp] theorem zajg(l:List UInt8):Zfh (.s l)=[]:=rfl
@[simp] theorem zabp(v:Value):Zfh (.raw v)=[]:=rfl
@[simp] theorem zafz(els:List (List AV))(f:Fl):Zfh (.sl els f)=[]:=rfl
@[simp] theorem zaf0(cs:List AV)(o:Nat):Zfh (.ep cs o)=[]:=rfl
@[simp] theorem zaf1(n:Nat):Zfh (u8 n)=[]:=rfl
@[simp] theorem zabq(n:Nat):Zfh (u32 n)=[]:=rfl
@[simp] theorem zabr(n:Nat):Zfh (u64 n)=[]:=rfl
@[simp] theorem z7x :Zfh .dead=[]:=rfl
@[simp] theorem zaf2(id:BId)(g z off n:Nat):Zfh (.bs id g z off n)=[id]:=rfl
@[simp] theorem zabs(id:BId)(g z i o:Nat):Zfh (.ptr id g z i o)=[]:=rfl
@[simp] theorem zabt(f:Nat)(id:BId)(g z i o:Nat):Zfh (.fnp f id g z i o)=[]:=rfl
@[simp] theorem zabu(f:Nat)(x:AV):Zfh (.fnv f x)=[]:=rfl
@[simp] theorem zabv(cs:List AV):refs (.agg cs)=cs.flatMap Zfh:=rfl
@[simp] theorem z0k:refs (.tup [])=[]:=rfl
@[simp] theorem zabw(h:Heap)(id:BId)(g z:Nat):Zaf h id g z=(match h.lookup id with | some bx=>if bx.gen=g∧bx.z=z then some bx else none | none=>none):=rfl
@[simp] theorem z7y(x:AV):wkIf true x=x:=rfl
@[simp] theorem z5n(x:AV):wkIf false x=wkA x:=rfl
theorem zd0(n:Nat):IntKind.wrap .u32 (n:Int)=((n%4294967296:Nat):Int):=by
 simp[IntKind.wrap,IntKind.signed,IntKind.bits]
theorem zeu(n:Nat):IntKind.wrap .u64 (n:Int)=((n%18446744073709551616:Nat):Int):=by
 simp[IntKind.wrap,IntKind.signed,IntKind.bits]
theorem z19(n:Nat):IntKind.wrap .u8 (n:Int)=((n%256:Nat):Int):=by
 simp[IntKind.wrap,IntKind.signed,IntKind.bits]
def bX(o:Option (Ex×St))(f:St→Option (Ex×St)):Option (Ex×St):=o.bind fun r=>match r.1 with | .n=>f r.2 | _=>some r
def Zhn(id:Nat)(o:Option (Ex×St)):Option (Ex×St):=o.bind fun r=>match r.1 with | .x j=>if j=id then some (.n,r.2) else some r | _=>some r
def stX(o:Option St):Option (Ex×St):=o.map fun s=>(.n,s)
def bS(o:Option St)(f:St→Option St):Option St:=o.bind f
def cnX(v:AV)(x y:Option (Ex×St)):Option (Ex×St):=match v with | .b t=>if t then x else y | _=>none
def pS(o:Option AV)(d:Option Nat)(st:St):Option St:=o.map fun x=>⟨Zr st.env d x,st.heap,st.clk⟩
def pW(o:Option (AV×Heap×Nat))(d:Option Nat)(st:St):Option St:=o.map fun q=>⟨Zr st.env d q.1,q.2.1,q.2.2⟩
def pB(o:Option (AV×Heap))(d:Option Nat)(st:St):Option St:=o.map fun q=>⟨Zr st.env d q.1,q.2,st.clk⟩
def Ziq(res:List RV)(ex:Bool)(o:Option (Ex×St)):Option AV:=
 o.bind fun r=>match r.1 with | .x _=>none | _=>(Zc2 r.2 res).bind fun x=>(frz r.2.heap x).map (wkIf ex)
def Zi6(res:List RV)(ex:Bool)(k:Nat)(o:Option (Ex×St)):Option (AV×Heap):=
 o.bind fun r=>match r.1 with | .x _=>none | _=>(Zc2 r.2 res).map fun x=>let s:=Zc8 ex k [0] ⟨[(0,x)],r.2.heap,r.2.clk⟩;(s.env.get 0,s.heap)
section
variable{o o':Option (Ex×St)}{f:St→Option (Ex×St)}{s:St}
@[congr] theorem zabx(h:o=o'):bX o f=bX o' f:=by rw[h]
@[congr] theorem zaby{o o':Option St}{f:St→Option St}(h:o=o'):bS o f=bS o' f:=by rw[h]
@[congr] theorem z7z{v v':AV}{x y:Option (Ex×St)}(h:v=v'):cnX v x y=cnX v' x y:=by rw[h]
@[simp] theorem bX_n:bX (some (.n,s)) f=f s:=rfl
@[simp] theorem bX_x(id:Nat):bX (some (.x id,s)) f=some (.x id,s):=rfl
@[simp] theorem bX_r:bX (some (.r,s)) f=some (.r,s):=rfl
@[simp] theorem zaf3:bX none f=none:=rfl
@[simp] theorem zajh{c:Prop}[Decidable c]{a b:Option (Ex×St)}:bX (if c then a else b) f=if c then bX a f else bX b f:=by split<;>rfl
@[simp] theorem zabz(id:Nat){c:Prop}[Decidable c]{a b:Option (Ex×St)}:Zhn id (if c then a else b)=if c then Zhn id a else Zhn id b:=by split<;>rfl
@[simp] theorem zab0{res:List RV}{ex:Bool}{c:Prop}[Decidable c]{a b:Option (Ex×St)}:Ziq res ex (if c then a else b)=if c then Ziq res ex a else Ziq res ex b:=by split<;>rfl
@[simp] theorem zab1{res:List RV}{ex:Bool}{k:Nat}{c:Prop}[Decidable c]{a b:Option (Ex×St)}:Zi6 res ex k (if c then a else b)=if c then Zi6 res ex k a else Zi6 res ex k b:=by split<;>rfl
@[simp] theorem zaji(id:Nat):Zhn id (some (.n,s))=some (.n,s):=rfl
@[simp] theorem z71(id j:Nat):Zhn id (some (.x j,s))=if j=id then some (.n,s) else some (.x j,s):=rfl
@[simp] theorem zajj(id:Nat):Zhn id (some (.r,s))=some (.r,s):=rfl
@[simp] theorem z73(id:Nat):Zhn id none=none:=rfl
@[simp] theorem zab2:stX (some s)=some (.n,s):=rfl
@[simp] theorem zab3:stX none=none:=rfl
@[simp] theorem zaf4{f:St→Option St}:bS (some s) f=f s:=rfl
@[simp] theorem zaf5{f:St→Option St}:bS none f=none:=rfl
@[simp] theorem zalv{t:Bool}{x y:Option (Ex×St)}:cnX (.b t) x y=if t then x else y:=rfl
@[simp] theorem zaf6{x:AV}{d:Option Nat}:pS (some x) d s=some ⟨Zr s.env d x,s.heap,s.clk⟩:=rfl
@[simp] theorem zaf7{d:Option Nat}:pS none d s=none:=rfl
@[simp] theorem zaf8{x:AV}{h:Heap}{c:Nat}{d:Option Nat}:pW (some (x,h,c)) d s=some ⟨Zr s.env d x,h,c⟩:=rfl
@[simp] theorem zaf9{d:Option Nat}:pW none d s=none:=rfl
@[simp] theorem zaga{x:AV}{h:Heap}{d:Option Nat}:pB (some (x,h)) d s=some ⟨Zr s.env d x,h,s.clk⟩:=rfl
@[simp] theorem zagb{d:Option Nat}:pB none d s=none:=rfl
@[simp] theorem zajk{res:List RV}{ex:Bool}:Ziq res ex (some (.r,s))=(Zc2 s res).bind fun x=>(frz s.heap x).map (wkIf ex):=rfl
@[simp] theorem zajl{res:List RV}{ex:Bool}:Ziq res ex (some (.n,s))=(Zc2 s res).bind fun x=>(frz s.heap x).map (wkIf ex):=rfl
@[simp] theorem zajm{res:List RV}{ex:Bool}{k:Nat}:Zi6 res ex k (some (.r,s))=(Zc2 s res).map fun x=>((Zc8 ex k [0] ⟨[(0,x)],s.heap,s.clk⟩).env.get 0,(Zc8 ex k [0] ⟨[(0,x)],s.heap,s.clk⟩).heap):=rfl
@[simp] theorem zajn{res:List RV}{ex:Bool}{k:Nat}:Zi6 res ex k (some (.n,s))=(Zc2 s res).map fun x=>((Zc8 ex k [0] ⟨[(0,x)],s.heap,s.clk⟩).env.get 0,(Zc8 ex k [0] ⟨[(0,x)],s.heap,s.clk⟩).heap):=rfl
end
section
variable{T:Tbl}{k:Nat}{st:St}{d:Option Nat}
noncomputable abbrev X(T:Tbl)(k:Nat)(c:AX)(st:St):Option (Ex×St):=evX (orc T) T k c st
noncomputable abbrev R(T:Tbl)(l:List AO)(st:St):Option St:=Zdt (orc T) T l st
@[congr] theorem z74{O:Orc}{c:AX}{st st':St}(h:st=st'):evX O T k c st=evX O T k c st':=by rw[h]
@[congr] theorem z77{O:Orc}{op:AOp}{d:Option Nat}{st st':St}(h:st=st'):opX O T op d st=opX O T op d st':=by rw[h]
@[simp] theorem zajo:evX (orc T) T k .skip st=some (.n,st):=rfl
@[simp] theorem zalw{l:List AO}:evX (orc T) T k (.reg l) st=stX (Zdt (orc T) T l st):=rfl
@[simp] theorem zajp{l:List DO}:evX (orc T) T k (.draw l) st=stX (Zbx (orc T) T l st.env st.heap st.clk [] []):=rfl
@[simp] theorem zalx{a b:AX}:evX (orc T) T k (.seq a b) st=bX (evX (orc T) T k a st) fun s=>evX (orc T) T k b s:=rfl
@[simp] theorem zajq{c:Opd}{x y:AX}:evX (orc T) T k (.cond c x y) st=cnX (ev st.env.get c) (evX (orc T) T k x st) (evX (orc T) T k y st):=rfl
@[simp] theorem zagc{id:Nat}{c:AX}:evX (orc T) T k (.block id c) st=Zhn id (evX (orc T) T k c st):=rfl
@[simp] theorem zajr{c:AX}:evX (orc T) T k (.loop c) st=Zip T k c st:=rfl
@[simp] theorem zagd{c:AX}:evX (orc T) T k (.scope c) st=evX (orc T) T k c st:=rfl
@[simp] theorem zajs{id:Nat}:evX (orc T) T k (.exit id) st=some (.x id,st):=rfl
@[simp] theorem zaly:evX (orc T) T k .ret st=some (.r,st):=rfl
@[simp] theorem zajt{c:AX}{g:Gh}:evX (orc T) T k (.note c g) st=bX (evX (orc T) T k c st) fun s=>stX (ghS k g s):=rfl
def prX(o:Option St)(f:St→Option (Ex×St)):Option (Ex×St):=o.bind f
@[congr] theorem z78{o o':Option St}{f:St→Option (Ex×St)}(h:o=o'):prX o f=prX o' f:=by rw[h]
@[simp] theorem zab4{s:St}{f:St→Option (Ex×St)}:prX (some s) f=f s:=rfl
@[simp] theorem zalz{c:AX}{g:Gh}:evX (orc T) T k (.pre g c) st=prX (ghS k g st) fun s=>evX (orc T) T k c s:=rfl
noncomputable def Zde(k id:Nat)(g2:Gh)(o:Option (Ex×St)):Option (Ex×St):=bX (Zhn id o) fun s=>stX (ghS k g2 s)
noncomputable def Zn(T:Tbl)(k id:Nat)(g2:Gh)(c:AX)(st:St):Option (Ex×St):=Zde k id g2 (Zip T k c st)
@[congr] theorem z2a{id:Nat}{g2:Gh}{c:AX}{st st':St}(h:st=st'):Zn T k id g2 c st=Zn T k id g2 c st':=by rw[h]
@[congr] theorem z5o{id:Nat}{g2:Gh}{o o':Option (Ex×St)}(h:o=o'):Zde k id g2 o=Zde k id g2 o':=by rw[h]
@[simp] theorem zaju{id j:Nat}{g2:Gh}{s:St}:Zde k id g2 (some (.x j,s))=if j=id then stX (ghS k g2 s) else some (.x j,s):=by
 unfold Zde;rw[z71];split<;>simp
@[simp] theorem zajv{id:Nat}{g2:Gh}{s:St}:Zde k id g2 (some (.r,s))=some (.r,s):=rfl
@[simp] theorem X_lp{id:Nat}{g g2:Gh}{c:AX}:evX (orc T) T k (.lp id g c g2) st=prX (ghS k g st) fun s=>Zn T k id g2 c s:=by
 simp only[evX,prX,Zn,Zde,bX,Zhn,stX,Zip];cases ghS k g st with
 | none=>rfl
 | some s=>
  simp only[Y7];cases (orc T).loop k c s with
  | none=>rfl
  | some r=>
   obtain⟨e,s'⟩:=r;cases e with
   | n=>rfl
   | r=>rfl
   | x j=>
    simp only[Y7];split<;>rfl
def Zd5:Option (Ex×St)→Bool
 | some (.x _,_)=>true
 | some (.r,_)=>true
 | _=>false
@[simp] theorem zajw{j:Nat}{s:St}:Zd5 (some (.x j,s))=true:=rfl
@[simp] theorem zajx{s:St}:Zd5 (some (.r,s))=true:=rfl
@[simp] theorem zab5{c:Prop}[Decidable c]{a b:Option (Ex×St)}:Zd5 (if c then a else b)=if c then Zd5 a else Zd5 b:=by split<;>rfl
@[congr] theorem z5p{o o':Option (Ex×St)}(h:o=o'):Zd5 o=Zd5 o':=by rw[h]
theorem zp2{c:AX}:Zip T k c st=bX (evX (orc T) T k c st) fun s=>Zip T k c s:=zyd T k c st
theorem zaq{α:Type}{id:Nat}{g2:Gh}{c:AX}(F:α→St)(I:α→Prop)(μ:α→Nat)(Q:Ex×St→Prop)
  (step:∀x,I x→(∃y,I y∧μ y<μ x∧evX (orc T) T k c (F x)=some (.n,F y))∨(∃r,Q r∧Zd5 (evX (orc T) T k c (F x))=true∧Zde k id g2 (evX (orc T) T k c (F x))=some r)) :
  ∀x,I x→∃r,Q r∧Zn T k id g2 c (F x)=some r:=by
 have key:∀n x,μ x=n→I x→∃r,Q r∧Zn T k id g2 c (F x)=some r:=by
  intro n
  induction n using Nat.strongRecOn with
  | _ n ih=>
   intro x hn hI;unfold Zn;rw[zp2];rcases step x hI with ⟨y,h1,h2,h3⟩ | ⟨r,h1,h2,h3⟩
   ·rw[h3,bX_n];exact ih (μ y) (hn▸h2) y rfl h1
   ·refine⟨r,h1,?_⟩;rw[←h3];generalize evX (orc T) T k c (F x)=o at h2 ⊢;cases o with
    | none=>cases h2
    | some q=>
     obtain⟨e,s⟩:=q;cases e
     ·cases h2
     ·rfl
     ·rfl
 exact fun x hI=>key _ x rfl hI
theorem zaz{α:Type}{id:Nat}{g2:Gh}{c:AX}(F:α→St)(I:α→Prop)(μ:α→Nat)(G:α→Option (Ex×St))
  (step:∀x,I x→(∃y,I y∧μ y<μ x∧evX (orc T) T k c (F x)=some (.n,F y)∧G y=G x)∨(Zd5 (evX (orc T) T k c (F x))=true∧Zde k id g2 (evX (orc T) T k c (F x))=G x)) :
  ∀x,I x→Zn T k id g2 c (F x)=G x:=by
 have key:∀n x,μ x=n→I x→Zn T k id g2 c (F x)=G x:=by
  intro n
  induction n using Nat.strongRecOn with
  | _ n ih=>
   intro x hn hI;unfold Zn;rw[zp2];rcases step x hI with ⟨y,h1,h2,h3,h4⟩ | ⟨h2,h3⟩
   ·rw[h3,bX_n,←h4];exact ih (μ y) (hn▸h2) y rfl h1
   ·rw[←h3];generalize evX (orc T) T k c (F x)=o at h2 ⊢;cases o with
    | none=>cases h2
    | some q=>
     obtain⟨e,s⟩:=q;cases e
     ·cases h2
     ·rfl
     ·rfl
 exact fun x hI=>key _ x rfl hI
@[simp] theorem zal0:Zdt (orc T) T [] st=some st:=rfl
@[simp] theorem zajy{d:Option Nat}{op:AOp}{l:List AO}:Zdt (orc T) T (⟨d,none,op⟩::l) st=bS (opX (orc T) T op d st) fun s=>Zdt (orc T) T l s:=rfl
noncomputable def gS(T:Tbl)(x:AV)(want:Bool)(op:AOp)(d:Option Nat)(st:St):Option St:=gX (orc T) T x want op d st
@[congr] theorem zab6{x x':AV}{want:Bool}{op:AOp}(h:x=x'):gS T x want op d st=gS T x' want op d st:=by rw[h]
@[simp] theorem zage{d:Option Nat}{op:AOp}{l:List AO}{t:Nat}{w:Bool}:Zdt (orc T) T (⟨d,some (t,w),op⟩::l) st=bS (gS T (st.env.get t) w op d st) fun s=>Zdt (orc T) T l s:=rfl
@[simp] theorem gS_b{v want:Bool}{op:AOp}:gS T (.b v) want op d st=if v=want then opX (orc T) T op d st else some ⟨Zr st.env d (.tup []),st.heap,st.clk⟩:=rfl
@[simp] theorem zajz{vs:List AV}{want:Bool}{op:AOp}:gS T (.tup vs) want op d st=some ⟨Zr st.env d (.tup []),st.heap,st.clk⟩:=rfl
@[simp] theorem zal1{x}:opX (orc T) T (.mov x) d st=some ⟨Zr st.env d (ev st.env.get x),st.heap,st.clk⟩:=rfl
@[simp] theorem zaj0{c a b}:opX (orc T) T (.pick c a b) d st=pS (Zgs (ev st.env.get c) (ev st.env.get a) (ev st.env.get b)) d st:=rfl
@[simp] theorem zagf{zs ps}:opX (orc T) T (.build zs ps) d st=pS ((Zgd zs (ps.map fun p=>(p.1,p.2.1,ev st.env.get p.2.2))).map .agg) d st:=rfl
@[simp] theorem zaj1{n x}:opX (orc T) T (.load n x) d st=pS (Zem n st.heap (ev st.env.get x)) d st:=rfl
@[simp] theorem zal2{o x y}:opX (orc T) T (.bin o x y) d st=pS (Zag o (ev st.env.get x) (ev st.env.get y)) d st:=rfl
@[simp] theorem zal3{g ls x y}:opX (orc T) T (.eqs g ls x y) d st=pS (Zhq g ls (ev st.env.get x) (ev st.env.get y)) d st:=rfl
@[simp] theorem zagg{g x}:opX (orc T) T (.eqnil g x) d st=pS (Zew g (ev st.env.get x)) d st:=rfl
@[simp] theorem zal4{g x y}:opX (orc T) T (.eqb g x y) d st=pS (Zhr g (ev st.env.get x) (ev st.env.get y)) d st:=rfl
@[simp] theorem O_un{o x}:opX (orc T) T (.un o x) d st=pS (Zgt o (ev st.env.get x)) d st:=rfl
@[simp] theorem zaj2{n x}:opX (orc T) T (.conv n x) d st=pS (Zb2 n (ev st.env.get x)) d st:=rfl
@[simp] theorem zal5{z x lo hi mx}:opX (orc T) T (.slc z x lo hi mx) d st=pS (Zge z st.heap (ev st.env.get x) (evO st.env.get lo) (evO st.env.get hi) (evO st.env.get mx)) d st:=rfl
@[simp] theorem zagh{x lo hi}:opX (orc T) T (.slstr x lo hi) d st=pS (Zex (ev st.env.get x) (evO st.env.get lo) (evO st.env.get hi)) d st:=rfl
@[simp] theorem zal6{o x}:opX (orc T) T (.fad o x) d st=pS (Zgu o st.heap (ev st.env.get x)) d st:=rfl
@[simp] theorem zal7{o n x}:opX (orc T) T (.fld o n x) d st=pS (Zhs o n (ev st.env.get x)) d st:=rfl
@[simp] theorem zal8{z x i}:opX (orc T) T (.iad z x i) d st=pS (Zgv z st.heap (ev st.env.get x) (ev st.env.get i)) d st:=rfl
@[simp] theorem zal9{z n x i}:opX (orc T) T (.iaa z n x i) d st=pS (Zgw z n st.heap (ev st.env.get x) (ev st.env.get i)) d st:=rfl
@[simp] theorem zama{x i}:opX (orc T) T (.ixs x i) d st=pS (Zht (ev st.env.get x) (ev st.env.get i)) d st:=rfl
@[simp] theorem zamb{z l n x i}:opX (orc T) T (.ixa z l n x i) d st=pS (Zhu z l n (ev st.env.get x) (ev st.env.get i)) d st:=rfl
@[simp] theorem zamc{x}:opX (orc T) T (.len x) d st=pS (Zgx st.heap (ev st.env.get x)) d st:=rfl
@[simp] theorem zaj3{x}:opX (orc T) T (.lens x) d st=pS (Zf1 (ev st.env.get x)) d st:=rfl
@[simp] theorem zaj4{n}:opX (orc T) T (.lenc n) d st=some ⟨Zr st.env d (.i .i64 n),st.heap,st.clk⟩:=rfl
@[simp] theorem O_mm{m xs}:opX (orc T) T (.mm m xs) d st=pS (Zj3 m (xs.map (ev st.env.get))) d st:=rfl
@[simp] theorem zamd{x n}:opX (orc T) T (.ext x n) d st=pS (Zhv n (ev st.env.get x)) d st:=rfl
@[simp] theorem zaj5{x}:opX (orc T) T (.nilc x) d st=pS (Zfc st.heap (ev st.env.get x)) d st:=rfl
@[simp] theorem zagi{zs}:opX (orc T) T (.alloc zs) d st=pW (Zd9 zs d st.heap st.clk) d st:=rfl
@[simp] theorem zagj{n x v}:opX (orc T) T (.store n x v) d st=pW ((Zc1 n st.heap (ev st.env.get x) (ev st.env.get v)).map fun h'=>(.tup [],h',st.clk)) d st:=rfl
@[simp] theorem zame{z zs l c}:opX (orc T) T (.mks z zs l c) d st=pW (Zgg z zs d st.heap st.clk (ev st.env.get l) (ev st.env.get c)) d st:=rfl
@[simp] theorem zamf{z x y}:opX (orc T) T (.app z x y) d st=pW (Zg1 z d st.heap st.clk (ev st.env.get x) (ev st.env.get y)) d st:=rfl
@[simp] theorem zaj6{n xs}:opX (orc T) T (.xop (.box n) xs) d st=pW (Za9 (.box n) (xs.map (ev st.env.get)) d st.heap st.clk) d st:=rfl
@[simp] theorem zaj7{xs}:opX (orc T) T (.xop .cpy xs) d st=pW (Za9 .cpy (xs.map (ev st.env.get)) d st.heap st.clk) d st:=rfl
@[simp] theorem zagk{xs}:opX (orc T) T (.xop .bstr xs) d st=pW (Za9 .bstr (xs.map (ev st.env.get)) d st.heap st.clk) d st:=rfl
@[simp] theorem zagl{n xs}:opX (orc T) T (.xop (.arsl n) xs) d st=pW (Za9 (.arsl n) (xs.map (ev st.env.get)) d st.heap st.clk) d st:=rfl
@[simp] theorem zagm{xs}:opX (orc T) T (.xop .apps xs) d st=pW (Za9 .apps (xs.map (ev st.env.get)) d st.heap st.clk) d st:=rfl
@[simp] theorem zaj8{xs}:opX (orc T) T (.xop .bad xs) d st=pW (Za9 .bad (xs.map (ev st.env.get)) d st.heap st.clk) d st:=rfl
@[simp] theorem zamg{n xs}:opX (orc T) T (.xop (.mkf n) xs) d st=pW (Za9 (.mkf (Zo T n)) (xs.map (ev st.env.get)) d st.heap st.clk) d st:=rfl
@[simp] theorem zamh{n xs}:opX (orc T) T (.xop (.mkv n) xs) d st=pW (Za9 (.mkv (Zo T n)) (xs.map (ev st.env.get)) d st.heap st.clk) d st:=rfl
@[simp] theorem z5q{f:Nat}{x:AV}{dd:Option Nat}{h:Heap}{clk:Nat}:Za9 (.mkv f) [x] dd h clk=if noRef x=true then some (.fnv f x,h,clk) else none:=rfl
@[simp] theorem z5r{f:Nat}{id:BId}{g z i o:Nat}{dd:Option Nat}{h:Heap}{clk:Nat}:Za9 (.mkf f) [.ptr id g z i o] dd h clk=some (.fnp f id g z i o,h,clk):=rfl
@[simp] theorem zami{z zs n ps}:opX (orc T) T (.bsl z zs n ps) d st=pB (Zdz z zs n st.heap (ps.map fun p=>(p.1,ev st.env.get p.2))) d st:=rfl
@[simp] theorem zaj9{u args}:opX (orc T) T (.call u args) d st=Zc (orc T) T u (args.map (ev st.env.get)) d st:=rfl
def cR(r:Option AV)(xs:List AV)(d:Option Nat)(st:St):Option St:=
 r.map fun r=>⟨Zr st.env d r,if scalar r then st.heap else Zj (xs.flatMap refs) st.heap,st.clk⟩
@[congr] theorem zab7{r r':Option AV}{xs:List AV}(h:r=r'):cR r xs d st=cR r' xs d st:=by rw[h]
@[simp] theorem zagn{r:AV}{xs:List AV}:cR (some r) xs d st=some ⟨Zr st.env d r,if scalar r then st.heap else Zj (xs.flatMap refs) st.heap,st.clk⟩:=rfl
def bL(o:Option (List AV))(f:List AV→Option St):Option St:=o.bind f
@[congr] theorem zab8{o o':Option (List AV)}{f:List AV→Option St}(h:o=o'):bL o f=bL o' f:=by rw[h]
@[simp] theorem zago{xs:List AV}{f:List AV→Option St}:bL (some xs) f=f xs:=rfl
def Zjo(h:Heap):List AV→Option (List AV)
 | []=>some []
 | x::l=>(Za7 h x).bind fun y=>(Zjo h l).map fun ys=>y::ys
theorem zuo(h:Heap):∀l:List AV,l.mapM (Za7 h)=Zjo h l
 | []=>rfl
 | x::l=>by simp only[Ybi,Zjo,zuo h l,Yck,Ydj,Option.map_eq_bind,Function.comp_def]
attribute [simp] Zjo Zea Zas Zcc
theorem zab{u:Nat}{xs:List AV}{np nt:Nat}{res:List RV}{b:AX}{ex:Bool}(hT:T u=some ⟨np,nt,res,b,none,ex⟩) :
  Zc (orc T) T u xs d st=bL (Zjo st.heap xs) fun ys=>cR (Zb T u (ys.map (wkIf ex))) xs d st:=by
 unfold Zc bL cR Zb;rw[hT];simp only[zuo];congr 1
 funext ys
 cases (orc T).call u (ys.map (wkIf ex)) []<;>rfl
theorem zaa{u:Nat}{xs:List AV}{np nt:Nat}{res:List RV}{b:AX}{ex:Bool}(hT:T u=some ⟨np,nt,res,b,none,ex⟩)(hn:xs.length=np)(hp:b.isPrim=none:=by rfl) :
  Zb T u xs=Ziq res ex (evX (orc T) T 0 b ⟨Zcv xs,[],1⟩):=by
 unfold Zb Ziq;rw[zky];simp only[Zcs,hT,hp];rw[if_pos ⟨hn,by simp⟩];simp only[Ybo,Yaj];cases evX (orc T) T 0 b ⟨Zcv xs,[],1⟩ with
 | none=>rfl
 | some r=>
  obtain⟨e,s⟩:=r;cases e<;>simp only[Y7,Zki,Ye2]<;>(cases Zc2 s res<;>simp only[Option.bind_none,Ye2,Y7]<;>cases frz s.heap _<;>rfl)
theorem zjt{u:Nat}{xs:List AV}{np nt:Nat}{res:List RV}{f:List AV→Option AV}{ex:Bool}(hT:T u=some ⟨np,nt,res,.prim f,none,ex⟩):Zb T u xs=f xs:=by
 unfold Zb;rw[zky];simp only[Zcs,hT,AX.isPrim];cases f xs<;>simp
theorem zah{u:Nat}{xs:List AV}{hb:Heap}{np nt:Nat}{res:List RV}{b:AX}{ms:List Bool}{ex:Bool}(hT:T u=some ⟨np,nt,res,b,some ms,ex⟩)(hn:xs.length=np)(hp:b.isPrim=none:=by rfl) :
  Zaa T u xs hb=Zi6 res ex hb.length (evX (orc T) T hb.length b ⟨Zcv xs,hb,hb.length+1⟩):=by
 unfold Zaa Zi6;rw[zky];simp only[Zcs,hT,hp];rw[if_pos ⟨hn,by simp⟩];cases evX (orc T) T hb.length b ⟨Zcv xs,hb,hb.length+1⟩ with
 | none=>rfl
 | some r=>
  obtain⟨e,s⟩:=r;cases e<;>simp only[Y7,Zki]<;>(cases Zc2 s res<;>rfl)
def Zkk(l:List BId)(hp h1:Heap)(r:Option (AV×Heap))(d:Option Nat)(st:St):Option St:=
 r.bind fun r=>
  let hb':=r.2.map fun p=>(Za3 l (d.getD 0) p.1,Zam true (Za3 l (d.getD 0)) (Zbe hp st.clk) p.2)
  let r':=rlA (Za3 l (d.getD 0)) (Zbe hp st.clk) r.1
  if (hb'.map (·.1)).Nodup&&Zcg hb' r'&&Zg2 hb' then
   some ⟨Zr st.env d r',hb'++(h1.filter fun p=>!(l.contains p.1 || (hb'.map (·.1)).contains p.1)),st.clk+r.2.length+2⟩
  else none
@[congr] theorem z5s{l:List BId}{hp h1:Heap}{r r':Option (AV×Heap)}(h:r=r'):Zkk l hp h1 r d st=Zkk l hp h1 r' d st:=by rw[h]
noncomputable def Zdn(ys:List AV)(h1:Heap)(l:List BId)(T:Tbl)(u:Nat)(ex:Bool)(d:Option Nat)(st:St):Option St:=
 if (Zd3 h1 l).map (·.1)=l∧l.Nodup then
  Zkk l (Zd3 h1 l) h1 (Zaa T u (ys.map fun y=>rlA (inN l) (inG (Zd3 h1 l)) (wkIf ex y)) ((Zd3 h1 l).map fun p=>(inN l p.1,Zam ex (inN l) (inG (Zd3 h1 l)) p.2))) d st
 else none
@[simp] theorem z79{l:List BId}{hp h1:Heap}{r:AV}{h2:Heap}:Zkk l hp h1 (some (r,h2)) d st =
  (if ((h2.map fun p=>(Za3 l (d.getD 0) p.1,Zam true (Za3 l (d.getD 0)) (Zbe hp st.clk) p.2)).map (·.1)).Nodup&&Zcg (h2.map fun p=>(Za3 l (d.getD 0) p.1,Zam true (Za3 l (d.getD 0)) (Zbe hp st.clk) p.2)) (rlA (Za3 l (d.getD 0)) (Zbe hp st.clk) r)&&Zg2 (h2.map fun p=>(Za3 l (d.getD 0) p.1,Zam true (Za3 l (d.getD 0)) (Zbe hp st.clk) p.2)) then
   some ⟨Zr st.env d (rlA (Za3 l (d.getD 0)) (Zbe hp st.clk) r),(h2.map fun p=>(Za3 l (d.getD 0) p.1,Zam true (Za3 l (d.getD 0)) (Zbe hp st.clk) p.2))++(h1.filter fun p=>!(l.contains p.1 || ((h2.map fun p=>(Za3 l (d.getD 0) p.1,Zam true (Za3 l (d.getD 0)) (Zbe hp st.clk) p.2)).map (·.1)).contains p.1)),st.clk+h2.length+2⟩
  else none):=rfl
attribute [simp] Zdn Za3 Zbe inN inG Zer Zg2
theorem zal{u:Nat}{xs:List AV}{np nt:Nat}{res:List RV}{b:AX}{ms:List Bool}{ex:Bool}(hT:T u=some ⟨np,nt,res,b,some ms,ex⟩) :
  Zc (orc T) T u xs d st=bL (Zea st.heap ms xs) fun ys=>Zdn ys (Zj (Zas ms xs) st.heap) (reach (Zj (Zas ms xs) st.heap) 40 (Zcc ms xs) []) T u ex d st:=by
 unfold Zc bL Zdn Zkk Zaa;rw[hT]
def bD(o:Option (AV×Bool))(f:AV×Bool→Option St):Option St:=o.bind f
@[congr] theorem zab9{o o':Option (AV×Bool)}{f:AV×Bool→Option St}(h:o=o'):bD o f=bD o' f:=by rw[h]
@[simp] theorem zagp{e:AV×Bool}{f:AV×Bool→Option St}:bD (some e) f=f e:=rfl
def bWr(o:Option (AV×Heap×Nat))(f:AV×Heap×Nat→Option St):Option St:=o.bind f
@[congr] theorem z8a{o o':Option (AV×Heap×Nat)}{f:AV×Heap×Nat→Option St}(h:o=o'):bWr o f=bWr o' f:=by rw[h]
@[simp] theorem zaca{q:AV×Heap×Nat}{f:AV×Heap×Nat→Option St}:bWr (some q) f=f q:=rfl
def iP(b:Bool)(x:Option St):Option St:=if b then x else none
@[congr] theorem zacb{b b':Bool}{x:Option St}(h:b=b'):iP b x=iP b' x:=by rw[h]
@[simp] theorem zagq{x:Option St}:iP true x=x:=rfl
@[simp] theorem z5t{h:Heap}:Zcy [] h=true:=by
 classical
 unfold Zcy;exact decide_eq_true fun p hp=>by cases hp
@[simp] theorem z2b{q:AOp×Env×AV}{l:Zck}{h:Heap}:Zcy ((0,q)::l) h=Zcy l h:=by
 classical
 unfold Zcy;refine decide_eq_decide.2 ⟨fun h1 p hp=>h1 p (Ys _ hp),fun h1 p hp h0=>?_⟩;rcases Y5.1 hp with rfl | hp
 ·cases h0
 ·exact h1 p hp h0
@[simp] theorem zh9{n:Nat}{op:AOp}{e:Env}{x:AV}{l:Zck}{h:Heap}(hs:Zg7 op e.get h=some x):Zcy ((n,op,e,x)::l) h=Zcy l h:=by
 classical
 unfold Zcy;refine decide_eq_decide.2 ⟨fun h1 p hp=>h1 p (Ys _ hp),fun h1 p hp h0=>?_⟩;rcases Y5.1 hp with rfl | hp
 ·exact hs
 ·exact h1 p hp h0
theorem zrk{op:AOp}{e:Env}{older:List Heap}{x:AV}(hf:op.free=true):Zfq op e older x=true:=by unfold Zfq;rw[hf];rfl
theorem zup{op:AOp}{e:Env}{x:AV}:Zfq op e [] x=true:=by
 classical
 unfold Zfq;rw[Ybq];exact .inr (decide_eq_true fun h' hh=>by cases hh)
noncomputable def rD(T:Tbl)(q:Option (Nat×List AV))(o:DO)(r:List DO)(e:Env)(h:Heap)(clk:Nat)(older:List Heap)(pend:Zck):Option St:=
 match q with
 | none=>bD (qX (orc T) T o.ao e h (older.take (older.length-o.lo))) fun x=>Zbx (orc T) T r (Zr e o.ao.dst x.1) h clk older (Zey o older.length e x pend)
 | some p=>(Zfr (orc T) T p.1 p.2).bind fun x=>Zbx (orc T) T r (Zr e o.ao.dst x) h clk older (if older.length<o.hi then (o.hi-older.length,o.ao.op,e,.tup p.2)::pend else pend)
@[simp] theorem zagr{o:DO}{r:List DO}{e:Env}{h:Heap}{clk:Nat}{older:List Heap}{pend:Zck}:rD T none o r e h clk older pend=bD (qX (orc T) T o.ao e h (older.take (older.length-o.lo))) fun x=>Zbx (orc T) T r (Zr e o.ao.dst x.1) h clk older (Zey o older.length e x pend):=rfl
noncomputable def bAV(o:Option AV)(f:AV→Option St):Option St:=o.bind f
@[simp] theorem zacc{x:AV}{f:AV→Option St}:bAV (some x) f=f x:=rfl
@[simp] theorem zags{u:Nat}{ys:List AV}{o:DO}{r:List DO}{e:Env}{h:Heap}{clk:Nat}{older:List Heap}{pend:Zck}:rD T (some (u,ys)) o r e h clk older pend=bAV (Zfr (orc T) T u ys) fun x=>Zbx (orc T) T r (Zr e o.ao.dst x) h clk older (if older.length<o.hi then (o.hi-older.length,o.ao.op,e,.tup ys)::pend else pend):=rfl
open Classical in
noncomputable def rK(u:Nat)(xs ys:List AV)(older:List Heap):Option (Nat×List AV):=if decide (∀h'∈older,Zbw h' xs=some ys)=true then some (u,ys) else none
@[simp] theorem zagt{g:Option (Nat×Bool)}{e:Env}{h:Heap}{older:List Heap}:Zg6 g none e h older=none:=by cases g<;>rfl
@[simp] theorem zagu{g:Nat×Bool}{c:Option (Nat×List Opd)}{e:Env}{h:Heap}{older:List Heap}:Zg6 (some g) c e h older=none:=by cases c<;>rfl
noncomputable def rC(c:Bool)(u:Nat)(xs:List AV)(h:Heap)(older:List Heap):Option (Nat×List AV):=
 match c with
 | true=>none
 | false=>(Zbw h xs).bind fun ys=>rK u xs ys older
@[congr] theorem zacd{c c':Bool}{u:Nat}{xs:List AV}{h:Heap}{older:List Heap}(h1:c=c'):rC c u xs h older=rC c' u xs h older:=by rw[h1]
@[simp] theorem zagv{u:Nat}{xs:List AV}{h:Heap}{older:List Heap}:rC true u xs h older=none:=rfl
@[simp] theorem zace{u:Nat}{xs:List AV}{h:Heap}{older:List Heap}:rC false u xs h older=(Zbw h xs).bind fun ys=>rK u xs ys older:=rfl
@[simp] theorem z8b{q:Nat×List Opd}{e:Env}{h:Heap}{older:List Heap}:Zg6 none (some q) e h older=rC ((q.2.map (ev e.get)).all noRef) q.1 (q.2.map (ev e.get)) h older:=by
 classical
 unfold Zg6 Zkg rC;cases hc:(q.2.map (ev e.get)).all noRef with
 | true=>simp only[hc,if_true,Ye2]
 | false=>
  simp only[hc,Yab,if_false];cases Zbw h (q.2.map (ev e.get)) with
  | none=>rfl
  | some ys=>
   simp only[Y7,rK];split<;>rfl
noncomputable def dX(T:Tbl)(wr:Bool)(o:DO)(r:List DO)(e:Env)(h:Heap)(clk:Nat)(older:List Heap)(pend:Zck):Option St:=
 match wr with
 | true=>if o.ao.guard.isNone then bWr (stepW o.ao.op o.ao.dst e.get h clk) fun q=>iP (Zcy pend q.2.1) (Zbx (orc T) T r (Zr e o.ao.dst q.1) q.2.1 q.2.2 (h::older) (pend.map fun p=>(p.1-1,p.2))) else none
 | false=>rD T (Zg6 o.ao.guard o.ao.op.callN e h (older.take (older.length-o.lo))) o r e h clk older pend
@[congr] theorem z2c{l:List DO}{e e':Env}{h h':Heap}{clk clk':Nat}{older older':List Heap}{pend pend':Zck}(h1:e=e')(h2:h=h')(h3:clk=clk')(h4:older=older')(h5:pend=pend'):Zbx (orc T) T l e h clk older pend=Zbx (orc T) T l e' h' clk' older' pend':=by rw[h1,h2,h3,h4,h5]
@[simp] theorem z8c{e:Env}{h:Heap}{clk:Nat}{older:List Heap}{pend:Zck}:Zbx (orc T) T [] e h clk older pend=some ⟨e,h,clk⟩:=rfl
@[simp] theorem z5u{o:DO}{r:List DO}{e:Env}{h:Heap}{clk:Nat}{older:List Heap}{pend:Zck}:Zbx (orc T) T (o::r) e h clk older pend=dX T o.ao.op.writes o r e h clk older pend:=by
 unfold dX;rw[Zbx];cases o.ao.op.writes with
 | true=>rfl
 | false=>
  unfold rD;simp only;cases Zg6 o.ao.guard o.ao.op.callN e h (older.take (older.length-o.lo))<;>rfl
@[simp] theorem zagw{o:DO}{r:List DO}{e:Env}{h:Heap}{clk:Nat}{older:List Heap}{pend:Zck}:dX T true o r e h clk older pend=if o.ao.guard.isNone then bWr (stepW o.ao.op o.ao.dst e.get h clk) fun q=>iP (Zcy pend q.2.1) (Zbx (orc T) T r (Zr e o.ao.dst q.1) q.2.1 q.2.2 (h::older) (pend.map fun p=>(p.1-1,p.2))) else none:=rfl
@[simp] theorem zacf{o:DO}{r:List DO}{e:Env}{h:Heap}{clk:Nat}{older:List Heap}{pend:Zck}:dX T false o r e h clk older pend=rD T (Zg6 o.ao.guard o.ao.op.callN e h (older.take (older.length-o.lo))) o r e h clk older pend:=rfl
def dV(o:Option AV):Option (AV×Bool):=o.map fun x=>(x,true)
@[simp] theorem zagx{x:AV}:dV (some x)=some (x,true):=rfl
@[simp] theorem zagy:dV none=none:=rfl
@[simp] theorem zagz{op:AOp}{e:Env}{h:Heap}{older:List Heap}:qX (orc T) T ⟨d,none,op⟩ e h older=dV (opD (orc T) T op e h older):=rfl
noncomputable def gD(T:Tbl)(x:AV)(want:Bool)(op:AOp)(e:Env)(h:Heap)(older:List Heap):Option (AV×Bool):=
 match x with
 | .b v=>if v=want then dV (opD (orc T) T op e h older) else some (.tup [],false)
 | .tup []=>some (.tup [],false)
 | _=>none
@[congr] theorem zacg{x x':AV}{want:Bool}{op:AOp}{e:Env}{h:Heap}{older:List Heap}(h1:x=x'):gD T x want op e h older=gD T x' want op e h older:=by rw[h1]
@[simp] theorem zag0{t:Nat}{want:Bool}{op:AOp}{e:Env}{h:Heap}{older:List Heap}:qX (orc T) T ⟨d,some (t,want),op⟩ e h older=gD T (e.get t) want op e h older:=rfl
@[simp] theorem gD_b{v want:Bool}{op:AOp}{e:Env}{h:Heap}{older:List Heap}:gD T (.b v) want op e h older=if v=want then dV (opD (orc T) T op e h older) else some (.tup [],false):=rfl
@[simp] theorem zaka{want:Bool}{op:AOp}{e:Env}{h:Heap}{older:List Heap}:gD T (.tup []) want op e h older=some (.tup [],false):=rfl
noncomputable def dC(o:Option AV)(op:AOp)(older:List Heap)(e:Env):Option AV:=o.bind fun x=>if Zfq op e older x then some x else none
@[congr] theorem zach{o o':Option AV}{op:AOp}{older:List Heap}{e:Env}(h1:o=o'):dC o op older e=dC o' op older e:=by rw[h1]
@[simp] theorem zakb{x:AV}{op:AOp}{e:Env}:dC (some x) op [] e=some x:=by
 unfold dC;rw[Y7,zup]
 rfl
theorem zbr{op:AOp}{h:Heap}{older:List Heap}{e:Env}(hf:op.free=true):((Zi op e.get h).bind fun x=>if Zfq op e older x then some x else none)=Zi op e.get h:=by
 cases Zi op e.get h with
 | none=>rfl
 | some x=>rw[Y7,zrk hf];rfl
@[simp] theorem zamj{x}{e:Env}{h:Heap}{older:List Heap}:opD (orc T) T (.mov x) e h older=some (ev e.get x):=zbr (op:=.mov x) (h:=h) (older:=older) (e:=e) rfl
@[simp] theorem zamk{z y}{e:Env}{h:Heap}{older:List Heap}:opD (orc T) T (.app z (.c (.sl [] .nl)) y) e h older=Zgf z (ev e.get y):=rfl
@[simp] theorem zaci{z:Nat}{els:List (List AV)}{f:Fl}:Zgf z (.sl els f)=if (els.head?.all fun r=>r.length=z)∧els.length≤4294967296 then some (.sl els .an) else none:=rfl
@[simp] theorem z0l{z n y}:(AOp.app z (.t n) y).writes=true:=rfl
@[simp] theorem z5v{z n y}:(AOp.app z (.t n) y).free=false:=rfl
@[simp] theorem z2d{z n y}:(AOp.app z (.t n) y).maker=true:=rfl
@[simp] theorem z5w{z y}:(AOp.app z (.c (.sl [] .nl)) y).writes=false:=rfl
@[simp] theorem zacj{z y}:(AOp.app z (.c (.sl [] .nl)) y).free=true:=rfl
@[simp] theorem z8d{z y}:(AOp.app z (.c (.sl [] .nl)) y).maker=false:=rfl
@[simp] theorem zakc{c a b}{e:Env}{h:Heap}{older:List Heap}:opD (orc T) T (.pick c a b) e h older=Zgs (ev e.get c) (ev e.get a) (ev e.get b):=zbr (op:=.pick c a b) (h:=h) (older:=older) (e:=e) rfl
@[simp] theorem zag1{zs ps}{e:Env}{h:Heap}{older:List Heap}:opD (orc T) T (.build zs ps) e h older=(Zgd zs (ps.map fun p=>(p.1,p.2.1,ev e.get p.2.2))).map .agg:=zbr (op:=.build zs ps) (h:=h) (older:=older) (e:=e) rfl
@[simp] theorem zaml{o x y}{e:Env}{h:Heap}{older:List Heap}:opD (orc T) T (.bin o x y) e h older=Zag o (ev e.get x) (ev e.get y):=zbr (op:=.bin o x y) (h:=h) (older:=older) (e:=e) rfl
@[simp] theorem zamm{g ls x y}{e:Env}{h:Heap}{older:List Heap}:opD (orc T) T (.eqs g ls x y) e h older=Zhq g ls (ev e.get x) (ev e.get y):=zbr (op:=.eqs g ls x y) (h:=h) (older:=older) (e:=e) rfl
@[simp] theorem zag2{g x}{e:Env}{h:Heap}{older:List Heap}:opD (orc T) T (.eqnil g x) e h older=Zew g (ev e.get x):=zbr (op:=.eqnil g x) (h:=h) (older:=older) (e:=e) rfl
@[simp] theorem zamn{g x y}{e:Env}{h:Heap}{older:List Heap}:opD (orc T) T (.eqb g x y) e h older=Zhr g (ev e.get x) (ev e.get y):=zbr (op:=.eqb g x y) (h:=h) (older:=older) (e:=e) rfl
@[simp] theorem D_un{o x}{e:Env}{h:Heap}{older:List Heap}:opD (orc T) T (.un o x) e h older=Zgt o (ev e.get x):=zbr (op:=.un o x) (h:=h) (older:=older) (e:=e) rfl
@[simp] theorem zakd{k x}{e:Env}{h:Heap}{older:List Heap}:opD (orc T) T (.conv k x) e h older=Zb2 k (ev e.get x):=zbr (op:=.conv k x) (h:=h) (older:=older) (e:=e) rfl
@[simp] theorem zag3{x lo hi}{e:Env}{h:Heap}{older:List Heap}:opD (orc T) T (.slstr x lo hi) e h older=Zex (ev e.get x) (evO e.get lo) (evO e.get hi):=zbr (op:=.slstr x lo hi) (h:=h) (older:=older) (e:=e) rfl
@[simp] theorem zamo{o n x}{e:Env}{h:Heap}{older:List Heap}:opD (orc T) T (.fld o n x) e h older=Zhs o n (ev e.get x):=zbr (op:=.fld o n x) (h:=h) (older:=older) (e:=e) rfl
@[simp] theorem zamp{x i}{e:Env}{h:Heap}{older:List Heap}:opD (orc T) T (.ixs x i) e h older=Zht (ev e.get x) (ev e.get i):=zbr (op:=.ixs x i) (h:=h) (older:=older) (e:=e) rfl
@[simp] theorem zamq{z l n x i}{e:Env}{h:Heap}{older:List Heap}:opD (orc T) T (.ixa z l n x i) e h older=Zhu z l n (ev e.get x) (ev e.get i):=zbr (op:=.ixa z l n x i) (h:=h) (older:=older) (e:=e) rfl
@[simp] theorem zake{x}{e:Env}{h:Heap}{older:List Heap}:opD (orc T) T (.lens x) e h older=Zf1 (ev e.get x):=zbr (op:=.lens x) (h:=h) (older:=older) (e:=e) rfl
@[simp] theorem zakf{n}{e:Env}{h:Heap}{older:List Heap}:opD (orc T) T (.lenc n) e h older=some (.i .i64 n):=zbr (op:=.lenc n) (h:=h) (older:=older) (e:=e) rfl
@[simp] theorem D_mm{m xs}{e:Env}{h:Heap}{older:List Heap}:opD (orc T) T (.mm m xs) e h older=Zj3 m (xs.map (ev e.get)):=zbr (op:=.mm m xs) (h:=h) (older:=older) (e:=e) rfl
@[simp] theorem zamr{x n}{e:Env}{h:Heap}{older:List Heap}:opD (orc T) T (.ext x n) e h older=Zhv n (ev e.get x):=zbr (op:=.ext x n) (h:=h) (older:=older) (e:=e) rfl
@[simp] theorem zakg{n x}{e:Env}{h:Heap}{older:List Heap}:opD (orc T) T (.load n x) e h older=dC (Zem n h (ev e.get x)) (.load n x) older e:=rfl
@[simp] theorem zams{z x lo hi mx}{e:Env}{h:Heap}{older:List Heap}:opD (orc T) T (.slc z x lo hi mx) e h older=dC (Zge z h (ev e.get x) (evO e.get lo) (evO e.get hi) (evO e.get mx)) (.slc z x lo hi mx) older e:=rfl
@[simp] theorem zamt{o x}{e:Env}{h:Heap}{older:List Heap}:opD (orc T) T (.fad o x) e h older=dC (Zgu o h (ev e.get x)) (.fad o x) older e:=rfl
@[simp] theorem zamu{z x i}{e:Env}{h:Heap}{older:List Heap}:opD (orc T) T (.iad z x i) e h older=dC (Zgv z h (ev e.get x) (ev e.get i)) (.iad z x i) older e:=rfl
@[simp] theorem zamv{z n x i}{e:Env}{h:Heap}{older:List Heap}:opD (orc T) T (.iaa z n x i) e h older=dC (Zgw z n h (ev e.get x) (ev e.get i)) (.iaa z n x i) older e:=rfl
@[simp] theorem zamw{x}{e:Env}{h:Heap}{older:List Heap}:opD (orc T) T (.len x) e h older=dC (Zgx h (ev e.get x)) (.len x) older e:=rfl
@[simp] theorem zakh{x}{e:Env}{h:Heap}{older:List Heap}:opD (orc T) T (.nilc x) e h older=dC (Zfc h (ev e.get x)) (.nilc x) older e:=rfl
def dR(r:Option AV)(xs:List AV):Option AV:=if xs.all noRef then r else none
@[congr] theorem zack{r r':Option AV}{xs:List AV}(h1:r=r'):dR r xs=dR r' xs:=by rw[h1]
@[simp] theorem zag4{r:AV}{xs:List AV}:dR (some r) xs=if xs.all noRef then some r else none:=rfl
theorem zak{u:Nat}{args:List Opd}{np nt:Nat}{res:List RV}{b:AX}{ex:Bool}{e:Env}{h:Heap}{older:List Heap}(hT:T u=some ⟨np,nt,res,b,none,ex⟩) :
  opD (orc T) T (.call u args) e h older=dR (Zb T u ((args.map (ev e.get)).map (wkIf ex))) (args.map (ev e.get)):=by
 unfold dR Zb;simp only[opD,hT,Option.isNone_none,Ybd]
@[simp] theorem zamx{z zs n ps}{e:Env}{h:Heap}{older:List Heap}:opD (orc T) T (.bsl z zs n ps) e h older=if (ps.map fun p=>(p.1,ev e.get p.2)).all (fun p=>noRef p.2) then (Zdz z zs n [] (ps.map fun p=>(p.1,ev e.get p.2))).map (·.1) else none:=rfl
@[congr] theorem z2e{tl l:List AO}{e e':Env}{h h':Heap}{clk clk':Nat}(h1:e=e')(h2:h=h')(h3:clk=clk'):Zdg (orc T) T tl l e h clk=Zdg (orc T) T tl l e' h' clk':=by rw[h1,h2,h3]
@[simp] theorem z8e{tl:List AO}{e:Env}{h:Heap}{clk:Nat}:Zdg (orc T) T tl [] e h clk=Zdt (orc T) T tl ⟨e,h,clk⟩:=rfl
@[simp] theorem z5x{tl r:List AO}{o:AO}{e:Env}{h:Heap}{clk:Nat}:Zdg (orc T) T tl (o::r) e h clk=bD (qX (orc T) T o e h []) fun x=>Zdg (orc T) T tl r (Zr e o.dst x.1) h clk:=rfl
@[congr] theorem z2f{tl l:List AO}{h0:Heap}{c0:Nat}{X:Heap}{e e':Env}{h h':Heap}{clk clk':Nat}(h1:e=e')(h2:h=h')(h3:clk=clk'):Za8 (orc T) T tl h0 c0 X l e h clk=Za8 (orc T) T tl h0 c0 X l e' h' clk':=by rw[h1,h2,h3]
@[simp] theorem z8f{tl:List AO}{h0:Heap}{c0:Nat}{X:Heap}{e:Env}{h:Heap}{clk:Nat}:Za8 (orc T) T tl h0 c0 X [] e h clk=Zdt (orc T) T tl ⟨e,h,clk⟩:=rfl
noncomputable def kM(T:Tbl)(tl:List AO)(h0:Heap)(c0:Nat)(X:Heap)(op:AOp)(d:Nat)(r:List AO)(e:Env)(h:Heap)(q:Option (AV×Heap×Nat)):Option St:=
 q.bind fun q=>if ((h.lookup (.loc d)).isNone&&Zib c0 op e q.2.1)=true then Za8 (orc T) T tl h0 c0 X r (Zr e (some d) q.1) (q.2.1++h) q.2.2 else none
@[simp] theorem zag5{tl:List AO}{h0:Heap}{c0:Nat}{X:Heap}{op:AOp}{d:Nat}{r:List AO}{e:Env}{h:Heap}{q:AV×Heap×Nat}:kM T tl h0 c0 X op d r e h (some q)=if ((h.lookup (.loc d)).isNone&&Zib c0 op e q.2.1)=true then Za8 (orc T) T tl h0 c0 X r (Zr e (some d) q.1) (q.2.1++h) q.2.2 else none:=rfl
noncomputable def kN(T:Tbl)(tl:List AO)(h0:Heap)(c0:Nat)(X:Heap)(op:AOp)(d:Nat)(r:List AO)(e:Env)(h:Heap)(q:Option (AV×Heap×Nat)):Option St:=
 q.bind fun q=>if Zib c0 op e (q.2.1.take 1)=true then Za8 (orc T) T tl h0 c0 X r (Zr e (some d) q.1) (q.2.1.take 1++h) q.2.2 else none
@[simp] theorem zag6{tl:List AO}{h0:Heap}{c0:Nat}{X:Heap}{op:AOp}{d:Nat}{r:List AO}{e:Env}{h:Heap}{q:AV×Heap×Nat}:kN T tl h0 c0 X op d r e h (some q)=if Zib c0 op e (q.2.1.take 1)=true then Za8 (orc T) T tl h0 c0 X r (Zr e (some d) q.1) (q.2.1.take 1++h) q.2.2 else none:=rfl
noncomputable def uX(T:Tbl)(w:Option (BId×Box))(tl:List AO)(h0:Heap)(c0:Nat)(X:Heap)(op:AOp)(d:Nat)(r:List AO)(e:Env)(h:Heap)(clk:Nat):Option St:=
 match w with
 | none=>kM T tl h0 c0 X op d r e h (stepW op (some d) e.get [] clk)
 | some p=>kN T tl h0 c0 X op d r e h (stepW op (some d) e.get [p] clk)
@[congr] theorem zacl{w w':Option (BId×Box)}{tl:List AO}{h0:Heap}{c0:Nat}{X:Heap}{op:AOp}{d:Nat}{r:List AO}{e:Env}{h:Heap}{clk:Nat}(h1:w=w'):uX T w tl h0 c0 X op d r e h clk=uX T w' tl h0 c0 X op d r e h clk:=by rw[h1]
@[simp] theorem zag7{tl:List AO}{h0:Heap}{c0:Nat}{X:Heap}{op:AOp}{d:Nat}{r:List AO}{e:Env}{h:Heap}{clk:Nat}:uX T none tl h0 c0 X op d r e h clk=kM T tl h0 c0 X op d r e h (stepW op (some d) e.get [] clk):=rfl
@[simp] theorem zag8{tl:List AO}{h0:Heap}{c0:Nat}{X:Heap}{op:AOp}{d:Nat}{r:List AO}{e:Env}{h:Heap}{clk:Nat}{p:BId×Box}:uX T (some p) tl h0 c0 X op d r e h clk=kN T tl h0 c0 X op d r e h (stepW op (some d) e.get [p] clk):=rfl
@[simp] theorem z5y{c0:Nat}{h0 X h:Heap}{zs:List AV}{e:Env}:Zic c0 h0 X h (.alloc zs) e=none:=rfl
@[simp] theorem zacm{c0:Nat}{h0 X h:Heap}{z:Nat}{zs:List AV}{l c:Opd}{e:Env}:Zic c0 h0 X h (.mks z zs l c) e=none:=rfl
@[simp] theorem zacn{c0:Nat}{h0 X h:Heap}{k:XOp}{xs:List Opd}{e:Env}:Zic c0 h0 X h (.xop k xs) e=none:=rfl
@[simp] theorem zaco{c0:Nat}{h0 X h:Heap}{z:Nat}{x y:Opd}{e:Env}:Zic c0 h0 X h (.app z x y) e=Zjn c0 h0 X h (ev e.get x):=rfl
@[simp] theorem zag9{c0:Nat}{h0 X h:Heap}{l:List (List AV)}{f:Fl}:Zjn c0 h0 X h (.sl l f)=none:=rfl
@[simp] theorem zaha{c0:Nat}{h0 X h:Heap}{b:BId}{g z o n:Nat}:Zjn c0 h0 X h (.bs b g z o n)=Zkh c0 (h0.lookup b) (X.lookup b) b (h.lookup b):=rfl
@[simp] theorem z8g{c0:Nat}{b:BId}{x o:Box}:Zkh c0 none (some x) b (some o)=if o.gen<c0 then some (b,o) else none:=rfl
attribute [simp] Zly
@[simp] theorem z8h{e:Env}:Zes [] e=[]:=rfl
@[simp] theorem z5z{o:AO}{r:List AO}{e:Env}:Zes (o::r) e=match o.op with | .mov x=>Zes r (Zr e o.dst (ev e.get x)) | .app _ x _=>Zly (ev e.get x)++Zes r (Zr e o.dst .dead) | _=>Zes r (Zr e o.dst .dead):=rfl
@[simp] theorem z2g{h:Heap}:Zez [] h=h:=rfl
@[simp] theorem z0m{b:BId}{ids:List BId}{h:Heap}:Zez (b::ids) h=h.filter fun p=>!(b::ids).contains p.1:=rfl
noncomputable def kB(T:Tbl)(tl:List AO)(h0:Heap)(c0:Nat)(X:Heap)(d:Nat)(r:List AO)(e:Env)(h:Heap)(q:Option (AV×Heap×Nat)):Option St:=
 q.bind fun q=>if q.2.1.all (fun p=>(h.lookup p.1).isNone)=true then Za8 (orc T) T tl h0 c0 X r (Zr e (some d) q.1) (q.2.1++h) q.2.2 else none
@[congr] theorem zacp{tl:List AO}{h0:Heap}{c0:Nat}{X:Heap}{d:Nat}{r:List AO}{e:Env}{h:Heap}{q q':Option (AV×Heap×Nat)}(h1:q=q'):kB T tl h0 c0 X d r e h q=kB T tl h0 c0 X d r e h q':=by rw[h1]
@[simp] theorem zahb{tl:List AO}{h0:Heap}{c0:Nat}{X:Heap}{d:Nat}{r:List AO}{e:Env}{h:Heap}{q:AV×Heap×Nat}:kB T tl h0 c0 X d r e h (some q)=if q.2.1.all (fun p=>(h.lookup p.1).isNone)=true then Za8 (orc T) T tl h0 c0 X r (Zr e (some d) q.1) (q.2.1++h) q.2.2 else none:=rfl
noncomputable def lX(T:Tbl)(b:Option (Nat×List Opd))(tl:List AO)(h0:Heap)(c0:Nat)(X:Heap)(o:AO)(r:List AO)(e:Env)(h:Heap)(clk:Nat):Option St:=
 match b with
 | some ua=>
  match o.guard,o.dst with
  | none,some d=>kB T tl h0 c0 X d r e h (Zd4 (orc T) T ua.1 (ua.2.map (ev e.get)) d clk)
  | _,_=>none
 | none=>bD (qX (orc T) T o e h0 []) fun x=>if Zg8 c0 o.op e (gnA x.1)=true then Za8 (orc T) T tl h0 c0 X r (Zr e o.dst x.1) h clk else none
@[simp] theorem zahc{tl r:List AO}{h0:Heap}{c0:Nat}{X:Heap}{op:AOp}{dd u:Nat}{args:List Opd}{e:Env}{h:Heap}{clk:Nat}:lX T (some (u,args)) tl h0 c0 X ⟨some dd,none,op⟩ r e h clk=kB T tl h0 c0 X dd r e h (Zd4 (orc T) T u (args.map (ev e.get)) dd clk):=rfl
@[simp] theorem zahd{tl r:List AO}{h0:Heap}{c0:Nat}{X:Heap}{o:AO}{e:Env}{h:Heap}{clk:Nat}:lX T none tl h0 c0 X o r e h clk=bD (qX (orc T) T o e h0 []) fun x=>if Zg8 c0 o.op e (gnA x.1)=true then Za8 (orc T) T tl h0 c0 X r (Zr e o.dst x.1) h clk else none:=rfl
noncomputable def tX(T:Tbl)(tl:List AO)(h0:Heap)(c0:Nat)(X:Heap)(r:List AO)(b:Bool)(e:Env)(q:Option Heap)(clk:Nat):Option St:=
 q.bind fun h=>if b=true then Za8 (orc T) T tl h0 c0 X r e h clk else none
@[simp] theorem zahe{tl:List AO}{h0:Heap}{c0:Nat}{X:Heap}{r:List AO}{e:Env}{h:Heap}{clk:Nat}:tX T tl h0 c0 X r true e (some h) clk=Za8 (orc T) T tl h0 c0 X r e h clk:=rfl
noncomputable def sX(T:Tbl)(b:Bool)(tl:List AO)(h0:Heap)(c0:Nat)(X:Heap)(o:AO)(r:List AO)(e:Env)(h:Heap)(clk:Nat):Option St:=
 match b with
 | true=>
  match o.guard,o.dst with
  | none,none=>(stepW o.op none e.get h clk).bind fun q=>if Zf4 X o.op e=true then Za8 (orc T) T tl h0 c0 X r e q.2.1 q.2.2 else none
  | _,_=>none
 | false=>lX T o.op.lentN tl h0 c0 X o r e h clk
@[simp] theorem zahf{tl r:List AO}{h0:Heap}{c0:Nat}{X:Heap}{n:Nat}{x v:Opd}{e:Env}{h:Heap}{clk:Nat}:sX T true tl h0 c0 X ⟨none,none,.store n x v⟩ r e h clk=tX T tl h0 c0 X r (Zf4 X (.store n x v) e) e (Zc1 n h (ev e.get x) (ev e.get v)) clk:=by
 unfold sX tX;simp only[stepW];cases Zc1 n h (ev e.get x) (ev e.get v)<;>rfl
@[simp] theorem zacq{tl r:List AO}{h0:Heap}{c0:Nat}{X:Heap}{o:AO}{e:Env}{h:Heap}{clk:Nat}:sX T false tl h0 c0 X o r e h clk=lX T o.op.lentN tl h0 c0 X o r e h clk:=rfl
noncomputable def Zf5(r:Option (AV×Heap))(d clk:Nat):Option (AV×Heap×Nat):=
 r.bind fun r=>
  let hb':=r.2.map fun p=>(Za3 [] d p.1,Zam true (Za3 [] d) (Zbe [] clk) p.2)
  let r':=rlA (Za3 [] d) (Zbe [] clk) r.1
  if (hb'.map (·.1)).Nodup∧geB clk (gnA r')=true∧geH clk hb'=true then some (r',hb',clk+(r.2.length+2)) else none
theorem zuq{u:Nat}{xs:List AV}{dd clk:Nat}{np nt:Nat}{res:List RV}{b:AX}{ms:List Bool}{ex:Bool}(hT:T u=some ⟨np,nt,res,b,some ms,ex⟩)(hn:xs.all noRef=true) :
  Zd4 (orc T) T u xs dd clk=Zf5 (Zaa T u (xs.map fun y=>rlA (inN []) (inG []) (wkIf ex y)) []) dd clk:=by
 unfold Zd4 Zf5 Zaa;rw[hT];simp only[hn,if_true]
@[congr] theorem z0n{r r':Option (AV×Heap)}{dd clk:Nat}(h:r=r'):Zf5 r dd clk=Zf5 r' dd clk:=by rw[h]
@[simp] theorem z2h{r:AV×Heap}{dd clk:Nat}:Zf5 (some r) dd clk=if ((r.2.map fun p=>(Za3 [] dd p.1,Zam true (Za3 [] dd) (Zbe [] clk) p.2)).map (·.1)).Nodup∧geB clk (gnA (rlA (Za3 [] dd) (Zbe [] clk) r.1))=true∧geH clk (r.2.map fun p=>(Za3 [] dd p.1,Zam true (Za3 [] dd) (Zbe [] clk) p.2))=true then some (rlA (Za3 [] dd) (Zbe [] clk) r.1,r.2.map fun p=>(Za3 [] dd p.1,Zam true (Za3 [] dd) (Zbe [] clk) p.2),clk+(r.2.length+2)) else none:=rfl
noncomputable def mX(T:Tbl)(b:Bool)(tl:List AO)(h0:Heap)(c0:Nat)(X:Heap)(o:AO)(r:List AO)(e:Env)(h:Heap)(clk:Nat):Option St:=
 match b with
 | true=>
  match o.guard,o.dst with
  | none,some d=>uX T (Zic c0 h0 X h o.op e) tl h0 c0 X o.op d r e h clk
  | _,_=>none
 | false=>sX T o.op.isStore tl h0 c0 X o r e h clk
@[simp] theorem z50{tl r:List AO}{h0:Heap}{c0:Nat}{X:Heap}{o:AO}{e:Env}{h:Heap}{clk:Nat}:Za8 (orc T) T tl h0 c0 X (o::r) e h clk=mX T (AOp.maker o.op) tl h0 c0 X o r e h clk:=by
 unfold mX;simp only[Za8];cases AOp.maker o.op with
 | false=>
  unfold sX;simp only;cases AOp.isStore o.op with
  | true=>
   obtain⟨dd,g,op⟩:=o;cases g<;>cases dd<;>rfl
  | false=>
   unfold lX;simp only;cases AOp.lentN o.op with
   | none=>rfl
   | some ua=>
    obtain⟨dd,g,op⟩:=o;cases g<;>cases dd<;>rfl
 | true=>
  obtain⟨dd,g,op⟩:=o;cases g<;>cases dd<;>rfl
@[simp] theorem zahg{tl r:List AO}{h0:Heap}{c0:Nat}{X:Heap}{op:AOp}{dd:Nat}{e:Env}{h:Heap}{clk:Nat}:mX T true tl h0 c0 X ⟨some dd,none,op⟩ r e h clk=uX T (Zic c0 h0 X h op e) tl h0 c0 X op dd r e h clk:=rfl
@[simp] theorem zacr{tl r:List AO}{h0:Heap}{c0:Nat}{X:Heap}{o:AO}{e:Env}{h:Heap}{clk:Nat}:mX T false tl h0 c0 X o r e h clk=sX T o.op.isStore tl h0 c0 X o r e h clk:=rfl
@[simp] theorem zahh{hd tl:List AO}:evX (orc T) T k (.drawM hd tl) st=stX (Za8 (orc T) T tl (Zez (Zes hd st.env) st.heap) st.clk st.heap hd st.env st.heap st.clk):=rfl
@[simp] theorem zamy{n x}:opX (orc T) T (.ifc n x) d st=some ⟨Zr st.env d (.ifc (Zo T n) (ev st.env.get x)),st.heap,st.clk⟩:=rfl
noncomputable def iS(T:Tbl)(x:AV)(nm:String)(n u:Nat)(args:List AV)(d:Option Nat)(st:St):Option St:=
 match x with
 | .ifc t y=>if t=Zo T n∧(nm,u)∈Z5 T n then Zc (orc T) T u (y::args) d st else none
 | .fnv f x=>if nm="()"∧f=Zo T n∧Zeq T n=some u then Zc (orc T) T u (x::args) d st else none
 | .fnp f id g z i o=>if nm="()"∧f=Zo T n∧Zeq T n=some u then Zc (orc T) T u (args++[.ptr id g z i o]) d st else none
 | _=>none
@[congr] theorem zacs{x x':AV}{nm:String}{n u:Nat}{args args':List AV}{d:Option Nat}{st:St}(h1:x=x')(h2:args=args'):iS T x nm n u args d st=iS T x' nm n u args' d st:=by rw[h1,h2]
@[simp] theorem zamz{nm n u r args}:opX (orc T) T (.inv nm n u r args) d st=iS T (ev st.env.get r) nm n u (args.map (ev st.env.get)) d st:=by
 simp only[opX];cases ev st.env.get r<;>rfl
@[simp] theorem zaki{y:AV}{nm:String}{n u:Nat}{args:List AV}{st:St}:iS T (.ifc (Zo T n) y) nm n u args d st=if (nm,u)∈Z5 T n then Zc (orc T) T u (y::args) d st else none:=by
 unfold iS;simp only[true_and]
@[simp] theorem zakj{x:AV}{n u:Nat}{args:List AV}{st:St}:iS T (.fnv (Zo T n) x) "()" n u args d st=if Zeq T n=some u then Zc (orc T) T u (x::args) d st else none:=by
 unfold iS;simp only[true_and]
@[simp] theorem zakk{id:BId}{g z i o n u:Nat}{args:List AV}{st:St}:iS T (.fnp (Zo T n) id g z i o) "()" n u args d st=if Zeq T n=some u then Zc (orc T) T u (args++[.ptr id g z i o]) d st else none:=by
 unfold iS;simp only[true_and]
@[simp] theorem zam0{n x}{e:Env}{h:Heap}{older:List Heap}:opD (orc T) T (.ifc n x) e h older=some (.ifc (Zo T n) (ev e.get x)):=rfl
noncomputable def dI(T:Tbl)(u:Nat)(xs:List AV):Option AV:=
 match T u with
 | none=>none
 | some af=>if (af.lent.isNone&&xs.all noRef)=true then ((orc T).call u (xs.map (wkIf af.exact)) []).map (·.1) else none
noncomputable def iD(T:Tbl)(x:AV)(nm:String)(n u:Nat)(args:List AV):Option AV:=
 match x with
 | .ifc t y=>if t=Zo T n∧(nm,u)∈Z5 T n then dI T u (drp1 y::args) else none
 | _=>none
@[congr] theorem zact{x x':AV}{nm:String}{n u:Nat}{args args':List AV}(h1:x=x')(h2:args=args'):iD T x nm n u args=iD T x' nm n u args':=by rw[h1,h2]
@[simp] theorem zam1{nm n u r args}{e:Env}{h:Heap}{older:List Heap}:opD (orc T) T (.inv nm n u r args) e h older=iD T (ev e.get r) nm n u (args.map (ev e.get)):=by
 simp only[opD];cases ev e.get r<;>rfl
@[simp] theorem zakl{y:AV}{nm:String}{n u:Nat}{args:List AV}:iD T (.ifc (Zo T n) y) nm n u args=if (nm,u)∈Z5 T n then dI T u (drp1 y::args) else none:=by
 unfold iD;simp only[true_and]
theorem zye{u:Nat}{xs:List AV}{np nt:Nat}{res:List RV}{b:AX}{ex:Bool}(hT:T u=some ⟨np,nt,res,b,none,ex⟩):dI T u xs=dR (Zb T u (xs.map (wkIf ex))) xs:=by
 unfold dI dR Zb;simp only[hT,Option.isNone_none,Ybd]
theorem zp3{n t:Nat}{res:List RV}{x:String×Nat}(hT:T (1000000+n)=some ⟨t,0,res,.bad,none,false⟩):x∈Z5 T n↔x∈Zep ⟨t,0,res,.bad,none,false⟩:=by
 unfold Z5;rw[hT]
 rfl
@[simp] theorem zahi{hd tl:List AO}:evX (orc T) T k (.drawT hd tl) st=stX (Zdg (orc T) T tl hd st.env st.heap st.clk):=rfl
attribute [simp] Zey Za9 Zio Zjf Zi5 Zh9 Zia ghS Zc8 reach Zla Zd3 Zcx Zch kids Zam
attribute [simp] gnA gnR Zg8 Zib Zff Zec AOp.maker drp1 drpC AOp.lentN AOp.isStore Zf4 geB geH
attribute [simp] AOp.writes AOp.free Zge Ze1 Ze5 Zc1 Zd9 Zgg
attribute [simp] AOp.callN Zg7 Zbw Zh8 shR
end
end
section
open Go.RowKit
def Zgj(a b:Nat):Nat:=(((a:Int)-b)%4294967296).toNat
def Zdo(a b:Nat):Nat:=(((a:Int)-b)%18446744073709551616).toNat
def Zny(a b:Nat):Nat:=(((a:Int)-b)%256).toNat
theorem zev{a b:Nat}(h:b≤a)(h2:a<18446744073709551616):Zdo a b=a-b:=by unfold Zdo;omega
theorem zur(n:Int):IntKind.wrap .u32 n=(((n%4294967296).toNat:Nat):Int):=by
 simp[IntKind.wrap,IntKind.signed,IntKind.bits];omega
theorem zia(n:Int):IntKind.wrap .u64 n=(((n%18446744073709551616).toNat:Nat):Int):=by
 simp[IntKind.wrap,IntKind.signed,IntKind.bits];omega
@[simp] theorem z8i(n:Int)(h1:-9223372036854775808≤n)(h2:n<9223372036854775808):IntKind.wrap .i64 n=n:=zad n ⟨h1,h2⟩
@[simp] theorem z51(a b:Nat):((a:Int)+(b:Int)).toNat=a+b:=by omega
@[simp] theorem z2i(a b:Nat):(0:Int)≤(a:Int)+(b:Int):=by omega
@[simp] theorem z2j(a:Nat):(0:Int)≤(a:Int)+1:=by omega
@[simp] theorem z2k(a b:Nat):((a:Int)+(b:Int)+1).toNat=a+b+1:=by omega
@[simp] theorem z0o(a b:Nat):(0:Int)≤(a:Int)+(b:Int)+1:=by omega
section
variable(a b:Nat)(k:IntKind)(n:Int)
@[simp] theorem zam2:Zag .add (u32 a) (u32 b)=some (u32 ((a+b)%4294967296)):=by
 simp only[u32,zpn,←Int.natCast_add,zd0]
@[simp] theorem zam3:Zag .add (u64 a) (u64 b)=some (u64 ((a+b)%18446744073709551616)):=by
 simp only[u64,zpn,←Int.natCast_add,zeu]
@[simp] theorem zam4:Zag .mul (u32 a) (u32 b)=some (u32 ((a*b)%4294967296)):=by
 simp only[u32,zpp,←Ydg,zd0]
@[simp] theorem zam5:Zag .mul (u64 a) (u64 b)=some (u64 ((a*b)%18446744073709551616)):=by
 simp only[u64,zpp,←Ydg,zeu]
@[simp] theorem zakm:Zag .sub (u32 a) (u32 b)=some (u32 (Zgj a b)):=by
 simp only[u32,zpo,zur,Zgj]
@[simp] theorem zakn:Zag .sub (u64 a) (u64 b)=some (u64 (Zdo a b)):=by
 simp only[u64,zpo,zia,Zdo]
theorem zp4:((a:Int).tdiv (b:Int))=((a/b:Nat):Int):=by rw[Int.ofNat_tdiv]
theorem zp5:((a:Int).tmod (b:Int))=((a%b:Nat):Int):=by rw[Int.ofNat_tmod]
@[simp] theorem zam6:Zag .quo (u32 a) (u32 b)=if b=0 then none else some (u32 (a/b%4294967296)):=by
 simp only[u32,zpq,zp4,zd0,Ydc]
@[simp] theorem zam7:Zag .quo (u64 a) (u64 b)=if b=0 then none else some (u64 (a/b%18446744073709551616)):=by
 simp only[u64,zpq,zp4,zeu,Ydc]
@[simp] theorem zam8:Zag .rem (u32 a) (u32 b)=if b=0 then none else some (u32 (a%b)):=by
 simp only[u32,zpr,zp5,Ydc]
@[simp] theorem zam9:Zag .rem (u64 a) (u64 b)=if b=0 then none else some (u64 (a%b)):=by
 simp only[u64,zpr,zp5,Ydc]
theorem bvn(w:Nat):(BitVec.ofInt w (a:Int)).toNat=a%2^w:=by simp
@[simp] theorem or32:Zag .or (u32 a) (u32 b)=some (u32 ((a ||| b)%4294967296)):=by
 have h:=Nat.or_mod_two_pow (a:=a) (b:=b) (n:=32);have e:((BitVec.ofInt 32 (a:Int) ||| BitVec.ofInt 32 (b:Int)).toNat)=(a ||| b)%2^32:=by rw[BitVec.toNat_or,bvn,bvn,←h]
 show some (AV.i .u32 (IntKind.wrap .u32 (((BitVec.ofInt 32 (a:Int) ||| BitVec.ofInt 32 (b:Int)).toNat:Nat):Int)))=_;rw[e,zd0];simp[u32]
@[simp] theorem or64:Zag .or (u64 a) (u64 b)=some (u64 ((a ||| b)%18446744073709551616)):=by
 have h:=Nat.or_mod_two_pow (a:=a) (b:=b) (n:=64);have e:((BitVec.ofInt 64 (a:Int) ||| BitVec.ofInt 64 (b:Int)).toNat)=(a ||| b)%2^64:=by rw[BitVec.toNat_or,bvn,bvn,←h]
 show some (AV.i .u64 (IntKind.wrap .u64 (((BitVec.ofInt 64 (a:Int) ||| BitVec.ofInt 64 (b:Int)).toNat:Nat):Int)))=_;rw[e,zeu];simp[u64]
theorem zmm(m:Nat):((a:Int)*2^m)=((a*2^m:Nat):Int):=by simp
theorem zju(m:Nat):((a:Int).fdiv (2^m))=((a/2^m:Nat):Int):=by
 rw[Int.fdiv_eq_ediv_of_nonneg _ (Int.pow_nonneg (by decide))];simp
@[simp] theorem zana:Zag .shl (u32 a) (.i k n)=if n<0 then none else some (u32 (a*2^(min n.toNat 32)%4294967296)):=by
 simp only[u32,Zag,IntKind.bits,zmm,zd0]
@[simp] theorem zahj:Zag .shl (u64 a) (.i k n)=if n<0 then none else some (u64 (a*2^(min n.toNat 64)%18446744073709551616)):=by
 simp only[u64,Zag,IntKind.bits,zmm,zeu]
@[simp] theorem zanb:Zag .shr (u32 a) (.i k n)=if n<0 then none else some (u32 (a/2^(min n.toNat 32))):=by
 simp only[u32,Zag,IntKind.bits,zju]
@[simp] theorem zahk:Zag .shr (u64 a) (.i k n)=if n<0 then none else some (u64 (a/2^(min n.toNat 64))):=by
 simp only[u64,Zag,IntKind.bits,zju]
@[simp] theorem z0p:¬ ((b:Int)<0):=by omega
@[simp] theorem zako:Zag .shl (u64 a) (u64 b)=some (u64 (a*2^(min b 64)%18446744073709551616)):=by
 rw[show u64 b=.i .u64 (b:Int) from rfl,zahj,if_neg (z0p b),Yag]
@[simp] theorem zakp:Zag .shr (u64 a) (u64 b)=some (u64 (a/2^(min b 64))):=by
 rw[show u64 b=.i .u64 (b:Int) from rfl,zahk,if_neg (z0p b),Yag]
@[simp] theorem zanc:Zag .eql (u32 a) (u32 b)=some (.b (decide (a=b))):=by
 simp only[u32,zps,Option.some.injEq,AV.b.injEq];rw[Ybb];simp[Ycv]
@[simp] theorem zand:Zag .neq (u32 a) (u32 b)=some (.b (!decide (a=b))):=by
 simp only[u32,zpt,Option.some.injEq,AV.b.injEq];rw[Ybb];simp[Ycv]
@[simp] theorem zane:Zag .lss (u32 a) (u32 b)=some (.b (decide (a<b))):=by simp[u32,zkm]
@[simp] theorem zanf:Zag .leq (u32 a) (u32 b)=some (.b (decide (a≤b))):=by simp[u32,zx0]
@[simp] theorem zang:Zag .gtr (u32 a) (u32 b)=some (.b (decide (b<a))):=by simp[u32,zx1]
@[simp] theorem zanh:Zag .geq (u32 a) (u32 b)=some (.b (decide (b≤a))):=by simp[u32,zx2]
@[simp] theorem zani:Zag .neq (u64 a) (u64 b)=some (.b (!decide (a=b))):=by
 simp only[u64,zpt,Option.some.injEq,AV.b.injEq];rw[Ybb];simp[Ycv]
@[simp] theorem zanj:Zag .lss (u64 a) (u64 b)=some (.b (decide (a<b))):=by simp[u64,zkm]
@[simp] theorem eql8:Zag .eql (u8 a) (u8 b)=some (.b (decide (a=b))):=by
 simp only[u8,zps,Option.some.injEq,AV.b.injEq];rw[Ybb];simp[Ycv]
@[simp] theorem lss8:Zag .lss (u8 a) (u8 b)=some (.b (decide (a<b))):=by simp[u8,zkm]
@[simp] theorem z52:Zb2 .u64 (u32 a)=some (u64 (a%18446744073709551616)):=by simp only[u32,u64,Zb2,zeu]
@[simp] theorem z53:Zb2 .u32 (u64 a)=some (u32 (a%4294967296)):=by simp only[u32,u64,Zb2,zd0]
@[simp] theorem z8j:Zb2 .u8 (u32 a)=some (u8 (a%256)):=by simp only[u32,u8,Zb2,z19]
@[simp] theorem z8k:Zb2 .u64 (.i .i64 n)=some (u64 (n%18446744073709551616).toNat):=by simp only[u64,Zb2,zia]
@[simp] theorem z8l:Zb2 .i64 (u32 a)=some (.i .i64 (IntKind.wrap .i64 a)):=rfl
@[simp] theorem z8m:Zb2 .i64 (u64 a)=some (.i .i64 (IntKind.wrap .i64 a)):=rfl
@[simp] theorem zacu:Zb2 .i64 (u8 a)=some (.i .i64 (IntKind.wrap .i64 a)):=rfl
@[simp] theorem zacv:Zb2 .i64 (.i .i64 n)=some (.i .i64 (IntKind.wrap .i64 n)):=rfl
@[simp] theorem zank:Zgt .neg (u64 a)=some (u64 (Zdo 0 a)):=by simp[u64,Zgt,zia,Zdo]
@[simp] theorem zanl:Zgt .neg (.i .i64 n)=some (.i .i64 (IntKind.wrap .i64 (0-n))):=rfl
@[simp] theorem zanm(t:Bool):Zgt .not (.b t)=some (.b (!t)):=rfl
@[simp] theorem zakq(m:Nat)(y:Int):bnd (u8 m) y=if 0≤(m:Int)∧(m:Int)≤y then some m else none:=rfl
@[simp] theorem zahl(m:Nat)(y:Int):bnd (u32 m) y=if 0≤(m:Int)∧(m:Int)≤y then some m else none:=rfl
@[simp] theorem zahm(m:Nat)(y:Int):bnd (u64 m) y=if 0≤(m:Int)∧(m:Int)≤y then some m else none:=rfl
attribute [simp] Zex Zgw Zhu
@[simp] theorem zakr(l:List UInt8):Zht (.s l) (.i k n)=if 0≤n∧n<l.length then (l[n.toNat]?).map fun b=>u8 b.toNat else none:=rfl
@[simp] theorem zacw(k':IntKind)(x y:Int):Zf0 .int (.i k x) (.i k' y)=if k=k' then some (x == y) else none:=rfl
end
@[simp] theorem zahn(a b:Nat):u32 a=u32 b↔a=b:=by simp[u32,Ycv]
@[simp] theorem zaho(a b:Nat):u64 a=u64 b↔a=b:=by simp[u64,Ycv]
theorem zam(x:UInt32):x.toNat<4294967296:=x.toNat_lt
@[simp] theorem zahp(x:UInt32):x.toNat<4294967296:=x.toNat_lt
def w32(n:Nat):UInt32:=UInt32.ofNat n
theorem zby(n:Nat):(w32 n).toNat=n%4294967296:=UInt32.toNat_ofNat' ..
theorem zag{n:Nat}(h:n<4294967296):(w32 n).toNat=n:=by rw[zby,Yi h]
@[simp] theorem z54(x:UInt32):w32 x.toNat=x:=UInt32.ofNat_toNat
def Za(l:List UInt32):List (List AV):=l.map fun x=>[u32 x.toNat]
def ints(l:List Int):List (List AV):=l.map fun x=>[.i .i64 x]
def u8s(l:List UInt8):List (List AV):=l.map fun x=>[u8 x.toNat]
section
variable(l m:List UInt32)(x:UInt32)
@[simp] theorem zacx:Za []=[]:=rfl
@[simp] theorem zib:(Za l).length=l.length:=by simp[Za]
@[simp] theorem zahq:wkL (Za l)=Za l:=by
 rw[zbq];simp[Za,wkR]
@[simp] theorem z8n(n:Nat):(Za l).take n=Za (l.take n):=by simp[Za]
@[simp] theorem z8o(n:Nat):(Za l).drop n=Za (l.drop n):=by simp[Za]
@[simp] theorem z2l:Za l++Za m=Za (l++m):=by simp[Za]
@[simp] theorem z8p(n:Nat)(h:n<4294967296):Za l++[[u32 n]]=Za (l++[w32 n]):=by simp[Za,zag h]
@[simp] theorem u32s_getElem?(i:Nat):(Za l)[i]? = (l[i]?).map fun x=>[u32 x.toNat]:=by simp[Za]
@[simp] theorem z0q(i:Nat)(h:i<(Za l).length):(Za l)[i]=[u32 (l[i]'(by simpa using h)).toNat]:=by simp[Za]
theorem zbi(i:Nat)(n:Nat)(h:n<4294967296):(Za l).set i [u32 n]=Za (l.set i (w32 n)):=by simp[Za,Ycw,zag h]
@[simp] theorem z8q(i n:Nat):(Za l).set i [u32 (n%4294967296)]=Za (l.set i (w32 n)):=by simp[Za,Ycw,zby]
@[simp] theorem zacy(n:Nat):List.replicate n [u32 0]=Za (List.replicate n 0):=by simp[Za]
@[simp] theorem z8r(z:Nat):((Za l).head?.all fun r=>decide (r.length=z))=(l.isEmpty || decide (z=1)):=by
 cases l<;>simp[Za,eq_comm]
end
end
section
open Go.RowKit
abbrev mv(d s:Nat):AO:=⟨some d,none,.mov (.t s)⟩
abbrev rg(d:Nat)(op:AOp):AO:=⟨some d,none,op⟩
abbrev gd(d t:Nat)(b:Bool)(op:AOp):AO:=⟨some d,some (t,b),op⟩
abbrev so(op:AOp):AO:=⟨none,none,op⟩
section
variable(T:Tbl)(u:Nat)(ex:Bool)(ms:List Bool)(xs:List AV)(d:Option Nat)(st:St)(ps:List Opd)(e:Env)
@[simp] noncomputable def cP:Option St:=bL (Zjo st.heap xs) fun ys=>cR (Zb T u (ys.map (wkIf ex))) xs d st
@[simp] noncomputable def cL:Option St:=bL (Zea st.heap ms xs) fun ys=>Zdn ys (Zj (Zas ms xs) st.heap) (reach (Zj (Zas ms xs) st.heap) 40 (Zcc ms xs) []) T u ex d st
@[simp] noncomputable def dP:Option AV:=dR (Zb T u ((ps.map (ev e.get)).map (wkIf ex))) (ps.map (ev e.get))
end
section
variable{T:Tbl}{k:Nat}
theorem za0{id:Nat}{g2:Gh}{c:AX}(S:Nat→St)(n:Nat)(G:Option (Ex×St))(step:∀i,i<n→evX (orc T) T k c (S i)=some (.n,S (i+1)))
  (fin:Zd5 (evX (orc T) T k c (S n))=true∧Zde k id g2 (evX (orc T) T k c (S n))=G):Zn T k id g2 c (S 0)=G:=
 zaz S (fun i=>i≤n) (fun i=>n-i) (fun _=>G) (by
  intro i hi;by_cases h:i<n
  ·exact .inl ⟨i+1,h,by show n-(i+1)<n-i;omega,step i h,rfl⟩
  ·have:i=n:=by omega
   subst this;exact .inr fin) 0 (Yr _)
theorem zbd{id:Nat}{g2:Gh}{c:AX}(S:Nat→St)(n:Nat)(G:Nat→Option (Ex×St))
  (step:∀i,i<n→(evX (orc T) T k c (S i)=some (.n,S (i+1))∧G (i+1)=G i)∨(Zd5 (evX (orc T) T k c (S i))=true∧Zde k id g2 (evX (orc T) T k c (S i))=G i))
  (fin:Zd5 (evX (orc T) T k c (S n))=true∧Zde k id g2 (evX (orc T) T k c (S n))=G n):Zn T k id g2 c (S 0)=G 0:=
 zaz S (fun i=>i≤n) (fun i=>n-i) G (by
  intro i hi;by_cases h:i<n
  ·rcases step i h with ⟨h1,h2⟩ | h1
   ·exact .inl ⟨i+1,h,by show n-(i+1)<n-i;omega,h1,h2⟩
   ·exact .inr h1
  ·have:i=n:=by omega
   subst this;exact .inr fin) 0 (Yr _)
end
theorem zbs{i n:Nat}(h:i<n)(hn:n≤4294967296):IntKind.wrap .i64 ((i:Int)+1)=((i+1:Nat):Int):=zad _ (by omega)
end
def b115:AX:=
 (.seq
 (.reg [rg 6 (.mov (.c (u32 0))),rg 7 (.mov (.c (u32 0)))])
 (.seq
 (.reg [mv 8 0,mv 9 1,rg 10 (.bin .add (.t 8) (.t 9)),mv 6 10])
 (.seq
 (.seq
 (.reg [mv 11 6,mv 12 0,rg 13 (.bin .lss (.t 11) (.t 12))])
 (.cond (.t 13)
 (.reg [mv 14 7,rg 15 (.bin .add (.t 14) (.c (u32 1))),mv 7 15])
 .skip))
 (.seq
 (.reg [mv 16 6,mv 17 2,rg 18 (.bin .add (.t 16) (.t 17)),mv 6 18])
 (.seq
 (.seq
 (.reg [mv 19 6,mv 20 2,rg 21 (.bin .lss (.t 19) (.t 20))])
 (.cond (.t 21)
 (.reg [mv 22 7,rg 23 (.bin .add (.t 22) (.c (u32 1))),mv 7 23])
 .skip))
 (.seq
 (.reg [mv 24 6,mv 25 7,mv 6 24,mv 7 25])
 (.pre (.norm false [6,7]) .ret)))))))
def b116:AX:=
 (.seq
 (.reg [rg 6 (.mov (.c (u32 0))),rg 7 (.mov (.c (u32 0)))])
 (.seq
 (.reg [mv 8 0,mv 9 1,rg 10 (.bin .sub (.t 8) (.t 9)),mv 6 10])
 (.seq
 (.seq
 (.reg [mv 11 0,mv 12 1,rg 13 (.bin .lss (.t 11) (.t 12))])
 (.cond (.t 13)
 (.reg [mv 14 7,rg 15 (.bin .add (.t 14) (.c (u32 1))),mv 7 15])
 .skip))
 (.seq
 (.seq
 (.reg [mv 16 6,mv 17 2,rg 18 (.bin .lss (.t 16) (.t 17))])
 (.cond (.t 18)
 (.reg [mv 19 7,rg 20 (.bin .add (.t 19) (.c (u32 1))),mv 7 20])
 .skip))
 (.seq
 (.reg [mv 21 6,mv 22 2,rg 23 (.bin .sub (.t 21) (.t 22)),mv 24 7,mv 6 23,mv 7 24])
 (.pre (.norm false [6,7]) .ret))))))
def b117:AX:=
 (.seq
 (.reg [rg 8 (.mov (.c (u32 0))),rg 9 (.mov (.c (u32 0)))])
 (.seq
 (.reg [mv 11 0,rg 12 (.conv .u64 (.t 11)),mv 13 1,rg 14 (.conv .u64 (.t 13)),rg 15 (.bin .mul (.t 12) (.t 14)),mv 16 2,rg 17 (.conv .u64 (.t 16)),rg 18 (.bin .add (.t 15) (.t 17)),mv 19 3,rg 20 (.conv .u64 (.t 19)),rg 21 (.bin .add (.t 18) (.t 20)),mv 10 21])
 (.seq
 (.reg [mv 22 10,rg 23 (.bin .shr (.t 22) (.c (u64 32))),rg 24 (.conv .u32 (.t 23)),mv 25 10,rg 26 (.conv .u32 (.t 25)),mv 8 24,mv 9 26])
 (.pre (.norm false [8,9]) .ret))))
def b118:AX:=
 (.seq
 (.reg [rg 6 (.mov (.c (u32 0))),rg 7 (.mov (.c (u32 0))),rg 8 (.mov (.c (.b false)))])
 (.seq
 (.seq
 (.reg [mv 10 0,mv 11 2,rg 12 (.bin .geq (.t 10) (.t 11))])
 (.cond (.t 12)
 (.seq
 (.reg [rg 6 (.mov (.c (u32 0))),rg 7 (.mov (.c (u32 0))),rg 8 (.mov (.c (.b false)))])
 (.pre (.norm false [6,7,8]) .ret))
 .skip))
 (.seq
 (.reg [mv 13 0,rg 14 (.conv .u64 (.t 13)),rg 15 (.bin .shl (.t 14) (.c (u64 32))),mv 16 1,rg 17 (.conv .u64 (.t 16)),rg 18 (.bin .or (.t 15) (.t 17)),mv 9 18])
 (.seq
 (.drawT [mv 19 9,mv 20 2,rg 21 (.conv .u64 (.t 20)),rg 22 (.bin .quo (.t 19) (.t 21)),rg 23 (.conv .u32 (.t 22)),mv 24 9,mv 25 2,rg 26 (.conv .u64 (.t 25)),rg 27 (.bin .rem (.t 24) (.t 26)),rg 28 (.conv .u32 (.t 27)),mv 6 23]
 [mv 7 28,rg 8 (.mov (.c (.b true)))])
 (.pre (.norm false [6,7,8]) .ret)))))
def l91_0:AX:=
 (.note
 (.seq
 (.seq
 (.reg [mv 5 4,rg 6 (.bin .gtr (.t 5) (.c (.i .i64 0)))])
 (.cond (.t 6)
 .skip
 (.exit 0)))
 (.seq
 (.block 1
 (.seq
 (.reg [mv 9 0,mv 10 4,rg 11 (.bin .shr (.t 9) (.t 10)),rg 12 (.bin .neq (.t 11) (.c (u32 0)))])
 (.cond (.t 12)
 (.seq
 (.reg [mv 13 0,mv 14 4,rg 15 (.bin .shr (.t 13) (.t 14)),mv 0 15])
 (.reg [mv 16 3,mv 17 4,rg 18 (.bin .add (.t 16) (.t 17)),mv 3 18]))
 .skip)))
 (.reg [mv 7 4,rg 8 (.bin .quo (.t 7) (.c (.i .i64 2))),mv 4 8])))
 (.norm false [0,3,4]))
def b91:AX:=
 (.seq
 (.reg [rg 2 (.mov (.c (.i .i64 0)))])
 (.seq
 (.reg [rg 3 (.mov (.c (.i .i64 0)))])
 (.seq
 (.seq
 (.reg [rg 4 (.mov (.c (.i .i64 16)))])
 (.lp 0 (.norm false [0,3,4]) l91_0 (.norm false [0,3])))
 (.seq
 (.reg [mv 19 3,mv 20 0,rg 21 (.conv .i64 (.t 20)),rg 22 (.bin .add (.t 19) (.t 21)),mv 2 22])
 (.pre (.norm false [2]) .ret)))))
def row115:AFx:=⟨3,26,[.t 6,.t 7],b115,none,false⟩
def row116:AFx:=⟨3,25,[.t 6,.t 7],b116,none,false⟩
def row117:AFx:=⟨4,27,[.t 8,.t 9],b117,none,false⟩
def row118:AFx:=⟨3,29,[.t 6,.t 7,.t 8],b118,none,false⟩
def row91:AFx:=⟨1,23,[.t 2],b91,none,false⟩
class Z7 (T:Tbl):Prop where
 h115:T 115=some row115
 h116:T 116=some row116
 h117:T 117=some row117
 h118:T 118=some row118
 h91:T 91=some row91
section
variable{T:Tbl}[Z7 T]{d:Option Nat}{st:St}
@[simp] theorem x115(xs:List AV):Zc (orc T) T 115 xs d st=cP T 115 false xs d st:=zab Z7.h115
@[simp] theorem x116(xs:List AV):Zc (orc T) T 116 xs d st=cP T 116 false xs d st:=zab Z7.h116
@[simp] theorem x117(xs:List AV):Zc (orc T) T 117 xs d st=cP T 117 false xs d st:=zab Z7.h117
@[simp] theorem x118(xs:List AV):Zc (orc T) T 118 xs d st=cP T 118 false xs d st:=zab Z7.h118
@[simp] theorem x91(xs:List AV):Zc (orc T) T 91 xs d st=cP T 91 false xs d st:=zab Z7.h91
end
section
variable{T:Tbl}[Z7 T]
theorem zyx(x y c:UInt32):Zb T 115 [u32 x.toNat,u32 y.toNat,u32 c.toNat] =
  some (.tup [u32 (w32 (x.toNat+y.toNat+c.toNat)).toNat,u32 (w32 ((x.toNat+y.toNat+c.toNat)/4294967296)).toNat]):=by
 have hx:=zam x;have hy:=zam y;have hc:=zam c;rw[zaa Z7.h115 rfl,b115];simp[zby]
 repeat' split
 all_goals simp
 all_goals omega
theorem zyy(x y b:UInt32):Zb T 116 [u32 x.toNat,u32 y.toNat,u32 b.toNat] =
  some (.tup [u32 (w32 (x.toNat+8589934592-(y.toNat+b.toNat))).toNat,u32 (w32 (2-(x.toNat+8589934592-(y.toNat+b.toNat))/4294967296)).toNat]):=by
 have hx:=zam x;have hy:=zam y;have hb:=zam b;rw[zaa Z7.h116 rfl,b116];by_cases h1:x.toNat<y.toNat <;>
 by_cases h2:Zgj x.toNat y.toNat<b.toNat <;>
 ·simp[h1,h2,zby];unfold Zgj at *
  omega
theorem zij{a b:Nat}(ha:a<4294967296)(hb:b<4294967296):a*b≤18446744065119617025:=by
 have:a*b≤4294967295*4294967295:=Ycq (by omega) (by omega);omega
theorem zyz(x y c d:UInt32):Zb T 117 [u32 x.toNat,u32 y.toNat,u32 c.toNat,u32 d.toNat] =
  some (.tup [u32 (w32 ((x.toNat*y.toNat+c.toNat+d.toNat)/4294967296)).toNat,u32 (w32 (x.toNat*y.toNat+c.toNat+d.toNat)).toNat]):=by
 have hx:=zam x;have hy:=zam y;have hc:=zam c;have hd:=zam d;have hm:=zij hx hy;rw[zaa Z7.h117 rfl,b117];simp[zby];generalize x.toNat*y.toNat=m at *
 omega
theorem zqa(hi lo y:UInt32):Zb T 118 [u32 hi.toNat,u32 lo.toNat,u32 y.toNat] =
  some (if y.toNat≤hi.toNat then .tup [u32 0,u32 0,.b false]
   else .tup [u32 (w32 ((hi.toNat*4294967296+lo.toNat)/y.toNat)).toNat,u32 (w32 ((hi.toNat*4294967296+lo.toNat)%y.toNat)).toNat,.b true]):=by
 have hx:=zam hi;have hy:=zam y;have hl:=zam lo;rw[zaa Z7.h118 rfl,b118];by_cases h1:y.toNat≤hi.toNat
 ·simp[h1]
 ·have h2:¬ y.toNat=0:=by omega
  simp[h1,h2,zby];have e:hi.toNat*4294967296%18446744073709551616=hi.toNat*4294967296:=Yi (by omega);have e2:(hi.toNat*4294967296) ||| lo.toNat=hi.toNat*4294967296+lo.toNat:=by
   have:=Ycz (i:=32) hl hi.toNat;rw[Yad hi.toNat,show (4294967296:Nat)=2^32 from rfl,this]
  have h3:(hi.toNat*4294967296+lo.toNat)/y.toNat<4294967296:=by
   rw[Ybl (by omega)];have:=Yak 4294967296 (show hi.toNat+1≤y.toNat by omega);omega
  rw[e,e2,Yi (show hi.toNat*4294967296+lo.toNat<18446744073709551616 by omega)];exact⟨rfl,rfl⟩
theorem zei(x y c:Nat)(hx:x<4294967296)(hy:y<4294967296)(hc:c<4294967296):Zb T 115 [u32 x,u32 y,u32 c]=some (.tup [u32 ((x+y+c)%4294967296),u32 ((x+y+c)/4294967296)]):=by
 have:=zyx (T:=T) (w32 x) (w32 y) (w32 c);rw[zag hx,zag hy,zag hc,zby,zag (by omega)]at this;exact this
theorem zf6(x y b:Nat)(hx:x<4294967296)(hy:y<4294967296)(hb:b<4294967296):Zb T 116 [u32 x,u32 y,u32 b] =
  some (.tup [u32 ((x+8589934592-(y+b))%4294967296),u32 (2-(x+8589934592-(y+b))/4294967296)]):=by
 have:=zyy (T:=T) (w32 x) (w32 y) (w32 b);rw[zag hx,zag hy,zag hb,zby,zag (by omega)]at this;exact this
theorem zik(x y c d:Nat)(hx:x<4294967296)(hy:y<4294967296)(hc:c<4294967296)(hd:d<4294967296):Zb T 117 [u32 x,u32 y,u32 c,u32 d] =
  some (.tup [u32 ((x*y+c+d)/4294967296),u32 ((x*y+c+d)%4294967296)]):=by
 have:=zyz (T:=T) (w32 x) (w32 y) (w32 c) (w32 d);have hm:=zij hx hy;rw[zag hx,zag hy,zag hc,zag hd,zby (x*y+c+d),zag (by omega)]at this;exact this
theorem z0u{hi lo y:Nat}(h:hi<y)(hl:lo<4294967296):(hi*4294967296+lo)/y<4294967296:=by
 rw[Ybl (by omega)];have:=Yak 4294967296 (show hi+1≤y by omega);omega
theorem zmv(hi lo y:Nat)(hx:hi<y)(hl:lo<4294967296)(hy:y<4294967296):Zb T 118 [u32 hi,u32 lo,u32 y] =
  some (.tup [u32 ((hi*4294967296+lo)/y),u32 ((hi*4294967296+lo)%y),.b true]):=by
 have:=zqa (T:=T) (w32 hi) (w32 lo) (w32 y);rw[zag (show hi<4294967296 by omega),zag hl,zag hy,zag (z0u hx hl),zag (by have:=Ya3 (hi*4294967296+lo) (show 0<y by omega);omega),if_neg (by omega)]at this;exact this
theorem zr0(hi lo y:Nat)(hx:y≤hi)(hh:hi<4294967296)(hl:lo<4294967296):Zb T 118 [u32 hi,u32 lo,u32 y]=some (.tup [u32 0,u32 0,.b false]):=by
 have:=zqa (T:=T) (w32 hi) (w32 lo) (w32 y);rw[zag hh,zag hl,zag (show y<4294967296 by omega),if_pos hx]at this;exact this
def Za1(n:Nat):Nat:=if n=0 then 0 else n.log2+1
theorem zj1{n s:Nat}(h:n/2^s≠0):Za1 n=s+Za1 (n/2^s):=by
 have hn:n≠0:=by rintro rfl;simp at h
 have hlog:(n/2^s).log2+s=n.log2:=by
  have h1:=Nat.log2_self_le h;have h2:=Yew (n:=n/2^s);have h3:=Nat.log2_self_le hn;have h4:=Yew (n:=n);have hp:0<2^s:=Ya2 (by decide);have a1:2^((n/2^s).log2+s)≤n:=by
   rw[Ybk];exact(Yb9 hp).1 h1
  have a2:n<2^((n/2^s).log2+1+s):=by
   rw[Ybk];exact(Ybl hp).1 h2
  have b1:=(Nat.le_log2 hn).2 a1;have b2:=(Yes hn).2 a2;omega
 unfold Za1;rw[if_neg h,if_neg hn];omega
theorem zr1{x:Nat}(h:x<2):Za1 x=x:=by
 rcases(show x=0∨x=1 by omega) with rfl | rfl<;>decide
def Zit(y:Nat×Nat×Nat):St:=⟨[(0,u32 y.1),(3,.i .i64 y.2.1),(4,.i .i64 y.2.2)],[],2⟩
end
section
variable{T:Tbl}
theorem zk2(N:Nat):∀y:Nat×Nat×Nat,((y.2.2=16∨y.2.2=8∨y.2.2=4∨y.2.2=2∨y.2.2=1∨y.2.2=0)∧y.1<2^(2*y.2.2)*(if y.2.2=0 then 2 else 1)∧y.2.1+Za1 y.1=N∧y.2.1+2*y.2.2≤32) →
  ∃r,(∃(x n:Nat),r=(Ex.n,(⟨[(0,u32 x),(3,.i .i64 (n:Int))],[],2⟩:St))∧x<2∧n+Za1 x=N∧n≤32)∧Zn T 0 0 (.norm false [0,3]) l91_0 (Zit y)=some r:=by
 refine zaq _ _ (fun y=>y.2.2) _ ?_
 rintro⟨x,n,s⟩ ⟨hs,hx,hN,hn⟩
 simp only at hs hx hN hn;by_cases h0:s=0
 ·right;subst h0;refine⟨_,⟨x,n,rfl,by simpa using hx,hN,by omega⟩,?_,?_⟩<;>simp[l91_0,Zit]
 ·left;by_cases h1:x/2^s=0
  ·refine⟨(x,n,s/2),⟨?_,?_,hN,by simp only;omega⟩,by simp only;omega,?_⟩
   ·rcases hs with rfl | rfl | rfl | rfl | rfl | rfl<;>simp
   ·have h2:x<2^s:=by
     rcases Yq x (2^s) with h | h
     ·exact h
     ·have:=Yfc h (Ya2 (by decide));omega
    rcases hs with rfl | rfl | rfl | rfl | rfl | rfl<;>simp at h2 ⊢<;>omega
   ·rcases hs with rfl | rfl | rfl | rfl | rfl | rfl<;>simp at h1<;>simp[l91_0,Zit,h1]at h0 ⊢
  ·refine⟨(x/2^s,n+s,s/2),⟨?_,?_,?_,by simp only;omega⟩,by simp only;omega,?_⟩
   ·rcases hs with rfl | rfl | rfl | rfl | rfl | rfl<;>simp
   ·rcases hs with rfl | rfl | rfl | rfl | rfl | rfl<;>simp at hx h0 ⊢<;>omega
   ·have:=zj1 h1;simp only;omega
   ·have hw:IntKind.wrap .i64 ((n:Int)+s)=((n+s:Nat):Int):=zad _ (by omega);rcases hs with rfl | rfl | rfl | rfl | rfl | rfl<;>simp at h1 hw<;>simp[l91_0,Zit,h1,hw]at h0 ⊢
end
section
variable{T:Tbl}[Z7 T]
theorem zqb(x:UInt32):Zb T 91 [u32 x.toNat]=some (.i .i64 (Za1 x.toNat)):=by
 have hx:=zam x;obtain⟨_,⟨y,n,rfl,h1,h2,h3⟩,hl⟩:=zk2 (T:=T) (Za1 x.toNat) (x.toNat,0,16) ⟨.inl rfl,by simp,by simp,by simp⟩;have hw:IntKind.wrap .i64 (y:Int)=y:=zad _ (by omega);have hw2:IntKind.wrap .i64 ((n:Int)+y)=((n+y:Nat):Int):=zad _ (by omega);have h4:=zr1 h1;rw[zaa Z7.h91 rfl,b91];simp;unfold Zit at hl;simp at hl;rw[hl];simp[hw,hw2];omega
end
def l86_0:AX:=
 (.note
 (.seq
 (.seq
 (.reg [mv 6 3,rg 7 (.bin .gtr (.t 6) (.c (.i .i64 0))),mv 8 7,gd 9 8 true (.mov (.t 0)),gd 10 8 true (.mov (.t 3)),gd 11 8 true (.bin .sub (.t 10) (.c (.i .i64 1))),gd 12 8 true (.iad 1 (.t 9) (.t 11)),gd 13 8 true (.load none (.t 12)),gd 14 8 true (.bin .eql (.t 13) (.c (u32 0))),rg 15 (.pick (.t 8) (.t 14) (.c (.b false)))])
 (.cond (.t 15)
 .skip
 (.exit 0)))
 (.block 1
 (.reg [mv 16 3,rg 17 (.bin .sub (.t 16) (.c (.i .i64 1))),mv 3 17])))
 (.norm false [0,3]))
def b86:AX:=
 (.seq
 (.reg [rg 2 (.mov (.c (.sl [] .nl)))])
 (.seq
 (.reg [mv 4 0,rg 5 (.len (.t 4)),mv 3 5])
 (.seq
 (.lp 0 (.norm false [0,3]) l86_0 (.norm false [0,3]))
 (.seq
 (.reg [mv 18 0,mv 19 3,rg 20 (.slc 1 (.t 18) none (some (.t 19)) none),mv 2 20])
 (.pre (.norm false [2]) .ret)))))
def b106:AX:=
 (.seq
 (.reg [rg 4 (.mov (.c (.sl [] .nl)))])
 (.seq
 (.reg [mv 6 0,rg 7 (.len (.t 6)),mv 8 1,rg 9 (.bin .add (.t 7) (.t 8)),rg 10 (.mks 1 [(u32 0)] (.t 9) (.t 9)),mv 5 10])
 (.seq
 (.reg [mv 11 5,mv 12 0,rg 13 (.xop .cpy [(.t 11),(.t 12)])])
 (.seq
 (.reg [mv 14 5,mv 4 14])
 (.pre (.norm false [4]) .ret)))))
def b71:AX:=
 (.seq
 (.reg [rg 2 (.mov (.c (.sl [] .nl)))])
 (.seq
 (.reg [mv 3 0,rg 4 (.call 86 [(.t 3)]),rg 5 (.call 106 [(.t 4),(.c (.i .i64 0))]),mv 2 5])
 (.pre (.norm false [2]) .ret)))
def b72:AX:=
 (.seq
 (.reg [rg 2 (.mov (.c (.sl [] .nl)))])
 (.seq
 (.reg [mv 3 0,rg 4 (.conv .u32 (.t 3)),mv 5 0,rg 6 (.bin .shr (.t 5) (.c (u64 32))),rg 7 (.conv .u32 (.t 6)),rg 8 (.bsl 1 [(u32 0)] 2 [(0,(.t 4)),(1,(.t 7))]),rg 9 (.call 86 [(.t 8)]),mv 2 9])
 (.pre (.norm false [2]) .ret)))
def l73_0:AX:=
 (.note
 (.seq
 (.reg [rg 15 (.bin .lss (.t 14) (.t 13))])
 (.seq
 (.cond (.t 15)
 .skip
 (.exit 0))
 (.seq
 (.block 1
 (.seq
 (.reg [mv 16 14,rg 17 (.iad 1 (.t 12) (.t 14)),rg 18 (.load none (.t 17)),mv 5 16,mv 6 18])
 (.reg [mv 19 4,mv 20 6,rg 21 (.conv .u64 (.t 20)),mv 22 5,rg 23 (.bin .mul (.c (.i .i64 32)) (.t 22)),rg 24 (.bin .shl (.t 21) (.t 23)),rg 25 (.bin .or (.t 19) (.t 24)),mv 4 25])))
 (.reg [rg 26 (.bin .add (.t 14) (.c (.i .i64 1))),mv 14 26]))))
 (.norm false [4,12,13,14]))
def b73:AX:=
 (.seq
 (.reg [rg 2 (.mov (.c (u64 0))),rg 3 (.mov (.c (.b false)))])
 (.seq
 (.reg [mv 7 0,rg 8 (.call 86 [(.t 7)]),mv 0 8])
 (.seq
 (.seq
 (.reg [mv 9 0,rg 10 (.len (.t 9)),rg 11 (.bin .gtr (.t 10) (.c (.i .i64 2)))])
 (.cond (.t 11)
 (.seq
 (.reg [rg 2 (.mov (.c (u64 0))),rg 3 (.mov (.c (.b false)))])
 (.pre (.norm false [2,3]) .ret))
 .skip))
 (.seq
 (.reg [rg 4 (.mov (.c (u64 0)))])
 (.seq
 (.seq
 (.reg [mv 12 0,rg 13 (.len (.t 12)),rg 14 (.mov (.c (.i .i64 0)))])
 (.lp 0 (.norm false [4,12,13,14]) l73_0 (.norm false [4])))
 (.seq
 (.reg [mv 27 4,mv 2 27,rg 3 (.mov (.c (.b true)))])
 (.pre (.norm false [2,3]) .ret)))))))
def b70:AX:=
 (.seq
 (.reg [rg 2 (.mov (.c (.b false)))])
 (.seq
 (.reg [mv 3 0,rg 4 (.call 86 [(.t 3)]),rg 5 (.len (.t 4)),rg 6 (.bin .eql (.t 5) (.c (.i .i64 0))),mv 2 6])
 (.pre (.norm false [2]) .ret)))
def l87_0:AX:=
 (.note
 (.seq
 (.seq
 (.reg [mv 25 5,rg 26 (.bin .geq (.t 25) (.c (.i .i64 0)))])
 (.cond (.t 26)
 .skip
 (.exit 1)))
 (.seq
 (.block 2
 (.block 3
 (.seq
 (.drawT [mv 30 0,mv 31 5,rg 32 (.iad 1 (.t 30) (.t 31)),rg 33 (.load none (.t 32)),mv 34 1,mv 35 5,rg 36 (.iad 1 (.t 34) (.t 35)),rg 37 (.load none (.t 36))]
 [rg 38 (.bin .lss (.t 33) (.t 37)),mv 29 38])
 (.cond (.t 29)
 (.seq
 (.reg [rg 4 (.mov (.c (.i .i64 (-1))))])
 (.pre (.norm false [4]) .ret))
 (.seq
 (.drawT [mv 40 0,mv 41 5,rg 42 (.iad 1 (.t 40) (.t 41)),rg 43 (.load none (.t 42)),mv 44 1,mv 45 5,rg 46 (.iad 1 (.t 44) (.t 45)),rg 47 (.load none (.t 46))]
 [rg 48 (.bin .gtr (.t 43) (.t 47)),mv 39 48])
 (.cond (.t 39)
 (.seq
 (.reg [rg 4 (.mov (.c (.i .i64 1)))])
 (.pre (.norm false [4]) .ret))
 .skip))))))
 (.reg [mv 27 5,rg 28 (.bin .sub (.t 27) (.c (.i .i64 1))),mv 5 28])))
 (.norm false [0,1,5]))
def b87:AX:=
 (.seq
 (.reg [rg 4 (.mov (.c (.i .i64 0)))])
 (.seq
 (.reg [mv 6 0,rg 7 (.call 86 [(.t 6)]),mv 8 1,rg 9 (.call 86 [(.t 8)]),mv 0 7,mv 1 9])
 (.seq
 (.block 0
 (.seq
 (.reg [mv 11 0,rg 12 (.len (.t 11)),mv 13 1,rg 14 (.len (.t 13)),rg 15 (.bin .lss (.t 12) (.t 14)),mv 10 15])
 (.cond (.t 10)
 (.seq
 (.reg [rg 4 (.mov (.c (.i .i64 (-1))))])
 (.pre (.norm false [4]) .ret))
 (.seq
 (.reg [mv 17 0,rg 18 (.len (.t 17)),mv 19 1,rg 20 (.len (.t 19)),rg 21 (.bin .gtr (.t 18) (.t 20)),mv 16 21])
 (.cond (.t 16)
 (.seq
 (.reg [rg 4 (.mov (.c (.i .i64 1)))])
 (.pre (.norm false [4]) .ret))
 .skip)))))
 (.seq
 (.seq
 (.reg [mv 22 0,rg 23 (.len (.t 22)),rg 24 (.bin .sub (.t 23) (.c (.i .i64 1))),mv 5 24])
 (.lp 1 (.norm false [0,1,5]) l87_0 (.norm false [])))
 (.seq
 (.reg [rg 4 (.mov (.c (.i .i64 0)))])
 (.pre (.norm false [4]) .ret))))))
def l85_0:AX:=
 (.note
 (.seq
 (.reg [rg 21 (.bin .lss (.t 20) (.t 19))])
 (.seq
 (.cond (.t 21)
 .skip
 (.exit 0))
 (.seq
 (.block 1
 (.seq
 (.reg [mv 22 20,mv 7 22])
 (.seq
 (.reg [rg 8 (.mov (.c (u32 0)))])
 (.seq
 (.seq
 (.reg [mv 23 7,mv 24 1,rg 25 (.len (.t 24)),rg 26 (.bin .lss (.t 23) (.t 25))])
 (.cond (.t 26)
 (.reg [mv 27 1,mv 28 7,rg 29 (.iad 1 (.t 27) (.t 28)),rg 30 (.load none (.t 29)),mv 8 30])
 .skip))
 (.reg [mv 32 5,mv 33 7,mv 34 0,mv 35 7,rg 36 (.iad 1 (.t 34) (.t 35)),rg 37 (.load none (.t 36)),mv 38 8,mv 39 6,rg 40 (.call 115 [(.t 37),(.t 38),(.t 39)]),mv 31 40,rg 41 (.ext (.t 31) 0),rg 42 (.ext (.t 31) 1),rg 43 (.iad 1 (.t 32) (.t 33)),so (.store 1 (.t 43) (.t 41)),mv 6 42])))))
 (.reg [rg 44 (.bin .add (.t 20) (.c (.i .i64 1))),mv 20 44]))))
 (.norm false [0,1,5,6,19,20]))
def b85:AX:=
 (.seq
 (.reg [rg 4 (.mov (.c (.sl [] .nl)))])
 (.seq
 (.seq
 (.reg [mv 9 0,rg 10 (.len (.t 9)),mv 11 1,rg 12 (.len (.t 11)),rg 13 (.bin .lss (.t 10) (.t 12))])
 (.cond (.t 13)
 (.reg [mv 14 1,mv 15 0,mv 0 14,mv 1 15])
 .skip))
 (.seq
 (.reg [mv 16 0,rg 17 (.call 2106 [(.t 16),(.c (.i .i64 1))]),mv 5 17])
 (.seq
 (.reg [rg 6 (.mov (.c (u32 0)))])
 (.seq
 (.seq
 (.reg [mv 18 0,rg 19 (.len (.t 18)),rg 20 (.mov (.c (.i .i64 0)))])
 (.lp 0 (.norm false [0,1,5,6,19,20]) l85_0 (.norm false [0,5,6])))
 (.seq
 (.reg [mv 45 5,mv 46 0,rg 47 (.len (.t 46)),mv 48 6,rg 49 (.iad 1 (.t 45) (.t 47)),so (.store 1 (.t 49) (.t 48))])
 (.seq
 (.reg [mv 50 5,rg 51 (.call 86 [(.t 50)]),mv 4 51])
 (.pre (.norm false [4]) .ret))))))))
def l56_0:AX:=
 (.note
 (.seq
 (.reg [rg 9 (.bin .lss (.t 8) (.t 7))])
 (.seq
 (.cond (.t 9)
 .skip
 (.exit 0))
 (.seq
 (.block 1
 (.seq
 (.reg [rg 10 (.iad 1 (.t 6) (.t 8)),rg 11 (.load none (.t 10)),mv 5 11])
 (.reg [mv 12 3,mv 13 5,rg 14 (.call 86 [(.t 13)]),rg 15 (.call 85 [(.t 12),(.t 14)]),mv 3 15])))
 (.reg [rg 16 (.bin .add (.t 8) (.c (.i .i64 1))),mv 8 16]))))
 (.norm false [3,6,7,8]))
def b56:AX:=
 (.seq
 (.reg [rg 2 (.mov (.c (.sl [] .nl)))])
 (.seq
 (.reg [rg 3 (.mov (.c (.sl [] .nl)))])
 (.seq
 (.seq
 (.reg [mv 6 0,rg 7 (.len (.t 6)),rg 8 (.mov (.c (.i .i64 0)))])
 (.lp 0 (.norm false [3,6,7,8]) l56_0 (.norm false [3])))
 (.seq
 (.reg [mv 17 3,mv 2 17])
 (.pre (.norm false [2]) .ret)))))
def l88_0:AX:=
 (.note
 (.seq
 (.reg [rg 23 (.bin .lss (.t 22) (.t 21))])
 (.seq
 (.cond (.t 23)
 .skip
 (.exit 0))
 (.seq
 (.block 1
 (.seq
 (.reg [mv 24 22,mv 8 24])
 (.seq
 (.reg [rg 9 (.mov (.c (u32 0)))])
 (.seq
 (.seq
 (.reg [mv 25 8,mv 26 1,rg 27 (.len (.t 26)),rg 28 (.bin .lss (.t 25) (.t 27))])
 (.cond (.t 28)
 (.reg [mv 29 1,mv 30 8,rg 31 (.iad 1 (.t 29) (.t 30)),rg 32 (.load none (.t 31)),mv 9 32])
 .skip))
 (.reg [mv 34 6,mv 35 8,mv 36 0,mv 37 8,rg 38 (.iad 1 (.t 36) (.t 37)),rg 39 (.load none (.t 38)),mv 40 9,mv 41 7,rg 42 (.call 116 [(.t 39),(.t 40),(.t 41)]),mv 33 42,rg 43 (.ext (.t 33) 0),rg 44 (.ext (.t 33) 1),rg 45 (.iad 1 (.t 34) (.t 35)),so (.store 1 (.t 45) (.t 43)),mv 7 44])))))
 (.reg [rg 46 (.bin .add (.t 22) (.c (.i .i64 1))),mv 22 46]))))
 (.norm false [0,1,6,7,21,22]))
def b88:AX:=
 (.seq
 (.reg [rg 4 (.mov (.c (.sl [] .nl))),rg 5 (.mov (.c (.b false)))])
 (.seq
 (.reg [mv 10 0,rg 11 (.call 86 [(.t 10)]),mv 12 1,rg 13 (.call 86 [(.t 12)]),mv 0 11,mv 1 13])
 (.seq
 (.seq
 (.reg [mv 14 0,mv 15 1,rg 16 (.call 87 [(.t 14),(.t 15)]),rg 17 (.bin .lss (.t 16) (.c (.i .i64 0)))])
 (.cond (.t 17)
 (.seq
 (.reg [rg 4 (.mov (.c (.sl [] .nl))),rg 5 (.mov (.c (.b false)))])
 (.pre (.norm false [4,5]) .ret))
 .skip))
 (.seq
 (.reg [mv 18 0,rg 19 (.call 2106 [(.t 18),(.c (.i .i64 0))]),mv 6 19])
 (.seq
 (.reg [rg 7 (.mov (.c (u32 0)))])
 (.seq
 (.seq
 (.reg [mv 20 0,rg 21 (.len (.t 20)),rg 22 (.mov (.c (.i .i64 0)))])
 (.lp 0 (.norm false [0,1,6,7,21,22]) l88_0 (.norm false [6])))
 (.seq
 (.reg [mv 47 6,rg 48 (.call 86 [(.t 47)]),mv 4 48,rg 5 (.mov (.c (.b true)))])
 (.pre (.norm false [4,5]) .ret))))))))
def b57:AX:=
 (.seq
 (.reg [rg 4 (.mov (.c (.sl [] .nl))),rg 5 (.mov (.c (.i .i64 0)))])
 (.seq
 (.reg [mv 9 0,mv 10 1,rg 11 (.call 87 [(.t 9),(.t 10)]),mv 6 11])
 (.seq
 (.seq
 (.reg [mv 12 6,rg 13 (.bin .lss (.t 12) (.c (.i .i64 0)))])
 (.cond (.t 13)
 (.reg [mv 14 1,mv 15 0,mv 0 14,mv 1 15])
 .skip))
 (.seq
 (.reg [mv 17 0,mv 18 1,rg 19 (.call 88 [(.t 17),(.t 18)]),mv 16 19,rg 20 (.ext (.t 16) 0),rg 21 (.ext (.t 16) 1),mv 7 20,mv 8 21])
 (.seq
 (.reg [mv 22 7,mv 23 6,mv 4 22,mv 5 23])
 (.pre (.norm false [4,5]) .ret))))))
def b2106:AX:=
 (.seq
 (.reg [rg 4 (.mov (.c (.sl [] .nl)))])
 (.seq
 (.reg [mv 6 0,rg 7 (.len (.t 6)),mv 8 1,rg 9 (.bin .add (.t 7) (.t 8)),rg 10 (.mks 1 [(u32 0)] (.t 9) (.t 9)),mv 5 10])
 (.seq
 (.reg [mv 11 5,mv 12 0,rg 13 (.xop .cpy [(.t 11),(.t 12)])])
 (.seq
 (.reg [mv 14 5,mv 4 14])
 (.pre (.norm false [4]) .ret)))))
def row86:AFx:=⟨1,21,[.t 2],b86,none,false⟩
def row106:AFx:=⟨2,15,[.t 4],b106,none,false⟩
def row71:AFx:=⟨1,6,[.t 2],b71,none,false⟩
def row72:AFx:=⟨1,10,[.t 2],b72,none,false⟩
def row73:AFx:=⟨1,28,[.t 2,.t 3],b73,none,false⟩
def row70:AFx:=⟨1,7,[.t 2],b70,none,false⟩
def row87:AFx:=⟨2,49,[.t 4],b87,none,false⟩
def row85:AFx:=⟨2,52,[.t 4],b85,none,false⟩
def row56:AFx:=⟨1,18,[.t 2],b56,none,false⟩
def row88:AFx:=⟨2,49,[.t 4,.t 5],b88,none,false⟩
def row57:AFx:=⟨2,24,[.t 4,.t 5],b57,none,false⟩
def row2106:AFx:=⟨2,15,[.t 4],b2106,(some [false,false]),false⟩
class Zs (T:Tbl):Prop extends Z7 T where
 h86:T 86=some row86
 h106:T 106=some row106
 h71:T 71=some row71
 h72:T 72=some row72
 h73:T 73=some row73
 h70:T 70=some row70
 h87:T 87=some row87
 h85:T 85=some row85
 h56:T 56=some row56
 h88:T 88=some row88
 h57:T 57=some row57
 h2106:T 2106=some row2106
section
variable{T:Tbl}[Zs T]{d:Option Nat}{st:St}
@[simp] theorem x86(xs:List AV):Zc (orc T) T 86 xs d st=cP T 86 false xs d st:=zab Zs.h86
@[simp] theorem x106(xs:List AV):Zc (orc T) T 106 xs d st=cP T 106 false xs d st:=zab Zs.h106
@[simp] theorem x71(xs:List AV):Zc (orc T) T 71 xs d st=cP T 71 false xs d st:=zab Zs.h71
@[simp] theorem y71{e:Env}{h:Heap}{older:List Heap}(args:List Opd):opD (orc T) T (.call 71 args) e h older=dR (Zb T 71 ((args.map (ev e.get)).map (wkIf false))) (args.map (ev e.get)):=zak Zs.h71
@[simp] theorem x72(xs:List AV):Zc (orc T) T 72 xs d st=cP T 72 false xs d st:=zab Zs.h72
@[simp] theorem y72{e:Env}{h:Heap}{older:List Heap}(args:List Opd):opD (orc T) T (.call 72 args) e h older=dR (Zb T 72 ((args.map (ev e.get)).map (wkIf false))) (args.map (ev e.get)):=zak Zs.h72
@[simp] theorem x73(xs:List AV):Zc (orc T) T 73 xs d st=cP T 73 false xs d st:=zab Zs.h73
@[simp] theorem x70(xs:List AV):Zc (orc T) T 70 xs d st=cP T 70 false xs d st:=zab Zs.h70
@[simp] theorem x87(xs:List AV):Zc (orc T) T 87 xs d st=cP T 87 false xs d st:=zab Zs.h87
@[simp] theorem x85(xs:List AV):Zc (orc T) T 85 xs d st=cP T 85 false xs d st:=zab Zs.h85
@[simp] theorem y56{e:Env}{h:Heap}{older:List Heap}(args:List Opd):opD (orc T) T (.call 56 args) e h older=dR (Zb T 56 ((args.map (ev e.get)).map (wkIf false))) (args.map (ev e.get)):=zak Zs.h56
@[simp] theorem x88(xs:List AV):Zc (orc T) T 88 xs d st=cP T 88 false xs d st:=zab Zs.h88
@[simp] theorem x57(xs:List AV):Zc (orc T) T 57 xs d st=cP T 57 false xs d st:=zab Zs.h57
@[simp] theorem x2106(xs:List AV):Zc (orc T) T 2106 xs d st=bL (Zea st.heap [false,false] xs) fun ys=>Zdn ys (Zj (Zas [false,false] xs) st.heap) (reach (Zj (Zas [false,false] xs) st.heap) 40 (Zcc [false,false] xs) []) T 2106 false d st:=zal Zs.h2106
end
def val:List UInt32→Nat
 | []=>0
 | x::l=>x.toNat+4294967296*val l
def ofN(n:Nat):List UInt32:=if n=0 then [] else w32 n::ofN (n/4294967296)
termination_by n
decreasing_by omega
def Zi1(l:List UInt32):Prop:=∀x,l.getLast? = some x→x.toNat≠0
@[simp] theorem za8:val []=0:=rfl
@[simp] theorem zan(x:UInt32)(l:List UInt32):val (x::l)=x.toNat+4294967296*val l:=rfl
@[simp] theorem zd4:ofN 0=[]:=by rw[ofN];rfl
theorem zgx{n:Nat}(h:n≠0):ofN n=w32 n::ofN (n/4294967296):=by rw[ofN,if_neg h]
theorem zb4(n:Nat):(w32 n).toNat=n%4294967296:=zby n
theorem z0z{x:UInt32}{n:Nat}(h:n%4294967296=x.toNat):w32 n=x:=by
 rw[←Yev,zb4,h]
theorem zae(n:Nat):val (ofN n)=n:=by
 induction n using Nat.strongRecOn with
 | _ n ih=>
  by_cases h:n=0
  ·subst h;simp
  ·rw[zgx h,zan,ih (n/4294967296) (by omega),zb4];omega
theorem zaj(l m:List UInt32):val (l++m)=val l+4294967296^l.length*val m:=by
 induction l with
 | nil=>simp
 | cons x l ih=>
  simp only[Yb7,zan,ih,Yy,Yw,Yu,Yan];congr 2;rw[←Yx,Yad 4294967296 (4294967296^l.length)]
theorem zay(l:List UInt32):val l<4294967296^l.length:=by
 induction l with
 | nil=>simp
 | cons x l ih=>
  have:=zam x;simp only[zan,Yy,Yw];omega
theorem zkc{x:UInt32}{l:List UInt32}(h:Zi1 (x::l)):Zi1 l:=by
 intro y hy;apply h;cases l with
 | nil=>simp at hy
 | cons z l=>rw[List.getLast?_cons_cons];exact hy
theorem zzz{l:List UInt32}(h:Zi1 l):val l=0↔l=[]:=by
 constructor
 ·intro h0
  induction l with
  | nil=>rfl
  | cons x l ih=>
   exfalso;simp only[zan]at h0;have h1:=ih (zkc h) (by omega);subst h1;exact h x (by simp) (by omega)
 ·rintro rfl;rfl
theorem z35{l:List UInt32}(h:Zi1 l):ofN (val l)=l:=by
 induction l with
 | nil=>simp
 | cons x l ih=>
  have hx:=zam x;have hne:val (x::l)≠0:=fun h0=>by have:=(zzz h).1 h0;cases this
  rw[zgx hne];congr 1
  ·exact z0z (by simp only[zan];omega)
  ·rw[show val (x::l)/4294967296=val l by simp only[zan];omega];exact ih (zkc h)
theorem zau{n:Nat}:ofN n=[]↔n=0:=⟨fun h=>by rw[←zae n,h];rfl,fun h=>by rw[h];simp⟩
theorem zsx{a:List UInt32}{n:Nat}(hn:n≤a.length)(h0:∀(i:Nat) (x:UInt32),n≤i→a[i]? = some x→x.toNat=0)(h1:∀x:UInt32,0<n→a[n-1]? = some x→x.toNat≠0):a.take n=ofN (val a):=by
 have hr:Zi1 (a.take n):=by
  intro x hx;have hn0:0<n:=by
   rcases Ya0 n with h | h
   ·subst h;simp at hx
   ·exact h
  apply h1 x hn0;rw[List.getLast?_eq_getElem?,Ya8,Yc0 hn,Y3,if_pos (by omega)]at hx;exact hx
 have hz:∀l:List UInt32,(∀(i:Nat) (x:UInt32),l[i]? = some x→x.toNat=0)→val l=0:=by
  intro l
  induction l with
  | nil=>intro _;rfl
  | cons x l ih=>
   intro h;have h2:=h 0 x rfl;have h3:=ih fun i y hy=>h (i+1) y (by simpa using hy);simp only[zan,h2,h3]
 have hv:val a=val (a.take n):=by
  have e:=zaj (a.take n) (a.drop n);rw[Yam,hz (a.drop n) (fun i x hx=>h0 (n+i) x (by omega) (by rw[Yap]at hx;exact hx))]at e;omega
 rw[hv,z35 hr]
theorem zgb(a:List UInt32):∃n,n≤a.length∧a.take n=ofN (val a)∧(∀(i:Nat) (x:UInt32),n≤i→a[i]? = some x→x.toNat=0)∧(∀x:UInt32,0<n→a[n-1]? = some x→x.toNat≠0):=by
 have key:∀k,k≤a.length→(∀(i:Nat) (x:UInt32),k≤i→a[i]? = some x→x.toNat=0)→∃n,n≤k∧(∀(i:Nat) (x:UInt32),n≤i→a[i]? = some x→x.toNat=0)∧(∀x:UInt32,0<n→a[n-1]? = some x→x.toNat≠0):=by
  intro k
  induction k with
  | zero=>intro _ h;exact⟨0,Yh _,h,fun x hx=>by omega⟩
  | succ k ih=>
   intro hk h;by_cases hz:(a[k]'(by omega)).toNat=0
   ·obtain⟨n,h1,h2,h3⟩:=ih (by omega) fun i x hi hx=>by
     rcases Yq k i with h4 | h4
     ·exact h i x h4 hx
     ·have:i=k:=by omega
      subst this;rw[Ya (by omega)]at hx;cases hx;exact hz
    exact⟨n,by omega,h2,h3⟩
   ·refine⟨k+1,Yh _,h,fun x _ hx=>?_⟩;rw[Nat.add_sub_cancel,Ya (by omega)]at hx;cases hx;exact hz
 obtain⟨n,h1,h2,h3⟩:=key a.length (Yh _) fun i x hi hx=>by rw[Yah hi]at hx;cases hx
 exact⟨n,h1,zsx h1 h2 h3,h2,h3⟩
theorem zac(a:List UInt32):(ofN (val a)).length≤a.length:=by
 obtain⟨n,h1,h2,_⟩:=zgb a;rw[←h2,Ya8];omega
theorem zap{n k:Nat}(h:n<4294967296^k):(ofN n).length≤k:=by
 induction k generalizing n with
 | zero=>
  have:n=0:=by simp at h;omega
  subst this;simp
 | succ k ih=>
  by_cases h0:n=0
  ·subst h0;simp
  ·rw[zgx h0,Yy];have:=ih (n:=n/4294967296) (by rw[Yw]at h;omega);omega
theorem zaf{a:List UInt32}{i:Nat}{x:UInt32}(h:a[i]? = some x):val (a.take (i+1))=val (a.take i)+4294967296^i*x.toNat:=by
 have hi:i<a.length:=by
  rcases Yq i a.length with h1 | h1
  ·exact h1
  ·rw[Yah h1]at h;cases h
 rw[Ycd,h,zaj];simp only[Option.toList_some,zan,za8,Yac,Yt,Ya8];rw[Yc0 (by omega)]
theorem zbu{a:List UInt32}{i:Nat}(x:UInt32)(h:i<a.length):val ((a.set i x).take (i+1))=val (a.take i)+4294967296^i*x.toNat:=by
 rw[zaf (x:=x) (by rw[Ydn h]),List.take_set_of_le (Yh i)]
theorem zba{a:List UInt32}{i:Nat}(h:a.length≤i):val (a.take i)=val a:=by rw[Yb h]
theorem zbk(n:Nat):val (List.replicate n 0)=0:=by
 induction n with
 | zero=>rfl
 | succ n ih=>simp[Yco,ih]
theorem zgy{m n:Nat}(h:(ofN m).length<(ofN n).length):m<n:=by
 rcases Yq m n with h1 | h1
 ·exact h1
 ·exfalso;have h2:=zay (ofN m);rw[zae]at h2;have:=zap (show n<4294967296^(ofN m).length by omega);omega
theorem zat{m n:Nat}(h:m≤n):(ofN m).length≤(ofN n).length:=by
 rcases Yq (ofN n).length (ofN m).length with h1 | h1
 ·have:=zgy h1;omega
 ·exact h1
def Zcm(x y:Nat):Int:=if x<y then -1 else if y<x then 1 else 0
theorem zw5{a b:List UInt32}{i:Nat}{x y:UInt32}(hx:a[i]? = some x)(hy:b[i]? = some y)(h:x.toNat<y.toNat):val (a.take (i+1))<val (b.take (i+1)):=by
 rw[zaf hx,zaf hy];have h1:=zay (a.take i);have h2:4294967296^(a.take i).length≤4294967296^i:=Y0 (by decide) (by simp;omega);have h3:=Yak (4294967296^i) (show x.toNat+1≤y.toNat from h);rw[Yu]at h3;omega
theorem zld{x y c:Nat}(hx:x<4294967296)(hy:y<4294967296)(hc:c≤1) :
  (x+8589934592-(y+c))%4294967296+(y+c)=x+4294967296*(2-(x+8589934592-(y+c))/4294967296)∧2-(x+8589934592-(y+c))/4294967296≤1:=by omega
def lls(l:List (List UInt32)):List (List AV):=l.map fun a=>[.sl (Za a) .an]
@[simp] theorem z55(l:List (List UInt32)):(lls l).length=l.length:=by simp[lls]
@[simp] theorem zak4(l:List (List UInt32)):wkL (lls l)=lls l:=by rw[zbq];simp[lls,wkR]
@[simp] theorem z36(l:List (List UInt32))(i:Nat)(h:i<(lls l).length):(lls l)[i]=[.sl (Za (l[i]'(by simpa using h))) .an]:=by simp[lls]
section
variable{T:Tbl}
theorem zvr(a:List UInt32)(hl:a.length<9223372036854775808){n:Nat}(hn:n≤a.length)(h0:∀(i:Nat) (x:UInt32),n≤i→a[i]? = some x→x.toNat=0)(h1:∀x:UInt32,0<n→a[n-1]? = some x→x.toNat≠0) :
  ∀m:Nat,(n≤m∧m≤a.length)→Zn T 0 0 (.norm false [0,3]) l86_0 ⟨[(0,.sl (Za a) .an),(3,.i .i64 (m:Int))],[],2⟩=some (.n,⟨[(0,.sl (Za a) .an),(3,.i .i64 (n:Int))],[],2⟩):=by
 refine zaz (fun m:Nat=>⟨[(0,.sl (Za a) .an),(3,.i .i64 (m:Int))],[],2⟩) _ (fun m=>m) _ ?_
 rintro m ⟨hm,hma⟩
 by_cases h2:m=0
 ·right;subst h2;have:n=0:=by omega
  subst this;constructor<;>simp[l86_0]
 ·have hw:IntKind.wrap .i64 ((m:Int)-1)=((m-1:Nat):Int):=by rw[zad _ (by omega)];omega
  have hm1:m-1<a.length:=by omega
  have hg:a[m-1]? = some (a[m-1]'hm1):=Ya hm1;have hpos:0<m:=by omega
  by_cases h3:m=n
  ·right;subst h3;have hx:=h1 _ hpos hg;constructor<;>simp[l86_0,hpos,hw,hm1,hx]
  ·left;refine⟨m-1,⟨by omega,by omega⟩,by show m-1<m;omega,?_,rfl⟩;have hx:=h0 (m-1) _ (by omega) hg;simp[l86_0,hpos,hw,hm1,hx]
end
section
variable{T:Tbl}[Zs T]
theorem zbv(a:List UInt32)(hl:a.length≤4294967296):Zb T 86 [.sl (Za a) .an]=some (.sl (Za (ofN (val a))) .an):=by
 obtain⟨n,h1,h2,h3,h4⟩:=zgb a;have hr:=zvr (T:=T) a (by omega) h1 h3 h4 a.length ⟨h1,Yh _⟩;rw[zaa Zs.h86 rfl,b86];simp[hr,h1,h2]
theorem zvs(a:List UInt32)(m:Nat)(hl:a.length+m≤4294967296):Zb T 106 [.sl (Za a) .an,.i .i64 (m:Int)]=some (.sl (Za (a++List.replicate m 0)) .an):=by
 have hw:IntKind.wrap .i64 ((a.length:Int)+m)=((a.length+m:Nat):Int):=zad _ (by omega);have h0:(0:Int)≤(a.length:Int)+m:=by omega
 have h2:(a.length:Int)+m≤4294967296:=by omega
 have h3:((a.length:Int)+m).toNat=a.length+m:=by omega
 rw[zaa Zs.h106 rfl,b106];simp[hw,h0,h2,h3,Yb]
theorem zcn(a:List UInt32)(m:Nat)(hl:a.length+m≤4294967296):Zaa T 2106 [.sl (Za a) .an,.i .i64 (m:Int)] [] =
  some (.bs (.loc 10) 1 1 0 (a.length+m),[(.loc 10,⟨1,.own,1,Za (a++List.replicate m 0)⟩)]):=by
 have hw:IntKind.wrap .i64 ((a.length:Int)+m)=((a.length+m:Nat):Int):=zad _ (by omega);have h0:(0:Int)≤(a.length:Int)+m:=by omega
 have h2:(a.length:Int)+m≤4294967296:=by omega
 have h3:((a.length:Int)+m).toNat=a.length+m:=by omega
 rw[zah Zs.h2106 rfl,b2106];simp[hw,h0,h2,h3]
theorem zbw(a:List UInt32)(hl:a.length≤4294967296):Zb T 71 [.sl (Za a) .an]=some (.sl (Za (ofN (val a))) .an):=by
 have h1:=zac a;have h2:=zvs (T:=T) (ofN (val a)) 0 (by omega);simp only[Yo]at h2;rw[zaa Zs.h71 rfl,b71];simp[zbv a hl,h2]
theorem zg4(n:Nat)(h:n<18446744073709551616):Zb T 72 [u64 n]=some (.sl (Za (ofN n)) .an):=by
 have e2:val [w32 n,w32 (n/4294967296)]=n:=by simp[zb4];omega
 have h2:=zbv (T:=T) [w32 n,w32 (n/4294967296)] (by simp);rw[e2]at h2;have h3:n/4294967296%4294967296=n/4294967296:=Yi (by omega);rw[zaa Zs.h72 rfl,b72];simp[h3,zbi _ _ _ (show n/4294967296<4294967296 by omega),h2]
theorem zf7(a:List UInt32)(hl:a.length≤4294967296):Zb T 70 [.sl (Za a) .an]=some (.b (decide (val a=0))):=by
 rw[zaa Zs.h70 rfl,b70];have:((((ofN (val a)).length:Int) == 0))=decide (val a=0):=by
  rw[Ybb];simp[zau]
 simp[zbv a hl,this]
def Zf7(a b:List UInt32)(y:Nat×Nat×List UInt32):St:=
 ⟨[(0,.sl (Za a) .an),(1,.sl (Za b) .an),(5,.bs (.fld (.loc 17) 10) 1 1 0 (a.length+1)),(6,u32 y.2.1),(19,.i .i64 a.length),(20,.i .i64 y.1)],
  [(.fld (.loc 17) 10,⟨1,.own,1,Za y.2.2⟩)],3⟩
theorem zmx(a b:List UInt32)(hb:b.length≤a.length)(hl:a.length≤1000000):∀y:Nat×Nat×List UInt32,
  (y.1≤a.length∧y.2.1≤1∧y.2.2.length=a.length+1∧val (y.2.2.take y.1)+4294967296^y.1*y.2.1=val (a.take y.1)+val (b.take y.1)) →
  ∃r,(∃(c:Nat) (out:List UInt32),r=(Ex.n,(⟨[(0,.sl (Za a) .an),(5,.bs (.fld (.loc 17) 10) 1 1 0 (a.length+1)),(6,u32 c)],[(.fld (.loc 17) 10,⟨1,.own,1,Za out⟩)],3⟩:St)) ∧
   out.length=a.length+1∧c≤1∧val (out.take a.length)+4294967296^a.length*c=val a+val b)∧Zn T 0 0 (.norm false [0,5,6]) l85_0 (Zf7 a b y)=some r:=by
 refine zaq _ _ (fun y=>a.length-y.1) _ ?_
 rintro⟨i,c,out⟩ ⟨hi,hc,ho,hv⟩
 simp only at hi hc ho hv;by_cases h0:i<a.length
 ·left;have ha:a[i]? = some (a[i]'h0):=Ya h0;have hoi:i<out.length:=by omega
  have hog:out[i]? = some (out[i]'hoi):=Ya hoi;have hw:IntKind.wrap .i64 ((i:Int)+1)=((i+1:Nat):Int):=zad _ (by omega);have hc2:c<4294967296:=by omega
  have hil:(i:Int)<(a.length:Int)+1:=by omega
  have h1:=zaf ha;by_cases h2:i<b.length
  ·have hbg:b[i]? = some (b[i]'h2):=Ya h2;have h3:=zaf hbg;refine⟨(i+1,((a[i]'h0).toNat+(b[i]'h2).toNat+c)/4294967296,out.set i (w32 ((a[i]'h0).toNat+(b[i]'h2).toNat+c))),⟨by simp only;omega,?_,by simp[ho],?_⟩,by simp only;omega,?_⟩
   ·have:=zam (a[i]'h0);have:=zam (b[i]'h2);simp only;omega
   ·simp only;rw[zbu _ hoi,h1,h3,zb4,Yw];generalize 4294967296^i=p at *
    generalize (a[i]'h0).toNat=x at *
    generalize (b[i]'h2).toNat=z at *
    have e:=Yba (x+z+c) 4294967296;have e2:p*((x+z+c)%4294967296)+p*4294967296*((x+z+c)/4294967296)=p*(x+z+c):=by
     conv=>rhs;rw[←e]
     rw[Yu,Yx];omega
    rw[Yu,Yu]at e2;omega
   ·simp[l85_0,Zf7,h0,h2,hog,hw,hil,zei,hc2]
  ·have h3:val (b.take (i+1))=val (b.take i):=by rw[zba (by omega),zba (by omega)]
   refine⟨(i+1,((a[i]'h0).toNat+0+c)/4294967296,out.set i (w32 ((a[i]'h0).toNat+0+c))),⟨by simp only;omega,?_,by simp[ho],?_⟩,by simp only;omega,?_⟩
   ·have:=zam (a[i]'h0);simp only;omega
   ·simp only;rw[zbu _ hoi,h1,h3,zb4,Yw];generalize 4294967296^i=p at *
    generalize (a[i]'h0).toNat=x at *
    have e:=Yba (x+0+c) 4294967296;have e2:p*((x+0+c)%4294967296)+p*4294967296*((x+0+c)/4294967296)=p*(x+0+c):=by
     conv=>rhs;rw[←e]
     rw[Yu,Yx];omega
    rw[Yu,Yu]at e2;omega
   ·simp[l85_0,Zf7,h0,h2,hog,hw,hil,zei,hc2]
 ·right;have:i=a.length:=by omega
  subst this;rw[Yb (Yh _),Yb hb]at hv;refine⟨_,⟨c,out,rfl,ho,hc,hv⟩,?_,?_⟩<;>simp[l85_0,Zf7]
theorem zvt(a b:List UInt32)(hb:b.length≤a.length)(hl:a.length≤1000000):Zb T 85 [.sl (Za a) .an,.sl (Za b) .an]=some (.sl (Za (ofN (val a+val b))) .an):=by
 have hf:=zcn (T:=T) a 1 (by omega);simp only[Yd5]at hf;obtain⟨_,⟨c,out,rfl,ho,hc,hv⟩,hr⟩:=zmx (T:=T) a b hb hl (0,0,a++List.replicate 1 0) ⟨Yr _,Yr _,by simp,by simp⟩;unfold Zf7 at hr;simp at hr;have hog:out[a.length]? = some (out[a.length]'(by omega)):=Ya _;have h1:¬ (a.length:Int)<b.length:=by omega
 have h2:¬ a.length<b.length:=by omega
 have h3:(a.length:Int)<(a.length:Int)+1:=by omega
 have hval:val (out.set a.length (w32 c))=val a+val b:=by
  rw[←Yb (l:=out.set a.length (w32 c)) (i:=a.length+1) (by simp;omega),zbu _ (by omega),zag (by omega)];exact hv
 have ht:=zbv (T:=T) (out.set a.length (w32 c)) (by simp;omega);rw[hval]at ht;have htk:List.take (a.length+1) (out.set a.length (w32 c))=out.set a.length (w32 c):=Yb (by simp;omega);rw[zaa Zs.h85 rfl,b85];simp[h1,hf,hr,h3,zbi _ _ _ (show c<4294967296 by omega),htk,ht,ho]
theorem zr5(a b:List UInt32)(hb:a.length<b.length)(hl:b.length≤1000000):Zb T 85 [.sl (Za a) .an,.sl (Za b) .an]=some (.sl (Za (ofN (val a+val b))) .an):=by
 have hf:=zcn (T:=T) b 1 (by omega);simp only[Yd5]at hf;obtain⟨_,⟨c,out,rfl,ho,hc,hv⟩,hr⟩:=zmx (T:=T) b a (by omega) hl (0,0,b++List.replicate 1 0) ⟨Yr _,Yr _,by simp,by simp⟩;unfold Zf7 at hr;simp at hr;have hog:out[b.length]? = some (out[b.length]'(by omega)):=Ya _;have h1:(a.length:Int)<b.length:=by omega
 have h3:(b.length:Int)<(b.length:Int)+1:=by omega
 have hval:val (out.set b.length (w32 c))=val a+val b:=by
  rw[←Yb (l:=out.set b.length (w32 c)) (i:=b.length+1) (by simp;omega),zbu _ (by omega),zag (by omega),hv,Ybf]
 have ht:=zbv (T:=T) (out.set b.length (w32 c)) (by simp;omega);rw[hval]at ht;have htk:List.take (b.length+1) (out.set b.length (w32 c))=out.set b.length (w32 c):=Yb (by simp;omega);rw[zaa Zs.h85 rfl,b85];simp[h1,hf,hr,h3,zbi _ _ _ (show c<4294967296 by omega),htk,ht,ho]
theorem zy1(a b:List UInt32)(ha:a.length≤1000000)(hb:b.length≤1000000):Zb T 85 [.sl (Za a) .an,.sl (Za b) .an]=some (.sl (Za (ofN (val a+val b))) .an):=by
 rcases Yq a.length b.length with h | h
 ·exact zr5 a b h hb
 ·exact zvt a b h ha
def Ze2(l:List (List UInt32)):Nat:=(l.map val).sum
theorem zy2(K:Nat):∀m:List (List UInt32),m.length≤1000→(∀a∈m,a.length≤K)→(ofN (Ze2 m)).length≤K+1:=by
 intro m hm hw;apply zap;rw[Yw];have hp0:0<4294967296^K:=Ya2 (by decide);have hall:∀a∈m,val a<4294967296^K:=fun a ha=>Yz (zay a) (Y0 (by decide) (hw a ha));generalize 4294967296^K=p at *
 have h1:Ze2 m≤m.length*p:=by
  clear hm hw
  induction m with
  | nil=>simp[Ze2]
  | cons a m ih=>
   have h2:=ih fun a ha=>hall a (Ys _ ha);have h3:=hall a Yaa;simp only[Ze2,Y1,List.sum_cons,Yy,Ya9,Ycn]at h2 ⊢;omega
 have h6:=Yv p hm;omega
theorem zy3(l:List (List UInt32))(hl:l.length≤1000)(hw:∀a∈l,a.length≤90000):∀i:Nat,i≤l.length →
  Zn T 0 0 (.norm false [3]) l56_0 ⟨[(3,.sl (Za (ofN (Ze2 (l.take i)))) .an),(6,.sl (lls l) .an),(7,.i .i64 l.length),(8,.i .i64 i)],[],2⟩=some (.n,⟨[(3,.sl (Za (ofN (Ze2 l))) .an)],[],2⟩):=by
 refine zaz (fun i:Nat=>⟨[(3,.sl (Za (ofN (Ze2 (l.take i)))) .an),(6,.sl (lls l) .an),(7,.i .i64 l.length),(8,.i .i64 i)],[],2⟩) _ (fun i=>l.length-i) _ ?_;intro i hi;by_cases h0:i<l.length
 ·left;have hg:l[i]? = some (l[i]'h0):=Ya h0;have hwr:IntKind.wrap .i64 ((i:Int)+1)=((i+1:Nat):Int):=zad _ (by omega);have hw1:=hw _ (Yn h0);have ht:=zbv (T:=T) (l[i]'h0) (by omega);have hs:=zy2 90000 (l.take i) (by simp;omega) fun a ha=>hw a (Ybr ha);have hp:=zy1 (T:=T) (ofN (Ze2 (l.take i))) (ofN (val (l[i]'h0))) (by omega) (by have:=zac (l[i]'h0);omega);rw[zae,zae]at hp;have e:Ze2 (l.take i)+val (l[i]'h0)=Ze2 (l.take (i+1)):=by
   unfold Ze2;rw[Ycd,hg];simp only[Option.toList_some,Yce,Y1,Ydf,List.sum_append,List.sum_cons,List.sum_nil,Yt]
  rw[e]at hp;have hz:Zi4 1 (lls l)=true:=by cases l<;>simp[lls,Zi4]
  refine⟨i+1,h0,by show l.length-(i+1)<l.length-i;omega,?_,rfl⟩;simp[l56_0,h0,ht,hp,hwr]
 ·right;have:i=l.length:=by omega
  subst this;rw[Yb (Yh _)];constructor<;>simp[l56_0]
theorem zy4(l:List (List UInt32))(hl:l.length≤1000)(hw:∀a∈l,a.length≤90000):Zb T 56 [.sl (lls l) .an]=some (.sl (Za (ofN (Ze2 l))) .an):=by
 have h:=zy3 (T:=T) l hl hw 0 (Yr _);simp[Ze2]at h;rw[zaa Zs.h56 rfl,b56];simp[h,Ze2]
end
section
variable{T:Tbl}
theorem zy5(a b:List UInt32)(hab:a.length=b.length)(hl:a.length≤1000000):∀m:Nat,m≤a.length →
  Zn T 0 1 (.norm false []) l87_0 ⟨[(0,.sl (Za a) .an),(1,.sl (Za b) .an),(5,.i .i64 ((m:Int)-1))],[],2⟩ =
   if val (a.take m)<val (b.take m) then some (.r,⟨[(4,.i .i64 (-1))],[],2⟩) else if val (b.take m)<val (a.take m) then some (.r,⟨[(4,.i .i64 1)],[],2⟩) else some (.n,⟨[],[],2⟩):=by
 refine zaz (fun m:Nat=>⟨[(0,.sl (Za a) .an),(1,.sl (Za b) .an),(5,.i .i64 ((m:Int)-1))],[],2⟩) _ (fun m=>m) _ ?_;intro m hm;cases m with
 | zero=>
  right;constructor<;>simp[l87_0]
 | succ i=>
  have ha:a[i]? = some (a[i]'(by omega)):=Ya _;have hb:b[i]? = some (b[i]'(by omega)):=Ya _;have hia:i<a.length:=by omega
  have hib:i<b.length:=by omega
  have hw:IntKind.wrap .i64 ((i:Int)-1)=(i:Int)-1:=zad _ (by omega);rcases Ybv (a[i]'hia).toNat (b[i]'hib).toNat with h1 | h1 | h1
  ·right;have h2:=zw5 ha hb h1;constructor<;>simp[l87_0,hia,hib,h1,h2]
  ·left;refine⟨i,by omega,Y4 i,?_,?_⟩
   ·simp[l87_0,hia,hib,h1,hw]
   ·have e1:=zaf ha;have e2:=zaf hb;rw[e1,e2,h1];have e3:(val (a.take i)+4294967296^i*(b[i]'hib).toNat<val (b.take i)+4294967296^i*(b[i]'hib).toNat)=(val (a.take i)<val (b.take i)):=by
     apply propext;omega
    have e4:(val (b.take i)+4294967296^i*(b[i]'hib).toNat<val (a.take i)+4294967296^i*(b[i]'hib).toNat)=(val (b.take i)<val (a.take i)):=by
     apply propext;omega
    simp only[e3,e4]
  ·right;have h2:=zw5 hb ha h1;have h3:¬ val (a.take (i+1))<val (b.take (i+1)):=by omega
   have h4:¬ (a[i]'hia).toNat<(b[i]'hib).toNat:=by omega
   constructor<;>simp[l87_0,hia,hib,h1,h2,h3,h4]
end
section
variable{T:Tbl}[Zs T]
theorem zgr(a b:List UInt32)(ha:a.length≤1000000)(hb:b.length≤1000000):Zb T 87 [.sl (Za a) .an,.sl (Za b) .an]=some (.i .i64 (Zcm (val a) (val b))):=by
 have hta:=zbv (T:=T) a (by omega);have htb:=zbv (T:=T) b (by omega);have hla:=zac a;have hlb:=zac b;rw[zaa Zs.h87 rfl,b87];rcases Ybv (ofN (val a)).length (ofN (val b)).length with h | h | h
 ·have h1:=zgy h;simp[hta,htb,h,Zcm,h1]
 ·have hc:=zy5 (T:=T) (ofN (val a)) (ofN (val b)) h (by omega) (ofN (val a)).length (Yh _);rw[Yb (Yh _),Yb (by omega),zae,zae]at hc;have hw:IntKind.wrap .i64 (((ofN (val a)).length:Int)-1)=((ofN (val a)).length:Int)-1:=zad _ (by omega);have h1:¬ (ofN (val a)).length<(ofN (val b)).length:=by omega
  have h2:¬ (ofN (val b)).length<(ofN (val a)).length:=by omega
  simp[hta,htb,h1,h2,hw,hc,Zcm]
  repeat' split
  all_goals simp
 ·have h1:=zgy h;have h2:¬ val a<val b:=by omega
  have h3:¬ (ofN (val a)).length<(ofN (val b)).length:=by omega
  simp[hta,htb,h,Zcm,h1,h2,h3]
def Ziu(a b:List UInt32)(y:Nat×Nat×List UInt32):St:=
 ⟨[(0,.sl (Za a) .an),(1,.sl (Za b) .an),(6,.bs (.fld (.loc 19) 10) 1 1 0 a.length),(7,u32 y.2.1),(21,.i .i64 a.length),(22,.i .i64 y.1)],
  [(.fld (.loc 19) 10,⟨1,.own,1,Za y.2.2⟩)],3⟩
theorem zy6(a b:List UInt32)(hb:b.length≤a.length)(hl:a.length≤1000000):∀y:Nat×Nat×List UInt32,
  (y.1≤a.length∧y.2.1≤1∧y.2.2.length=a.length∧val (y.2.2.take y.1)+val (b.take y.1)=val (a.take y.1)+4294967296^y.1*y.2.1) →
  ∃r,(∃(c:Nat) (out:List UInt32),r=(Ex.n,(⟨[(6,.bs (.fld (.loc 19) 10) 1 1 0 a.length)],[(.fld (.loc 19) 10,⟨1,.own,1,Za out⟩)],3⟩:St)) ∧
   out.length=a.length∧c≤1∧val out+val b=val a+4294967296^a.length*c)∧Zn T 0 0 (.norm false [6]) l88_0 (Ziu a b y)=some r:=by
 refine zaq _ _ (fun y=>a.length-y.1) _ ?_
 rintro⟨i,c,out⟩ ⟨hi,hc,ho,hv⟩
 simp only at hi hc ho hv;by_cases h0:i<a.length
 ·left;have ha:a[i]? = some (a[i]'h0):=Ya h0;have hoi:i<out.length:=by omega
  have hog:out[i]? = some (out[i]'hoi):=Ya hoi;have hw:IntKind.wrap .i64 ((i:Int)+1)=((i+1:Nat):Int):=zad _ (by omega);have hc2:c<4294967296:=by omega
  have hx:=zam (a[i]'h0);have h1:=zaf ha;have fin:∀z:Nat,z<4294967296→val (b.take (i+1))=val (b.take i)+4294967296^i*z →
    val ((out.set i (w32 ((a[i]'h0).toNat+8589934592-(z+c)))).take (i+1))+val (b.take (i+1))=val (a.take (i+1))+4294967296^(i+1)*(2-((a[i]'h0).toNat+8589934592-(z+c))/4294967296):=by
   intro z hz h3;have hs:=(zld hx hz hc).1;rw[zbu _ hoi,h1,h3,zb4,Yw];generalize 4294967296^i=p at *
   generalize (a[i]'h0).toNat=x at *
   generalize (x+8589934592-(z+c))%4294967296=s at *
   generalize 2-(x+8589934592-(z+c))/4294967296=d at *
   have e2:p*s+p*(z+c)=p*x+p*4294967296*d:=by rw[←Yu,hs,Yu,Yx]
   rw[Yu]at e2;omega
  by_cases h2:i<b.length
  ·have hbg:b[i]? = some (b[i]'h2):=Ya h2;have h3:=zaf hbg;refine⟨(i+1,2-((a[i]'h0).toNat+8589934592-((b[i]'h2).toNat+c))/4294967296,out.set i (w32 ((a[i]'h0).toNat+8589934592-((b[i]'h2).toNat+c)))),⟨h0,(zld hx (zam _) hc).2,by simp[ho],fin _ (zam _) h3⟩,by simp only;omega,?_⟩;simp[l88_0,Ziu,h0,h2,hog,hw,zf6,hc2]
  ·have h3:val (b.take (i+1))=val (b.take i)+4294967296^i*0:=by rw[zba (by omega),zba (by omega)];simp
   refine⟨(i+1,2-((a[i]'h0).toNat+8589934592-(0+c))/4294967296,out.set i (w32 ((a[i]'h0).toNat+8589934592-(0+c)))),⟨h0,(zld hx (by decide) hc).2,by simp[ho],fin 0 (by decide) h3⟩,by simp only;omega,?_⟩;simp[l88_0,Ziu,h0,h2,hog,hw,zf6,hc2]
 ·right;have:i=a.length:=by omega
  subst this;rw[Yb (Yh _),Yb hb,Yb (by omega)]at hv;refine⟨_,⟨c,out,rfl,ho,hc,hv⟩,?_,?_⟩<;>simp[l88_0,Ziu]
theorem zc0{x y:Nat}:Zcm x y<0↔x<y:=by
 unfold Zcm;split
 ·simp[*]
 ·split<;>simp[*]
theorem zvu(a b:List UInt32)(ha:a.length≤1000000)(hb:b.length≤1000000):Zb T 88 [.sl (Za a) .an,.sl (Za b) .an] =
  some (if val a<val b then .tup [.sl [] .an,.b false] else .tup [.sl (Za (ofN (val a-val b))) .an,.b true]):=by
 have hta:=zbv (T:=T) a (by omega);have htb:=zbv (T:=T) b (by omega);have hla:=zac a;have hlb:=zac b;have hc:=zgr (T:=T) (ofN (val a)) (ofN (val b)) (by omega) (by omega);rw[zae,zae]at hc;rw[zaa Zs.h88 rfl,b88];by_cases h:val a<val b
 ·simp[hta,htb,hc,zc0,h]
 ·have hle:=zat (show val b≤val a by omega);have hf:=zcn (T:=T) (ofN (val a)) 0 (by omega);simp only[Yo,Yt,Yde,Ybh]at hf;obtain⟨_,⟨c,out,rfl,ho,hc1,hv⟩,hr⟩:=zy6 (T:=T) (ofN (val a)) (ofN (val b)) hle (by omega) (0,0,ofN (val a)) ⟨Yr _,Yr _,rfl,by simp⟩;unfold Ziu at hr;simp at hr;rw[zae,zae]at hv;have hlt:=zay out;rw[ho]at hlt;have hc0:c=0:=by
   rcases Ya0 c with h1 | h1
   ·exact h1
   ·have:c=1:=by omega
    subst this;omega
  subst hc0;have hval:val out=val a-val b:=by omega
  have ht:=zbv (T:=T) out (by omega);rw[hval]at ht;have htk:List.take (ofN (val a)).length out=out:=Yb (by omega);simp[hta,htb,hc,zc0,h,hf,hr,ho,htk,ht]
theorem z28(a b:List UInt32)(ha:a.length≤1000000)(hb:b.length≤1000000):Zb T 57 [.sl (Za a) .an,.sl (Za b) .an] =
  some (.tup [.sl (Za (ofN (if val a<val b then val b-val a else val a-val b))) .an,.i .i64 (Zcm (val a) (val b))]):=by
 have hc:=zgr (T:=T) a b ha hb;rw[zaa Zs.h57 rfl,b57];by_cases h:val a<val b
 ·have h2:¬ val b<val a:=by omega
  have hs:=zvu (T:=T) b a hb ha;rw[if_neg h2]at hs;simp[hc,zc0,h,hs]
 ·have hs:=zvu (T:=T) a b ha hb;rw[if_neg h]at hs;simp[hc,zc0,h,hs]
theorem zy7{x y:Nat}(hx:x<4294967296):x ||| (y*4294967296)=x+y*4294967296:=by
 have:=Ycz (i:=32) hx y;rw[Nat.or_comm,Yad y,show (4294967296:Nat)=2^32 from rfl,←this];omega
end
section
variable{T:Tbl}
theorem zr6(l:List UInt32)(hl:l.length≤2):∀i:Nat,i≤l.length →
  Zn T 0 0 (.norm false [4]) l73_0 ⟨[(4,u64 (val (l.take i))),(12,.sl (Za l) .an),(13,.i .i64 l.length),(14,.i .i64 i)],[],2⟩=some (.n,⟨[(4,u64 (val l))],[],2⟩):=by
 refine zaz (fun i:Nat=>⟨[(4,u64 (val (l.take i))),(12,.sl (Za l) .an),(13,.i .i64 l.length),(14,.i .i64 i)],[],2⟩) _ (fun i=>l.length-i) _ ?_;intro i hi;by_cases h0:i<l.length
 ·left;have hg:l[i]? = some (l[i]'h0):=Ya h0;have hx:=zam (l[i]'h0);have h1:=zaf hg;refine⟨i+1,h0,by show l.length-(i+1)<l.length-i;omega,?_,rfl⟩;rcases(show i=0∨i=1 by omega) with rfl | rfl
  ·simp[l73_0,h0,h1]
  ·have h2:val (l.take 1)<4294967296:=by
    have:=zay (l.take 1);have h3:(l.take 1).length=1:=by simp;omega
    rw[h3]at this;simpa using this
   have e1:(l[1]'h0).toNat*4294967296%18446744073709551616=(l[1]'h0).toNat*4294967296:=Yi (by omega);have e2:=zy7 (y:=(l[1]'h0).toNat) h2;have e3:(val (l.take 1)+(l[1]'h0).toNat*4294967296)%18446744073709551616=val (l.take 1)+(l[1]'h0).toNat*4294967296:=Yi (by omega);have e4:val (l.take 1)+(l[1]'h0).toNat*4294967296=val (l.take (1+1)):=by rw[h1];omega
   simp at e4;have h0':(1:Int)<(l.length:Int):=by omega
   have e5:val (List.take 2 l)<18446744073709551616:=by omega
   simp[l73_0,h0,h0',e1,e2,e4,e5]
 ·right;have:i=l.length:=by omega
  subst this;rw[Yb (Yh _)];constructor<;>simp[l73_0]
end
section
variable{T:Tbl}[Zs T]
theorem zmy(a:List UInt32)(ha:a.length≤1000000):Zb T 73 [.sl (Za a) .an] =
  some (if val a<18446744073709551616 then .tup [u64 (val a),.b true] else .tup [u64 0,.b false]):=by
 have hta:=zbv (T:=T) a (by omega);have hla:=zac a;have hv:=zae (val a);rw[zaa Zs.h73 rfl,b73];generalize hl:ofN (val a)=l at *
 by_cases h:2<l.length
 ·have h2:¬ val a<18446744073709551616:=by
   intro h3;have:=zap (show val a<4294967296^2 from h3);rw[hl]at this;omega
  have h3:(2:Int)<(l.length:Int):=by omega
  simp[hta,h3,h2]
 ·have h2:val a<18446744073709551616:=by
   have:=zay l;rw[hv]at this;have h3:4294967296^l.length≤4294967296^2:=Y0 (by decide) (by omega);omega
  have h3:¬ (2:Int)<(l.length:Int):=by omega
  have hs:=zr6 (T:=T) l (by omega) 0 (Yr _);simp at hs;simp[hta,h3,h2,hs,hv]
end
def l89_0:AX:=
 (.note
 (.seq
 (.reg [rg 15 (.bin .lss (.t 14) (.t 13))])
 (.seq
 (.cond (.t 15)
 .skip
 (.exit 0))
 (.seq
 (.block 1
 (.seq
 (.reg [mv 16 14,rg 17 (.iad 1 (.t 12) (.t 14)),rg 18 (.load none (.t 17)),mv 10 16,mv 11 18])
 (.reg [mv 20 0,mv 21 1,mv 22 10,rg 23 (.bin .add (.t 21) (.t 22)),mv 24 3,mv 25 11,mv 26 0,mv 27 1,mv 28 10,rg 29 (.bin .add (.t 27) (.t 28)),rg 30 (.iad 1 (.t 26) (.t 29)),rg 31 (.load none (.t 30)),mv 32 4,rg 33 (.call 117 [(.t 24),(.t 25),(.t 31),(.t 32)]),mv 19 33,rg 34 (.ext (.t 19) 0),rg 35 (.ext (.t 19) 1),mv 4 34,rg 36 (.iad 1 (.t 20) (.t 23)),so (.store 1 (.t 36) (.t 35))])))
 (.reg [rg 37 (.bin .add (.t 14) (.c (.i .i64 1))),mv 14 37]))))
 (.norm false [0,1,2,3,4,12,13,14]))
def b89:AX:=
 (.seq
 (.seq
 (.reg [mv 12 2,rg 13 (.len (.t 12)),rg 14 (.mov (.c (.i .i64 0)))])
 (.lp 0 (.norm false [0,1,2,3,4,12,13,14]) l89_0 (.norm false [0,1,2,4])))
 (.reg [mv 38 0,mv 39 1,mv 40 2,rg 41 (.len (.t 40)),rg 42 (.bin .add (.t 39) (.t 41)),mv 43 4,rg 44 (.iad 1 (.t 38) (.t 42)),so (.store 1 (.t 44) (.t 43))]))
def l60_0:AX:=
 (.note
 (.seq
 (.reg [rg 18 (.bin .lss (.t 17) (.t 16))])
 (.seq
 (.cond (.t 18)
 .skip
 (.exit 0))
 (.seq
 (.block 1
 (.seq
 (.reg [mv 19 17,rg 20 (.iad 1 (.t 15) (.t 17)),rg 21 (.load none (.t 20)),mv 6 19,mv 7 21])
 (.reg [mv 22 5,mv 23 6,mv 24 0,mv 25 7,rg 26 (.call 89 [(.t 22),(.t 23),(.t 24),(.t 25),(.c (u32 0))])])))
 (.reg [rg 27 (.bin .add (.t 17) (.c (.i .i64 1))),mv 17 27]))))
 (.norm false [0,5,15,16,17]))
def b60:AX:=
 (.seq
 (.reg [rg 4 (.mov (.c (.sl [] .nl)))])
 (.seq
 (.reg [mv 8 0,rg 9 (.len (.t 8)),mv 10 1,rg 11 (.len (.t 10)),rg 12 (.bin .add (.t 9) (.t 11)),rg 13 (.bin .add (.t 12) (.c (.i .i64 1))),rg 14 (.mks 1 [(u32 0)] (.t 13) (.t 13)),mv 5 14])
 (.seq
 (.seq
 (.reg [mv 15 1,rg 16 (.len (.t 15)),rg 17 (.mov (.c (.i .i64 0)))])
 (.lp 0 (.norm false [0,5,15,16,17]) l60_0 (.norm false [5])))
 (.seq
 (.reg [mv 28 5,rg 29 (.call 71 [(.t 28)]),mv 4 29])
 (.pre (.norm false [4]) .ret)))))
def row89:AFx:=⟨5,45,[],b89,(some [true,false,false,false,false]),false⟩
def row60:AFx:=⟨2,30,[.t 4],b60,none,false⟩
class Zw (T:Tbl):Prop extends Zs T where
 h89:T 89=some row89
 h60:T 60=some row60
section
variable{T:Tbl}[Zw T]{d:Option Nat}{st:St}
@[simp] theorem x89(xs:List AV):Zc (orc T) T 89 xs d st=bL (Zea st.heap [true,false,false,false,false] xs) fun ys=>Zdn ys (Zj (Zas [true,false,false,false,false] xs) st.heap) (reach (Zj (Zas [true,false,false,false,false] xs) st.heap) 40 (Zcc [true,false,false,false,false] xs) []) T 89 false d st:=zal Zw.h89
@[simp] theorem x60(xs:List AV):Zc (orc T) T 60 xs d st=cP T 60 false xs d st:=zab Zw.h60
@[simp] theorem y60{e:Env}{h:Heap}{older:List Heap}(args:List Opd):opD (orc T) T (.call 60 args) e h older=dR (Zb T 60 ((args.map (ev e.get)).map (wkIf false))) (args.map (ev e.get)):=zak Zw.h60
end
def l92_0:AX:=
 (.note
 (.seq
 (.reg [rg 27 (.bin .lss (.t 26) (.t 25))])
 (.seq
 (.cond (.t 27)
 .skip
 (.exit 0))
 (.seq
 (.block 1
 (.seq
 (.reg [mv 28 26,rg 29 (.iad 1 (.t 24) (.t 26)),rg 30 (.load none (.t 29)),mv 8 28,mv 9 30])
 (.seq
 (.reg [mv 31 9,rg 32 (.conv .u64 (.t 31)),mv 33 6,rg 34 (.bin .shl (.t 32) (.t 33)),mv 10 34])
 (.seq
 (.reg [mv 35 7,mv 36 5,mv 37 8,rg 38 (.bin .add (.t 36) (.t 37)),rg 39 (.iad 1 (.t 35) (.t 38)),rg 40 (.load none (.t 39)),mv 41 10,rg 42 (.conv .u32 (.t 41)),rg 43 (.bin .or (.t 40) (.t 42)),rg 44 (.iad 1 (.t 35) (.t 38)),so (.store 1 (.t 44) (.t 43))])
 (.reg [mv 45 7,mv 46 5,mv 47 8,rg 48 (.bin .add (.t 46) (.t 47)),rg 49 (.bin .add (.t 48) (.c (.i .i64 1))),mv 50 10,rg 51 (.bin .shr (.t 50) (.c (u64 32))),rg 52 (.conv .u32 (.t 51)),rg 53 (.iad 1 (.t 45) (.t 49)),so (.store 1 (.t 53) (.t 52))])))))
 (.reg [rg 54 (.bin .add (.t 26) (.c (.i .i64 1))),mv 26 54]))))
 (.norm false [5,6,7,24,25,26]))
def b92:AX:=
 (.seq
 (.reg [rg 4 (.mov (.c (.sl [] .nl)))])
 (.seq
 (.reg [mv 11 1,rg 12 (.mm true [(.t 11),(.c (.i .i64 0))]),rg 13 (.mm false [(.t 12),(.c (.i .i64 4096))]),mv 1 13])
 (.seq
 (.reg [mv 14 1,rg 15 (.bin .quo (.t 14) (.c (.i .i64 32))),mv 16 1,rg 17 (.bin .rem (.t 16) (.c (.i .i64 32))),mv 5 15,mv 6 17])
 (.seq
 (.reg [mv 18 5,mv 19 0,rg 20 (.len (.t 19)),rg 21 (.bin .add (.t 18) (.t 20)),rg 22 (.bin .add (.t 21) (.c (.i .i64 1))),rg 23 (.mks 1 [(u32 0)] (.t 22) (.t 22)),mv 7 23])
 (.seq
 (.seq
 (.reg [mv 24 0,rg 25 (.len (.t 24)),rg 26 (.mov (.c (.i .i64 0)))])
 (.lp 0 (.norm false [5,6,7,24,25,26]) l92_0 (.norm false [7])))
 (.seq
 (.reg [mv 55 7,rg 56 (.call 71 [(.t 55)]),mv 4 56])
 (.pre (.norm false [4]) .ret)))))))
def l94_0:AX:=
 (.note
 (.seq
 (.reg [rg 28 (.bin .lss (.t 27) (.t 26))])
 (.seq
 (.cond (.t 28)
 .skip
 (.exit 0))
 (.seq
 (.block 1
 (.seq
 (.reg [mv 29 27,mv 8 29])
 (.seq
 (.reg [mv 30 0,mv 31 5,mv 32 8,rg 33 (.bin .add (.t 31) (.t 32)),rg 34 (.iad 1 (.t 30) (.t 33)),rg 35 (.load none (.t 34)),rg 36 (.conv .u64 (.t 35)),mv 9 36])
 (.seq
 (.seq
 (.reg [mv 37 5,mv 38 8,rg 39 (.bin .add (.t 37) (.t 38)),rg 40 (.bin .add (.t 39) (.c (.i .i64 1))),mv 41 0,rg 42 (.len (.t 41)),rg 43 (.bin .lss (.t 40) (.t 42))])
 (.cond (.t 43)
 (.reg [mv 44 9,mv 45 0,mv 46 5,mv 47 8,rg 48 (.bin .add (.t 46) (.t 47)),rg 49 (.bin .add (.t 48) (.c (.i .i64 1))),rg 50 (.iad 1 (.t 45) (.t 49)),rg 51 (.load none (.t 50)),rg 52 (.conv .u64 (.t 51)),rg 53 (.bin .shl (.t 52) (.c (u64 32))),rg 54 (.bin .or (.t 44) (.t 53)),mv 9 54])
 .skip))
 (.reg [mv 55 7,mv 56 8,mv 57 9,mv 58 6,rg 59 (.bin .shr (.t 57) (.t 58)),rg 60 (.conv .u32 (.t 59)),rg 61 (.iad 1 (.t 55) (.t 56)),so (.store 1 (.t 61) (.t 60))])))))
 (.reg [rg 62 (.bin .add (.t 27) (.c (.i .i64 1))),mv 27 62]))))
 (.norm false [0,5,6,7,26,27]))
def b94:AX:=
 (.seq
 (.reg [rg 4 (.mov (.c (.sl [] .nl)))])
 (.seq
 (.reg [mv 10 1,rg 11 (.mm true [(.t 10),(.c (.i .i64 0))]),mv 1 11])
 (.seq
 (.reg [mv 12 1,rg 13 (.bin .quo (.t 12) (.c (.i .i64 32))),mv 14 1,rg 15 (.bin .rem (.t 14) (.c (.i .i64 32))),mv 5 13,mv 6 15])
 (.seq
 (.seq
 (.reg [mv 16 5,mv 17 0,rg 18 (.len (.t 17)),rg 19 (.bin .geq (.t 16) (.t 18))])
 (.cond (.t 19)
 (.seq
 (.reg [rg 4 (.mov (.c (.sl [] .nl)))])
 (.pre (.norm false [4]) .ret))
 .skip))
 (.seq
 (.reg [mv 20 0,rg 21 (.len (.t 20)),mv 22 5,rg 23 (.bin .sub (.t 21) (.t 22)),rg 24 (.mks 1 [(u32 0)] (.t 23) (.t 23)),mv 7 24])
 (.seq
 (.seq
 (.reg [mv 25 7,rg 26 (.len (.t 25)),rg 27 (.mov (.c (.i .i64 0)))])
 (.lp 0 (.norm false [0,5,6,7,26,27]) l94_0 (.norm false [7])))
 (.seq
 (.reg [mv 63 7,rg 64 (.call 71 [(.t 63)]),mv 4 64])
 (.pre (.norm false [4]) .ret))))))))
def row92:AFx:=⟨2,57,[.t 4],b92,none,false⟩
def row94:AFx:=⟨2,65,[.t 4],b94,none,false⟩
class Zx (T:Tbl):Prop where
 h92:T 92=some row92
 h94:T 94=some row94
section
variable{T:Tbl}[Zx T]{d:Option Nat}{st:St}
@[simp] theorem x94(xs:List AV):Zc (orc T) T 94 xs d st=cP T 94 false xs d st:=zab Zx.h94
end
theorem zdj{P m S:List UInt32}{i:Nat}(hm:m.length=i)(hi:i<S.length):(P++(m++S.drop i))[P.length+i]? = some (S[i]'hi):=by
 rw[Yg (by omega),Yal,Yg (by omega),hm,Ybn,Yap,Yt,Ya hi]
theorem zc1{P m S:List UInt32}{i:Nat}(w:UInt32)(hm:m.length=i)(hi:i<S.length):(P++(m++S.drop i)).set (P.length+i) w=P++((m++[w])++S.drop (i+1)):=by
 rw[Yaw (P.length+i) w (by omega),Yal,Yaw i w (by omega),hm,Ybn,Yf hi,Yct];simp
section
variable{T:Tbl}[Zw T]
def Zjh(P S a:List UInt32)(x:Nat)(y:Nat×Nat×List UInt32):St:=
 ⟨[(0,.bs (.bor 0) 0 1 0 (P.length+S.length)),(1,.i .i64 P.length),(2,.sl (Za a) .an),(3,u32 x),(4,u32 y.2.1),(12,.sl (Za a) .an),(13,.i .i64 a.length),(14,.i .i64 y.1)],
  [(.bor 0,⟨0,.own,1,Za (P++(y.2.2++S.drop y.1))⟩)],4⟩
theorem zqc{p m w c c' s x y t v k:Nat}(h:m+p*c=s+x*t+k)(e:w+4294967296*c'=x*y+v+c):(m+p*w)+p*4294967296*c'=(s+p*v)+x*(t+p*y)+k:=by
 have e2:p*w+p*4294967296*c'=p*(x*y)+p*v+p*c:=by rw[Yx,←Yu,e,Yu,Yu]
 have e3:x*(t+p*y)=x*t+p*(x*y):=by rw[Yu,←Yx,Yad x p,Yx]
 omega
theorem zy8(P S a:List UInt32)(x c0:Nat)(hx:x<4294967296)(hS:a.length<S.length)(hl:P.length+S.length≤1000000):∀y:Nat×Nat×List UInt32,
  (y.1≤a.length∧y.2.1<4294967296∧y.2.2.length=y.1∧val y.2.2+4294967296^y.1*y.2.1=val (S.take y.1)+x*val (a.take y.1)+c0) →
  ∃r,(∃(c:Nat) (m:List UInt32),r=(Ex.n,(⟨[(0,.bs (.bor 0) 0 1 0 (P.length+S.length)),(1,.i .i64 P.length),(2,.sl (Za a) .an),(4,u32 c)],[(.bor 0,⟨0,.own,1,Za (P++(m++S.drop a.length))⟩)],4⟩:St)) ∧
   m.length=a.length∧c<4294967296∧val m+4294967296^a.length*c=val (S.take a.length)+x*val a+c0)∧Zn T 1 0 (.norm false [0,1,2,4]) l89_0 (Zjh P S a x y)=some r:=by
 refine zaq _ _ (fun y=>a.length-y.1) _ ?_
 rintro⟨i,c,m⟩ ⟨hi,hc,hm,hv⟩
 simp only at hi hc hm hv;by_cases h0:i<a.length
 ·left;have ha:a[i]? = some (a[i]'h0):=Ya h0;have hiS:i<S.length:=by omega
  have hs:S[i]? = some (S[i]'hiS):=Ya hiS;have hg:=zdj (P:=P) hm hiS;have hw:IntKind.wrap .i64 ((i:Int)+1)=((i+1:Nat):Int):=zad _ (by omega);have hw2:IntKind.wrap .i64 ((P.length:Int)+i)=((P.length+i:Nat):Int):=zad _ (by omega);have hlt:P.length+i<P.length+S.length:=by omega
  have hlt2:((P.length+i:Nat):Int)<(P.length:Int)+S.length:=by omega
  have hla:=zam (a[i]'h0);have hls:=zam (S[i]'hiS);have hmul:=zij hx hla;have hlen:(P++(m++S.drop i)).length=P.length+S.length:=by simp;omega
  have hcall:=zik (T:=T) x (a[i]'h0).toNat (S[i]'hiS).toNat c hx hla hls hc;have hset:=zc1 (P:=P) (w32 (x*(a[i]'h0).toNat+(S[i]'hiS).toNat+c)) hm hiS;refine⟨(i+1,(x*(a[i]'h0).toNat+(S[i]'hiS).toNat+c)/4294967296,m++[w32 (x*(a[i]'h0).toNat+(S[i]'hiS).toNat+c)]),⟨h0,by simp only;omega,by simp[hm],?_⟩,by simp only;omega,?_⟩
  ·simp only;rw[zaj,zaf ha,zaf hs,Yw,hm];simp only[zan,za8,Yac,Yt,zb4];exact zqc hv (by have:=Yba (x*(a[i]'h0).toNat+(S[i]'hiS).toNat+c) 4294967296;omega)
  ·simp[l89_0,Zjh,h0,hw,hw2,hiS,hg,hcall,hset]
 ·right;have:i=a.length:=by omega
  subst this;rw[Yb (Yh a.length)]at hv;refine⟨_,⟨c,m,rfl,hm,hc,hv⟩,?_,?_⟩<;>simp[l89_0,Zjh]
theorem zy9(P S a:List UInt32)(x c0:Nat)(hx:x<4294967296)(hc:c0<4294967296)(hS:a.length<S.length)(hl:P.length+S.length≤1000000) :
  ∃m,m.length=a.length+1∧val m=val (S.take a.length)+x*val a+c0 ∧
   Zaa T 89 [.bs (.bor 0) 0 1 0 (P.length+S.length),.i .i64 P.length,.sl (Za a) .an,u32 x,u32 c0] [(.bor 0,⟨0,.own,1,Za (P++S)⟩)] =
    some (.tup [],[(.bor 0,⟨0,.own,1,Za (P++(m++S.drop (a.length+1)))⟩)]):=by
 obtain⟨_,⟨c,m,rfl,hm,hc1,hv⟩,hr⟩:=zy8 (T:=T) P S a x c0 hx hS hl (0,c0,[]) ⟨Yr _,hc,rfl,by simp⟩;unfold Zjh at hr;simp at hr;refine⟨m++[w32 c],by simp[hm],by rw[zaj,hm];simpa[zag hc1]using hv,?_⟩;have hw2:IntKind.wrap .i64 ((P.length:Int)+a.length)=((P.length+a.length:Nat):Int):=zad _ (by omega);have hlt:P.length+a.length<P.length+S.length:=by omega
 have hlt2:((P.length+a.length:Nat):Int)<(P.length:Int)+S.length:=by omega
 have hg:=zdj (P:=P) hm hS;have hset:=zc1 (P:=P) (w32 c) hm hS;rw[zah Zw.h89 rfl,b89];simp[hr,hw2,hg,hS,zbi _ _ _ hc1,hset]
def Zji(a b:List UInt32)(y:Nat×List UInt32):St:=
 ⟨[(0,.sl (Za a) .an),(5,.bs (.loc 14) 1 1 0 (a.length+b.length+1)),(15,.sl (Za b) .an),(16,.i .i64 b.length),(17,.i .i64 y.1)],[(.loc 14,⟨1,.own,1,Za (y.2++List.replicate (b.length+1-y.1) 0)⟩)],3⟩
theorem zza(a b:List UInt32)(ha:a.length≤100000)(hb:b.length≤100000):∀y:Nat×List UInt32,
  (y.1≤b.length∧y.2.length=a.length+y.1∧val y.2=val a*val (b.take y.1)) →
  ∃r,(∃out:List UInt32,r=(Ex.n,(⟨[(5,.bs (.loc 14) 1 1 0 (a.length+b.length+1))],[(.loc 14,⟨1,.own,1,Za out⟩)],3⟩:St))∧out.length=a.length+b.length+1∧val out=val a*val b) ∧
   Zn T 0 0 (.norm false [5]) l60_0 (Zji a b y)=some r:=by
 refine zaq _ _ (fun y=>b.length-y.1) _ ?_
 rintro⟨i,X⟩ ⟨hi,hX,hv⟩
 simp only at hi hX hv;by_cases h0:i<b.length
 ·left;have hbg:b[i]? = some (b[i]'h0):=Ya h0;have hw:IntKind.wrap .i64 ((i:Int)+1)=((i+1:Nat):Int):=zad _ (by omega);obtain⟨m,hm1,hm2,hc⟩:=zy9 (T:=T) (X.take i) (X.drop i++List.replicate (b.length+1-i) 0) a (b[i]'h0).toNat 0 (zam _) (by decide) (by simp;omega) (by simp;omega);have e1:X.take i++(X.drop i++List.replicate (b.length+1-i) 0)=X++List.replicate (b.length+1-i) 0:=by rw[←Yax,Yam]
  have e2:(X.take i).length=i:=by simp;omega
  have e3:(X.drop i++List.replicate (b.length+1-i) 0).length=a.length+b.length+1-i:=by simp;omega
  have e4:i+(a.length+b.length+1-i)=a.length+b.length+1:=by omega
  have e5:(X.drop i++List.replicate (b.length+1-i) 0).drop (a.length+1)=List.replicate (b.length+1-(i+1)) 0:=by
   rw[List.drop_append,Yao (by simp;omega),List.drop_replicate];simp only[Yae,Yby];congr 1;omega
  have e6:(X.drop i++List.replicate (b.length+1-i) 0).take a.length=X.drop i:=by
   rw[Ybz (by simp;omega),Yb (by simp;omega)]
  rw[e1,e2,e3,e4,e5]at hc;rw[e6]at hm2;simp only[←Yax]at hc;refine⟨(i+1,X.take i++m),⟨h0,by simp only[Ya6,e2,hm1];omega,?_⟩,by simp only;omega,?_⟩
  ·simp only;have e7:=zaj (X.take i) (X.drop i);rw[Yam,e2]at e7;rw[zaj,e2,hm2,zaf hbg,Yu (val a),←hv,e7,Yu,Yu];have e8:4294967296^i*((b[i]'h0).toNat*val a)=val a*(4294967296^i*(b[i]'h0).toNat):=by
    rw[Yad (b[i]'h0).toNat,←Yx,Yad (4294967296^i) (val a),Yx]
   rw[e8];omega
  ·simp[l60_0,Zji,h0,hw,hc]
 ·right;have:i=b.length:=by omega
  subst this;rw[Yb (Yh _)]at hv;refine⟨_,⟨X++List.replicate (b.length+1-b.length) 0,rfl,by simp;omega,by rw[zaj,zbk,hv];simp⟩,?_,?_⟩<;>simp[l60_0,Zji]
theorem zex(a b:List UInt32)(ha:a.length≤100000)(hb:b.length≤100000):Zb T 60 [.sl (Za a) .an,.sl (Za b) .an]=some (.sl (Za (ofN (val a*val b))) .an):=by
 obtain⟨_,⟨out,rfl,ho,hv⟩,hr⟩:=zza (T:=T) a b ha hb (0,List.replicate a.length 0) ⟨Yr _,by simp,by simp[zbk]⟩;unfold Zji at hr;simp at hr;have hw1:IntKind.wrap .i64 ((a.length:Int)+b.length)=(a.length:Int)+b.length:=zad _ (by omega);have hw:IntKind.wrap .i64 ((a.length:Int)+b.length+1)=(a.length:Int)+b.length+1:=zad _ (by omega);have hle:(a.length:Int)+b.length+1≤4294967296:=by omega
 have hn:=zbw (T:=T) out (by omega);rw[hv]at hn;have htk:List.take (a.length+b.length+1) out=out:=Yb (by omega);have he:a.length+(b.length+1)=a.length+b.length+1:=by omega
 rw[he]at hr;rw[zaa Zw.h60 rfl,b60];simp[hw,hw1,hle,hr,ho,htk,hn]
end
theorem zo9(w:Nat):4294967296^w=2^(32*w):=by
 rw[Ydo]
theorem zni(a:List UInt32)(w:Nat)(h:w≤a.length):val a=val (a.take w)+4294967296^w*val (a.drop w):=by
 have:=zaj (a.take w) (a.drop w);rw[Yam,Ya8,Yc0 h]at this;exact this
theorem zw6(a:List UInt32)(w:Nat)(h:w≤a.length):val a/4294967296^w=val (a.drop w):=by
 have hp:0<4294967296^w:=Ya2 (by decide);have hlt:=zay (a.take w);rw[Ya8,Yc0 h]at hlt;rw[zni a w h,Yb0 _ _ hp,Ybc hlt,Yaj]
theorem zw7{a:List UInt32}{i:Nat}{x:UInt32}(h:a[i/32]? = some x):val a/2^i%2=x.toNat/2^(i%32)%2:=by
 have hlt:i/32<a.length:=by
  rcases Yq (i/32) a.length with h1 | h1
  ·exact h1
  ·rw[Yah h1]at h;cases h
 have e:2^i=4294967296^(i/32)*2^(i%32):=by
  rw[zo9,←Ybk];congr 1;omega
 rw[e,←Ybg,zw6 a _ (by omega)];have hx:a[i/32]'hlt=x:=by rw[Ya hlt]at h;cases h;rfl
 rw[Yf hlt,hx,zan];generalize val (a.drop (i/32+1))=r;have hb:i%32<32:=Ya3 _ (by decide);generalize i%32=b at *
 have e2:4294967296*r=2^b*(2^(32-b-1)*2*r):=by
  rw[←Yw,←Yx,←Ybk,show b+(32-b-1+1)=32 by omega]
 rw[e2,Yb0 _ _ (Ya2 (by decide)),Nat.mul_right_comm,Yd9]
theorem zw8{n k:Nat}(h:n<2^(k+1))(hb:n/2^k%2=0):n<2^k:=by
 have hp:0<2^k:=Ya2 (by decide);rw[Yw]at h;have h1:n/2^k<2:=Ybe h;have h2:n/2^k=0:=by
  generalize n/2^k=q at *
  omega
 rcases Yq n (2^k) with h3 | h3
 ·exact h3
 ·have:=Yfc h3 hp;omega
theorem z00{a b n:Nat}(h:a<2^n):a ||| 2^n*b=a+2^n*b:=by
 rw[Nat.or_comm,←Ycz h,Ybf]
theorem z38{p m c c' w s x B:Nat}(h:m+p*c=B*s)(e:w+4294967296*c'=x*B+c):(m+p*w)+p*4294967296*c'=B*(s+p*x):=by
 have e2:p*w+p*4294967296*c'=p*(x*B)+p*c:=by rw[Yx,←Yu,e,Yu]
 have e3:B*(s+p*x)=B*s+p*(x*B):=by rw[Yu,Yad B (p*x),Yx]
 omega
theorem z39{x c n:Nat}(hx:x<4294967296)(hn:n<32)(hc:c<2^n) :
  x*2^n<18446744073709551616∧(c ||| x*2^n%4294967296)=c+x*2^n%4294967296∧c+x*2^n%4294967296<4294967296∧x*2^n/4294967296<2^n∧2^n<4294967296:=by
 have hp:2^(n+(32-n))=4294967296:=by rw[show n+(32-n)=32 by omega]
 rw[Ybk]at hp;have hq:0<2^n:=Ya2 (by decide);have hr:1<2^(32-n):=Nat.one_lt_two_pow (by omega);have e1:x*2^n%4294967296=2^n*(x%2^(32-n)):=by rw[←hp,Yad x,Nat.mul_mod_mul_left]
 have e2:=z00 (b:=x%2^(32-n)) hc;rw[←e1]at e2;have hlt:2^n<4294967296:=by
  have h1:=Yak (2^n) (show 2≤2^(32-n) from hr);rw[hp]at h1;omega
 refine⟨?_,e2,?_,?_,hlt⟩
 ·have:=Nat.mul_lt_mul'' hx hlt;simpa using this
 ·rw[e1];have h1:x%2^(32-n)+1≤2^(32-n):=Ya3 _ (by omega);have h2:=Yak (2^n) h1;rw[hp,Yu,Ycl]at h2;omega
 ·exact Ybe (by rw[Yad x];rw[Yad 4294967296];exact Nat.mul_lt_mul_of_pos_left hx hq)
theorem znj{x y R b:Nat}(hb:b<32)(hx:x<4294967296) :
  (x+4294967296*(y+4294967296*R))/2^b=(x+y*4294967296)/2^b%4294967296+4294967296*((y+4294967296*R)/2^b):=by
 have hq:0<2^b:=Ya2 (by decide);have h1:(x+4294967296*(y+4294967296*R))/4294967296=y+4294967296*R:=by omega
 have h2:(x+4294967296*(y+4294967296*R))/2^b/4294967296=(y+4294967296*R)/2^b:=by
  rw[Ybg,Yad (2^b),←Ybg,h1]
 have hp:2^b*2^(32-b)=4294967296:=by rw[←Ybk,show b+(32-b)=32 by omega]
 have h3:x+4294967296*(y+4294967296*R)=(x+y*4294967296)+2^b*(4294967296*(2^(32-b)*R)):=by
  have:2^b*(4294967296*(2^(32-b)*R))=4294967296*(4294967296*R):=by
   rw[Yep,←Yx (2^b),hp]
  omega
 have h4:(x+4294967296*(y+4294967296*R))/2^b%4294967296=(x+y*4294967296)/2^b%4294967296:=by
  rw[h3,Yb0 _ _ hq,Yc7]
 have h5:=Nat.mod_add_div ((x+4294967296*(y+4294967296*R))/2^b) 4294967296;rw[h2,h4]at h5;exact h5.symm
theorem zql{P m R:List UInt32}{i:Nat}{c:UInt32}(hm:m.length=i):(P++(m++c::R))[P.length+i]? = some c:=by
 rw[Yg (by omega),Yal,Yg (by omega),hm,Ybn]
 rfl
theorem zlc{P m R:List UInt32}{i:Nat}{c:UInt32}(w:UInt32)(hm:m.length=i):(P++(m++c::R)).set (P.length+i) w=P++(m++w::R):=by
 rw[Yaw (P.length+i) w (by omega),Yal,Yaw i w (by omega),hm,Ybn,Yct]
theorem zzw{P m R:List UInt32}{i:Nat}{c d:UInt32}(w:UInt32)(hm:m.length=i):(P++(m++c::d::R)).set (P.length+i+1) w=P++(m++c::w::R):=by
 rw[Yan,Yaw (P.length+(i+1)) w (by omega),Yal,Yaw (i+1) w (by omega),hm,show i+1-i=1 by omega]
 rfl
theorem zzx{P m R:List UInt32}{i:Nat}{c d:UInt32}(hm:m.length=i):(P++(m++c::d::R))[P.length+i+1]? = some d:=by
 rw[Yan,Yg (by omega),Yal,Yg (by omega),hm,show i+1-i=1 by omega]
 rfl
theorem zez(n:Nat):w32 (n%4294967296)=w32 n:=z0z (by rw[zb4,Nat.mod_mod])
section
variable{T:Tbl}[Zs T][Zx T]
def Zlj(P a:List UInt32)(n:Nat)(y:Nat×Nat×List UInt32):St:=
 ⟨[(5,.i .i64 P.length),(6,.i .i64 n),(7,.bs (.loc 23) 1 1 0 (P.length+a.length+1)),(24,.sl (Za a) .an),(25,.i .i64 a.length),(26,.i .i64 y.1)],[(.loc 23,⟨1,.own,1,Za (P++(y.2.2++w32 y.2.1::List.replicate (a.length-y.1) 0))⟩)],3⟩
end
section
variable{T:Tbl}
theorem z34(P a:List UInt32)(n:Nat)(hn:n<32)(hl:P.length+a.length≤1000000):∀y:Nat×Nat×List UInt32,
  (y.1≤a.length∧y.2.1<2^n∧y.2.2.length=y.1∧val y.2.2+4294967296^y.1*y.2.1=2^n*val (a.take y.1)) →
  ∃r,(∃(c:Nat) (m:List UInt32),r=(Ex.n,(⟨[(7,.bs (.loc 23) 1 1 0 (P.length+a.length+1))],[(.loc 23,⟨1,.own,1,Za (P++(m++[w32 c]))⟩)],3⟩:St)) ∧
   m.length=a.length∧c<2^n∧val m+4294967296^a.length*c=2^n*val a)∧Zn T 0 0 (.norm false [7]) l92_0 (Zlj P a n y)=some r:=by
 refine zaq _ _ (fun y=>a.length-y.1) _ ?_
 rintro⟨i,c,m⟩ ⟨hi,hc,hm,hv⟩
 simp only at hi hc hm hv;by_cases h0:i<a.length
 ·left;have ha:a[i]? = some (a[i]'h0):=Ya h0;obtain⟨u1,u2,u3,u4,u5⟩:=z39 (zam (a[i]'h0)) hn hc;have hx:=zam (a[i]'h0);have hrep:List.replicate (a.length-i) (0:UInt32)=0::List.replicate (a.length-(i+1)) 0:=by
   rw[show a.length-i=a.length-(i+1)+1 by omega,Yco]
  have hw:IntKind.wrap .i64 ((i:Int)+1)=((i+1:Nat):Int):=zad _ (by omega);have hw2:IntKind.wrap .i64 ((P.length:Int)+i)=((P.length+i:Nat):Int):=zad _ (by omega);have hw3:IntKind.wrap .i64 ((P.length:Int)+i+1)=((P.length+i+1:Nat):Int):=zad _ (by omega);have hg:=zql (P:=P) (c:=w32 c) (R:=0::List.replicate (a.length-(i+1)) 0) hm;have hg3:=zzx (P:=P) (c:=w32 (c+(a[i]'h0).toNat*2^n%4294967296)) (d:=0) (R:=List.replicate (a.length-(i+1)) 0) hm;have hs1:=zlc (P:=P) (c:=w32 c) (R:=0::List.replicate (a.length-(i+1)) 0) (w32 (c+(a[i]'h0).toNat*2^n%4294967296)) hm;have hs2:=zzw (P:=P) (c:=w32 (c+(a[i]'h0).toNat*2^n%4294967296)) (d:=0) (R:=List.replicate (a.length-(i+1)) 0) (w32 ((a[i]'h0).toNat*2^n/4294967296)) hm;have hmin:min n 64=n:=by omega
  have hlt1:(P.length:Int)+i<(P.length:Int)+a.length+1:=by omega
  have hlt2:(P.length:Int)+i<(P.length:Int)+a.length:=by omega
  have m1:(a[i]'h0).toNat%18446744073709551616=(a[i]'h0).toNat:=Yi (by omega);have m2:=Yi u1;have m3:=Yi u3;have hcc:c<4294967296:=by omega
  have m4:(a[i]'h0).toNat*2^n/4294967296%4294967296=(a[i]'h0).toNat*2^n/4294967296:=Yi (by omega);have m5:(a[i]'h0).toNat*2^n/4294967296<4294967296:=by omega
  refine⟨(i+1,(a[i]'h0).toNat*2^n/4294967296,m++[w32 (c+(a[i]'h0).toNat*2^n%4294967296)]),⟨h0,u4,by simp[hm],?_⟩,by simp only;omega,?_⟩
  ·simp only;rw[zaj,zaf ha,Yw,hm];simp only[zan,za8,Yac,Yt,zag u3];exact z38 hv (by have:=Yba ((a[i]'h0).toNat*2^n) 4294967296;omega)
  ·simp at hg hg3 hs1 hs2;simp -implicitDefEqProofs[l92_0,Zlj,h0,hrep,hw,hw2,hw3,hg,hg3,hs1,hs2,zbi _ _ _ u3,zbi _ _ _ m5,hmin,hlt1,hlt2,m1,m2,m3,m4,u2,zag hcc]
 ·right;have:i=a.length:=by omega
  subst this;rw[Yb (Yh a.length)]at hv;refine⟨_,⟨c,m,rfl,hm,hc,hv⟩,?_,?_⟩<;>simp -implicitDefEqProofs[l92_0,Zlj]
end
section
variable{T:Tbl}[Zs T][Zx T]
def Zk0(a:List UInt32)(W n:Nat)(y:Nat×List UInt32):St:=
 ⟨[(0,.sl (Za a) .an),(5,.i .i64 W),(6,.i .i64 n),(7,.bs (.loc 24) 1 1 0 (a.length-W)),(26,.i .i64 (a.length-W:Nat)),(27,.i .i64 y.1)],[(.loc 24,⟨1,.own,1,Za (y.2++List.replicate (a.length-W-y.1) 0)⟩)],3⟩
end
section
variable{T:Tbl}
theorem zw2(a:List UInt32)(W n:Nat)(hn:n<32)(hW:W≤a.length)(hl:a.length≤1000000):∀y:Nat×List UInt32,
  (y.1≤a.length-W∧y.2.length=y.1∧val y.2+4294967296^y.1*(val (a.drop (W+y.1))/2^n)=val (a.drop W)/2^n) →
  ∃r,(∃m:List UInt32,r=(Ex.n,(⟨[(7,.bs (.loc 24) 1 1 0 (a.length-W))],[(.loc 24,⟨1,.own,1,Za m⟩)],3⟩:St)) ∧
   m.length=a.length-W∧val m=val (a.drop W)/2^n)∧Zn T 0 0 (.norm false [7]) l94_0 (Zk0 a W n y)=some r:=by
 refine zaq _ _ (fun y=>a.length-W-y.1) _ ?_
 rintro⟨i,m⟩ ⟨hi,hm,hv⟩
 simp only at hi hm hv;by_cases h0:i<a.length-W
 ·left;have hWi:W+i<a.length:=by omega
  have ha:a[W+i]? = some (a[W+i]'hWi):=Ya hWi;have hx:=zam (a[W+i]'hWi);have hd:=Yf hWi;have hrep:List.replicate (a.length-W-i) (0:UInt32)=0::List.replicate (a.length-W-(i+1)) 0:=by
   rw[show a.length-W-i=a.length-W-(i+1)+1 by omega,Yco]
  have hw:IntKind.wrap .i64 ((i:Int)+1)=((i+1:Nat):Int):=zad _ (by omega);have hw2:IntKind.wrap .i64 ((W:Int)+i)=((W+i:Nat):Int):=zad _ (by omega);have hw3:IntKind.wrap .i64 ((W:Int)+i+1)=((W+i+1:Nat):Int):=zad _ (by omega);have hg:=zql (P:=[]) (c:=0) (R:=List.replicate (a.length-W-(i+1)) 0) hm;have hmin:min n 64=n:=by omega
  have hlt1:(W:Int)+i<(a.length:Int):=by omega
  have hlt3:((W:Int)+i).toNat=W+i:=by omega
  have m1:(a[W+i]'hWi).toNat%18446744073709551616=(a[W+i]'hWi).toNat:=Yi (by omega);have fin:∀y R:Nat,val (a.drop (W+i+1))=y+4294967296*R→val (m++[w32 (((a[W+i]'hWi).toNat+y*4294967296)/2^n%4294967296)])+4294967296^(i+1)*(val (a.drop (W+(i+1)))/2^n)=val (a.drop W)/2^n:=by
   intro y R hR;have hmod:((a[W+i]'hWi).toNat+y*4294967296)/2^n%4294967296<4294967296:=Ya3 _ (by decide);have hdw:=znj (x:=(a[W+i]'hWi).toNat) (y:=y) (R:=R) hn hx;rw[hd,zan,hR,hdw,←hR]at hv;rw[zaj,hm,Yw];rw[zan,za8,Yac,Yt,zag hmod];rw[Yu]at hv;rw[←Yan W i 1,←hv,Yx,Yan]
  by_cases h1:W+i+1<a.length
  ·have ha1:a[W+i+1]? = some (a[W+i+1]'h1):=Ya h1;have hd1:=Yf h1;have hy:=zam (a[W+i+1]'h1);have m2:(a[W+i+1]'h1).toNat%18446744073709551616=(a[W+i+1]'h1).toNat:=Yi (by omega);have m3:(a[W+i+1]'h1).toNat*4294967296%18446744073709551616=(a[W+i+1]'h1).toNat*4294967296:=Yi (by omega);have hor:(a[W+i]'hWi).toNat ||| (a[W+i+1]'h1).toNat*4294967296=(a[W+i]'hWi).toNat+(a[W+i+1]'h1).toNat*4294967296:=by
    have:=z00 (a:=(a[W+i]'hWi).toNat) (b:=(a[W+i+1]'h1).toNat) (n:=32) (by simp);rw[Yad]at this;simpa using this
   have m4:((a[W+i]'hWi).toNat+(a[W+i+1]'h1).toNat*4294967296)%18446744073709551616=(a[W+i]'hWi).toNat+(a[W+i+1]'h1).toNat*4294967296:=Yi (by omega);have hs1:=zlc (P:=[]) (c:=0) (R:=List.replicate (a.length-W-(i+1)) 0) (w32 (((a[W+i]'hWi).toNat+(a[W+i+1]'h1).toNat*4294967296)/2^n%4294967296)) hm;have hlt2:(W:Int)+i+1<(a.length:Int):=by omega
   have hlt4:((W:Int)+i+1).toNat=W+i+1:=by omega
   refine⟨(i+1,m++[w32 (((a[W+i]'hWi).toNat+(a[W+i+1]'h1).toNat*4294967296)/2^n%4294967296)]),⟨h0,by simp[hm],fin _ (val (a.drop (W+i+1+1))) (by rw[hd1,zan])⟩,by simp only;omega,?_⟩;simp at hg;simp[zez]at hs1;simp -implicitDefEqProofs[l94_0,Zk0,h0,ha,hrep,hw,hw2,hw3,hg,hs1,zez,hmin,hlt1,hlt2,hlt3,hlt4,m1,m2,m3,m4,hor,h1]
  ·have hs1:=zlc (P:=[]) (c:=0) (R:=List.replicate (a.length-W-(i+1)) 0) (w32 ((a[W+i]'hWi).toNat/2^n%4294967296)) hm;have hlt2:¬ (W:Int)+i+1<(a.length:Int):=by omega
   have f0:=fin 0 0 (by rw[Yao (by omega),za8,Yac]);rw[Ycf,Yt]at f0;refine⟨(i+1,m++[w32 ((a[W+i]'hWi).toNat/2^n%4294967296)]),⟨h0,by simp[hm],f0⟩,by simp only;omega,?_⟩;simp at hg;simp[zez]at hs1;simp -implicitDefEqProofs[l94_0,Zk0,h0,ha,hrep,hw,hw2,hw3,hg,hs1,zez,hmin,hlt1,hlt2,hlt3,m1]
 ·right;have:i=a.length-W:=by omega
  subst this;rw[show W+(a.length-W)=a.length by omega,Yaf,za8,Nat.zero_div,Yac,Yt]at hv;refine⟨_,⟨m++List.replicate (a.length-W-(a.length-W)) 0,rfl,by simp[hm],by simp[hv]⟩,?_,?_⟩<;>simp -implicitDefEqProofs[l94_0,Zk0]
end
section
variable{T:Tbl}[Zs T][Zx T]
theorem zw3(a:List UInt32)(n:Nat)(h:n/32≤a.length):val (a.drop (n/32))/2^(n%32)=val a/2^n:=by
 rw[←zw6 a _ h,Ybg,zo9,←Ybk,show 32*(n/32)+n%32=n by omega]
theorem zw4(a:List UInt32)(n:Nat)(hn:n≤100000000)(hl:a.length≤100000):Zb T 94 [.sl (Za a) .an,.i .i64 n]=some (.sl (Za (ofN (val a/2^n))) .an):=by
 have hn2:¬ (n:Int)<0:=by omega
 have hq:(n:Int).tdiv 32=(n:Int)/32:=Yc3 (by omega);have hm2:(n:Int).tmod 32=(n:Int)%32:=Yc4 (by omega);have w1:IntKind.wrap .i64 ((n:Int)/32)=(n:Int)/32:=zad (n/32) (by omega);rcases Yq (n/32) a.length with h0 | h0
 ·obtain⟨_,⟨m,rfl,hm,hv⟩,hr⟩:=zw2 (T:=T) a (n/32) (n%32) (Ya3 _ (by decide)) (by omega) (by omega) (0,[]) ⟨Yr _,rfl,by rw[za8,Yds,Ycn,Yaj,Yt]⟩;rw[zw3 a n (by omega)]at hv;have hnm:=zbw (T:=T) m (by omega);rw[hv]at hnm;unfold Zk0 at hr;have hsub:((a.length-n/32:Nat):Int)=(a.length:Int)-(n:Int)/32:=by omega
  simp[hsub]at hr;have p0:¬ (a.length:Int)≤(n:Int)/32:=by omega
  have w2:IntKind.wrap .i64 ((a.length:Int)-(n:Int)/32)=(a.length:Int)-(n:Int)/32:=zad _ (by omega);have p1:(n:Int)/32≤(a.length:Int):=by omega
  have p2:(a.length:Int)-(n:Int)/32≤4294967296:=by omega
  have p3:((a.length:Int)-(n:Int)/32).toNat=a.length-n/32:=by omega
  have htk:List.take (a.length-n/32) m=m:=Yb (by omega);have p5:a.length≤a.length-n/32+n/32:=by omega
  rw[zaa Zx.h94 rfl,b94];simp -implicitDefEqProofs[hn2,hq,hm2,w1,w2,p0,p5,p1,p2,p3,hsub,hr,hnm,htk,hm]
 ·have hz:val a/2^n=0:=by
   refine Ybc (Yz (zay a) ?_);rw[zo9];exact Y0 (by decide) (by omega)
  have p0:(a.length:Int)≤(n:Int)/32:=by omega
  rw[hz,zd4,zaa Zx.h94 rfl,b94];simp -implicitDefEqProofs[hn2,hq,hm2,w1,p0]
end
def l90_0:AX:=
 (.note
 (.seq
 (.seq
 (.reg [mv 16 7,rg 17 (.bin .geq (.t 16) (.c (.i .i64 0)))])
 (.cond (.t 17)
 .skip
 (.exit 0)))
 (.seq
 (.block 1
 (.reg [mv 21 4,mv 22 7,mv 23 5,mv 24 0,mv 25 7,rg 26 (.iad 1 (.t 24) (.t 25)),rg 27 (.load none (.t 26)),mv 28 1,rg 29 (.call 118 [(.t 23),(.t 27),(.t 28)]),mv 20 29,rg 30 (.ext (.t 20) 0),rg 31 (.ext (.t 20) 1),rg 32 (.ext (.t 20) 2),rg 33 (.iad 1 (.t 21) (.t 22)),so (.store 1 (.t 33) (.t 30)),mv 5 31]))
 (.reg [mv 18 7,rg 19 (.bin .sub (.t 18) (.c (.i .i64 1))),mv 7 19])))
 (.norm false [0,1,4,5,7]))
def b90:AX:=
 (.seq
 (.reg [rg 4 (.mov (.c (.sl [] .nl))),rg 5 (.mov (.c (u32 0))),rg 6 (.mov (.c (.b false)))])
 (.seq
 (.seq
 (.reg [mv 8 1,rg 9 (.bin .eql (.t 8) (.c (u32 0)))])
 (.cond (.t 9)
 (.seq
 (.reg [rg 4 (.mov (.c (.sl [] .nl))),rg 5 (.mov (.c (u32 0))),rg 6 (.mov (.c (.b false)))])
 (.pre (.norm false [4,5,6]) .ret))
 .skip))
 (.seq
 (.reg [mv 10 0,rg 11 (.len (.t 10)),rg 12 (.mks 1 [(u32 0)] (.t 11) (.t 11)),mv 4 12])
 (.seq
 (.seq
 (.reg [mv 13 0,rg 14 (.len (.t 13)),rg 15 (.bin .sub (.t 14) (.c (.i .i64 1))),mv 7 15])
 (.lp 0 (.norm false [0,1,4,5,7]) l90_0 (.norm false [4,5])))
 (.seq
 (.reg [mv 34 4,rg 35 (.call 71 [(.t 34)]),mv 36 5,mv 4 35,mv 5 36,rg 6 (.mov (.c (.b true)))])
 (.pre (.norm false [4,5,6]) .ret))))))
def l119_0:AX:=
 (.note
 (.block 1
 (.seq
 (.reg [mv 46 11,mv 47 4,rg 48 (.call 117 [(.t 46),(.t 47),(.c (u32 0)),(.c (u32 0))]),mv 45 48,rg 49 (.ext (.t 45) 0),rg 50 (.ext (.t 45) 1),mv 16 49,mv 17 50])
 (.seq
 (.seq
 (.reg [mv 51 16,mv 52 12,rg 53 (.bin .lss (.t 51) (.t 52)),mv 54 53,gd 55 54 false (.mov (.t 16)),gd 56 54 false (.mov (.t 12)),gd 57 54 false (.bin .eql (.t 55) (.t 56)),gd 58 54 false (.mov (.t 57)),gd 59 58 true (.mov (.t 17)),gd 60 58 true (.mov (.t 2)),gd 61 58 true (.bin .leq (.t 59) (.t 60)),gd 62 54 false (.pick (.t 58) (.t 61) (.c (.b false))),rg 63 (.pick (.t 54) (.c (.b true)) (.t 62))])
 (.cond (.t 63)
 (.exit 0)
 .skip))
 (.seq
 (.reg [mv 64 11,rg 65 (.bin .sub (.t 64) (.c (u32 1))),mv 11 65])
 (.seq
 (.reg [mv 67 12,mv 68 3,rg 69 (.call 115 [(.t 67),(.t 68),(.c (u32 0))]),mv 66 69,rg 70 (.ext (.t 66) 0),rg 71 (.ext (.t 66) 1),mv 18 70,mv 19 71])
 (.seq
 (.seq
 (.reg [mv 72 19,rg 73 (.bin .gtr (.t 72) (.c (u32 0)))])
 (.cond (.t 73)
 (.exit 0)
 .skip))
 (.reg [mv 74 18,mv 12 74])))))))
 (.norm false [2,3,4,11,12]))
def b119:AX:=
 (.seq
 (.reg [rg 10 (.mov (.c (u32 0)))])
 (.scope
 (.seq
 (.reg [mv 21 0,mv 22 1,mv 23 3,rg 24 (.call 118 [(.t 21),(.t 22),(.t 23)]),mv 20 24,rg 25 (.ext (.t 20) 0),rg 26 (.ext (.t 20) 1),rg 27 (.ext (.t 20) 2),mv 11 25,mv 12 26,mv 13 27])
 (.seq
 (.seq
 (.reg [mv 28 13,rg 29 (.un .not (.t 28))])
 (.cond (.t 29)
 (.seq
 (.reg [rg 11 (.mov (.c (u32 4294967295)))])
 (.seq
 (.reg [mv 31 1,mv 32 3,rg 33 (.call 115 [(.t 31),(.t 32),(.c (u32 0))]),mv 30 33,rg 34 (.ext (.t 30) 0),rg 35 (.ext (.t 30) 1),mv 14 34,mv 15 35])
 (.seq
 (.seq
 (.reg [mv 36 0,mv 37 3,rg 38 (.bin .gtr (.t 36) (.t 37)),mv 39 38,gd 40 39 false (.mov (.t 15)),gd 41 39 false (.bin .gtr (.t 40) (.c (u32 0))),rg 42 (.pick (.t 39) (.c (.b true)) (.t 41))])
 (.cond (.t 42)
 (.seq
 (.reg [mv 43 11,mv 10 43])
 (.pre (.norm false [10]) .ret))
 .skip))
 (.reg [mv 44 14,mv 12 44]))))
 .skip))
 (.seq
 .skip
 (.seq
 (.lp 0 (.norm false [2,3,4,11,12]) l119_0 (.norm false [11]))
 (.seq
 (.reg [mv 75 11,mv 10 75])
 (.pre (.norm false [10]) .ret))))))))
def l120_0:AX:=
 (.note
 (.seq
 (.reg [rg 18 (.bin .lss (.t 17) (.t 16))])
 (.seq
 (.cond (.t 18)
 .skip
 (.exit 0))
 (.seq
 (.block 1
 (.seq
 (.reg [mv 19 17,rg 20 (.iad 1 (.t 15) (.t 17)),rg 21 (.load none (.t 20)),mv 11 19,mv 12 21])
 (.seq
 (.reg [rg 13 (.mov (.c (u32 0)))])
 (.seq
 (.reg [mv 23 3,mv 24 12,mv 25 9,rg 26 (.call 117 [(.t 23),(.t 24),(.t 25),(.c (u32 0))]),mv 22 26,rg 27 (.ext (.t 22) 0),rg 28 (.ext (.t 22) 1),mv 9 27,mv 13 28])
 (.reg [mv 30 0,mv 31 1,mv 32 11,rg 33 (.bin .add (.t 31) (.t 32)),mv 34 0,mv 35 1,mv 36 11,rg 37 (.bin .add (.t 35) (.t 36)),rg 38 (.iad 1 (.t 34) (.t 37)),rg 39 (.load none (.t 38)),mv 40 13,mv 41 10,rg 42 (.call 116 [(.t 39),(.t 40),(.t 41)]),mv 29 42,rg 43 (.ext (.t 29) 0),rg 44 (.ext (.t 29) 1),rg 45 (.iad 1 (.t 30) (.t 33)),so (.store 1 (.t 45) (.t 43)),mv 10 44])))))
 (.reg [rg 46 (.bin .add (.t 17) (.c (.i .i64 1))),mv 17 46]))))
 (.norm false [0,1,2,3,9,10,15,16,17]))
def b120:AX:=
 (.seq
 (.reg [rg 8 (.mov (.c (.b false)))])
 (.seq
 (.reg [rg 9 (.mov (.c (u32 0))),rg 10 (.mov (.c (u32 0)))])
 (.seq
 (.seq
 (.reg [mv 15 2,rg 16 (.len (.t 15)),rg 17 (.mov (.c (.i .i64 0)))])
 (.lp 0 (.norm false [0,1,2,3,9,10,15,16,17]) l120_0 (.norm false [0,1,2,9,10])))
 (.seq
 (.reg [mv 47 1,mv 48 2,rg 49 (.len (.t 48)),rg 50 (.bin .add (.t 47) (.t 49)),mv 14 50])
 (.seq
 (.reg [mv 52 0,mv 53 14,mv 54 0,mv 55 14,rg 56 (.iad 1 (.t 54) (.t 55)),rg 57 (.load none (.t 56)),mv 58 9,mv 59 10,rg 60 (.call 116 [(.t 57),(.t 58),(.t 59)]),mv 51 60,rg 61 (.ext (.t 51) 0),rg 62 (.ext (.t 51) 1),rg 63 (.iad 1 (.t 52) (.t 53)),so (.store 1 (.t 63) (.t 61)),mv 10 62])
 (.seq
 (.reg [mv 64 10,rg 65 (.bin .gtr (.t 64) (.c (u32 0))),mv 8 65])
 (.pre (.norm false [8]) .ret)))))))
def l121_0:AX:=
 (.note
 (.seq
 (.reg [rg 12 (.bin .lss (.t 11) (.t 10))])
 (.seq
 (.cond (.t 12)
 .skip
 (.exit 0))
 (.seq
 (.block 1
 (.seq
 (.reg [mv 13 11,rg 14 (.iad 1 (.t 9) (.t 11)),rg 15 (.load none (.t 14)),mv 7 13,mv 8 15])
 (.reg [mv 17 0,mv 18 1,mv 19 7,rg 20 (.bin .add (.t 18) (.t 19)),mv 21 0,mv 22 1,mv 23 7,rg 24 (.bin .add (.t 22) (.t 23)),rg 25 (.iad 1 (.t 21) (.t 24)),rg 26 (.load none (.t 25)),mv 27 8,mv 28 6,rg 29 (.call 115 [(.t 26),(.t 27),(.t 28)]),mv 16 29,rg 30 (.ext (.t 16) 0),rg 31 (.ext (.t 16) 1),rg 32 (.iad 1 (.t 17) (.t 20)),so (.store 1 (.t 32) (.t 30)),mv 6 31])))
 (.reg [rg 33 (.bin .add (.t 11) (.c (.i .i64 1))),mv 11 33]))))
 (.norm false [0,1,2,6,9,10,11]))
def b121:AX:=
 (.seq
 (.reg [rg 6 (.mov (.c (u32 0)))])
 (.seq
 (.seq
 (.reg [mv 9 2,rg 10 (.len (.t 9)),rg 11 (.mov (.c (.i .i64 0)))])
 (.lp 0 (.norm false [0,1,2,6,9,10,11]) l121_0 (.norm false [0,1,2,6])))
 (.reg [mv 34 0,mv 35 1,mv 36 2,rg 37 (.len (.t 36)),rg 38 (.bin .add (.t 35) (.t 37)),rg 39 (.iad 1 (.t 34) (.t 38)),rg 40 (.load none (.t 39)),mv 41 6,rg 42 (.bin .add (.t 40) (.t 41)),rg 43 (.iad 1 (.t 34) (.t 38)),so (.store 1 (.t 43) (.t 42))])))
def l93_0:AX:=
 (.note
 (.seq
 (.seq
 (.reg [mv 19 7,rg 20 (.bin .geq (.t 19) (.c (.i .i64 0)))])
 (.cond (.t 20)
 .skip
 (.exit 0)))
 (.seq
 (.block 1
 (.seq
 (.drawT [mv 23 0,mv 24 7,mv 25 5,rg 26 (.bin .add (.t 24) (.t 25)),rg 27 (.iad 1 (.t 23) (.t 26)),rg 28 (.load none (.t 27)),mv 29 0,mv 30 7,mv 31 5,rg 32 (.bin .add (.t 30) (.t 31)),rg 33 (.bin .sub (.t 32) (.c (.i .i64 1))),rg 34 (.iad 1 (.t 29) (.t 33)),rg 35 (.load none (.t 34)),mv 36 0,mv 37 7,mv 38 5,rg 39 (.bin .add (.t 37) (.t 38)),rg 40 (.bin .sub (.t 39) (.c (.i .i64 2))),rg 41 (.iad 1 (.t 36) (.t 40)),rg 42 (.load none (.t 41)),mv 43 1,mv 44 5,rg 45 (.bin .sub (.t 44) (.c (.i .i64 1))),rg 46 (.iad 1 (.t 43) (.t 45)),rg 47 (.load none (.t 46)),mv 48 1,mv 49 5,rg 50 (.bin .sub (.t 49) (.c (.i .i64 2))),rg 51 (.iad 1 (.t 48) (.t 50)),rg 52 (.load none (.t 51))]
 [rg 53 (.call 119 [(.t 28),(.t 35),(.t 42),(.t 47),(.t 52)]),mv 8 53])
 (.seq
 (.seq
 (.reg [mv 54 0,mv 55 7,mv 56 1,mv 57 8,rg 58 (.call 120 [(.t 54),(.t 55),(.t 56),(.t 57)])])
 (.cond (.t 58)
 (.seq
 (.reg [mv 59 8,rg 60 (.bin .sub (.t 59) (.c (u32 1))),mv 8 60])
 (.reg [mv 61 0,mv 62 7,mv 63 1,rg 64 (.call 121 [(.t 61),(.t 62),(.t 63)])]))
 .skip))
 (.reg [mv 65 6,mv 66 7,mv 67 8,rg 68 (.iad 1 (.t 65) (.t 66)),so (.store 1 (.t 68) (.t 67))]))))
 (.reg [mv 21 7,rg 22 (.bin .sub (.t 21) (.c (.i .i64 1))),mv 7 22])))
 (.norm false [0,1,5,6,7]))
def b93:AX:=
 (.seq
 (.reg [rg 4 (.mov (.c (.sl [] .nl)))])
 (.seq
 (.reg [mv 9 1,rg 10 (.len (.t 9)),mv 5 10])
 (.seq
 (.reg [mv 11 0,rg 12 (.len (.t 11)),mv 13 5,rg 14 (.bin .sub (.t 12) (.t 13)),rg 15 (.mks 1 [(u32 0)] (.t 14) (.t 14)),mv 6 15])
 (.seq
 (.seq
 (.reg [mv 16 6,rg 17 (.len (.t 16)),rg 18 (.bin .sub (.t 17) (.c (.i .i64 1))),mv 7 18])
 (.lp 0 (.norm false [0,1,5,6,7]) l93_0 (.norm false [6])))
 (.seq
 (.reg [mv 69 6,mv 4 69])
 (.pre (.norm false [4]) .ret))))))
def row90:AFx:=⟨2,37,[.t 4,.t 5,.t 6],b90,none,false⟩
def row119:AFx:=⟨5,76,[.t 10],b119,none,false⟩
def row120:AFx:=⟨4,66,[.t 8],b120,(some [true,false,false,false]),false⟩
def row121:AFx:=⟨3,44,[],b121,(some [true,false,false]),false⟩
def row93:AFx:=⟨2,70,[.t 4],b93,(some [true,false]),false⟩
class Zt (T:Tbl):Prop where
 h90:T 90=some row90
 h119:T 119=some row119
 h120:T 120=some row120
 h121:T 121=some row121
 h93:T 93=some row93
section
variable{T:Tbl}[Zt T]{d:Option Nat}{st:St}
@[simp] theorem x90(xs:List AV):Zc (orc T) T 90 xs d st=cP T 90 false xs d st:=zab Zt.h90
@[simp] theorem x119(xs:List AV):Zc (orc T) T 119 xs d st=cP T 119 false xs d st:=zab Zt.h119
@[simp] theorem x120(xs:List AV):Zc (orc T) T 120 xs d st=bL (Zea st.heap [true,false,false,false] xs) fun ys=>Zdn ys (Zj (Zas [true,false,false,false] xs) st.heap) (reach (Zj (Zas [true,false,false,false] xs) st.heap) 40 (Zcc [true,false,false,false] xs) []) T 120 false d st:=zal Zt.h120
@[simp] theorem x121(xs:List AV):Zc (orc T) T 121 xs d st=bL (Zea st.heap [true,false,false] xs) fun ys=>Zdn ys (Zj (Zas [true,false,false] xs) st.heap) (reach (Zj (Zas [true,false,false] xs) st.heap) 40 (Zcc [true,false,false] xs) []) T 121 false d st:=zal Zt.h121
@[simp] theorem x93(xs:List AV):Zc (orc T) T 93 xs d st=bL (Zea st.heap [true,false] xs) fun ys=>Zdn ys (Zj (Zas [true,false] xs) st.heap) (reach (Zj (Zas [true,false] xs) st.heap) 40 (Zcc [true,false] xs) []) T 93 false d st:=zal Zt.h93
end
theorem zk6{m:List UInt32}{j:Nat}(w:UInt32):(List.replicate (j+1) 0++m).set j w=List.replicate j 0++w::m:=by
 rw[List.set_append_left j w (by simp),Yd0,Yaw j w (by simp)];simp
theorem zk7{m:List UInt32}{j:Nat}:(List.replicate (j+1) (0:UInt32)++m)[j]? = some 0:=by
 rw[Ym (by simp),Ych,if_pos (by omega)]
section
variable{T:Tbl}[Zs T][Zx T][Zw T][Zt T]
def Zlc(a:List UInt32)(x:Nat)(y:Nat×Nat×List UInt32):St:=
 ⟨[(0,.sl (Za a) .an),(1,u32 x),(4,.bs (.loc 12) 1 1 0 a.length),(5,u32 y.2.1),(7,.i .i64 ((y.1:Int)-1))],[(.loc 12,⟨1,.own,1,Za (List.replicate y.1 0++y.2.2)⟩)],3⟩
end
section
variable{T:Tbl}[Zs T]
theorem z3d(a:List UInt32)(x:Nat)(hx:x<4294967296)(hl:a.length≤1000000):∀y:Nat×Nat×List UInt32,
  (y.1≤a.length∧y.2.1<x∧y.2.2.length=a.length-y.1∧val (a.drop y.1)=x*val y.2.2+y.2.1) →
  ∃r,(∃(c:Nat) (m:List UInt32),r=(Ex.n,(⟨[(4,.bs (.loc 12) 1 1 0 a.length),(5,u32 c)],[(.loc 12,⟨1,.own,1,Za m⟩)],3⟩:St)) ∧
   m.length=a.length∧c<x∧val a=x*val m+c)∧Zn T 0 0 (.norm false [4,5]) l90_0 (Zlc a x y)=some r:=by
 refine zaq _ _ (fun y=>y.1) _ ?_
 rintro⟨k,c,m⟩ ⟨hk,hc,hm,hv⟩
 simp only at hk hc hm hv;cases k with
 | zero=>
  right;rw[Yar]at hv;refine⟨_,⟨c,m,rfl,by omega,hc,hv⟩,?_,?_⟩<;>simp -implicitDefEqProofs[l90_0,Zlc]
 | succ j=>
  left;have hja:j<a.length:=by omega
  have ha:a[j]? = some (a[j]'hja):=Ya hja;have hy:=zam (a[j]'hja);have hd:=Yf hja;have hw:IntKind.wrap .i64 ((j:Int)-1)=(j:Int)-1:=zad _ (by omega);have hs:=zk6 (m:=m) (j:=j) (w32 ((c*4294967296+(a[j]'hja).toNat)/x));have hq:(c*4294967296+(a[j]'hja).toNat)/x<4294967296:=by
   refine Ybe ?_;have:(c+1)*4294967296≤x*4294967296:=Yv _ hc;omega
  have hdv:=zmv (T:=T) c (a[j]'hja).toNat x hc hy hx;refine⟨(j,(c*4294967296+(a[j]'hja).toNat)%x,w32 ((c*4294967296+(a[j]'hja).toNat)/x)::m),⟨by simp only;omega,Ya3 _ (by omega),by simp[hm];omega,?_⟩,Y4 j,?_⟩
  ·simp only;rw[hd,zan,hv,zan,zag hq];have e1:=Yba (c*4294967296+(a[j]'hja).toNat) x;generalize (c*4294967296+(a[j]'hja).toNat)/x=q at *
   rw[Yu x q,Yep x 4294967296];omega
  ·simp -implicitDefEqProofs[l90_0,Zlc,hja,hw,hs,zk7,hdv,zbi _ _ _ hq]
end
section
variable{T:Tbl}[Zs T][Zt T]
theorem zm0(a:List UInt32)(x:Nat)(hx:x<4294967296)(h0:0<x)(hl:a.length≤1000000) :
  Zb T 90 [.sl (Za a) .an,u32 x]=some (.tup [.sl (Za (ofN (val a/x))) .an,u32 (val a%x),.b true]):=by
 obtain⟨_,⟨c,m,rfl,hm,hc,hv⟩,hr⟩:=z3d (T:=T) a x hx hl (a.length,0,[]) ⟨Yh _,h0,by simp,by rw[Yaf,za8,Yac,Yaj]⟩;have e1:val a/x=val m:=by rw[hv,Nat.mul_add_div h0,Ybc hc,Yt]
 have e2:val a%x=c:=by rw[hv,Nat.mul_add_mod,Yi hc]
 have hnm:=zbw (T:=T) m (by omega);unfold Zlc at hr;simp at hr;have hx0:x≠0:=by omega
 have w1:IntKind.wrap .i64 ((a.length:Int)-1)=(a.length:Int)-1:=zad _ (by omega);have p1:(a.length:Int)≤4294967296:=by omega
 have htk:List.take a.length m=m:=Yb (by omega);rw[e1,e2,zaa Zt.h90 rfl,b90];simp -implicitDefEqProofs[hr,hx0,w1,p1,htk,hm,hnm]
end
section
variable{T:Tbl}[Zs T][Zx T][Zw T][Zt T]
theorem zm1{p M w X s t y v D D':Nat}(h:M+X*t=s+p*D)(e:w+X*y+D=v+4294967296*D'):(M+p*w)+X*(t+p*y)=(s+p*v)+p*4294967296*D':=by
 have e2:p*w+p*(X*y)+p*D=p*v+p*4294967296*D':=by rw[Yx,←Yu,←Yu,e,Yu]
 have e3:X*(t+p*y)=X*t+p*(X*y):=by rw[Yu,Yep]
 omega
def Zld(P S b:List UInt32)(x:Nat)(y:Nat×(Nat×Nat)×List UInt32):St:=
 ⟨[(0,.bs (.bor 0) 0 1 0 (P.length+S.length)),(1,.i .i64 P.length),(2,.sl (Za b) .an),(3,u32 x),(9,u32 y.2.1.1),(10,u32 y.2.1.2),(15,.sl (Za b) .an),(16,.i .i64 b.length),(17,.i .i64 y.1)],
  [(.bor 0,⟨0,.own,1,Za (P++(y.2.2++S.drop y.1))⟩)],4⟩
end
section
variable{T:Tbl}[Zs T]
theorem z3e(P S b:List UInt32)(x:Nat)(hx:x<4294967296)(hS:b.length<S.length)(hl:P.length+S.length≤1000000):∀y:Nat×(Nat×Nat)×List UInt32,
  (y.1≤b.length∧y.2.1.1<4294967296∧y.2.1.2≤1∧y.2.2.length=y.1∧val y.2.2+x*val (b.take y.1)=val (S.take y.1)+4294967296^y.1*(y.2.1.2+y.2.1.1)) →
  ∃r,(∃(C B:Nat) (m:List UInt32),r=(Ex.n,(⟨[(0,.bs (.bor 0) 0 1 0 (P.length+S.length)),(1,.i .i64 P.length),(2,.sl (Za b) .an),(9,u32 C),(10,u32 B)],[(.bor 0,⟨0,.own,1,Za (P++(m++S.drop b.length))⟩)],4⟩:St)) ∧
   C<4294967296∧B≤1∧m.length=b.length∧val m+x*val b=val (S.take b.length)+4294967296^b.length*(B+C))∧Zn T 1 0 (.norm false [0,1,2,9,10]) l120_0 (Zld P S b x y)=some r:=by
 refine zaq _ _ (fun y=>b.length-y.1) _ ?_
 rintro⟨i,⟨C,B⟩,m⟩ ⟨hi,hC,hB,hm,hv⟩
 simp only at hi hC hB hm hv;by_cases h0:i<b.length
 ·left;have hb:b[i]? = some (b[i]'h0):=Ya h0;have hiS:i<S.length:=by omega
  have hs:S[i]? = some (S[i]'hiS):=Ya hiS;have hg:=zdj (P:=P) hm hiS;have hw:IntKind.wrap .i64 ((i:Int)+1)=((i+1:Nat):Int):=zad _ (by omega);have hw2:IntKind.wrap .i64 ((P.length:Int)+i)=((P.length+i:Nat):Int):=zad _ (by omega);have hlt2:(P.length:Int)+i<(P.length:Int)+S.length:=by omega
  have hlb:=zam (b[i]'h0);have hls:=zam (S[i]'hiS);have hmul:=zij hx hlb;have c1:=zik (T:=T) x (b[i]'h0).toNat C 0 hx hlb hC (by decide);rw[Yt]at c1;obtain⟨lo,hlo⟩:∃lo,lo=(x*(b[i]'h0).toNat+C)%4294967296:=⟨_,rfl⟩;obtain⟨C',hC'⟩:∃C',C'=(x*(b[i]'h0).toNat+C)/4294967296:=⟨_,rfl⟩;rw[←hlo,←hC']at c1;have c2:=zf6 (T:=T) (S[i]'hiS).toNat lo B hls (by omega) (by omega);obtain⟨w,hwd⟩:∃w,w=((S[i]'hiS).toNat+8589934592-(lo+B))%4294967296:=⟨_,rfl⟩;obtain⟨B',hB'⟩:∃B',B'=2-((S[i]'hiS).toNat+8589934592-(lo+B))/4294967296:=⟨_,rfl⟩;rw[←hwd,←hB']at c2;have hwl:w<4294967296:=by omega
  have hset:=zc1 (P:=P) (w32 w) hm hiS;refine⟨(i+1,(C',B'),m++[w32 w]),⟨h0,by simp only;omega,by simp only;omega,by simp[hm],?_⟩,by simp only;omega,?_⟩
  ·simp only;rw[zaj,zaf hb,zaf hs,Yw,hm,zan,za8,Yac,Yt,zag hwl];exact zm1 hv (by omega)
  ·simp at hg hset;simp -implicitDefEqProofs[l120_0,Zld,h0,hw,hw2,hlt2,hg,c1,c2,hset,zbi _ _ _ hwl]
 ·right;have:i=b.length:=by omega
  subst this;rw[Yb (Yh b.length)]at hv;refine⟨_,⟨C,B,m,rfl,hC,hB,hm,hv⟩,?_,?_⟩<;>simp -implicitDefEqProofs[l120_0,Zld]
end
section
variable{T:Tbl}[Zs T][Zt T]
theorem zv3(P S b:List UInt32)(x:Nat)(hx:x<4294967296)(hS:b.length<S.length)(hl:P.length+S.length≤1000000) :
  ∃(B:Nat) (m:List UInt32),B≤1∧m.length=b.length+1∧val m+x*val b=val (S.take (b.length+1))+4294967296^(b.length+1)*B ∧
   Zaa T 120 [.bs (.bor 0) 0 1 0 (P.length+S.length),.i .i64 P.length,.sl (Za b) .an,u32 x] [(.bor 0,⟨0,.own,1,Za (P++S)⟩)] =
    some (.b (decide (0<B)),[(.bor 0,⟨0,.own,1,Za (P++(m++S.drop (b.length+1)))⟩)]):=by
 obtain⟨_,⟨C,B,m,rfl,hC,hB,hm,hv⟩,hr⟩:=z3e (T:=T) P S b x hx hS hl (0,(0,0),[]) ⟨Yr _,Nat.zero_lt_succ _,Yr _,rfl,by simp⟩;unfold Zld at hr;simp at hr;have hs:S[b.length]? = some (S[b.length]'hS):=Ya hS;have hls:=zam (S[b.length]'hS);have hg:=zdj (P:=P) hm hS;have hw2:IntKind.wrap .i64 ((P.length:Int)+b.length)=((P.length+b.length:Nat):Int):=zad _ (by omega);have hlt2:(P.length:Int)+b.length<(P.length:Int)+S.length:=by omega
 have c2:=zf6 (T:=T) (S[b.length]'hS).toNat C B hls hC (by omega);obtain⟨w,hwd⟩:∃w,w=((S[b.length]'hS).toNat+8589934592-(C+B))%4294967296:=⟨_,rfl⟩;obtain⟨B',hB'⟩:∃B',B'=2-((S[b.length]'hS).toNat+8589934592-(C+B))/4294967296:=⟨_,rfl⟩;rw[←hwd,←hB']at c2;have hwl:w<4294967296:=by omega
 have hset:=zc1 (P:=P) (w32 w) hm hS;refine⟨B',m++[w32 w],by omega,by simp[hm],?_,?_⟩
 ·rw[zaj,zaf hs,Yw,hm,zan,za8,Yac,Yt,zag hwl];have:=zm1 (y:=0) (w:=w) (v:=(S[b.length]'hS).toNat) (D':=B') hv (by omega);rw[Yac,Yt]at this;exact this
 ·simp at hg hset;rw[zah Zt.h120 rfl,b120];simp -implicitDefEqProofs[hr,hw2,hlt2,hg,c2,hset,zbi _ _ _ hwl]
end
section
variable{T:Tbl}[Zs T][Zx T][Zw T][Zt T]
theorem zm2{p M w s t y v D D':Nat}(h:M+p*D=s+t)(e:w+4294967296*D'=v+y+D):(M+p*w)+p*4294967296*D'=(s+p*v)+(t+p*y):=by
 have e2:p*w+p*4294967296*D'=p*v+p*y+p*D:=by rw[Yx,←Yu,e,Yu,Yu]
 omega
def Zle(P S b:List UInt32)(y:Nat×Nat×List UInt32):St:=
 ⟨[(0,.bs (.bor 0) 0 1 0 (P.length+S.length)),(1,.i .i64 P.length),(2,.sl (Za b) .an),(6,u32 y.2.1),(9,.sl (Za b) .an),(10,.i .i64 b.length),(11,.i .i64 y.1)],
  [(.bor 0,⟨0,.own,1,Za (P++(y.2.2++S.drop y.1))⟩)],4⟩
end
section
variable{T:Tbl}[Zs T]
theorem z3f(P S b:List UInt32)(hS:b.length<S.length)(hl:P.length+S.length≤1000000):∀y:Nat×Nat×List UInt32,
  (y.1≤b.length∧y.2.1≤1∧y.2.2.length=y.1∧val y.2.2+4294967296^y.1*y.2.1=val (S.take y.1)+val (b.take y.1)) →
  ∃r,(∃(C:Nat) (m:List UInt32),r=(Ex.n,(⟨[(0,.bs (.bor 0) 0 1 0 (P.length+S.length)),(1,.i .i64 P.length),(2,.sl (Za b) .an),(6,u32 C)],[(.bor 0,⟨0,.own,1,Za (P++(m++S.drop b.length))⟩)],4⟩:St)) ∧
   C≤1∧m.length=b.length∧val m+4294967296^b.length*C=val (S.take b.length)+val b)∧Zn T 1 0 (.norm false [0,1,2,6]) l121_0 (Zle P S b y)=some r:=by
 refine zaq _ _ (fun y=>b.length-y.1) _ ?_
 rintro⟨i,C,m⟩ ⟨hi,hC,hm,hv⟩
 simp only at hi hC hm hv;by_cases h0:i<b.length
 ·left;have hb:b[i]? = some (b[i]'h0):=Ya h0;have hiS:i<S.length:=by omega
  have hs:S[i]? = some (S[i]'hiS):=Ya hiS;have hg:=zdj (P:=P) hm hiS;have hw:IntKind.wrap .i64 ((i:Int)+1)=((i+1:Nat):Int):=zad _ (by omega);have hw2:IntKind.wrap .i64 ((P.length:Int)+i)=((P.length+i:Nat):Int):=zad _ (by omega);have hlt2:(P.length:Int)+i<(P.length:Int)+S.length:=by omega
  have hlb:=zam (b[i]'h0);have hls:=zam (S[i]'hiS);have c2:=zei (T:=T) (S[i]'hiS).toNat (b[i]'h0).toNat C hls hlb (by omega);obtain⟨w,hwd⟩:∃w,w=((S[i]'hiS).toNat+(b[i]'h0).toNat+C)%4294967296:=⟨_,rfl⟩;obtain⟨C',hC'⟩:∃C',C'=((S[i]'hiS).toNat+(b[i]'h0).toNat+C)/4294967296:=⟨_,rfl⟩;rw[←hwd,←hC']at c2;have hwl:w<4294967296:=by omega
  have hset:=zc1 (P:=P) (w32 w) hm hiS;refine⟨(i+1,C',m++[w32 w]),⟨h0,by simp only;omega,by simp[hm],?_⟩,by simp only;omega,?_⟩
  ·simp only;rw[zaj,zaf hb,zaf hs,Yw,hm,zan,za8,Yac,Yt,zag hwl];exact zm2 hv (by omega)
  ·simp at hg hset;simp -implicitDefEqProofs[l121_0,Zle,h0,hw,hw2,hlt2,hg,c2,hset,zbi _ _ _ hwl]
 ·right;have:i=b.length:=by omega
  subst this;rw[Yb (Yh b.length)]at hv;refine⟨_,⟨C,m,rfl,hC,hm,hv⟩,?_,?_⟩<;>simp -implicitDefEqProofs[l121_0,Zle]
end
section
variable{T:Tbl}[Zs T][Zt T]
theorem zv4(P S b:List UInt32)(hS:b.length<S.length)(hl:P.length+S.length≤1000000) :
  ∃(D:Nat) (m:List UInt32),D≤1∧m.length=b.length+1∧val m+4294967296^(b.length+1)*D=val (S.take (b.length+1))+val b ∧
   Zaa T 121 [.bs (.bor 0) 0 1 0 (P.length+S.length),.i .i64 P.length,.sl (Za b) .an] [(.bor 0,⟨0,.own,1,Za (P++S)⟩)] =
    some (.tup [],[(.bor 0,⟨0,.own,1,Za (P++(m++S.drop (b.length+1)))⟩)]):=by
 obtain⟨_,⟨C,m,rfl,hC,hm,hv⟩,hr⟩:=z3f (T:=T) P S b hS hl (0,0,[]) ⟨Yr _,Yr _,rfl,by simp⟩;unfold Zle at hr;simp at hr;have hs:S[b.length]? = some (S[b.length]'hS):=Ya hS;have hls:=zam (S[b.length]'hS);have hg:=zdj (P:=P) hm hS;have hw2:IntKind.wrap .i64 ((P.length:Int)+b.length)=((P.length+b.length:Nat):Int):=zad _ (by omega);have hlt2:(P.length:Int)+b.length<(P.length:Int)+S.length:=by omega
 obtain⟨w,hwd⟩:∃w,w=((S[b.length]'hS).toNat+C)%4294967296:=⟨_,rfl⟩;have hwl:w<4294967296:=by omega
 have hset:=zc1 (P:=P) (w32 w) hm hS;refine⟨((S[b.length]'hS).toNat+C)/4294967296,m++[w32 w],by omega,by simp[hm],?_,?_⟩
 ·rw[zaj,zaf hs,Yw,hm,zan,za8,Yac,Yt,zag hwl];have:=zm2 (y:=0) (w:=w) (v:=(S[b.length]'hS).toNat) (D':=((S[b.length]'hS).toNat+C)/4294967296) hv (by omega);rw[Yac,Yt]at this;exact this
 ·simp at hg hset;rw[zah Zt.h121 rfl,b121];simp -implicitDefEqProofs[hr,hw2,hlt2,hg,←hwd,hset,zbi _ _ _ hwl]
end
theorem zif(q b1 b0:Nat):q*(b1*4294967296+b0)=q*b1*4294967296+q*b0:=by
 rw[Yu q,←Yx q]
theorem zk1{a2 a1 a0 b1 b0 q r:Nat}(h:q*b1+r=a2*4294967296+a1)(hle:q*b0≤r*4294967296+a0) :
  q*(b1*4294967296+b0)≤(a2*4294967296+a1)*4294967296+a0:=by
 refine Yc (Ycx (zif q b1 b0)) ?_;revert h hle;generalize q*b1=u;generalize q*b0=v;omega
theorem zyp{a2 a1 a0 b1 b0 q r:Nat}(h:q*b1+r=a2*4294967296+a1)(hgt:r*4294967296+a0<q*b0) :
  (a2*4294967296+a1)*4294967296+a0<q*(b1*4294967296+b0):=by
 refine Nat.lt_of_lt_of_eq ?_ (zif q b1 b0).symm;revert h hgt;generalize q*b1=u;generalize q*b0=v;omega
theorem zvd{q b0 r a0:Nat}(h0:a0<4294967296):(q*b0/4294967296<r∨q*b0/4294967296=r∧q*b0%4294967296≤a0)↔q*b0≤r*4294967296+a0:=by
 generalize q*b0=m;omega
section
variable{T:Tbl}[Zs T][Zx T][Zw T][Zt T]
def Zhc(a0 b1 b0:Nat)(y:Nat×Nat):St:=⟨[(2,u32 a0),(3,u32 b1),(4,u32 b0),(11,u32 y.1),(12,u32 y.2)],[],2⟩
end
section
variable{T:Tbl}[Zs T]
theorem zve(a2 a1 a0 b1 b0 g:Nat)(h0:a0<4294967296)(hb1:b1<4294967296)(hb0:b0<4294967296)
  (F1:∀q,q<4294967296→g≤q→q*(b1*4294967296+b0)≤(a2*4294967296+a1)*4294967296+a0→q=g)
  (F2:∀q,(a2*4294967296+a1)*4294967296+a0<q*(b1*4294967296+b0)→g<q):∀y:Nat×Nat,
  (y.1<4294967296∧y.2<4294967296∧y.1*b1+y.2=a2*4294967296+a1∧g≤y.1) →
  ∃r,(r=(Ex.n,(⟨[(11,u32 g)],[],2⟩:St)))∧Zn T 0 0 (.norm false [11]) l119_0 (Zhc a0 b1 b0 y)=some r:=by
 refine zaq _ _ (fun y=>y.1) _ ?_
 rintro⟨q,r⟩ ⟨hq,hr,hv,hg⟩
 simp only at hq hr hv hg;have c1:=zik (T:=T) q b0 0 0 hq hb0 (by decide) (by decide);have c2:=zei (T:=T) r b1 0 hr hb1 (by decide);rw[Yt]at c1;rw[Yt]at c2;have hcmp:=zvd (q:=q) (b0:=b0) (r:=r) h0;obtain⟨hi,hhi⟩:∃hi,hi=q*b0/4294967296:=⟨_,rfl⟩;obtain⟨lo,hlo⟩:∃lo,lo=q*b0%4294967296:=⟨_,rfl⟩;rw[←hhi,←hlo]at c1 hcmp;have hlol:lo<4294967296:=by omega
 have hhil:hi<4294967296:=by
  have:=zij hq hb0;omega
 by_cases hle:q*b0≤r*4294967296+a0
 ·right;have hqg:=F1 q hq hg (zk1 hv hle);subst hqg;have hc:=hcmp.2 hle;clear hhi hlo;rcases hc with hc | ⟨rfl,hc2⟩
  ·refine⟨_,rfl,?_,?_⟩<;>simp -implicitDefEqProofs[l119_0,Zhc,c1,hc]
  ·refine⟨_,rfl,?_,?_⟩<;>simp -implicitDefEqProofs[l119_0,Zhc,c1,hc2]
 ·have hgt:r*4294967296+a0<q*b0:=by omega
  have hlt:=F2 q (zyp hv hgt);have hc:¬ (hi<r∨hi=r∧lo≤a0):=fun h=>hle (hcmp.1 h);have hq1:q-1<4294967296:=by omega
  have hs:Zgj q 1=q-1:=by unfold Zgj;omega
  have hqb:(q-1)*b1+(r+b1)=a2*4294967296+a1:=by
   have:q*b1=(q-1)*b1+b1:=by
    rw[←Ye3];congr 1;omega
   omega
  by_cases hcar:4294967296≤r+b1
  ·right;have hmul:=zij hq1 hb0;have hqg:=F1 (q-1) hq1 (by omega) (zk1 hqb (by
    generalize (q-1)*b0=v at *
    omega))
   have m2:0<(r+b1)/4294967296:=Yfc hcar (by decide);have m3:(r+b1)/4294967296<4294967296:=by omega
   have hr2:¬ hi<r:=fun h=>hc (.inl h);clear hhi hlo;refine⟨_,rfl,?_,?_⟩<;>by_cases he:hi=r
   ·have hc3:¬ lo≤a0:=fun h=>hc (.inr ⟨he,h⟩);subst he;simp -implicitDefEqProofs[l119_0,Zhc,c1,c2,hs,hc3,m2]
   ·simp -implicitDefEqProofs[l119_0,Zhc,c1,c2,hs,hr2,he,m2]
   ·have hc3:¬ lo≤a0:=fun h=>hc (.inr ⟨he,h⟩);subst he;simp -implicitDefEqProofs[l119_0,Zhc,c1,c2,hs,hc3,m2,hqg]
   ·simp -implicitDefEqProofs[l119_0,Zhc,c1,c2,hs,hr2,he,m2,hqg]
  ·left;refine⟨(q-1,r+b1),⟨hq1,by simp only;omega,hqb,by simp only;omega⟩,by simp only;omega,?_⟩;have m1:(r+b1)%4294967296=r+b1:=Yi (by omega);have m2:(r+b1)/4294967296=0:=Ybc (by omega);rw[m1,m2]at c2;have hr2:¬ hi<r:=fun h=>hc (.inl h);clear hhi hlo;by_cases he:hi=r
   ·have hc3:¬ lo≤a0:=fun h=>hc (.inr ⟨he,h⟩);subst he;simp -implicitDefEqProofs[l119_0,Zhc,c1,c2,hs,hc3]
   ·simp -implicitDefEqProofs[l119_0,Zhc,c1,c2,hs,hr2,he]
end
section
variable{T:Tbl}[Zs T][Zx T][Zw T][Zt T]
theorem z21{n two:Nat}(h:0<two):(∀q,q<4294967296→min 4294967295 (n/two)≤q→q*two≤n→q=min 4294967295 (n/two))∧(∀q,n<q*two→min 4294967295 (n/two)<q):=by
 constructor
 ·intro q hq hg hle;have:=(Yb9 h).2 hle;omega
 ·intro q hlt;have:=(Ybl h).2 hlt;omega
theorem zyq{A a0 b1 b0:Nat}(h0:a0<4294967296)(hp:0<b1):A*4294967296+a0<(A/b1+1)*(b1*4294967296+b0):=by
 have h1:A<(A/b1+1)*b1:=by rw[Yad];exact Nat.lt_mul_div_succ A hp
 refine Nat.lt_of_lt_of_eq ?_ (zif (A/b1+1) b1 b0).symm;generalize (A/b1+1)*b1=u at *
 generalize (A/b1+1)*b0=v at *
 omega
end
section
variable{T:Tbl}[Zs T][Zt T]
theorem zry(a2 a1 a0 b1 b0:Nat)(h2:a2<4294967296)(h1:a1<4294967296)(h0:a0<4294967296)(hb1:b1<4294967296)(hb0:b0<4294967296)(hp:0<b1) :
  Zb T 119 [u32 a2,u32 a1,u32 a0,u32 b1,u32 b0]=some (u32 (min 4294967295 (((a2*4294967296+a1)*4294967296+a0)/(b1*4294967296+b0)))):=by
 obtain⟨F1,F2⟩:=z21 (n:=(a2*4294967296+a1)*4294967296+a0) (two:=b1*4294967296+b0) (by omega);have hgle:=Ye4 4294967295 (((a2*4294967296+a1)*4294967296+a0)/(b1*4294967296+b0));generalize min 4294967295 (((a2*4294967296+a1)*4294967296+a0)/(b1*4294967296+b0))=g at *
 by_cases hlt:a2<b1
 ·have hd:=zmv (T:=T) a2 a1 b1 hlt h1 hb1;have hql:(a2*4294967296+a1)/b1<4294967296:=z0u hlt h1;have hrl:(a2*4294967296+a1)%b1<b1:=Ya3 _ hp;have hdm:=Yba (a2*4294967296+a1) b1;rw[Yad]at hdm;obtain⟨_,rfl,hr⟩:=zve (T:=T) a2 a1 a0 b1 b0 g h0 hb1 hb0 F1 F2 ((a2*4294967296+a1)/b1,(a2*4294967296+a1)%b1) ⟨hql,by simp only;omega,hdm,by have:=F2 _ (zyq (A:=a2*4294967296+a1) (b0:=b0) h0 hp);simp only;omega⟩;unfold Zhc at hr;simp at hr;rw[zaa Zt.h119 rfl,b119];simp -implicitDefEqProofs[hd,hr]
 ·have hd:=zr0 (T:=T) a2 a1 b1 (by omega) h2 h1;have ha:=zei (T:=T) a1 b1 0 h1 hb1 (by decide);rw[Yt]at ha;by_cases hbig:b1<a2∨4294967296≤a1+b1
  ·have hg:4294967295=g:=by
    refine F1 4294967295 (by decide) hgle ?_;refine zk1 (r:=a2*4294967296+a1-4294967295*b1) (by omega) ?_;omega
   subst hg;rw[zaa Zt.h119 rfl,b119];rcases Yq b1 a2 with hb | hb
   ·simp -implicitDefEqProofs[hd,ha,hb]
   ·have hc:4294967296≤a1+b1:=by omega
    have hb2:¬ b1<a2:=by omega
    have m2:0<(a1+b1)/4294967296:=Yfc hc (by decide);simp -implicitDefEqProofs[hd,ha,hb2,m2]
  ·have hb2:¬ b1<a2:=fun h=>hbig (.inl h);have hc:a1+b1<4294967296:=by omega
   have m1:(a1+b1)%4294967296=a1+b1:=Yi hc;have m2:(a1+b1)/4294967296=0:=Ybc hc;rw[m1,m2]at ha;obtain⟨_,rfl,hr⟩:=zve (T:=T) a2 a1 a0 b1 b0 g h0 hb1 hb0 F1 F2 (4294967295,a1+b1) ⟨Y4 4294967295,hc,by simp only;omega,hgle⟩;unfold Zhc at hr;simp at hr;have hb3:a2≤b1:=by omega
   rw[zaa Zt.h119 rfl,b119];simp -implicitDefEqProofs[hd,ha,hb2,hr]
end
theorem zw9{V b d three two v0 b0:Nat}(hV:V=three*d+v0)(hv:v0<d)(hb:b=two*d+b0)(hb0:b0<d)(h2:4294967296≤two)(hlt:V<4294967296*b) :
  V/b≤min 4294967295 (three/two)∧min 4294967295 (three/two)≤V/b+1:=by
 have hd:0<d:=by omega
 have htp:0<two:=by omega
 have hbp:0<b:=by
  have:=Nat.mul_pos htp hd;omega
 have hq:V/b<4294967296:=Ybe (by rw[Yad];exact hlt);have hqb:V/b*b≤V:=Nat.div_mul_le_self V b;have hqb2:V<(V/b+1)*b:=by rw[Yad];exact Nat.lt_mul_div_succ V hbp
 generalize V/b=q at *
 constructor
 ·refine Nat.le_min.2 ⟨by omega,(Yb9 htp).2 ?_⟩;have h3:q*two*d<(three+1)*d:=by
   have:q*two*d≤q*b:=by rw[hb,Yu,Yx];omega
   rw[Ya9,Ycn];omega
  have:=Nat.lt_of_mul_lt_mul_right h3;omega
 ·generalize hx:min 4294967295 (three/two)=x;have hx1:x≤three/two:=by rw[←hx];exact Nat.min_le_right _ _
  have hx2:x≤4294967295:=by rw[←hx];exact Ye4 _ _
  have hx3:x*two≤three:=(Yb9 htp).1 hx1;rcases Yq (q+1) x with h | h
  ·exfalso;have e1:(q+2)*two≤x*two:=Yv _ h;have e2:(q+2)*two*d≤three*d:=Yv _ (Yc e1 hx3);have e3:(q+1)*b=(q+1)*two*d+(q+1)*b0:=by rw[hb,Yu,Yx]
   have e4:(q+1)*b0≤(q+1)*d:=Yak _ (Ycg hb0);have e5:(q+2)*two*d=(q+1)*two*d+two*d:=by rw[show q+2=(q+1)+1 from rfl,Ya9 (q+1) 1 two,Ycn,Ya9]
   have e6:(q+1)*d≤two*d:=Yv _ (by omega);omega
  ·exact h
end Go.Ab