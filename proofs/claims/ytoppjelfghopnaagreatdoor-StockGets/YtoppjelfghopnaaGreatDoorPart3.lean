/-
  A calculus of values, boxes and code, and what functions of the program compute, proved in it.
  Conditions: none beyond those that the theorems state. (Part 3: Ax5, Ax6, Ax7, Ax8, Ax9, GcLimb, GpLimb, GcNat, Nm1, GpNat, GcProd, GcTwos, GpProd, Nm2, GpTwos, GcQuot, GpQuot, GpGuess, GpGuessTry.)
-/
import Derived.Test.YtoppjelfghopnaaGreatDoorPart2

set_option linter.unusedSectionVars false
set_option linter.unusedVariables false
set_option linter.unusedSimpArgs false
set_option linter.unnecessarySimpa false

section
namespace Go.Ab
open Go.RowKit
def Zeh(ν:Nat→FuncId)(τ:Nat→Nat):AOp→AOp
 | .call u args=>.call (ν u) args
 | .ifc k x=>.ifc (τ k) x
 | .inv nm _ _ r args=>.inv nm 0 (if nm="()" then 1 else 0) r args
 | .xop (.mkf k) xs=>.xop (.mkf (τ k)) xs
 | .xop (.mkv k) xs=>.xop (.mkv (τ k)) xs
 | op=>op
def Zav(ν:Nat→FuncId)(τ:Nat→Nat)(o:AO):AO:=⟨o.dst,o.guard,Zeh ν τ o.op⟩
def Zjx(ν:Nat→FuncId)(τ:Nat→Nat)(o:DO):DO:=⟨Zav ν τ o.ao,o.lo,o.hi⟩
def er(ν:Nat→FuncId)(τ:Nat→Nat):AX→AC
 | .skip=>.skip
 | .reg l=>.reg (l.map (Zav ν τ))
 | .draw l=>.draw (l.map (Zjx ν τ))
 | .seq a b=>.seq (er ν τ a) (er ν τ b)
 | .cond c x y=>.cond c (er ν τ x) (er ν τ y)
 | .block id c=>.block id (er ν τ c)
 | .loop c=>.loop (er ν τ c)
 | .exit id=>.exit id
 | .ret=>.ret
 | .note c _=>er ν τ c
 | .pre _ c=>er ν τ c
 | .scope c=>.scope (er ν τ c)
 | .lp id _ c _=>.block id (.loop (er ν τ c))
 | .bad=>.bad
 | .drawT hd tl=>.drawT (hd.map (Zav ν τ)) (tl.map (Zav ν τ))
 | .drawM hd tl=>.drawM (hd.map (Zav ν τ)) (tl.map (Zav ν τ))
 | .prim _=>.bad
 | .label l=>.label l
 | .goto l=>.goto l
 | .gsc l c r=>.gsc l (er ν τ c) (er ν τ r)
def erF(ν:Nat→FuncId)(τ:Nat→Nat)(af:AFx):AF:=⟨af.np,af.nt,af.res,er ν τ af.body⟩
def Ex.out:Ex→Exit
 | .n=>.normal
 | .x id=>.exit id
 | .r=>.ret
 | .g l=>.goto l
def LWp(cx:Cx)(c:AC)(Q:Exit→St→Prop)(st:St):Prop:=
 ∀code,Zv cx.P cx.nt code=some c→cx.P.follows .mixedOrders=true→∀a w,Rel cx st a w→∀(b:Frame) (k:List Item) (cs:List Frame),
  ∃e a' w',(∃st',Q e st'∧Rel cx st' a' w')∧Arrives cx.P (lone (b.at a (.code code :: .inLoop code::k)) cs w) b k cs e a' w'
theorem zxe{cx:Cx}{c:AC}{Q:Exit→St→Prop}{st:St}(h:AWp cx c (Zia (fun s=>LWp cx c Q s) Q) st):LWp cx c Q st:=by
 intro code hc hm a w hr b k cs;obtain⟨ex,a1,w1,⟨st1,hq1,hrel1⟩,harr⟩:=h code hc hm a w hr b (.inLoop code::k) cs;cases ex with
 | normal=>
  obtain⟨e2,a2,w2,hq2,harr2⟩:=hq1 code hc hm a1 w1 hrel1 b k cs;exact⟨e2,a2,w2,hq2,.of_steps (Steps.trans harr (.one step_inLoop)) harr2⟩
 | exit id=>exact⟨_,a1,w1,⟨st1,hq1,hrel1⟩,.pass (x:=.inLoop code) rfl (fun _ _=>.inl (by simp)) harr⟩
 | goto l=>exact⟨_,a1,w1,⟨st1,hq1,hrel1⟩,.pass (x:=.inLoop code) rfl (fun _ _=>.inl (by simp)) harr⟩
 | ret=>exact⟨_,a1,w1,⟨st1,hq1,hrel1⟩,.pass (x:=.inLoop code) rfl (fun _ _=>.inl (by simp)) harr⟩
 | panic ch=>exact⟨_,a1,w1,⟨st1,hq1,hrel1⟩,.pass (x:=.inLoop code) rfl (fun _ _=>.inl (by simp)) harr⟩
 | outgrown=>exact⟨_,a1,w1,⟨st1,hq1,hrel1⟩,.pass (x:=.inLoop code) rfl (fun _ _=>.inl (by simp)) harr⟩
theorem zhj{cx:Cx}{c:AC}{Q:Exit→St→Prop}{st:St}(h:LWp cx c Q st):AWp cx (.loop c) Q st:=by
 intro code hc hm a w hr;have hcode:=hc;cases code<;>simp only[Zv]at hc<;>try cases hc
 case loop c1=>
  obtain⟨x',hx,he⟩:=map_some hc;cases he;intro b k cs;obtain⟨e,a',w',hq,harr⟩:=h c1 hx hm a w hr b k cs;exact⟨e,a',w',hq,.of_steps (.one step_loop) harr⟩
 case region id ops draw=>
  rcases zam hcode with ⟨_,l,_,h1⟩ | ⟨_,l,_,⟨n,_,h1⟩ | ⟨_,h1⟩ | ⟨n,_,h1⟩ | h1⟩<;>cases h1
 all_goals simp[Yg]at hc
theorem LWp.mono{cx:Cx}{c:AC}{Q Q':Exit→St→Prop}{st:St}(h:LWp cx c Q st)(hq:∀ex st,Q ex st→Q' ex st):LWp cx c Q' st:=
 fun code hc hm a w hr b k cs=>let ⟨e,a',w',⟨st',h1,h2⟩,h3⟩:=h code hc hm a w hr b k cs;⟨e,a',w',⟨st',hq _ _ h1,h2⟩,h3⟩
def Is(e:Ex)(st':St):Exit→St→Prop:=fun ex s=>ex=e.out∧s=st'
theorem zlx{ν:Nat→FuncId}{τ:Nat→Nat}(op:AOp):(Zeh ν τ op).writes=op.writes:=by
 cases op<;>first | rfl | (rename_i k xs;cases k<;>rfl)
theorem zxf(j:Nat):Zjt j≠"()":=by
 unfold Zjt
 repeat' split
 all_goals decide
theorem zly{T:Tbl}{k:Nat}{nm:String}{u:Nat}(h:(nm,u)∈Zcp T k):nm≠"()":=by
 unfold Zcp at h;split at h
 ·split at h
  ·unfold Zhy at h;obtain⟨r,_,hr⟩:=Ydc.1 h;split at hr
   ·cases hr;exact zxf _
   ·cases hr
  ·cases h
 ·cases h
structure GoodO (P:Program) (ν:Nat→FuncId) (T:Tbl) (O:Orc):Prop where
 meth:∀k nm u,(nm,u)∈Zcp T k→Zdt P (Zt T k) nm=some (ν u)
 fnn:∀k u,Zg9 T k=some u→Zt T k=ν u
 pure:∀u af xs r h,T u=some af→af.lent=none→O.call u xs []=some (r,h)→Zaq P (ν u) xs (·=r)
 lent:∀u af ms xs hb r hb',T u=some af→af.lent=some ms→O.call u xs hb=some (r,hb')→Zd3 P (ν u) xs hb (hb.length+1) (fun r1 h1 c1=>r1=r∧h1=hb'∧c1=hb.length+hb'.length+2)
 loop:∀k c st e st',O.loop k c st=some (e,st')→∀cx:Cx,cx.P=P→cx.clk0=k+1→LWp cx (er ν (Zt T) c) (Is e st') st
section
variable{P:Program}{ν:Nat→FuncId}{T:Tbl}{O:Orc}
theorem zim(q:BId→Bool)(h:Heap)(b:BId):(h.filter fun p=>!q p.1).lookup b=if q b=true then none else h.lookup b:=by
 induction h with
 | nil=>simp
 | cons p h ih=>
  obtain⟨p1,p2⟩:=p;by_cases hp:q p1=true
  ·rw[Ycq,if_neg (by simp[hp]),ih];by_cases hb:b=p1
   ·subst hb;simp[hp]
   ·simp[hb]
  ·rw[Ycq,if_pos (by simp[hp])];by_cases hb:b=p1
   ·subst hb;simp[hp]
   ·simpa[hb]using ih
theorem zdh(hO:GoodO P ν T O){u:Nat}{xs:List AV}{d:Option Nat}{st st':St}{K:St→Prop}(h:Zd O T u xs d st=some st')(hK:K st') :
  Zhj P (ν u) xs st.heap (fun r h=>K ⟨Zq st.env d r,h,st.clk⟩)∨Zhk P (ν u) xs st.heap st.clk (fun r h c=>K ⟨Zq st.env d r,h,c⟩):=by
 unfold Zd at h;split at h
 ·cases h
 rename_i af hT;split at h
 ·rename_i hl;obtain⟨ys,h1,h2⟩:=bind_some h;obtain⟨r,h3,h4⟩:=bind_some h2;cases h4;refine .inl ⟨ys,(·=r.1),h1,(hO.pure u af _ r.1 r.2 hT hl h3).wk,?_⟩
  rintro r' rfl
  exact hK
 ·rename_i ms hl;obtain⟨ys,h1,h2⟩:=bind_some h;simp only at h2;generalize hh1:Zm (Za1 ms xs) st.heap=h1' at *
  generalize hll:Zcy h1' 40 (Zci ms xs) []=l at *
  generalize hhp:Zd5 h1' l=hp at *
  split at h2
  ·rename_i hc;obtain⟨r,h3,h4⟩:=bind_some h2;generalize hhb:(r.2.map fun p=>(Za8 l (d.getD 0) p.1,Zar true (Za8 l (d.getD 0)) (Zbk hp st.clk) p.2))=hb' at *
   split at h4
   ·rename_i hchk;cases h4;simp only[Yo,decide_eq_true_eq]at hchk;obtain⟨⟨k2,k3⟩,k4⟩:=hchk;have hmem:∀b bx,hp.lookup b=some bx→h1'.lookup b=some bx:=by
     intro b bx hb;have:=za8 _ _ _ hb;rw[←hhp]at this;exact zfe this
    have hin:∀b,(hp.lookup b).isSome=true↔b∈l:=by
     intro b;constructor
     ·intro hb;obtain⟨bx,hb⟩:=Ybl.1 hb;rw[←hc.1];exact Yat.2 ⟨_,za8 _ _ _ hb,rfl⟩
     ·intro hb;rw[←hc.1]at hb;obtain⟨p,hp1,rfl⟩:=Yat.1 hb;obtain⟨x,hx⟩:=zf0 _ _ hp1;rw[hx];rfl
    have hlk:∀id,(h1'.filter fun p=>!(l.contains p.1 || (hb'.map (·.1)).contains p.1)).lookup id=if (l.contains id || (hb'.map (·.1)).contains id)=true then none else h1'.lookup id:=
     fun id=>zim (fun b=>l.contains b || (hb'.map (·.1)).contains b) h1' id
    refine .inr ⟨ms,ys,h1,hp,h1'.filter (fun p=>!(l.contains p.1 || (hb'.map (·.1)).contains p.1)),_,⟨fun id bx hid=>?_,fun id bx hid=>?_⟩,fun id hid=>?_,Zd3.rl hc.1 hc.2 (by rw[hhb];exact k2) (by
     have:=hO.lent u af ms _ _ r.1 r.2 hT hl h3;rw[Ydq]at this;exact this),?_⟩
    ·rw[hh1];exact hmem id bx hid
    ·rw[hlk]at hid;split at hid
     ·cases hid
     ·rw[hh1];exact hid
    ·rw[hlk,if_pos (by rw[Yav];exact .inl (by simpa using (hin id).1 hid))]
    ·rintro r' h' c' hle ⟨rfl,rfl,rfl⟩
     rw[hhb];refine⟨fun id hid=>?_,k3,k4,?_⟩
     ·obtain⟨bx,hb⟩:=Ybl.1 hid;have:id∈hb'.map (·.1):=Yat.2 ⟨(id,bx),za8 _ _ _ hb,rfl⟩;rw[hlk,if_pos (by rw[Yav];exact .inr (by rw[Ybd];exact this))]
     ·have e1:st.clk+(hp.length+r.2.length+2-hp.length)=st.clk+r.2.length+2:=by omega
      rw[e1];exact hK
   ·cases h4
  ·cases h2
theorem zlz(hO:GoodO P ν T O){op:AOp}{d:Option Nat}{st st':St}{K:St→Prop}(h:opX O T op d st=some st')(hK:K st'):opK P (Zeh ν (Zt T) op) d st K:=by
 cases op<;>simp only[opX]at h
 case call u args=>exact zdh hO h hK
 case ifc k x=>
  cases h;exact⟨_,rfl,hK⟩
 case inv nm k u r args=>
  split at h
  ·rename_i t y hy;split at h
   ·rename_i hc;obtain⟨rfl,hm⟩:=hc;exact .inl ⟨if_neg (zly hm),_,y,_,hy,hO.meth k nm u hm,zdh hO h hK⟩
   ·cases h
  ·rename_i f x hy;split at h
   ·rename_i hc;obtain⟨rfl,rfl,hm⟩:=hc;have hc:=zdh hO h hK;rw[←hO.fnn k u hm]at hc;exact .inr (.inl ⟨rfl,_,x,hy,hc⟩)
   ·cases h
  ·rename_i f id g z i o hy;split at h
   ·rename_i hc;obtain⟨rfl,rfl,hm⟩:=hc;have hc:=zdh hO h hK;rw[←hO.fnn k u hm]at hc;exact .inr (.inr ⟨rfl,_,id,g,z,i,o,hy,hc⟩)
   ·cases h
  ·cases h
 case bsl z zs len ps=>
  obtain⟨q,h1,rfl⟩:=map_some h;exact⟨q,h1,hK⟩
 case alloc zs=>
  obtain⟨q,h1,rfl⟩:=map_some h;exact⟨q,h1,hK⟩
 case store n x v=>
  obtain⟨q,h1,rfl⟩:=map_some h;exact⟨q,h1,hK⟩
 case mks z zs l c=>
  obtain⟨q,h1,rfl⟩:=map_some h;exact⟨q,h1,hK⟩
 case app z x y=>
  obtain⟨q,h1,rfl⟩:=map_some h;exact⟨q,h1,hK⟩
 case xop k xs=>
  cases k
  all_goals
   obtain⟨q,h1,rfl⟩:=map_some h;exact⟨q,h1,hK⟩
 all_goals
  obtain⟨q,h1,rfl⟩:=map_some h;exact⟨q,h1,hK⟩
theorem zl0(hO:GoodO P ν T O){o:AO}{st st':St}{K:St→Prop}(h:Zga O T o st=some st')(hK:K st'):Zgq P (Zav ν (Zt T) o) st K:=by
 unfold Zga at h;unfold Zgq;simp only[Zav];cases hg:o.guard with
 | none=>rw[hg]at h;exact zlz hO h hK
 | some p=>
  obtain⟨t,want⟩:=p;rw[hg]at h;simp only[gX]at h ⊢;cases hx:st.env.get t<;>rw[hx]at h<;>simp only at h ⊢<;>try (cases h;done)
  ·split at h
   ·rename_i hv;rw[if_pos hv];exact zlz hO h hK
   ·rename_i hv;rw[if_neg hv];cases h;exact hK
  ·cases h;exact hK
theorem zd8(hO:GoodO P ν T O):∀(l:List AO) (st st':St) (K:St→Prop),Zdu O T l st=some st'→K st'→Zec P (l.map (Zav ν (Zt T))) st K
 | [],st,st',K,h,hK=>by simp only[Zdu]at h;cases h;exact hK
 | o::l,st,st',K,h,hK=>by
  simp only[Zdu]at h;obtain⟨s1,h1,h2⟩:=bind_some h;simp only[Y2,Zec];exact zl0 hO h1 (zd8 hO l s1 st' K h2 hK)
theorem zl1(hO:GoodO P ν T O){op:AOp}{e:Env}{h:Heap}{older:List Heap}{x:AV}{K:AV→Prop}(hx:opD O T op e h older=some x)(hK:K x):opQ P (Zeh ν (Zt T) op) e h older K:=by
 by_cases hap:∃z x0 y,op=.app z x0 y
 ·obtain⟨z,x0,y,rfl⟩:=hap;by_cases hc:x0=.c (.sl [] .nl)
  ·subst hc;exact⟨x,hx,hK⟩
  ·exfalso;cases x0 with
   | t n=>simp[opD,Zh]at hx
   | c a=>
    cases a
    case sl els f=>
     cases els with
     | nil=>cases f<;>first | exact hc rfl | simp[opD,Zh]at hx
     | cons r l=>simp[opD,Zh]at hx
    all_goals simp[opD,Zh]at hx
 cases op<;>(try exact absurd ⟨_,_,_,rfl⟩ hap)<;>simp only[opD]at hx
 case call u args=>
  split at hx
  ·cases hx
  rename_i af hT;split at hx
  ·rename_i hc;simp only[Yo]at hc;obtain⟨r,h1,rfl⟩:=map_some hx;exact⟨_,⟨zdf hc.2,fun hf=>by rw[hc.2]at hf;cases hf⟩,r.1,(hO.pure u af _ r.1 r.2 hT (by simpa using hc.1) h1).wk,hK⟩
  ·cases hx
 case ifc k x=>
  cases hx;exact⟨_,rfl,trivial,hK⟩
 case inv nm k u r args=>
  split at hx
  ·rename_i t y hy;split at hx
   ·rename_i hc0;obtain⟨rfl,hm⟩:=hc0;split at hx
    ·cases hx
    rename_i af hT;split at hx
    ·rename_i hc;simp only[Yo]at hc;obtain⟨r,h1,rfl⟩:=map_some hx;exact⟨if_neg (zly hm),_,y,_,hy,hO.meth k nm u hm,hc.2,r.1,(hO.pure u af _ r.1 r.2 hT (by simpa using hc.1) h1).wk,hK⟩
    ·cases hx
   ·cases hx
  ·cases hx
 case bsl z zs len ps=>
  split at hx
  ·rename_i hc;obtain⟨q,h1,rfl⟩:=map_some hx;exact⟨hc,q,h1,hK⟩
  ·cases hx
 case xop k xs=>
  obtain⟨q,h1,_⟩:=bind_some hx;cases h1
 all_goals
  obtain⟨q,h1,h2⟩:=bind_some hx;split at h2
  ·rename_i hc;cases h2;refine⟨_,h1,?_,hK⟩;rcases zqp hc with hc | hc
   ·simp only[Zeh];rw[hc]
    trivial
   ·simp only[Zeh];split
    ·trivial
    ·exact hc
  ·cases h2
theorem zxg{o:AO}{e:Env}{h':Heap}{x:AV}(hf:o.op.free=false)(hw:o.op.writes=false)(hg:o.guard=none∨∃t want,o.guard=some (t,want)∧e.get t=.b want)(hs:Zgu o.op e.get h'=some x):QF P h' (Zav ν (Zt T) o) e.get x:=by
 have hq:QOp P (Zeh ν (Zt T) o.op) e.get h' x:=by
  obtain⟨d,g,op⟩:=o;by_cases hap:∃z x0 y,op=.app z x0 y
  ·obtain⟨z,x0,y,rfl⟩:=hap;by_cases hc:x0=.c (.sl [] .nl)
   ·subst hc;cases hf
   ·exact absurd (show (AOp.app z x0 y).writes=false from hw) (by rw[ziu hc];simp)
  cases op<;>first | exact absurd ⟨_,_,_,rfl⟩ hap | exact hs | (cases hf;done) | (cases hw;done) | (cases hs;done)
 unfold QF;simp only[Zav];rcases hg with hg | ⟨t,want,hg,ht⟩
 ·rw[hg];exact hq
 ·rw[hg];exact .inl ⟨ht,hq⟩
theorem z0p{o:AO}{e:Env}{h':Heap}(hg:∃t want,o.guard=some (t,want)∧(e.get t=.b (!want)∨e.get t=.tup [])):QF P h' (Zav ν (Zt T) o) e.get (.tup []):=by
 obtain⟨t,want,hg,ht⟩:=hg;unfold QF;simp only[Zav];rw[hg];exact .inr ⟨ht,by trivial⟩
theorem zxh{o:AO}{e:Env}{h h':Heap}{x:AV}(hf:o.op.freeE e.get=true)(hq:QF P h (Zav ν (Zt T) o) e.get x):QF P h' (Zav ν (Zt T) o) e.get x:=
 zsq (o:=Zav ν (Zt T) o) (by show (Zeh ν (Zt T) o.op).freeE e.get=true;cases hop:o.op<;>rw[hop]at hf<;>first | rfl | exact hf | cases hf) h h' hq
theorem zxi{o:AO}{e:Env}{h:Heap}{older:List Heap}{r:AV×Bool}(hx:qX O T o e h older=some r)(hr:r.2=true)(hf:o.op.free=true):o.op.freeE e.get=true:=by
 cases hop:o.op
 case call u args=>
  have key:∀x,opD O T (.call u args) e h older=some x→(args.map (ev e.get)).all noRef=true:=by
   intro x hx;simp only[opD]at hx;split at hx
   ·cases hx
   split at hx
   ·rename_i hc;simp only[Yo]at hc;exact hc.2
   ·cases hx
  unfold qX at hx;rw[hop]at hx;split at hx
  ·obtain⟨x,h1,_⟩:=map_some hx;exact key x h1
  ·split at hx
   ·split at hx
    ·obtain⟨x,h1,_⟩:=map_some hx;exact key x h1
    ·cases hx;cases hr
   ·cases hx;cases hr
   ·cases hx
 all_goals (rw[hop]at hf;exact hf)
theorem zj8(hO:GoodO P ν T O){o:AO}{e:Env}{h:Heap}{older:List Heap}{r:AV×Bool}{K:AV→Prop}(hx:qX O T o e h older=some r)(hK:K r.1) :
  qK P (Zav ν (Zt T) o) e h older K∧(r.2=true→(o.guard=none∨∃t want,o.guard=some (t,want)∧e.get t=.b want))∧(r.2=false→r.1=.tup []∧∃t want,o.guard=some (t,want)∧(e.get t=.b (!want)∨e.get t=.tup [])):=by
 unfold qX at hx;unfold qK;simp only[Zav];cases hg:o.guard with
 | none=>
  rw[hg]at hx;obtain⟨x,h1,rfl⟩:=map_some hx;exact⟨zl1 hO h1 hK,fun _=>.inl rfl,fun h=>by cases h⟩
 | some p=>
  obtain⟨t,want⟩:=p;rw[hg]at hx;simp only at hx ⊢;cases hx2:e.get t with
  | b v=>
   rw[hx2]at hx;simp only at hx ⊢;split at hx
   ·rename_i hv;rw[if_pos hv];obtain⟨x,h1,rfl⟩:=map_some hx;exact⟨zl1 hO h1 hK,fun _=>.inr ⟨t,want,rfl,by rw[hx2,hv]⟩,fun h=>by cases h⟩
   ·rename_i hv;rw[if_neg hv];cases hx;refine⟨hK,?_,?_⟩
    ·intro h;cases h
    intro _;refine⟨rfl,t,want,rfl,.inl ?_⟩;rw[hx2];congr 1;cases v<;>cases want<;>simp_all
  | tup l=>
   rw[hx2]at hx;cases l with
   | nil=>
    simp only at hx ⊢;cases hx;refine⟨hK,?_,?_⟩
    ·intro h;cases h
    ·intro _;exact⟨rfl,t,want,rfl,.inr hx2⟩
   | cons c l=>simp at hx
  | _=>rw[hx2]at hx;simp at hx
theorem znz{pend:Zct}{h:Heap}(hp:Zc5 pend h=true):∀p∈pend,0<p.1→Zgu p.2.1 p.2.2.1.get h=some p.2.2.2:=by
 classical
 unfold Zc5 at hp;exact of_decide_eq_true hp
def Zge(pendX:Zct)(pend:Zjp):Prop:=∀q∈pend,(∀h',q.2 h')∨q.1=0∨∃p∈pendX,p.1=q.1∧∀h',Zgu p.2.1 p.2.2.1.get h'=some p.2.2.2→q.2 h'
theorem Zge.next{pendX:Zct}{pend:Zjp}(h:Zge pendX pend):Zge (pendX.map fun p=>(p.1-1,p.2)) (pend.map fun p=>(p.1-1,p.2)):=by
 intro q hq;obtain⟨q0,h1,rfl⟩:=Yat.1 hq;rcases h q0 h1 with h2 | h2 | ⟨p,h2,h3,h4⟩
 ·exact .inl h2
 ·exact .inr (.inl (by simp only;omega))
 ·exact .inr (.inr ⟨_,Yat.2 ⟨p,h2,rfl⟩,by simp only;omega,h4⟩)
theorem zdi(hO:GoodO P ν T O):∀(l:List DO) (e:Env) (h:Heap) (clk:Nat) (older:List Heap) (pendX:Zct) (pend:Zjp) (st':St) (K:St→Prop),Zge pendX pend→Zb3 O T l e h clk older pendX=some st'→K st'→Zf9 P (l.map (Zjx ν (Zt T))) e h clk older pend K
 | [],e,h,clk,older,pendX,pend,st',K,hpr,hx,hK=>by simp only[Zb3]at hx;cases hx;exact hK
 | o::l,e,h,clk,older,pendX,pend,st',K,hpr,hx,hK=>by
  simp only[Zb3]at hx;simp only[Y2,Zf9];have hw:(Zjx ν (Zt T) o).ao.op.writes=o.ao.op.writes:=by
   exact zlx _
  rw[hw];cases ho:o.ao.op.writes with
  | true=>
   rw[ho]at hx;simp only at hx ⊢;split at hx
   ·rename_i hg;obtain⟨q,h1,h2⟩:=bind_some hx;split at h2
    ·rename_i hpd;have e1:Zeh ν (Zt T) o.ao.op=o.ao.op:=by
      cases hop:o.ao.op<;>rw[hop]at ho<;>first | rfl | (simp[AOp.writes]at ho;done) | (rename_i k xs;cases k<;>first | rfl | (simp[AOp.writes]at ho))
     refine⟨by show o.ao.guard=none;simpa using hg,q,?_,fun p hp h0=>?_,zdi hO l _ _ _ _ _ _ st' K hpr.next h2 hK⟩
     ·show stepW (Zeh ν (Zt T) o.ao.op) o.ao.dst e.get h clk=some q;rw[e1];exact h1
     ·rcases hpr p hp with h3 | h3 | ⟨p',h3,h4,h5⟩
      ·exact h3 _
      ·omega
      ·exact h5 _ (znz hpd p' h3 (by omega))
    ·cases h2
   ·cases hx
  | false=>
   rw[ho]at hx;simp only at hx ⊢;split at hx
   rotate_left
   ·rename_i p hrow;obtain⟨x,h1,h2⟩:=bind_some hx;obtain⟨hg,args,hop,hfr,hold⟩:=zlq hrow;unfold Zfp at h1;split at h1
    ·cases h1
    rename_i af hT;split at h1
    rotate_left
    ·cases h1
    rename_i hl;obtain⟨r,h3,rfl⟩:=map_some h1;have hcall:Zaq P (ν p.1) p.2 (·=r.1):=(hO.pure p.1 af _ r.1 r.2 hT (by simpa using hl) h3).wk;have hao:Zav ν (Zt T) o.ao=⟨o.ao.dst,none,.call (ν p.1) args⟩:=by unfold Zav;rw[hg,hop];rfl
    show qK P (Zav ν (Zt T) o.ao) e h (older.take (older.length-o.lo)) _;rw[hao];refine⟨p.2,⟨hfr,fun _=>hold⟩,r.1,hcall,?_⟩;refine zdi hO l _ _ _ _ _ _ st' K ?_ h2 hK;intro q hq;rcases Yw.1 hq with rfl | hq
    ·by_cases hn:older.length<o.hi
     ·refine .inr (.inr ⟨(o.hi-older.length,o.ao.op,e,.tup p.2),?_,rfl,fun h' hs=>?_⟩)
      ·rw[if_pos hn];exact Y9
      ·simp only[hop,Zgu]at hs;obtain⟨zs,h6,h7⟩:=map_some hs;cases h7;show QF P h' (Zav ν (Zt T) o.ao) e.get r.1;rw[hao];exact⟨_,h6,hcall⟩
     ·exact .inr (.inl (by show o.hi-older.length=0;omega))
    ·rcases hpr q hq with h3 | h3 | ⟨p',h3,h4,h5⟩
     ·exact .inl h3
     ·exact .inr (.inl h3)
     ·refine .inr (.inr ⟨p',?_,h4,h5⟩);split
      ·exact Ys _ h3
      ·exact h3
   rename_i hrow;obtain⟨r,h1,h2⟩:=bind_some hx;have key:=fun(K':AV→Prop) (hk:K' r.1)=>zj8 hO (K:=K') h1 hk;refine(key _ ?_).1;refine zdi hO l _ _ _ _ _ _ st' K ?_ h2 hK;obtain⟨_,k1,k2⟩:=key (fun _=>True) trivial;intro q hq;rcases Yw.1 hq with rfl | hq
   ·cases hr2:r.2 with
    | false=>
     obtain⟨h3,h4⟩:=k2 hr2;exact .inl fun h'=>by
      show QF P h' (Zav ν (Zt T) o.ao) e.get r.1;rw[h3];exact z0p h4
    | true=>
     cases hf:o.ao.op.free with
     | true=>
      obtain⟨hqk,_⟩:=key (fun x=>x=r.1) rfl;obtain⟨x,hq1,_,hxr⟩:=zwz (o:=Zav ν (Zt T) o.ao) (by rw[←ho];exact hw) hqk;subst hxr;exact .inl fun h'=>zxh (zxi h1 hr2 hf) hq1
     | false=>
      by_cases hn:older.length<o.hi
      ·refine .inr (.inr ⟨(o.hi-older.length,o.ao.op,e,r.1),?_,rfl,fun h' hs=>zxg hf ho (k1 hr2) hs⟩);unfold Ze0;rw[if_pos (by rw[hr2,hf,decide_eq_true hn];rfl)];exact Y9
      ·exact .inr (.inl (by show o.hi-older.length=0;omega))
   ·rcases hpr q hq with h3 | h3 | ⟨p,h3,h4,h5⟩
    ·exact .inl h3
    ·exact .inr (.inl h3)
    ·refine .inr (.inr ⟨p,?_,h4,h5⟩);unfold Ze0;split
     ·exact Ys _ h3
     ·exact h3
theorem zhk(hO:GoodO P ν T O)(tl:List AO):∀(l:List AO) (e:Env) (h:Heap) (clk:Nat) (st':St) (K:St→Prop),Zdm O T tl l e h clk=some st'→K st'→Zfd P (tl.map (Zav ν (Zt T))) (l.map (Zav ν (Zt T))) e h clk K
 | [],e,h,clk,st',K,hx,hK=>zd8 hO tl _ st' K hx hK
 | o::l,e,h,clk,st',K,hx,hK=>by
  simp only[Zdm]at hx;obtain⟨r,h1,h2⟩:=bind_some hx;simp only[Y2,Zfd];exact(zj8 hO (K:=fun x=>Zfd P (tl.map (Zav ν (Zt T))) (l.map (Zav ν (Zt T))) (Zq e o.dst x) h clk K) h1 (zhk hO tl l _ h clk st' K h2 hK)).1
theorem zf1{c0:Nat}{op:AOp}{e:Env}{l:List Nat}{ν:Nat→FuncId}{τ:Nat→Nat}(h:Zgv c0 op e l=true):∀g∈l,Zfn c0 (Zeh ν τ op) e.get g:=by
 intro g hg;unfold Zgv at h;have h1:=Yh.1 h g hg;simp only[Yav,decide_eq_true_eq,List.any_eq_true,Ybd]at h1;rcases h1 with h1 | ⟨t,ht,h2⟩
 ·exact .inl h1
 ·refine .inr ⟨t,?_,h2⟩;cases op<;>first | exact ht | (cases ht;done) | (rename_i k xs;cases k<;>first | exact ht | cases ht)
theorem zn0(hO:GoodO P ν T O){u:Nat}{xs:List AV}{d clk:Nat}{q:AV×Heap×Nat}(h:Ze9 O T u xs d clk=some q):∃m,q.2.2=clk+m∧Zjq P (ν u) xs clk q.1 q.2.1 m:=by
 unfold Ze9 at h;split at h
 ·cases h
 rename_i af hT;split at h
 ·cases h
 rename_i ms hl;split at h
 ·rename_i hn;obtain⟨r,h3,h4⟩:=bind_some h;simp only at h4;generalize hhb:(r.2.map fun p=>(Za8 [] d p.1,Zar true (Za8 [] d) (Zbk [] clk) p.2))=hb' at *
  split at h4
  ·rename_i hc;cases h4;obtain⟨hnd,hg1,hg2⟩:=hc;refine⟨r.2.length+2,rfl,hn,?_,hnd,fun g hg=>?_,fun p hp g hg=>?_⟩
   ·have hA:=hO.lent u af ms _ _ r.1 r.2 hT hl h3;have:=Zd3.rl (ys:=xs) (hp:=[]) (clk:=clk) (d:=d) (ex:=af.exact) (l:=[]) (r0:=r.1) (hb':=r.2) (c':=0+r.2.length+2) rfl List.nodup_nil (by rw[hhb];exact hnd) (by simpa using hA);rw[hhb]at this;have e:clk+(0+r.2.length+2-([]:Heap).length)=clk+(r.2.length+2):=by simp
    rw[e]at this;exact this
   ·have:=Yh.1 hg1 g hg;simpa using this
   ·obtain⟨hk,rr,hr,y,hy,hgy⟩:=hg;have h5:=Yh.1 hg2 p hp;simp only[hk,if_true]at h5;have h6:=Yh.1 (Yh.1 h5 rr hr) y hy;have:=Yh.1 h6 g hgy;simpa using this
  ·cases h4
 ·cases h
theorem zi7{op:AOp}{ua:Nat×List Opd}(h:op.lentN=some ua):op=.call ua.1 ua.2:=by
 cases op<;>simp only[AOp.lentN]at h<;>try cases h
 split at h
 ·cases h;rfl
 ·cases h
theorem zff(q:BId→Bool):∀(h:Heap) (id:BId),(h.filter fun p=>q p.1).lookup id=if q id then h.lookup id else none
 | [],id=>by split<;>rfl
 | (c,x)::h,id=>by
  have ih:=zff q h id;rw[Ycq];by_cases hc:q c=true
  ·simp only[hc,if_true];rw[Y3,Y3,ih];by_cases hi:id=c
   ·subst hi;simp[hc]
   ·have:(id == c)=false:=by simpa using hi
    rw[this]
  ·simp only[hc,Yz,if_false];rw[ih];by_cases hi:id=c
   ·subst hi;simp[hc]
   ·have:(id == c)=false:=by simpa using hi
    rw[Y3,this]
theorem zew(ids:List BId)(h:Heap):Zdi (Ze1 ids h) h:=by
 intro id bx hb;unfold Ze1 at hb;split at hb
 ·exact hb
 ·rw[zff fun b=>!ids.contains b]at hb;split at hb
  ·exact hb
  ·cases hb
theorem ztn{z d g g' z' off n:Nat}{x' y:Opd}{ρ:Nat→AV}{x:AV}{hp:Heap}{c:Nat}{b:BId}{o:Box}(hv:ev ρ x'=.bs b g' z' off n)(h:stepW (.app z x' y) (some d) ρ [(b,o)] g=some (x,hp,c)) :
  ∃bx,hp=[(b,bx),(b,o)]∧c=g+1∧bx.gen=g:=by
 simp only[stepW,Zgo]at h;obtain⟨ys,_,h1⟩:=bind_some h;rw[hv]at h1;simp only[Zg8]at h1;obtain⟨b0,_,h2⟩:=bind_some h1;split at h2
 ·simp only[Option.some.injEq,Prod.mk.injEq]at h2;obtain⟨_,rfl,rfl⟩:=h2;exact⟨_,rfl,rfl,rfl⟩
 ·cases h2
def Inv(X h:Heap)(c0:Nat):Prop:=∀id o,X.lookup id=some o→h.lookup id=some o∨∃o',h.lookup id=some o'∧c0≤o'.gen
theorem zbx(hO:GoodO P ν T O)(tl:List AO)(h0 X:Heap)(c0:Nat)(hX0:Zdi h0 X):∀(l:List AO) (e:Env) (h:Heap) (clk:Nat) (st':St) (K:St→Prop),Zdi h0 h→c0≤clk→Inv X h c0→Zbm O T tl h0 c0 X l e h clk=some st'→K st'→Zb0 P h0 c0 X (fun e h clk=>Zec P (tl.map (Zav ν (Zt T))) ⟨e,h,clk⟩ K) (l.map (Zav ν (Zt T))) e h clk
 | [],e,h,clk,st',K,_,_,_,hx,hK=>zd8 hO tl _ st' K hx hK
 | o::l,e,h,clk,st',K,hsb,hck,hinv,hx,hK=>by
  simp only[Zbm]at hx;simp only[Y2,Zb0];have hmk:(Zav ν (Zt T) o).op.maker=o.op.maker:=by
   obtain⟨d,g,op⟩:=o;cases op<;>first | rfl | (rename_i k xs;cases k<;>rfl)
  have hsE:(Zav ν (Zt T) o).op.isStore=o.op.isStore:=by
   obtain⟨d,g,op⟩:=o;cases op<;>first | rfl | (rename_i k xs;cases k<;>rfl)
  have hadd:∀(B:Heap),(∀p∈B,h.lookup p.1=none)→Zdi h0 (B++h):=by
   intro B hB id bx hid;have h1:=hsb id bx hid;rw[zap,zc3 B fun y hy=>by have:=hB _ hy;rw[this]at h1;cases h1];simpa using h1
  have hiadd:∀(B:Heap),(∀p∈B,h.lookup p.1=none)→Inv X (B++h) c0:=by
   intro B hB id o ho;have hn:B.lookup id=none:=by
    cases hl:B.lookup id with
    | none=>rfl
    | some y=>
     have h1:=hB _ (zcg _ _ _ hl);rcases hinv id o ho with h2 | ⟨o',h2,_⟩<;>(simp only at h1;rw[h1]at h2;cases h2)
   rw[zap,hn];simpa using hinv id o ho
  have hXn:∀id,h.lookup id=none→X.lookup id=none:=by
   intro id hid;cases hl:X.lookup id with
   | none=>rfl
   | some o=>rcases hinv id o hl with h2 | ⟨o',h2,_⟩<;>(rw[hid]at h2;cases h2)
  have h0n:∀id,X.lookup id=none→h0.lookup id=none:=by
   intro id hid;cases hl:h0.lookup id with
   | none=>rfl
   | some o=>have:=hX0 _ _ hl;rw[hid]at this;cases this
  rw[hmk,hsE];cases hm:o.op.maker with
  | true=>
   rw[hm]at hx;simp only at hx ⊢;split at hx
   ·rename_i d hg hd;have hop:Zeh ν (Zt T) o.op=o.op:=by
     obtain⟨d,g,op⟩:=o;cases op<;>first | rfl | (cases hm;done) | (rename_i k xs;cases k<;>first | rfl | cases hm)
    split at hx
    rotate_left
    ·rename_i p how;obtain⟨q,h1,h2⟩:=bind_some hx;split at h2
     ·rename_i hc;obtain⟨x,hp,c'⟩:=q;obtain⟨b,bo⟩:=p;obtain⟨z,x',y,g',z',off,n,hopa,hev⟩:∃z x' y g' z' off n,o.op=.app z x' y∧ev e.get x'=.bs b g' z' off n:=by
       unfold Zh0 at how;split at how
       ·rename_i z x' y hoa;cases hv:ev e.get x'<;>rw[hv]at how<;>simp only[Zi8]at how<;>try (cases how;done)
        rename_i b2 g' z' off n;unfold Zjv at how;split at how
        ·split at how<;>cases how;exact⟨z,x',y,g',z',off,n,hoa,hv⟩
        ·cases how
       ·cases how
      obtain⟨hb1,⟨ox,hb2⟩,hb3,hb4⟩:h0.lookup b=none∧(∃ox,X.lookup b=some ox)∧h.lookup b=some bo∧bo.gen<c0:=by
       rw[hopa]at how;simp only[Zh0,hev,Zi8]at how;unfold Zjv at how;split at how
       ·rename_i o1 o2 e1 e2 e3;split at how<;>cases how;exact⟨e1,⟨_,e2⟩,e3,by assumption⟩
       ·cases how
      have hbx:X.lookup b=some bo:=by
       rcases hinv b ox hb2 with h3 | ⟨o',h3,h4⟩
       ·rw[hb3]at h3;cases h3;exact hb2
       ·rw[hb3]at h3;cases h3;omega
      obtain⟨bx,rfl,rfl,hbg⟩:=ztn hev (by rw[hopa]at h1;exact h1);simp only[Ydu,Yd8]at h2 hc;refine⟨hg,d,x,b,bx,some bo,hd,by rw[show (Zav ν (Zt T) o).op=o.op from hop];exact h1,hb3,hbx,hb1,fun o2 ho2=>by cases ho2;omega,fun g hgb=>?_,zbx hO tl h0 X c0 hX0 l _ _ _ st' K (fun id y hy=>?_) (by omega) (fun id o2 ho2=>?_) h2 hK⟩
      ·obtain⟨hk,r,hr,y,hy,hgy⟩:=hgb;simp only[Zhz,Ybz,Yd5,Yeb,hk,if_true,Yh]at hc;exact zf1 (hc r hr y hy) g hgy
      ·have hne:(id == b)=false:=by
        cases hb:id == b with
        | false=>rfl
        | true=>have:=eq_of_beq hb;subst this;rw[hb1]at hy;cases hy
       show List.lookup id ((b,bx)::h)=some y;rw[Y3,hne];exact hsb id y hy
      ·show List.lookup id ((b,bx)::h)=some o2∨∃o',List.lookup id ((b,bx)::h)=some o'∧c0≤o'.gen;rw[Y3];by_cases hi:id=b
       ·subst hi;rw[beq_self_eq_true];exact .inr ⟨bx,rfl,by omega⟩
       ·have hne:(id == b)=false:=by simpa using hi
        rw[hne];exact hinv id o2 ho2
     ·cases h2
    obtain⟨q,h1,h2⟩:=bind_some hx;split at h2
    ·rename_i hc;simp only[Yo]at hc;obtain⟨x,hp,c'⟩:=q;obtain⟨bx,rfl,rfl⟩:∃bx,hp=[(.loc d,bx)]∧c'=clk+1:=znn hm h1;have hln:h.lookup (.loc d)=none:=Ycf.1 hc.1;have hB1:∀p∈[((.loc d:BId),bx)],h.lookup p.1=none:=fun p hp=>by rw[Ya9.1 hp];exact hln
     refine⟨hg,d,x,.loc d,bx,none,hd,by rw[show (Zav ν (Zt T) o).op=o.op from hop];exact h1,hln,hXn _ hln,h0n _ (hXn _ hln),fun o2 ho2=>(by cases ho2),fun g hgb=>?_,zbx hO tl h0 X c0 hX0 l _ _ _ st' K (hadd [(.loc d,bx)] hB1) (by omega) (hiadd _ hB1) h2 hK⟩;obtain⟨hk,r,hr,y,hy,hgy⟩:=hgb;have h3:=hc.2;simp only[Zhz,Ybz,Yd5,Yeb,hk,if_true,Yh]at h3;exact zf1 (h3 r hr y hy) g hgy
    ·cases h2
   ·cases hx
  | false=>
   rw[hm]at hx;simp only at hx ⊢;cases hst:o.op.isStore with
   | true=>
    rw[hst]at hx;simp only at hx ⊢;split at hx
    ·rename_i hg hd;obtain⟨q,h1,h2⟩:=bind_some hx;split at h2
     ·rename_i hfr;obtain⟨dd,gg,op⟩:=o;simp only at hg hd hst h1 hfr;subst hg hd;cases op<;>try (cases hst;done)
      rename_i n x v;simp only[stepW]at h1;obtain⟨h',e1,rfl⟩:=map_some h1;refine⟨rfl,rfl,h',?_,?_,zbx hO tl h0 X c0 hX0 l e h' clk st' K ?_ hck ?_ h2 hK⟩
      ·show stepW (.store n x v) none e.get h clk=_;simp only[stepW,e1]
       rfl
      rotate_left 2
      ·intro id bx hid;simp only[Zfy]at hfr;unfold Zc8 at e1;split at e1
       ·rename_i id2 g z i o hx2;rw[hx2]at hfr;simp only[Ycf]at hfr;obtain⟨bx2,_,e2⟩:=bind_some e1;obtain⟨r2,_,e3⟩:=bind_some e2;obtain⟨cs,_,e4⟩:=bind_some e3;split at e4
        ·cases e4;have hne:(id == id2)=false:=by
          cases hb:id == id2 with
          | false=>rfl
          | true=>have:=eq_of_beq hb;subst this;rw[hid]at hfr;cases hfr
         simp only[Y3,hne];exact hinv id bx hid
        ·cases e4
       ·cases e1
      all_goals
       intro id bx hid;have h3:=hsb id bx hid;replace hid:=hX0 id bx hid;simp only[Zfy]at hfr;unfold Zc8 at e1;split at e1
       ·rename_i id2 g z i o hx2;rw[hx2]at hfr;simp only[Ycf]at hfr;obtain⟨bx2,_,e2⟩:=bind_some e1;obtain⟨r2,_,e3⟩:=bind_some e2;obtain⟨cs,_,e4⟩:=bind_some e3;split at e4
        ·cases e4;have hne:(id == id2)=false:=by
          cases hb:id == id2 with
          | false=>rfl
          | true=>have:=eq_of_beq hb;subst this;rw[hid]at hfr;cases hfr
         simp only[Y3,hne];exact h3
        ·cases e4
       ·cases e1
     ·cases h2
    ·cases hx
   | false=>
   rw[hst]at hx;simp only at hx ⊢;cases hlN:o.op.lentN with
   | some ua=>
    rw[hlN]at hx;simp only at hx;split at hx
    ·rename_i d hg hd;obtain⟨q,h1,h2⟩:=bind_some hx;split at h2
     ·rename_i hfr;obtain⟨m,hm2,hcb⟩:=zn0 hO h1;obtain⟨dd,gg,op⟩:=o;simp only at hg hd hlN;subst hg hd;have hop:=zi7 hlN;subst hop;rw[hm2]at h2;exact .inr ⟨rfl,ν ua.1,ua.2,d,q.1,q.2.1,m,rfl,rfl,hcb,fun p hp=>by simpa using Yh.1 hfr p hp,zbx hO tl h0 X c0 hX0 l _ _ _ st' K (hadd _ fun p hp=>by simpa using Yh.1 hfr p hp) (by omega) (hiadd _ fun p hp=>by simpa using Yh.1 hfr p hp) h2 hK⟩
     ·cases h2
    ·cases hx
   | none=>
   rw[hlN]at hx;simp only at hx;obtain⟨x,h1,h2⟩:=bind_some hx;split at h2
   ·rename_i hc;refine .inl ?_;exact(zj8 hO (K:=fun x=>(∀g∈gnA x,Zfn c0 (Zav ν (Zt T) o).op e.get g)∧Zb0 P h0 c0 X (fun e h clk=>Zec P (tl.map (Zav ν (Zt T))) ⟨e,h,clk⟩ K) (l.map (Zav ν (Zt T))) (Zq e o.dst x) h clk) h1 ⟨zf1 hc,zbx hO tl h0 X c0 hX0 l _ h clk st' K hsb hck hinv h2 hK⟩).1
   ·cases h2
theorem zto{cx:Cx}{c:AC}{st:St}{id:Nat}{o:Option (Ex×St)}{e:Ex}{st':St}(h0:∀e1 s1,o=some (e1,s1)→AWp cx c (Is e1 s1) st)
  (h:(o.bind fun r=>match r.1 with | .x j=>if j=id then some (Ex.n,r.2) else some r | _=>some r)=some (e,st')):AWp cx (.block id c) (Is e st') st:=by
 obtain⟨⟨e1,s1⟩,h1,h2⟩:=bind_some h;refine zld ((h0 e1 s1 h1).mono ?_)
 rintro ex s ⟨rfl,rfl⟩
 cases e1 with
 | n=>simp only at h2;cases h2;exact⟨rfl,rfl⟩
 | x j=>
  simp only at h2;show Zee id _ (.exit j) _;simp only[Zee];split at h2
  ·rename_i hj;rw[if_pos hj];cases h2;exact⟨rfl,rfl⟩
  ·rename_i hj;rw[if_neg hj];cases h2;exact⟨rfl,rfl⟩
 | r=>simp only at h2;cases h2;exact⟨rfl,rfl⟩
 | g l=>simp only at h2;cases h2;exact⟨rfl,rfl⟩
theorem zxj{k:Nat}{cx:Cx}(hk:cx.clk0=k+1){c:AC}{st:St}{g:Gh}{o:Option (Ex×St)}{e:Ex}{st':St}(h0:∀e1 s1,o=some (e1,s1)→AWp cx c (Is e1 s1) st)
  (h:(o.bind fun r=>match r.1 with | .n=>(ghS k g r.2).map fun s=>(Ex.n,s) | _=>some r)=some (e,st')):AWp cx c (Is e st') st:=by
 obtain⟨⟨e1,s1⟩,h1,h2⟩:=bind_some h;intro code hc hm a w hr;refine wp_mono (h0 e1 s1 h1 code hc hm a w hr) ?_
 rintro ex a' w' ⟨s,⟨rfl,rfl⟩,hr'⟩
 cases e1 with
 | n=>
  simp only at h2;obtain⟨s2,h3,h4⟩:=map_some h2;cases h4;exact⟨_,⟨rfl,rfl⟩,hr'.gh hk h3⟩
 | x id=>simp only at h2;cases h2;exact⟨_,⟨rfl,rfl⟩,hr'⟩
 | r=>simp only at h2;cases h2;exact⟨_,⟨rfl,rfl⟩,hr'⟩
 | g l=>simp only at h2;cases h2;exact⟨_,⟨rfl,rfl⟩,hr'⟩
theorem za9(hO:GoodO P ν T O){k:Nat}{cx:Cx}(hP:cx.P=P)(hk:cx.clk0=k+1):∀(c:AX) (st:St) (e:Ex) (st':St),evX O T k c st=some (e,st')→AWp cx (er ν (Zt T) c) (Is e st') st
 | .skip,st,e,st',h=>by simp only[evX]at h;cases h;exact zw4 ⟨rfl,rfl⟩
 | .reg l,st,e,st',h=>by
  simp only[evX]at h;obtain⟨s,h1,h2⟩:=map_some h;cases h2;refine z0f ?_;rw[hP];exact zd8 hO l st st' _ h1 ⟨rfl,rfl⟩
 | .draw l,st,e,st',h=>by
  simp only[evX]at h;obtain⟨s,h1,h2⟩:=map_some h;cases h2;refine zw5 ?_;rw[hP];exact zdi hO l _ _ _ _ _ _ st' _ (fun q hq=>by simp at hq) h1 ⟨rfl,rfl⟩
 | .drawT hd tl,st,e,st',h=>by
  simp only[evX]at h;obtain⟨s,h1,h2⟩:=map_some h;cases h2;refine zsw ?_;rw[hP];exact zhk hO tl hd _ _ _ st' _ h1 ⟨rfl,rfl⟩
 | .drawM hd tl,st,e,st',h=>by
  simp only[evX]at h;obtain⟨s,h1,h2⟩:=map_some h;cases h2;refine zsx (zew (Zes hd st.env) st.heap) ?_;rw[hP];exact zbx hO tl _ _ _ (zew _ _) hd _ _ _ st' _ (zew _ _) (Yf _) (fun _ _ h=>.inl h) h1 ⟨rfl,rfl⟩
 | .bad,st,e,st',h=>by simp only[evX]at h;cases h
 | .prim f,st,e,st',h=>by simp only[evX]at h;cases h
 | .seq a b,st,e,st',h=>by
  simp only[evX]at h;obtain⟨⟨e1,s1⟩,h1,h2⟩:=bind_some h;refine z0g ((za9 hO hP hk a st e1 s1 h1).mono ?_)
  rintro ex s ⟨rfl,rfl⟩
  cases e1 with
  | n=>exact za9 hO hP hk b _ e st' h2
  | x id=>simp only at h2;cases h2;exact⟨rfl,rfl⟩
  | r=>simp only at h2;cases h2;exact⟨rfl,rfl⟩
  | g l=>simp only at h2;cases h2;exact⟨rfl,rfl⟩
 | .cond c x y,st,e,st',h=>by
  simp only[evX]at h;split at h
  ·rename_i t ht;refine zw6 ht (fun h1=>?_) (fun h1=>?_)
   ·subst h1;exact za9 hO hP hk x st e st' (by simpa using h)
   ·subst h1;exact za9 hO hP hk y st e st' (by simpa using h)
  ·cases h
 | .block id c,st,e,st',h=>by
  simp only[evX]at h;obtain⟨⟨e1,s1⟩,h1,h2⟩:=bind_some h;refine zld ((za9 hO hP hk c st e1 s1 h1).mono ?_)
  rintro ex s ⟨rfl,rfl⟩
  cases e1 with
  | n=>simp only at h2;cases h2;exact⟨rfl,rfl⟩
  | x j=>
   simp only at h2;show Zee id _ (.exit j) _;simp only[Zee];split at h2
   ·rename_i hj;rw[if_pos hj];cases h2;exact⟨rfl,rfl⟩
   ·rename_i hj;rw[if_neg hj];cases h2;exact⟨rfl,rfl⟩
  | r=>simp only at h2;cases h2;exact⟨rfl,rfl⟩
  | g l=>simp only at h2;cases h2;exact⟨rfl,rfl⟩
 | .loop c,st,e,st',h=>zhj (hO.loop k c st e st' (by simpa only[evX]using h) cx hP hk)
 | .exit id,st,e,st',h=>by simp only[evX]at h;cases h;exact zw7 ⟨rfl,rfl⟩
 | .ret,st,e,st',h=>by simp only[evX]at h;cases h;exact z0h ⟨rfl,rfl⟩
 | .note c g,st,e,st',h=>by
  simp only[evX]at h;obtain⟨⟨e1,s1⟩,h1,h2⟩:=bind_some h;intro code hc hm a w hr;refine wp_mono (za9 hO hP hk c st e1 s1 h1 code hc hm a w hr) ?_
  rintro ex a' w' ⟨s,⟨rfl,rfl⟩,hr'⟩
  cases e1 with
  | n=>
   simp only at h2;obtain⟨s2,h3,h4⟩:=map_some h2;cases h4;exact⟨_,⟨rfl,rfl⟩,hr'.gh hk h3⟩
  | x id=>simp only at h2;cases h2;exact⟨_,⟨rfl,rfl⟩,hr'⟩
  | r=>simp only at h2;cases h2;exact⟨_,⟨rfl,rfl⟩,hr'⟩
  | g l=>simp only at h2;cases h2;exact⟨_,⟨rfl,rfl⟩,hr'⟩
 | .lp id g c g2,st,e,st',h=>by
  simp only[evX]at h;obtain⟨s,h1,h2⟩:=bind_some h;have h3:((O.loop k c s).bind fun r=>match r.1 with | .x j=>if j=id then some (Ex.n,r.2) else some r | _=>some r).bind (fun r=>match r.1 with | .n=>(ghS k g2 r.2).map fun s=>(Ex.n,s) | _=>some r)=some (e,st'):=by
   rw[←h2];cases O.loop k c s with
   | none=>rfl
   | some r=>
    obtain⟨e1,s1⟩:=r;cases e1 with
    | n=>rfl
    | r=>rfl
    | g l=>rfl
    | x j=>
     simp only[Yy];split<;>rfl
  have h4:AWp cx (.block id (.loop (er ν (Zt T) c))) (Is e st') s:=
   zxj hk (fun e1 s1 he=>zto (fun e2 s2 he2=>zhj (hO.loop k c s e2 s2 he2 cx hP hk)) he) h3
  intro code hc hm a w hr;exact h4 code hc hm a w (hr.gh hk h1)
 | .scope c,st,e,st',h=>by
  simp only[evX]at h;obtain⟨⟨e1,s1⟩,h1,h2⟩:=bind_some h;refine zsy ((za9 hO hP hk c st e1 s1 h1).mono ?_)
  rintro ex s ⟨rfl,rfl⟩
  cases e1 with
  | g l=>simp only at h2;cases h2
  | n=>simp only at h2;cases h2;exact⟨fun l he=>(by cases he),rfl,rfl⟩
  | x j=>simp only at h2;cases h2;exact⟨fun l he=>(by cases he),rfl,rfl⟩
  | r=>simp only at h2;cases h2;exact⟨fun l he=>(by cases he),rfl,rfl⟩
 | .label l,st,e,st',h=>by simp only[evX]at h;cases h;exact zsz ⟨rfl,rfl⟩
 | .goto l,st,e,st',h=>by simp only[evX]at h;cases h;exact zw8 ⟨rfl,rfl⟩
 | .gsc l c r,st,e,st',h=>by
  simp only[evX]at h;have key:∀n o,Zi9 (fun s=>evX O T k r s) l n o=some (e,st')→∃e1 s1,o=some (e1,s1)∧GQ cx l (er ν (Zt T) r) (Is e st') n e1.out s1:=by
   intro n
   induction n with
   | zero=>intro o h;cases h
   | succ n ih=>
    intro o h;simp only[Zi9]at h;obtain⟨⟨e1,s1⟩,h1,h2⟩:=bind_some h;refine⟨e1,s1,h1,?_⟩;cases e1 with
    | g j=>
     simp only at h2;split at h2
     ·rename_i hj;obtain⟨e2,s2,h3,h4⟩:=ih _ h2;refine⟨hj,(za9 hO hP hk r s1 e2 s2 h3).mono ?_⟩
      rintro ex s ⟨rfl,rfl⟩
      exact h4
     ·cases h2
    | n=>simp only at h2;cases h2;exact⟨rfl,rfl⟩
    | x j=>simp only at h2;cases h2;exact⟨rfl,rfl⟩
    | r=>simp only at h2;cases h2;exact⟨rfl,rfl⟩
  obtain⟨e1,s1,h1,h2⟩:=key _ _ h;refine z0i 100 ((za9 hO hP hk c st e1 s1 h1).mono ?_)
  rintro ex s ⟨rfl,rfl⟩
  exact h2
 | .pre g c,st,e,st',h=>by
  simp only[evX]at h;obtain⟨s,h1,h2⟩:=bind_some h;intro code hc hm a w hr;exact za9 hO hP hk c s e st' h2 code hc hm a w (hr.gh hk h1)
theorem zqr{f:FuncId}{xs:List AV}{hb:Heap}{k:Nat}{ex:Bool}{x:AV}{hh:Heap}{cc:Nat}(h:Zd3 P f xs hb (k+1) (fun r h c=>r=x∧h=hh∧c=cc)) :
  Zd3 P f xs hb (k+1) (fun r h c=>r=(Zdf ex k [0] ⟨[(0,x)],hh,cc⟩).env.get 0∧h=(Zdf ex k [0] ⟨[(0,x)],hh,cc⟩).heap∧c=(Zdf ex k [0] ⟨[(0,x)],hh,cc⟩).clk):=by
 refine⟨h.1,fun w S M cargs hl hC hheap hS hM=>(h.2 w S M cargs hl hC hheap hS hM).mono ?_⟩;intro e w' ⟨v,r,h',S',M',clk',he,⟨h1,h2,h3⟩,hCr,hw⟩;subst h1;subst h2;subst h3;have hrel:Rel ⟨P,1,w,S,M,k+1⟩ ⟨[(0,r)],h',clk'⟩ { tmps:=#[v],defers:=[] } w':=by
  refine⟨S',M',rfl,rfl,fun t=>?_,hw 1⟩;cases t with
  | zero=>simpa using hCr
  | succ t=>simp;exact .p (.dead _)
 obtain⟨S2,M2,hr2⟩:=hrel.norm (ex:=ex) (k:=k) (live:=[0]) rfl;refine⟨v,_,_,S2,M2,_,he,⟨rfl,rfl,rfl⟩,by simpa using hr2.env 0,fun nt=>?_⟩;have:=hr2.wr;exact⟨this.heap,this.ext,this.fr,this.Snew,this.Slt,this.Mnew⟩
theorem Zaq.res{f:FuncId}{xs:List AV}{y:AV}{ex:Bool}(h:Zaq P f xs (·=y)):Zaq P f xs (·=wkIf ex y):=
 ⟨h.1,fun w S cargs hl hC hS=>(h.2 w S cargs hl hC hS).mono fun _ _ ⟨v,r,he,hr,hb,hC⟩=>⟨v,_,he,rfl,hb,by have hr:r=y:=hr;rw[←hr];exact hC.wkIf ex⟩⟩
def TOk(P:Program)(ν:Nat→FuncId)(T:Tbl):Prop:=∀u af,T u=some af →
 match af.body.isPrim with
 | some f=>∀xs r,f xs=some r→Zaq P (ν u) xs (·=r)
 | none=>if af.body.isBad=true then (∀m∈Zhy af,Zdt P af.np m.1=some (ν m.2))∧(af.res.isEmpty=true→af.np=ν af.nt) else Zfl P (ν u)=some (erF ν (Zt T) af)
theorem GoodO.next(hT:TOk P ν T)(hm:P.follows .mixedOrders=true)(hO:GoodO P ν T O):GoodO P ν T (Zc2 T O):=by
 have bad_no:∀(af:AFx) (k:Nat) (s:St) (r:Ex×St),af.body.isBad=true→evX O T k af.body s=some r→False:=by
  intro af k s r hb he;cases hbd:af.body<;>rw[hbd]at hb he<;>first | (cases hb;done) | (simp only[evX]at he;cases he)
 refine⟨hO.meth,hO.fnn,fun u af xs r h hu hl hc=>?_,fun u af ms xs hb r hb' hu hl hc=>?_,fun k c st e st' h cx hP hk=>?_⟩
 ·have hTu:=hT u af hu;simp only[Zc2,hu]at hc;split at hc
  ·rename_i f hf;rw[hf]at hTu;split at hc
   ·obtain⟨x,h1,h2⟩:=map_some hc;cases h2;exact hTu xs _ h1
   ·cases hc
  rename_i hf;rw[hf]at hTu;simp only at hTu;split at hc
  ·rename_i hcond;obtain⟨⟨e,s⟩,h1,h2⟩:=bind_some hc;rw[if_neg (fun hb=>bad_no af _ _ _ hb h1)]at hTu;have key:∃x y,(e=.n∨e=.r)∧Zda s af.res=some x∧frz s.heap x=some y∧r=wkIf af.exact y:=by
    unfold Zjw at h2;cases e with
    | x id=>simp at h2
    | g id=>simp at h2
    | n=>
     simp only at h2;obtain⟨x,h3,h4⟩:=bind_some h2;rw[hl]at h4;obtain⟨y,h5,h6⟩:=map_some h4;cases h6;exact⟨x,y,.inl rfl,h3,h5,rfl⟩
    | r=>
     simp only at h2;obtain⟨x,h3,h4⟩:=bind_some h2;rw[hl]at h4;obtain⟨y,h5,h6⟩:=map_some h4;cases h6;exact⟨x,y,.inr rfl,h3,h5,rfl⟩
   obtain⟨x,y,he,h3,h5,rfl⟩:=key;refine Zaq.res (zs0 hTu hm hcond.1 fun cx hP hnt hclk=>((za9 hO hP hclk af.body _ e s h1).mono ?_))
   rintro ex s' ⟨rfl,rfl⟩
   exact⟨by rcases he with rfl | rfl;exact .inl rfl;exact .inr rfl,x,y,h3,h5,rfl⟩
  ·cases hc
 ·have hTu:=hT u af hu;simp only[Zc2,hu]at hc;split at hc
  ·rename_i f hf;split at hc
   ·rename_i hcond;rw[hcond.2]at hl;cases hl
   ·cases hc
  rename_i hf;rw[hf]at hTu;simp only at hTu;split at hc
  ·rename_i hcond;obtain⟨⟨e,s⟩,h1,h2⟩:=bind_some hc;rw[if_neg (fun hb=>bad_no af _ _ _ hb h1)]at hTu;have key:∃x,(e=.n∨e=.r)∧Zda s af.res=some x∧r=(Zdf af.exact hb.length [0] ⟨[(0,x)],s.heap,s.clk⟩).env.get 0∧hb'=(Zdf af.exact hb.length [0] ⟨[(0,x)],s.heap,s.clk⟩).heap:=by
    unfold Zjw at h2;cases e with
    | x id=>simp at h2
    | g id=>simp at h2
    | n=>
     simp only at h2;obtain⟨x,h3,h4⟩:=bind_some h2;rw[hl]at h4;cases h4;exact⟨x,.inl rfl,h3,rfl,rfl⟩
    | r=>
     simp only at h2;obtain⟨x,h3,h4⟩:=bind_some h2;rw[hl]at h4;cases h4;exact⟨x,.inr rfl,h3,rfl,rfl⟩
   obtain⟨x,he,h3,rfl,rfl⟩:=key;have hA:Zd3 P (ν u) xs hb (hb.length+1) (fun r h c=>r=x∧h=s.heap∧c=s.clk):=by
    refine zle hTu hm hcond.1 fun cx hP hnt hclk=>((za9 hO hP hclk af.body _ e s h1).mono ?_)
    rintro ex s' ⟨rfl,rfl⟩
    exact⟨by rcases he with rfl | rfl;exact .inl rfl;exact .inr rfl,x,h3,rfl,rfl,rfl⟩
   have hB:=zqr (ex:=af.exact) hA;refine⟨hB.1,fun w S M cargs hl hC hheap hS hM=>(hB.2 w S M cargs hl hC hheap hS hM).mono ?_⟩;intro e w' ⟨v,r,h',S',M',clk',he,⟨a1,a2,a3⟩,hCr,hw⟩;refine⟨v,r,h',S',M',clk',he,⟨a1,a2,?_⟩,hCr,hw⟩;rw[a3];simp only[Zdf,Ydq]
  ·cases hc
 ·simp only[Zc2]at h;obtain⟨⟨e1,s1⟩,h1,h2⟩:=bind_some h;refine zxe ((za9 hO hP hk c st e1 s1 h1).mono ?_)
  rintro ex s ⟨rfl,rfl⟩
  cases e1 with
  | n=>exact hO.loop k c _ e st' h2 cx hP hk
  | x id=>simp only at h2;cases h2;exact⟨rfl,rfl⟩
  | r=>simp only at h2;cases h2;exact⟨rfl,rfl⟩
  | g l=>simp only at h2;cases h2;exact⟨rfl,rfl⟩
theorem zab5(hT:TOk P ν T):∀k nm u,(nm,u)∈Zcp T k→Zdt P (Zt T k) nm=some (ν u):=by
 intro k nm u hm;unfold Zcp at hm;unfold Zt;cases hT':T (1000000+k) with
 | none=>rw[hT']at hm;cases hm
 | some af=>
  rw[hT']at hm;simp only at hm ⊢;split at hm
  ·rename_i hb;have:=hT _ af hT';have hp:af.body.isPrim=none:=by cases hbd:af.body<;>rw[hbd]at hb<;>first | rfl | cases hb
   rw[hp]at this;simp only[if_pos hb]at this;exact this.1 (nm,u) hm
  ·cases hm
theorem fnn0(hT:TOk P ν T):∀k u,Zg9 T k=some u→Zt T k=ν u:=by
 intro k u hm;unfold Zg9 at hm;unfold Zt;cases hT':T (1000000+k) with
 | none=>rw[hT']at hm;cases hm
 | some af=>
  rw[hT']at hm;simp only at hm ⊢;split at hm
  ·rename_i hb;cases hm;simp only[Yo]at hb;have:=hT _ af hT';have hp:af.body.isPrim=none:=by cases hbd:af.body<;>rw[hbd]at hb<;>first | rfl | cases hb.1
   rw[hp]at this;simp only[if_pos hb.1]at this;exact this.2 hb.2
  ·cases hm
theorem GoodO.orcN(hT:TOk P ν T)(hm:P.follows .mixedOrders=true):∀n,GoodO P ν T (orcN T n)
 | 0=>⟨zab5 hT,fnn0 hT,fun _ _ _ _ _ _ _ h=>(by cases h),fun _ _ _ _ _ _ _ _ _ h=>(by cases h),fun _ _ _ _ _ h=>(by cases h)⟩
 | n+1=>(GoodO.orcN hT hm n).next hT hm
end
end Go.Ab
end
section
namespace Go.Ab
open Go.RowKit
inductive Qy where
 | call (u:Nat) (xs:List AV) (hb:Heap) (r:AV×Heap)
 | loop (k:Nat) (c:AX) (st:St) (r:Ex×St)
def Holds(O:Orc):Qy→Prop
 | .call u xs hb r=>O.call u xs hb=some r
 | .loop k c st r=>O.loop k c st=some r
def Zbl{α:Type}(f:Orc→Option α):Prop:=∀O r,f O=some r→∃L:List Qy,(∀q∈L,Holds O q)∧∀O',(∀q∈L,Holds O' q)→f O'=some r
theorem Zbl.const{α:Type}(a:Option α):Zbl fun _=>a:=fun _ _ h=>⟨[],by simp,fun _ _=>h⟩
theorem Zbl.bind{α β:Type}{g:Orc→Option α}{h:Orc→α→Option β}(hg:Zbl g)(hh:∀x,Zbl fun O=>h O x):Zbl fun O=>(g O).bind (h O):=by
 intro O r he;obtain⟨x,h1,h2⟩:=bind_some he;obtain⟨L1,a1,a2⟩:=hg O x h1;obtain⟨L2,b1,b2⟩:=hh x O r h2;refine⟨L1++L2,fun q hq=>?_,fun O' hO'=>?_⟩
 ·rcases Yax.1 hq with hq | hq
  ·exact a1 q hq
  ·exact b1 q hq
 ·have e1:=a2 O' fun q hq=>hO' q (Yaw _ hq);have e2:=b2 O' fun q hq=>hO' q (Yap _ hq);simp only at e2;simp only[e1,Yy,e2]
theorem Zbl.map{α β:Type}{g:Orc→Option α}(hg:Zbl g)(f:α→β):Zbl fun O=>(g O).map f:=by
 have:=hg.bind (h:=fun _ x=>some (f x)) fun x=>.const _;simpa only[Option.map_eq_bind,Function.comp_def]using this
theorem Zbl.call(u:Nat)(xs:List AV)(hb:Heap):Zbl fun O=>O.call u xs hb:=fun O r h=>⟨[.call u xs hb r],by simpa[Holds]using h,fun O' h'=>by simpa[Holds]using h'⟩
theorem Zbl.loop(k:Nat)(c:AX)(st:St):Zbl fun O=>O.loop k c st:=fun O r h=>⟨[.loop k c st r],by simpa[Holds]using h,fun O' h'=>by simpa[Holds]using h'⟩
section
variable(T:Tbl)
theorem zl2(u:Nat)(xs:List AV)(d:Option Nat)(st:St):Zbl fun O=>Zd O T u xs d st:=by
 unfold Zd;split
 ·exact .const _
 ·split
  ·refine Zbl.bind (.const _) fun ys=>Zbl.bind (.call _ _ _) fun r=>.const _
  ·refine Zbl.bind (.const _) fun ys=>?_;simp only;split
   ·refine Zbl.bind (.call _ _ _) fun r=>.const _
   ·exact .const _
theorem ztp(op:AOp)(d:Option Nat)(st:St):Zbl fun O=>opX O T op d st:=by
 by_cases hx:∃k xs,op=.xop k xs
 ·obtain⟨k,xs,rfl⟩:=hx;cases k<;>exact .const _
 cases op<;>(try exact absurd ⟨_,_,rfl⟩ hx)<;>simp only[opX]<;>first | exact .const _ | exact zl2 T _ _ _ _ | (split<;>first | exact .const _ | (split<;>first | exact .const _ | exact zl2 T _ _ _ _))
theorem ztq(o:AO)(st:St):Zbl fun O=>Zga O T o st:=by
 unfold Zga;split
 ·exact ztp T _ _ _
 ·unfold gX;split
  ·split
   ·exact ztp T _ _ _
   ·exact .const _
  ·exact .const _
  ·exact .const _
theorem zgo:∀(l:List AO) (st:St),Zbl fun O=>Zdu O T l st
 | [],st=>.const _
 | o::l,st=>by
  simp only[Zdu];exact(ztq T o st).bind fun s=>zgo l s
theorem ztr(op:AOp)(e:Env)(h:Heap)(older:List Heap):Zbl fun O=>opD O T op e h older:=by
 by_cases hap:∃z x0 y,op=.app z x0 y
 ·obtain⟨z,x0,y,rfl⟩:=hap;by_cases hc:x0=.c (.sl [] .nl)
  ·subst hc;exact .const _
  ·simp only[znx hc];exact .const _
 cases op<;>(try exact absurd ⟨_,_,_,rfl⟩ hap)<;>simp only[opD]<;>try exact .const _
 case call=>
  split
  ·exact .const _
  ·split
   ·exact(Zbl.call _ _ _).map _
   ·exact .const _
 case inv=>
  split
  ·split
   ·split
    ·exact .const _
    ·split
     ·exact(Zbl.call _ _ _).map _
     ·exact .const _
   ·exact .const _
  ·exact .const _
theorem zts(o:AO)(e:Env)(h:Heap)(older:List Heap):Zbl fun O=>qX O T o e h older:=by
 unfold qX;split
 ·exact(ztr T _ _ _ _).map _
 ·split
  ·split
   ·exact(ztr T _ _ _ _).map _
   ·exact .const _
  ·exact .const _
  ·exact .const _
theorem ztt(u:Nat)(ys:List AV):Zbl fun O=>Zfp O T u ys:=by
 unfold Zfp;split
 ·exact .const _
 ·split
  ·exact(Zbl.call _ _ _).map _
  ·exact .const _
theorem zfg:∀(l:List DO) (e:Env) (h:Heap) (clk:Nat) (older:List Heap) (pend:Zct),Zbl fun O=>Zb3 O T l e h clk older pend
 | [],e,h,clk,older,pend=>.const _
 | o::l,e,h,clk,older,pend=>by
  simp only[Zb3];split
  ·split
   ·refine Zbl.bind (.const _) fun q=>?_;split
    ·exact zfg l _ _ _ _ _
    ·exact .const _
   ·exact .const _
  ·split
   ·exact(zts T _ _ _ _).bind fun x=>zfg l _ _ _ _ _
   ·exact(ztt T _ _).bind fun x=>zfg l _ _ _ _ _
theorem zl3(tl:List AO):∀(l:List AO) (e:Env) (h:Heap) (clk:Nat),Zbl fun O=>Zdm O T tl l e h clk
 | [],e,h,clk=>zgo T tl _
 | o::l,e,h,clk=>by
  simp only[Zdm];exact(zts T _ _ _ _).bind fun x=>zl3 tl l _ _ _
theorem ztu(u:Nat)(xs:List AV)(d clk:Nat):Zbl fun O=>Ze9 O T u xs d clk:=by
 unfold Ze9;split
 ·exact .const _
 ·split
  ·exact .const _
  ·split
   ·refine(Zbl.call _ _ _).bind fun r=>?_;exact .const _
   ·exact .const _
theorem zdw(tl:List AO)(h0:Heap)(c0:Nat)(X:Heap):∀(l:List AO) (e:Env) (h:Heap) (clk:Nat),Zbl fun O=>Zbm O T tl h0 c0 X l e h clk
 | [],e,h,clk=>zgo T tl _
 | o::l,e,h,clk=>by
  simp only[Zbm];split
  ·split
   ·split
    all_goals
     refine Zbl.bind (.const _) fun q=>?_;split
     ·exact zdw tl h0 c0 X l _ _ _
     ·exact .const _
   ·exact .const _
  ·split
   ·split
    ·refine Zbl.bind (.const _) fun q=>?_;split
     ·exact zdw tl h0 c0 X l _ _ _
     ·exact .const _
    ·exact .const _
   split
   ·split
    ·refine(ztu T _ _ _ _).bind fun q=>?_;split
     ·exact zdw tl h0 c0 X l _ _ _
     ·exact .const _
    ·exact .const _
   ·refine(zts T _ _ _ _).bind fun x=>?_;split
    ·exact zdw tl h0 c0 X l _ _ _
    ·exact .const _
theorem zb7(k:Nat):∀(c:AX) (st:St),Zbl fun O=>evX O T k c st
 | .skip,st=>.const _
 | .reg l,st=>by simp only[evX];exact(zgo T l st).map _
 | .draw l,st=>by simp only[evX];exact(zfg T l _ _ _ _ _).map _
 | .drawT hd tl,st=>by simp only[evX];exact(zl3 T tl hd _ _ _).map _
 | .drawM hd tl,st=>by simp only[evX];exact(zdw T tl _ _ _ hd _ _ _).map _
 | .bad,st=>.const _
 | .prim f,st=>.const _
 | .seq a b,st=>by
  simp only[evX];refine(zb7 k a st).bind fun r=>?_;obtain⟨e,s⟩:=r;cases e
  ·exact zb7 k b s
  ·exact .const _
  ·exact .const _
  ·exact .const _
 | .cond c x y,st=>by
  simp only[evX];split
  ·split
   ·exact zb7 k x st
   ·exact zb7 k y st
  ·exact .const _
 | .block id c,st=>by simp only[evX];exact(zb7 k c st).bind fun r=>.const _
 | .loop c,st=>by simp only[evX];exact .loop _ _ _
 | .exit id,st=>.const _
 | .ret,st=>.const _
 | .note c g,st=>by simp only[evX];exact(zb7 k c st).bind fun r=>.const _
 | .pre g c,st=>by simp only[evX];exact Zbl.bind (.const _) fun s=>zb7 k c s
 | .scope c,st=>by simp only[evX];exact(zb7 k c st).bind fun r=>.const _
 | .label l,st=>.const _
 | .goto l,st=>.const _
 | .gsc l c r,st=>by
  simp only[evX];have key:∀n (f:Orc→Option (Ex×St)),Zbl f→Zbl fun O=>Zi9 (fun s=>evX O T k r s) l n (f O):=by
   intro n
   induction n with
   | zero=>intro f _;exact .const _
   | succ n ih=>
    intro f hf;simp only[Zi9];refine hf.bind fun x=>?_;obtain⟨e,s⟩:=x;cases e
    ·exact .const _
    ·exact .const _
    ·exact .const _
    ·rename_i j;simp only;split
     ·exact ih _ (zb7 k r s)
     ·exact .const _
  exact key _ _ (zb7 k c st)
 | .lp id g c g2,st=>by simp only[evX];exact Zbl.bind (.const _) fun s=>(Zbl.loop _ _ _).bind fun r=>.const _
theorem zcy(u:Nat)(xs:List AV)(hb:Heap):Zbl fun O=>(Zc2 T O).call u xs hb:=by
 simp only[Zc2];split
 ·exact .const _
 ·split
  ·exact .const _
  ·split
   ·exact(zb7 T _ _ _).bind fun r=>.const _
   ·exact .const _
theorem zcz(k:Nat)(c:AX)(st:St):Zbl fun O=>(Zc2 T O).loop k c st:=by
 simp only[Zc2];refine(zb7 T k c st).bind fun r=>?_;obtain⟨e,s⟩:=r;cases e
 ·exact .loop _ _ _
 ·exact .const _
 ·exact .const _
 ·exact .const _
theorem zhl:∀(n:Nat) (q:Qy),Holds (orcN T n) q→Holds (orcN T (n+1)) q
 | 0,q,h=>by cases q<;>cases h
 | n+1,.call u xs hb r,h=>by
  obtain⟨L,h1,h2⟩:=zcy T u xs hb _ r h;exact h2 _ fun q hq=>zhl n q (h1 q hq)
 | n+1,.loop k c st r,h=>by
  obtain⟨L,h1,h2⟩:=zcz T k c st _ r h;exact h2 _ fun q hq=>zhl n q (h1 q hq)
theorem zj9{n m:Nat}(h:n≤m)(q:Qy)(hq:Holds (orcN T n) q):Holds (orcN T m) q:=by
 induction h with
 | refl=>exact hq
 | step _ ih=>exact zhl T _ q ih
open Classical in
noncomputable def lim{α:Type}(f:Nat→Option α):Option α:=if h:∃n a,f n=some a then f (Classical.choose h) else none
theorem zpb{α:Type}{f:Nat→Option α}(hm:∀n m a,n≤m→f n=some a→f m=some a)(a:α):lim f=some a↔∃n,f n=some a:=by
 unfold lim;constructor
 ·intro h;split at h
  ·exact⟨_,h⟩
  ·cases h
 ·intro ⟨n,h⟩;have hex:∃n a,f n=some a:=⟨n,a,h⟩;rw[dif_pos hex];obtain⟨b,hb⟩:=Classical.choose_spec hex;have h1:=hm _ _ _ (Ydv n (Classical.choose hex)) h;have h2:=hm _ _ _ (Ydl n (Classical.choose hex)) hb;rw[hb,←h2,h1]
noncomputable def orc:Orc:=⟨fun u xs hb=>lim fun n=>(orcN T n).call u xs hb,fun k c st=>lim fun n=>(orcN T n).loop k c st⟩
theorem zb5(q:Qy):Holds (orc T) q↔∃n,Holds (orcN T n) q:=by
 cases q with
 | call u xs hb r=>exact zpb (fun n m a hnm h=>zj9 T hnm (.call u xs hb a) h) r
 | loop k c st r=>exact zpb (fun n m a hnm h=>zj9 T hnm (.loop k c st a) h) r
theorem ztv{L:List Qy}(h:∀q∈L,Holds (orc T) q):∃n,∀q∈L,Holds (orcN T n) q:=by
 induction L with
 | nil=>exact⟨0,by simp⟩
 | cons q L ih=>
  obtain⟨n,hn⟩:=ih fun q hq=>h q (Ys _ hq);obtain⟨m,hm⟩:=(zb5 T q).1 (h q Y9);refine⟨max n m,fun x hx=>?_⟩;rcases Yw.1 hx with rfl | hx
  ·exact zj9 T (Ydl _ _) _ hm
  ·exact zj9 T (Ydv _ _) _ (hn x hx)
theorem zka(u:Nat)(xs:List AV)(hb:Heap):(orc T).call u xs hb=(Zc2 T (orc T)).call u xs hb:=by
 apply Option.ext;intro r;constructor
 ·intro h;obtain⟨n,hn⟩:=(zb5 T (.call u xs hb r)).1 h;cases n with
  | zero=>cases hn
  | succ n=>
   obtain⟨L,h1,h2⟩:=zcy T u xs hb _ r hn;exact h2 _ fun q hq=>(zb5 T q).2 ⟨n,h1 q hq⟩
 ·intro h;obtain⟨L,h1,h2⟩:=zcy T u xs hb _ r h;obtain⟨n,hn⟩:=ztv T h1;exact(zb5 T (.call u xs hb r)).2 ⟨n+1,h2 _ hn⟩
theorem zxk(k:Nat)(c:AX)(st:St):(orc T).loop k c st=(Zc2 T (orc T)).loop k c st:=by
 apply Option.ext;intro r;constructor
 ·intro h;obtain⟨n,hn⟩:=(zb5 T (.loop k c st r)).1 h;cases n with
  | zero=>cases hn
  | succ n=>
   obtain⟨L,h1,h2⟩:=zcz T k c st _ r hn;exact h2 _ fun q hq=>(zb5 T q).2 ⟨n,h1 q hq⟩
 ·intro h;obtain⟨L,h1,h2⟩:=zcz T k c st _ r h;obtain⟨n,hn⟩:=ztv T h1;exact(zb5 T (.loop k c st r)).2 ⟨n+1,h2 _ hn⟩
end
noncomputable def Zb(T:Tbl)(u:Nat)(xs:List AV):Option AV:=((orc T).call u xs []).map (·.1)
noncomputable def Zbx(T:Tbl)(u:Nat)(xs:List AV)(hb:Heap):Option (AV×Heap):=(orc T).call u xs hb
noncomputable def Zic(T:Tbl)(k:Nat)(c:AX)(st:St):Option (Ex×St):=(orc T).loop k c st
theorem zn1{P:Program}{ν:Nat→FuncId}{T:Tbl}(hT:TOk P ν T)(hm:P.follows .mixedOrders=true){u:Nat}{af:AFx}{xs:List AV}{r:AV}(hu:T u=some af)(hl:af.lent=none)(h:Zb T u xs=some r):Zaq P (ν u) xs (·=r):=by
 obtain⟨⟨r',h'⟩,h1,rfl⟩:=map_some h;obtain⟨n,hn⟩:=(zb5 T (.call u xs [] (r',h'))).1 h1;exact(GoodO.orcN hT hm n).pure u af xs r' h' hu hl hn
end Go.Ab
end
section
namespace Go.Ab
open Go.RowKit
def u8(n:Nat):AV:=.i .u8 (n:Int)
def u32(n:Nat):AV:=.i .u32 (n:Int)
def u64(n:Nat):AV:=.i .u64 (n:Int)
@[simp] theorem zai7(k:IntKind)(n:Int):wkA (.i k n)=.i k n:=rfl
@[simp] theorem zago{h:Heap}(k:IntKind)(n:Int):Zbg h (.i k n)=some (.i k n):=rfl
@[simp] theorem zagp{h:Heap}(k:IntKind)(n:Int):Zb8 h (.i k n)=some (.i k n):=rfl
@[simp] theorem zai8{h:Heap}(k:IntKind)(n:Int):frz h (.i k n)=some (.i k n):=rfl
@[simp] theorem z5g(k:IntKind)(n:Int):Za5 (.i k n)=true:=rfl
@[simp] theorem z5h(k:IntKind)(n:Int):Za6 (.i k n)=true:=rfl
@[simp] theorem z80(k:IntKind)(n:Int):scalar (.i k n)=true:=rfl
@[simp] theorem zab6(k:IntKind)(n:Int):pureC (.i k n)=true:=rfl
@[simp] theorem zab7(k:IntKind)(n:Int):noRef (.i k n)=true:=rfl
@[simp] theorem zagq(k:IntKind)(n:Int):refs (.i k n)=[]:=rfl
@[simp] theorem zai9(k:IntKind)(n:Int):rfC (.i k n)=[]:=rfl
@[simp] theorem zaja(k:IntKind)(n:Int):rf1 (.i k n)=[]:=rfl
@[simp] theorem zajb(k:IntKind)(n:Int):rfA (.i k n)=[]:=rfl
@[simp] theorem zajc{σn:BId→BId}{σg:Nat→Nat}(k:IntKind)(n:Int):rlC σn σg (.i k n)=(.i k n):=rfl
@[simp] theorem zajd{σn:BId→BId}{σg:Nat→Nat}(k:IntKind)(n:Int):rl1 σn σg (.i k n)=(.i k n):=rfl
@[simp] theorem zaje{σn:BId→BId}{σg:Nat→Nat}(k:IntKind)(n:Int):rlA σn σg (.i k n)=(.i k n):=rfl
@[simp] theorem z81{h:Heap}(k:IntKind)(n:Int):Zbj h (.i k n)=true:=rfl
@[simp] theorem z82{h:Heap}(k:IntKind)(n:Int):Zbu h (.i k n)=true:=rfl
@[simp] theorem zab8{h:Heap}(k:IntKind)(n:Int):Zcm h (.i k n)=true:=rfl
@[simp] theorem z5i(k:IntKind)(n:Int):cellsOf (.i k n)=some [.i k n]:=rfl
@[simp] theorem zajf(t:Bool):wkA (.b t)=.b t:=rfl
@[simp] theorem zagr{h:Heap}(t:Bool):Zbg h (.b t)=some (.b t):=rfl
@[simp] theorem zags{h:Heap}(t:Bool):Zb8 h (.b t)=some (.b t):=rfl
@[simp] theorem zajg{h:Heap}(t:Bool):frz h (.b t)=some (.b t):=rfl
@[simp] theorem z5j(t:Bool):Za5 (.b t)=true:=rfl
@[simp] theorem z5k(t:Bool):Za6 (.b t)=true:=rfl
@[simp] theorem z83(t:Bool):scalar (.b t)=true:=rfl
@[simp] theorem zab9(t:Bool):pureC (.b t)=true:=rfl
@[simp] theorem zaca(t:Bool):noRef (.b t)=true:=rfl
@[simp] theorem zagt(t:Bool):refs (.b t)=[]:=rfl
@[simp] theorem zajh(t:Bool):rfC (.b t)=[]:=rfl
@[simp] theorem zaji(t:Bool):rf1 (.b t)=[]:=rfl
@[simp] theorem zajj(t:Bool):rfA (.b t)=[]:=rfl
@[simp] theorem zajk{σn:BId→BId}{σg:Nat→Nat}(t:Bool):rlC σn σg (.b t)=(.b t):=rfl
@[simp] theorem zajl{σn:BId→BId}{σg:Nat→Nat}(t:Bool):rl1 σn σg (.b t)=(.b t):=rfl
@[simp] theorem zajm{σn:BId→BId}{σg:Nat→Nat}(t:Bool):rlA σn σg (.b t)=(.b t):=rfl
@[simp] theorem z84{h:Heap}(t:Bool):Zbj h (.b t)=true:=rfl
@[simp] theorem z85{h:Heap}(t:Bool):Zbu h (.b t)=true:=rfl
@[simp] theorem zacb{h:Heap}(t:Bool):Zcm h (.b t)=true:=rfl
@[simp] theorem z5l(t:Bool):cellsOf (.b t)=some [.b t]:=rfl
@[simp] theorem zajn(l:List UInt8):wkA (.s l)=.s l:=rfl
@[simp] theorem zagu{h:Heap}(l:List UInt8):Zbg h (.s l)=some (.s l):=rfl
@[simp] theorem zagv{h:Heap}(l:List UInt8):Zb8 h (.s l)=some (.s l):=rfl
@[simp] theorem zajo{h:Heap}(l:List UInt8):frz h (.s l)=some (.s l):=rfl
@[simp] theorem z5m(l:List UInt8):Za5 (.s l)=true:=rfl
@[simp] theorem z5n(l:List UInt8):Za6 (.s l)=true:=rfl
@[simp] theorem z86(l:List UInt8):scalar (.s l)=true:=rfl
@[simp] theorem zacc(l:List UInt8):pureC (.s l)=true:=rfl
@[simp] theorem zacd(l:List UInt8):noRef (.s l)=true:=rfl
@[simp] theorem zagw(l:List UInt8):refs (.s l)=[]:=rfl
@[simp] theorem zajp(l:List UInt8):rfC (.s l)=[]:=rfl
@[simp] theorem zajq(l:List UInt8):rf1 (.s l)=[]:=rfl
@[simp] theorem zajr(l:List UInt8):rfA (.s l)=[]:=rfl
@[simp] theorem zajs{σn:BId→BId}{σg:Nat→Nat}(l:List UInt8):rlC σn σg (.s l)=(.s l):=rfl
@[simp] theorem zajt{σn:BId→BId}{σg:Nat→Nat}(l:List UInt8):rl1 σn σg (.s l)=(.s l):=rfl
@[simp] theorem zaju{σn:BId→BId}{σg:Nat→Nat}(l:List UInt8):rlA σn σg (.s l)=(.s l):=rfl
@[simp] theorem z87{h:Heap}(l:List UInt8):Zbj h (.s l)=true:=rfl
@[simp] theorem z88{h:Heap}(l:List UInt8):Zbu h (.s l)=true:=rfl
@[simp] theorem zace{h:Heap}(l:List UInt8):Zcm h (.s l)=true:=rfl
@[simp] theorem z5o(l:List UInt8):cellsOf (.s l)=some [.s l]:=rfl
@[simp] theorem zacf(v:Value):wkA (.raw v)=.raw v:=rfl
@[simp] theorem z89{h:Heap}(v:Value):Zbg h (.raw v)=some (.raw v):=rfl
@[simp] theorem z9a{h:Heap}(v:Value):Zb8 h (.raw v)=some (.raw v):=rfl
@[simp] theorem zacg{h:Heap}(v:Value):frz h (.raw v)=some (.raw v):=rfl
@[simp] theorem z0q(v:Value):Za5 (.raw v)=false:=rfl
@[simp] theorem z0r(v:Value):Za6 (.raw v)=false:=rfl
@[simp] theorem z3j(v:Value):scalar (.raw v)=false:=rfl
@[simp] theorem z5p(v:Value):pureC (.raw v)=true:=rfl
@[simp] theorem z5q(v:Value):noRef (.raw v)=true:=rfl
@[simp] theorem z9b(v:Value):refs (.raw v)=[]:=rfl
@[simp] theorem zach(v:Value):rfC (.raw v)=[]:=rfl
@[simp] theorem zaci(v:Value):rf1 (.raw v)=[]:=rfl
@[simp] theorem zacj(v:Value):rfA (.raw v)=[]:=rfl
@[simp] theorem zack{σn:BId→BId}{σg:Nat→Nat}(v:Value):rlC σn σg (.raw v)=(.raw v):=rfl
@[simp] theorem zacl{σn:BId→BId}{σg:Nat→Nat}(v:Value):rl1 σn σg (.raw v)=(.raw v):=rfl
@[simp] theorem zacm{σn:BId→BId}{σg:Nat→Nat}(v:Value):rlA σn σg (.raw v)=(.raw v):=rfl
@[simp] theorem z3k{h:Heap}(v:Value):Zbj h (.raw v)=true:=rfl
@[simp] theorem z3l{h:Heap}(v:Value):Zbu h (.raw v)=true:=rfl
@[simp] theorem z5r{h:Heap}(v:Value):Zcm h (.raw v)=true:=rfl
@[simp] theorem zacn{h:Heap}(els:List (List AV))(f:Fl):Zbg h (.sl els f)=some (.sl els f):=rfl
@[simp] theorem zaco{h:Heap}(els:List (List AV))(f:Fl):Zb8 h (.sl els f)=some (.sl els f):=rfl
@[simp] theorem zagx{h:Heap}(els:List (List AV))(f:Fl):frz h (.sl els f)=some (.sl els f):=rfl
@[simp] theorem z3m(els:List (List AV))(f:Fl):Za5 (.sl els f)=false:=rfl
@[simp] theorem z3n(els:List (List AV))(f:Fl):Za6 (.sl els f)=false:=rfl
@[simp] theorem z5s(els:List (List AV))(f:Fl):scalar (.sl els f)=false:=rfl
@[simp] theorem z9c(els:List (List AV))(f:Fl):pureC (.sl els f)=true:=rfl
@[simp] theorem z9d(els:List (List AV))(f:Fl):noRef (.sl els f)=true:=rfl
@[simp] theorem zacp(els:List (List AV))(f:Fl):refs (.sl els f)=[]:=rfl
@[simp] theorem zagy(els:List (List AV))(f:Fl):rfC (.sl els f)=[]:=rfl
@[simp] theorem zagz(els:List (List AV))(f:Fl):rf1 (.sl els f)=[]:=rfl
@[simp] theorem zag0(els:List (List AV))(f:Fl):rfA (.sl els f)=[]:=rfl
@[simp] theorem zag1{σn:BId→BId}{σg:Nat→Nat}(els:List (List AV))(f:Fl):rlC σn σg (.sl els f)=(.sl els f):=rfl
@[simp] theorem zag2{σn:BId→BId}{σg:Nat→Nat}(els:List (List AV))(f:Fl):rl1 σn σg (.sl els f)=(.sl els f):=rfl
@[simp] theorem zag3{σn:BId→BId}{σg:Nat→Nat}(els:List (List AV))(f:Fl):rlA σn σg (.sl els f)=(.sl els f):=rfl
@[simp] theorem z5t{h:Heap}(els:List (List AV))(f:Fl):Zbj h (.sl els f)=true:=rfl
@[simp] theorem z5u{h:Heap}(els:List (List AV))(f:Fl):Zbu h (.sl els f)=true:=rfl
@[simp] theorem z9e{h:Heap}(els:List (List AV))(f:Fl):Zcm h (.sl els f)=true:=rfl
@[simp] theorem z3o(els:List (List AV))(f:Fl):cellsOf (.sl els f)=some [.sl els f]:=rfl
@[simp] theorem zag4(cs:List AV)(o:Nat):wkA (.ep cs o)=.ep cs o:=rfl
@[simp] theorem zacq{h:Heap}(cs:List AV)(o:Nat):Zbg h (.ep cs o)=some (.ep cs o):=rfl
@[simp] theorem zacr{h:Heap}(cs:List AV)(o:Nat):Zb8 h (.ep cs o)=some (.ep cs o):=rfl
@[simp] theorem zag5{h:Heap}(cs:List AV)(o:Nat):frz h (.ep cs o)=some (.ep cs o):=rfl
@[simp] theorem z3p(cs:List AV)(o:Nat):Za5 (.ep cs o)=false:=rfl
@[simp] theorem z3q(cs:List AV)(o:Nat):Za6 (.ep cs o)=false:=rfl
@[simp] theorem z5v(cs:List AV)(o:Nat):scalar (.ep cs o)=false:=rfl
@[simp] theorem z9f(cs:List AV)(o:Nat):pureC (.ep cs o)=true:=rfl
@[simp] theorem z9g(cs:List AV)(o:Nat):noRef (.ep cs o)=true:=rfl
@[simp] theorem zacs(cs:List AV)(o:Nat):refs (.ep cs o)=[]:=rfl
@[simp] theorem zag6(cs:List AV)(o:Nat):rfC (.ep cs o)=[]:=rfl
@[simp] theorem zag7(cs:List AV)(o:Nat):rf1 (.ep cs o)=[]:=rfl
@[simp] theorem zag8(cs:List AV)(o:Nat):rfA (.ep cs o)=[]:=rfl
@[simp] theorem zag9{σn:BId→BId}{σg:Nat→Nat}(cs:List AV)(o:Nat):rlC σn σg (.ep cs o)=(.ep cs o):=rfl
@[simp] theorem zaha{σn:BId→BId}{σg:Nat→Nat}(cs:List AV)(o:Nat):rl1 σn σg (.ep cs o)=(.ep cs o):=rfl
@[simp] theorem zahb{σn:BId→BId}{σg:Nat→Nat}(cs:List AV)(o:Nat):rlA σn σg (.ep cs o)=(.ep cs o):=rfl
@[simp] theorem z5w{h:Heap}(cs:List AV)(o:Nat):Zbj h (.ep cs o)=true:=rfl
@[simp] theorem z5x{h:Heap}(cs:List AV)(o:Nat):Zbu h (.ep cs o)=true:=rfl
@[simp] theorem z9h{h:Heap}(cs:List AV)(o:Nat):Zcm h (.ep cs o)=true:=rfl
@[simp] theorem z3r(cs:List AV)(o:Nat):cellsOf (.ep cs o)=some [.ep cs o]:=rfl
@[simp] theorem zahc(n:Nat):wkA (u8 n)=u8 n:=rfl
@[simp] theorem zact{h:Heap}(n:Nat):Zbg h (u8 n)=some (u8 n):=rfl
@[simp] theorem zacu{h:Heap}(n:Nat):Zb8 h (u8 n)=some (u8 n):=rfl
@[simp] theorem zahd{h:Heap}(n:Nat):frz h (u8 n)=some (u8 n):=rfl
@[simp] theorem z3s(n:Nat):Za5 (u8 n)=true:=rfl
@[simp] theorem z3t(n:Nat):Za6 (u8 n)=true:=rfl
@[simp] theorem z5y(n:Nat):scalar (u8 n)=true:=rfl
@[simp] theorem z9i(n:Nat):pureC (u8 n)=true:=rfl
@[simp] theorem z9j(n:Nat):noRef (u8 n)=true:=rfl
@[simp] theorem zacv(n:Nat):refs (u8 n)=[]:=rfl
@[simp] theorem zahe(n:Nat):rfC (u8 n)=[]:=rfl
@[simp] theorem zahf(n:Nat):rf1 (u8 n)=[]:=rfl
@[simp] theorem zahg(n:Nat):rfA (u8 n)=[]:=rfl
@[simp] theorem zahh{σn:BId→BId}{σg:Nat→Nat}(n:Nat):rlC σn σg (u8 n)=(u8 n):=rfl
@[simp] theorem zahi{σn:BId→BId}{σg:Nat→Nat}(n:Nat):rl1 σn σg (u8 n)=(u8 n):=rfl
@[simp] theorem zahj{σn:BId→BId}{σg:Nat→Nat}(n:Nat):rlA σn σg (u8 n)=(u8 n):=rfl
@[simp] theorem z5z{h:Heap}(n:Nat):Zbj h (u8 n)=true:=rfl
@[simp] theorem z50{h:Heap}(n:Nat):Zbu h (u8 n)=true:=rfl
@[simp] theorem z9k{h:Heap}(n:Nat):Zcm h (u8 n)=true:=rfl
@[simp] theorem z3u(n:Nat):cellsOf (u8 n)=some [u8 n]:=rfl
@[simp] theorem zacw(n:Nat):wkA (u32 n)=u32 n:=rfl
@[simp] theorem z9l{h:Heap}(n:Nat):Zbg h (u32 n)=some (u32 n):=rfl
@[simp] theorem z9m{h:Heap}(n:Nat):Zb8 h (u32 n)=some (u32 n):=rfl
@[simp] theorem zacx{h:Heap}(n:Nat):frz h (u32 n)=some (u32 n):=rfl
@[simp] theorem z0s(n:Nat):Za5 (u32 n)=true:=rfl
@[simp] theorem z0t(n:Nat):Za6 (u32 n)=true:=rfl
@[simp] theorem z3v(n:Nat):scalar (u32 n)=true:=rfl
@[simp] theorem z52(n:Nat):pureC (u32 n)=true:=rfl
@[simp] theorem z53(n:Nat):noRef (u32 n)=true:=rfl
@[simp] theorem z9n(n:Nat):refs (u32 n)=[]:=rfl
@[simp] theorem zacy(n:Nat):rfC (u32 n)=[]:=rfl
@[simp] theorem zacz(n:Nat):rf1 (u32 n)=[]:=rfl
@[simp] theorem zac0(n:Nat):rfA (u32 n)=[]:=rfl
@[simp] theorem zac1{σn:BId→BId}{σg:Nat→Nat}(n:Nat):rlC σn σg (u32 n)=(u32 n):=rfl
@[simp] theorem zac2{σn:BId→BId}{σg:Nat→Nat}(n:Nat):rl1 σn σg (u32 n)=(u32 n):=rfl
@[simp] theorem zac3{σn:BId→BId}{σg:Nat→Nat}(n:Nat):rlA σn σg (u32 n)=(u32 n):=rfl
@[simp] theorem z3w{h:Heap}(n:Nat):Zbj h (u32 n)=true:=rfl
@[simp] theorem z3x{h:Heap}(n:Nat):Zbu h (u32 n)=true:=rfl
@[simp] theorem z54{h:Heap}(n:Nat):Zcm h (u32 n)=true:=rfl
@[simp] theorem z0u(n:Nat):cellsOf (u32 n)=some [u32 n]:=rfl
@[simp] theorem zac4(n:Nat):wkA (u64 n)=u64 n:=rfl
@[simp] theorem z9o{h:Heap}(n:Nat):Zbg h (u64 n)=some (u64 n):=rfl
@[simp] theorem z9p{h:Heap}(n:Nat):Zb8 h (u64 n)=some (u64 n):=rfl
@[simp] theorem zac5{h:Heap}(n:Nat):frz h (u64 n)=some (u64 n):=rfl
@[simp] theorem z0v(n:Nat):Za5 (u64 n)=true:=rfl
@[simp] theorem z0w(n:Nat):Za6 (u64 n)=true:=rfl
@[simp] theorem z3y(n:Nat):scalar (u64 n)=true:=rfl
@[simp] theorem z55(n:Nat):pureC (u64 n)=true:=rfl
@[simp] theorem z56(n:Nat):noRef (u64 n)=true:=rfl
@[simp] theorem z9q(n:Nat):refs (u64 n)=[]:=rfl
@[simp] theorem zac6(n:Nat):rfC (u64 n)=[]:=rfl
@[simp] theorem zac7(n:Nat):rf1 (u64 n)=[]:=rfl
@[simp] theorem zac8(n:Nat):rfA (u64 n)=[]:=rfl
@[simp] theorem zac9{σn:BId→BId}{σg:Nat→Nat}(n:Nat):rlC σn σg (u64 n)=(u64 n):=rfl
@[simp] theorem zada{σn:BId→BId}{σg:Nat→Nat}(n:Nat):rl1 σn σg (u64 n)=(u64 n):=rfl
@[simp] theorem zadb{σn:BId→BId}{σg:Nat→Nat}(n:Nat):rlA σn σg (u64 n)=(u64 n):=rfl
@[simp] theorem z3z{h:Heap}(n:Nat):Zbj h (u64 n)=true:=rfl
@[simp] theorem z30{h:Heap}(n:Nat):Zbu h (u64 n)=true:=rfl
@[simp] theorem z57{h:Heap}(n:Nat):Zcm h (u64 n)=true:=rfl
@[simp] theorem z0x(n:Nat):cellsOf (u64 n)=some [u64 n]:=rfl
@[simp] theorem z9r :wkA .dead=.dead:=rfl
@[simp] theorem z58{h:Heap} :Zbg h .dead=some .dead:=rfl
@[simp] theorem z6a{h:Heap} :Zb8 h .dead=some .dead:=rfl
@[simp] theorem z9s{h:Heap} :frz h .dead=some .dead:=rfl
@[simp] theorem zzm :Za5 .dead=false:=rfl
@[simp] theorem zzn :Za6 .dead=false:=rfl
@[simp] theorem z0y :scalar .dead=false:=rfl
@[simp] theorem z32 :pureC .dead=true:=rfl
@[simp] theorem z33 :noRef .dead=true:=rfl
@[simp] theorem z6b :refs .dead=[]:=rfl
@[simp] theorem z9t :rfC .dead=[]:=rfl
@[simp] theorem z9u :rf1 .dead=[]:=rfl
@[simp] theorem z9v :rfA .dead=[]:=rfl
@[simp] theorem z9w{σn:BId→BId}{σg:Nat→Nat} :rlC σn σg .dead=.dead:=rfl
@[simp] theorem z9x{σn:BId→BId}{σg:Nat→Nat} :rl1 σn σg .dead=.dead:=rfl
@[simp] theorem z9y{σn:BId→BId}{σg:Nat→Nat} :rlA σn σg .dead=.dead:=rfl
@[simp] theorem z0z{h:Heap} :Zbj h .dead=true:=rfl
@[simp] theorem z00{h:Heap} :Zbu h .dead=true:=rfl
@[simp] theorem z34{h:Heap} :Zcm h .dead=true:=rfl
@[simp] theorem zahk(els:List (List AV))(f:Fl):wkA (.sl els f)=.sl (wkL els) .an:=rfl
@[simp] theorem zadc(cs:List AV):wkA (.agg cs)=.agg (wkR cs):=rfl
@[simp] theorem zadd(cs:List AV):wkA (.tup cs)=.tup (wkR cs):=rfl
@[simp] theorem zahl(id:BId)(g z off n:Nat):wkA (.bs id g z off n)=.bs id g z off n:=rfl
@[simp] theorem zade(id:BId)(g z i o:Nat):wkA (.ptr id g z i o)=.ptr id g z i o:=rfl
@[simp] theorem zadf(f:Nat)(id:BId)(g z i o:Nat):wkA (.fnp f id g z i o)=.fnp f id g z i o:=rfl
@[simp] theorem zadg(f:Nat)(x:AV):wkA (.fnv f x)=.fnv f (wkA x):=rfl
@[simp] theorem zadh :wkR []=[]:=rfl
@[simp] theorem z9z(c:AV)(r:List AV):wkR (c::r)=wkA c::wkR r:=rfl
@[simp] theorem zadi :wkL []=[]:=rfl
@[simp] theorem zxl(c:List AV)(r:List (List AV)):wkL (c::r)=wkR c::wkL r:=rfl
@[simp] theorem zadj{h:Heap}(id:BId)(g z off n:Nat):Zb8 h (.bs id g z off n)=(Zal h id g z).bind fun bx=>if bx.kind≠.str∧off+n≤bx.els.length then some (.sl ((bx.els.drop off).take n) .an) else none:=rfl
@[simp] theorem z90{h:Heap}(id:BId)(g z i o:Nat):Zb8 h (.ptr id g z i o)=some .dead:=rfl
@[simp] theorem z91{h:Heap}(f:Nat)(id:BId)(g z i o:Nat):Zb8 h (.fnp f id g z i o)=some .dead:=rfl
@[simp] theorem z92{h:Heap}(f:Nat)(x:AV):Zb8 h (.fnv f x)=some (.fnv f x):=rfl
@[simp] theorem zadk{h:Heap}(id:BId)(g z off n:Nat):Zbg h (.bs id g z off n)=(Zal h id g z).bind fun bx=>if bx.kind≠.str∧off+n≤bx.els.length then some (.sl ((bx.els.drop off).take n) .an) else none:=rfl
@[simp] theorem z93{h:Heap}(id:BId)(g z i o:Nat):Zbg h (.ptr id g z i o)=some .dead:=rfl
@[simp] theorem z94{h:Heap}(f:Nat)(id:BId)(g z i o:Nat):Zbg h (.fnp f id g z i o)=some .dead:=rfl
@[simp] theorem z95{h:Heap}(f:Nat)(x:AV):Zbg h (.fnv f x)=some (.fnv f x):=rfl
@[simp] theorem zahm{h:Heap}(id:BId)(g z off n:Nat):frz h (.bs id g z off n)=(Zal h id g z).bind fun bx=>if bx.kind≠.str∧off+n≤bx.els.length then some (.sl ((bx.els.drop off).take n) .an) else none:=rfl
@[simp] theorem zadl{h:Heap}(id:BId)(g z i o:Nat):frz h (.ptr id g z i o)=some .dead:=rfl
@[simp] theorem zadm{h:Heap}(f:Nat)(id:BId)(g z i o:Nat):frz h (.fnp f id g z i o)=some .dead:=rfl
@[simp] theorem zadn{h:Heap}(f:Nat)(x:AV):frz h (.fnv f x)=some (.fnv f x):=rfl
@[simp] theorem z96{h:Heap}(cs:List AV):Zbg h (.agg cs)=(cs.mapM (Zb8 h)).map .agg:=rfl
@[simp] theorem zado{h:Heap}(cs:List AV):frz h (.agg cs)=(cs.mapM (Zb8 h)).map .agg:=rfl
@[simp] theorem zadp{h:Heap}(cs:List AV):frz h (.tup cs)=(cs.mapM (Zbg h)).map .tup:=rfl
@[simp] theorem z35(id:BId)(g z off n:Nat):Za5 (.bs id g z off n)=false:=rfl
@[simp] theorem z01(id:BId)(g z i o:Nat):Za5 (.ptr id g z i o)=false:=rfl
@[simp] theorem z02(f:Nat)(id:BId)(g z i o:Nat):Za5 (.fnp f id g z i o)=false:=rfl
@[simp] theorem z03(f:Nat)(x:AV):Za5 (.fnv f x)=false:=rfl
@[simp] theorem z36(id:BId)(g z off n:Nat):Za6 (.bs id g z off n)=false:=rfl
@[simp] theorem z04(id:BId)(g z i o:Nat):Za6 (.ptr id g z i o)=false:=rfl
@[simp] theorem z05(f:Nat)(id:BId)(g z i o:Nat):Za6 (.fnp f id g z i o)=false:=rfl
@[simp] theorem z06(f:Nat)(x:AV):Za6 (.fnv f x)=false:=rfl
@[simp] theorem z6c(id:BId)(g z off n:Nat):scalar (.bs id g z off n)=false:=rfl
@[simp] theorem z37(id:BId)(g z i o:Nat):scalar (.ptr id g z i o)=false:=rfl
@[simp] theorem z38(f:Nat)(id:BId)(g z i o:Nat):scalar (.fnp f id g z i o)=false:=rfl
@[simp] theorem z39(f:Nat)(x:AV):scalar (.fnv f x)=false:=rfl
@[simp] theorem z07(cs:List AV):Za6 (.agg cs)=cs.all Za5:=rfl
@[simp] theorem z4a(cs:List AV):scalar (.agg cs)=cs.all Za5:=rfl
@[simp] theorem z4b(cs:List AV):scalar (.tup cs)=cs.all Za6:=rfl
@[simp] theorem z97(id:BId)(g z off n:Nat):pureC (.bs id g z off n)=false:=rfl
@[simp] theorem z6d(id:BId)(g z i o:Nat):pureC (.ptr id g z i o)=false:=rfl
@[simp] theorem z6e(f:Nat)(id:BId)(g z i o:Nat):pureC (.fnp f id g z i o)=false:=rfl
@[simp] theorem z6f(f:Nat)(x:AV):pureC (.fnv f x)=true:=rfl
@[simp] theorem z6g(cs:List AV):pureC (.agg cs)=false:=rfl
@[simp] theorem z6h(cs:List AV):pureC (.tup cs)=false:=rfl
@[simp] theorem z98(id:BId)(g z off n:Nat):noRef (.bs id g z off n)=false:=rfl
@[simp] theorem z6i(id:BId)(g z i o:Nat):noRef (.ptr id g z i o)=false:=rfl
@[simp] theorem z6j(f:Nat)(id:BId)(g z i o:Nat):noRef (.fnp f id g z i o)=false:=rfl
@[simp] theorem z6k(f:Nat)(x:AV):noRef (.fnv f x)=true:=rfl
@[simp] theorem z6l(cs:List AV):noRef (.agg cs)=cs.all pureC:=rfl
@[simp] theorem z6m(cs:List AV):noRef (.tup cs)=false:=rfl
@[simp] theorem zadq(id:BId)(g z off n:Nat):refs (.bs id g z off n)=[id]:=rfl
@[simp] theorem z99(id:BId)(g z i o:Nat):refs (.ptr id g z i o)=[]:=rfl
@[simp] theorem zaaa(f:Nat)(id:BId)(g z i o:Nat):refs (.fnp f id g z i o)=[]:=rfl
@[simp] theorem zaab(f:Nat)(x:AV):refs (.fnv f x)=[]:=rfl
@[simp] theorem zahn(id:BId)(g z off n:Nat):rfC (.bs id g z off n)=[id]:=rfl
@[simp] theorem zadr(id:BId)(g z i o:Nat):rfC (.ptr id g z i o)=[id]:=rfl
@[simp] theorem zads(f:Nat)(id:BId)(g z i o:Nat):rfC (.fnp f id g z i o)=[id]:=rfl
@[simp] theorem zadt(f:Nat)(x:AV):rfC (.fnv f x)=[]:=rfl
@[simp] theorem zaho(id:BId)(g z off n:Nat):rf1 (.bs id g z off n)=[id]:=rfl
@[simp] theorem zadu(id:BId)(g z i o:Nat):rf1 (.ptr id g z i o)=[id]:=rfl
@[simp] theorem zadv(f:Nat)(id:BId)(g z i o:Nat):rf1 (.fnp f id g z i o)=[id]:=rfl
@[simp] theorem zadw(f:Nat)(x:AV):rf1 (.fnv f x)=[]:=rfl
@[simp] theorem zahp(id:BId)(g z off n:Nat):rfA (.bs id g z off n)=[id]:=rfl
@[simp] theorem zadx(id:BId)(g z i o:Nat):rfA (.ptr id g z i o)=[id]:=rfl
@[simp] theorem zady(f:Nat)(id:BId)(g z i o:Nat):rfA (.fnp f id g z i o)=[id]:=rfl
@[simp] theorem zadz(f:Nat)(x:AV):rfA (.fnv f x)=[]:=rfl
def Zfg:AV→List BId
 | .bs id .. => [id]
 | _=>[]
@[simp] theorem zad0(cs:List AV):rf1 (.agg cs)=cs.flatMap rfC:=rfl
@[simp] theorem zad1(cs:List AV):rfA (.agg cs)=cs.flatMap rfC:=rfl
@[simp] theorem zad2(cs:List AV):rfA (.tup cs)=cs.flatMap rf1:=rfl
@[simp] theorem zahq{σn:BId→BId}{σg:Nat→Nat}(id:BId)(g z off n:Nat):rlC σn σg (.bs id g z off n)=.bs (σn id) (σg g) z off n:=rfl
@[simp] theorem zad3{σn:BId→BId}{σg:Nat→Nat}(id:BId)(g z i o:Nat):rlC σn σg (.ptr id g z i o)=.ptr (σn id) (σg g) z i o:=rfl
@[simp] theorem zad4{σn:BId→BId}{σg:Nat→Nat}(f:Nat)(id:BId)(g z i o:Nat):rlC σn σg (.fnp f id g z i o)=.fnp f (σn id) (σg g) z i o:=rfl
@[simp] theorem zad5{σn:BId→BId}{σg:Nat→Nat}(f:Nat)(x:AV):rlC σn σg (.fnv f x)=.fnv f x:=rfl
@[simp] theorem zahr{σn:BId→BId}{σg:Nat→Nat}(id:BId)(g z off n:Nat):rl1 σn σg (.bs id g z off n)=.bs (σn id) (σg g) z off n:=rfl
@[simp] theorem zad6{σn:BId→BId}{σg:Nat→Nat}(id:BId)(g z i o:Nat):rl1 σn σg (.ptr id g z i o)=.ptr (σn id) (σg g) z i o:=rfl
@[simp] theorem zad7{σn:BId→BId}{σg:Nat→Nat}(f:Nat)(id:BId)(g z i o:Nat):rl1 σn σg (.fnp f id g z i o)=.fnp f (σn id) (σg g) z i o:=rfl
@[simp] theorem zad8{σn:BId→BId}{σg:Nat→Nat}(f:Nat)(x:AV):rl1 σn σg (.fnv f x)=.fnv f x:=rfl
@[simp] theorem zahs{σn:BId→BId}{σg:Nat→Nat}(id:BId)(g z off n:Nat):rlA σn σg (.bs id g z off n)=.bs (σn id) (σg g) z off n:=rfl
@[simp] theorem zad9{σn:BId→BId}{σg:Nat→Nat}(id:BId)(g z i o:Nat):rlA σn σg (.ptr id g z i o)=.ptr (σn id) (σg g) z i o:=rfl
@[simp] theorem zaea{σn:BId→BId}{σg:Nat→Nat}(f:Nat)(id:BId)(g z i o:Nat):rlA σn σg (.fnp f id g z i o)=.fnp f (σn id) (σg g) z i o:=rfl
@[simp] theorem zaeb{σn:BId→BId}{σg:Nat→Nat}(f:Nat)(x:AV):rlA σn σg (.fnv f x)=.fnv f x:=rfl
@[simp] theorem zaec{σn:BId→BId}{σg:Nat→Nat}(cs:List AV):rl1 σn σg (.agg cs)=.agg (cs.map (rlC σn σg)):=rfl
@[simp] theorem zaed{σn:BId→BId}{σg:Nat→Nat}(cs:List AV):rlA σn σg (.agg cs)=.agg (cs.map (rlC σn σg)):=rfl
@[simp] theorem zaee{σn:BId→BId}{σg:Nat→Nat}(cs:List AV):rlA σn σg (.tup cs)=.tup (cs.map (rl1 σn σg)):=rfl
@[simp] theorem z6n{h:Heap}(id:BId)(g z off n:Nat):Zbj h (.bs id g z off n)=(Zal h id g z).isSome:=rfl
@[simp] theorem z4c{h:Heap}(id:BId)(g z i o:Nat):Zbj h (.ptr id g z i o)=(Zal h id g z).isSome:=rfl
@[simp] theorem z4d{h:Heap}(f:Nat)(id:BId)(g z i o:Nat):Zbj h (.fnp f id g z i o)=(Zal h id g z).isSome:=rfl
@[simp] theorem z4e{h:Heap}(f:Nat)(x:AV):Zbj h (.fnv f x)=true:=rfl
@[simp] theorem z6o{h:Heap}(id:BId)(g z off n:Nat):Zbu h (.bs id g z off n)=(Zal h id g z).isSome:=rfl
@[simp] theorem z4f{h:Heap}(id:BId)(g z i o:Nat):Zbu h (.ptr id g z i o)=(Zal h id g z).isSome:=rfl
@[simp] theorem z4g{h:Heap}(f:Nat)(id:BId)(g z i o:Nat):Zbu h (.fnp f id g z i o)=(Zal h id g z).isSome:=rfl
@[simp] theorem z4h{h:Heap}(f:Nat)(x:AV):Zbu h (.fnv f x)=true:=rfl
@[simp] theorem zaac{h:Heap}(id:BId)(g z off n:Nat):Zcm h (.bs id g z off n)=(Zal h id g z).isSome:=rfl
@[simp] theorem z6p{h:Heap}(id:BId)(g z i o:Nat):Zcm h (.ptr id g z i o)=(Zal h id g z).isSome:=rfl
@[simp] theorem z6q{h:Heap}(f:Nat)(id:BId)(g z i o:Nat):Zcm h (.fnp f id g z i o)=(Zal h id g z).isSome:=rfl
@[simp] theorem z6r{h:Heap}(f:Nat)(x:AV):Zcm h (.fnv f x)=true:=rfl
@[simp] theorem z4i{h:Heap}(cs:List AV):Zbu h (.agg cs)=cs.all (Zbj h):=rfl
@[simp] theorem z6s{h:Heap}(cs:List AV):Zcm h (.agg cs)=cs.all (Zbj h):=rfl
@[simp] theorem z6t{h:Heap}(cs:List AV):Zcm h (.tup cs)=cs.all (Zbu h):=rfl
@[simp] theorem z4j(id:BId)(g z off n:Nat):cellsOf (.bs id g z off n)=some [.bs id g z off n]:=rfl
@[simp] theorem z08(id:BId)(g z i o:Nat):cellsOf (.ptr id g z i o)=some [.ptr id g z i o]:=rfl
@[simp] theorem z09(f:Nat)(id:BId)(g z i o:Nat):cellsOf (.fnp f id g z i o)=some [.fnp f id g z i o]:=rfl
@[simp] theorem z1a(f:Nat)(x:AV):cellsOf (.fnv f x)=some [.fnv f x]:=rfl
@[simp] theorem z1b(cs:List AV):cellsOf (.agg cs)=some cs:=rfl
@[simp] theorem zaht(k:IntKind)(n:Int):Zfg (.i k n)=[]:=rfl
@[simp] theorem zahu(t:Bool):Zfg (.b t)=[]:=rfl
@[simp] theorem zahv(l:List UInt8):Zfg (.s l)=[]:=rfl
@[simp] theorem zaad(v:Value):Zfg (.raw v)=[]:=rfl
@[simp] theorem zaef(els:List (List AV))(f:Fl):Zfg (.sl els f)=[]:=rfl
@[simp] theorem zaeg(cs:List AV)(o:Nat):Zfg (.ep cs o)=[]:=rfl
@[simp] theorem zaeh(n:Nat):Zfg (u8 n)=[]:=rfl
@[simp] theorem zaae(n:Nat):Zfg (u32 n)=[]:=rfl
@[simp] theorem zaaf(n:Nat):Zfg (u64 n)=[]:=rfl
@[simp] theorem z6u :Zfg .dead=[]:=rfl
@[simp] theorem zaei(id:BId)(g z off n:Nat):Zfg (.bs id g z off n)=[id]:=rfl
@[simp] theorem zaag(id:BId)(g z i o:Nat):Zfg (.ptr id g z i o)=[]:=rfl
@[simp] theorem zaah(f:Nat)(id:BId)(g z i o:Nat):Zfg (.fnp f id g z i o)=[]:=rfl
@[simp] theorem zaai(f:Nat)(x:AV):Zfg (.fnv f x)=[]:=rfl
@[simp] theorem zaaj(cs:List AV):refs (.agg cs)=cs.flatMap Zfg:=rfl
@[simp] theorem zzo:refs (.tup [])=[]:=rfl
@[simp] theorem zaak(h:Heap)(id:BId)(g z:Nat):Zal h id g z=(match h.lookup id with | some bx=>if bx.gen=g∧bx.z=z then some bx else none | none=>none):=rfl
@[simp] theorem z6v(x:AV):wkIf true x=x:=rfl
@[simp] theorem z4k(x:AV):wkIf false x=wkA x:=rfl
theorem zcs(n:Nat):IntKind.wrap .u32 (n:Int)=((n%4294967296:Nat):Int):=by
 simp[IntKind.wrap,IntKind.signed,IntKind.bits]
theorem zd9(n:Nat):IntKind.wrap .u64 (n:Int)=((n%18446744073709551616:Nat):Int):=by
 simp[IntKind.wrap,IntKind.signed,IntKind.bits]
theorem wrap_u8(n:Nat):IntKind.wrap .u8 (n:Int)=((n%256:Nat):Int):=by
 simp[IntKind.wrap,IntKind.signed,IntKind.bits]
def bX(o:Option (Ex×St))(f:St→Option (Ex×St)):Option (Ex×St):=o.bind fun r=>match r.1 with | .n=>f r.2 | _=>some r
def Zgw(id:Nat)(o:Option (Ex×St)):Option (Ex×St):=o.bind fun r=>match r.1 with | .x j=>if j=id then some (.n,r.2) else some r | _=>some r
def stX(o:Option St):Option (Ex×St):=o.map fun s=>(.n,s)
def bS(o:Option St)(f:St→Option St):Option St:=o.bind f
def cnX(v:AV)(x y:Option (Ex×St)):Option (Ex×St):=match v with | .b t=>if t then x else y | _=>none
def pS(o:Option AV)(d:Option Nat)(st:St):Option St:=o.map fun x=>⟨Zq st.env d x,st.heap,st.clk⟩
def pW(o:Option (AV×Heap×Nat))(d:Option Nat)(st:St):Option St:=o.map fun q=>⟨Zq st.env d q.1,q.2.1,q.2.2⟩
def pB(o:Option (AV×Heap))(d:Option Nat)(st:St):Option St:=o.map fun q=>⟨Zq st.env d q.1,q.2,st.clk⟩
def Zgx(res:List RV)(ex:Bool)(o:Option (Ex×St)):Option AV:=
 o.bind fun r=>match r.1 with | .x _=>none | .g _=>none | _=>(Zda r.2 res).bind fun x=>(frz r.2.heap x).map (wkIf ex)
def Zh1(res:List RV)(ex:Bool)(k:Nat)(o:Option (Ex×St)):Option (AV×Heap):=
 o.bind fun r=>match r.1 with | .x _=>none | .g _=>none | _=>(Zda r.2 res).map fun x=>let s:=Zdf ex k [0] ⟨[(0,x)],r.2.heap,r.2.clk⟩;(s.env.get 0,s.heap)
section
variable{o o':Option (Ex×St)}{f:St→Option (Ex×St)}{s:St}
@[congr] theorem zaal(h:o=o'):bX o f=bX o' f:=by rw[h]
@[congr] theorem zaam{o o':Option St}{f:St→Option St}(h:o=o'):bS o f=bS o' f:=by rw[h]
@[congr] theorem z6w{v v':AV}{x y:Option (Ex×St)}(h:v=v'):cnX v x y=cnX v' x y:=by rw[h]
@[simp] theorem bX_n:bX (some (.n,s)) f=f s:=rfl
@[simp] theorem bX_x(id:Nat):bX (some (.x id,s)) f=some (.x id,s):=rfl
@[simp] theorem bX_r:bX (some (.r,s)) f=some (.r,s):=rfl
@[simp] theorem zaej:bX none f=none:=rfl
@[simp] theorem zahw{c:Prop}[Decidable c]{a b:Option (Ex×St)}:bX (if c then a else b) f=if c then bX a f else bX b f:=by split<;>rfl
@[simp] theorem zaan(id:Nat){c:Prop}[Decidable c]{a b:Option (Ex×St)}:Zgw id (if c then a else b)=if c then Zgw id a else Zgw id b:=by split<;>rfl
@[simp] theorem zaao{res:List RV}{ex:Bool}{c:Prop}[Decidable c]{a b:Option (Ex×St)}:Zgx res ex (if c then a else b)=if c then Zgx res ex a else Zgx res ex b:=by split<;>rfl
@[simp] theorem zaap{res:List RV}{ex:Bool}{k:Nat}{c:Prop}[Decidable c]{a b:Option (Ex×St)}:Zh1 res ex k (if c then a else b)=if c then Zh1 res ex k a else Zh1 res ex k b:=by split<;>rfl
@[simp] theorem zahx(id:Nat):Zgw id (some (.n,s))=some (.n,s):=rfl
@[simp] theorem z6x(id j:Nat):Zgw id (some (.x j,s))=if j=id then some (.n,s) else some (.x j,s):=rfl
@[simp] theorem zahy(id:Nat):Zgw id (some (.r,s))=some (.r,s):=rfl
@[simp] theorem z6y(id:Nat):Zgw id none=none:=rfl
@[simp] theorem zaaq:stX (some s)=some (.n,s):=rfl
@[simp] theorem zaar:stX none=none:=rfl
@[simp] theorem zaek{f:St→Option St}:bS (some s) f=f s:=rfl
@[simp] theorem zael{f:St→Option St}:bS none f=none:=rfl
@[simp] theorem zajv{t:Bool}{x y:Option (Ex×St)}:cnX (.b t) x y=if t then x else y:=rfl
@[simp] theorem zaem{x:AV}{d:Option Nat}:pS (some x) d s=some ⟨Zq s.env d x,s.heap,s.clk⟩:=rfl
@[simp] theorem zaen{d:Option Nat}:pS none d s=none:=rfl
@[simp] theorem zaeo{x:AV}{h:Heap}{c:Nat}{d:Option Nat}:pW (some (x,h,c)) d s=some ⟨Zq s.env d x,h,c⟩:=rfl
@[simp] theorem zaep{d:Option Nat}:pW none d s=none:=rfl
@[simp] theorem zaeq{x:AV}{h:Heap}{d:Option Nat}:pB (some (x,h)) d s=some ⟨Zq s.env d x,h,s.clk⟩:=rfl
@[simp] theorem zaer{d:Option Nat}:pB none d s=none:=rfl
@[simp] theorem zahz{res:List RV}{ex:Bool}:Zgx res ex (some (.r,s))=(Zda s res).bind fun x=>(frz s.heap x).map (wkIf ex):=rfl
@[simp] theorem zah0{res:List RV}{ex:Bool}:Zgx res ex (some (.n,s))=(Zda s res).bind fun x=>(frz s.heap x).map (wkIf ex):=rfl
@[simp] theorem zah1{res:List RV}{ex:Bool}{k:Nat}:Zh1 res ex k (some (.r,s))=(Zda s res).map fun x=>((Zdf ex k [0] ⟨[(0,x)],s.heap,s.clk⟩).env.get 0,(Zdf ex k [0] ⟨[(0,x)],s.heap,s.clk⟩).heap):=rfl
@[simp] theorem zah2{res:List RV}{ex:Bool}{k:Nat}:Zh1 res ex k (some (.n,s))=(Zda s res).map fun x=>((Zdf ex k [0] ⟨[(0,x)],s.heap,s.clk⟩).env.get 0,(Zdf ex k [0] ⟨[(0,x)],s.heap,s.clk⟩).heap):=rfl
end
section
variable{T:Tbl}{k:Nat}{st:St}{d:Option Nat}
noncomputable abbrev X(T:Tbl)(k:Nat)(c:AX)(st:St):Option (Ex×St):=evX (orc T) T k c st
noncomputable abbrev R(T:Tbl)(l:List AO)(st:St):Option St:=Zdu (orc T) T l st
@[congr] theorem z6z{O:Orc}{c:AX}{st st':St}(h:st=st'):evX O T k c st=evX O T k c st':=by rw[h]
@[congr] theorem z60{O:Orc}{op:AOp}{d:Option Nat}{st st':St}(h:st=st'):opX O T op d st=opX O T op d st':=by rw[h]
@[simp] theorem zah3:evX (orc T) T k .skip st=some (.n,st):=rfl
@[simp] theorem zajw{l:List AO}:evX (orc T) T k (.reg l) st=stX (Zdu (orc T) T l st):=rfl
@[simp] theorem zah4{l:List DO}:evX (orc T) T k (.draw l) st=stX (Zb3 (orc T) T l st.env st.heap st.clk [] []):=rfl
@[simp] theorem zajx{a b:AX}:evX (orc T) T k (.seq a b) st=bX (evX (orc T) T k a st) fun s=>evX (orc T) T k b s:=rfl
@[simp] theorem zah5{c:Opd}{x y:AX}:evX (orc T) T k (.cond c x y) st=cnX (ev st.env.get c) (evX (orc T) T k x st) (evX (orc T) T k y st):=rfl
@[simp] theorem zaes{id:Nat}{c:AX}:evX (orc T) T k (.block id c) st=Zgw id (evX (orc T) T k c st):=rfl
@[simp] theorem zah6{c:AX}:evX (orc T) T k (.loop c) st=Zic T k c st:=rfl
def scX(o:Option (Ex×St)):Option (Ex×St):=o.bind fun r=>match r.1 with | .g _=>none | _=>some r
@[congr] theorem z61{o o':Option (Ex×St)}(h:o=o'):scX o=scX o':=by rw[h]
@[simp] theorem zajy{s:St}:scX (some (.n,s))=some (.n,s):=rfl
@[simp] theorem zajz{j:Nat}{s:St}:scX (some (.x j,s))=some (.x j,s):=rfl
@[simp] theorem zaj0{s:St}:scX (some (.r,s))=some (.r,s):=rfl
@[simp] theorem zaet{c:Prop}[Decidable c]{a b:Option (Ex×St)}:scX (if c then a else b)=if c then scX a else scX b:=by split<;>rfl
@[simp] theorem zaeu{c:AX}:evX (orc T) T k (.scope c) st=scX (evX (orc T) T k c st):=rfl
@[simp] theorem zaev{l:Nat}:evX (orc T) T k (.label l) st=some (.n,st):=rfl
@[simp] theorem zah7{l:Nat}:evX (orc T) T k (.goto l) st=some (.g l,st):=rfl
@[simp] theorem bX_g{l:Nat}{s:St}{f:St→Option (Ex×St)}:bX (some (.g l,s)) f=some (.g l,s):=rfl
@[simp] theorem zah8{id l:Nat}{s:St}:Zgw id (some (.g l,s))=some (.g l,s):=rfl
@[simp] theorem zah9{id:Nat}:evX (orc T) T k (.exit id) st=some (.x id,st):=rfl
@[simp] theorem zaj1:evX (orc T) T k .ret st=some (.r,st):=rfl
@[simp] theorem zaia{c:AX}{g:Gh}:evX (orc T) T k (.note c g) st=bX (evX (orc T) T k c st) fun s=>stX (ghS k g s):=rfl
def prX(o:Option St)(f:St→Option (Ex×St)):Option (Ex×St):=o.bind f
@[congr] theorem z62{o o':Option St}{f:St→Option (Ex×St)}(h:o=o'):prX o f=prX o' f:=by rw[h]
@[simp] theorem zaas{s:St}{f:St→Option (Ex×St)}:prX (some s) f=f s:=rfl
@[simp] theorem zaj2{c:AX}{g:Gh}:evX (orc T) T k (.pre g c) st=prX (ghS k g st) fun s=>evX (orc T) T k c s:=rfl
noncomputable def Zdj(k id:Nat)(g2:Gh)(o:Option (Ex×St)):Option (Ex×St):=bX (Zgw id o) fun s=>stX (ghS k g2 s)
noncomputable def Zn(T:Tbl)(k id:Nat)(g2:Gh)(c:AX)(st:St):Option (Ex×St):=Zdj k id g2 (Zic T k c st)
@[congr] theorem z1c{id:Nat}{g2:Gh}{c:AX}{st st':St}(h:st=st'):Zn T k id g2 c st=Zn T k id g2 c st':=by rw[h]
@[congr] theorem z4l{id:Nat}{g2:Gh}{o o':Option (Ex×St)}(h:o=o'):Zdj k id g2 o=Zdj k id g2 o':=by rw[h]
@[simp] theorem zaib{id j:Nat}{g2:Gh}{s:St}:Zdj k id g2 (some (.x j,s))=if j=id then stX (ghS k g2 s) else some (.x j,s):=by
 unfold Zdj;rw[z6x];split<;>simp
@[simp] theorem zaic{id:Nat}{g2:Gh}{s:St}:Zdj k id g2 (some (.r,s))=some (.r,s):=rfl
@[simp] theorem X_lp{id:Nat}{g g2:Gh}{c:AX}:evX (orc T) T k (.lp id g c g2) st=prX (ghS k g st) fun s=>Zn T k id g2 c s:=by
 simp only[evX,prX,Zn,Zdj,bX,Zgw,stX,Zic];cases ghS k g st with
 | none=>rfl
 | some s=>
  simp only[Yy];cases (orc T).loop k c s with
  | none=>rfl
  | some r=>
   obtain⟨e,s'⟩:=r;cases e with
   | n=>rfl
   | r=>rfl
   | g l=>rfl
   | x j=>
    simp only[Yy];split<;>rfl
def Zdk:Option (Ex×St)→Bool
 | some (.x _,_)=>true
 | some (.r,_)=>true
 | _=>false
@[simp] theorem zaid{j:Nat}{s:St}:Zdk (some (.x j,s))=true:=rfl
@[simp] theorem zaie{s:St}:Zdk (some (.r,s))=true:=rfl
@[simp] theorem zaat{c:Prop}[Decidable c]{a b:Option (Ex×St)}:Zdk (if c then a else b)=if c then Zdk a else Zdk b:=by split<;>rfl
@[congr] theorem z4m{o o':Option (Ex×St)}(h:o=o'):Zdk o=Zdk o':=by rw[h]
theorem zpc{c:AX}:Zic T k c st=bX (evX (orc T) T k c st) fun s=>Zic T k c s:=zxk T k c st
theorem zaq{α:Type}{id:Nat}{g2:Gh}{c:AX}(F:α→St)(I:α→Prop)(μ:α→Nat)(Q:Ex×St→Prop)
  (step:∀x,I x→(∃y,I y∧μ y<μ x∧evX (orc T) T k c (F x)=some (.n,F y))∨(∃r,Q r∧Zdk (evX (orc T) T k c (F x))=true∧Zdj k id g2 (evX (orc T) T k c (F x))=some r)) :
  ∀x,I x→∃r,Q r∧Zn T k id g2 c (F x)=some r:=by
 have key:∀n x,μ x=n→I x→∃r,Q r∧Zn T k id g2 c (F x)=some r:=by
  intro n
  induction n using Nat.strongRecOn with
  | _ n ih=>
   intro x hn hI;unfold Zn;rw[zpc];rcases step x hI with ⟨y,h1,h2,h3⟩ | ⟨r,h1,h2,h3⟩
   ·rw[h3,bX_n];exact ih (μ y) (hn▸h2) y rfl h1
   ·refine⟨r,h1,?_⟩;rw[←h3];generalize evX (orc T) T k c (F x)=o at h2 ⊢;cases o with
    | none=>cases h2
    | some q=>
     obtain⟨e,s⟩:=q;cases e
     ·cases h2
     ·rfl
     ·rfl
     ·cases h2
 exact fun x hI=>key _ x rfl hI
theorem zan{α:Type}{id:Nat}{g2:Gh}{c:AX}(F:α→St)(I:α→Prop)(μ:α→Nat)(G:α→Option (Ex×St))
  (step:∀x,I x→(∃y,I y∧μ y<μ x∧evX (orc T) T k c (F x)=some (.n,F y)∧G y=G x)∨(Zdk (evX (orc T) T k c (F x))=true∧Zdj k id g2 (evX (orc T) T k c (F x))=G x)) :
  ∀x,I x→Zn T k id g2 c (F x)=G x:=by
 have key:∀n x,μ x=n→I x→Zn T k id g2 c (F x)=G x:=by
  intro n
  induction n using Nat.strongRecOn with
  | _ n ih=>
   intro x hn hI;unfold Zn;rw[zpc];rcases step x hI with ⟨y,h1,h2,h3,h4⟩ | ⟨h2,h3⟩
   ·rw[h3,bX_n,←h4];exact ih (μ y) (hn▸h2) y rfl h1
   ·rw[←h3];generalize evX (orc T) T k c (F x)=o at h2 ⊢;cases o with
    | none=>cases h2
    | some q=>
     obtain⟨e,s⟩:=q;cases e
     ·cases h2
     ·rfl
     ·rfl
     ·cases h2
 exact fun x hI=>key _ x rfl hI
@[simp] theorem zaj3:Zdu (orc T) T [] st=some st:=rfl
@[simp] theorem zaif{d:Option Nat}{op:AOp}{l:List AO}:Zdu (orc T) T (⟨d,none,op⟩::l) st=bS (opX (orc T) T op d st) fun s=>Zdu (orc T) T l s:=rfl
noncomputable def gS(T:Tbl)(x:AV)(want:Bool)(op:AOp)(d:Option Nat)(st:St):Option St:=gX (orc T) T x want op d st
@[congr] theorem zaau{x x':AV}{want:Bool}{op:AOp}(h:x=x'):gS T x want op d st=gS T x' want op d st:=by rw[h]
@[simp] theorem zaew{d:Option Nat}{op:AOp}{l:List AO}{t:Nat}{w:Bool}:Zdu (orc T) T (⟨d,some (t,w),op⟩::l) st=bS (gS T (st.env.get t) w op d st) fun s=>Zdu (orc T) T l s:=rfl
@[simp] theorem gS_b{v want:Bool}{op:AOp}:gS T (.b v) want op d st=if v=want then opX (orc T) T op d st else some ⟨Zq st.env d (.tup []),st.heap,st.clk⟩:=rfl
@[simp] theorem zaig{vs:List AV}{want:Bool}{op:AOp}:gS T (.tup vs) want op d st=some ⟨Zq st.env d (.tup []),st.heap,st.clk⟩:=rfl
@[simp] theorem zaj4{x}:opX (orc T) T (.mov x) d st=some ⟨Zq st.env d (ev st.env.get x),st.heap,st.clk⟩:=rfl
@[simp] theorem zaih{c a b}:opX (orc T) T (.pick c a b) d st=pS (Zgf (ev st.env.get c) (ev st.env.get a) (ev st.env.get b)) d st:=rfl
@[simp] theorem zaex{zs ps}:opX (orc T) T (.build zs ps) d st=pS ((Zf5 zs (ps.map fun p=>(p.1,p.2.1,ev st.env.get p.2.2))).map .agg) d st:=rfl
@[simp] theorem zaii{n x}:opX (orc T) T (.load n x) d st=pS (Zeo n st.heap (ev st.env.get x)) d st:=rfl
@[simp] theorem zaj5{o x y}:opX (orc T) T (.bin o x y) d st=pS (Zad o (ev st.env.get x) (ev st.env.get y)) d st:=rfl
@[simp] theorem zaj6{g ls x y}:opX (orc T) T (.eqs g ls x y) d st=pS (Zhc g ls (ev st.env.get x) (ev st.env.get y)) d st:=rfl
@[simp] theorem zaey{g x}:opX (orc T) T (.eqnil g x) d st=pS (Zey g (ev st.env.get x)) d st:=rfl
@[simp] theorem zaj7{g x y}:opX (orc T) T (.eqb g x y) d st=pS (Zhd g (ev st.env.get x) (ev st.env.get y)) d st:=rfl
@[simp] theorem O_un{o x}:opX (orc T) T (.un o x) d st=pS (Zgg o (ev st.env.get x)) d st:=rfl
@[simp] theorem zaij{n x}:opX (orc T) T (.conv n x) d st=pS (Zb5 n (ev st.env.get x)) d st:=rfl
@[simp] theorem zaj8{z x lo hi mx}:opX (orc T) T (.slc z x lo hi mx) d st=pS (Zf6 z st.heap (ev st.env.get x) (evO st.env.get lo) (evO st.env.get hi) (evO st.env.get mx)) d st:=rfl
@[simp] theorem zaez{x lo hi}:opX (orc T) T (.slstr x lo hi) d st=pS (Zez (ev st.env.get x) (evO st.env.get lo) (evO st.env.get hi)) d st:=rfl
@[simp] theorem zaj9{o x}:opX (orc T) T (.fad o x) d st=pS (Zgh o st.heap (ev st.env.get x)) d st:=rfl
@[simp] theorem zaka{o n x}:opX (orc T) T (.fld o n x) d st=pS (Zhe o n (ev st.env.get x)) d st:=rfl
@[simp] theorem zakb{z x i}:opX (orc T) T (.iad z x i) d st=pS (Zgi z st.heap (ev st.env.get x) (ev st.env.get i)) d st:=rfl
@[simp] theorem zakc{z n x i}:opX (orc T) T (.iaa z n x i) d st=pS (Zgj z n st.heap (ev st.env.get x) (ev st.env.get i)) d st:=rfl
@[simp] theorem zakd{x i}:opX (orc T) T (.ixs x i) d st=pS (Zhf (ev st.env.get x) (ev st.env.get i)) d st:=rfl
@[simp] theorem zake{z l n x i}:opX (orc T) T (.ixa z l n x i) d st=pS (Ze7 z l n (ev st.env.get x) (ev st.env.get i)) d st:=rfl
@[simp] theorem zakf{x}:opX (orc T) T (.len x) d st=pS (Zgk st.heap (ev st.env.get x)) d st:=rfl
@[simp] theorem zaik{x}:opX (orc T) T (.lens x) d st=pS (Zfu (ev st.env.get x)) d st:=rfl
@[simp] theorem zail{n}:opX (orc T) T (.lenc n) d st=some ⟨Zq st.env d (.i .i64 n),st.heap,st.clk⟩:=rfl
@[simp] theorem O_mm{m xs}:opX (orc T) T (.mm m xs) d st=pS (Zjj m (xs.map (ev st.env.get))) d st:=rfl
@[simp] theorem zakg{x n}:opX (orc T) T (.ext x n) d st=pS (Zhg n (ev st.env.get x)) d st:=rfl
@[simp] theorem zaim{x}:opX (orc T) T (.nilc x) d st=pS (Zfb st.heap (ev st.env.get x)) d st:=rfl
@[simp] theorem zae0{zs}:opX (orc T) T (.alloc zs) d st=pW (Zea zs d st.heap st.clk) d st:=rfl
@[simp] theorem zae1{n x v}:opX (orc T) T (.store n x v) d st=pW ((Zc8 n st.heap (ev st.env.get x) (ev st.env.get v)).map fun h'=>(.tup [],h',st.clk)) d st:=rfl
@[simp] theorem zakh{z zs l c}:opX (orc T) T (.mks z zs l c) d st=pW (Zf8 z zs d st.heap st.clk (ev st.env.get l) (ev st.env.get c)) d st:=rfl
@[simp] theorem zaki{z x y}:opX (orc T) T (.app z x y) d st=pW (Zgo z d st.heap st.clk (ev st.env.get x) (ev st.env.get y)) d st:=rfl
@[simp] theorem zain{n xs}:opX (orc T) T (.xop (.box n) xs) d st=pW (Zbh (.box n) (xs.map (ev st.env.get)) d st.heap st.clk) d st:=rfl
@[simp] theorem zaio{xs}:opX (orc T) T (.xop .cpy xs) d st=pW (Zbh .cpy (xs.map (ev st.env.get)) d st.heap st.clk) d st:=rfl
@[simp] theorem zae2{xs}:opX (orc T) T (.xop .bstr xs) d st=pW (Zbh .bstr (xs.map (ev st.env.get)) d st.heap st.clk) d st:=rfl
@[simp] theorem zae3{n xs}:opX (orc T) T (.xop (.arsl n) xs) d st=pW (Zbh (.arsl n) (xs.map (ev st.env.get)) d st.heap st.clk) d st:=rfl
@[simp] theorem zae4{xs}:opX (orc T) T (.xop .apps xs) d st=pW (Zbh .apps (xs.map (ev st.env.get)) d st.heap st.clk) d st:=rfl
@[simp] theorem zaip{xs}:opX (orc T) T (.xop .bad xs) d st=pW (Zbh .bad (xs.map (ev st.env.get)) d st.heap st.clk) d st:=rfl
@[simp] theorem zakj{n xs}:opX (orc T) T (.xop (.mkf n) xs) d st=pW (Zbh (.mkf (Zt T n)) (xs.map (ev st.env.get)) d st.heap st.clk) d st:=rfl
@[simp] theorem zakk{n xs}:opX (orc T) T (.xop (.mkv n) xs) d st=pW (Zbh (.mkv (Zt T n)) (xs.map (ev st.env.get)) d st.heap st.clk) d st:=rfl
@[simp] theorem z4n{f:Nat}{x:AV}{dd:Option Nat}{h:Heap}{clk:Nat}:Zbh (.mkv f) [x] dd h clk=if noRef x=true then some (.fnv f x,h,clk) else none:=rfl
@[simp] theorem z4o{f:Nat}{id:BId}{g z i o:Nat}{dd:Option Nat}{h:Heap}{clk:Nat}:Zbh (.mkf f) [.ptr id g z i o] dd h clk=some (.fnp f id g z i o,h,clk):=rfl
@[simp] theorem zakl{z zs n ps}:opX (orc T) T (.bsl z zs n ps) d st=pB (Zd2 z zs n st.heap (ps.map fun p=>(p.1,ev st.env.get p.2))) d st:=rfl
@[simp] theorem zaiq{u args}:opX (orc T) T (.call u args) d st=Zd (orc T) T u (args.map (ev st.env.get)) d st:=rfl
def cR(r:Option AV)(xs:List AV)(d:Option Nat)(st:St):Option St:=
 r.map fun r=>⟨Zq st.env d r,if scalar r then st.heap else Zm (xs.flatMap refs) st.heap,st.clk⟩
@[congr] theorem zaav{r r':Option AV}{xs:List AV}(h:r=r'):cR r xs d st=cR r' xs d st:=by rw[h]
@[simp] theorem zae5{r:AV}{xs:List AV}:cR (some r) xs d st=some ⟨Zq st.env d r,if scalar r then st.heap else Zm (xs.flatMap refs) st.heap,st.clk⟩:=rfl
def bL(o:Option (List AV))(f:List AV→Option St):Option St:=o.bind f
@[congr] theorem zaaw{o o':Option (List AV)}{f:List AV→Option St}(h:o=o'):bL o f=bL o' f:=by rw[h]
@[simp] theorem zae6{xs:List AV}{f:List AV→Option St}:bL (some xs) f=f xs:=rfl
def Zja(h:Heap):List AV→Option (List AV)
 | []=>some []
 | x::l=>(Zbg h x).bind fun y=>(Zja h l).map fun ys=>y::ys
theorem ztw(h:Heap):∀l:List AV,l.mapM (Zbg h)=Zja h l
 | []=>rfl
 | x::l=>by simp only[Ycs,Zja,ztw h l,Ycn,Ydb,Option.map_eq_bind,Function.comp_def]
attribute [simp] Zja Zeb Za1 Zci
theorem zaa{u:Nat}{xs:List AV}{np nt:Nat}{res:List RV}{b:AX}{ex:Bool}(hT:T u=some ⟨np,nt,res,b,none,ex⟩) :
  Zd (orc T) T u xs d st=bL (Zja st.heap xs) fun ys=>cR (Zb T u (ys.map (wkIf ex))) xs d st:=by
 unfold Zd bL cR Zb;rw[hT];simp only[ztw];congr 1
 funext ys
 cases (orc T).call u (ys.map (wkIf ex)) []<;>rfl
theorem zac{u:Nat}{xs:List AV}{np nt:Nat}{res:List RV}{b:AX}{ex:Bool}(hT:T u=some ⟨np,nt,res,b,none,ex⟩)(hn:xs.length=np)(hp:b.isPrim=none:=by rfl) :
  Zb T u xs=Zgx res ex (evX (orc T) T 0 b ⟨Zch xs,[],1⟩):=by
 unfold Zb Zgx;rw[zka];simp only[Zc2,hT,hp];rw[if_pos ⟨hn,by simp⟩];simp only[Y1,Yah];cases evX (orc T) T 0 b ⟨Zch xs,[],1⟩ with
 | none=>rfl
 | some r=>
  obtain⟨e,s⟩:=r;cases e<;>simp only[Yy,Zjw,Yem]<;>(cases Zda s res<;>simp only[Option.bind_none,Yem,Yy]<;>cases frz s.heap _<;>rfl)
theorem zc5{u:Nat}{xs:List AV}{np nt:Nat}{res:List RV}{f:List AV→Option AV}{ex:Bool}(hT:T u=some ⟨np,nt,res,.prim f,none,ex⟩):Zb T u xs=f xs:=by
 unfold Zb;rw[zka];simp only[Zc2,hT,AX.isPrim];cases f xs<;>simp
theorem za4{u:Nat}{xs:List AV}{hb:Heap}{np nt:Nat}{res:List RV}{b:AX}{ms:List Bool}{ex:Bool}(hT:T u=some ⟨np,nt,res,b,some ms,ex⟩)(hn:xs.length=np)(hp:b.isPrim=none:=by rfl) :
  Zbx T u xs hb=Zh1 res ex hb.length (evX (orc T) T hb.length b ⟨Zch xs,hb,hb.length+1⟩):=by
 unfold Zbx Zh1;rw[zka];simp only[Zc2,hT,hp];rw[if_pos ⟨hn,by simp⟩];cases evX (orc T) T hb.length b ⟨Zch xs,hb,hb.length+1⟩ with
 | none=>rfl
 | some r=>
  obtain⟨e,s⟩:=r;cases e<;>simp only[Yy,Zjw]<;>(cases Zda s res<;>rfl)
def Zjy(l:List BId)(hp h1:Heap)(r:Option (AV×Heap))(d:Option Nat)(st:St):Option St:=
 r.bind fun r=>
  let hb':=r.2.map fun p=>(Za8 l (d.getD 0) p.1,Zar true (Za8 l (d.getD 0)) (Zbk hp st.clk) p.2)
  let r':=rlA (Za8 l (d.getD 0)) (Zbk hp st.clk) r.1
  if (hb'.map (·.1)).Nodup&&Zcm hb' r'&&Zgp hb' then
   some ⟨Zq st.env d r',hb'++(h1.filter fun p=>!(l.contains p.1 || (hb'.map (·.1)).contains p.1)),st.clk+r.2.length+2⟩
  else none
@[congr] theorem z4p{l:List BId}{hp h1:Heap}{r r':Option (AV×Heap)}(h:r=r'):Zjy l hp h1 r d st=Zjy l hp h1 r' d st:=by rw[h]
noncomputable def Zdp(ys:List AV)(h1:Heap)(l:List BId)(T:Tbl)(u:Nat)(ex:Bool)(d:Option Nat)(st:St):Option St:=
 if (Zd5 h1 l).map (·.1)=l∧l.Nodup then
  Zjy l (Zd5 h1 l) h1 (Zbx T u (ys.map fun y=>rlA (inN l) (inG (Zd5 h1 l)) (wkIf ex y)) ((Zd5 h1 l).map fun p=>(inN l p.1,Zar ex (inN l) (inG (Zd5 h1 l)) p.2))) d st
 else none
@[simp] theorem z63{l:List BId}{hp h1:Heap}{r:AV}{h2:Heap}:Zjy l hp h1 (some (r,h2)) d st =
  (if ((h2.map fun p=>(Za8 l (d.getD 0) p.1,Zar true (Za8 l (d.getD 0)) (Zbk hp st.clk) p.2)).map (·.1)).Nodup&&Zcm (h2.map fun p=>(Za8 l (d.getD 0) p.1,Zar true (Za8 l (d.getD 0)) (Zbk hp st.clk) p.2)) (rlA (Za8 l (d.getD 0)) (Zbk hp st.clk) r)&&Zgp (h2.map fun p=>(Za8 l (d.getD 0) p.1,Zar true (Za8 l (d.getD 0)) (Zbk hp st.clk) p.2)) then
   some ⟨Zq st.env d (rlA (Za8 l (d.getD 0)) (Zbk hp st.clk) r),(h2.map fun p=>(Za8 l (d.getD 0) p.1,Zar true (Za8 l (d.getD 0)) (Zbk hp st.clk) p.2))++(h1.filter fun p=>!(l.contains p.1 || ((h2.map fun p=>(Za8 l (d.getD 0) p.1,Zar true (Za8 l (d.getD 0)) (Zbk hp st.clk) p.2)).map (·.1)).contains p.1)),st.clk+h2.length+2⟩
  else none):=rfl
attribute [simp] Zdp Za8 Zbk inN inG Zer Zgp
theorem zav{u:Nat}{xs:List AV}{np nt:Nat}{res:List RV}{b:AX}{ms:List Bool}{ex:Bool}(hT:T u=some ⟨np,nt,res,b,some ms,ex⟩) :
  Zd (orc T) T u xs d st=bL (Zeb st.heap ms xs) fun ys=>Zdp ys (Zm (Za1 ms xs) st.heap) (Zcy (Zm (Za1 ms xs) st.heap) 40 (Zci ms xs) []) T u ex d st:=by
 unfold Zd bL Zdp Zjy Zbx;rw[hT]
def bD(o:Option (AV×Bool))(f:AV×Bool→Option St):Option St:=o.bind f
@[congr] theorem zaax{o o':Option (AV×Bool)}{f:AV×Bool→Option St}(h:o=o'):bD o f=bD o' f:=by rw[h]
@[simp] theorem zae7{e:AV×Bool}{f:AV×Bool→Option St}:bD (some e) f=f e:=rfl
def bWr(o:Option (AV×Heap×Nat))(f:AV×Heap×Nat→Option St):Option St:=o.bind f
@[congr] theorem z64{o o':Option (AV×Heap×Nat)}{f:AV×Heap×Nat→Option St}(h:o=o'):bWr o f=bWr o' f:=by rw[h]
@[simp] theorem zaay{q:AV×Heap×Nat}{f:AV×Heap×Nat→Option St}:bWr (some q) f=f q:=rfl
def iP(b:Bool)(x:Option St):Option St:=if b then x else none
@[congr] theorem zaaz{b b':Bool}{x:Option St}(h:b=b'):iP b x=iP b' x:=by rw[h]
@[simp] theorem zae8{x:Option St}:iP true x=x:=rfl
@[simp] theorem z4q{h:Heap}:Zc5 [] h=true:=by
 classical
 unfold Zc5;exact decide_eq_true fun p hp=>by cases hp
@[simp] theorem z1d{q:AOp×Env×AV}{l:Zct}{h:Heap}:Zc5 ((0,q)::l) h=Zc5 l h:=by
 classical
 unfold Zc5;refine decide_eq_decide.2 ⟨fun h1 p hp=>h1 p (Ys _ hp),fun h1 p hp h0=>?_⟩;rcases Yw.1 hp with rfl | hp
 ·cases h0
 ·exact h1 p hp h0
@[simp] theorem zhm{n:Nat}{op:AOp}{e:Env}{x:AV}{l:Zct}{h:Heap}(hs:Zgu op e.get h=some x):Zc5 ((n,op,e,x)::l) h=Zc5 l h:=by
 classical
 unfold Zc5;refine decide_eq_decide.2 ⟨fun h1 p hp=>h1 p (Ys _ hp),fun h1 p hp h0=>?_⟩;rcases Yw.1 hp with rfl | hp
 ·exact hs
 ·exact h1 p hp h0
theorem zqs{op:AOp}{e:Env}{older:List Heap}{x:AV}(hf:op.free=true):Zeg op e older x=true:=by unfold Zeg;rw[hf];rfl
theorem ztx{op:AOp}{e:Env}{x:AV}:Zeg op e [] x=true:=by
 classical
 unfold Zeg;rw[Yav];exact .inr (decide_eq_true fun h' hh=>by cases hh)
theorem zqt{op:AOp}{e:Env}{h:Heap}{older:List Heap}{x:AV}(h1:Zh op e.get h=some x):Zeg op e (h::older) x=Zeg op e older x:=by
 classical
 unfold Zeg;congr 1;refine decide_eq_decide.2 ?_;simp only[Yw,forall_eq_or_imp,h1,true_and]
noncomputable def rD(T:Tbl)(q:Option (Nat×List AV))(o:DO)(r:List DO)(e:Env)(h:Heap)(clk:Nat)(older:List Heap)(pend:Zct):Option St:=
 match q with
 | none=>bD (qX (orc T) T o.ao e h (older.take (older.length-o.lo))) fun x=>Zb3 (orc T) T r (Zq e o.ao.dst x.1) h clk older (Ze0 o older.length e x pend)
 | some p=>(Zfp (orc T) T p.1 p.2).bind fun x=>Zb3 (orc T) T r (Zq e o.ao.dst x) h clk older (if older.length<o.hi then (o.hi-older.length,o.ao.op,e,.tup p.2)::pend else pend)
@[simp] theorem zae9{o:DO}{r:List DO}{e:Env}{h:Heap}{clk:Nat}{older:List Heap}{pend:Zct}:rD T none o r e h clk older pend=bD (qX (orc T) T o.ao e h (older.take (older.length-o.lo))) fun x=>Zb3 (orc T) T r (Zq e o.ao.dst x.1) h clk older (Ze0 o older.length e x pend):=rfl
noncomputable def bAV(o:Option AV)(f:AV→Option St):Option St:=o.bind f
@[simp] theorem zaa0{x:AV}{f:AV→Option St}:bAV (some x) f=f x:=rfl
@[simp] theorem zafa{u:Nat}{ys:List AV}{o:DO}{r:List DO}{e:Env}{h:Heap}{clk:Nat}{older:List Heap}{pend:Zct}:rD T (some (u,ys)) o r e h clk older pend=bAV (Zfp (orc T) T u ys) fun x=>Zb3 (orc T) T r (Zq e o.ao.dst x) h clk older (if older.length<o.hi then (o.hi-older.length,o.ao.op,e,.tup ys)::pend else pend):=rfl
open Classical in
noncomputable def rK(u:Nat)(xs ys:List AV)(older:List Heap):Option (Nat×List AV):=if decide (∀h'∈older,Zb2 h' xs=some ys)=true then some (u,ys) else none
@[simp] theorem zafb{g:Option (Nat×Bool)}{e:Env}{h:Heap}{older:List Heap}:Zgt g none e h older=none:=by cases g<;>rfl
@[simp] theorem zafc{g:Nat×Bool}{c:Option (Nat×List Opd)}{e:Env}{h:Heap}{older:List Heap}:Zgt (some g) c e h older=none:=by cases c<;>rfl
noncomputable def rC(c:Bool)(u:Nat)(xs:List AV)(h:Heap)(older:List Heap):Option (Nat×List AV):=
 match c with
 | true=>none
 | false=>(Zb2 h xs).bind fun ys=>rK u xs ys older
@[congr] theorem zaa1{c c':Bool}{u:Nat}{xs:List AV}{h:Heap}{older:List Heap}(h1:c=c'):rC c u xs h older=rC c' u xs h older:=by rw[h1]
@[simp] theorem zafd{u:Nat}{xs:List AV}{h:Heap}{older:List Heap}:rC true u xs h older=none:=rfl
@[simp] theorem zaa2{u:Nat}{xs:List AV}{h:Heap}{older:List Heap}:rC false u xs h older=(Zb2 h xs).bind fun ys=>rK u xs ys older:=rfl
@[simp] theorem z65{q:Nat×List Opd}{e:Env}{h:Heap}{older:List Heap}:Zgt none (some q) e h older=rC ((q.2.map (ev e.get)).all noRef) q.1 (q.2.map (ev e.get)) h older:=by
 classical
 unfold Zgt Zju rC;cases hc:(q.2.map (ev e.get)).all noRef with
 | true=>simp only[hc,if_true,Yem]
 | false=>
  simp only[hc,Yz,if_false];cases Zb2 h (q.2.map (ev e.get)) with
  | none=>rfl
  | some ys=>
   simp only[Yy,rK];split<;>rfl
noncomputable def dX(T:Tbl)(wr:Bool)(o:DO)(r:List DO)(e:Env)(h:Heap)(clk:Nat)(older:List Heap)(pend:Zct):Option St:=
 match wr with
 | true=>if o.ao.guard.isNone then bWr (stepW o.ao.op o.ao.dst e.get h clk) fun q=>iP (Zc5 pend q.2.1) (Zb3 (orc T) T r (Zq e o.ao.dst q.1) q.2.1 q.2.2 (h::older) (pend.map fun p=>(p.1-1,p.2))) else none
 | false=>rD T (Zgt o.ao.guard o.ao.op.callN e h (older.take (older.length-o.lo))) o r e h clk older pend
@[congr] theorem z1e{l:List DO}{e e':Env}{h h':Heap}{clk clk':Nat}{older older':List Heap}{pend pend':Zct}(h1:e=e')(h2:h=h')(h3:clk=clk')(h4:older=older')(h5:pend=pend'):Zb3 (orc T) T l e h clk older pend=Zb3 (orc T) T l e' h' clk' older' pend':=by rw[h1,h2,h3,h4,h5]
@[simp] theorem z66{e:Env}{h:Heap}{clk:Nat}{older:List Heap}{pend:Zct}:Zb3 (orc T) T [] e h clk older pend=some ⟨e,h,clk⟩:=rfl
@[simp] theorem z4r{o:DO}{r:List DO}{e:Env}{h:Heap}{clk:Nat}{older:List Heap}{pend:Zct}:Zb3 (orc T) T (o::r) e h clk older pend=dX T o.ao.op.writes o r e h clk older pend:=by
 unfold dX;rw[Zb3];cases o.ao.op.writes with
 | true=>rfl
 | false=>
  unfold rD;simp only;cases Zgt o.ao.guard o.ao.op.callN e h (older.take (older.length-o.lo))<;>rfl
@[simp] theorem zafe{o:DO}{r:List DO}{e:Env}{h:Heap}{clk:Nat}{older:List Heap}{pend:Zct}:dX T true o r e h clk older pend=if o.ao.guard.isNone then bWr (stepW o.ao.op o.ao.dst e.get h clk) fun q=>iP (Zc5 pend q.2.1) (Zb3 (orc T) T r (Zq e o.ao.dst q.1) q.2.1 q.2.2 (h::older) (pend.map fun p=>(p.1-1,p.2))) else none:=rfl
@[simp] theorem zaa3{o:DO}{r:List DO}{e:Env}{h:Heap}{clk:Nat}{older:List Heap}{pend:Zct}:dX T false o r e h clk older pend=rD T (Zgt o.ao.guard o.ao.op.callN e h (older.take (older.length-o.lo))) o r e h clk older pend:=rfl
def dV(o:Option AV):Option (AV×Bool):=o.map fun x=>(x,true)
@[simp] theorem zaff{x:AV}:dV (some x)=some (x,true):=rfl
@[simp] theorem zafg:dV none=none:=rfl
@[simp] theorem zafh{op:AOp}{e:Env}{h:Heap}{older:List Heap}:qX (orc T) T ⟨d,none,op⟩ e h older=dV (opD (orc T) T op e h older):=rfl
noncomputable def gD(T:Tbl)(x:AV)(want:Bool)(op:AOp)(e:Env)(h:Heap)(older:List Heap):Option (AV×Bool):=
 match x with
 | .b v=>if v=want then dV (opD (orc T) T op e h older) else some (.tup [],false)
 | .tup []=>some (.tup [],false)
 | _=>none
@[congr] theorem zaa4{x x':AV}{want:Bool}{op:AOp}{e:Env}{h:Heap}{older:List Heap}(h1:x=x'):gD T x want op e h older=gD T x' want op e h older:=by rw[h1]
@[simp] theorem zafi{t:Nat}{want:Bool}{op:AOp}{e:Env}{h:Heap}{older:List Heap}:qX (orc T) T ⟨d,some (t,want),op⟩ e h older=gD T (e.get t) want op e h older:=rfl
@[simp] theorem gD_b{v want:Bool}{op:AOp}{e:Env}{h:Heap}{older:List Heap}:gD T (.b v) want op e h older=if v=want then dV (opD (orc T) T op e h older) else some (.tup [],false):=rfl
@[simp] theorem zair{want:Bool}{op:AOp}{e:Env}{h:Heap}{older:List Heap}:gD T (.tup []) want op e h older=some (.tup [],false):=rfl
noncomputable def dC(o:Option AV)(op:AOp)(older:List Heap)(e:Env):Option AV:=o.bind fun x=>if Zeg op e older x then some x else none
@[congr] theorem zaa5{o o':Option AV}{op:AOp}{older:List Heap}{e:Env}(h1:o=o'):dC o op older e=dC o' op older e:=by rw[h1]
@[simp] theorem zais{x:AV}{op:AOp}{e:Env}:dC (some x) op [] e=some x:=by
 unfold dC;rw[Yy,ztx]
 rfl
theorem z1f{x:AV}{op:AOp}{h:Heap}{older:List Heap}{e:Env}(h1:Zh op e.get h=some x):dC (some x) op (h::older) e=dC (some x) op older e:=by
 unfold dC;rw[Yy,Yy,zqt h1]
theorem zbm{op:AOp}{h:Heap}{older:List Heap}{e:Env}(hf:op.free=true):((Zh op e.get h).bind fun x=>if Zeg op e older x then some x else none)=Zh op e.get h:=by
 cases Zh op e.get h with
 | none=>rfl
 | some x=>rw[Yy,zqs hf];rfl
@[simp] theorem zakm{x}{e:Env}{h:Heap}{older:List Heap}:opD (orc T) T (.mov x) e h older=some (ev e.get x):=zbm (op:=.mov x) (h:=h) (older:=older) (e:=e) rfl
@[simp] theorem zakn{z y}{e:Env}{h:Heap}{older:List Heap}:opD (orc T) T (.app z (.c (.sl [] .nl)) y) e h older=Zf7 z (ev e.get y):=rfl
@[simp] theorem zaa6{z:Nat}{els:List (List AV)}{f:Fl}:Zf7 z (.sl els f)=if (els.head?.all fun r=>r.length=z)∧els.length≤4294967296 then some (.sl els .an) else none:=rfl
@[simp] theorem zzp{z n y}:(AOp.app z (.t n) y).writes=true:=rfl
@[simp] theorem z4s{z n y}:(AOp.app z (.t n) y).free=false:=rfl
@[simp] theorem z1g{z n y}:(AOp.app z (.t n) y).maker=true:=rfl
@[simp] theorem z4t{z y}:(AOp.app z (.c (.sl [] .nl)) y).writes=false:=rfl
@[simp] theorem zaa7{z y}:(AOp.app z (.c (.sl [] .nl)) y).free=true:=rfl
@[simp] theorem z67{z y}:(AOp.app z (.c (.sl [] .nl)) y).maker=false:=rfl
@[simp] theorem zait{c a b}{e:Env}{h:Heap}{older:List Heap}:opD (orc T) T (.pick c a b) e h older=Zgf (ev e.get c) (ev e.get a) (ev e.get b):=zbm (op:=.pick c a b) (h:=h) (older:=older) (e:=e) rfl
@[simp] theorem zafj{zs ps}{e:Env}{h:Heap}{older:List Heap}:opD (orc T) T (.build zs ps) e h older=(Zf5 zs (ps.map fun p=>(p.1,p.2.1,ev e.get p.2.2))).map .agg:=zbm (op:=.build zs ps) (h:=h) (older:=older) (e:=e) rfl
@[simp] theorem zako{o x y}{e:Env}{h:Heap}{older:List Heap}:opD (orc T) T (.bin o x y) e h older=Zad o (ev e.get x) (ev e.get y):=zbm (op:=.bin o x y) (h:=h) (older:=older) (e:=e) rfl
@[simp] theorem zakp{g ls x y}{e:Env}{h:Heap}{older:List Heap}:opD (orc T) T (.eqs g ls x y) e h older=Zhc g ls (ev e.get x) (ev e.get y):=zbm (op:=.eqs g ls x y) (h:=h) (older:=older) (e:=e) rfl
@[simp] theorem zafk{g x}{e:Env}{h:Heap}{older:List Heap}:opD (orc T) T (.eqnil g x) e h older=Zey g (ev e.get x):=zbm (op:=.eqnil g x) (h:=h) (older:=older) (e:=e) rfl
@[simp] theorem zakq{g x y}{e:Env}{h:Heap}{older:List Heap}:opD (orc T) T (.eqb g x y) e h older=Zhd g (ev e.get x) (ev e.get y):=zbm (op:=.eqb g x y) (h:=h) (older:=older) (e:=e) rfl
@[simp] theorem D_un{o x}{e:Env}{h:Heap}{older:List Heap}:opD (orc T) T (.un o x) e h older=Zgg o (ev e.get x):=zbm (op:=.un o x) (h:=h) (older:=older) (e:=e) rfl
@[simp] theorem zaiu{k x}{e:Env}{h:Heap}{older:List Heap}:opD (orc T) T (.conv k x) e h older=Zb5 k (ev e.get x):=zbm (op:=.conv k x) (h:=h) (older:=older) (e:=e) rfl
@[simp] theorem zafl{x lo hi}{e:Env}{h:Heap}{older:List Heap}:opD (orc T) T (.slstr x lo hi) e h older=Zez (ev e.get x) (evO e.get lo) (evO e.get hi):=zbm (op:=.slstr x lo hi) (h:=h) (older:=older) (e:=e) rfl
@[simp] theorem zakr{o n x}{e:Env}{h:Heap}{older:List Heap}:opD (orc T) T (.fld o n x) e h older=Zhe o n (ev e.get x):=zbm (op:=.fld o n x) (h:=h) (older:=older) (e:=e) rfl
@[simp] theorem zaks{x i}{e:Env}{h:Heap}{older:List Heap}:opD (orc T) T (.ixs x i) e h older=Zhf (ev e.get x) (ev e.get i):=zbm (op:=.ixs x i) (h:=h) (older:=older) (e:=e) rfl
@[simp] theorem zakt{z l n x i}{e:Env}{h:Heap}{older:List Heap}:opD (orc T) T (.ixa z l n x i) e h older=Ze7 z l n (ev e.get x) (ev e.get i):=zbm (op:=.ixa z l n x i) (h:=h) (older:=older) (e:=e) rfl
@[simp] theorem zaiv{x}{e:Env}{h:Heap}{older:List Heap}:opD (orc T) T (.lens x) e h older=Zfu (ev e.get x):=zbm (op:=.lens x) (h:=h) (older:=older) (e:=e) rfl
@[simp] theorem zaiw{n}{e:Env}{h:Heap}{older:List Heap}:opD (orc T) T (.lenc n) e h older=some (.i .i64 n):=zbm (op:=.lenc n) (h:=h) (older:=older) (e:=e) rfl
@[simp] theorem D_mm{m xs}{e:Env}{h:Heap}{older:List Heap}:opD (orc T) T (.mm m xs) e h older=Zjj m (xs.map (ev e.get)):=zbm (op:=.mm m xs) (h:=h) (older:=older) (e:=e) rfl
@[simp] theorem zaku{x n}{e:Env}{h:Heap}{older:List Heap}:opD (orc T) T (.ext x n) e h older=Zhg n (ev e.get x):=zbm (op:=.ext x n) (h:=h) (older:=older) (e:=e) rfl
@[simp] theorem zaix{n x}{e:Env}{h:Heap}{older:List Heap}:opD (orc T) T (.load n x) e h older=dC (Zeo n h (ev e.get x)) (.load n x) older e:=rfl
@[simp] theorem zakv{z x lo hi mx}{e:Env}{h:Heap}{older:List Heap}:opD (orc T) T (.slc z x lo hi mx) e h older=dC (Zf6 z h (ev e.get x) (evO e.get lo) (evO e.get hi) (evO e.get mx)) (.slc z x lo hi mx) older e:=rfl
@[simp] theorem zakw{o x}{e:Env}{h:Heap}{older:List Heap}:opD (orc T) T (.fad o x) e h older=dC (Zgh o h (ev e.get x)) (.fad o x) older e:=rfl
@[simp] theorem zakx{z x i}{e:Env}{h:Heap}{older:List Heap}:opD (orc T) T (.iad z x i) e h older=dC (Zgi z h (ev e.get x) (ev e.get i)) (.iad z x i) older e:=rfl
@[simp] theorem zaky{z n x i}{e:Env}{h:Heap}{older:List Heap}:opD (orc T) T (.iaa z n x i) e h older=dC (Zgj z n h (ev e.get x) (ev e.get i)) (.iaa z n x i) older e:=rfl
@[simp] theorem zakz{x}{e:Env}{h:Heap}{older:List Heap}:opD (orc T) T (.len x) e h older=dC (Zgk h (ev e.get x)) (.len x) older e:=rfl
@[simp] theorem zaiy{x}{e:Env}{h:Heap}{older:List Heap}:opD (orc T) T (.nilc x) e h older=dC (Zfb h (ev e.get x)) (.nilc x) older e:=rfl
def dR(r:Option AV)(xs:List AV):Option AV:=if xs.all noRef then r else none
@[congr] theorem zaa8{r r':Option AV}{xs:List AV}(h1:r=r'):dR r xs=dR r' xs:=by rw[h1]
@[simp] theorem zafm{r:AV}{xs:List AV}:dR (some r) xs=if xs.all noRef then some r else none:=rfl
theorem zao{u:Nat}{args:List Opd}{np nt:Nat}{res:List RV}{b:AX}{ex:Bool}{e:Env}{h:Heap}{older:List Heap}(hT:T u=some ⟨np,nt,res,b,none,ex⟩) :
  opD (orc T) T (.call u args) e h older=dR (Zb T u ((args.map (ev e.get)).map (wkIf ex))) (args.map (ev e.get)):=by
 unfold dR Zb;simp only[opD,hT,Option.isNone_none,Yev]
@[simp] theorem zak0{z zs n ps}{e:Env}{h:Heap}{older:List Heap}:opD (orc T) T (.bsl z zs n ps) e h older=if (ps.map fun p=>(p.1,ev e.get p.2)).all (fun p=>noRef p.2) then (Zd2 z zs n [] (ps.map fun p=>(p.1,ev e.get p.2))).map (·.1) else none:=rfl
@[congr] theorem z1h{tl l:List AO}{e e':Env}{h h':Heap}{clk clk':Nat}(h1:e=e')(h2:h=h')(h3:clk=clk'):Zdm (orc T) T tl l e h clk=Zdm (orc T) T tl l e' h' clk':=by rw[h1,h2,h3]
@[simp] theorem z68{tl:List AO}{e:Env}{h:Heap}{clk:Nat}:Zdm (orc T) T tl [] e h clk=Zdu (orc T) T tl ⟨e,h,clk⟩:=rfl
@[simp] theorem z4u{tl r:List AO}{o:AO}{e:Env}{h:Heap}{clk:Nat}:Zdm (orc T) T tl (o::r) e h clk=bD (qX (orc T) T o e h []) fun x=>Zdm (orc T) T tl r (Zq e o.dst x.1) h clk:=rfl
@[simp] theorem z69{tl:List AO}{h0:Heap}{c0:Nat}{X:Heap}{e:Env}{h:Heap}{clk:Nat}:Zbm (orc T) T tl h0 c0 X [] e h clk=Zdu (orc T) T tl ⟨e,h,clk⟩:=rfl
noncomputable def kM(T:Tbl)(tl:List AO)(h0:Heap)(c0:Nat)(X:Heap)(op:AOp)(d:Nat)(r:List AO)(e:Env)(h:Heap)(q:Option (AV×Heap×Nat)):Option St:=
 q.bind fun q=>if ((h.lookup (.loc d)).isNone&&Zhz c0 op e q.2.1)=true then Zbm (orc T) T tl h0 c0 X r (Zq e (some d) q.1) (q.2.1++h) q.2.2 else none
@[simp] theorem zafn{tl:List AO}{h0:Heap}{c0:Nat}{X:Heap}{op:AOp}{d:Nat}{r:List AO}{e:Env}{h:Heap}{q:AV×Heap×Nat}:kM T tl h0 c0 X op d r e h (some q)=if ((h.lookup (.loc d)).isNone&&Zhz c0 op e q.2.1)=true then Zbm (orc T) T tl h0 c0 X r (Zq e (some d) q.1) (q.2.1++h) q.2.2 else none:=rfl
noncomputable def kN(T:Tbl)(tl:List AO)(h0:Heap)(c0:Nat)(X:Heap)(op:AOp)(d:Nat)(r:List AO)(e:Env)(h:Heap)(q:Option (AV×Heap×Nat)):Option St:=
 q.bind fun q=>if Zhz c0 op e (q.2.1.take 1)=true then Zbm (orc T) T tl h0 c0 X r (Zq e (some d) q.1) (q.2.1.take 1++h) q.2.2 else none
@[simp] theorem zafo{tl:List AO}{h0:Heap}{c0:Nat}{X:Heap}{op:AOp}{d:Nat}{r:List AO}{e:Env}{h:Heap}{q:AV×Heap×Nat}:kN T tl h0 c0 X op d r e h (some q)=if Zhz c0 op e (q.2.1.take 1)=true then Zbm (orc T) T tl h0 c0 X r (Zq e (some d) q.1) (q.2.1.take 1++h) q.2.2 else none:=rfl
noncomputable def uX(T:Tbl)(w:Option (BId×Box))(tl:List AO)(h0:Heap)(c0:Nat)(X:Heap)(op:AOp)(d:Nat)(r:List AO)(e:Env)(h:Heap)(clk:Nat):Option St:=
 match w with
 | none=>kM T tl h0 c0 X op d r e h (stepW op (some d) e.get [] clk)
 | some p=>kN T tl h0 c0 X op d r e h (stepW op (some d) e.get [p] clk)
@[simp] theorem zafp{tl:List AO}{h0:Heap}{c0:Nat}{X:Heap}{op:AOp}{d:Nat}{r:List AO}{e:Env}{h:Heap}{clk:Nat}:uX T none tl h0 c0 X op d r e h clk=kM T tl h0 c0 X op d r e h (stepW op (some d) e.get [] clk):=rfl
@[simp] theorem zafq{tl:List AO}{h0:Heap}{c0:Nat}{X:Heap}{op:AOp}{d:Nat}{r:List AO}{e:Env}{h:Heap}{clk:Nat}{p:BId×Box}:uX T (some p) tl h0 c0 X op d r e h clk=kN T tl h0 c0 X op d r e h (stepW op (some d) e.get [p] clk):=rfl
@[simp] theorem z4v{c0:Nat}{h0 X h:Heap}{zs:List AV}{e:Env}:Zh0 c0 h0 X h (.alloc zs) e=none:=rfl
@[simp] theorem zaa9{c0:Nat}{h0 X h:Heap}{z:Nat}{zs:List AV}{l c:Opd}{e:Env}:Zh0 c0 h0 X h (.mks z zs l c) e=none:=rfl
@[simp] theorem zaba{c0:Nat}{h0 X h:Heap}{k:XOp}{xs:List Opd}{e:Env}:Zh0 c0 h0 X h (.xop k xs) e=none:=rfl
@[simp] theorem zabb{c0:Nat}{h0 X h:Heap}{z:Nat}{x y:Opd}{e:Env}:Zh0 c0 h0 X h (.app z x y) e=Zi8 c0 h0 X h (ev e.get x):=rfl
@[simp] theorem zafr{c0:Nat}{h0 X h:Heap}{l:List (List AV)}{f:Fl}:Zi8 c0 h0 X h (.sl l f)=none:=rfl
@[simp] theorem zafs{c0:Nat}{h0 X h:Heap}{b:BId}{g z o n:Nat}:Zi8 c0 h0 X h (.bs b g z o n)=Zjv c0 (h0.lookup b) (X.lookup b) b (h.lookup b):=rfl
@[simp] theorem z7a{c0:Nat}{b:BId}{x o:Box}:Zjv c0 none (some x) b (some o)=if o.gen<c0 then some (b,o) else none:=rfl
attribute [simp] Zla
@[simp] theorem z7b{e:Env}:Zes [] e=[]:=rfl
@[simp] theorem z4w{o:AO}{r:List AO}{e:Env}:Zes (o::r) e=match o.op with | .mov x=>Zes r (Zq e o.dst (ev e.get x)) | .app _ x _=>Zla (ev e.get x)++Zes r (Zq e o.dst .dead) | _=>Zes r (Zq e o.dst .dead):=rfl
@[simp] theorem z1i{h:Heap}:Ze1 [] h=h:=rfl
@[simp] theorem zzq{b:BId}{ids:List BId}{h:Heap}:Ze1 (b::ids) h=h.filter fun p=>!(b::ids).contains p.1:=rfl
noncomputable def kB(T:Tbl)(tl:List AO)(h0:Heap)(c0:Nat)(X:Heap)(d:Nat)(r:List AO)(e:Env)(h:Heap)(q:Option (AV×Heap×Nat)):Option St:=
 q.bind fun q=>if q.2.1.all (fun p=>(h.lookup p.1).isNone)=true then Zbm (orc T) T tl h0 c0 X r (Zq e (some d) q.1) (q.2.1++h) q.2.2 else none
@[simp] theorem zaft{tl:List AO}{h0:Heap}{c0:Nat}{X:Heap}{d:Nat}{r:List AO}{e:Env}{h:Heap}{q:AV×Heap×Nat}:kB T tl h0 c0 X d r e h (some q)=if q.2.1.all (fun p=>(h.lookup p.1).isNone)=true then Zbm (orc T) T tl h0 c0 X r (Zq e (some d) q.1) (q.2.1++h) q.2.2 else none:=rfl
noncomputable def lX(T:Tbl)(b:Option (Nat×List Opd))(tl:List AO)(h0:Heap)(c0:Nat)(X:Heap)(o:AO)(r:List AO)(e:Env)(h:Heap)(clk:Nat):Option St:=
 match b with
 | some ua=>
  match o.guard,o.dst with
  | none,some d=>kB T tl h0 c0 X d r e h (Ze9 (orc T) T ua.1 (ua.2.map (ev e.get)) d clk)
  | _,_=>none
 | none=>bD (qX (orc T) T o e h0 []) fun x=>if Zgv c0 o.op e (gnA x.1)=true then Zbm (orc T) T tl h0 c0 X r (Zq e o.dst x.1) h clk else none
@[simp] theorem zafu{tl r:List AO}{h0:Heap}{c0:Nat}{X:Heap}{op:AOp}{dd u:Nat}{args:List Opd}{e:Env}{h:Heap}{clk:Nat}:lX T (some (u,args)) tl h0 c0 X ⟨some dd,none,op⟩ r e h clk=kB T tl h0 c0 X dd r e h (Ze9 (orc T) T u (args.map (ev e.get)) dd clk):=rfl
@[simp] theorem zafv{tl r:List AO}{h0:Heap}{c0:Nat}{X:Heap}{o:AO}{e:Env}{h:Heap}{clk:Nat}:lX T none tl h0 c0 X o r e h clk=bD (qX (orc T) T o e h0 []) fun x=>if Zgv c0 o.op e (gnA x.1)=true then Zbm (orc T) T tl h0 c0 X r (Zq e o.dst x.1) h clk else none:=rfl
noncomputable def tX(T:Tbl)(tl:List AO)(h0:Heap)(c0:Nat)(X:Heap)(r:List AO)(b:Bool)(e:Env)(q:Option Heap)(clk:Nat):Option St:=
 q.bind fun h=>if b=true then Zbm (orc T) T tl h0 c0 X r e h clk else none
@[simp] theorem zafw{tl:List AO}{h0:Heap}{c0:Nat}{X:Heap}{r:List AO}{e:Env}{h:Heap}{clk:Nat}:tX T tl h0 c0 X r true e (some h) clk=Zbm (orc T) T tl h0 c0 X r e h clk:=rfl
noncomputable def sX(T:Tbl)(b:Bool)(tl:List AO)(h0:Heap)(c0:Nat)(X:Heap)(o:AO)(r:List AO)(e:Env)(h:Heap)(clk:Nat):Option St:=
 match b with
 | true=>
  match o.guard,o.dst with
  | none,none=>(stepW o.op none e.get h clk).bind fun q=>if Zfy X o.op e=true then Zbm (orc T) T tl h0 c0 X r e q.2.1 q.2.2 else none
  | _,_=>none
 | false=>lX T o.op.lentN tl h0 c0 X o r e h clk
@[simp] theorem zafx{tl r:List AO}{h0:Heap}{c0:Nat}{X:Heap}{n:Nat}{x v:Opd}{e:Env}{h:Heap}{clk:Nat}:sX T true tl h0 c0 X ⟨none,none,.store n x v⟩ r e h clk=tX T tl h0 c0 X r (Zfy X (.store n x v) e) e (Zc8 n h (ev e.get x) (ev e.get v)) clk:=by
 unfold sX tX;simp only[stepW];cases Zc8 n h (ev e.get x) (ev e.get v)<;>rfl
@[simp] theorem zabc{tl r:List AO}{h0:Heap}{c0:Nat}{X:Heap}{o:AO}{e:Env}{h:Heap}{clk:Nat}:sX T false tl h0 c0 X o r e h clk=lX T o.op.lentN tl h0 c0 X o r e h clk:=rfl
noncomputable def Zlb(r:Option (AV×Heap))(d clk:Nat):Option (AV×Heap×Nat):=
 r.bind fun r=>
  let hb':=r.2.map fun p=>(Za8 [] d p.1,Zar true (Za8 [] d) (Zbk [] clk) p.2)
  let r':=rlA (Za8 [] d) (Zbk [] clk) r.1
  if (hb'.map (·.1)).Nodup∧geB clk (gnA r')=true∧geH clk hb'=true then some (r',hb',clk+(r.2.length+2)) else none
@[simp] theorem z1j{r:AV×Heap}{dd clk:Nat}:Zlb (some r) dd clk=if ((r.2.map fun p=>(Za8 [] dd p.1,Zar true (Za8 [] dd) (Zbk [] clk) p.2)).map (·.1)).Nodup∧geB clk (gnA (rlA (Za8 [] dd) (Zbk [] clk) r.1))=true∧geH clk (r.2.map fun p=>(Za8 [] dd p.1,Zar true (Za8 [] dd) (Zbk [] clk) p.2))=true then some (rlA (Za8 [] dd) (Zbk [] clk) r.1,r.2.map fun p=>(Za8 [] dd p.1,Zar true (Za8 [] dd) (Zbk [] clk) p.2),clk+(r.2.length+2)) else none:=rfl
noncomputable def mX(T:Tbl)(b:Bool)(tl:List AO)(h0:Heap)(c0:Nat)(X:Heap)(o:AO)(r:List AO)(e:Env)(h:Heap)(clk:Nat):Option St:=
 match b with
 | true=>
  match o.guard,o.dst with
  | none,some d=>uX T (Zh0 c0 h0 X h o.op e) tl h0 c0 X o.op d r e h clk
  | _,_=>none
 | false=>sX T o.op.isStore tl h0 c0 X o r e h clk
@[simp] theorem z4x{tl r:List AO}{h0:Heap}{c0:Nat}{X:Heap}{o:AO}{e:Env}{h:Heap}{clk:Nat}:Zbm (orc T) T tl h0 c0 X (o::r) e h clk=mX T (AOp.maker o.op) tl h0 c0 X o r e h clk:=by
 unfold mX;simp only[Zbm];cases AOp.maker o.op with
 | false=>
  unfold sX;simp only;cases AOp.isStore o.op with
  | true=>
   obtain⟨dd,g,op⟩:=o;cases g<;>cases dd<;>rfl
  | false=>
   unfold lX;simp only;cases AOp.lentN o.op with
   | none=>rfl
   | some ua=>
    obtain⟨dd,g,op⟩:=o;cases g<;>cases dd<;>rfl
 | true=>
  obtain⟨dd,g,op⟩:=o;cases g<;>cases dd<;>rfl
@[simp] theorem zafy{tl r:List AO}{h0:Heap}{c0:Nat}{X:Heap}{op:AOp}{dd:Nat}{e:Env}{h:Heap}{clk:Nat}:mX T true tl h0 c0 X ⟨some dd,none,op⟩ r e h clk=uX T (Zh0 c0 h0 X h op e) tl h0 c0 X op dd r e h clk:=rfl
@[simp] theorem zabd{tl r:List AO}{h0:Heap}{c0:Nat}{X:Heap}{o:AO}{e:Env}{h:Heap}{clk:Nat}:mX T false tl h0 c0 X o r e h clk=sX T o.op.isStore tl h0 c0 X o r e h clk:=rfl
@[simp] theorem zafz{hd tl:List AO}:evX (orc T) T k (.drawM hd tl) st=stX (Zbm (orc T) T tl (Ze1 (Zes hd st.env) st.heap) st.clk st.heap hd st.env st.heap st.clk):=rfl
@[simp] theorem zak1{n x}:opX (orc T) T (.ifc n x) d st=some ⟨Zq st.env d (.ifc (Zt T n) (ev st.env.get x)),st.heap,st.clk⟩:=rfl
noncomputable def iS(T:Tbl)(x:AV)(nm:String)(n u:Nat)(args:List AV)(d:Option Nat)(st:St):Option St:=
 match x with
 | .ifc t y=>if t=Zt T n∧(nm,u)∈Zcp T n then Zd (orc T) T u (y::args) d st else none
 | .fnv f x=>if nm="()"∧f=Zt T n∧Zg9 T n=some u then Zd (orc T) T u (x::args) d st else none
 | .fnp f id g z i o=>if nm="()"∧f=Zt T n∧Zg9 T n=some u then Zd (orc T) T u (args++[.ptr id g z i o]) d st else none
 | _=>none
@[simp] theorem zak2{nm n u r args}:opX (orc T) T (.inv nm n u r args) d st=iS T (ev st.env.get r) nm n u (args.map (ev st.env.get)) d st:=by
 simp only[opX];cases ev st.env.get r<;>rfl
@[simp] theorem zak3{n x}{e:Env}{h:Heap}{older:List Heap}:opD (orc T) T (.ifc n x) e h older=some (.ifc (Zt T n) (ev e.get x)):=rfl
noncomputable def dI(T:Tbl)(u:Nat)(xs:List AV):Option AV:=
 match T u with
 | none=>none
 | some af=>if (af.lent.isNone&&xs.all noRef)=true then ((orc T).call u (xs.map (wkIf af.exact)) []).map (·.1) else none
noncomputable def iD(T:Tbl)(x:AV)(nm:String)(n u:Nat)(args:List AV):Option AV:=
 match x with
 | .ifc t y=>if t=Zt T n∧(nm,u)∈Zcp T n then dI T u (drp1 y::args) else none
 | _=>none
@[simp] theorem zak4{nm n u r args}{e:Env}{h:Heap}{older:List Heap}:opD (orc T) T (.inv nm n u r args) e h older=iD T (ev e.get r) nm n u (args.map (ev e.get)):=by
 simp only[opD];cases ev e.get r<;>rfl
@[simp] theorem zaf0{hd tl:List AO}:evX (orc T) T k (.drawT hd tl) st=stX (Zdm (orc T) T tl hd st.env st.heap st.clk):=rfl
attribute [simp] Ze0 Zbh Zib Zi0 Zit Zhw Zhx ghS Zdf Zcy Zkl Zd5 Zc4 Zcn kids Zar
attribute [simp] gnA gnR Zgv Zhz Zfe Zed AOp.maker drp1 drpC AOp.lentN AOp.isStore Zfy geB geH
attribute [simp] AOp.writes AOp.free Zf6 Ze2 Ze6 Zc8 Zea Zf8
attribute [simp] AOp.callN Zgu Zb2 Zhv shR
end
end Go.Ab
end
section
namespace Go.Ab
open Go.RowKit
def Zet(a b:Nat):Nat:=(((a:Int)-b)%4294967296).toNat
def Zdq(a b:Nat):Nat:=(((a:Int)-b)%18446744073709551616).toNat
def Zjz(a b:Nat):Nat:=(((a:Int)-b)%256).toNat
theorem zxm{a b:Nat}(h:b≤a)(h2:a<4294967296):Zet a b=a-b:=by unfold Zet;omega
theorem zea{a b:Nat}(h:b≤a)(h2:a<18446744073709551616):Zdq a b=a-b:=by unfold Zdq;omega
theorem z1k{a b:Nat}(h:b≤a)(h2:a<256):Zjz a b=a-b:=by unfold Zjz;omega
theorem zty(n:Int):IntKind.wrap .u32 n=(((n%4294967296).toNat:Nat):Int):=by
 simp[IntKind.wrap,IntKind.signed,IntKind.bits];omega
theorem zhn(n:Int):IntKind.wrap .u64 n=(((n%18446744073709551616).toNat:Nat):Int):=by
 simp[IntKind.wrap,IntKind.signed,IntKind.bits];omega
theorem zxn(n:Int):IntKind.wrap .u8 n=(((n%256).toNat:Nat):Int):=by
 simp[IntKind.wrap,IntKind.signed,IntKind.bits];omega
@[simp] theorem z7c(n:Int)(h1:-9223372036854775808≤n)(h2:n<9223372036854775808):IntKind.wrap .i64 n=n:=zab n ⟨h1,h2⟩
@[simp] theorem z4y(a b:Nat):((a:Int)+(b:Int)).toNat=a+b:=by omega
@[simp] theorem z1l(a b:Nat):(0:Int)≤(a:Int)+(b:Int):=by omega
@[simp] theorem z1m(a:Nat):(0:Int)≤(a:Int)+1:=by omega
@[simp] theorem z1n(a b:Nat):((a:Int)+(b:Int)+1).toNat=a+b+1:=by omega
@[simp] theorem zzr(a b:Nat):(0:Int)≤(a:Int)+(b:Int)+1:=by omega
section
variable(a b:Nat)(k:IntKind)(n:Int)
@[simp] theorem zak5:Zad .add (u32 a) (u32 b)=some (u32 ((a+b)%4294967296)):=by
 simp only[u32,zow,←Yad,zcs]
@[simp] theorem zak6:Zad .add (u64 a) (u64 b)=some (u64 ((a+b)%18446744073709551616)):=by
 simp only[u64,zow,←Yad,zd9]
@[simp] theorem zak7:Zad .mul (u32 a) (u32 b)=some (u32 ((a*b)%4294967296)):=by
 simp only[u32,zox,←Yej,zcs]
@[simp] theorem zak8:Zad .mul (u64 a) (u64 b)=some (u64 ((a*b)%18446744073709551616)):=by
 simp only[u64,zox,←Yej,zd9]
@[simp] theorem zaiz:Zad .sub (u32 a) (u32 b)=some (u32 (Zet a b)):=by
 simp only[u32,zjx,zty,Zet]
@[simp] theorem zai0:Zad .sub (u64 a) (u64 b)=some (u64 (Zdq a b)):=by
 simp only[u64,zjx,zhn,Zdq]
@[simp] theorem zak9:Zad .sub (u8 a) (u8 b)=some (u8 (Zjz a b)):=by
 simp only[u8,zjx,zxn,Zjz]
theorem zpd:((a:Int).tdiv (b:Int))=((a/b:Nat):Int):=by rw[Int.ofNat_tdiv]
theorem zpe:((a:Int).tmod (b:Int))=((a%b:Nat):Int):=by rw[Int.ofNat_tmod]
@[simp] theorem zala:Zad .quo (u32 a) (u32 b)=if b=0 then none else some (u32 (a/b%4294967296)):=by
 simp only[u32,zoy,zpd,zcs,Yc5]
@[simp] theorem zalb:Zad .quo (u64 a) (u64 b)=if b=0 then none else some (u64 (a/b%18446744073709551616)):=by
 simp only[u64,zoy,zpd,zd9,Yc5]
@[simp] theorem zalc:Zad .rem (u32 a) (u32 b)=if b=0 then none else some (u32 (a%b)):=by
 simp only[u32,zoz,zpe,Yc5]
@[simp] theorem zald:Zad .rem (u64 a) (u64 b)=if b=0 then none else some (u64 (a%b)):=by
 simp only[u64,zoz,zpe,Yc5]
theorem bvn(w:Nat):(BitVec.ofInt w (a:Int)).toNat=a%2^w:=by simp
@[simp] theorem or32:Zad .or (u32 a) (u32 b)=some (u32 ((a ||| b)%4294967296)):=by
 have h:=Nat.or_mod_two_pow (a:=a) (b:=b) (n:=32);have e:((BitVec.ofInt 32 (a:Int) ||| BitVec.ofInt 32 (b:Int)).toNat)=(a ||| b)%2^32:=by rw[BitVec.toNat_or,bvn,bvn,←h]
 show some (AV.i .u32 (IntKind.wrap .u32 (((BitVec.ofInt 32 (a:Int) ||| BitVec.ofInt 32 (b:Int)).toNat:Nat):Int)))=_;rw[e,zcs];simp[u32]
@[simp] theorem or64:Zad .or (u64 a) (u64 b)=some (u64 ((a ||| b)%18446744073709551616)):=by
 have h:=Nat.or_mod_two_pow (a:=a) (b:=b) (n:=64);have e:((BitVec.ofInt 64 (a:Int) ||| BitVec.ofInt 64 (b:Int)).toNat)=(a ||| b)%2^64:=by rw[BitVec.toNat_or,bvn,bvn,←h]
 show some (AV.i .u64 (IntKind.wrap .u64 (((BitVec.ofInt 64 (a:Int) ||| BitVec.ofInt 64 (b:Int)).toNat:Nat):Int)))=_;rw[e,zd9];simp[u64]
theorem zl4(m:Nat):((a:Int)*2^m)=((a*2^m:Nat):Int):=by simp
theorem zi8(m:Nat):((a:Int).fdiv (2^m))=((a/2^m:Nat):Int):=by
 rw[Yd1 _ (Int.pow_nonneg (by decide))];simp
@[simp] theorem zale:Zad .shl (u32 a) (.i k n)=if n<0 then none else some (u32 (a*2^(min n.toNat 32)%4294967296)):=by
 simp only[u32,Zad,IntKind.bits,zl4,zcs]
@[simp] theorem zaf1:Zad .shl (u64 a) (.i k n)=if n<0 then none else some (u64 (a*2^(min n.toNat 64)%18446744073709551616)):=by
 simp only[u64,Zad,IntKind.bits,zl4,zd9]
@[simp] theorem zalf:Zad .shr (u32 a) (.i k n)=if n<0 then none else some (u32 (a/2^(min n.toNat 32))):=by
 simp only[u32,Zad,IntKind.bits,zi8]
@[simp] theorem zaf2:Zad .shr (u64 a) (.i k n)=if n<0 then none else some (u64 (a/2^(min n.toNat 64))):=by
 simp only[u64,Zad,IntKind.bits,zi8]
@[simp] theorem zzs:¬ ((b:Int)<0):=by omega
@[simp] theorem zai1:Zad .shl (u64 a) (u64 b)=some (u64 (a*2^(min b 64)%18446744073709551616)):=by
 rw[show u64 b=.i .u64 (b:Int) from rfl,zaf1,if_neg (zzs b),Ycj]
@[simp] theorem zai2:Zad .shr (u64 a) (u64 b)=some (u64 (a/2^(min b 64))):=by
 rw[show u64 b=.i .u64 (b:Int) from rfl,zaf2,if_neg (zzs b),Ycj]
@[simp] theorem zalg:Zad .eql (u32 a) (u32 b)=some (.b (decide (a=b))):=by
 simp only[u32,zo0,Option.some.injEq,AV.b.injEq];rw[Yb5];simp[Yck]
@[simp] theorem zalh:Zad .neq (u32 a) (u32 b)=some (.b (!decide (a=b))):=by
 simp only[u32,zjy,Option.some.injEq,AV.b.injEq];rw[Yb5];simp[Yck]
@[simp] theorem zali:Zad .lss (u32 a) (u32 b)=some (.b (decide (a<b))):=by simp[u32,zjz]
@[simp] theorem zalj:Zad .leq (u32 a) (u32 b)=some (.b (decide (a≤b))):=by simp[u32,zo1]
@[simp] theorem zalk:Zad .gtr (u32 a) (u32 b)=some (.b (decide (b<a))):=by simp[u32,zo2]
@[simp] theorem zall:Zad .geq (u32 a) (u32 b)=some (.b (decide (b≤a))):=by simp[u32,zo3]
@[simp] theorem zalm:Zad .neq (u64 a) (u64 b)=some (.b (!decide (a=b))):=by
 simp only[u64,zjy,Option.some.injEq,AV.b.injEq];rw[Yb5];simp[Yck]
@[simp] theorem zaln:Zad .lss (u64 a) (u64 b)=some (.b (decide (a<b))):=by simp[u64,zjz]
@[simp] theorem eql8:Zad .eql (u8 a) (u8 b)=some (.b (decide (a=b))):=by
 simp only[u8,zo0,Option.some.injEq,AV.b.injEq];rw[Yb5];simp[Yck]
@[simp] theorem neq8:Zad .neq (u8 a) (u8 b)=some (.b (!decide (a=b))):=by
 simp only[u8,zjy,Option.some.injEq,AV.b.injEq];rw[Yb5];simp[Yck]
@[simp] theorem lss8:Zad .lss (u8 a) (u8 b)=some (.b (decide (a<b))):=by simp[u8,zjz]
@[simp] theorem leq8:Zad .leq (u8 a) (u8 b)=some (.b (decide (a≤b))):=by simp[u8,zo1]
@[simp] theorem gtr8:Zad .gtr (u8 a) (u8 b)=some (.b (decide (b<a))):=by simp[u8,zo2]
@[simp] theorem geq8:Zad .geq (u8 a) (u8 b)=some (.b (decide (b≤a))):=by simp[u8,zo3]
@[simp] theorem z4z:Zb5 .u64 (u32 a)=some (u64 (a%18446744073709551616)):=by simp only[u32,u64,Zb5,zd9]
@[simp] theorem z40:Zb5 .u32 (u64 a)=some (u32 (a%4294967296)):=by simp only[u32,u64,Zb5,zcs]
@[simp] theorem z7d:Zb5 .u32 (u8 a)=some (u32 (a%4294967296)):=by simp only[u32,u8,Zb5,zcs]
@[simp] theorem z7e:Zb5 .u64 (.i .i64 n)=some (u64 (n%18446744073709551616).toNat):=by simp only[u64,Zb5,zhn]
@[simp] theorem z7f:Zb5 .i64 (u32 a)=some (.i .i64 (IntKind.wrap .i64 a)):=rfl
@[simp] theorem z7g:Zb5 .i64 (u64 a)=some (.i .i64 (IntKind.wrap .i64 a)):=rfl
@[simp] theorem zabe:Zb5 .i64 (u8 a)=some (.i .i64 (IntKind.wrap .i64 a)):=rfl
@[simp] theorem zabf:Zb5 .i64 (.i .i64 n)=some (.i .i64 (IntKind.wrap .i64 n)):=rfl
@[simp] theorem zalo:Zgg .neg (u64 a)=some (u64 (Zdq 0 a)):=by simp[u64,Zgg,zhn,Zdq]
@[simp] theorem zalp:Zgg .neg (.i .i64 n)=some (.i .i64 (IntKind.wrap .i64 (0-n))):=rfl
@[simp] theorem zalq(t:Bool):Zgg .not (.b t)=some (.b (!t)):=rfl
@[simp] theorem zai3(m:Nat)(y:Int):bnd (u8 m) y=if 0≤(m:Int)∧(m:Int)≤y then some m else none:=rfl
@[simp] theorem zaf3(m:Nat)(y:Int):bnd (u32 m) y=if 0≤(m:Int)∧(m:Int)≤y then some m else none:=rfl
@[simp] theorem zaf4(m:Nat)(y:Int):bnd (u64 m) y=if 0≤(m:Int)∧(m:Int)≤y then some m else none:=rfl
attribute [simp] Zez Zgj Ze7
@[simp] theorem zai4(l:List UInt8):Zhf (.s l) (.i k n)=if 0≤n∧n<l.length then (l[n.toNat]?).map fun b=>u8 b.toNat else none:=rfl
@[simp] theorem zabg(k':IntKind)(x y:Int):Zft .int (.i k x) (.i k' y)=if k=k' then some (x == y) else none:=rfl
end
@[simp] theorem zaf5(a b:Nat):u32 a=u32 b↔a=b:=by simp[u32,Yck]
@[simp] theorem zaf6(a b:Nat):u64 a=u64 b↔a=b:=by simp[u64,Yck]
theorem zaj(x:UInt32):x.toNat<4294967296:=x.toNat_lt
@[simp] theorem zaf7(x:UInt32):x.toNat<4294967296:=x.toNat_lt
def w32(n:Nat):UInt32:=UInt32.ofNat n
theorem zbh(n:Nat):(w32 n).toNat=n%4294967296:=UInt32.toNat_ofNat' ..
theorem zah{n:Nat}(h:n<4294967296):(w32 n).toNat=n:=by rw[zbh,Yi h]
def Za(l:List UInt32):List (List AV):=l.map fun x=>[u32 x.toNat]
def ints(l:List Int):List (List AV):=l.map fun x=>[.i .i64 x]
def u8s(l:List UInt8):List (List AV):=l.map fun x=>[u8 x.toNat]
section
variable(l m:List UInt32)(x:UInt32)
@[simp] theorem zabh:Za []=[]:=rfl
@[simp] theorem z1o:(Za l).length=l.length:=by simp[Za]
@[simp] theorem zaf8:wkL (Za l)=Za l:=by
 rw[zb6];simp[Za,wkR]
@[simp] theorem z7h(n:Nat):(Za l).take n=Za (l.take n):=by simp[Za]
@[simp] theorem z7i(n:Nat):(Za l).drop n=Za (l.drop n):=by simp[Za]
@[simp] theorem z1p:Za l++Za m=Za (l++m):=by simp[Za]
@[simp] theorem z7j(n:Nat)(h:n<4294967296):Za l++[[u32 n]]=Za (l++[w32 n]):=by simp[Za,zah h]
@[simp] theorem u32s_getElem?(i:Nat):(Za l)[i]? = (l[i]?).map fun x=>[u32 x.toNat]:=by simp[Za]
@[simp] theorem zzt(i:Nat)(h:i<(Za l).length):(Za l)[i]=[u32 (l[i]'(by simpa using h)).toNat]:=by simp[Za]
theorem zbe(i:Nat)(n:Nat)(h:n<4294967296):(Za l).set i [u32 n]=Za (l.set i (w32 n)):=by simp[Za,Yen,zah h]
@[simp] theorem z7k(i n:Nat):(Za l).set i [u32 (n%4294967296)]=Za (l.set i (w32 n)):=by simp[Za,Yen,zbh]
@[simp] theorem zabi(n:Nat):List.replicate n [u32 0]=Za (List.replicate n 0):=by simp[Za]
@[simp] theorem z7l(z:Nat):((Za l).head?.all fun r=>decide (r.length=z))=(l.isEmpty || decide (z=1)):=by
 cases l<;>simp[Za,eq_comm]
end
end Go.Ab
end
section
namespace Go.Ab
open Go.RowKit
abbrev mv(d s:Nat):AO:=⟨some d,none,.mov (.t s)⟩
abbrev rg(d:Nat)(op:AOp):AO:=⟨some d,none,op⟩
abbrev gd(d t:Nat)(b:Bool)(op:AOp):AO:=⟨some d,some (t,b),op⟩
abbrev so(op:AOp):AO:=⟨none,none,op⟩
section
variable(T:Tbl)(u:Nat)(ex:Bool)(ms:List Bool)(xs:List AV)(d:Option Nat)(st:St)(ps:List Opd)(e:Env)
@[simp] noncomputable def cP:Option St:=bL (Zja st.heap xs) fun ys=>cR (Zb T u (ys.map (wkIf ex))) xs d st
@[simp] noncomputable def cL:Option St:=bL (Zeb st.heap ms xs) fun ys=>Zdp ys (Zm (Za1 ms xs) st.heap) (Zcy (Zm (Za1 ms xs) st.heap) 40 (Zci ms xs) []) T u ex d st
@[simp] noncomputable def dP:Option AV:=dR (Zb T u ((ps.map (ev e.get)).map (wkIf ex))) (ps.map (ev e.get))
end
section
variable{T:Tbl}{k:Nat}
theorem zba{id:Nat}{g2:Gh}{c:AX}(S:Nat→St)(n:Nat)(G:Option (Ex×St))(step:∀i,i<n→evX (orc T) T k c (S i)=some (.n,S (i+1)))
  (fin:Zdk (evX (orc T) T k c (S n))=true∧Zdj k id g2 (evX (orc T) T k c (S n))=G):Zn T k id g2 c (S 0)=G:=
 zan S (fun i=>i≤n) (fun i=>n-i) (fun _=>G) (by
  intro i hi;by_cases h:i<n
  ·exact .inl ⟨i+1,h,by show n-(i+1)<n-i;omega,step i h,rfl⟩
  ·have:i=n:=by omega
   subst this;exact .inr fin) 0 (Yl _)
theorem zbb{id:Nat}{g2:Gh}{c:AX}(S:Nat→St)(n:Nat)(G:Nat→Option (Ex×St))
  (step:∀i,i<n→(evX (orc T) T k c (S i)=some (.n,S (i+1))∧G (i+1)=G i)∨(Zdk (evX (orc T) T k c (S i))=true∧Zdj k id g2 (evX (orc T) T k c (S i))=G i))
  (fin:Zdk (evX (orc T) T k c (S n))=true∧Zdj k id g2 (evX (orc T) T k c (S n))=G n):Zn T k id g2 c (S 0)=G 0:=
 zan S (fun i=>i≤n) (fun i=>n-i) G (by
  intro i hi;by_cases h:i<n
  ·rcases step i h with ⟨h1,h2⟩ | h1
   ·exact .inl ⟨i+1,h,by show n-(i+1)<n-i;omega,h1,h2⟩
   ·exact .inr h1
  ·have:i=n:=by omega
   subst this;exact .inr fin) 0 (Yl _)
end
theorem zbr{i n:Nat}(h:i<n)(hn:n≤4294967296):IntKind.wrap .i64 ((i:Int)+1)=((i+1:Nat):Int):=zab _ (by omega)
end Go.Ab
end
section
namespace Go.Ab
def b115:AX:=
 (.seq
 (.reg [rg 6 (.mov (.c (u32 0))),rg 7 (.mov (.c (u32 0)))])
 (.seq
 (.reg [mv 8 0,mv 9 1,rg 10 (.bin .add (.t 8) (.t 9)),mv 6 10])
 (.seq
 (.seq
 (.reg [mv 11 6,mv 12 0,rg 13 (.bin .lss (.t 11) (.t 12))])
 (.cond (.t 13)
 (.reg [mv 14 7,rg 15 (.bin .add (.t 14) (.c (u32 1))),mv 7 15])
 .skip))
 (.seq
 (.reg [mv 16 6,mv 17 2,rg 18 (.bin .add (.t 16) (.t 17)),mv 6 18])
 (.seq
 (.seq
 (.reg [mv 19 6,mv 20 2,rg 21 (.bin .lss (.t 19) (.t 20))])
 (.cond (.t 21)
 (.reg [mv 22 7,rg 23 (.bin .add (.t 22) (.c (u32 1))),mv 7 23])
 .skip))
 (.seq
 (.reg [mv 24 6,mv 25 7,mv 6 24,mv 7 25])
 (.pre (.norm false [6,7]) .ret)))))))
def b116:AX:=
 (.seq
 (.reg [rg 6 (.mov (.c (u32 0))),rg 7 (.mov (.c (u32 0)))])
 (.seq
 (.reg [mv 8 0,mv 9 1,rg 10 (.bin .sub (.t 8) (.t 9)),mv 6 10])
 (.seq
 (.seq
 (.reg [mv 11 0,mv 12 1,rg 13 (.bin .lss (.t 11) (.t 12))])
 (.cond (.t 13)
 (.reg [mv 14 7,rg 15 (.bin .add (.t 14) (.c (u32 1))),mv 7 15])
 .skip))
 (.seq
 (.seq
 (.reg [mv 16 6,mv 17 2,rg 18 (.bin .lss (.t 16) (.t 17))])
 (.cond (.t 18)
 (.reg [mv 19 7,rg 20 (.bin .add (.t 19) (.c (u32 1))),mv 7 20])
 .skip))
 (.seq
 (.reg [mv 21 6,mv 22 2,rg 23 (.bin .sub (.t 21) (.t 22)),mv 24 7,mv 6 23,mv 7 24])
 (.pre (.norm false [6,7]) .ret))))))
def b117:AX:=
 (.seq
 (.reg [rg 8 (.mov (.c (u32 0))),rg 9 (.mov (.c (u32 0)))])
 (.seq
 (.reg [mv 11 0,rg 12 (.conv .u64 (.t 11)),mv 13 1,rg 14 (.conv .u64 (.t 13)),rg 15 (.bin .mul (.t 12) (.t 14)),mv 16 2,rg 17 (.conv .u64 (.t 16)),rg 18 (.bin .add (.t 15) (.t 17)),mv 19 3,rg 20 (.conv .u64 (.t 19)),rg 21 (.bin .add (.t 18) (.t 20)),mv 10 21])
 (.seq
 (.reg [mv 22 10,rg 23 (.bin .shr (.t 22) (.c (u64 32))),rg 24 (.conv .u32 (.t 23)),mv 25 10,rg 26 (.conv .u32 (.t 25)),mv 8 24,mv 9 26])
 (.pre (.norm false [8,9]) .ret))))
def b118:AX:=
 (.seq
 (.reg [rg 6 (.mov (.c (u32 0))),rg 7 (.mov (.c (u32 0))),rg 8 (.mov (.c (.b false)))])
 (.seq
 (.seq
 (.reg [mv 10 0,mv 11 2,rg 12 (.bin .geq (.t 10) (.t 11))])
 (.cond (.t 12)
 (.seq
 (.reg [rg 6 (.mov (.c (u32 0))),rg 7 (.mov (.c (u32 0))),rg 8 (.mov (.c (.b false)))])
 (.pre (.norm false [6,7,8]) .ret))
 .skip))
 (.seq
 (.reg [mv 13 0,rg 14 (.conv .u64 (.t 13)),rg 15 (.bin .shl (.t 14) (.c (u64 32))),mv 16 1,rg 17 (.conv .u64 (.t 16)),rg 18 (.bin .or (.t 15) (.t 17)),mv 9 18])
 (.seq
 (.drawT [mv 19 9,mv 20 2,rg 21 (.conv .u64 (.t 20)),rg 22 (.bin .quo (.t 19) (.t 21)),rg 23 (.conv .u32 (.t 22)),mv 24 9,mv 25 2,rg 26 (.conv .u64 (.t 25)),rg 27 (.bin .rem (.t 24) (.t 26)),rg 28 (.conv .u32 (.t 27)),mv 6 23]
 [mv 7 28,rg 8 (.mov (.c (.b true)))])
 (.pre (.norm false [6,7,8]) .ret)))))
def l91_0:AX:=
 (.note
 (.seq
 (.seq
 (.reg [mv 5 4,rg 6 (.bin .gtr (.t 5) (.c (.i .i64 0)))])
 (.cond (.t 6)
 .skip
 (.exit 0)))
 (.seq
 (.block 1
 (.seq
 (.reg [mv 9 0,mv 10 4,rg 11 (.bin .shr (.t 9) (.t 10)),rg 12 (.bin .neq (.t 11) (.c (u32 0)))])
 (.cond (.t 12)
 (.seq
 (.reg [mv 13 0,mv 14 4,rg 15 (.bin .shr (.t 13) (.t 14)),mv 0 15])
 (.reg [mv 16 3,mv 17 4,rg 18 (.bin .add (.t 16) (.t 17)),mv 3 18]))
 .skip)))
 (.reg [mv 7 4,rg 8 (.bin .quo (.t 7) (.c (.i .i64 2))),mv 4 8])))
 (.norm false [0,3,4]))
def b91:AX:=
 (.seq
 (.reg [rg 2 (.mov (.c (.i .i64 0)))])
 (.seq
 (.reg [rg 3 (.mov (.c (.i .i64 0)))])
 (.seq
 (.seq
 (.reg [rg 4 (.mov (.c (.i .i64 16)))])
 (.lp 0 (.norm false [0,3,4]) l91_0 (.norm false [0,3])))
 (.seq
 (.reg [mv 19 3,mv 20 0,rg 21 (.conv .i64 (.t 20)),rg 22 (.bin .add (.t 19) (.t 21)),mv 2 22])
 (.pre (.norm false [2]) .ret)))))
def row115:AFx:=⟨3,26,[.t 6,.t 7],b115,none,false⟩
def row116:AFx:=⟨3,25,[.t 6,.t 7],b116,none,false⟩
def row117:AFx:=⟨4,27,[.t 8,.t 9],b117,none,false⟩
def row118:AFx:=⟨3,29,[.t 6,.t 7,.t 8],b118,none,false⟩
def row91:AFx:=⟨1,23,[.t 2],b91,none,false⟩
class Zab (T:Tbl):Prop where
 h115:T 115=some row115
 h116:T 116=some row116
 h117:T 117=some row117
 h118:T 118=some row118
 h91:T 91=some row91
section
variable{T:Tbl}[Zab T]{d:Option Nat}{st:St}
@[simp] theorem x115(xs:List AV):Zd (orc T) T 115 xs d st=cP T 115 false xs d st:=zaa Zab.h115
@[simp] theorem x116(xs:List AV):Zd (orc T) T 116 xs d st=cP T 116 false xs d st:=zaa Zab.h116
@[simp] theorem x117(xs:List AV):Zd (orc T) T 117 xs d st=cP T 117 false xs d st:=zaa Zab.h117
@[simp] theorem x118(xs:List AV):Zd (orc T) T 118 xs d st=cP T 118 false xs d st:=zaa Zab.h118
@[simp] theorem x91(xs:List AV):Zd (orc T) T 91 xs d st=cP T 91 false xs d st:=zaa Zab.h91
end
end Go.Ab
end
section
namespace Go.Ab
section
variable{T:Tbl}[Zab T]
theorem zx2(x y c:UInt32):Zb T 115 [u32 x.toNat,u32 y.toNat,u32 c.toNat] =
  some (.tup [u32 (w32 (x.toNat+y.toNat+c.toNat)).toNat,u32 (w32 ((x.toNat+y.toNat+c.toNat)/4294967296)).toNat]):=by
 have hx:=zaj x;have hy:=zaj y;have hc:=zaj c;rw[zac Zab.h115 rfl,b115];simp[zbh]
 repeat' split
 all_goals simp
 all_goals omega
theorem zx3(x y b:UInt32):Zb T 116 [u32 x.toNat,u32 y.toNat,u32 b.toNat] =
  some (.tup [u32 (w32 (x.toNat+8589934592-(y.toNat+b.toNat))).toNat,u32 (w32 (2-(x.toNat+8589934592-(y.toNat+b.toNat))/4294967296)).toNat]):=by
 have hx:=zaj x;have hy:=zaj y;have hb:=zaj b;rw[zac Zab.h116 rfl,b116];by_cases h1:x.toNat<y.toNat <;>
 by_cases h2:Zet x.toNat y.toNat<b.toNat <;>
 ·simp[h1,h2,zbh];unfold Zet at *
  omega
theorem zgh{a b:Nat}(ha:a<4294967296)(hb:b<4294967296):a*b≤18446744065119617025:=by
 have:a*b≤4294967295*4294967295:=Yd7 (by omega) (by omega);omega
theorem zpj(x y c d:UInt32):Zb T 117 [u32 x.toNat,u32 y.toNat,u32 c.toNat,u32 d.toNat] =
  some (.tup [u32 (w32 ((x.toNat*y.toNat+c.toNat+d.toNat)/4294967296)).toNat,u32 (w32 (x.toNat*y.toNat+c.toNat+d.toNat)).toNat]):=by
 have hx:=zaj x;have hy:=zaj y;have hc:=zaj c;have hd:=zaj d;have hm:=zgh hx hy;rw[zac Zab.h117 rfl,b117];simp[zbh];generalize x.toNat*y.toNat=m at *
 omega
theorem zpk(hi lo y:UInt32):Zb T 118 [u32 hi.toNat,u32 lo.toNat,u32 y.toNat] =
  some (if y.toNat≤hi.toNat then .tup [u32 0,u32 0,.b false]
   else .tup [u32 (w32 ((hi.toNat*4294967296+lo.toNat)/y.toNat)).toNat,u32 (w32 ((hi.toNat*4294967296+lo.toNat)%y.toNat)).toNat,.b true]):=by
 have hx:=zaj hi;have hy:=zaj y;have hl:=zaj lo;rw[zac Zab.h118 rfl,b118];by_cases h1:y.toNat≤hi.toNat
 ·simp[h1]
 ·have h2:¬ y.toNat=0:=by omega
  simp[h1,h2,zbh];have e:hi.toNat*4294967296%18446744073709551616=hi.toNat*4294967296:=Yi (by omega);have e2:(hi.toNat*4294967296) ||| lo.toNat=hi.toNat*4294967296+lo.toNat:=by
   have:=Ycx (i:=32) hl hi.toNat;rw[Yam hi.toNat,show (4294967296:Nat)=2^32 from rfl,this]
  have h3:(hi.toNat*4294967296+lo.toNat)/y.toNat<4294967296:=by
   rw[Ybt (by omega)];have:=Yag 4294967296 (show hi.toNat+1≤y.toNat by omega);omega
  rw[e,e2,Yi (show hi.toNat*4294967296+lo.toNat<18446744073709551616 by omega)];exact⟨rfl,rfl⟩
theorem zdz(x y c:Nat)(hx:x<4294967296)(hy:y<4294967296)(hc:c<4294967296):Zb T 115 [u32 x,u32 y,u32 c]=some (.tup [u32 ((x+y+c)%4294967296),u32 ((x+y+c)/4294967296)]):=by
 have:=zx2 (T:=T) (w32 x) (w32 y) (w32 c);rw[zah hx,zah hy,zah hc,zbh,zah (by omega)]at this;exact this
theorem zfk(x y b:Nat)(hx:x<4294967296)(hy:y<4294967296)(hb:b<4294967296):Zb T 116 [u32 x,u32 y,u32 b] =
  some (.tup [u32 ((x+8589934592-(y+b))%4294967296),u32 (2-(x+8589934592-(y+b))/4294967296)]):=by
 have:=zx3 (T:=T) (w32 x) (w32 y) (w32 b);rw[zah hx,zah hy,zah hb,zbh,zah (by omega)]at this;exact this
theorem zhu(x y c d:Nat)(hx:x<4294967296)(hy:y<4294967296)(hc:c<4294967296)(hd:d<4294967296):Zb T 117 [u32 x,u32 y,u32 c,u32 d] =
  some (.tup [u32 ((x*y+c+d)/4294967296),u32 ((x*y+c+d)%4294967296)]):=by
 have:=zpj (T:=T) (w32 x) (w32 y) (w32 c) (w32 d);have hm:=zgh hx hy;rw[zah hx,zah hy,zah hc,zah hd,zbh (x*y+c+d),zah (by omega)]at this;exact this
theorem zzu{hi lo y:Nat}(h:hi<y)(hl:lo<4294967296):(hi*4294967296+lo)/y<4294967296:=by
 rw[Ybt (by omega)];have:=Yag 4294967296 (show hi+1≤y by omega);omega
theorem zmb(hi lo y:Nat)(hx:hi<y)(hl:lo<4294967296)(hy:y<4294967296):Zb T 118 [u32 hi,u32 lo,u32 y] =
  some (.tup [u32 ((hi*4294967296+lo)/y),u32 ((hi*4294967296+lo)%y),.b true]):=by
 have:=zpk (T:=T) (w32 hi) (w32 lo) (w32 y);rw[zah (show hi<4294967296 by omega),zah hl,zah hy,zah (zzu hx hl),zah (by have:=Ya1 (hi*4294967296+lo) (show 0<y by omega);omega),if_neg (by omega)]at this;exact this
theorem zq5(hi lo y:Nat)(hx:y≤hi)(hh:hi<4294967296)(hl:lo<4294967296):Zb T 118 [u32 hi,u32 lo,u32 y]=some (.tup [u32 0,u32 0,.b false]):=by
 have:=zpk (T:=T) (w32 hi) (w32 lo) (w32 y);rw[zah hh,zah hl,zah (show y<4294967296 by omega),if_pos hx]at this;exact this
def Z7(n:Nat):Nat:=if n=0 then 0 else n.log2+1
theorem zjc{n s:Nat}(h:n/2^s≠0):Z7 n=s+Z7 (n/2^s):=by
 have hn:n≠0:=by rintro rfl;simp at h
 have hlog:(n/2^s).log2+s=n.log2:=by
  have h1:=Nat.log2_self_le h;have h2:=Yc4 (n:=n/2^s);have h3:=Nat.log2_self_le hn;have h4:=Yc4 (n:=n);have hp:0<2^s:=Ya2 (by decide);have a1:2^((n/2^s).log2+s)≤n:=by
   rw[Ybe];exact(Ycd hp).1 h1
  have a2:n<2^((n/2^s).log2+1+s):=by
   rw[Ybe];exact(Ybt hp).1 h2
  have b1:=(Nat.le_log2 hn).2 a1;have b2:=(Ydx hn).2 a2;omega
 unfold Z7;rw[if_neg h,if_neg hn];omega
theorem zq6{x:Nat}(h:x<2):Z7 x=x:=by
 rcases(show x=0∨x=1 by omega) with rfl | rfl<;>decide
def Zif(y:Nat×Nat×Nat):St:=⟨[(0,u32 y.1),(3,.i .i64 y.2.1),(4,.i .i64 y.2.2)],[],2⟩
end
section
variable{T:Tbl}
theorem zkg(N:Nat):∀y:Nat×Nat×Nat,((y.2.2=16∨y.2.2=8∨y.2.2=4∨y.2.2=2∨y.2.2=1∨y.2.2=0)∧y.1<2^(2*y.2.2)*(if y.2.2=0 then 2 else 1)∧y.2.1+Z7 y.1=N∧y.2.1+2*y.2.2≤32) →
  ∃r,(∃(x n:Nat),r=(Ex.n,(⟨[(0,u32 x),(3,.i .i64 (n:Int))],[],2⟩:St))∧x<2∧n+Z7 x=N∧n≤32)∧Zn T 0 0 (.norm false [0,3]) l91_0 (Zif y)=some r:=by
 refine zaq _ _ (fun y=>y.2.2) _ ?_
 rintro⟨x,n,s⟩ ⟨hs,hx,hN,hn⟩
 simp only at hs hx hN hn;by_cases h0:s=0
 ·right;subst h0;refine⟨_,⟨x,n,rfl,by simpa using hx,hN,by omega⟩,?_,?_⟩<;>simp[l91_0,Zif]
 ·left;by_cases h1:x/2^s=0
  ·refine⟨(x,n,s/2),⟨?_,?_,hN,by simp only;omega⟩,by simp only;omega,?_⟩
   ·rcases hs with rfl | rfl | rfl | rfl | rfl | rfl<;>simp
   ·have h2:x<2^s:=by
     rcases Yq x (2^s) with h | h
     ·exact h
     ·have:=Yet h (Ya2 (by decide));omega
    rcases hs with rfl | rfl | rfl | rfl | rfl | rfl<;>simp at h2 ⊢<;>omega
   ·rcases hs with rfl | rfl | rfl | rfl | rfl | rfl<;>simp at h1<;>simp[l91_0,Zif,h1]at h0 ⊢
  ·refine⟨(x/2^s,n+s,s/2),⟨?_,?_,?_,by simp only;omega⟩,by simp only;omega,?_⟩
   ·rcases hs with rfl | rfl | rfl | rfl | rfl | rfl<;>simp
   ·rcases hs with rfl | rfl | rfl | rfl | rfl | rfl<;>simp at hx h0 ⊢<;>omega
   ·have:=zjc h1;simp only;omega
   ·have hw:IntKind.wrap .i64 ((n:Int)+s)=((n+s:Nat):Int):=zab _ (by omega);rcases hs with rfl | rfl | rfl | rfl | rfl | rfl<;>simp at h1 hw<;>simp[l91_0,Zif,h1,hw]at h0 ⊢
end
section
variable{T:Tbl}[Zab T]
theorem zpl(x:UInt32):Zb T 91 [u32 x.toNat]=some (.i .i64 (Z7 x.toNat)):=by
 have hx:=zaj x;obtain⟨_,⟨y,n,rfl,h1,h2,h3⟩,hl⟩:=zkg (T:=T) (Z7 x.toNat) (x.toNat,0,16) ⟨.inl rfl,by simp,by simp,by simp⟩;have hw:IntKind.wrap .i64 (y:Int)=y:=zab _ (by omega);have hw2:IntKind.wrap .i64 ((n:Int)+y)=((n+y:Nat):Int):=zab _ (by omega);have h4:=zq6 h1;rw[zac Zab.h91 rfl,b91];simp;unfold Zif at hl;simp at hl;rw[hl];simp[hw,hw2];omega
end
end Go.Ab
end
section
namespace Go.Ab
def l86_0:AX:=
 (.note
 (.seq
 (.seq
 (.reg [mv 6 3,rg 7 (.bin .gtr (.t 6) (.c (.i .i64 0))),mv 8 7,gd 9 8 true (.mov (.t 0)),gd 10 8 true (.mov (.t 3)),gd 11 8 true (.bin .sub (.t 10) (.c (.i .i64 1))),gd 12 8 true (.iad 1 (.t 9) (.t 11)),gd 13 8 true (.load none (.t 12)),gd 14 8 true (.bin .eql (.t 13) (.c (u32 0))),rg 15 (.pick (.t 8) (.t 14) (.c (.b false)))])
 (.cond (.t 15)
 .skip
 (.exit 0)))
 (.block 1
 (.reg [mv 16 3,rg 17 (.bin .sub (.t 16) (.c (.i .i64 1))),mv 3 17])))
 (.norm false [0,3]))
def b86:AX:=
 (.seq
 (.reg [rg 2 (.mov (.c (.sl [] .nl)))])
 (.seq
 (.reg [mv 4 0,rg 5 (.len (.t 4)),mv 3 5])
 (.seq
 (.lp 0 (.norm false [0,3]) l86_0 (.norm false [0,3]))
 (.seq
 (.reg [mv 18 0,mv 19 3,rg 20 (.slc 1 (.t 18) none (some (.t 19)) none),mv 2 20])
 (.pre (.norm false [2]) .ret)))))
def b106:AX:=
 (.seq
 (.reg [rg 4 (.mov (.c (.sl [] .nl)))])
 (.seq
 (.reg [mv 6 0,rg 7 (.len (.t 6)),mv 8 1,rg 9 (.bin .add (.t 7) (.t 8)),rg 10 (.mks 1 [(u32 0)] (.t 9) (.t 9)),mv 5 10])
 (.seq
 (.reg [mv 11 5,mv 12 0,rg 13 (.xop .cpy [(.t 11),(.t 12)])])
 (.seq
 (.reg [mv 14 5,mv 4 14])
 (.pre (.norm false [4]) .ret)))))
def b71:AX:=
 (.seq
 (.reg [rg 2 (.mov (.c (.sl [] .nl)))])
 (.seq
 (.reg [mv 3 0,rg 4 (.call 86 [(.t 3)]),rg 5 (.call 106 [(.t 4),(.c (.i .i64 0))]),mv 2 5])
 (.pre (.norm false [2]) .ret)))
def b72:AX:=
 (.seq
 (.reg [rg 2 (.mov (.c (.sl [] .nl)))])
 (.seq
 (.reg [mv 3 0,rg 4 (.conv .u32 (.t 3)),mv 5 0,rg 6 (.bin .shr (.t 5) (.c (u64 32))),rg 7 (.conv .u32 (.t 6)),rg 8 (.bsl 1 [(u32 0)] 2 [(0,(.t 4)),(1,(.t 7))]),rg 9 (.call 86 [(.t 8)]),mv 2 9])
 (.pre (.norm false [2]) .ret)))
def l73_0:AX:=
 (.note
 (.seq
 (.reg [rg 15 (.bin .lss (.t 14) (.t 13))])
 (.seq
 (.cond (.t 15)
 .skip
 (.exit 0))
 (.seq
 (.block 1
 (.seq
 (.reg [mv 16 14,rg 17 (.iad 1 (.t 12) (.t 14)),rg 18 (.load none (.t 17)),mv 5 16,mv 6 18])
 (.reg [mv 19 4,mv 20 6,rg 21 (.conv .u64 (.t 20)),mv 22 5,rg 23 (.bin .mul (.c (.i .i64 32)) (.t 22)),rg 24 (.bin .shl (.t 21) (.t 23)),rg 25 (.bin .or (.t 19) (.t 24)),mv 4 25])))
 (.reg [rg 26 (.bin .add (.t 14) (.c (.i .i64 1))),mv 14 26]))))
 (.norm false [4,12,13,14]))
def b73:AX:=
 (.seq
 (.reg [rg 2 (.mov (.c (u64 0))),rg 3 (.mov (.c (.b false)))])
 (.seq
 (.reg [mv 7 0,rg 8 (.call 86 [(.t 7)]),mv 0 8])
 (.seq
 (.seq
 (.reg [mv 9 0,rg 10 (.len (.t 9)),rg 11 (.bin .gtr (.t 10) (.c (.i .i64 2)))])
 (.cond (.t 11)
 (.seq
 (.reg [rg 2 (.mov (.c (u64 0))),rg 3 (.mov (.c (.b false)))])
 (.pre (.norm false [2,3]) .ret))
 .skip))
 (.seq
 (.reg [rg 4 (.mov (.c (u64 0)))])
 (.seq
 (.seq
 (.reg [mv 12 0,rg 13 (.len (.t 12)),rg 14 (.mov (.c (.i .i64 0)))])
 (.lp 0 (.norm false [4,12,13,14]) l73_0 (.norm false [4])))
 (.seq
 (.reg [mv 27 4,mv 2 27,rg 3 (.mov (.c (.b true)))])
 (.pre (.norm false [2,3]) .ret)))))))
def b70:AX:=
 (.seq
 (.reg [rg 2 (.mov (.c (.b false)))])
 (.seq
 (.reg [mv 3 0,rg 4 (.call 86 [(.t 3)]),rg 5 (.len (.t 4)),rg 6 (.bin .eql (.t 5) (.c (.i .i64 0))),mv 2 6])
 (.pre (.norm false [2]) .ret)))
def l87_0:AX:=
 (.note
 (.seq
 (.seq
 (.reg [mv 25 5,rg 26 (.bin .geq (.t 25) (.c (.i .i64 0)))])
 (.cond (.t 26)
 .skip
 (.exit 1)))
 (.seq
 (.block 2
 (.block 3
 (.seq
 (.drawT [mv 30 0,mv 31 5,rg 32 (.iad 1 (.t 30) (.t 31)),rg 33 (.load none (.t 32)),mv 34 1,mv 35 5,rg 36 (.iad 1 (.t 34) (.t 35)),rg 37 (.load none (.t 36))]
 [rg 38 (.bin .lss (.t 33) (.t 37)),mv 29 38])
 (.cond (.t 29)
 (.seq
 (.reg [rg 4 (.mov (.c (.i .i64 (-1))))])
 (.pre (.norm false [4]) .ret))
 (.seq
 (.drawT [mv 40 0,mv 41 5,rg 42 (.iad 1 (.t 40) (.t 41)),rg 43 (.load none (.t 42)),mv 44 1,mv 45 5,rg 46 (.iad 1 (.t 44) (.t 45)),rg 47 (.load none (.t 46))]
 [rg 48 (.bin .gtr (.t 43) (.t 47)),mv 39 48])
 (.cond (.t 39)
 (.seq
 (.reg [rg 4 (.mov (.c (.i .i64 1)))])
 (.pre (.norm false [4]) .ret))
 .skip))))))
 (.reg [mv 27 5,rg 28 (.bin .sub (.t 27) (.c (.i .i64 1))),mv 5 28])))
 (.norm false [0,1,5]))
def b87:AX:=
 (.seq
 (.reg [rg 4 (.mov (.c (.i .i64 0)))])
 (.seq
 (.reg [mv 6 0,rg 7 (.call 86 [(.t 6)]),mv 8 1,rg 9 (.call 86 [(.t 8)]),mv 0 7,mv 1 9])
 (.seq
 (.block 0
 (.seq
 (.reg [mv 11 0,rg 12 (.len (.t 11)),mv 13 1,rg 14 (.len (.t 13)),rg 15 (.bin .lss (.t 12) (.t 14)),mv 10 15])
 (.cond (.t 10)
 (.seq
 (.reg [rg 4 (.mov (.c (.i .i64 (-1))))])
 (.pre (.norm false [4]) .ret))
 (.seq
 (.reg [mv 17 0,rg 18 (.len (.t 17)),mv 19 1,rg 20 (.len (.t 19)),rg 21 (.bin .gtr (.t 18) (.t 20)),mv 16 21])
 (.cond (.t 16)
 (.seq
 (.reg [rg 4 (.mov (.c (.i .i64 1)))])
 (.pre (.norm false [4]) .ret))
 .skip)))))
 (.seq
 (.seq
 (.reg [mv 22 0,rg 23 (.len (.t 22)),rg 24 (.bin .sub (.t 23) (.c (.i .i64 1))),mv 5 24])
 (.lp 1 (.norm false [0,1,5]) l87_0 (.norm false [])))
 (.seq
 (.reg [rg 4 (.mov (.c (.i .i64 0)))])
 (.pre (.norm false [4]) .ret))))))
def l85_0:AX:=
 (.note
 (.seq
 (.reg [rg 21 (.bin .lss (.t 20) (.t 19))])
 (.seq
 (.cond (.t 21)
 .skip
 (.exit 0))
 (.seq
 (.block 1
 (.seq
 (.reg [mv 22 20,mv 7 22])
 (.seq
 (.reg [rg 8 (.mov (.c (u32 0)))])
 (.seq
 (.seq
 (.reg [mv 23 7,mv 24 1,rg 25 (.len (.t 24)),rg 26 (.bin .lss (.t 23) (.t 25))])
 (.cond (.t 26)
 (.reg [mv 27 1,mv 28 7,rg 29 (.iad 1 (.t 27) (.t 28)),rg 30 (.load none (.t 29)),mv 8 30])
 .skip))
 (.reg [mv 32 5,mv 33 7,mv 34 0,mv 35 7,rg 36 (.iad 1 (.t 34) (.t 35)),rg 37 (.load none (.t 36)),mv 38 8,mv 39 6,rg 40 (.call 115 [(.t 37),(.t 38),(.t 39)]),mv 31 40,rg 41 (.ext (.t 31) 0),rg 42 (.ext (.t 31) 1),rg 43 (.iad 1 (.t 32) (.t 33)),so (.store 1 (.t 43) (.t 41)),mv 6 42])))))
 (.reg [rg 44 (.bin .add (.t 20) (.c (.i .i64 1))),mv 20 44]))))
 (.norm false [0,1,5,6,19,20]))
def b85:AX:=
 (.seq
 (.reg [rg 4 (.mov (.c (.sl [] .nl)))])
 (.seq
 (.seq
 (.reg [mv 9 0,rg 10 (.len (.t 9)),mv 11 1,rg 12 (.len (.t 11)),rg 13 (.bin .lss (.t 10) (.t 12))])
 (.cond (.t 13)
 (.reg [mv 14 1,mv 15 0,mv 0 14,mv 1 15])
 .skip))
 (.seq
 (.reg [mv 16 0,rg 17 (.call 2106 [(.t 16),(.c (.i .i64 1))]),mv 5 17])
 (.seq
 (.reg [rg 6 (.mov (.c (u32 0)))])
 (.seq
 (.seq
 (.reg [mv 18 0,rg 19 (.len (.t 18)),rg 20 (.mov (.c (.i .i64 0)))])
 (.lp 0 (.norm false [0,1,5,6,19,20]) l85_0 (.norm false [0,5,6])))
 (.seq
 (.reg [mv 45 5,mv 46 0,rg 47 (.len (.t 46)),mv 48 6,rg 49 (.iad 1 (.t 45) (.t 47)),so (.store 1 (.t 49) (.t 48))])
 (.seq
 (.reg [mv 50 5,rg 51 (.call 86 [(.t 50)]),mv 4 51])
 (.pre (.norm false [4]) .ret))))))))
def l56_0:AX:=
 (.note
 (.seq
 (.reg [rg 9 (.bin .lss (.t 8) (.t 7))])
 (.seq
 (.cond (.t 9)
 .skip
 (.exit 0))
 (.seq
 (.block 1
 (.seq
 (.reg [rg 10 (.iad 1 (.t 6) (.t 8)),rg 11 (.load none (.t 10)),mv 5 11])
 (.reg [mv 12 3,mv 13 5,rg 14 (.call 86 [(.t 13)]),rg 15 (.call 85 [(.t 12),(.t 14)]),mv 3 15])))
 (.reg [rg 16 (.bin .add (.t 8) (.c (.i .i64 1))),mv 8 16]))))
 (.norm false [3,6,7,8]))
def b56:AX:=
 (.seq
 (.reg [rg 2 (.mov (.c (.sl [] .nl)))])
 (.seq
 (.reg [rg 3 (.mov (.c (.sl [] .nl)))])
 (.seq
 (.seq
 (.reg [mv 6 0,rg 7 (.len (.t 6)),rg 8 (.mov (.c (.i .i64 0)))])
 (.lp 0 (.norm false [3,6,7,8]) l56_0 (.norm false [3])))
 (.seq
 (.reg [mv 17 3,mv 2 17])
 (.pre (.norm false [2]) .ret)))))
def l88_0:AX:=
 (.note
 (.seq
 (.reg [rg 23 (.bin .lss (.t 22) (.t 21))])
 (.seq
 (.cond (.t 23)
 .skip
 (.exit 0))
 (.seq
 (.block 1
 (.seq
 (.reg [mv 24 22,mv 8 24])
 (.seq
 (.reg [rg 9 (.mov (.c (u32 0)))])
 (.seq
 (.seq
 (.reg [mv 25 8,mv 26 1,rg 27 (.len (.t 26)),rg 28 (.bin .lss (.t 25) (.t 27))])
 (.cond (.t 28)
 (.reg [mv 29 1,mv 30 8,rg 31 (.iad 1 (.t 29) (.t 30)),rg 32 (.load none (.t 31)),mv 9 32])
 .skip))
 (.reg [mv 34 6,mv 35 8,mv 36 0,mv 37 8,rg 38 (.iad 1 (.t 36) (.t 37)),rg 39 (.load none (.t 38)),mv 40 9,mv 41 7,rg 42 (.call 116 [(.t 39),(.t 40),(.t 41)]),mv 33 42,rg 43 (.ext (.t 33) 0),rg 44 (.ext (.t 33) 1),rg 45 (.iad 1 (.t 34) (.t 35)),so (.store 1 (.t 45) (.t 43)),mv 7 44])))))
 (.reg [rg 46 (.bin .add (.t 22) (.c (.i .i64 1))),mv 22 46]))))
 (.norm false [0,1,6,7,21,22]))
def b88:AX:=
 (.seq
 (.reg [rg 4 (.mov (.c (.sl [] .nl))),rg 5 (.mov (.c (.b false)))])
 (.seq
 (.reg [mv 10 0,rg 11 (.call 86 [(.t 10)]),mv 12 1,rg 13 (.call 86 [(.t 12)]),mv 0 11,mv 1 13])
 (.seq
 (.seq
 (.reg [mv 14 0,mv 15 1,rg 16 (.call 87 [(.t 14),(.t 15)]),rg 17 (.bin .lss (.t 16) (.c (.i .i64 0)))])
 (.cond (.t 17)
 (.seq
 (.reg [rg 4 (.mov (.c (.sl [] .nl))),rg 5 (.mov (.c (.b false)))])
 (.pre (.norm false [4,5]) .ret))
 .skip))
 (.seq
 (.reg [mv 18 0,rg 19 (.call 2106 [(.t 18),(.c (.i .i64 0))]),mv 6 19])
 (.seq
 (.reg [rg 7 (.mov (.c (u32 0)))])
 (.seq
 (.seq
 (.reg [mv 20 0,rg 21 (.len (.t 20)),rg 22 (.mov (.c (.i .i64 0)))])
 (.lp 0 (.norm false [0,1,6,7,21,22]) l88_0 (.norm false [6])))
 (.seq
 (.reg [mv 47 6,rg 48 (.call 86 [(.t 47)]),mv 4 48,rg 5 (.mov (.c (.b true)))])
 (.pre (.norm false [4,5]) .ret))))))))
def b57:AX:=
 (.seq
 (.reg [rg 4 (.mov (.c (.sl [] .nl))),rg 5 (.mov (.c (.i .i64 0)))])
 (.seq
 (.reg [mv 9 0,mv 10 1,rg 11 (.call 87 [(.t 9),(.t 10)]),mv 6 11])
 (.seq
 (.seq
 (.reg [mv 12 6,rg 13 (.bin .lss (.t 12) (.c (.i .i64 0)))])
 (.cond (.t 13)
 (.reg [mv 14 1,mv 15 0,mv 0 14,mv 1 15])
 .skip))
 (.seq
 (.reg [mv 17 0,mv 18 1,rg 19 (.call 88 [(.t 17),(.t 18)]),mv 16 19,rg 20 (.ext (.t 16) 0),rg 21 (.ext (.t 16) 1),mv 7 20,mv 8 21])
 (.seq
 (.reg [mv 22 7,mv 23 6,mv 4 22,mv 5 23])
 (.pre (.norm false [4,5]) .ret))))))
def b2106:AX:=
 (.seq
 (.reg [rg 4 (.mov (.c (.sl [] .nl)))])
 (.seq
 (.reg [mv 6 0,rg 7 (.len (.t 6)),mv 8 1,rg 9 (.bin .add (.t 7) (.t 8)),rg 10 (.mks 1 [(u32 0)] (.t 9) (.t 9)),mv 5 10])
 (.seq
 (.reg [mv 11 5,mv 12 0,rg 13 (.xop .cpy [(.t 11),(.t 12)])])
 (.seq
 (.reg [mv 14 5,mv 4 14])
 (.pre (.norm false [4]) .ret)))))
def row86:AFx:=⟨1,21,[.t 2],b86,none,false⟩
def row106:AFx:=⟨2,15,[.t 4],b106,none,false⟩
def row71:AFx:=⟨1,6,[.t 2],b71,none,false⟩
def row72:AFx:=⟨1,10,[.t 2],b72,none,false⟩
def row73:AFx:=⟨1,28,[.t 2,.t 3],b73,none,false⟩
def row70:AFx:=⟨1,7,[.t 2],b70,none,false⟩
def row87:AFx:=⟨2,49,[.t 4],b87,none,false⟩
def row85:AFx:=⟨2,52,[.t 4],b85,none,false⟩
def row56:AFx:=⟨1,18,[.t 2],b56,none,false⟩
def row88:AFx:=⟨2,49,[.t 4,.t 5],b88,none,false⟩
def row57:AFx:=⟨2,24,[.t 4,.t 5],b57,none,false⟩
def row2106:AFx:=⟨2,15,[.t 4],b2106,(some [false,false]),false⟩
class Zu (T:Tbl):Prop extends Zab T where
 h86:T 86=some row86
 h106:T 106=some row106
 h71:T 71=some row71
 h72:T 72=some row72
 h73:T 73=some row73
 h70:T 70=some row70
 h87:T 87=some row87
 h85:T 85=some row85
 h56:T 56=some row56
 h88:T 88=some row88
 h57:T 57=some row57
 h2106:T 2106=some row2106
section
variable{T:Tbl}[Zu T]{d:Option Nat}{st:St}
@[simp] theorem x86(xs:List AV):Zd (orc T) T 86 xs d st=cP T 86 false xs d st:=zaa Zu.h86
@[simp] theorem x106(xs:List AV):Zd (orc T) T 106 xs d st=cP T 106 false xs d st:=zaa Zu.h106
@[simp] theorem x71(xs:List AV):Zd (orc T) T 71 xs d st=cP T 71 false xs d st:=zaa Zu.h71
@[simp] theorem y71{e:Env}{h:Heap}{older:List Heap}(args:List Opd):opD (orc T) T (.call 71 args) e h older=dR (Zb T 71 ((args.map (ev e.get)).map (wkIf false))) (args.map (ev e.get)):=zao Zu.h71
@[simp] theorem x72(xs:List AV):Zd (orc T) T 72 xs d st=cP T 72 false xs d st:=zaa Zu.h72
@[simp] theorem y72{e:Env}{h:Heap}{older:List Heap}(args:List Opd):opD (orc T) T (.call 72 args) e h older=dR (Zb T 72 ((args.map (ev e.get)).map (wkIf false))) (args.map (ev e.get)):=zao Zu.h72
@[simp] theorem x73(xs:List AV):Zd (orc T) T 73 xs d st=cP T 73 false xs d st:=zaa Zu.h73
@[simp] theorem x70(xs:List AV):Zd (orc T) T 70 xs d st=cP T 70 false xs d st:=zaa Zu.h70
@[simp] theorem x87(xs:List AV):Zd (orc T) T 87 xs d st=cP T 87 false xs d st:=zaa Zu.h87
@[simp] theorem x85(xs:List AV):Zd (orc T) T 85 xs d st=cP T 85 false xs d st:=zaa Zu.h85
@[simp] theorem x56(xs:List AV):Zd (orc T) T 56 xs d st=cP T 56 false xs d st:=zaa Zu.h56
@[simp] theorem y56{e:Env}{h:Heap}{older:List Heap}(args:List Opd):opD (orc T) T (.call 56 args) e h older=dR (Zb T 56 ((args.map (ev e.get)).map (wkIf false))) (args.map (ev e.get)):=zao Zu.h56
@[simp] theorem x88(xs:List AV):Zd (orc T) T 88 xs d st=cP T 88 false xs d st:=zaa Zu.h88
@[simp] theorem x57(xs:List AV):Zd (orc T) T 57 xs d st=cP T 57 false xs d st:=zaa Zu.h57
@[simp] theorem x2106(xs:List AV):Zd (orc T) T 2106 xs d st=bL (Zeb st.heap [false,false] xs) fun ys=>Zdp ys (Zm (Za1 [false,false] xs) st.heap) (Zcy (Zm (Za1 [false,false] xs) st.heap) 40 (Zci [false,false] xs) []) T 2106 false d st:=zav Zu.h2106
end
end Go.Ab
end
section
namespace Go.Ab
def val:List UInt32→Nat
 | []=>0
 | x::l=>x.toNat+4294967296*val l
def ofN(n:Nat):List UInt32:=if n=0 then [] else w32 n::ofN (n/4294967296)
termination_by n
decreasing_by omega
def Zin(l:List UInt32):Prop:=∀x,l.getLast? = some x→x.toNat≠0
@[simp] theorem za3:val []=0:=rfl
@[simp] theorem zak(x:UInt32)(l:List UInt32):val (x::l)=x.toNat+4294967296*val l:=rfl
@[simp] theorem zgu:ofN 0=[]:=by rw[ofN];rfl
theorem zga{n:Nat}(h:n≠0):ofN n=w32 n::ofN (n/4294967296):=by rw[ofN,if_neg h]
theorem zbv(n:Nat):(w32 n).toNat=n%4294967296:=zbh n
theorem zz6{x:UInt32}{n:Nat}(h:n%4294967296=x.toNat):w32 n=x:=by
 rw[←Yef,zbv,h]
theorem zae(n:Nat):val (ofN n)=n:=by
 induction n using Nat.strongRecOn with
 | _ n ih=>
  by_cases h:n=0
  ·subst h;simp
  ·rw[zga h,zak,ih (n/4294967296) (by omega),zbv];omega
theorem zai(l m:List UInt32):val (l++m)=val l+4294967296^l.length*val m:=by
 induction l with
 | nil=>simp
 | cons x l ih=>
  simp only[Ybj,zak,ih,Yd,Y8,Yan,Yao];congr 2;rw[←Yab,Yam 4294967296 (4294967296^l.length)]
theorem zax(l:List UInt32):val l<4294967296^l.length:=by
 induction l with
 | nil=>simp
 | cons x l ih=>
  have:=zaj x;simp only[zak,Yd,Y8];omega
theorem zjq{x:UInt32}{l:List UInt32}(h:Zin (x::l)):Zin l:=by
 intro y hy;apply h;cases l with
 | nil=>simp at hy
 | cons z l=>rw[List.getLast?_cons_cons];exact hy
theorem zy9{l:List UInt32}(h:Zin l):val l=0↔l=[]:=by
 constructor
 ·intro h0
  induction l with
  | nil=>rfl
  | cons x l ih=>
   exfalso;simp only[zak]at h0;have h1:=ih (zjq h) (by omega);subst h1;exact h x (by simp) (by omega)
 ·rintro rfl;rfl
theorem z23{l:List UInt32}(h:Zin l):ofN (val l)=l:=by
 induction l with
 | nil=>simp
 | cons x l ih=>
  have hx:=zaj x;have hne:val (x::l)≠0:=fun h0=>by have:=(zy9 h).1 h0;cases this
  rw[zga hne];congr 1
  ·exact zz6 (by simp only[zak];omega)
  ·rw[show val (x::l)/4294967296=val l by simp only[zak];omega];exact ih (zjq h)
theorem zar{n:Nat}:ofN n=[]↔n=0:=⟨fun h=>by rw[←zae n,h];rfl,fun h=>by rw[h];simp⟩
theorem zr7{a:List UInt32}{n:Nat}(hn:n≤a.length)(h0:∀(i:Nat) (x:UInt32),n≤i→a[i]? = some x→x.toNat=0)(h1:∀x:UInt32,0<n→a[n-1]? = some x→x.toNat≠0):a.take n=ofN (val a):=by
 have hr:Zin (a.take n):=by
  intro x hx;have hn0:0<n:=by
   rcases Yay n with h | h
   ·subst h;simp at hx
   ·exact h
  apply h1 x hn0;rw[List.getLast?_eq_getElem?,Y6,Ydf hn,Y0,if_pos (by omega)]at hx;exact hx
 have hz:∀l:List UInt32,(∀(i:Nat) (x:UInt32),l[i]? = some x→x.toNat=0)→val l=0:=by
  intro l
  induction l with
  | nil=>intro _;rfl
  | cons x l ih=>
   intro h;have h2:=h 0 x rfl;have h3:=ih fun i y hy=>h (i+1) y (by simpa using hy);simp only[zak,h2,h3]
 have hv:val a=val (a.take n):=by
  have e:=zai (a.take n) (a.drop n);rw[Yaq,hz (a.drop n) (fun i x hx=>h0 (n+i) x (by omega) (by rw[Yaj]at hx;exact hx))]at e;omega
 rw[hv,z23 hr]
theorem zfr(a:List UInt32):∃n,n≤a.length∧a.take n=ofN (val a)∧(∀(i:Nat) (x:UInt32),n≤i→a[i]? = some x→x.toNat=0)∧(∀x:UInt32,0<n→a[n-1]? = some x→x.toNat≠0):=by
 have key:∀k,k≤a.length→(∀(i:Nat) (x:UInt32),k≤i→a[i]? = some x→x.toNat=0)→∃n,n≤k∧(∀(i:Nat) (x:UInt32),n≤i→a[i]? = some x→x.toNat=0)∧(∀x:UInt32,0<n→a[n-1]? = some x→x.toNat≠0):=by
  intro k
  induction k with
  | zero=>intro _ h;exact⟨0,Yf _,h,fun x hx=>by omega⟩
  | succ k ih=>
   intro hk h;by_cases hz:(a[k]'(by omega)).toNat=0
   ·obtain⟨n,h1,h2,h3⟩:=ih (by omega) fun i x hi hx=>by
     rcases Yq k i with h4 | h4
     ·exact h i x h4 hx
     ·have:i=k:=by omega
      subst this;rw[Ya (by omega)]at hx;cases hx;exact hz
    exact⟨n,by omega,h2,h3⟩
   ·refine⟨k+1,Yf _,h,fun x _ hx=>?_⟩;rw[Nat.add_sub_cancel,Ya (by omega)]at hx;cases hx;exact hz
 obtain⟨n,h1,h2,h3⟩:=key a.length (Yf _) fun i x hi hx=>by rw[Yak hi]at hx;cases hx
 exact⟨n,h1,zr7 h1 h2 h3,h2,h3⟩
theorem zad(a:List UInt32):(ofN (val a)).length≤a.length:=by
 obtain⟨n,h1,h2,_⟩:=zfr a;rw[←h2,Y6];omega
theorem zag{n k:Nat}(h:n<4294967296^k):(ofN n).length≤k:=by
 induction k generalizing n with
 | zero=>
  have:n=0:=by simp at h;omega
  subst this;simp
 | succ k ih=>
  by_cases h0:n=0
  ·subst h0;simp
  ·rw[zga h0,Yd];have:=ih (n:=n/4294967296) (by rw[Y8]at h;omega);omega
theorem zaf{a:List UInt32}{i:Nat}{x:UInt32}(h:a[i]? = some x):val (a.take (i+1))=val (a.take i)+4294967296^i*x.toNat:=by
 have hi:i<a.length:=by
  rcases Yq i a.length with h1 | h1
  ·exact h1
  ·rw[Yak h1]at h;cases h
 rw[Ycz,h,zai];simp only[Option.toList_some,zak,za3,Yal,Yx,Y6];rw[Ydf (by omega)]
theorem zbn{a:List UInt32}{i:Nat}(x:UInt32)(h:i<a.length):val ((a.set i x).take (i+1))=val (a.take i)+4294967296^i*x.toNat:=by
 rw[zaf (x:=x) (by rw[Ydg h]),List.take_set_of_le (Yf i)]
theorem zbd{a:List UInt32}{i:Nat}(h:a.length≤i):val (a.take i)=val a:=by rw[Yb h]
theorem zau(n:Nat):val (List.replicate n 0)=0:=by
 induction n with
 | zero=>rfl
 | succ n ih=>simp[Ybk,ih]
theorem zgb{m n:Nat}(h:(ofN m).length<(ofN n).length):m<n:=by
 rcases Yq m n with h1 | h1
 ·exact h1
 ·exfalso;have h2:=zax (ofN m);rw[zae]at h2;have:=zag (show n<4294967296^(ofN m).length by omega);omega
theorem zas{m n:Nat}(h:m≤n):(ofN m).length≤(ofN n).length:=by
 rcases Yq (ofN n).length (ofN m).length with h1 | h1
 ·have:=zgb h1;omega
 ·exact h1
def Zde(x y:Nat):Int:=if x<y then -1 else if y<x then 1 else 0
theorem zwj{a b:List UInt32}{i:Nat}{x y:UInt32}(hx:a[i]? = some x)(hy:b[i]? = some y)(h:x.toNat<y.toNat):val (a.take (i+1))<val (b.take (i+1)):=by
 rw[zaf hx,zaf hy];have h1:=zax (a.take i);have h2:4294967296^(a.take i).length≤4294967296^i:=Ym (by decide) (by simp;omega);have h3:=Yag (4294967296^i) (show x.toNat+1≤y.toNat from h);rw[Yan]at h3;omega
theorem zkv{x y c:Nat}(hx:x<4294967296)(hy:y<4294967296)(hc:c≤1) :
  (x+8589934592-(y+c))%4294967296+(y+c)=x+4294967296*(2-(x+8589934592-(y+c))/4294967296)∧2-(x+8589934592-(y+c))/4294967296≤1:=by omega
def lls(l:List (List UInt32)):List (List AV):=l.map fun a=>[.sl (Za a) .an]
@[simp] theorem z41(l:List (List UInt32)):(lls l).length=l.length:=by simp[lls]
@[simp] theorem zai5(l:List (List UInt32)):wkL (lls l)=lls l:=by rw[zb6];simp[lls,wkR]
@[simp] theorem z24(l:List (List UInt32))(i:Nat)(h:i<(lls l).length):(lls l)[i]=[.sl (Za (l[i]'(by simpa using h))) .an]:=by simp[lls]
end Go.Ab
end
section
namespace Go.Ab
section
variable{T:Tbl}
theorem zug(a:List UInt32)(hl:a.length<9223372036854775808){n:Nat}(hn:n≤a.length)(h0:∀(i:Nat) (x:UInt32),n≤i→a[i]? = some x→x.toNat=0)(h1:∀x:UInt32,0<n→a[n-1]? = some x→x.toNat≠0) :
  ∀m:Nat,(n≤m∧m≤a.length)→Zn T 0 0 (.norm false [0,3]) l86_0 ⟨[(0,.sl (Za a) .an),(3,.i .i64 (m:Int))],[],2⟩=some (.n,⟨[(0,.sl (Za a) .an),(3,.i .i64 (n:Int))],[],2⟩):=by
 refine zan (fun m:Nat=>⟨[(0,.sl (Za a) .an),(3,.i .i64 (m:Int))],[],2⟩) _ (fun m=>m) _ ?_
 rintro m ⟨hm,hma⟩
 by_cases h2:m=0
 ·right;subst h2;have:n=0:=by omega
  subst this;constructor<;>simp[l86_0]
 ·have hw:IntKind.wrap .i64 ((m:Int)-1)=((m-1:Nat):Int):=by rw[zab _ (by omega)];omega
  have hm1:m-1<a.length:=by omega
  have hg:a[m-1]? = some (a[m-1]'hm1):=Ya hm1;have hpos:0<m:=by omega
  by_cases h3:m=n
  ·right;subst h3;have hx:=h1 _ hpos hg;constructor<;>simp[l86_0,hpos,hw,hm1,hx]
  ·left;refine⟨m-1,⟨by omega,by omega⟩,by show m-1<m;omega,?_,rfl⟩;have hx:=h0 (m-1) _ (by omega) hg;simp[l86_0,hpos,hw,hm1,hx]
end
section
variable{T:Tbl}[Zu T]
theorem zbq(a:List UInt32)(hl:a.length≤4294967296):Zb T 86 [.sl (Za a) .an]=some (.sl (Za (ofN (val a))) .an):=by
 obtain⟨n,h1,h2,h3,h4⟩:=zfr a;have hr:=zug (T:=T) a (by omega) h1 h3 h4 a.length ⟨h1,Yf _⟩;rw[zac Zu.h86 rfl,b86];simp[hr,h1,h2]
theorem zuh(a:List UInt32)(m:Nat)(hl:a.length+m≤4294967296):Zb T 106 [.sl (Za a) .an,.i .i64 (m:Int)]=some (.sl (Za (a++List.replicate m 0)) .an):=by
 have hw:IntKind.wrap .i64 ((a.length:Int)+m)=((a.length+m:Nat):Int):=zab _ (by omega);have h0:(0:Int)≤(a.length:Int)+m:=by omega
 have h2:(a.length:Int)+m≤4294967296:=by omega
 have h3:((a.length:Int)+m).toNat=a.length+m:=by omega
 rw[zac Zu.h106 rfl,b106];simp[hw,h0,h2,h3,Yb]
theorem zb9(a:List UInt32)(m:Nat)(hl:a.length+m≤4294967296):Zbx T 2106 [.sl (Za a) .an,.i .i64 (m:Int)] [] =
  some (.bs (.loc 10) 1 1 0 (a.length+m),[(.loc 10,⟨1,.own,1,Za (a++List.replicate m 0)⟩)]):=by
 have hw:IntKind.wrap .i64 ((a.length:Int)+m)=((a.length+m:Nat):Int):=zab _ (by omega);have h0:(0:Int)≤(a.length:Int)+m:=by omega
 have h2:(a.length:Int)+m≤4294967296:=by omega
 have h3:((a.length:Int)+m).toNat=a.length+m:=by omega
 rw[za4 Zu.h2106 rfl,b2106];simp[hw,h0,h2,h3]
theorem zbf(a:List UInt32)(hl:a.length≤4294967296):Zb T 71 [.sl (Za a) .an]=some (.sl (Za (ofN (val a))) .an):=by
 have h1:=zad a;have h2:=zuh (T:=T) (ofN (val a)) 0 (by omega);simp only[Yt]at h2;rw[zac Zu.h71 rfl,b71];simp[zbq a hl,h2]
theorem zeo(n:Nat)(h:n<18446744073709551616):Zb T 72 [u64 n]=some (.sl (Za (ofN n)) .an):=by
 have e2:val [w32 n,w32 (n/4294967296)]=n:=by simp[zbv];omega
 have h2:=zbq (T:=T) [w32 n,w32 (n/4294967296)] (by simp);rw[e2]at h2;have h3:n/4294967296%4294967296=n/4294967296:=Yi (by omega);rw[zac Zu.h72 rfl,b72];simp[h3,zbe _ _ _ (show n/4294967296<4294967296 by omega),h2]
theorem zki(a:List UInt32)(hl:a.length≤4294967296):Zb T 70 [.sl (Za a) .an]=some (.b (decide (val a=0))):=by
 rw[zac Zu.h70 rfl,b70];have:((((ofN (val a)).length:Int) == 0))=decide (val a=0):=by
  rw[Yb5];simp[zar]
 simp[zbq a hl,this]
def Zf1(a b:List UInt32)(y:Nat×Nat×List UInt32):St:=
 ⟨[(0,.sl (Za a) .an),(1,.sl (Za b) .an),(5,.bs (.fld (.loc 17) 10) 1 1 0 (a.length+1)),(6,u32 y.2.1),(19,.i .i64 a.length),(20,.i .i64 y.1)],
  [(.fld (.loc 17) 10,⟨1,.own,1,Za y.2.2⟩)],3⟩
theorem zmd(a b:List UInt32)(hb:b.length≤a.length)(hl:a.length≤1000000):∀y:Nat×Nat×List UInt32,
  (y.1≤a.length∧y.2.1≤1∧y.2.2.length=a.length+1∧val (y.2.2.take y.1)+4294967296^y.1*y.2.1=val (a.take y.1)+val (b.take y.1)) →
  ∃r,(∃(c:Nat) (out:List UInt32),r=(Ex.n,(⟨[(0,.sl (Za a) .an),(5,.bs (.fld (.loc 17) 10) 1 1 0 (a.length+1)),(6,u32 c)],[(.fld (.loc 17) 10,⟨1,.own,1,Za out⟩)],3⟩:St)) ∧
   out.length=a.length+1∧c≤1∧val (out.take a.length)+4294967296^a.length*c=val a+val b)∧Zn T 0 0 (.norm false [0,5,6]) l85_0 (Zf1 a b y)=some r:=by
 refine zaq _ _ (fun y=>a.length-y.1) _ ?_
 rintro⟨i,c,out⟩ ⟨hi,hc,ho,hv⟩
 simp only at hi hc ho hv;by_cases h0:i<a.length
 ·left;have ha:a[i]? = some (a[i]'h0):=Ya h0;have hoi:i<out.length:=by omega
  have hog:out[i]? = some (out[i]'hoi):=Ya hoi;have hw:IntKind.wrap .i64 ((i:Int)+1)=((i+1:Nat):Int):=zab _ (by omega);have hc2:c<4294967296:=by omega
  have hil:(i:Int)<(a.length:Int)+1:=by omega
  have h1:=zaf ha;by_cases h2:i<b.length
  ·have hbg:b[i]? = some (b[i]'h2):=Ya h2;have h3:=zaf hbg;refine⟨(i+1,((a[i]'h0).toNat+(b[i]'h2).toNat+c)/4294967296,out.set i (w32 ((a[i]'h0).toNat+(b[i]'h2).toNat+c))),⟨by simp only;omega,?_,by simp[ho],?_⟩,by simp only;omega,?_⟩
   ·have:=zaj (a[i]'h0);have:=zaj (b[i]'h2);simp only;omega
   ·simp only;rw[zbn _ hoi,h1,h3,zbv,Y8];generalize 4294967296^i=p at *
    generalize (a[i]'h0).toNat=x at *
    generalize (b[i]'h2).toNat=z at *
    have e:=Ybu (x+z+c) 4294967296;have e2:p*((x+z+c)%4294967296)+p*4294967296*((x+z+c)/4294967296)=p*(x+z+c):=by
     conv=>rhs;rw[←e]
     rw[Yan,Yab];omega
    rw[Yan,Yan]at e2;omega
   ·simp[l85_0,Zf1,h0,h2,hog,hw,hil,zdz,hc2]
  ·have h3:val (b.take (i+1))=val (b.take i):=by rw[zbd (by omega),zbd (by omega)]
   refine⟨(i+1,((a[i]'h0).toNat+0+c)/4294967296,out.set i (w32 ((a[i]'h0).toNat+0+c))),⟨by simp only;omega,?_,by simp[ho],?_⟩,by simp only;omega,?_⟩
   ·have:=zaj (a[i]'h0);simp only;omega
   ·simp only;rw[zbn _ hoi,h1,h3,zbv,Y8];generalize 4294967296^i=p at *
    generalize (a[i]'h0).toNat=x at *
    have e:=Ybu (x+0+c) 4294967296;have e2:p*((x+0+c)%4294967296)+p*4294967296*((x+0+c)/4294967296)=p*(x+0+c):=by
     conv=>rhs;rw[←e]
     rw[Yan,Yab];omega
    rw[Yan,Yan]at e2;omega
   ·simp[l85_0,Zf1,h0,h2,hog,hw,hil,zdz,hc2]
 ·right;have:i=a.length:=by omega
  subst this;rw[Yb (Yf _),Yb hb]at hv;refine⟨_,⟨c,out,rfl,ho,hc,hv⟩,?_,?_⟩<;>simp[l85_0,Zf1]
theorem zui(a b:List UInt32)(hb:b.length≤a.length)(hl:a.length≤1000000):Zb T 85 [.sl (Za a) .an,.sl (Za b) .an]=some (.sl (Za (ofN (val a+val b))) .an):=by
 have hf:=zb9 (T:=T) a 1 (by omega);simp only[Yae]at hf;obtain⟨_,⟨c,out,rfl,ho,hc,hv⟩,hr⟩:=zmd (T:=T) a b hb hl (0,0,a++List.replicate 1 0) ⟨Yl _,Yl _,by simp,by simp⟩;unfold Zf1 at hr;simp at hr;have hog:out[a.length]? = some (out[a.length]'(by omega)):=Ya _;have h1:¬ (a.length:Int)<b.length:=by omega
 have h2:¬ a.length<b.length:=by omega
 have h3:(a.length:Int)<(a.length:Int)+1:=by omega
 have hval:val (out.set a.length (w32 c))=val a+val b:=by
  rw[←Yb (l:=out.set a.length (w32 c)) (i:=a.length+1) (by simp;omega),zbn _ (by omega),zah (by omega)];exact hv
 have ht:=zbq (T:=T) (out.set a.length (w32 c)) (by simp;omega);rw[hval]at ht;have htk:List.take (a.length+1) (out.set a.length (w32 c))=out.set a.length (w32 c):=Yb (by simp;omega);rw[zac Zu.h85 rfl,b85];simp[h1,hf,hr,h3,zbe _ _ _ (show c<4294967296 by omega),htk,ht,ho]
theorem zra(a b:List UInt32)(hb:a.length<b.length)(hl:b.length≤1000000):Zb T 85 [.sl (Za a) .an,.sl (Za b) .an]=some (.sl (Za (ofN (val a+val b))) .an):=by
 have hf:=zb9 (T:=T) b 1 (by omega);simp only[Yae]at hf;obtain⟨_,⟨c,out,rfl,ho,hc,hv⟩,hr⟩:=zmd (T:=T) b a (by omega) hl (0,0,b++List.replicate 1 0) ⟨Yl _,Yl _,by simp,by simp⟩;unfold Zf1 at hr;simp at hr;have hog:out[b.length]? = some (out[b.length]'(by omega)):=Ya _;have h1:(a.length:Int)<b.length:=by omega
 have h3:(b.length:Int)<(b.length:Int)+1:=by omega
 have hval:val (out.set b.length (w32 c))=val a+val b:=by
  rw[←Yb (l:=out.set b.length (w32 c)) (i:=b.length+1) (by simp;omega),zbn _ (by omega),zah (by omega),hv,Ya0]
 have ht:=zbq (T:=T) (out.set b.length (w32 c)) (by simp;omega);rw[hval]at ht;have htk:List.take (b.length+1) (out.set b.length (w32 c))=out.set b.length (w32 c):=Yb (by simp;omega);rw[zac Zu.h85 rfl,b85];simp[h1,hf,hr,h3,zbe _ _ _ (show c<4294967296 by omega),htk,ht,ho]
theorem zx5(a b:List UInt32)(ha:a.length≤1000000)(hb:b.length≤1000000):Zb T 85 [.sl (Za a) .an,.sl (Za b) .an]=some (.sl (Za (ofN (val a+val b))) .an):=by
 rcases Yq a.length b.length with h | h
 ·exact zra a b h hb
 ·exact zui a b h ha
def Zdx(l:List (List UInt32)):Nat:=(l.map val).sum
theorem zx6(K:Nat):∀m:List (List UInt32),m.length≤1000→(∀a∈m,a.length≤K)→(ofN (Zdx m)).length≤K+1:=by
 intro m hm hw;apply zag;rw[Y8];have hp0:0<4294967296^K:=Ya2 (by decide);have hall:∀a∈m,val a<4294967296^K:=fun a ha=>Yp (zax a) (Ym (by decide) (hw a ha));generalize 4294967296^K=p at *
 have h1:Zdx m≤m.length*p:=by
  clear hm hw
  induction m with
  | nil=>simp[Zdx]
  | cons a m ih=>
   have h2:=ih fun a ha=>hall a (Ys _ ha);have h3:=hall a Y9;simp only[Zdx,Y2,Yc0,Yd,Ybp,Yec]at h2 ⊢;omega
 have h6:=Y5 p hm;omega
theorem zx7(l:List (List UInt32))(hl:l.length≤1000)(hw:∀a∈l,a.length≤90000):∀i:Nat,i≤l.length →
  Zn T 0 0 (.norm false [3]) l56_0 ⟨[(3,.sl (Za (ofN (Zdx (l.take i)))) .an),(6,.sl (lls l) .an),(7,.i .i64 l.length),(8,.i .i64 i)],[],2⟩=some (.n,⟨[(3,.sl (Za (ofN (Zdx l))) .an)],[],2⟩):=by
 refine zan (fun i:Nat=>⟨[(3,.sl (Za (ofN (Zdx (l.take i)))) .an),(6,.sl (lls l) .an),(7,.i .i64 l.length),(8,.i .i64 i)],[],2⟩) _ (fun i=>l.length-i) _ ?_;intro i hi;by_cases h0:i<l.length
 ·left;have hg:l[i]? = some (l[i]'h0):=Ya h0;have hwr:IntKind.wrap .i64 ((i:Int)+1)=((i+1:Nat):Int):=zab _ (by omega);have hw1:=hw _ (Yaf h0);have ht:=zbq (T:=T) (l[i]'h0) (by omega);have hs:=zx6 90000 (l.take i) (by simp;omega) fun a ha=>hw a (Ya5 ha);have hp:=zx5 (T:=T) (ofN (Zdx (l.take i))) (ofN (val (l[i]'h0))) (by omega) (by have:=zad (l[i]'h0);omega);rw[zae,zae]at hp;have e:Zdx (l.take i)+val (l[i]'h0)=Zdx (l.take (i+1)):=by
   unfold Zdx;rw[Ycz,hg];simp only[Option.toList_some,Yde,Y2,Yc7,List.sum_append,Yc0,List.sum_nil,Yx]
  rw[e]at hp;have hz:Zis 1 (lls l)=true:=by cases l<;>simp[lls,Zis]
  refine⟨i+1,h0,by show l.length-(i+1)<l.length-i;omega,?_,rfl⟩;simp[l56_0,h0,ht,hp,hwr]
 ·right;have:i=l.length:=by omega
  subst this;rw[Yb (Yf _)];constructor<;>simp[l56_0]
theorem zpm(l:List (List UInt32))(hl:l.length≤1000)(hw:∀a∈l,a.length≤90000):Zb T 56 [.sl (lls l) .an]=some (.sl (Za (ofN (Zdx l))) .an):=by
 have h:=zx7 (T:=T) l hl hw 0 (Yl _);simp[Zdx]at h;rw[zac Zu.h56 rfl,b56];simp[h,Zdx]
theorem zuj(l:List (List UInt32))(hl:l.length≤1000)(hw:∀a∈l,a.length≤10000):Zb T 56 [.sl (lls l) .an]=some (.sl (Za (ofN (Zdx l))) .an):=zpm (T:=T) l hl (fun a h=>Ye (hw a h) (by decide))
end
section
variable{T:Tbl}
theorem zx8(a b:List UInt32)(hab:a.length=b.length)(hl:a.length≤1000000):∀m:Nat,m≤a.length →
  Zn T 0 1 (.norm false []) l87_0 ⟨[(0,.sl (Za a) .an),(1,.sl (Za b) .an),(5,.i .i64 ((m:Int)-1))],[],2⟩ =
   if val (a.take m)<val (b.take m) then some (.r,⟨[(4,.i .i64 (-1))],[],2⟩) else if val (b.take m)<val (a.take m) then some (.r,⟨[(4,.i .i64 1)],[],2⟩) else some (.n,⟨[],[],2⟩):=by
 refine zan (fun m:Nat=>⟨[(0,.sl (Za a) .an),(1,.sl (Za b) .an),(5,.i .i64 ((m:Int)-1))],[],2⟩) _ (fun m=>m) _ ?_;intro m hm;cases m with
 | zero=>
  right;constructor<;>simp[l87_0]
 | succ i=>
  have ha:a[i]? = some (a[i]'(by omega)):=Ya _;have hb:b[i]? = some (b[i]'(by omega)):=Ya _;have hia:i<a.length:=by omega
  have hib:i<b.length:=by omega
  have hw:IntKind.wrap .i64 ((i:Int)-1)=(i:Int)-1:=zab _ (by omega);rcases Ybr (a[i]'hia).toNat (b[i]'hib).toNat with h1 | h1 | h1
  ·right;have h2:=zwj ha hb h1;constructor<;>simp[l87_0,hia,hib,h1,h2]
  ·left;refine⟨i,by omega,Y4 i,?_,?_⟩
   ·simp[l87_0,hia,hib,h1,hw]
   ·have e1:=zaf ha;have e2:=zaf hb;rw[e1,e2,h1];have e3:(val (a.take i)+4294967296^i*(b[i]'hib).toNat<val (b.take i)+4294967296^i*(b[i]'hib).toNat)=(val (a.take i)<val (b.take i)):=by
     apply propext;omega
    have e4:(val (b.take i)+4294967296^i*(b[i]'hib).toNat<val (a.take i)+4294967296^i*(b[i]'hib).toNat)=(val (b.take i)<val (a.take i)):=by
     apply propext;omega
    simp only[e3,e4]
  ·right;have h2:=zwj hb ha h1;have h3:¬ val (a.take (i+1))<val (b.take (i+1)):=by omega
   have h4:¬ (a[i]'hia).toNat<(b[i]'hib).toNat:=by omega
   constructor<;>simp[l87_0,hia,hib,h1,h2,h3,h4]
end
section
variable{T:Tbl}[Zu T]
theorem zhv(a b:List UInt32)(ha:a.length≤1000000)(hb:b.length≤1000000):Zb T 87 [.sl (Za a) .an,.sl (Za b) .an]=some (.i .i64 (Zde (val a) (val b))):=by
 have hta:=zbq (T:=T) a (by omega);have htb:=zbq (T:=T) b (by omega);have hla:=zad a;have hlb:=zad b;rw[zac Zu.h87 rfl,b87];rcases Ybr (ofN (val a)).length (ofN (val b)).length with h | h | h
 ·have h1:=zgb h;simp[hta,htb,h,Zde,h1]
 ·have hc:=zx8 (T:=T) (ofN (val a)) (ofN (val b)) h (by omega) (ofN (val a)).length (Yf _);rw[Yb (Yf _),Yb (by omega),zae,zae]at hc;have hw:IntKind.wrap .i64 (((ofN (val a)).length:Int)-1)=((ofN (val a)).length:Int)-1:=zab _ (by omega);have h1:¬ (ofN (val a)).length<(ofN (val b)).length:=by omega
  have h2:¬ (ofN (val b)).length<(ofN (val a)).length:=by omega
  simp[hta,htb,h1,h2,hw,hc,Zde]
  repeat' split
  all_goals simp
 ·have h1:=zgb h;have h2:¬ val a<val b:=by omega
  have h3:¬ (ofN (val a)).length<(ofN (val b)).length:=by omega
  simp[hta,htb,h,Zde,h1,h2,h3]
def Zig(a b:List UInt32)(y:Nat×Nat×List UInt32):St:=
 ⟨[(0,.sl (Za a) .an),(1,.sl (Za b) .an),(6,.bs (.fld (.loc 19) 10) 1 1 0 a.length),(7,u32 y.2.1),(21,.i .i64 a.length),(22,.i .i64 y.1)],
  [(.fld (.loc 19) 10,⟨1,.own,1,Za y.2.2⟩)],3⟩
theorem zx9(a b:List UInt32)(hb:b.length≤a.length)(hl:a.length≤1000000):∀y:Nat×Nat×List UInt32,
  (y.1≤a.length∧y.2.1≤1∧y.2.2.length=a.length∧val (y.2.2.take y.1)+val (b.take y.1)=val (a.take y.1)+4294967296^y.1*y.2.1) →
  ∃r,(∃(c:Nat) (out:List UInt32),r=(Ex.n,(⟨[(6,.bs (.fld (.loc 19) 10) 1 1 0 a.length)],[(.fld (.loc 19) 10,⟨1,.own,1,Za out⟩)],3⟩:St)) ∧
   out.length=a.length∧c≤1∧val out+val b=val a+4294967296^a.length*c)∧Zn T 0 0 (.norm false [6]) l88_0 (Zig a b y)=some r:=by
 refine zaq _ _ (fun y=>a.length-y.1) _ ?_
 rintro⟨i,c,out⟩ ⟨hi,hc,ho,hv⟩
 simp only at hi hc ho hv;by_cases h0:i<a.length
 ·left;have ha:a[i]? = some (a[i]'h0):=Ya h0;have hoi:i<out.length:=by omega
  have hog:out[i]? = some (out[i]'hoi):=Ya hoi;have hw:IntKind.wrap .i64 ((i:Int)+1)=((i+1:Nat):Int):=zab _ (by omega);have hc2:c<4294967296:=by omega
  have hx:=zaj (a[i]'h0);have h1:=zaf ha;have fin:∀z:Nat,z<4294967296→val (b.take (i+1))=val (b.take i)+4294967296^i*z →
    val ((out.set i (w32 ((a[i]'h0).toNat+8589934592-(z+c)))).take (i+1))+val (b.take (i+1))=val (a.take (i+1))+4294967296^(i+1)*(2-((a[i]'h0).toNat+8589934592-(z+c))/4294967296):=by
   intro z hz h3;have hs:=(zkv hx hz hc).1;rw[zbn _ hoi,h1,h3,zbv,Y8];generalize 4294967296^i=p at *
   generalize (a[i]'h0).toNat=x at *
   generalize (x+8589934592-(z+c))%4294967296=s at *
   generalize 2-(x+8589934592-(z+c))/4294967296=d at *
   have e2:p*s+p*(z+c)=p*x+p*4294967296*d:=by rw[←Yan,hs,Yan,Yab]
   rw[Yan]at e2;omega
  by_cases h2:i<b.length
  ·have hbg:b[i]? = some (b[i]'h2):=Ya h2;have h3:=zaf hbg;refine⟨(i+1,2-((a[i]'h0).toNat+8589934592-((b[i]'h2).toNat+c))/4294967296,out.set i (w32 ((a[i]'h0).toNat+8589934592-((b[i]'h2).toNat+c)))),⟨h0,(zkv hx (zaj _) hc).2,by simp[ho],fin _ (zaj _) h3⟩,by simp only;omega,?_⟩;simp[l88_0,Zig,h0,h2,hog,hw,zfk,hc2]
  ·have h3:val (b.take (i+1))=val (b.take i)+4294967296^i*0:=by rw[zbd (by omega),zbd (by omega)];simp
   refine⟨(i+1,2-((a[i]'h0).toNat+8589934592-(0+c))/4294967296,out.set i (w32 ((a[i]'h0).toNat+8589934592-(0+c)))),⟨h0,(zkv hx (by decide) hc).2,by simp[ho],fin 0 (by decide) h3⟩,by simp only;omega,?_⟩;simp[l88_0,Zig,h0,h2,hog,hw,zfk,hc2]
 ·right;have:i=a.length:=by omega
  subst this;rw[Yb (Yf _),Yb hb,Yb (by omega)]at hv;refine⟨_,⟨c,out,rfl,ho,hc,hv⟩,?_,?_⟩<;>simp[l88_0,Zig]
theorem zcj{x y:Nat}:Zde x y<0↔x<y:=by
 unfold Zde;split
 ·simp[*]
 ·split<;>simp[*]
theorem zuk(a b:List UInt32)(ha:a.length≤1000000)(hb:b.length≤1000000):Zb T 88 [.sl (Za a) .an,.sl (Za b) .an] =
  some (if val a<val b then .tup [.sl [] .an,.b false] else .tup [.sl (Za (ofN (val a-val b))) .an,.b true]):=by
 have hta:=zbq (T:=T) a (by omega);have htb:=zbq (T:=T) b (by omega);have hla:=zad a;have hlb:=zad b;have hc:=zhv (T:=T) (ofN (val a)) (ofN (val b)) (by omega) (by omega);rw[zae,zae]at hc;rw[zac Zu.h88 rfl,b88];by_cases h:val a<val b
 ·simp[hta,htb,hc,zcj,h]
 ·have hle:=zas (show val b≤val a by omega);have hf:=zb9 (T:=T) (ofN (val a)) 0 (by omega);simp only[Yt,Yx,List.replicate_zero,Ybc]at hf;obtain⟨_,⟨c,out,rfl,ho,hc1,hv⟩,hr⟩:=zx9 (T:=T) (ofN (val a)) (ofN (val b)) hle (by omega) (0,0,ofN (val a)) ⟨Yl _,Yl _,rfl,by simp⟩;unfold Zig at hr;simp at hr;rw[zae,zae]at hv;have hlt:=zax out;rw[ho]at hlt;have hc0:c=0:=by
   rcases Yay c with h1 | h1
   ·exact h1
   ·have:c=1:=by omega
    subst this;omega
  subst hc0;have hval:val out=val a-val b:=by omega
  have ht:=zbq (T:=T) out (by omega);rw[hval]at ht;have htk:List.take (ofN (val a)).length out=out:=Yb (by omega);simp[hta,htb,hc,zcj,h,hf,hr,ho,htk,ht]
theorem z10(a b:List UInt32)(ha:a.length≤1000000)(hb:b.length≤1000000):Zb T 57 [.sl (Za a) .an,.sl (Za b) .an] =
  some (.tup [.sl (Za (ofN (if val a<val b then val b-val a else val a-val b))) .an,.i .i64 (Zde (val a) (val b))]):=by
 have hc:=zhv (T:=T) a b ha hb;rw[zac Zu.h57 rfl,b57];by_cases h:val a<val b
 ·have h2:¬ val b<val a:=by omega
  have hs:=zuk (T:=T) b a hb ha;rw[if_neg h2]at hs;simp[hc,zcj,h,hs]
 ·have hs:=zuk (T:=T) a b ha hb;rw[if_neg h]at hs;simp[hc,zcj,h,hs]
theorem zya{x y:Nat}(hx:x<4294967296):x ||| (y*4294967296)=x+y*4294967296:=by
 have:=Ycx (i:=32) hx y;rw[Nat.or_comm,Yam y,show (4294967296:Nat)=2^32 from rfl,←this];omega
end
section
variable{T:Tbl}
theorem zrb(l:List UInt32)(hl:l.length≤2):∀i:Nat,i≤l.length →
  Zn T 0 0 (.norm false [4]) l73_0 ⟨[(4,u64 (val (l.take i))),(12,.sl (Za l) .an),(13,.i .i64 l.length),(14,.i .i64 i)],[],2⟩=some (.n,⟨[(4,u64 (val l))],[],2⟩):=by
 refine zan (fun i:Nat=>⟨[(4,u64 (val (l.take i))),(12,.sl (Za l) .an),(13,.i .i64 l.length),(14,.i .i64 i)],[],2⟩) _ (fun i=>l.length-i) _ ?_;intro i hi;by_cases h0:i<l.length
 ·left;have hg:l[i]? = some (l[i]'h0):=Ya h0;have hx:=zaj (l[i]'h0);have h1:=zaf hg;refine⟨i+1,h0,by show l.length-(i+1)<l.length-i;omega,?_,rfl⟩;rcases(show i=0∨i=1 by omega) with rfl | rfl
  ·simp[l73_0,h0,h1]
  ·have h2:val (l.take 1)<4294967296:=by
    have:=zax (l.take 1);have h3:(l.take 1).length=1:=by simp;omega
    rw[h3]at this;simpa using this
   have e1:(l[1]'h0).toNat*4294967296%18446744073709551616=(l[1]'h0).toNat*4294967296:=Yi (by omega);have e2:=zya (y:=(l[1]'h0).toNat) h2;have e3:(val (l.take 1)+(l[1]'h0).toNat*4294967296)%18446744073709551616=val (l.take 1)+(l[1]'h0).toNat*4294967296:=Yi (by omega);have e4:val (l.take 1)+(l[1]'h0).toNat*4294967296=val (l.take (1+1)):=by rw[h1];omega
   simp at e4;have h0':(1:Int)<(l.length:Int):=by omega
   have e5:val (List.take 2 l)<18446744073709551616:=by omega
   simp[l73_0,h0,h0',e1,e2,e4,e5]
 ·right;have:i=l.length:=by omega
  subst this;rw[Yb (Yf _)];constructor<;>simp[l73_0]
end
section
variable{T:Tbl}[Zu T]
theorem zme(a:List UInt32)(ha:a.length≤1000000):Zb T 73 [.sl (Za a) .an] =
  some (if val a<18446744073709551616 then .tup [u64 (val a),.b true] else .tup [u64 0,.b false]):=by
 have hta:=zbq (T:=T) a (by omega);have hla:=zad a;have hv:=zae (val a);rw[zac Zu.h73 rfl,b73];generalize hl:ofN (val a)=l at *
 by_cases h:2<l.length
 ·have h2:¬ val a<18446744073709551616:=by
   intro h3;have:=zag (show val a<4294967296^2 from h3);rw[hl]at this;omega
  have h3:(2:Int)<(l.length:Int):=by omega
  simp[hta,h3,h2]
 ·have h2:val a<18446744073709551616:=by
   have:=zax l;rw[hv]at this;have h3:4294967296^l.length≤4294967296^2:=Ym (by decide) (by omega);omega
  have h3:¬ (2:Int)<(l.length:Int):=by omega
  have hs:=zrb (T:=T) l (by omega) 0 (Yl _);simp at hs;simp[hta,h3,h2,hs,hv]
end
end Go.Ab
end
section
namespace Go.Ab
def l89_0:AX:=
 (.note
 (.seq
 (.reg [rg 15 (.bin .lss (.t 14) (.t 13))])
 (.seq
 (.cond (.t 15)
 .skip
 (.exit 0))
 (.seq
 (.block 1
 (.seq
 (.reg [mv 16 14,rg 17 (.iad 1 (.t 12) (.t 14)),rg 18 (.load none (.t 17)),mv 10 16,mv 11 18])
 (.reg [mv 20 0,mv 21 1,mv 22 10,rg 23 (.bin .add (.t 21) (.t 22)),mv 24 3,mv 25 11,mv 26 0,mv 27 1,mv 28 10,rg 29 (.bin .add (.t 27) (.t 28)),rg 30 (.iad 1 (.t 26) (.t 29)),rg 31 (.load none (.t 30)),mv 32 4,rg 33 (.call 117 [(.t 24),(.t 25),(.t 31),(.t 32)]),mv 19 33,rg 34 (.ext (.t 19) 0),rg 35 (.ext (.t 19) 1),mv 4 34,rg 36 (.iad 1 (.t 20) (.t 23)),so (.store 1 (.t 36) (.t 35))])))
 (.reg [rg 37 (.bin .add (.t 14) (.c (.i .i64 1))),mv 14 37]))))
 (.norm false [0,1,2,3,4,12,13,14]))
def b89:AX:=
 (.seq
 (.seq
 (.reg [mv 12 2,rg 13 (.len (.t 12)),rg 14 (.mov (.c (.i .i64 0)))])
 (.lp 0 (.norm false [0,1,2,3,4,12,13,14]) l89_0 (.norm false [0,1,2,4])))
 (.reg [mv 38 0,mv 39 1,mv 40 2,rg 41 (.len (.t 40)),rg 42 (.bin .add (.t 39) (.t 41)),mv 43 4,rg 44 (.iad 1 (.t 38) (.t 42)),so (.store 1 (.t 44) (.t 43))]))
def b100:AX:=
 (.seq
 (.reg [rg 6 (.mov (.c (.sl [] .nl)))])
 (.seq
 (.reg [mv 8 0,rg 9 (.len (.t 8)),rg 10 (.bin .add (.t 9) (.c (.i .i64 1))),rg 11 (.mks 1 [(u32 0)] (.t 10) (.t 10)),mv 7 11])
 (.seq
 (.reg [mv 12 7,mv 13 0,mv 14 1,mv 15 2,rg 16 (.call 89 [(.t 12),(.c (.i .i64 0)),(.t 13),(.t 14),(.t 15)])])
 (.seq
 (.reg [mv 17 7,rg 18 (.call 71 [(.t 17)]),mv 6 18])
 (.pre (.norm false [6]) .ret)))))
def l60_0:AX:=
 (.note
 (.seq
 (.reg [rg 18 (.bin .lss (.t 17) (.t 16))])
 (.seq
 (.cond (.t 18)
 .skip
 (.exit 0))
 (.seq
 (.block 1
 (.seq
 (.reg [mv 19 17,rg 20 (.iad 1 (.t 15) (.t 17)),rg 21 (.load none (.t 20)),mv 6 19,mv 7 21])
 (.reg [mv 22 5,mv 23 6,mv 24 0,mv 25 7,rg 26 (.call 89 [(.t 22),(.t 23),(.t 24),(.t 25),(.c (u32 0))])])))
 (.reg [rg 27 (.bin .add (.t 17) (.c (.i .i64 1))),mv 17 27]))))
 (.norm false [0,5,15,16,17]))
def b60:AX:=
 (.seq
 (.reg [rg 4 (.mov (.c (.sl [] .nl)))])
 (.seq
 (.reg [mv 8 0,rg 9 (.len (.t 8)),mv 10 1,rg 11 (.len (.t 10)),rg 12 (.bin .add (.t 9) (.t 11)),rg 13 (.bin .add (.t 12) (.c (.i .i64 1))),rg 14 (.mks 1 [(u32 0)] (.t 13) (.t 13)),mv 5 14])
 (.seq
 (.seq
 (.reg [mv 15 1,rg 16 (.len (.t 15)),rg 17 (.mov (.c (.i .i64 0)))])
 (.lp 0 (.norm false [0,5,15,16,17]) l60_0 (.norm false [5])))
 (.seq
 (.reg [mv 28 5,rg 29 (.call 71 [(.t 28)]),mv 4 29])
 (.pre (.norm false [4]) .ret)))))
def row89:AFx:=⟨5,45,[],b89,(some [true,false,false,false,false]),false⟩
def row100:AFx:=⟨3,19,[.t 6],b100,none,false⟩
def row60:AFx:=⟨2,30,[.t 4],b60,none,false⟩
class Zz (T:Tbl):Prop extends Zu T where
 h89:T 89=some row89
 h100:T 100=some row100
 h60:T 60=some row60
section
variable{T:Tbl}[Zz T]{d:Option Nat}{st:St}
@[simp] theorem x89(xs:List AV):Zd (orc T) T 89 xs d st=bL (Zeb st.heap [true,false,false,false,false] xs) fun ys=>Zdp ys (Zm (Za1 [true,false,false,false,false] xs) st.heap) (Zcy (Zm (Za1 [true,false,false,false,false] xs) st.heap) 40 (Zci [true,false,false,false,false] xs) []) T 89 false d st:=zav Zz.h89
@[simp] theorem x100(xs:List AV):Zd (orc T) T 100 xs d st=cP T 100 false xs d st:=zaa Zz.h100
@[simp] theorem x60(xs:List AV):Zd (orc T) T 60 xs d st=cP T 60 false xs d st:=zaa Zz.h60
@[simp] theorem y60{e:Env}{h:Heap}{older:List Heap}(args:List Opd):opD (orc T) T (.call 60 args) e h older=dR (Zb T 60 ((args.map (ev e.get)).map (wkIf false))) (args.map (ev e.get)):=zao Zz.h60
end
end Go.Ab
end
section
namespace Go.Ab
def l92_0:AX:=
 (.note
 (.seq
 (.reg [rg 27 (.bin .lss (.t 26) (.t 25))])
 (.seq
 (.cond (.t 27)
 .skip
 (.exit 0))
 (.seq
 (.block 1
 (.seq
 (.reg [mv 28 26,rg 29 (.iad 1 (.t 24) (.t 26)),rg 30 (.load none (.t 29)),mv 8 28,mv 9 30])
 (.seq
 (.reg [mv 31 9,rg 32 (.conv .u64 (.t 31)),mv 33 6,rg 34 (.bin .shl (.t 32) (.t 33)),mv 10 34])
 (.seq
 (.reg [mv 35 7,mv 36 5,mv 37 8,rg 38 (.bin .add (.t 36) (.t 37)),rg 39 (.iad 1 (.t 35) (.t 38)),rg 40 (.load none (.t 39)),mv 41 10,rg 42 (.conv .u32 (.t 41)),rg 43 (.bin .or (.t 40) (.t 42)),rg 44 (.iad 1 (.t 35) (.t 38)),so (.store 1 (.t 44) (.t 43))])
 (.reg [mv 45 7,mv 46 5,mv 47 8,rg 48 (.bin .add (.t 46) (.t 47)),rg 49 (.bin .add (.t 48) (.c (.i .i64 1))),mv 50 10,rg 51 (.bin .shr (.t 50) (.c (u64 32))),rg 52 (.conv .u32 (.t 51)),rg 53 (.iad 1 (.t 45) (.t 49)),so (.store 1 (.t 53) (.t 52))])))))
 (.reg [rg 54 (.bin .add (.t 26) (.c (.i .i64 1))),mv 26 54]))))
 (.norm false [5,6,7,24,25,26]))
def b92:AX:=
 (.seq
 (.reg [rg 4 (.mov (.c (.sl [] .nl)))])
 (.seq
 (.reg [mv 11 1,rg 12 (.mm true [(.t 11),(.c (.i .i64 0))]),rg 13 (.mm false [(.t 12),(.c (.i .i64 4096))]),mv 1 13])
 (.seq
 (.reg [mv 14 1,rg 15 (.bin .quo (.t 14) (.c (.i .i64 32))),mv 16 1,rg 17 (.bin .rem (.t 16) (.c (.i .i64 32))),mv 5 15,mv 6 17])
 (.seq
 (.reg [mv 18 5,mv 19 0,rg 20 (.len (.t 19)),rg 21 (.bin .add (.t 18) (.t 20)),rg 22 (.bin .add (.t 21) (.c (.i .i64 1))),rg 23 (.mks 1 [(u32 0)] (.t 22) (.t 22)),mv 7 23])
 (.seq
 (.seq
 (.reg [mv 24 0,rg 25 (.len (.t 24)),rg 26 (.mov (.c (.i .i64 0)))])
 (.lp 0 (.norm false [5,6,7,24,25,26]) l92_0 (.norm false [7])))
 (.seq
 (.reg [mv 55 7,rg 56 (.call 71 [(.t 55)]),mv 4 56])
 (.pre (.norm false [4]) .ret)))))))
def l94_0:AX:=
 (.note
 (.seq
 (.reg [rg 28 (.bin .lss (.t 27) (.t 26))])
 (.seq
 (.cond (.t 28)
 .skip
 (.exit 0))
 (.seq
 (.block 1
 (.seq
 (.reg [mv 29 27,mv 8 29])
 (.seq
 (.reg [mv 30 0,mv 31 5,mv 32 8,rg 33 (.bin .add (.t 31) (.t 32)),rg 34 (.iad 1 (.t 30) (.t 33)),rg 35 (.load none (.t 34)),rg 36 (.conv .u64 (.t 35)),mv 9 36])
 (.seq
 (.seq
 (.reg [mv 37 5,mv 38 8,rg 39 (.bin .add (.t 37) (.t 38)),rg 40 (.bin .add (.t 39) (.c (.i .i64 1))),mv 41 0,rg 42 (.len (.t 41)),rg 43 (.bin .lss (.t 40) (.t 42))])
 (.cond (.t 43)
 (.reg [mv 44 9,mv 45 0,mv 46 5,mv 47 8,rg 48 (.bin .add (.t 46) (.t 47)),rg 49 (.bin .add (.t 48) (.c (.i .i64 1))),rg 50 (.iad 1 (.t 45) (.t 49)),rg 51 (.load none (.t 50)),rg 52 (.conv .u64 (.t 51)),rg 53 (.bin .shl (.t 52) (.c (u64 32))),rg 54 (.bin .or (.t 44) (.t 53)),mv 9 54])
 .skip))
 (.reg [mv 55 7,mv 56 8,mv 57 9,mv 58 6,rg 59 (.bin .shr (.t 57) (.t 58)),rg 60 (.conv .u32 (.t 59)),rg 61 (.iad 1 (.t 55) (.t 56)),so (.store 1 (.t 61) (.t 60))])))))
 (.reg [rg 62 (.bin .add (.t 27) (.c (.i .i64 1))),mv 27 62]))))
 (.norm false [0,5,6,7,26,27]))
def b94:AX:=
 (.seq
 (.reg [rg 4 (.mov (.c (.sl [] .nl)))])
 (.seq
 (.reg [mv 10 1,rg 11 (.mm true [(.t 10),(.c (.i .i64 0))]),mv 1 11])
 (.seq
 (.reg [mv 12 1,rg 13 (.bin .quo (.t 12) (.c (.i .i64 32))),mv 14 1,rg 15 (.bin .rem (.t 14) (.c (.i .i64 32))),mv 5 13,mv 6 15])
 (.seq
 (.seq
 (.reg [mv 16 5,mv 17 0,rg 18 (.len (.t 17)),rg 19 (.bin .geq (.t 16) (.t 18))])
 (.cond (.t 19)
 (.seq
 (.reg [rg 4 (.mov (.c (.sl [] .nl)))])
 (.pre (.norm false [4]) .ret))
 .skip))
 (.seq
 (.reg [mv 20 0,rg 21 (.len (.t 20)),mv 22 5,rg 23 (.bin .sub (.t 21) (.t 22)),rg 24 (.mks 1 [(u32 0)] (.t 23) (.t 23)),mv 7 24])
 (.seq
 (.seq
 (.reg [mv 25 7,rg 26 (.len (.t 25)),rg 27 (.mov (.c (.i .i64 0)))])
 (.lp 0 (.norm false [0,5,6,7,26,27]) l94_0 (.norm false [7])))
 (.seq
 (.reg [mv 63 7,rg 64 (.call 71 [(.t 63)]),mv 4 64])
 (.pre (.norm false [4]) .ret))))))))
def row92:AFx:=⟨2,57,[.t 4],b92,none,false⟩
def row94:AFx:=⟨2,65,[.t 4],b94,none,false⟩
class Z1 (T:Tbl):Prop where
 h92:T 92=some row92
 h94:T 94=some row94
section
variable{T:Tbl}[Z1 T]{d:Option Nat}{st:St}
@[simp] theorem x92(xs:List AV):Zd (orc T) T 92 xs d st=cP T 92 false xs d st:=zaa Z1.h92
@[simp] theorem x94(xs:List AV):Zd (orc T) T 94 xs d st=cP T 94 false xs d st:=zaa Z1.h94
end
end Go.Ab
end
section
namespace Go.Ab
theorem zc0{P m S:List UInt32}{i:Nat}(hm:m.length=i)(hi:i<S.length):(P++(m++S.drop i))[P.length+i]? = some (S[i]'hi):=by
 rw[Yn (by omega),Ybn,Yn (by omega),hm,Ybv,Yaj,Yx,Ya hi]
theorem zck{P m S:List UInt32}{i:Nat}(w:UInt32)(hm:m.length=i)(hi:i<S.length):(P++(m++S.drop i)).set (P.length+i) w=P++((m++[w])++S.drop (i+1)):=by
 rw[Yai (P.length+i) w (by omega),Ybn,Yai i w (by omega),hm,Ybv,Yk hi,Yce];simp
section
variable{T:Tbl}[Zz T]
def Zi3(P S a:List UInt32)(x:Nat)(y:Nat×Nat×List UInt32):St:=
 ⟨[(0,.bs (.bor 0) 0 1 0 (P.length+S.length)),(1,.i .i64 P.length),(2,.sl (Za a) .an),(3,u32 x),(4,u32 y.2.1),(12,.sl (Za a) .an),(13,.i .i64 a.length),(14,.i .i64 y.1)],
  [(.bor 0,⟨0,.own,1,Za (P++(y.2.2++S.drop y.1))⟩)],4⟩
theorem zpo{p m w c c' s x y t v k:Nat}(h:m+p*c=s+x*t+k)(e:w+4294967296*c'=x*y+v+c):(m+p*w)+p*4294967296*c'=(s+p*v)+x*(t+p*y)+k:=by
 have e2:p*w+p*4294967296*c'=p*(x*y)+p*v+p*c:=by rw[Yab,←Yan,e,Yan,Yan]
 have e3:x*(t+p*y)=x*t+p*(x*y):=by rw[Yan,←Yab,Yam x p,Yab]
 omega
theorem zyg(P S a:List UInt32)(x c0:Nat)(hx:x<4294967296)(hS:a.length<S.length)(hl:P.length+S.length≤1000000):∀y:Nat×Nat×List UInt32,
  (y.1≤a.length∧y.2.1<4294967296∧y.2.2.length=y.1∧val y.2.2+4294967296^y.1*y.2.1=val (S.take y.1)+x*val (a.take y.1)+c0) →
  ∃r,(∃(c:Nat) (m:List UInt32),r=(Ex.n,(⟨[(0,.bs (.bor 0) 0 1 0 (P.length+S.length)),(1,.i .i64 P.length),(2,.sl (Za a) .an),(4,u32 c)],[(.bor 0,⟨0,.own,1,Za (P++(m++S.drop a.length))⟩)],4⟩:St)) ∧
   m.length=a.length∧c<4294967296∧val m+4294967296^a.length*c=val (S.take a.length)+x*val a+c0)∧Zn T 1 0 (.norm false [0,1,2,4]) l89_0 (Zi3 P S a x y)=some r:=by
 refine zaq _ _ (fun y=>a.length-y.1) _ ?_
 rintro⟨i,c,m⟩ ⟨hi,hc,hm,hv⟩
 simp only at hi hc hm hv;by_cases h0:i<a.length
 ·left;have ha:a[i]? = some (a[i]'h0):=Ya h0;have hiS:i<S.length:=by omega
  have hs:S[i]? = some (S[i]'hiS):=Ya hiS;have hg:=zc0 (P:=P) hm hiS;have hw:IntKind.wrap .i64 ((i:Int)+1)=((i+1:Nat):Int):=zab _ (by omega);have hw2:IntKind.wrap .i64 ((P.length:Int)+i)=((P.length+i:Nat):Int):=zab _ (by omega);have hlt:P.length+i<P.length+S.length:=by omega
  have hlt2:((P.length+i:Nat):Int)<(P.length:Int)+S.length:=by omega
  have hla:=zaj (a[i]'h0);have hls:=zaj (S[i]'hiS);have hmul:=zgh hx hla;have hlen:(P++(m++S.drop i)).length=P.length+S.length:=by simp;omega
  have hcall:=zhu (T:=T) x (a[i]'h0).toNat (S[i]'hiS).toNat c hx hla hls hc;have hset:=zck (P:=P) (w32 (x*(a[i]'h0).toNat+(S[i]'hiS).toNat+c)) hm hiS;refine⟨(i+1,(x*(a[i]'h0).toNat+(S[i]'hiS).toNat+c)/4294967296,m++[w32 (x*(a[i]'h0).toNat+(S[i]'hiS).toNat+c)]),⟨h0,by simp only;omega,by simp[hm],?_⟩,by simp only;omega,?_⟩
  ·simp only;rw[zai,zaf ha,zaf hs,Y8,hm];simp only[zak,za3,Yal,Yx,zbv];exact zpo hv (by have:=Ybu (x*(a[i]'h0).toNat+(S[i]'hiS).toNat+c) 4294967296;omega)
  ·simp[l89_0,Zi3,h0,hw,hw2,hiS,hg,hcall,hset]
 ·right;have:i=a.length:=by omega
  subst this;rw[Yb (Yf a.length)]at hv;refine⟨_,⟨c,m,rfl,hm,hc,hv⟩,?_,?_⟩<;>simp[l89_0,Zi3]
theorem zkj(P S a:List UInt32)(x c0:Nat)(hx:x<4294967296)(hc:c0<4294967296)(hS:a.length<S.length)(hl:P.length+S.length≤1000000) :
  ∃m,m.length=a.length+1∧val m=val (S.take a.length)+x*val a+c0 ∧
   Zbx T 89 [.bs (.bor 0) 0 1 0 (P.length+S.length),.i .i64 P.length,.sl (Za a) .an,u32 x,u32 c0] [(.bor 0,⟨0,.own,1,Za (P++S)⟩)] =
    some (.tup [],[(.bor 0,⟨0,.own,1,Za (P++(m++S.drop (a.length+1)))⟩)]):=by
 obtain⟨_,⟨c,m,rfl,hm,hc1,hv⟩,hr⟩:=zyg (T:=T) P S a x c0 hx hS hl (0,c0,[]) ⟨Yl _,hc,rfl,by simp⟩;unfold Zi3 at hr;simp at hr;refine⟨m++[w32 c],by simp[hm],by rw[zai,hm];simpa[zah hc1]using hv,?_⟩;have hw2:IntKind.wrap .i64 ((P.length:Int)+a.length)=((P.length+a.length:Nat):Int):=zab _ (by omega);have hlt:P.length+a.length<P.length+S.length:=by omega
 have hlt2:((P.length+a.length:Nat):Int)<(P.length:Int)+S.length:=by omega
 have hg:=zc0 (P:=P) hm hS;have hset:=zck (P:=P) (w32 c) hm hS;rw[za4 Zz.h89 rfl,b89];simp[hr,hw2,hg,hS,zbe _ _ _ hc1,hset]
def Zi4(a b:List UInt32)(y:Nat×List UInt32):St:=
 ⟨[(0,.sl (Za a) .an),(5,.bs (.loc 14) 1 1 0 (a.length+b.length+1)),(15,.sl (Za b) .an),(16,.i .i64 b.length),(17,.i .i64 y.1)],[(.loc 14,⟨1,.own,1,Za (y.2++List.replicate (b.length+1-y.1) 0)⟩)],3⟩
theorem zyh(a b:List UInt32)(ha:a.length≤100000)(hb:b.length≤100000):∀y:Nat×List UInt32,
  (y.1≤b.length∧y.2.length=a.length+y.1∧val y.2=val a*val (b.take y.1)) →
  ∃r,(∃out:List UInt32,r=(Ex.n,(⟨[(5,.bs (.loc 14) 1 1 0 (a.length+b.length+1))],[(.loc 14,⟨1,.own,1,Za out⟩)],3⟩:St))∧out.length=a.length+b.length+1∧val out=val a*val b) ∧
   Zn T 0 0 (.norm false [5]) l60_0 (Zi4 a b y)=some r:=by
 refine zaq _ _ (fun y=>b.length-y.1) _ ?_
 rintro⟨i,X⟩ ⟨hi,hX,hv⟩
 simp only at hi hX hv;by_cases h0:i<b.length
 ·left;have hbg:b[i]? = some (b[i]'h0):=Ya h0;have hw:IntKind.wrap .i64 ((i:Int)+1)=((i+1:Nat):Int):=zab _ (by omega);obtain⟨m,hm1,hm2,hc⟩:=zkj (T:=T) (X.take i) (X.drop i++List.replicate (b.length+1-i) 0) a (b[i]'h0).toNat 0 (zaj _) (by decide) (by simp;omega) (by simp;omega);have e1:X.take i++(X.drop i++List.replicate (b.length+1-i) 0)=X++List.replicate (b.length+1-i) 0:=by rw[←Ybg,Yaq]
  have e2:(X.take i).length=i:=by simp;omega
  have e3:(X.drop i++List.replicate (b.length+1-i) 0).length=a.length+b.length+1-i:=by simp;omega
  have e4:i+(a.length+b.length+1-i)=a.length+b.length+1:=by omega
  have e5:(X.drop i++List.replicate (b.length+1-i) 0).drop (a.length+1)=List.replicate (b.length+1-(i+1)) 0:=by
   rw[Yeg,Ya6 (by simp;omega),Ydz];simp only[Yaz,Yv];congr 1;omega
  have e6:(X.drop i++List.replicate (b.length+1-i) 0).take a.length=X.drop i:=by
   rw[Ybw (by simp;omega),Yb (by simp;omega)]
  rw[e1,e2,e3,e4,e5]at hc;rw[e6]at hm2;simp only[←Ybg]at hc;refine⟨(i+1,X.take i++m),⟨h0,by simp only[Yu,e2,hm1];omega,?_⟩,by simp only;omega,?_⟩
  ·simp only;have e7:=zai (X.take i) (X.drop i);rw[Yaq,e2]at e7;rw[zai,e2,hm2,zaf hbg,Yan (val a),←hv,e7,Yan,Yan];have e8:4294967296^i*((b[i]'h0).toNat*val a)=val a*(4294967296^i*(b[i]'h0).toNat):=by
    rw[Yam (b[i]'h0).toNat,←Yab,Yam (4294967296^i) (val a),Yab]
   rw[e8];omega
  ·simp[l60_0,Zi4,h0,hw,hc]
 ·right;have:i=b.length:=by omega
  subst this;rw[Yb (Yf _)]at hv;refine⟨_,⟨X++List.replicate (b.length+1-b.length) 0,rfl,by simp;omega,by rw[zai,zau,hv];simp⟩,?_,?_⟩<;>simp[l60_0,Zi4]
theorem zgr(a b:List UInt32)(ha:a.length≤100000)(hb:b.length≤100000):Zb T 60 [.sl (Za a) .an,.sl (Za b) .an]=some (.sl (Za (ofN (val a*val b))) .an):=by
 obtain⟨_,⟨out,rfl,ho,hv⟩,hr⟩:=zyh (T:=T) a b ha hb (0,List.replicate a.length 0) ⟨Yl _,by simp,by simp[zau]⟩;unfold Zi4 at hr;simp at hr;have hw1:IntKind.wrap .i64 ((a.length:Int)+b.length)=(a.length:Int)+b.length:=zab _ (by omega);have hw:IntKind.wrap .i64 ((a.length:Int)+b.length+1)=(a.length:Int)+b.length+1:=zab _ (by omega);have hle:(a.length:Int)+b.length+1≤4294967296:=by omega
 have hn:=zbf (T:=T) out (by omega);rw[hv]at hn;have htk:List.take (a.length+b.length+1) out=out:=Yb (by omega);have he:a.length+(b.length+1)=a.length+b.length+1:=by omega
 rw[he]at hr;rw[zac Zz.h60 rfl,b60];simp[hw,hw1,hle,hr,ho,htk,hn]
theorem zun(a:List UInt32)(x c:Nat)(ha:a.length≤100000)(hx:x<4294967296)(hc:c<4294967296):Zb T 100 [.sl (Za a) .an,u32 x,u32 c]=some (.sl (Za (ofN (val a*x+c))) .an):=by
 obtain⟨m,hm1,hm2,hr⟩:=zkj (T:=T) [] (List.replicate (a.length+1) 0) a x c hx hc (by simp) (by simp;omega);simp at hr;have hv:val m=val a*x+c:=by
  rw[hm2];have:val ((List.replicate (a.length+1) (0:UInt32)).take a.length)=0:=by rw[List.take_replicate,zau]
  rw[this,Yam];omega
 have hw:IntKind.wrap .i64 ((a.length:Int)+1)=(a.length:Int)+1:=zab _ (by omega);have hle:(a.length:Int)+1≤4294967296:=by omega
 have hn:=zbf (T:=T) m (by omega);rw[hv]at hn;have htk:List.take (a.length+1) m=m:=Yb (by omega);rw[zac Zz.h100 rfl,b100];simp[hw,hle,hr,hm1,htk,hn]
end
end Go.Ab
end
section
namespace Go.Ab
theorem zkw(w:Nat):4294967296^w=2^(32*w):=by
 rw[Ydy]
theorem zm6(a:List UInt32)(w:Nat)(h:w≤a.length):val a=val (a.take w)+4294967296^w*val (a.drop w):=by
 have:=zai (a.take w) (a.drop w);rw[Yaq,Y6,Ydf h]at this;exact this
theorem zwk(a:List UInt32)(w:Nat)(h:w≤a.length):val a/4294967296^w=val (a.drop w):=by
 have hp:0<4294967296^w:=Ya2 (by decide);have hlt:=zax (a.take w);rw[Y6,Ydf h]at hlt;rw[zm6 a w h,Yby _ _ hp,Ya4 hlt,Yah]
theorem zwl{a:List UInt32}{i:Nat}{x:UInt32}(h:a[i/32]? = some x):val a/2^i%2=x.toNat/2^(i%32)%2:=by
 have hlt:i/32<a.length:=by
  rcases Yq (i/32) a.length with h1 | h1
  ·exact h1
  ·rw[Yak h1]at h;cases h
 have e:2^i=4294967296^(i/32)*2^(i%32):=by
  rw[zkw,←Ybe];congr 1;omega
 rw[e,←Ybi,zwk a _ (by omega)];have hx:a[i/32]'hlt=x:=by rw[Ya hlt]at h;cases h;rfl
 rw[Yk hlt,hx,zak];generalize val (a.drop (i/32+1))=r;have hb:i%32<32:=Ya1 _ (by decide);generalize i%32=b at *
 have e2:4294967296*r=2^b*(2^(32-b-1)*2*r):=by
  rw[←Y8,←Yab,←Ybe,show b+(32-b-1+1)=32 by omega]
 rw[e2,Yby _ _ (Ya2 (by decide)),Nat.mul_right_comm,Yd3]
theorem zm7{n k:Nat}(h:n<2^(k+1))(hb:n/2^k%2=0):n<2^k:=by
 have hp:0<2^k:=Ya2 (by decide);rw[Y8]at h;have h1:n/2^k<2:=Yci h;have h2:n/2^k=0:=by
  generalize n/2^k=q at *
  omega
 rcases Yq n (2^k) with h3 | h3
 ·exact h3
 ·have:=Yet h3 hp;omega
theorem zz7{a b n:Nat}(h:a<2^n):a ||| 2^n*b=a+2^n*b:=by
 rw[Nat.or_comm,←Ycx h,Ya0]
theorem z25{x c n:Nat}(hx:x<4294967296)(hn:n<32)(hc:c<2^n) :
  x*2^n<18446744073709551616∧(c ||| x*2^n%4294967296)=c+x*2^n%4294967296∧c+x*2^n%4294967296<4294967296∧x*2^n/4294967296<2^n∧2^n<4294967296:=by
 have hp:2^(n+(32-n))=4294967296:=by rw[show n+(32-n)=32 by omega]
 rw[Ybe]at hp;have hq:0<2^n:=Ya2 (by decide);have hr:1<2^(32-n):=Nat.one_lt_two_pow (by omega);have e1:x*2^n%4294967296=2^n*(x%2^(32-n)):=by rw[←hp,Yam x,Nat.mul_mod_mul_left]
 have e2:=zz7 (b:=x%2^(32-n)) hc;rw[←e1]at e2;have hlt:2^n<4294967296:=by
  have h1:=Yag (2^n) (show 2≤2^(32-n) from hr);rw[hp]at h1;omega
 refine⟨?_,e2,?_,?_,hlt⟩
 ·have:=Nat.mul_lt_mul'' hx hlt;simpa using this
 ·rw[e1];have h1:x%2^(32-n)+1≤2^(32-n):=Ya1 _ (by omega);have h2:=Yag (2^n) h1;rw[hp,Yan,Ydt]at h2;omega
 ·exact Yci (by rw[Yam x];rw[Yam 4294967296];exact Nat.mul_lt_mul_of_pos_left hx hq)
theorem zm8{x y R b:Nat}(hb:b<32)(hx:x<4294967296) :
  (x+4294967296*(y+4294967296*R))/2^b=(x+y*4294967296)/2^b%4294967296+4294967296*((y+4294967296*R)/2^b):=by
 have hq:0<2^b:=Ya2 (by decide);have h1:(x+4294967296*(y+4294967296*R))/4294967296=y+4294967296*R:=by omega
 have h2:(x+4294967296*(y+4294967296*R))/2^b/4294967296=(y+4294967296*R)/2^b:=by
  rw[Ybi,Yam (2^b),←Ybi,h1]
 have hp:2^b*2^(32-b)=4294967296:=by rw[←Ybe,show b+(32-b)=32 by omega]
 have h3:x+4294967296*(y+4294967296*R)=(x+y*4294967296)+2^b*(4294967296*(2^(32-b)*R)):=by
  have:2^b*(4294967296*(2^(32-b)*R))=4294967296*(4294967296*R):=by
   rw[Nat.mul_left_comm,←Yab (2^b),hp]
  omega
 have h4:(x+4294967296*(y+4294967296*R))/2^b%4294967296=(x+y*4294967296)/2^b%4294967296:=by
  rw[h3,Yby _ _ hq,Yc3]
 have h5:=Nat.mod_add_div ((x+4294967296*(y+4294967296*R))/2^b) 4294967296;rw[h2,h4]at h5;exact h5.symm
end Go.Ab
end
section
namespace Go.Ab
theorem zp0{P m R:List UInt32}{i:Nat}{c:UInt32}(hm:m.length=i):(P++(m++c::R))[P.length+i]? = some c:=by
 grind
theorem zku{P m R:List UInt32}{i:Nat}{c:UInt32}(w:UInt32)(hm:m.length=i):(P++(m++c::R)).set (P.length+i) w=P++(m++w::R):=by
 rw[Yai (P.length+i) w (by omega),Ybn,Yai i w (by omega),hm,Ybv,Yce]
theorem zy6{P m R:List UInt32}{i:Nat}{c d:UInt32}(w:UInt32)(hm:m.length=i):(P++(m++c::d::R)).set (P.length+i+1) w=P++(m++c::w::R):=by
 rw[Yao,Yai (P.length+(i+1)) w (by omega),Ybn,Yai (i+1) w (by omega),hm,show i+1-i=1 by omega]
 rfl
theorem zy7{P m R:List UInt32}{i:Nat}{c d:UInt32}(hm:m.length=i):(P++(m++c::d::R))[P.length+i+1]? = some d:=by
 grind
theorem zei(n:Nat):w32 (n%4294967296)=w32 n:=zz6 (by rw[zbv,Nat.mod_mod])
section
variable{T:Tbl}[Zu T][Z1 T]
def Zkf(P a:List UInt32)(n:Nat)(y:Nat×Nat×List UInt32):St:=
 ⟨[(5,.i .i64 P.length),(6,.i .i64 n),(7,.bs (.loc 23) 1 1 0 (P.length+a.length+1)),(24,.sl (Za a) .an),(25,.i .i64 a.length),(26,.i .i64 y.1)],[(.loc 23,⟨1,.own,1,Za (P++(y.2.2++w32 y.2.1::List.replicate (a.length-y.1) 0))⟩)],3⟩
end
section
variable{T:Tbl}
theorem zwd(P a:List UInt32)(n:Nat)(hn:n<32)(hl:P.length+a.length≤1000000):∀y:Nat×Nat×List UInt32,
  (y.1≤a.length∧y.2.1<2^n∧y.2.2.length=y.1∧val y.2.2+4294967296^y.1*y.2.1=2^n*val (a.take y.1)) →
  ∃r,(∃(c:Nat) (m:List UInt32),r=(Ex.n,(⟨[(7,.bs (.loc 23) 1 1 0 (P.length+a.length+1))],[(.loc 23,⟨1,.own,1,Za (P++(m++[w32 c]))⟩)],3⟩:St)) ∧
   m.length=a.length∧c<2^n∧val m+4294967296^a.length*c=2^n*val a)∧Zn T 0 0 (.norm false [7]) l92_0 (Zkf P a n y)=some r:=by
 refine zaq _ _ (fun y=>a.length-y.1) _ ?_
 rintro⟨i,c,m⟩ ⟨hi,hc,hm,hv⟩
 simp only at hi hc hm hv;by_cases h0:i<a.length
 ·left;have ha:a[i]? = some (a[i]'h0):=Ya h0;obtain⟨u1,u2,u3,u4,u5⟩:=z25 (zaj (a[i]'h0)) hn hc;have hx:=zaj (a[i]'h0);have hrep:List.replicate (a.length-i) (0:UInt32)=0::List.replicate (a.length-(i+1)) 0:=by
   rw[show a.length-i=a.length-(i+1)+1 by omega,Ybk]
  have hw:IntKind.wrap .i64 ((i:Int)+1)=((i+1:Nat):Int):=zab _ (by omega);have hw2:IntKind.wrap .i64 ((P.length:Int)+i)=((P.length+i:Nat):Int):=zab _ (by omega);have hw3:IntKind.wrap .i64 ((P.length:Int)+i+1)=((P.length+i+1:Nat):Int):=zab _ (by omega);have hg:=zp0 (P:=P) (c:=w32 c) (R:=0::List.replicate (a.length-(i+1)) 0) hm;have hg3:=zy7 (P:=P) (c:=w32 (c+(a[i]'h0).toNat*2^n%4294967296)) (d:=0) (R:=List.replicate (a.length-(i+1)) 0) hm;have hs1:=zku (P:=P) (c:=w32 c) (R:=0::List.replicate (a.length-(i+1)) 0) (w32 (c+(a[i]'h0).toNat*2^n%4294967296)) hm;have hs2:=zy6 (P:=P) (c:=w32 (c+(a[i]'h0).toNat*2^n%4294967296)) (d:=0) (R:=List.replicate (a.length-(i+1)) 0) (w32 ((a[i]'h0).toNat*2^n/4294967296)) hm;have hmin:min n 64=n:=by omega
  have hlt1:(P.length:Int)+i<(P.length:Int)+a.length+1:=by omega
  have hlt2:(P.length:Int)+i<(P.length:Int)+a.length:=by omega
  have m1:(a[i]'h0).toNat%18446744073709551616=(a[i]'h0).toNat:=Yi (by omega);have m2:=Yi u1;have m3:=Yi u3;have hcc:c<4294967296:=by omega
  have m4:(a[i]'h0).toNat*2^n/4294967296%4294967296=(a[i]'h0).toNat*2^n/4294967296:=Yi (by omega);have m5:(a[i]'h0).toNat*2^n/4294967296<4294967296:=by omega
  refine⟨(i+1,(a[i]'h0).toNat*2^n/4294967296,m++[w32 (c+(a[i]'h0).toNat*2^n%4294967296)]),⟨h0,u4,by grind,?_⟩,by omega,?_⟩
  ·grind[zai,zaf,zak,za3,zah,Nat.div_add_mod]
  ·simp -implicitDefEqProofs[l92_0,Zkf,h0,hrep,hw,hw2,hw3,hg,hg3,hs1,hs2,zbe _ _ _ u3,zbe _ _ _ m5,hmin,hlt1,hlt2,m1,m2,m3,m4,u2,zah hcc]
 ·right;have:i=a.length:=by omega
  subst this;rw[Yb (Yf a.length)]at hv;refine⟨_,⟨c,m,rfl,hm,hc,hv⟩,?_,?_⟩<;>simp -implicitDefEqProofs[l92_0,Zkf]
end
section
variable{T:Tbl}[Zu T][Z1 T]
theorem z22(a:List UInt32)(n:Nat)(hn:n≤4096)(hl:a.length≤100000):Zb T 92 [.sl (Za a) .an,.i .i64 n]=some (.sl (Za (ofN (val a*2^n))) .an):=by
 obtain⟨_,⟨c,m,rfl,hm,hc,hv⟩,hr⟩:=zwd (T:=T) (List.replicate (n/32) 0) a (n%32) (Ya1 _ (by decide)) (by grind) (0,0,[]) ⟨Yl _,Ya2 (by decide),rfl,by simp⟩;have hc32:c<4294967296:=Yp hc (by
  have:2^(n%32)≤2^32:=Ym (by decide) (by omega);omega)
 have hval:val (List.replicate (n/32) 0++(m++[w32 c]))=val a*2^n:=by
  rw[zai,zau,Ycb,zai,hm];simp only[zak,za3,Yal,Yx,zah hc32,Yah];rw[hv,zkw,←Yab,←Ybe,show 32*(n/32)+n%32=n by omega,Yam]
 have hlen:(List.replicate (n/32) 0++(m++[w32 c])).length=n/32+a.length+1:=by grind
 have hnm:=zbf (T:=T) (List.replicate (n/32) 0++(m++[w32 c])) (by omega);rw[hval]at hnm;unfold Zkf at hr;generalize List.replicate (n/32) 0++(m++[w32 c])=Q at *
 simp at hr;have hz:List.replicate (n/32) (0:UInt32)++w32 0::List.replicate a.length 0=List.replicate (n/32+a.length+1) 0:=by
  have:w32 0=0:=rfl;rw[this,←Ybk,Ycl,Yao]
 rw[hz]at hr;have hn2:¬ (4096:Int)<(n:Int):=by omega
 have hq:(n:Int).tdiv 32=(n:Int)/32:=Ybo (by omega);have hm2:(n:Int).tmod 32=(n:Int)%32:=Yca (by omega);have w1:IntKind.wrap .i64 ((n:Int)/32)=(n:Int)/32:=zab (n/32) (by omega);have w2:IntKind.wrap .i64 ((n:Int)/32+a.length)=(n:Int)/32+a.length:=zab _ (by omega);have w3:IntKind.wrap .i64 ((n:Int)/32+a.length+1)=(n:Int)/32+a.length+1:=zab _ (by omega);have p1:(0:Int)≤(n:Int)/32+a.length+1:=by omega
 have p2:(n:Int)/32+a.length+1≤4294967296:=by omega
 have p3:((n:Int)/32+a.length+1).toNat=n/32+a.length+1:=by omega
 have htk:List.take (n/32+a.length+1) Q=Q:=Yb (by omega);rw[zac Z1.h92 rfl,b92];simp -implicitDefEqProofs[hn2,hq,hm2,w1,w2,w3,p1,p2,p3,hr,hnm,htk,hlen]
def Zkg(a:List UInt32)(W n:Nat)(y:Nat×List UInt32):St:=
 ⟨[(0,.sl (Za a) .an),(5,.i .i64 W),(6,.i .i64 n),(7,.bs (.loc 24) 1 1 0 (a.length-W)),(26,.i .i64 (a.length-W:Nat)),(27,.i .i64 y.1)],[(.loc 24,⟨1,.own,1,Za (y.2++List.replicate (a.length-W-y.1) 0)⟩)],3⟩
end
section
variable{T:Tbl}
theorem zwe(a:List UInt32)(W n:Nat)(hn:n<32)(hW:W≤a.length)(hl:a.length≤1000000):∀y:Nat×List UInt32,
  (y.1≤a.length-W∧y.2.length=y.1∧val y.2+4294967296^y.1*(val (a.drop (W+y.1))/2^n)=val (a.drop W)/2^n) →
  ∃r,(∃m:List UInt32,r=(Ex.n,(⟨[(7,.bs (.loc 24) 1 1 0 (a.length-W))],[(.loc 24,⟨1,.own,1,Za m⟩)],3⟩:St)) ∧
   m.length=a.length-W∧val m=val (a.drop W)/2^n)∧Zn T 0 0 (.norm false [7]) l94_0 (Zkg a W n y)=some r:=by
 refine zaq _ _ (fun y=>a.length-W-y.1) _ ?_
 rintro⟨i,m⟩ ⟨hi,hm,hv⟩
 by_cases h0:i<a.length-W
 ·left;have hWi:W+i<a.length:=by omega
  have ha:a[W+i]? = some (a[W+i]'hWi):=Ya hWi;have hx:=zaj (a[W+i]'hWi);have hd:=Yk hWi;have hrep:List.replicate (a.length-W-i) (0:UInt32)=0::List.replicate (a.length-W-(i+1)) 0:=by
   rw[show a.length-W-i=a.length-W-(i+1)+1 by omega,Ybk]
  have hw:IntKind.wrap .i64 ((i:Int)+1)=((i+1:Nat):Int):=zab _ (by omega);have hw2:IntKind.wrap .i64 ((W:Int)+i)=((W+i:Nat):Int):=zab _ (by omega);have hw3:IntKind.wrap .i64 ((W:Int)+i+1)=((W+i+1:Nat):Int):=zab _ (by omega);have hg:=zp0 (P:=[]) (c:=0) (R:=List.replicate (a.length-W-(i+1)) 0) hm;have hmin:min n 64=n:=by omega
  have hlt1:(W:Int)+i<(a.length:Int):=by omega
  have hlt3:((W:Int)+i).toNat=W+i:=by omega
  have m1:(a[W+i]'hWi).toNat%18446744073709551616=(a[W+i]'hWi).toNat:=Yi (by omega);have fin:∀y R:Nat,val (a.drop (W+i+1))=y+4294967296*R→val (m++[w32 (((a[W+i]'hWi).toNat+y*4294967296)/2^n%4294967296)])+4294967296^(i+1)*(val (a.drop (W+(i+1)))/2^n)=val (a.drop W)/2^n:=by
   intro y R hR;have hmod:((a[W+i]'hWi).toNat+y*4294967296)/2^n%4294967296<4294967296:=Ya1 _ (by decide);have hdw:=zm8 (x:=(a[W+i]'hWi).toNat) (y:=y) (R:=R) hn hx;rw[hd,zak,hR,hdw,←hR]at hv
   grind[zai,zak,za3,zah]
  by_cases h1:W+i+1<a.length
  ·have hd1:=Yk h1;have hy:=zaj (a[W+i+1]'h1);have m2:(a[W+i+1]'h1).toNat%18446744073709551616=(a[W+i+1]'h1).toNat:=Yi (by omega);have m3:(a[W+i+1]'h1).toNat*4294967296%18446744073709551616=(a[W+i+1]'h1).toNat*4294967296:=Yi (by omega);have hor:(a[W+i]'hWi).toNat ||| (a[W+i+1]'h1).toNat*4294967296=(a[W+i]'hWi).toNat+(a[W+i+1]'h1).toNat*4294967296:=by
    have:=zz7 (a:=(a[W+i]'hWi).toNat) (b:=(a[W+i+1]'h1).toNat) (n:=32) (by simp)
    grind
   have m4:((a[W+i]'hWi).toNat+(a[W+i+1]'h1).toNat*4294967296)%18446744073709551616=(a[W+i]'hWi).toNat+(a[W+i+1]'h1).toNat*4294967296:=Yi (by omega);have hs1:=zku (P:=[]) (c:=0) (R:=List.replicate (a.length-W-(i+1)) 0) (w32 (((a[W+i]'hWi).toNat+(a[W+i+1]'h1).toNat*4294967296)/2^n%4294967296)) hm;have hlt2:(W:Int)+i+1<(a.length:Int):=by omega
   have hlt4:((W:Int)+i+1).toNat=W+i+1:=by omega
   refine⟨(i+1,m++[w32 (((a[W+i]'hWi).toNat+(a[W+i+1]'h1).toNat*4294967296)/2^n%4294967296)]),⟨h0,by grind,fin _ (val (a.drop (W+i+1+1))) (by rw[hd1,zak])⟩,by omega,?_⟩;simp at hg;simp[zei]at hs1;simp -implicitDefEqProofs[l94_0,Zkg,h0,ha,hrep,hw,hw2,hw3,hg,hs1,zei,hmin,hlt1,hlt2,hlt3,hlt4,m1,m2,m3,m4,hor,h1]
  ·have hs1:=zku (P:=[]) (c:=0) (R:=List.replicate (a.length-W-(i+1)) 0) (w32 ((a[W+i]'hWi).toNat/2^n%4294967296)) hm;have hlt2:¬ (W:Int)+i+1<(a.length:Int):=by omega
   have f0:=fin 0 0 (by rw[Ya6 (by omega),za3,Yal]);refine⟨(i+1,m++[w32 ((a[W+i]'hWi).toNat/2^n%4294967296)]),⟨h0,by grind,f0⟩,by omega,?_⟩;simp at hg;simp[zei]at hs1;simp -implicitDefEqProofs[l94_0,Zkg,h0,ha,hrep,hw,hw2,hw3,hg,hs1,zei,hmin,hlt1,hlt2,hlt3,m1]
 ·right;have:i=a.length-W:=by omega
  subst this;rw[show W+(a.length-W)=a.length by omega,Yac,za3,Nat.zero_div,Yal,Yx]at hv;refine⟨_,⟨m++List.replicate (a.length-W-(a.length-W)) 0,rfl,by grind,by grind⟩,?_,?_⟩<;>simp -implicitDefEqProofs[l94_0,Zkg]
end
section
variable{T:Tbl}[Zu T][Z1 T]
theorem zwf(a:List UInt32)(n:Nat)(h:n/32≤a.length):val (a.drop (n/32))/2^(n%32)=val a/2^n:=by
 rw[←zwk a _ h,Ybi,zkw,←Ybe,show 32*(n/32)+n%32=n by omega]
theorem zwg(a:List UInt32)(n:Nat)(hn:n≤100000000)(hl:a.length≤100000):Zb T 94 [.sl (Za a) .an,.i .i64 n]=some (.sl (Za (ofN (val a/2^n))) .an):=by
 have hn2:¬ (n:Int)<0:=by omega
 have hq:(n:Int).tdiv 32=(n:Int)/32:=Ybo (by omega);have hm2:(n:Int).tmod 32=(n:Int)%32:=Yca (by omega);have w1:IntKind.wrap .i64 ((n:Int)/32)=(n:Int)/32:=zab (n/32) (by omega);rcases Yq (n/32) a.length with h0 | h0
 ·obtain⟨_,⟨m,rfl,hm,hv⟩,hr⟩:=zwe (T:=T) a (n/32) (n%32) (Ya1 _ (by decide)) (by omega) (by omega) (0,[]) ⟨Yl _,rfl,by rw[za3,Yc9,Yec,Yah,Yx]⟩;rw[zwf a n (by omega)]at hv;have hnm:=zbf (T:=T) m (by omega);rw[hv]at hnm;unfold Zkg at hr;have hsub:((a.length-n/32:Nat):Int)=(a.length:Int)-(n:Int)/32:=by omega
  simp[hsub]at hr;have p0:¬ (a.length:Int)≤(n:Int)/32:=by omega
  have w2:IntKind.wrap .i64 ((a.length:Int)-(n:Int)/32)=(a.length:Int)-(n:Int)/32:=zab _ (by omega);have p1:(n:Int)/32≤(a.length:Int):=by omega
  have p2:(a.length:Int)-(n:Int)/32≤4294967296:=by omega
  have p3:((a.length:Int)-(n:Int)/32).toNat=a.length-n/32:=by omega
  have htk:List.take (a.length-n/32) m=m:=Yb (by omega);have p5:a.length≤a.length-n/32+n/32:=by omega
  rw[zac Z1.h94 rfl,b94];simp -implicitDefEqProofs[hn2,hq,hm2,w1,w2,p0,p5,p1,p2,p3,hsub,hr,hnm,htk,hm]
 ·have hz:val a/2^n=0:=by
   refine Ya4 (Yp (zax a) ?_);rw[zkw];exact Ym (by decide) (by omega)
  have p0:(a.length:Int)≤(n:Int)/32:=by omega
  rw[hz,zgu,zac Z1.h94 rfl,b94];simp -implicitDefEqProofs[hn2,hq,hm2,w1,p0]
end
end Go.Ab
end
section
namespace Go.Ab
def l90_0:AX:=
 (.note
 (.seq
 (.seq
 (.reg [mv 16 7,rg 17 (.bin .geq (.t 16) (.c (.i .i64 0)))])
 (.cond (.t 17)
 .skip
 (.exit 0)))
 (.seq
 (.block 1
 (.reg [mv 21 4,mv 22 7,mv 23 5,mv 24 0,mv 25 7,rg 26 (.iad 1 (.t 24) (.t 25)),rg 27 (.load none (.t 26)),mv 28 1,rg 29 (.call 118 [(.t 23),(.t 27),(.t 28)]),mv 20 29,rg 30 (.ext (.t 20) 0),rg 31 (.ext (.t 20) 1),rg 32 (.ext (.t 20) 2),rg 33 (.iad 1 (.t 21) (.t 22)),so (.store 1 (.t 33) (.t 30)),mv 5 31]))
 (.reg [mv 18 7,rg 19 (.bin .sub (.t 18) (.c (.i .i64 1))),mv 7 19])))
 (.norm false [0,1,4,5,7]))
def b90:AX:=
 (.seq
 (.reg [rg 4 (.mov (.c (.sl [] .nl))),rg 5 (.mov (.c (u32 0))),rg 6 (.mov (.c (.b false)))])
 (.seq
 (.seq
 (.reg [mv 8 1,rg 9 (.bin .eql (.t 8) (.c (u32 0)))])
 (.cond (.t 9)
 (.seq
 (.reg [rg 4 (.mov (.c (.sl [] .nl))),rg 5 (.mov (.c (u32 0))),rg 6 (.mov (.c (.b false)))])
 (.pre (.norm false [4,5,6]) .ret))
 .skip))
 (.seq
 (.reg [mv 10 0,rg 11 (.len (.t 10)),rg 12 (.mks 1 [(u32 0)] (.t 11) (.t 11)),mv 4 12])
 (.seq
 (.seq
 (.reg [mv 13 0,rg 14 (.len (.t 13)),rg 15 (.bin .sub (.t 14) (.c (.i .i64 1))),mv 7 15])
 (.lp 0 (.norm false [0,1,4,5,7]) l90_0 (.norm false [4,5])))
 (.seq
 (.reg [mv 34 4,rg 35 (.call 71 [(.t 34)]),mv 36 5,mv 4 35,mv 5 36,rg 6 (.mov (.c (.b true)))])
 (.pre (.norm false [4,5,6]) .ret))))))
def l119_0:AX:=
 (.note
 (.block 1
 (.seq
 (.reg [mv 46 11,mv 47 4,rg 48 (.call 117 [(.t 46),(.t 47),(.c (u32 0)),(.c (u32 0))]),mv 45 48,rg 49 (.ext (.t 45) 0),rg 50 (.ext (.t 45) 1),mv 16 49,mv 17 50])
 (.seq
 (.seq
 (.reg [mv 51 16,mv 52 12,rg 53 (.bin .lss (.t 51) (.t 52)),mv 54 53,gd 55 54 false (.mov (.t 16)),gd 56 54 false (.mov (.t 12)),gd 57 54 false (.bin .eql (.t 55) (.t 56)),gd 58 54 false (.mov (.t 57)),gd 59 58 true (.mov (.t 17)),gd 60 58 true (.mov (.t 2)),gd 61 58 true (.bin .leq (.t 59) (.t 60)),gd 62 54 false (.pick (.t 58) (.t 61) (.c (.b false))),rg 63 (.pick (.t 54) (.c (.b true)) (.t 62))])
 (.cond (.t 63)
 (.exit 0)
 .skip))
 (.seq
 (.reg [mv 64 11,rg 65 (.bin .sub (.t 64) (.c (u32 1))),mv 11 65])
 (.seq
 (.reg [mv 67 12,mv 68 3,rg 69 (.call 115 [(.t 67),(.t 68),(.c (u32 0))]),mv 66 69,rg 70 (.ext (.t 66) 0),rg 71 (.ext (.t 66) 1),mv 18 70,mv 19 71])
 (.seq
 (.seq
 (.reg [mv 72 19,rg 73 (.bin .gtr (.t 72) (.c (u32 0)))])
 (.cond (.t 73)
 (.exit 0)
 .skip))
 (.reg [mv 74 18,mv 12 74])))))))
 (.norm false [2,3,4,11,12]))
def b119:AX:=
 (.seq
 (.reg [rg 10 (.mov (.c (u32 0)))])
 (.scope
 (.seq
 (.reg [mv 21 0,mv 22 1,mv 23 3,rg 24 (.call 118 [(.t 21),(.t 22),(.t 23)]),mv 20 24,rg 25 (.ext (.t 20) 0),rg 26 (.ext (.t 20) 1),rg 27 (.ext (.t 20) 2),mv 11 25,mv 12 26,mv 13 27])
 (.seq
 (.seq
 (.reg [mv 28 13,rg 29 (.un .not (.t 28))])
 (.cond (.t 29)
 (.seq
 (.reg [rg 11 (.mov (.c (u32 4294967295)))])
 (.seq
 (.reg [mv 31 1,mv 32 3,rg 33 (.call 115 [(.t 31),(.t 32),(.c (u32 0))]),mv 30 33,rg 34 (.ext (.t 30) 0),rg 35 (.ext (.t 30) 1),mv 14 34,mv 15 35])
 (.seq
 (.seq
 (.reg [mv 36 0,mv 37 3,rg 38 (.bin .gtr (.t 36) (.t 37)),mv 39 38,gd 40 39 false (.mov (.t 15)),gd 41 39 false (.bin .gtr (.t 40) (.c (u32 0))),rg 42 (.pick (.t 39) (.c (.b true)) (.t 41))])
 (.cond (.t 42)
 (.seq
 (.reg [mv 43 11,mv 10 43])
 (.pre (.norm false [10]) .ret))
 .skip))
 (.reg [mv 44 14,mv 12 44]))))
 .skip))
 (.seq
 (.label 0)
 (.seq
 (.lp 0 (.norm false [2,3,4,11,12]) l119_0 (.norm false [11]))
 (.seq
 (.reg [mv 75 11,mv 10 75])
 (.pre (.norm false [10]) .ret))))))))
def l120_0:AX:=
 (.note
 (.seq
 (.reg [rg 18 (.bin .lss (.t 17) (.t 16))])
 (.seq
 (.cond (.t 18)
 .skip
 (.exit 0))
 (.seq
 (.block 1
 (.seq
 (.reg [mv 19 17,rg 20 (.iad 1 (.t 15) (.t 17)),rg 21 (.load none (.t 20)),mv 11 19,mv 12 21])
 (.seq
 (.reg [rg 13 (.mov (.c (u32 0)))])
 (.seq
 (.reg [mv 23 3,mv 24 12,mv 25 9,rg 26 (.call 117 [(.t 23),(.t 24),(.t 25),(.c (u32 0))]),mv 22 26,rg 27 (.ext (.t 22) 0),rg 28 (.ext (.t 22) 1),mv 9 27,mv 13 28])
 (.reg [mv 30 0,mv 31 1,mv 32 11,rg 33 (.bin .add (.t 31) (.t 32)),mv 34 0,mv 35 1,mv 36 11,rg 37 (.bin .add (.t 35) (.t 36)),rg 38 (.iad 1 (.t 34) (.t 37)),rg 39 (.load none (.t 38)),mv 40 13,mv 41 10,rg 42 (.call 116 [(.t 39),(.t 40),(.t 41)]),mv 29 42,rg 43 (.ext (.t 29) 0),rg 44 (.ext (.t 29) 1),rg 45 (.iad 1 (.t 30) (.t 33)),so (.store 1 (.t 45) (.t 43)),mv 10 44])))))
 (.reg [rg 46 (.bin .add (.t 17) (.c (.i .i64 1))),mv 17 46]))))
 (.norm false [0,1,2,3,9,10,15,16,17]))
def b120:AX:=
 (.seq
 (.reg [rg 8 (.mov (.c (.b false)))])
 (.seq
 (.reg [rg 9 (.mov (.c (u32 0))),rg 10 (.mov (.c (u32 0)))])
 (.seq
 (.seq
 (.reg [mv 15 2,rg 16 (.len (.t 15)),rg 17 (.mov (.c (.i .i64 0)))])
 (.lp 0 (.norm false [0,1,2,3,9,10,15,16,17]) l120_0 (.norm false [0,1,2,9,10])))
 (.seq
 (.reg [mv 47 1,mv 48 2,rg 49 (.len (.t 48)),rg 50 (.bin .add (.t 47) (.t 49)),mv 14 50])
 (.seq
 (.reg [mv 52 0,mv 53 14,mv 54 0,mv 55 14,rg 56 (.iad 1 (.t 54) (.t 55)),rg 57 (.load none (.t 56)),mv 58 9,mv 59 10,rg 60 (.call 116 [(.t 57),(.t 58),(.t 59)]),mv 51 60,rg 61 (.ext (.t 51) 0),rg 62 (.ext (.t 51) 1),rg 63 (.iad 1 (.t 52) (.t 53)),so (.store 1 (.t 63) (.t 61)),mv 10 62])
 (.seq
 (.reg [mv 64 10,rg 65 (.bin .gtr (.t 64) (.c (u32 0))),mv 8 65])
 (.pre (.norm false [8]) .ret)))))))
def l121_0:AX:=
 (.note
 (.seq
 (.reg [rg 12 (.bin .lss (.t 11) (.t 10))])
 (.seq
 (.cond (.t 12)
 .skip
 (.exit 0))
 (.seq
 (.block 1
 (.seq
 (.reg [mv 13 11,rg 14 (.iad 1 (.t 9) (.t 11)),rg 15 (.load none (.t 14)),mv 7 13,mv 8 15])
 (.reg [mv 17 0,mv 18 1,mv 19 7,rg 20 (.bin .add (.t 18) (.t 19)),mv 21 0,mv 22 1,mv 23 7,rg 24 (.bin .add (.t 22) (.t 23)),rg 25 (.iad 1 (.t 21) (.t 24)),rg 26 (.load none (.t 25)),mv 27 8,mv 28 6,rg 29 (.call 115 [(.t 26),(.t 27),(.t 28)]),mv 16 29,rg 30 (.ext (.t 16) 0),rg 31 (.ext (.t 16) 1),rg 32 (.iad 1 (.t 17) (.t 20)),so (.store 1 (.t 32) (.t 30)),mv 6 31])))
 (.reg [rg 33 (.bin .add (.t 11) (.c (.i .i64 1))),mv 11 33]))))
 (.norm false [0,1,2,6,9,10,11]))
def b121:AX:=
 (.seq
 (.reg [rg 6 (.mov (.c (u32 0)))])
 (.seq
 (.seq
 (.reg [mv 9 2,rg 10 (.len (.t 9)),rg 11 (.mov (.c (.i .i64 0)))])
 (.lp 0 (.norm false [0,1,2,6,9,10,11]) l121_0 (.norm false [0,1,2,6])))
 (.reg [mv 34 0,mv 35 1,mv 36 2,rg 37 (.len (.t 36)),rg 38 (.bin .add (.t 35) (.t 37)),rg 39 (.iad 1 (.t 34) (.t 38)),rg 40 (.load none (.t 39)),mv 41 6,rg 42 (.bin .add (.t 40) (.t 41)),rg 43 (.iad 1 (.t 34) (.t 38)),so (.store 1 (.t 43) (.t 42))])))
def l93_0:AX:=
 (.note
 (.seq
 (.seq
 (.reg [mv 19 7,rg 20 (.bin .geq (.t 19) (.c (.i .i64 0)))])
 (.cond (.t 20)
 .skip
 (.exit 0)))
 (.seq
 (.block 1
 (.seq
 (.drawT [mv 23 0,mv 24 7,mv 25 5,rg 26 (.bin .add (.t 24) (.t 25)),rg 27 (.iad 1 (.t 23) (.t 26)),rg 28 (.load none (.t 27)),mv 29 0,mv 30 7,mv 31 5,rg 32 (.bin .add (.t 30) (.t 31)),rg 33 (.bin .sub (.t 32) (.c (.i .i64 1))),rg 34 (.iad 1 (.t 29) (.t 33)),rg 35 (.load none (.t 34)),mv 36 0,mv 37 7,mv 38 5,rg 39 (.bin .add (.t 37) (.t 38)),rg 40 (.bin .sub (.t 39) (.c (.i .i64 2))),rg 41 (.iad 1 (.t 36) (.t 40)),rg 42 (.load none (.t 41)),mv 43 1,mv 44 5,rg 45 (.bin .sub (.t 44) (.c (.i .i64 1))),rg 46 (.iad 1 (.t 43) (.t 45)),rg 47 (.load none (.t 46)),mv 48 1,mv 49 5,rg 50 (.bin .sub (.t 49) (.c (.i .i64 2))),rg 51 (.iad 1 (.t 48) (.t 50)),rg 52 (.load none (.t 51))]
 [rg 53 (.call 119 [(.t 28),(.t 35),(.t 42),(.t 47),(.t 52)]),mv 8 53])
 (.seq
 (.seq
 (.reg [mv 54 0,mv 55 7,mv 56 1,mv 57 8,rg 58 (.call 120 [(.t 54),(.t 55),(.t 56),(.t 57)])])
 (.cond (.t 58)
 (.seq
 (.reg [mv 59 8,rg 60 (.bin .sub (.t 59) (.c (u32 1))),mv 8 60])
 (.reg [mv 61 0,mv 62 7,mv 63 1,rg 64 (.call 121 [(.t 61),(.t 62),(.t 63)])]))
 .skip))
 (.reg [mv 65 6,mv 66 7,mv 67 8,rg 68 (.iad 1 (.t 65) (.t 66)),so (.store 1 (.t 68) (.t 67))]))))
 (.reg [mv 21 7,rg 22 (.bin .sub (.t 21) (.c (.i .i64 1))),mv 7 22])))
 (.norm false [0,1,5,6,7]))
def b93:AX:=
 (.seq
 (.reg [rg 4 (.mov (.c (.sl [] .nl)))])
 (.seq
 (.reg [mv 9 1,rg 10 (.len (.t 9)),mv 5 10])
 (.seq
 (.reg [mv 11 0,rg 12 (.len (.t 11)),mv 13 5,rg 14 (.bin .sub (.t 12) (.t 13)),rg 15 (.mks 1 [(u32 0)] (.t 14) (.t 14)),mv 6 15])
 (.seq
 (.seq
 (.reg [mv 16 6,rg 17 (.len (.t 16)),rg 18 (.bin .sub (.t 17) (.c (.i .i64 1))),mv 7 18])
 (.lp 0 (.norm false [0,1,5,6,7]) l93_0 (.norm false [6])))
 (.seq
 (.reg [mv 69 6,mv 4 69])
 (.pre (.norm false [4]) .ret))))))
def row90:AFx:=⟨2,37,[.t 4,.t 5,.t 6],b90,none,false⟩
def row119:AFx:=⟨5,76,[.t 10],b119,none,false⟩
def row120:AFx:=⟨4,66,[.t 8],b120,(some [true,false,false,false]),false⟩
def row121:AFx:=⟨3,44,[],b121,(some [true,false,false]),false⟩
def row93:AFx:=⟨2,70,[.t 4],b93,(some [true,false]),false⟩
class Zw (T:Tbl):Prop where
 h90:T 90=some row90
 h119:T 119=some row119
 h120:T 120=some row120
 h121:T 121=some row121
 h93:T 93=some row93
section
variable{T:Tbl}[Zw T]{d:Option Nat}{st:St}
@[simp] theorem x90(xs:List AV):Zd (orc T) T 90 xs d st=cP T 90 false xs d st:=zaa Zw.h90
@[simp] theorem x119(xs:List AV):Zd (orc T) T 119 xs d st=cP T 119 false xs d st:=zaa Zw.h119
theorem f119(xs:List AV)(hn:xs.length=5):Zb T 119 xs=Zgx [.t 10] false (evX (orc T) T 0 b119 ⟨Zch xs,[],1⟩):=zac Zw.h119 hn
@[simp] theorem x120(xs:List AV):Zd (orc T) T 120 xs d st=bL (Zeb st.heap [true,false,false,false] xs) fun ys=>Zdp ys (Zm (Za1 [true,false,false,false] xs) st.heap) (Zcy (Zm (Za1 [true,false,false,false] xs) st.heap) 40 (Zci [true,false,false,false] xs) []) T 120 false d st:=zav Zw.h120
@[simp] theorem x121(xs:List AV):Zd (orc T) T 121 xs d st=bL (Zeb st.heap [true,false,false] xs) fun ys=>Zdp ys (Zm (Za1 [true,false,false] xs) st.heap) (Zcy (Zm (Za1 [true,false,false] xs) st.heap) 40 (Zci [true,false,false] xs) []) T 121 false d st:=zav Zw.h121
@[simp] theorem x93(xs:List AV):Zd (orc T) T 93 xs d st=bL (Zeb st.heap [true,false] xs) fun ys=>Zdp ys (Zm (Za1 [true,false] xs) st.heap) (Zcy (Zm (Za1 [true,false] xs) st.heap) 40 (Zci [true,false] xs) []) T 93 false d st:=zav Zw.h93
end
end Go.Ab
end
section
namespace Go.Ab
theorem zkk{m:List UInt32}{j:Nat}(w:UInt32):(List.replicate (j+1) 0++m).set j w=List.replicate j 0++w::m:=by
 rw[List.set_append_left j w (by simp),List.replicate_succ',Yai j w (by simp)];simp
theorem zkl{m:List UInt32}{j:Nat}:(List.replicate (j+1) (0:UInt32)++m)[j]? = some 0:=by
 rw[Yr (by simp),Yda,if_pos (by omega)]
section
variable{T:Tbl}[Zu T][Z1 T][Zz T][Zw T]
def Zko(a:List UInt32)(x:Nat)(y:Nat×Nat×List UInt32):St:=
 ⟨[(0,.sl (Za a) .an),(1,u32 x),(4,.bs (.loc 12) 1 1 0 a.length),(5,u32 y.2.1),(7,.i .i64 ((y.1:Int)-1))],[(.loc 12,⟨1,.own,1,Za (List.replicate y.1 0++y.2.2)⟩)],3⟩
end
section
variable{T:Tbl}[Zu T]
theorem z13(a:List UInt32)(x:Nat)(hx:x<4294967296)(hl:a.length≤1000000):∀y:Nat×Nat×List UInt32,
  (y.1≤a.length∧y.2.1<x∧y.2.2.length=a.length-y.1∧val (a.drop y.1)=x*val y.2.2+y.2.1) →
  ∃r,(∃(c:Nat) (m:List UInt32),r=(Ex.n,(⟨[(4,.bs (.loc 12) 1 1 0 a.length),(5,u32 c)],[(.loc 12,⟨1,.own,1,Za m⟩)],3⟩:St)) ∧
   m.length=a.length∧c<x∧val a=x*val m+c)∧Zn T 0 0 (.norm false [4,5]) l90_0 (Zko a x y)=some r:=by
 refine zaq _ _ (fun y=>y.1) _ ?_
 rintro⟨k,c,m⟩ ⟨hk,hc,hm,hv⟩
 simp only at hk hc hm hv;cases k with
 | zero=>
  right;refine⟨_,⟨c,m,rfl,by omega,hc,hv⟩,?_,?_⟩<;>simp -implicitDefEqProofs[l90_0,Zko]
 | succ j=>
  left;have hja:j<a.length:=by omega
  have hy:=zaj (a[j]'hja);have hd:=Yk hja;have hw:IntKind.wrap .i64 ((j:Int)-1)=(j:Int)-1:=zab _ (by omega);have hs:=zkk (m:=m) (j:=j) (w32 ((c*4294967296+(a[j]'hja).toNat)/x));have hq:(c*4294967296+(a[j]'hja).toNat)/x<4294967296:=by
   refine Yci ?_;omega
  have hdv:=zmb (T:=T) c (a[j]'hja).toNat x hc hy hx;refine⟨(j,(c*4294967296+(a[j]'hja).toNat)%x,w32 ((c*4294967296+(a[j]'hja).toNat)/x)::m),⟨by omega,Ya1 _ (by omega),by grind,?_⟩,Y4 j,?_⟩
  ·grind[zak,zah,Nat.div_add_mod]
  ·simp -implicitDefEqProofs[l90_0,Zko,hja,hw,hs,zkl,hdv,zbe _ _ _ hq]
end
section
variable{T:Tbl}[Zu T][Zw T]
theorem zuo(a:List UInt32)(x:Nat)(hx:x<4294967296)(h0:0<x)(hl:a.length≤1000000) :
  Zb T 90 [.sl (Za a) .an,u32 x]=some (.tup [.sl (Za (ofN (val a/x))) .an,u32 (val a%x),.b true]):=by
 obtain⟨_,⟨c,m,rfl,hm,hc,hv⟩,hr⟩:=z13 (T:=T) a x hx hl (a.length,0,[]) ⟨Yf _,h0,by simp,by rw[Yac,za3,Yal,Yah]⟩;have e1:val a/x=val m:=by grind[Nat.mul_add_div,Nat.div_eq_of_lt]
 have e2:val a%x=c:=by rw[hv,Nat.mul_add_mod,Yi hc]
 have hnm:=zbf (T:=T) m (by omega);unfold Zko at hr;simp at hr;have hx0:x≠0:=by omega
 have w1:IntKind.wrap .i64 ((a.length:Int)-1)=(a.length:Int)-1:=zab _ (by omega);have p1:(a.length:Int)≤4294967296:=by omega
 have htk:List.take a.length m=m:=Yb (by omega);rw[e1,e2,zac Zw.h90 rfl,b90];simp -implicitDefEqProofs[hr,hx0,w1,p1,htk,hm,hnm]
end
section
variable{T:Tbl}[Zu T][Z1 T][Zz T][Zw T]
theorem zmh{p M w X s t y v D D':Nat}(h:M+X*t=s+p*D)(e:w+X*y+D=v+4294967296*D'):(M+p*w)+X*(t+p*y)=(s+p*v)+p*4294967296*D':=by
 grind
def Zkp(P S b:List UInt32)(x:Nat)(y:Nat×(Nat×Nat)×List UInt32):St:=
 ⟨[(0,.bs (.bor 0) 0 1 0 (P.length+S.length)),(1,.i .i64 P.length),(2,.sl (Za b) .an),(3,u32 x),(9,u32 y.2.1.1),(10,u32 y.2.1.2),(15,.sl (Za b) .an),(16,.i .i64 b.length),(17,.i .i64 y.1)],
  [(.bor 0,⟨0,.own,1,Za (P++(y.2.2++S.drop y.1))⟩)],4⟩
end
section
variable{T:Tbl}[Zu T]
theorem z14(P S b:List UInt32)(x:Nat)(hx:x<4294967296)(hS:b.length<S.length)(hl:P.length+S.length≤1000000):∀y:Nat×(Nat×Nat)×List UInt32,
  (y.1≤b.length∧y.2.1.1<4294967296∧y.2.1.2≤1∧y.2.2.length=y.1∧val y.2.2+x*val (b.take y.1)=val (S.take y.1)+4294967296^y.1*(y.2.1.2+y.2.1.1)) →
  ∃r,(∃(C B:Nat) (m:List UInt32),r=(Ex.n,(⟨[(0,.bs (.bor 0) 0 1 0 (P.length+S.length)),(1,.i .i64 P.length),(2,.sl (Za b) .an),(9,u32 C),(10,u32 B)],[(.bor 0,⟨0,.own,1,Za (P++(m++S.drop b.length))⟩)],4⟩:St)) ∧
   C<4294967296∧B≤1∧m.length=b.length∧val m+x*val b=val (S.take b.length)+4294967296^b.length*(B+C))∧Zn T 1 0 (.norm false [0,1,2,9,10]) l120_0 (Zkp P S b x y)=some r:=by
 refine zaq _ _ (fun y=>b.length-y.1) _ ?_
 rintro⟨i,⟨C,B⟩,m⟩ ⟨hi,hC,hB,hm,hv⟩
 simp only at hi hC hB hm hv;by_cases h0:i<b.length
 ·left;have hb:b[i]? = some (b[i]'h0):=Ya h0;have hiS:i<S.length:=by omega
  have hs:S[i]? = some (S[i]'hiS):=Ya hiS;have hg:=zc0 (P:=P) hm hiS;have hw:IntKind.wrap .i64 ((i:Int)+1)=((i+1:Nat):Int):=zab _ (by omega);have hw2:IntKind.wrap .i64 ((P.length:Int)+i)=((P.length+i:Nat):Int):=zab _ (by omega);have hlt2:(P.length:Int)+i<(P.length:Int)+S.length:=by omega
  have hlb:=zaj (b[i]'h0);have hls:=zaj (S[i]'hiS);have hmul:=zgh hx hlb;have c1:=zhu (T:=T) x (b[i]'h0).toNat C 0 hx hlb hC (by decide);rw[Yx]at c1;obtain⟨lo,hlo⟩:∃lo,lo=(x*(b[i]'h0).toNat+C)%4294967296:=⟨_,rfl⟩;obtain⟨C',hC'⟩:∃C',C'=(x*(b[i]'h0).toNat+C)/4294967296:=⟨_,rfl⟩;rw[←hlo,←hC']at c1;have c2:=zfk (T:=T) (S[i]'hiS).toNat lo B hls (by omega) (by omega);obtain⟨w,hwd⟩:∃w,w=((S[i]'hiS).toNat+8589934592-(lo+B))%4294967296:=⟨_,rfl⟩;obtain⟨B',hB'⟩:∃B',B'=2-((S[i]'hiS).toNat+8589934592-(lo+B))/4294967296:=⟨_,rfl⟩;rw[←hwd,←hB']at c2;have hwl:w<4294967296:=by omega
  have hset:=zck (P:=P) (w32 w) hm hiS;refine⟨(i+1,(C',B'),m++[w32 w]),⟨h0,by grind,by simp only;omega,by grind,?_⟩,by omega,?_⟩
  ·simp only;rw[zai,zaf hb,zaf hs,Y8,hm,zak,za3,Yal,Yx,zah hwl];exact zmh hv (by omega)
  ·simp -implicitDefEqProofs[l120_0,Zkp,h0,hw,hw2,hlt2,hg,c1,c2,hset,zbe _ _ _ hwl]
 ·right;have:i=b.length:=by omega
  subst this;rw[Yb (Yf b.length)]at hv;refine⟨_,⟨C,B,m,rfl,hC,hB,hm,hv⟩,?_,?_⟩<;>simp -implicitDefEqProofs[l120_0,Zkp]
end
section
variable{T:Tbl}[Zu T][Zw T]
theorem zup(P S b:List UInt32)(x:Nat)(hx:x<4294967296)(hS:b.length<S.length)(hl:P.length+S.length≤1000000) :
  ∃(B:Nat) (m:List UInt32),B≤1∧m.length=b.length+1∧val m+x*val b=val (S.take (b.length+1))+4294967296^(b.length+1)*B ∧
   Zbx T 120 [.bs (.bor 0) 0 1 0 (P.length+S.length),.i .i64 P.length,.sl (Za b) .an,u32 x] [(.bor 0,⟨0,.own,1,Za (P++S)⟩)] =
    some (.b (decide (0<B)),[(.bor 0,⟨0,.own,1,Za (P++(m++S.drop (b.length+1)))⟩)]):=by
 obtain⟨_,⟨C,B,m,rfl,hC,hB,hm,hv⟩,hr⟩:=z14 (T:=T) P S b x hx hS hl (0,(0,0),[]) ⟨Yl _,Nat.zero_lt_succ _,Yl _,rfl,by simp⟩;unfold Zkp at hr;simp at hr;have hs:S[b.length]? = some (S[b.length]'hS):=Ya hS;have hls:=zaj (S[b.length]'hS);have hg:=zc0 (P:=P) hm hS;have hw2:IntKind.wrap .i64 ((P.length:Int)+b.length)=((P.length+b.length:Nat):Int):=zab _ (by omega);have hlt2:(P.length:Int)+b.length<(P.length:Int)+S.length:=by omega
 have c2:=zfk (T:=T) (S[b.length]'hS).toNat C B hls hC (by omega);obtain⟨w,hwd⟩:∃w,w=((S[b.length]'hS).toNat+8589934592-(C+B))%4294967296:=⟨_,rfl⟩;obtain⟨B',hB'⟩:∃B',B'=2-((S[b.length]'hS).toNat+8589934592-(C+B))/4294967296:=⟨_,rfl⟩;rw[←hwd,←hB']at c2;have hwl:w<4294967296:=by omega
 have hset:=zck (P:=P) (w32 w) hm hS;refine⟨B',m++[w32 w],by omega,by grind,?_,?_⟩
 ·rw[zai,zaf hs,Y8,hm,zak,za3,Yal,Yx,zah hwl];have:=zmh (y:=0) (w:=w) (v:=(S[b.length]'hS).toNat) (D':=B') hv (by omega);omega
 ·rw[za4 Zw.h120 rfl,b120];simp -implicitDefEqProofs[hr,hw2,hlt2,hg,c2,hset,zbe _ _ _ hwl]
end
section
variable{T:Tbl}[Zu T][Z1 T][Zz T][Zw T]
theorem zmi{p M w s t y v D D':Nat}(h:M+p*D=s+t)(e:w+4294967296*D'=v+y+D):(M+p*w)+p*4294967296*D'=(s+p*v)+(t+p*y):=by
 grind
def Zkq(P S b:List UInt32)(y:Nat×Nat×List UInt32):St:=
 ⟨[(0,.bs (.bor 0) 0 1 0 (P.length+S.length)),(1,.i .i64 P.length),(2,.sl (Za b) .an),(6,u32 y.2.1),(9,.sl (Za b) .an),(10,.i .i64 b.length),(11,.i .i64 y.1)],
  [(.bor 0,⟨0,.own,1,Za (P++(y.2.2++S.drop y.1))⟩)],4⟩
end
section
variable{T:Tbl}[Zu T]
theorem z15(P S b:List UInt32)(hS:b.length<S.length)(hl:P.length+S.length≤1000000):∀y:Nat×Nat×List UInt32,
  (y.1≤b.length∧y.2.1≤1∧y.2.2.length=y.1∧val y.2.2+4294967296^y.1*y.2.1=val (S.take y.1)+val (b.take y.1)) →
  ∃r,(∃(C:Nat) (m:List UInt32),r=(Ex.n,(⟨[(0,.bs (.bor 0) 0 1 0 (P.length+S.length)),(1,.i .i64 P.length),(2,.sl (Za b) .an),(6,u32 C)],[(.bor 0,⟨0,.own,1,Za (P++(m++S.drop b.length))⟩)],4⟩:St)) ∧
   C≤1∧m.length=b.length∧val m+4294967296^b.length*C=val (S.take b.length)+val b)∧Zn T 1 0 (.norm false [0,1,2,6]) l121_0 (Zkq P S b y)=some r:=by
 refine zaq _ _ (fun y=>b.length-y.1) _ ?_
 rintro⟨i,C,m⟩ ⟨hi,hC,hm,hv⟩
 simp only at hi hC hm hv;by_cases h0:i<b.length
 ·left;have hb:b[i]? = some (b[i]'h0):=Ya h0;have hiS:i<S.length:=by omega
  have hs:S[i]? = some (S[i]'hiS):=Ya hiS;have hg:=zc0 (P:=P) hm hiS;have hw:IntKind.wrap .i64 ((i:Int)+1)=((i+1:Nat):Int):=zab _ (by omega);have hw2:IntKind.wrap .i64 ((P.length:Int)+i)=((P.length+i:Nat):Int):=zab _ (by omega);have hlt2:(P.length:Int)+i<(P.length:Int)+S.length:=by omega
  have hlb:=zaj (b[i]'h0);have hls:=zaj (S[i]'hiS);have c2:=zdz (T:=T) (S[i]'hiS).toNat (b[i]'h0).toNat C hls hlb (by omega);obtain⟨w,hwd⟩:∃w,w=((S[i]'hiS).toNat+(b[i]'h0).toNat+C)%4294967296:=⟨_,rfl⟩;obtain⟨C',hC'⟩:∃C',C'=((S[i]'hiS).toNat+(b[i]'h0).toNat+C)/4294967296:=⟨_,rfl⟩;rw[←hwd,←hC']at c2;have hwl:w<4294967296:=by omega
  have hset:=zck (P:=P) (w32 w) hm hiS;refine⟨(i+1,C',m++[w32 w]),⟨h0,by grind,by grind,?_⟩,by omega,?_⟩
  ·simp only;rw[zai,zaf hb,zaf hs,Y8,hm,zak,za3,Yal,Yx,zah hwl];exact zmi hv (by omega)
  ·simp -implicitDefEqProofs[l121_0,Zkq,h0,hw,hw2,hlt2,hg,c2,hset,zbe _ _ _ hwl]
 ·right;have:i=b.length:=by omega
  subst this;rw[Yb (Yf b.length)]at hv;refine⟨_,⟨C,m,rfl,hC,hm,hv⟩,?_,?_⟩<;>simp -implicitDefEqProofs[l121_0,Zkq]
end
section
variable{T:Tbl}[Zu T][Zw T]
theorem zuq(P S b:List UInt32)(hS:b.length<S.length)(hl:P.length+S.length≤1000000) :
  ∃(D:Nat) (m:List UInt32),D≤1∧m.length=b.length+1∧val m+4294967296^(b.length+1)*D=val (S.take (b.length+1))+val b ∧
   Zbx T 121 [.bs (.bor 0) 0 1 0 (P.length+S.length),.i .i64 P.length,.sl (Za b) .an] [(.bor 0,⟨0,.own,1,Za (P++S)⟩)] =
    some (.tup [],[(.bor 0,⟨0,.own,1,Za (P++(m++S.drop (b.length+1)))⟩)]):=by
 obtain⟨_,⟨C,m,rfl,hC,hm,hv⟩,hr⟩:=z15 (T:=T) P S b hS hl (0,0,[]) ⟨Yl _,Yl _,rfl,by simp⟩;unfold Zkq at hr;simp at hr;have hs:S[b.length]? = some (S[b.length]'hS):=Ya hS;have hls:=zaj (S[b.length]'hS);have hg:=zc0 (P:=P) hm hS;have hw2:IntKind.wrap .i64 ((P.length:Int)+b.length)=((P.length+b.length:Nat):Int):=zab _ (by omega);have hlt2:(P.length:Int)+b.length<(P.length:Int)+S.length:=by omega
 obtain⟨w,hwd⟩:∃w,w=((S[b.length]'hS).toNat+C)%4294967296:=⟨_,rfl⟩;have hwl:w<4294967296:=by omega
 have hset:=zck (P:=P) (w32 w) hm hS;refine⟨((S[b.length]'hS).toNat+C)/4294967296,m++[w32 w],by omega,by grind,?_,?_⟩
 ·rw[zai,zaf hs,Y8,hm,zak,za3,Yal,Yx,zah hwl];have:=zmi (y:=0) (w:=w) (v:=(S[b.length]'hS).toNat) (D':=((S[b.length]'hS).toNat+C)/4294967296) hv (by omega);omega
 ·rw[za4 Zw.h121 rfl,b121];simp -implicitDefEqProofs[hr,hw2,hlt2,hg,←hwd,hset,zbe _ _ _ hwl]
end
end Go.Ab
end
section
namespace Go.Ab
theorem zhs(q b1 b0:Nat):q*(b1*4294967296+b0)=q*b1*4294967296+q*b0:=by
 rw[Yan q,←Yab q]
theorem zkf{a2 a1 a0 b1 b0 q r:Nat}(h:q*b1+r=a2*4294967296+a1)(hle:q*b0≤r*4294967296+a0) :
  q*(b1*4294967296+b0)≤(a2*4294967296+a1)*4294967296+a0:=by
 refine Ye (Nat.le_of_eq (zhs q b1 b0)) ?_;revert h hle;generalize q*b1=u;generalize q*b0=v;omega
theorem zxv{a2 a1 a0 b1 b0 q r:Nat}(h:q*b1+r=a2*4294967296+a1)(hgt:r*4294967296+a0<q*b0) :
  (a2*4294967296+a1)*4294967296+a0<q*(b1*4294967296+b0):=by
 refine Nat.lt_of_lt_of_eq ?_ (zhs q b1 b0).symm;revert h hgt;generalize q*b1=u;generalize q*b0=v;omega
theorem zt4{q b0 r a0:Nat}(h0:a0<4294967296):(q*b0/4294967296<r∨q*b0/4294967296=r∧q*b0%4294967296≤a0)↔q*b0≤r*4294967296+a0:=by
 generalize q*b0=m;omega
end Go.Ab
end
section
namespace Go.Ab
section
variable{T:Tbl}[Zu T][Z1 T][Zz T][Zw T]
def Zgy(a0 b1 b0:Nat)(y:Nat×Nat):St:=⟨[(2,u32 a0),(3,u32 b1),(4,u32 b0),(11,u32 y.1),(12,u32 y.2)],[],2⟩
end
section
variable{T:Tbl}[Zu T]
theorem zt5(a2 a1 a0 b1 b0 g:Nat)(h0:a0<4294967296)(hb1:b1<4294967296)(hb0:b0<4294967296)
  (F1:∀q,q<4294967296→g≤q→q*(b1*4294967296+b0)≤(a2*4294967296+a1)*4294967296+a0→q=g)
  (F2:∀q,(a2*4294967296+a1)*4294967296+a0<q*(b1*4294967296+b0)→g<q):∀y:Nat×Nat,
  (y.1<4294967296∧y.2<4294967296∧y.1*b1+y.2=a2*4294967296+a1∧g≤y.1) →
  ∃r,(r=(Ex.n,(⟨[(11,u32 g)],[],2⟩:St)))∧Zn T 0 0 (.norm false [11]) l119_0 (Zgy a0 b1 b0 y)=some r:=by
 refine zaq _ _ (fun y=>y.1) _ ?_
 rintro⟨q,r⟩ ⟨hq,hr,hv,hg⟩
 simp only at hq hr hv hg;have c1:=zhu (T:=T) q b0 0 0 hq hb0 (by decide) (by decide);have c2:=zdz (T:=T) r b1 0 hr hb1 (by decide);rw[Yx]at c1;rw[Yx]at c2;have hcmp:=zt4 (q:=q) (b0:=b0) (r:=r) h0;obtain⟨hi,hhi⟩:∃hi,hi=q*b0/4294967296:=⟨_,rfl⟩;obtain⟨lo,hlo⟩:∃lo,lo=q*b0%4294967296:=⟨_,rfl⟩;rw[←hhi,←hlo]at c1 hcmp;have hlol:lo<4294967296:=by omega
 have hhil:hi<4294967296:=by
  have:=zgh hq hb0;omega
 by_cases hle:q*b0≤r*4294967296+a0
 ·right;have hqg:=F1 q hq hg (zkf hv hle);subst hqg;have hc:=hcmp.2 hle;clear hhi hlo;rcases hc with hc | ⟨rfl,hc2⟩
  ·refine⟨_,rfl,?_,?_⟩<;>simp -implicitDefEqProofs[l119_0,Zgy,c1,hc]
  ·refine⟨_,rfl,?_,?_⟩<;>simp -implicitDefEqProofs[l119_0,Zgy,c1,hc2]
 ·have hgt:r*4294967296+a0<q*b0:=by omega
  have hlt:=F2 q (zxv hv hgt);have hc:¬ (hi<r∨hi=r∧lo≤a0):=fun h=>hle (hcmp.1 h);have hq1:q-1<4294967296:=by omega
  have hs:Zet q 1=q-1:=by unfold Zet;omega
  have hqb:(q-1)*b1+(r+b1)=a2*4294967296+a1:=by
   have:q*b1=(q-1)*b1+b1:=by
    rw[←Nat.succ_mul];congr 1;omega
   omega
  by_cases hcar:4294967296≤r+b1
  ·right;have hmul:=zgh hq1 hb0;have hqg:=F1 (q-1) hq1 (by omega) (zkf hqb (by
    generalize (q-1)*b0=v at *
    omega))
   have m2:0<(r+b1)/4294967296:=Yet hcar (by decide);have m3:(r+b1)/4294967296<4294967296:=by omega
   have hr2:¬ hi<r:=fun h=>hc (.inl h);clear hhi hlo;refine⟨_,rfl,?_,?_⟩<;>by_cases he:hi=r
   ·have hc3:¬ lo≤a0:=fun h=>hc (.inr ⟨he,h⟩);subst he;simp -implicitDefEqProofs[l119_0,Zgy,c1,c2,hs,hc3,m2]
   ·simp -implicitDefEqProofs[l119_0,Zgy,c1,c2,hs,hr2,he,m2]
   ·have hc3:¬ lo≤a0:=fun h=>hc (.inr ⟨he,h⟩);subst he;simp -implicitDefEqProofs[l119_0,Zgy,c1,c2,hs,hc3,m2,hqg]
   ·simp -implicitDefEqProofs[l119_0,Zgy,c1,c2,hs,hr2,he,m2,hqg]
  ·left;refine⟨(q-1,r+b1),⟨hq1,by simp only;omega,hqb,by simp only;omega⟩,by simp only;omega,?_⟩;have m1:(r+b1)%4294967296=r+b1:=Yi (by omega);have m2:(r+b1)/4294967296=0:=Ya4 (by omega);rw[m1,m2]at c2;have hr2:¬ hi<r:=fun h=>hc (.inl h);clear hhi hlo;by_cases he:hi=r
   ·have hc3:¬ lo≤a0:=fun h=>hc (.inr ⟨he,h⟩);subst he;simp -implicitDefEqProofs[l119_0,Zgy,c1,c2,hs,hc3]
   ·simp -implicitDefEqProofs[l119_0,Zgy,c1,c2,hs,hr2,he]
end
end Go.Ab
end