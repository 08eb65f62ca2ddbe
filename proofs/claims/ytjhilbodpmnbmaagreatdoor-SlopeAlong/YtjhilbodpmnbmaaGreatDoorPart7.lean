/-
  A calculus of values, boxes and code, and what functions of the program compute, proved in it.
  Conditions: none beyond those that the theorems state. (Part 7.)
-/
import Derived.Test.YtjhilbodpmnbmaaGreatDoorPart6
import Derived.Test.YtjhilbodpmnbmaaGreatDoorRows
import Derived.Test.YtjhilbodpmnbmaaGreatDoorCards
import Derived.Test.YtjhilbodpmnbmaaGreatDoorTie
import Derived.ProofKit
import Derived.LaidMore
import Derived.OpenShut
import Derived.Stop.Joined
import Derived.SevenTiedAt
import Derived.Lib.LaidU8
import Derived.Lib.IndexAny
import Derived.Lib.Bytealg

set_option linter.unusedSectionVars false
set_option linter.unusedVariables false
set_option linter.unusedSimpArgs false
set_option linter.unnecessarySimpa false

namespace Go.Ab
structure Ins where
 op:Int
 a:Int
 b:Int
 n:Fz
abbrev Zee(i:Ins):List AV:=[.i .i64 i.op,.i .i64 i.a,.i .i64 i.b,.b i.n.1,.sl (Za i.n.2.1) .an,.sl (Za i.n.2.2) .an]
def Zdf(l:List Ins):List (List AV):=l.map Zee
@[simp] theorem z4h(l:List Ins):(Zdf l).length=l.length:=by simp[Zdf]
@[simp] theorem zah2(l:List Ins):wkL (Zdf l)=Zdf l:=by rw[zbq];simp[Zdf,wkR,wkA]
@[simp] theorem rowI_get?(l:List Ins)(i:Nat):(Zdf l)[i]? = (l[i]?).map Zee:=by simp[Zdf]
@[simp] theorem zac5(l:List Ins)(i:Nat)(h:i<(Zdf l).length):(Zdf l)[i]=Zee (l[i]'(by simpa using h)):=by simp[Zdf]
@[simp] theorem zac6:Zdf []=[]:=rfl
structure Tp where
 code:List Ins
 outs:List Int
 dim:Int
 par:Int
abbrev etp(t:Tp):AV:=.agg [.sl (Zdf t.code) .an,.sl (ints t.outs) .an,.i .i64 t.dim,.i .i64 t.par]
def Zhl(x:Fz):Bool:=decide (x=fz (fv x))
def Zil(x:Fz):Bool:=!x.1&&x.2.1.isEmpty&&x.2.2.isEmpty
def Zal(i:Ins):List Int:=if i.op=6∨i.op=11 then [i.a] else if 7≤i.op∧i.op≤10 then [i.a,i.b] else []
def Z9(i m:Int):Bool:=decide (0≤i)&&decide (i<m)
def Zcj(dim par p:Int)(i:Ins):Bool:=
 if i.op=1 then decide (i.a=0)&&decide (i.b=0)&&Zhl i.n
 else Zil i.n&&(Zal i).all (fun r=>Z9 r p) &&
  (if i.op=2 then decide (i.a=0)&&decide (i.b=0)
   else if i.op=3 then Z9 i.a dim&&decide (i.b=0)
   else if i.op=4 then Z9 i.a par&&decide (i.b=0)
   else if i.op=6 then decide (i.b=0)
   else if i.op=11 then decide (-8≤i.b)&&decide (i.b≤8)
   else decide ((Zal i).length=2))
def Zcf(dim par:Int):Nat→List Ins→Int
 | _,[]=>-1
 | p,i::r=>if Zcj dim par p i then Zcf dim par (p+1) r else p
def Zef(t:Tp):Bool:=Z9 (t.dim-1) 6&&Z9 t.par 7&&decide ((t.outs.length:Int)=t.dim)&&decide (t.code.length≤300)
def Zgc(t:Tp):Int:=
 if Zef t=false then -2 else if Zcf t.dim t.par 0 t.code≠-1 then Zcf t.dim t.par 0 t.code
 else if (t.outs.all fun o=>Z9 o t.code.length)=false then t.code.length else -1
def okT(t:Tp):Bool:=decide (Zgc t=-1)
theorem zkf(dim par:Int):∀(l:List Ins) (p:Nat),Zcf dim par p l=-1↔∀(k:Nat) (i:Ins),l[k]? = some i→Zcj dim par (p+k:Nat) i=true
 | [],p=>by simp[Zcf]
 | x::l,p=>by
  have ih:=zkf dim par l (p+1);unfold Zcf;by_cases h:Zcj dim par p x=true
  ·rw[if_pos h,ih];constructor
   ·intro H k i hk;cases k with
    | zero=>simp only[Yeq,Option.some.injEq]at hk;subst hk;simpa using h
    | succ k=>have:=H k i (by simpa using hk);rwa [show p+1+k=p+(k+1) by omega]at this
   ·intro H k i hk;have:=H (k+1) i (by simpa using hk)
    rwa [show p+(k+1)=p+1+k by omega]at this
  ·rw[if_neg h];constructor
   ·intro H;omega
   ·intro H;exact absurd (by simpa using H 0 x rfl) h
structure OkTp (t:Tp):Prop where
 d1:1≤t.dim
 d2:t.dim≤6
 p1:0≤t.par
 p2:t.par≤6
 ol:(t.outs.length:Int)=t.dim
 cl:t.code.length≤300
 may:∀(k:Nat) (i:Ins),t.code[k]? = some i→Zcj t.dim t.par k i=true
 outs:∀o∈t.outs,0≤o∧o<t.code.length
theorem zi4(t:Tp):okT t=true↔OkTp t:=by
 unfold okT Zgc;rw[decide_eq_true_eq];by_cases h1:Zef t=false
 ·rw[if_pos h1];constructor
  ·intro h;omega
  ·intro h;exfalso;have:Zef t=true:=by
    have:=h.d1;have:=h.d2;have:=h.p1;have:=h.p2;simp only[Zef,Z9,Yj,decide_eq_true_eq];exact⟨⟨⟨⟨by omega,by omega⟩,by omega,by omega⟩,h.ol⟩,h.cl⟩
   rw[this]at h1;cases h1
 ·have hw:Zef t=true:=by simpa using h1
  rw[if_neg h1];simp only[Zef,Z9,Yj,decide_eq_true_eq]at hw;obtain⟨⟨⟨⟨a1,a2⟩,a3,a4⟩,a5⟩,a6⟩:=hw;have hf:=zkf t.dim t.par t.code 0;by_cases h2:Zcf t.dim t.par 0 t.code≠-1
  ·rw[if_pos h2];constructor
   ·intro h;exact absurd h h2
   ·intro h;exact absurd (hf.2 fun k i hk=>by rw[Yaj];exact h.may k i hk) h2
  ·have h2':Zcf t.dim t.par 0 t.code=-1:=by simpa using h2
   rw[if_neg h2];by_cases h3:(t.outs.all fun o=>Z9 o t.code.length)=false
   ·rw[if_pos h3];constructor
    ·intro h;omega
    ·intro h;exfalso;have:(t.outs.all fun o=>Z9 o t.code.length)=true:=Yk.2 fun o ho=>by
      have:=h.outs o ho;simp only[Z9,Yj,decide_eq_true_eq];exact this
     rw[this]at h3;cases h3
   ·rw[if_neg h3];have h3':(t.outs.all fun o=>Z9 o t.code.length)=true:=by simpa using h3
    refine⟨fun _=>⟨by omega,by omega,a3,by omega,a5,a6,fun k i hk=>by have:=hf.1 h2' k i hk;rwa [Yaj]at this,fun o ho=>?_⟩,fun _=>rfl⟩;have:=Yk.1 h3' o ho;simpa only[Z9,Yj,decide_eq_true_eq]using this
theorem zfm{dim par:Int}{p:Nat}{i:Ins}(h:Zcj dim par p i=true)(ho:i.op=6∨i.op=11∨(7≤i.op∧i.op≤10)):0≤i.a∧i.a<p:=by
 unfold Zcj at h;rw[if_neg (by omega)]at h;simp only[Yj,Yk]at h;have:=h.1.2 i.a (by
  unfold Zal;by_cases h1:i.op=6∨i.op=11
  ·rw[if_pos h1];simp
  ·rw[if_neg h1,if_pos (by omega)];simp)
 simpa only[Z9,Yj,decide_eq_true_eq]using this
theorem zi5{dim par:Int}{p:Nat}{i:Ins}(h:Zcj dim par p i=true)(ho:7≤i.op∧i.op≤10):0≤i.b∧i.b<p:=by
 unfold Zcj at h;rw[if_neg (by omega)]at h;simp only[Yj,Yk]at h;have:=h.1.2 i.b (by
  unfold Zal;rw[if_neg (by omega),if_pos ho];simp)
 simpa only[Z9,Yj,decide_eq_true_eq]using this
theorem zkg{dim par:Int}{p:Nat}{i:Ins}(h:Zcj dim par p i=true):i.op=1∨i.op=2∨i.op=3∨i.op=4∨i.op=6∨i.op=7∨i.op=8∨i.op=9∨i.op=10∨i.op=11:=by
 unfold Zcj at h;by_cases h1:i.op=1
 ·exact .inl h1
 rw[if_neg h1]at h;by_cases h2:i.op=2
 ·omega
 by_cases h3:i.op=3
 ·omega
 by_cases h4:i.op=4
 ·omega
 by_cases h6:i.op=6
 ·omega
 by_cases h11:i.op=11
 ·omega
 rw[if_neg h2,if_neg h3,if_neg h4,if_neg h6,if_neg h11]at h;simp only[Yj,decide_eq_true_eq]at h;have h2':=h.2;by_cases hr:7≤i.op∧i.op≤10
 ·omega
 ·have e:Zal i=[]:=by
   unfold Zal;rw[if_neg (by omega),if_neg hr]
  rw[e]at h2';simp at h2'
theorem zz8{dim par:Int}{p:Nat}{i:Ins}(h:Zcj dim par p i=true)(ho:i.op=3):0≤i.a∧i.a<dim:=by
 unfold Zcj at h;rw[if_neg (by omega),if_neg (by omega),if_pos ho]at h;simp only[Yj,decide_eq_true_eq,Z9]at h;exact h.2.1
theorem zz9{dim par:Int}{p:Nat}{i:Ins}(h:Zcj dim par p i=true)(ho:i.op=4):0≤i.a∧i.a<par:=by
 unfold Zcj at h;rw[if_neg (by omega),if_neg (by omega),if_neg (by omega),if_pos ho]at h;simp only[Yj,decide_eq_true_eq,Z9]at h;exact h.2.1
theorem zpc{dim par:Int}{p:Nat}{i:Ins}(h:Zcj dim par p i=true)(ho:i.op=11):-8≤i.b∧i.b≤8:=by
 unfold Zcj at h;rw[if_neg (by omega),if_neg (by omega),if_neg (by omega),if_neg (by omega),if_neg (by omega),if_pos ho]at h;simp only[Yj,decide_eq_true_eq]at h;exact h.2
structure Po where
 t:Rat
 y:List Rat
 p:List Rat
structure PoF where
 t:Fz
 y:List Fz
 p:List Fz
def PoF.v(x:PoF):Po:=⟨fv x.t,x.y.map fv,x.p.map fv⟩
def Po.f(x:Po):PoF:=⟨fz x.t,fzs x.y,fzs x.p⟩
abbrev ept(x:PoF):AV:=.agg [.b x.t.1,.sl (Za x.t.2.1) .an,.sl (Za x.t.2.2) .an,.sl (Zd x.y) .an,.sl (Zd x.p) .an]
def gI(l:List Rat)(i:Int):Rat:=l.getD i.toNat 0
def Zbs(x:Rat)(e:Int):Rat:=x^e
def Zg(P:Po)(D:List Rat)(i:Ins):Rat×Bool:=
 if i.op=1 then (fv i.n,true)
 else if i.op=3 then (gI P.y i.a,true)
 else if i.op=4 then (gI P.p i.a,true)
 else if i.op=6 then (-gI D i.a,true)
 else if i.op=7 then (gI D i.a+gI D i.b,true)
 else if i.op=8 then (gI D i.a-gI D i.b,true)
 else if i.op=9 then (gI D i.a*gI D i.b,true)
 else if i.op=10 then (gI D i.a/gI D i.b,decide (gI D i.b≠0))
 else if i.op=11 then (if i.b<0∧gI D i.a=0 then (0,false) else (Zbs (gI D i.a) i.b,true))
 else (P.t,true)
def Zb9(q:Rat):Nat:=Zbh (fz q)
def Zbl(lim:Nat)(P:Po):List Ins→List Rat→List Rat×Nat×Nat
 | [],D=>(D,0,0)
 | i::r,D=>if (Zg P D i).2=false then ([],3,D.length) else if lim<Zb9 (Zg P D i).1 then ([],6,D.length) else Zbl lim P r (D++[(Zg P D i).1])
theorem zc5(lim:Nat)(P:Po)(i:Ins)(r:List Ins)(D:List Rat):Zbl lim P (i::r) D=if (Zg P D i).2=false then ([],3,D.length) else if lim<Zb9 (Zg P D i).1 then ([],6,D.length) else Zbl lim P r (D++[(Zg P D i).1]):=rfl
theorem zlf(lim:Nat)(P:Po):∀(l:List Ins) (D:List Rat),(Zbl lim P l D).2.1=0→(Zbl lim P l D).2.2=0∧∃E,(Zbl lim P l D).1=D++E∧E.length=l.length
 | [],D,_=>⟨rfl,[],by simp[Zbl],rfl⟩
 | i::r,D,h=>by
  have ih:=zlf lim P r (D++[(Zg P D i).1]);rw[zc5]at h ⊢;by_cases h1:(Zg P D i).2=false
  ·simp[h1]at h
  ·rw[if_neg h1]at h ⊢;by_cases h2:lim<Zb9 (Zg P D i).1
   ·simp[h2]at h
   ·rw[if_neg h2]at h ⊢;obtain⟨e1,E,e2,e3⟩:=ih h;exact⟨e1,(Zg P D i).1::E,by rw[e2];simp,by simp[e3]⟩
theorem zxk(lim:Nat)(P:Po):∀(l:List Ins) (D:List Rat),(Zbl lim P l D).2.1≠0→(Zbl lim P l D).1=[]∧D.length≤(Zbl lim P l D).2.2∧(Zbl lim P l D).2.2<D.length+l.length
 | [],D,h=>by simp[Zbl]at h
 | i::r,D,h=>by
  have ih:=zxk lim P r (D++[(Zg P D i).1]);rw[zc5]at h ⊢;by_cases h1:(Zg P D i).2=false
  ·simp[h1]
  ·rw[if_neg h1]at h ⊢;by_cases h2:lim<Zb9 (Zg P D i).1
   ·simp[h2]
   ·rw[if_neg h2]at h ⊢;have:=ih h;simp only[Ya6,Yy,Ybo]at this ⊢;exact⟨this.1,by omega,by omega⟩
abbrev tyI:Ty:=.cons (.int .i64) (.cons (.int .i64) (.cons (.int .i64) (.cons tyF .nil)))
abbrev tyT:Ty:=.cons (.sl tyI) (.cons (.sl (.int .i64)) (.cons (.int .i64) (.cons (.int .i64) .nil)))
abbrev tyP:Ty:=.cons tyF (.cons (.sl tyF) (.cons (.sl tyF) .nil))
theorem zus{x:AV}(h:Zin (true,tyP) x):∃t:PoF,wkA x=ept t:=by
 obtain⟨cs,rfl,c1,c1',rfl,h1,c2,c2',rfl,h2,c3,c3',rfl,h3,rfl⟩:=h;obtain⟨t,e1⟩:=z0r h1;obtain⟨y,e2⟩:=zf0 h2;obtain⟨p,e3⟩:=zf0 h3;refine⟨⟨t,y,p⟩,?_⟩;rw[wkA];simp only[zjv,e1,e2,e3]
 rfl
abbrev tyW:Ty:=.cons tyP (.cons tyP (.cons (.int .i64) .nil))
theorem zom:∀(a b:List UInt32),a.length=b.length→val a=val b→a=b
 | [],[],_,_=>rfl
 | x::a,y::b,hl,hv=>by
  simp only[zan]at hv;have hx:=zam x;have hy:=zam y;have h1:x.toNat=y.toNat:=by omega
  have h2:val a=val b:=by omega
  rw[Yev.1 h1,zom a b (by simpa using hl) h2]
 | [],_::_,hl,_=>by simp at hl
 | _::_,[],hl,_=>by simp at hl
theorem zf4{x y:Nat}:Zcm x y=0↔x=y:=by
 unfold Zcm;split
 ·constructor
  ·intro h;omega
  ·intro h;omega
 ·split
  ·constructor
   ·intro h;omega
   ·intro h;omega
  ·constructor
   ·intro _;omega
   ·intro _;rfl
theorem zva(z:Int):∀t:Nat,sg (decide (z<0)&&decide (t%2=1)) (z.natAbs^t)=z^t
 | 0=>by simp[sg]
 | t+1=>by
  have ih:=zva z t;have hz:sg (decide (z<0)) z.natAbs=z:=by
   unfold sg;by_cases h:z<0
   ·simp only[h,decide_true,if_true];omega
   ·simp only[h,decide_false,Yab,if_false];omega
  have hm:=zqp (decide (z<0)&&decide (t%2=1)) (decide (z<0)) (z.natAbs^t) z.natAbs;rw[ih,hz]at hm;rw[Int.pow_succ,←hm,Yw];congr 1;rcases Nat.mod_two_eq_zero_or_one t with h | h
  ·have h2:(t+1)%2=1:=by omega
   rw[h,h2];cases decide (z<0)<;>rfl
  ·have h2:(t+1)%2=0:=by omega
   rw[h,h2];cases decide (z<0)<;>rfl
theorem zgp{x L:Nat}(h:(ofN x).length≤L):∀t:Nat,(ofN (x^t)).length≤t*L+1
 | 0=>by rw[Yds,zfl];simp
 | t+1=>by
  have ih:=zgp h t;have:=za5 ih h;rw[Yw,Ye3];omega
section
variable{T:Tbl}[Z7 T][Zs T][Zw T][Zx T][Zt T][Zv T][Zf T][Zl T][Zq T][Z0 T]
theorem zjw(x:Fz)(hx:fsz x≤10000):Zb T 208 [efz x]=some (.b (Zhl x)):=by
 have hn:=zci (T:=T) x hx;have hs:=za6 (x:=x) (L:=10000) hx (by decide);have l1:=zgc (fv x);have l2:=zgd (fv x);unfold Zhl;have e':fz (fv x)=(decide ((fv x).num<0),ofN (fv x).num.natAbs,ofN (fv x).den):=rfl;rw[e']at hn ⊢;obtain⟨n,a,d⟩:=x;have la:=zc4 (n,a,d);have ld:=zc7 (n,a,d);simp only at la ld;generalize decide ((fv (n,a,d)).num<0)=m at *
 generalize ofN (fv (n,a,d)).num.natAbs=b at *
 generalize ofN (fv (n,a,d)).den=e at *
 have c1:=zgr (T:=T) a b (by omega) (by omega);have c2:=zgr (T:=T) d e (by omega) (by omega);clear e' hs
 change Zb T 207 [.agg [.b n,.sl (Za a) .an,.sl (Za d) .an]]=some (.agg [.b m,.sl (Za b) .an,.sl (Za e) .an]) at hn
 rw[zaa Z0.h208 rfl,b208];by_cases h1:n=m
 case neg=>
  have hd:decide ((n,a,d)=(m,b,e))=false:=by simp[h1]
  have hb:(n == m)=false:=by simpa using h1
  rw[hd];simp -implicitDefEqProofs[hn,hb]
 subst h1;by_cases h2:a.length=b.length
 case neg=>
  have hd:decide ((n,a,d)=(n,b,e))=false:=by
   have:a≠b:=fun h=>h2 (by rw[h]);simp[this]
  have hb:((a.length:Int) == b.length)=false:=by simp;omega
  have hb':¬ (a.length:Int)=b.length:=by omega
  rw[hd];simp -implicitDefEqProofs[hn,hb,hb',h2]
 by_cases h3:d.length=e.length
 case neg=>
  have hd:decide ((n,a,d)=(n,b,e))=false:=by
   have:d≠e:=fun h=>h3 (by rw[h]);simp[this]
  have hb:((d.length:Int) == e.length)=false:=by simp;omega
  have hb':¬ (d.length:Int)=e.length:=by omega
  rw[hd];simp -implicitDefEqProofs[hn,h2,hb,hb',h3]
 by_cases h4:val a=val b
 case neg=>
  have hd:decide ((n,a,d)=(n,b,e))=false:=by
   have:a≠b:=fun h=>h4 (by rw[h]);simp[this]
  have hc:¬ Zcm (val a) (val b)=0:=fun h=>h4 (zf4.1 h);rw[hd];generalize Zcm (val a) (val b)=k at *
  simp -implicitDefEqProofs[hn,h2,h3,c1,hc]
 have hab:=zom a b h2 h4;subst hab;have hk:Zcm (val a) (val a)=0:=zf4.2 rfl;rw[hk]at c1;by_cases h5:val d=val e
 case neg=>
  have hd:decide ((n,a,d)=(n,a,e))=false:=by
   have:d≠e:=fun h=>h5 (by rw[h]);simp[this]
  have hc:¬ Zcm (val d) (val e)=0:=fun h=>h5 (zf4.1 h);rw[hd];generalize Zcm (val d) (val e)=k at *
  simp -implicitDefEqProofs[hn,h3,c1,c2,hc]
 have hde:=zom d e h3 h5;subst hde;have hk2:Zcm (val d) (val d)=0:=zf4.2 rfl;rw[hk2]at c2;have hd:decide ((n,a,d)=(n,a,d))=true:=by simp
 rw[hd];simp -implicitDefEqProofs[hn,c1,c2]
def Zkp(a:List UInt32)(k i:Nat):St:=⟨[(0,.sl (Za a) .an),(5,.sl (Za (ofN (val a^i))) .an),(7,.i .i64 k),(8,.i .i64 i)],[],2⟩
theorem zjx(a:List UInt32)(k:Nat)(hk:k≤8)(ha:a.length≤1100):Zb T 219 [.sl (Za a) .an,.i .i64 k]=some (.sl (Za (ofN (val a^k))) .an):=by
 have h:Zn T 0 0 (.norm false [5]) l219_0 (Zkp a k 0)=some (.n,⟨[(5,.sl (Za (ofN (val a^k))) .an)],[],2⟩):=by
  refine za0 (Zkp a k) k _ (fun i hi=>?_) ?_
  ·have hl:=zgp (L:=1100) (Yc (zac a) ha) i;have c:=zex (T:=T) (ofN (val a^i)) a (by omega) (by omega);rw[zae,←Yw]at c;have hw:=zbs hi (by omega);unfold Zkp;generalize ofN (val a^i)=M at *
   generalize ofN (val a^(i+1))=M' at *
   simp -implicitDefEqProofs[l219_0,hi,hw,c]
  ·unfold Zkp;generalize ofN (val a^k)=M at *
   constructor<;>simp -implicitDefEqProofs[l219_0]
 have ho:=zg4 (T:=T) 1 (by decide);unfold Zkp at h;rw[Yds]at h;simp only[Yo]at h;generalize ofN 1=O at *
 rw[zaa Z0.h219 rfl,b219];generalize ofN (val a^k)=M at *
 simp -implicitDefEqProofs[ho,h]
def Zgm(q:Rat)(e:Int):Rat×Bool:=if -8≤e∧e≤8∧¬ (e<0∧q=0) then (Zbs q e,true) else (0,false)
theorem z82(q:Rat)(t:Nat):fz (q^t)=(decide (q.num<0)&&decide (t%2=1)&&decide (q.num.natAbs^t≠0),ofN (q.num.natAbs^t),ofN (q.den^t)):=by
 have h:=zva q.num t;unfold fz;rw[Yfb,Rat.den_pow,←h,zqn,zqo]
theorem z2y(q:Rat)(t:Nat)(hq:q≠0):fz (q^t)⁻¹=(decide (q.num<0)&&decide (t%2=1)&&decide (q.den^t≠0),ofN (q.den^t),ofN (q.num.natAbs^t)):=by
 have h:=zva q.num t;have hn:q.num≠0:=fun h=>hq (Rat.num_eq_zero.1 h);have hz:q.num^t≠0:=Int.pow_ne_zero hn;have hd:q.den^t≠0:=Nat.pos_iff_ne_zero.1 (Ya2 q.den_pos);have ha:q.num.natAbs^t≠0:=Nat.pos_iff_ne_zero.1 (Ya2 (Int.natAbs_pos.2 hn));have e1:(q^t)⁻¹.num=(q.num^t).sign*((q.den^t:Nat):Int):=by rw[Rat.num_inv,Yfb,Rat.den_pow]
 have e2:(q^t)⁻¹.den=q.num.natAbs^t:=by rw[Rat.den_inv,Yfb,if_neg hz,Int.natAbs_pow]
 have e3:((q.num^t).sign*((q.den^t:Nat):Int)).natAbs=q.den^t:=by
  rw[Yeg,Yd8 hz,Ycn,Yee]
 have e4:decide ((q.num^t).sign*((q.den^t:Nat):Int)<0)=decide (q.num^t<0):=by
  rw[decide_eq_decide];rcases Int.lt_trichotomy (q.num^t) 0 with h1 | h1 | h1
  ·rw[Int.sign_eq_neg_one_of_neg h1];constructor
   ·intro _;exact h1
   ·intro _;omega
  ·exact absurd h1 hz
  ·rw[Int.sign_eq_one_of_pos h1];constructor
   ·intro _;omega
   ·intro _;omega
 have e5:decide (q.num^t<0)=(decide (q.num<0)&&decide (t%2=1)):=by
  rw[←h,zqn,decide_eq_true ha,Yd2]
 unfold fz;rw[e1,e2,e3,e4,e5,decide_eq_true hd,Yd2]
theorem zhf(x:Fz)(e:Int)(hx:fsz x≤1000):Zb T 220 [efz x,.i .i64 e]=some (.tup [efz (fz (Zgm (fv x) e).1),.b (Zgm (fv x) e).2]):=by
 have h0:=zcm (T:=T);have hsg:=zmr (T:=T) x (by omega);have hn:=zci (T:=T) x (by omega);have hs:=za6 (x:=x) (L:=1000) hx (by decide);have l1:=zgc (fv x);have l2:=zgd (fv x);unfold Zgm;rw[zaa Z0.h220 rfl,b220];by_cases h1:e < -8
 ·rw[if_neg (by omega)];generalize fz 0=Z at *
  simp -implicitDefEqProofs[h0,h1]
 by_cases h2:8<e
 ·rw[if_neg (by omega)];generalize fz 0=Z at *
  simp -implicitDefEqProofs[h0,h1,h2]
 obtain⟨q,hq⟩:∃q,q=fv x:=⟨_,rfl⟩;rw[←hq]at hsg hn hs l1 l2 ⊢;clear hq;have e':fz q=(decide (q.num<0),ofN q.num.natAbs,ofN q.den):=rfl;rw[e']at hn;have hA:(ofN q.num.natAbs).length≤1100:=by omega
 have hD:(ofN q.den).length≤1100:=by omega
 have pA:∀k:Nat,k≤8→Zb T 219 [.sl (Za (ofN q.num.natAbs)) .an,.i .i64 k]=some (.sl (Za (ofN (q.num.natAbs^k))) .an):=fun k hk=>by
  have:=zjx (T:=T) (ofN q.num.natAbs) k hk hA
  rwa [zae]at this
 have pD:∀k:Nat,k≤8→Zb T 219 [.sl (Za (ofN q.den)) .an,.i .i64 k]=some (.sl (Za (ofN (q.den^k))) .an):=fun k hk=>by
  have:=zjx (T:=T) (ofN q.den) k hk hD
  rwa [zae]at this
 have lA:∀k:Nat,k≤8→(ofN (q.num.natAbs^k)).length≤1000000:=fun k hk=>by
  have:=zgp hA k;have:k*1100≤8*1100:=Yv _ hk;omega
 have lD:∀k:Nat,k≤8→(ofN (q.den^k)).length≤1000000:=fun k hk=>by
  have:=zgp hD k;have:k*1100≤8*1100:=Yv _ hk;omega
 have hodd:∀k:Nat,k≤8→(((k:Int).tmod 2) == 1)=decide (k%2=1):=fun k hk=>by
  have e:(k:Int).tmod 2=((k%2:Nat):Int):=by rw[show (2:Int)=((2:Nat):Int) from rfl,←Int.ofNat_tmod]
  rw[e,Ybb];simp;omega
 by_cases h3:e<0
 case neg=>
  obtain⟨n,rfl⟩:∃n:Nat,e=n:=⟨e.toNat,by omega⟩;have hn8:n≤8:=by omega
  rw[if_pos (by omega)];have hw:IntKind.wrap .i64 (-(n:Int))=-(n:Int):=zad _ (by omega);have cA:=pA n hn8;have cD:=pD n hn8;have ho:=hodd n hn8;have hnorm:=zgw (T:=T) (decide (q.num<0)&&decide (n%2=1)) (ofN (q.num.natAbs^n)) (lA n hn8);rw[show wv (decide (q.num<0)&&decide (n%2=1)) (ofN (q.num.natAbs^n))=sg (decide (q.num<0)&&decide (n%2=1)) (q.num.natAbs^n) by unfold wv;rw[zae],zxa]at hnorm;have hf:=z82 q n;have hz:Zbs q (n:Int)=q^n:=Yc9 q n;simp only[hz];rw[hf];clear hf hz pA pD lA lD hodd hsg e';have h4:¬ (8:Int)<n:=by omega
  have h5:¬ ((n:Int) < -(n:Int)):=by omega
  have h6:¬ (n:Int)<0:=by omega
  have h1':¬ (n:Int) < -8:=by omega
  generalize ofN (q.num.natAbs^n)=AP at *
  generalize ofN (q.den^n)=DP at *
  generalize decide (q.num.natAbs^n≠0)=NZ at *
  generalize ofN q.num.natAbs=A at *
  generalize ofN q.den=D at *
  generalize decide (q.num<0)=NG at *
  generalize decide (n%2=1)=OD at *
  cases NG with
  | false=>
   simp only[Yeh]at hnorm ⊢;simp -implicitDefEqProofs[h0,hn,h4,h5,h6,h1',hw,mm2,cA,cD,ho,hnorm]
  | true=>
   simp only[Ybd]at hnorm ⊢;cases OD with
   | false=>simp -implicitDefEqProofs[h0,hn,h4,h5,h6,h1',hw,mm2,cA,cD,ho,hnorm]
   | true=>simp -implicitDefEqProofs[h0,hn,h4,h5,h6,h1',hw,mm2,cA,cD,ho,hnorm]
 by_cases h7:q=0
 ·rw[if_neg (by intro h;exact h.2.2 ⟨h3,h7⟩)];have hs0:sgQ q=0:=zge.2 h7;rw[hs0]at hsg;generalize fz 0=Z at *
  have h4:¬ (8:Int)<e:=by omega
  simp -implicitDefEqProofs[h0,h1,h4,h3,hsg]
 rw[if_pos (by refine⟨by omega,by omega,fun h=>h7 h.2⟩)];obtain⟨n,rfl⟩:∃n:Nat,e=-(n:Int):=⟨(-e).toNat,by omega⟩;have hn8:n≤8:=by omega
 have hsz:¬ sgQ q=0:=fun h=>h7 (zge.1 h);have hw:IntKind.wrap .i64 (n:Int)=(n:Int):=zad _ (by omega);have cA:=pA n hn8;have cD:=pD n hn8;have ho:=hodd n hn8;have hnorm:=zgw (T:=T) (decide (q.num<0)&&decide (n%2=1)) (ofN (q.den^n)) (lD n hn8);rw[show wv (decide (q.num<0)&&decide (n%2=1)) (ofN (q.den^n))=sg (decide (q.num<0)&&decide (n%2=1)) (q.den^n) by unfold wv;rw[zae],zxa]at hnorm;have hf:=z2y q n h7;have hz:Zbs q (-(n:Int))=(q^n)⁻¹:=by unfold Zbs;rw[Rat.zpow_neg,Yc9]
 simp only[hz];rw[hf];clear hf hz pA pD lA lD hodd e';have h4:¬ (8:Int) < -(n:Int):=by omega
 have h5:(-(n:Int)<(n:Int)):=by omega
 have h1':¬ -(n:Int) < -8:=by omega
 have h6:(n:Int)≠0:=by omega
 have h6':0<(n:Int):=by omega
 have h6'':0<n:=by omega
 have h1'':¬ 8<n:=by omega
 generalize ofN (q.num.natAbs^n)=AP at *
 generalize ofN (q.den^n)=DP at *
 generalize decide (q.den^n≠0)=NZ at *
 generalize ofN q.num.natAbs=A at *
 generalize ofN q.den=D at *
 generalize decide (q.num<0)=NG at *
 generalize decide (n%2=1)=OD at *
 generalize sgQ q=SG at *
 cases NG with
 | false=>
  simp only[Yeh]at hnorm ⊢;simp -implicitDefEqProofs[h0,hn,h3,h4,h5,h6,h6',h6'',h1',h1'',hw,mm2,cA,cD,ho,hnorm,hsg,hsz]
 | true=>
  simp only[Ybd]at hnorm ⊢;cases OD with
  | false=>simp -implicitDefEqProofs[h0,hn,h3,h4,h5,h6,h6',h6'',h1',h1'',hw,mm2,cA,cD,ho,hnorm,hsg,hsz]
  | true=>simp -implicitDefEqProofs[h0,hn,h3,h4,h5,h6,h6',h6'',h1',h1'',hw,mm2,cA,cD,ho,hnorm,hsg,hsz]
end
@[simp] theorem z32(l:List Int):(ints l).length=l.length:=by simp[ints]
@[simp] theorem zah0(l:List Int):wkL (ints l)=ints l:=by rw[zbq];simp[ints,wkR,wkA]
@[simp] theorem zac0(l:List Int)(i:Nat)(h:i<(ints l).length):(ints l)[i]=[.i .i64 (l[i]'(by simpa using h))]:=by simp[ints]
@[simp] theorem zac1:ints []=[]:=rfl
section
variable{T:Tbl}[Z7 T][Zs T][Zw T][Zx T][Zt T][Zv T][Zf T][Zl T][Zq T][Z0 T][Zad T]
theorem zcq(i m:Int):Zb T 435 [.i .i64 i,.i .i64 m]=some (.b (Z9 i m)):=by
 rw[zaa Zad.h435 rfl,b435];unfold Z9;by_cases h:0≤i
 ·by_cases h2:i<m<;>simp -implicitDefEqProofs[h,h2]
 ·simp -implicitDefEqProofs[h]
theorem z33(i:Ins):Zb T 437 [.agg (Zee i)]=some (.agg [.i .i64 i.op,.i .i64 i.a,.i .i64 i.b]):=by
 rw[zaa Zad.h437 rfl,b437];simp -implicitDefEqProofs
theorem zsq(x:Fz)(hx:fsz x≤10000):Zb T 438 [efz x]=some (.b (Zil x)):=by
 obtain⟨n,a,d⟩:=x;rw[zaa Zad.h438 rfl,b438];unfold Zil;cases n with
 | true=>simp -implicitDefEqProofs
 | false=>
  by_cases h:a=[]
  ·subst h;by_cases h2:d=[]
   ·subst h2;simp -implicitDefEqProofs
   ·have e2:d.isEmpty=false:=by cases d<;>simp_all
    simp -implicitDefEqProofs[h2,e2]
  ·have e2:a.isEmpty=false:=by cases a<;>simp_all
   simp -implicitDefEqProofs[h,e2]
theorem zsr(i:Ins):Zb T 439 [.agg (Zee i)]=some (.sl (ints (Zal i)) .an):=by
 obtain⟨op,a,b,n⟩:=i;rw[zaa Zad.h439 rfl,b439];unfold Zal;simp only;by_cases h6:op=6
 ·subst h6;simp -implicitDefEqProofs[ints]
 by_cases h11:op=11
 ·subst h11;simp -implicitDefEqProofs[ints]
 rw[if_neg (by omega)];by_cases h7:op=7
 ·subst h7;simp -implicitDefEqProofs[ints]
 by_cases h8:op=8
 ·subst h8;simp -implicitDefEqProofs[ints]
 by_cases h9:op=9
 ·subst h9;simp -implicitDefEqProofs[ints]
 by_cases h10:op=10
 ·subst h10;simp -implicitDefEqProofs[ints]
 rw[if_neg (by omega)];simp -implicitDefEqProofs[h6,h7,h8,h9,h10,h11]
theorem zw0(i:Ins):(Zal i).length≤2:=by
 unfold Zal;split
 ·simp
 ·split<;>simp
def Zjz(t:Tp)(p:Nat)(x:Ins)(i:Nat):St:=
 ⟨[(1,.i .i64 p),(2,.ptr (.loc 2) 1 4 0 0),(5,.ptr (.loc 5) 2 6 0 0),(30,.sl (ints (Zal x)) .an),(31,.i .i64 (Zal x).length),(32,.i .i64 i)],
  [(.loc 2,⟨1,.str,4,[[.sl (Zdf t.code) .an,.sl (ints t.outs) .an,.i .i64 t.dim,.i .i64 t.par]]⟩),(.loc 5,⟨2,.str,6,[Zee x]⟩)],4⟩
theorem zzu(t:Tp)(p:Nat)(x:Ins):Zn T 0 0 (.norm false [2,5]) l434_0 (Zjz t p x 0) =
  if ((Zal x).all fun r=>Z9 r p)=true then some (.n,⟨[(2,.ptr (.loc 2) 1 4 0 0),(5,.ptr (.loc 5) 2 6 0 0)],
   [(.loc 2,⟨1,.str,4,[[.sl (Zdf t.code) .an,.sl (ints t.outs) .an,.i .i64 t.dim,.i .i64 t.par]]⟩),(.loc 5,⟨2,.str,6,[Zee x]⟩)],4⟩)
  else some (.r,⟨[(4,.b false)],[],2⟩):=by
 have hlen:=zw0 x;refine zbd (Zjz t p x) (Zal x).length (fun i=>if (((Zal x).drop i).all fun r=>Z9 r p)=true then some (.n,_) else some (.r,_)) (fun i hi=>?_) ?_
 ·have hg:(Zal x)[i]? = some ((Zal x)[i]'hi):=Ya hi;have hws:=zbs hi (by omega);have hd:(Zal x).drop i=(Zal x)[i]'hi::(Zal x).drop (i+1):=Yf hi;have cb:=zcq (T:=T) ((Zal x)[i]'hi) p;have hi':(i:Int)<(Zal x).length:=by omega
  by_cases hb:Z9 ((Zal x)[i]'hi) p=true
  ·left;rw[hb]at cb;refine⟨?_,by rw[hd];simp only[Yb1,hb,Ybd]⟩;unfold Zjz;generalize Zal x=R at *
   simp -implicitDefEqProofs[l434_0,hi,hi',hg,hws,cb]
  ·right;have hb':Z9 ((Zal x)[i]'hi) p=false:=by simpa using hb
   rw[hb']at cb;have hall:(((Zal x).drop i).all fun r=>Z9 r p)=false:=by rw[hd,Yb1,hb'];rfl
   simp only[hall,Yab,if_false];unfold Zjz;clear hall hd;generalize Zal x=R at *
   constructor<;>simp -implicitDefEqProofs[l434_0,hi,hi',hg,cb]
 ·simp only[Yaf,Ye1,if_true];unfold Zjz;generalize Zal x=R at *
  constructor<;>simp -implicitDefEqProofs[l434_0]
theorem zzv(t:Tp)(p:Nat)(x:Ins)(hx:t.code[p]? = some x)(hf:fsz x.n≤10000)(hl:t.code.length≤4294967296):Zb T 434 [etp t,.i .i64 p]=some (.b (Zcj t.dim t.par p x)):=by
 have hp:=zbb hx;have hp2:(p:Int)<t.code.length:=by omega
 have ho:=z33 (T:=T) x;have hbl:=zsq (T:=T) x.n hf;have hrd:=zsr (T:=T) x;have hlo:=zzu (T:=T) t p x;have hrt:=zjw (T:=T) x.n hf;unfold Zcj;unfold Zjz at hlo;simp only[Yo]at hlo;have cy:=zcq (T:=T) x.a t.dim;have cp:=zcq (T:=T) x.a t.par;have hr2:(((Zal x).length:Int) == 2)=decide ((Zal x).length=2):=by
  rw[Ybb];simp;omega
 rw[zaa Zad.h434 rfl,b434];generalize Zal x=R at *
 generalize Zhl x.n=RT at *
 generalize Zil x.n=BL at *
 generalize Z9 x.a t.dim=B1 at *
 generalize Z9 x.a t.par=B2 at *
 generalize (R.all fun r=>Z9 r p)=AL at *
 obtain⟨code,outs,dim,par⟩:=t;obtain⟨op,a,b,n⟩:=x;dsimp only at hx hp hp2 ho hbl hrd hlo hrt cy cp ⊢;have hxe:=(Yd.1 hx).2;clear hf hl;by_cases h1:op=1
 ·subst h1;by_cases ha:a=0
  ·subst ha;by_cases hb:b=0
   ·subst hb;simp -implicitDefEqProofs[hp,hp2,hx,hxe,ho,hrt]
   ·simp -implicitDefEqProofs[hp,hp2,hx,hxe,ho,hrt,hb]
  ·simp -implicitDefEqProofs[hp,hp2,hx,hxe,ho,hrt,ha]
 rw[if_neg h1];cases BL with
 | false=>simp -implicitDefEqProofs[hp,hp2,hx,hxe,h1,hbl]
 | true=>
 cases AL with
 | false=>
  simp only[Yab,if_false]at hlo;simp -implicitDefEqProofs[hp,hp2,hx,hxe,h1,hbl,hrd,hlo]
 | true=>
 simp only[if_true]at hlo;by_cases h2:op=2
 ·subst h2;by_cases ha:a=0
  ·subst ha;by_cases hb:b=0
   ·subst hb;simp -implicitDefEqProofs[hp,hp2,hx,hxe,ho,hbl,hrd,hlo]
   ·simp -implicitDefEqProofs[hp,hp2,hx,hxe,ho,hbl,hrd,hlo,hb]
  ·simp -implicitDefEqProofs[hp,hp2,hx,hxe,ho,hbl,hrd,hlo,ha]
 by_cases h3:op=3
 ·subst h3;cases B1 with
  | false=>simp -implicitDefEqProofs[hp,hp2,hx,hxe,hbl,hrd,hlo,cy]
  | true=>
   by_cases hb:b=0
   ·subst hb;simp -implicitDefEqProofs[hp,hp2,hx,hxe,hbl,hrd,hlo,cy]
   ·simp -implicitDefEqProofs[hp,hp2,hx,hxe,hbl,hrd,hlo,cy,hb]
 by_cases h4:op=4
 ·subst h4;cases B2 with
  | false=>simp -implicitDefEqProofs[hp,hp2,hx,hxe,hbl,hrd,hlo,cp]
  | true=>
   by_cases hb:b=0
   ·subst hb;simp -implicitDefEqProofs[hp,hp2,hx,hxe,hbl,hrd,hlo,cp]
   ·simp -implicitDefEqProofs[hp,hp2,hx,hxe,hbl,hrd,hlo,cp,hb]
 by_cases h6:op=6
 ·subst h6;by_cases hb:b=0
  ·subst hb;simp -implicitDefEqProofs[hp,hp2,hx,hxe,hbl,hrd,hlo]
  ·simp -implicitDefEqProofs[hp,hp2,hx,hxe,hbl,hrd,hlo,hb]
 by_cases h11:op=11
 ·subst h11;by_cases hb:-8≤b
  ·by_cases hb2:b≤8
   ·simp -implicitDefEqProofs[hp,hp2,hx,hxe,hbl,hrd,hlo,hb,hb2]
   ·simp -implicitDefEqProofs[hp,hp2,hx,hxe,hbl,hrd,hlo,hb,hb2]
  ·simp -implicitDefEqProofs[hp,hp2,hx,hxe,hbl,hrd,hlo,hb]
 simp -implicitDefEqProofs[hp,hp2,hx,hxe,h1,h2,h3,h4,h6,h11,hbl,hrd,hlo,hr2]
end
section
variable{T:Tbl}[Z7 T][Zs T][Zw T][Zx T][Zt T][Zv T][Zf T][Zl T][Zq T][Z0 T][Zad T]
structure Small (t:Tp):Prop where
 code:t.code.length≤4294967296
 outs:t.outs.length≤4294967296
 ns:∀i∈t.code,fsz i.n≤10000
 d1:-9223372036854775808≤t.dim
 d2:t.dim<9223372036854775808
theorem zss(t:Tp)(hs:Small t):Zb T 433 [etp t]=some (.b (Zef t)):=by
 obtain⟨h1,h2,_,d1,d2⟩:=hs;have c0:Zb T 435 [.i .i64 (IntKind.wrap .i64 (t.dim-1)),.i .i64 6]=some (.b (Z9 (t.dim-1) 6)):=by
  rw[zcq];congr 2;by_cases hm:t.dim=-9223372036854775808
  ·rw[hm]
   decide
  ·rw[zad _ (by omega)]
 have c1:=zcq (T:=T) t.par 7;unfold Zef;obtain⟨code,outs,dim,par⟩:=t;dsimp only at *
 have e1:((outs.length:Int) == dim)=decide ((outs.length:Int)=dim):=rfl;rw[zaa Zad.h433 rfl,b433];generalize Z9 (dim-1) 6=B1 at *
 generalize Z9 par 7=B2 at *
 cases B1 with
 | false=>simp -implicitDefEqProofs[c0]
 | true=>
 cases B2 with
 | false=>simp -implicitDefEqProofs[c0,c1]
 | true=>
 by_cases ho:(outs.length:Int)=dim
 ·by_cases hc:code.length≤300
  ·have hc':(code.length:Int)≤300:=by omega
   simp -implicitDefEqProofs[c0,c1,ho,hc,hc']
  ·have hc':300<(code.length:Int):=by omega
   simp -implicitDefEqProofs[c0,c1,ho,hc,hc']
 ·simp -implicitDefEqProofs[c0,c1,ho]
def bxT(t:Tp):Box:=⟨1,.str,4,[[.sl (Zdf t.code) .an,.sl (ints t.outs) .an,.i .i64 t.dim,.i .i64 t.par]]⟩
def Zj0(t:Tp)(i:Nat):St:=⟨[(1,.ptr (.loc 1) 1 4 0 0),(11,.i .i64 t.code.length),(12,.i .i64 i)],[(.loc 1,bxT t)],3⟩
theorem zo7(t:Tp)(hs:Small t):Zn T 0 0 (.norm false [1]) l430_0 (Zj0 t 0) =
  if Zcf t.dim t.par 0 t.code=-1 then some (.n,⟨[(1,.ptr (.loc 1) 1 4 0 0)],[(.loc 1,bxT t)],3⟩) else some (.r,⟨[(2,.i .i64 (Zcf t.dim t.par 0 t.code))],[],2⟩):=by
 have hc:=hs.code;have e0:t.code.drop 0=t.code:=rfl;rw[←e0];refine zbd (Zj0 t) t.code.length (fun i=>if Zcf t.dim t.par i (t.code.drop i)=-1 then some (.n,_) else some (.r,⟨[(2,.i .i64 (Zcf t.dim t.par i (t.code.drop i)))],[],2⟩)) (fun i hi=>?_) ?_
 ·have hg:t.code[i]? = some (t.code[i]'hi):=Ya hi;have hws:=zbs hi (by omega);have hd:t.code.drop i=t.code[i]'hi::t.code.drop (i+1):=Yf hi;have cm:=zzv (T:=T) t i _ hg (hs.ns _ (Yn hi)) hc;have hi':(i:Int)<t.code.length:=by omega
  have hf:Zcf t.dim t.par i (t.code.drop i)=if Zcj t.dim t.par i (t.code[i]'hi) then Zcf t.dim t.par (i+1) (t.code.drop (i+1)) else i:=by rw[hd];rfl
  by_cases hb:Zcj t.dim t.par i (t.code[i]'hi)=true
  ·left;rw[hb]at cm;rw[if_pos hb]at hf;refine⟨?_,by simp only[hf]⟩;unfold Zj0 bxT;clear hf hd;simp -implicitDefEqProofs[l430_0,hi,hi',hws,cm]
  ·right;have hb':Zcj t.dim t.par i (t.code[i]'hi)=false:=by simpa using hb
   rw[hb']at cm;rw[if_neg hb]at hf;have hne:¬ (i:Int)=-1:=by omega
   simp only[hf,if_neg hne];unfold Zj0 bxT;clear hf hd;constructor<;>simp -implicitDefEqProofs[l430_0,hi,hi',cm]
 ·have hf:Zcf t.dim t.par t.code.length (t.code.drop t.code.length)=-1:=by rw[Yaf];rfl
  simp only[hf,if_true];unfold Zj0 bxT;constructor<;>simp -implicitDefEqProofs[l430_0]
def Zj1(t:Tp)(i:Nat):St:=⟨[(1,.ptr (.loc 1) 1 4 0 0),(22,.sl (ints t.outs) .an),(23,.i .i64 t.outs.length),(24,.i .i64 i)],[(.loc 1,bxT t)],3⟩
theorem zo8(t:Tp)(hs:Small t):Zn T 0 2 (.norm false []) l430_1 (Zj1 t 0) =
  if (t.outs.all fun o=>Z9 o t.code.length)=true then some (.n,⟨[],[],2⟩) else some (.r,⟨[(2,.i .i64 t.code.length)],[],2⟩):=by
 have hc:=hs.outs;refine zbd (Zj1 t) t.outs.length (fun i=>if ((t.outs.drop i).all fun o=>Z9 o t.code.length)=true then some (.n,_) else some (.r,_)) (fun i hi=>?_) ?_
 ·have hg:t.outs[i]? = some (t.outs[i]'hi):=Ya hi;have hws:=zbs hi (by omega);have hd:t.outs.drop i=t.outs[i]'hi::t.outs.drop (i+1):=Yf hi;have cm:=zcq (T:=T) (t.outs[i]'hi) t.code.length;have hi':(i:Int)<t.outs.length:=by omega
  by_cases hb:Z9 (t.outs[i]'hi) t.code.length=true
  ·left;rw[hb]at cm;refine⟨?_,by rw[hd];simp only[Yb1,hb,Ybd]⟩;unfold Zj1 bxT;clear hd;simp -implicitDefEqProofs[l430_1,hi,hi',hg,hws,cm]
  ·right;have hb':Z9 (t.outs[i]'hi) t.code.length=false:=by simpa using hb
   rw[hb']at cm;have hall:((t.outs.drop i).all fun o=>Z9 o t.code.length)=false:=by rw[hd,Yb1,hb'];rfl
   simp only[hall,Yab,if_false];unfold Zj1 bxT;clear hall hd;constructor<;>simp -implicitDefEqProofs[l430_1,hi,hi',hg,cm]
 ·simp only[Yaf,Ye1,if_true];unfold Zj1 bxT;constructor<;>simp -implicitDefEqProofs[l430_1]
theorem zst(t:Tp)(hs:Small t):Zb T 430 [etp t]=some (.i .i64 (Zgc t)):=by
 have cw:=zss (T:=T) t hs;have h1:=zo7 (T:=T) t hs;have h2:=zo8 (T:=T) t hs;unfold Zgc;unfold Zj0 bxT at h1;unfold Zj1 bxT at h2;simp only[Yo]at h1 h2;generalize hfi:Zcf t.dim t.par 0 t.code=F at *
 generalize hal:(t.outs.all fun o=>Z9 o t.code.length)=AL at *
 generalize hwt:Zef t=W at *
 obtain⟨code,outs,dim,par⟩:=t;dsimp only at *
 rw[zaa Zad.h430 rfl,b430];cases W with
 | false=>simp -implicitDefEqProofs[cw]
 | true=>
 by_cases hf:F=-1
 ·subst hf;cases AL with
  | false=>
   simp only[Yab,if_false]at h2;simp -implicitDefEqProofs[cw,h1,h2]
  | true=>
   simp only[if_true]at h1 h2;simp -implicitDefEqProofs[cw,h1,h2]
 ·rw[if_neg hf]at h1;simp -implicitDefEqProofs[cw,h1,hf]
theorem zcr(t:Tp)(hs:Small t):Zb T 421 [etp t]=some (.b (okT t)):=by
 have cw:=zst (T:=T) t hs;have e:(Zgc t == -1)=okT t:=rfl;rw[zaa Zad.h421 rfl,b421,←e];generalize Zgc t=W at *
 obtain⟨code,outs,dim,par⟩:=t;simp -implicitDefEqProofs[cw]
end
def Zkq(n:Int):Int:=if n<0 then 0 else if 4096<n then 4096 else n
abbrev bxG(g:Nat)(s p L:Int):Box:=⟨g,.str,3,[[.i .i64 s,.i .i64 p,.i .i64 L]]⟩
def Zba(s:Int):Int:=IntKind.wrap .i64 (s+1)
def Zbg(p:Int)(x:Fz):Int:=if p<(Zbh x:Int) then (Zbh x:Int) else p
section
variable{T:Tbl}[Z7 T][Zs T][Zw T][Zx T][Zt T][Zv T][Zf T][Zl T][Zq T][Z0 T][Zab T][Zbz T][Zad T][Z8 T][Zaw T]
theorem zrs(x:Fz)(hx:fsz x≤10000):Zb T 223 [efz x]=some (.i .i64 (Zbh x)):=by
 have h1:=zc4 x;have h2:=zc7 x;have c1:=zhh (T:=T) x.2.1 (by omega);have c2:=zhh (T:=T) x.2.2 (by omega);have b1:=zhi (x:=val x.2.1) (k:=10000) (Yc (zac x.2.1) (by omega));have b2:=zhi (x:=val x.2.2) (k:=10000) (Yc (zac x.2.2) (by omega));have w:IntKind.wrap .i64 ((Za1 (val x.2.1):Int)+(Za1 (val x.2.2):Int))=((Zbh x:Nat):Int):=by
  have e:((Zbh x:Nat):Int)=(Za1 (val x.2.1):Int)+(Za1 (val x.2.2):Int):=by unfold Zbh;omega
  rw[e];exact zad _ (by omega)
 rw[zaa Zab.h223 rfl,b223];generalize Zbh x=S at *
 generalize Za1 (val x.2.1)=B1 at *
 generalize Za1 (val x.2.2)=B2 at *
 simp -implicitDefEqProofs[c1,c2,w]
theorem zid(n:Int):Zaa T 406 [.i .i64 n] []=some (.ptr (.loc 7) 1 3 0 0,[(.loc 7,bxG 1 0 0 (Zkq n))]):=by
 unfold Zkq;rw[zah Z8.h406 rfl,b406];by_cases h1:n<0
 ·simp -implicitDefEqProofs[h1,mm2]
 ·by_cases h2:4096<n
  ·simp -implicitDefEqProofs[h1,h2,mm2]
  ·simp -implicitDefEqProofs[h1,h2,mm2]
theorem zjy(s p L k:Int):Zaa T 426 [.ptr (.bor 0) 0 3 0 0,.i .i64 k] [(.bor 0,bxG 0 s p L)]=some (.tup [],[(.bor 0,bxG 0 (Zba s) (if p<k then k else p) L)]):=by
 unfold Zba;rw[zah Z8.h426 rfl,b426];by_cases h1:p<k
 ·simp -implicitDefEqProofs[h1,mm2]
 ·simp -implicitDefEqProofs[h1,mm2]
theorem zgq(s p L:Int)(x:Fz)(hx:fsz x≤10000):Zaa T 411 [.ptr (.bor 0) 0 3 0 0,efz x] [(.bor 0,bxG 0 s p L)]=some (.b (decide ((Zbh x:Int)≤L)),[(.bor 0,bxG 0 (Zba s) (Zbg p x) L)]):=by
 have h1:=zrs (T:=T) x hx;have h2:=zjy (T:=T) s p L (Zbh x);unfold Zbg;rw[zah Z8.h411 rfl,b411];generalize Zba s=s' at *
 generalize (if p<(Zbh x:Int) then (Zbh x:Int) else p)=p' at *
 generalize (Zbh x:Int)=z at *
 simp -implicitDefEqProofs[h1,h2]
def Zkr(l:List Fz)(i:Nat):St:=⟨[(3,.bs (.loc 3) 1 3 0 i),(6,.sl (Zd l) .an),(7,.i .i64 l.length),(8,.i .i64 i)],[(.loc 3,⟨1,.own,3,Zd (nrm (l.take i))⟩)],3⟩
theorem zjz(l:List Fz)(hl:l.length≤1000)(hw:∀x∈l,fsz x≤1000):Zb T 420 [.sl (Zd l) .an]=some (.sl (Zd (nrm l)) .an):=by
 have h:Zn T 0 0 (.norm false [3]) l420_0 (Zkr l 0)=some (.n,⟨[(3,.bs (.loc 3) 1 3 0 l.length)],[(.loc 3,⟨1,.own,3,Zd (nrm l)⟩)],3⟩):=by
  refine za0 (Zkr l) l.length _ (fun i hi=>?_) ?_
  ·have hg:l[i]? = some (l[i]'hi):=Ya hi;have hws:=zbs hi (by omega);have hn:=zci (T:=T) (l[i]'hi) (Yc (hw _ (Yn hi)) (by decide));have e:nrm (l.take (i+1))=nrm (l.take i)++[fz (fv (l[i]'hi))]:=zbj l _ hi;have hp:=zcj (m:=nrm (l.take i)) (n:=i) (by simp[nrm];omega) (fz (fv (l[i]'hi)));have hml:(nrm (l.take i)).length=i:=by simp[nrm];omega
   unfold Zkr;rw[e];clear e;generalize nrm (l.take i)=M at *
   generalize fz (fv (l[i]'hi))=z at *
   have hb:i≤4294967295:=by omega
   simp -implicitDefEqProofs[l420_0,hi,hg,hws,hn,hp,hml,hb]
  ·unfold Zkr;rw[Yb (Yh _)];generalize nrm l=M;constructor<;>simp -implicitDefEqProofs[l420_0]
 unfold Zkr at h;simp[nrm]at h;have ht:List.take l.length (List.map (fun x=>fz (fv x)) l)=List.map (fun x=>fz (fv x)) l:=Yb (by simp);rw[zaa Zaw.h420 rfl,b420];simp -implicitDefEqProofs[h,nrm,ht]
structure PoS (x:PoF) (B:Nat):Prop where
 t:fsz x.t≤B
 y:∀u∈x.y,fsz u≤B
 p:∀u∈x.p,fsz u≤B
 yl:x.y.length≤1000
 pl:x.p.length≤1000
theorem zon(x:PoF):x.v.f=⟨fz (fv x.t),nrm x.y,nrm x.p⟩:=by
 unfold PoF.v Po.f;rw[zo2,zo2]
theorem zie(x:PoF)(h:PoS x 1000):Zb T 405 [ept x]=some (ept x.v.f):=by
 have h1:=zci (T:=T) x.t (Yc h.t (by decide));have h2:=zjz (T:=T) x.y h.yl h.y;have h3:=zjz (T:=T) x.p h.pl h.p;rw[zon];obtain⟨t,y,p⟩:=x;dsimp only at *
 rw[zaa Zaw.h405 rfl,b405];generalize fz (fv t)=t' at *
 generalize nrm y=y' at *
 generalize nrm p=p' at *
 simp -implicitDefEqProofs[h1,h2,h3]
end
theorem zk8{q:Rat}{e:Int}(h1:-8≤e)(h2:e≤8):Zgm q e=if e<0∧q=0 then (0,false) else (Zbs q e,true):=by
 unfold Zgm;by_cases h:e<0∧q=0
 ·rw[if_pos h,if_neg (by intro hh;exact hh.2.2 h)]
 ·rw[if_neg h,if_pos ⟨h1,h2,h⟩]
abbrev mD:AV:=.agg [.dead]
section
variable{T:Tbl}[Z7 T][Zs T][Zw T][Zx T][Zt T][Zv T][Zf T][Zl T][Zq T][Z0 T][Zab T][Zbz T][Zad T][Z8 T][Zaw T][Za4 T][Zei T]
theorem zahz(x:Fz)(hx:fsz x≤1000):Zb T 445 [mD,efz x]=some (efz (fz (fv x))):=by
 have h:=zci (T:=T) x (by omega);rw[zaa Za4.h445 rfl,b445];generalize fz (fv x)=z at *
 simp -implicitDefEqProofs[h]
theorem z9g(x:Fz)(hx:fsz x≤1000):Zb T 444 [mD,efz x]=some (efz (fz (-fv x))):=by
 have h:=zf1 (T:=T) x (by omega);rw[zaa Za4.h444 rfl,b444];generalize fz (-fv x)=z at *
 simp -implicitDefEqProofs[h]
theorem z9h(x y:Fz)(hx:fsz x≤1000)(hy:fsz y≤1000):Zb T 441 [mD,efz x,efz y]=some (efz (fz (fv x+fv y))):=by
 have h:=zf2 (T:=T) x y hx hy;rw[zaa Za4.h441 rfl,b441];generalize fz (fv x+fv y)=z at *
 simp -implicitDefEqProofs[h]
theorem z9i(x y:Fz)(hx:fsz x≤1000)(hy:fsz y≤1000):Zb T 448 [mD,efz x,efz y]=some (efz (fz (fv x-fv y))):=by
 have h:=zhe (T:=T) x y hx hy;rw[zaa Za4.h448 rfl,b448];generalize fz (fv x-fv y)=z at *
 simp -implicitDefEqProofs[h]
theorem z9j(x y:Fz)(hx:fsz x≤1000)(hy:fsz y≤1000):Zb T 443 [mD,efz x,efz y]=some (efz (fz (fv x*fv y))):=by
 have h:=zbz (T:=T) x y hx hy;rw[zaa Za4.h443 rfl,b443];generalize fz (fv x*fv y)=z at *
 simp -implicitDefEqProofs[h]
theorem z9k(x y:Fz)(hx:fsz x≤1000)(hy:fsz y≤1000):Zb T 447 [mD,efz x,efz y]=some (.tup [efz (fz (fv x/fv y)),.b (decide (fv y≠0))]):=by
 have h:=zf3 (T:=T) x y hx hy;rw[zaa Za4.h447 rfl,b447];generalize fz (fv x/fv y)=z at *
 generalize decide (fv y≠0)=ok at *
 simp -implicitDefEqProofs[h]
theorem z9l(x:Fz)(e:Int)(hx:fsz x≤1000):Zb T 446 [mD,efz x,.i .i64 e]=some (.tup [efz (fz (Zgm (fv x) e).1),.b (Zgm (fv x) e).2]):=by
 have h:=zhf (T:=T) x e hx;rw[zaa Za4.h446 rfl,b446];generalize fz (Zgm (fv x) e).1=z at *
 generalize (Zgm (fv x) e).2=ok at *
 simp -implicitDefEqProofs[h]
theorem zwn(s p L:Int)(x:Fz)(hx:fsz x≤10000):Zaa T 442 [.agg [.ptr (.bor 0) 0 3 0 0],efz x] [(.bor 0,bxG 0 s p L)]=some (.b (decide ((Zbh x:Int)≤L)),[(.bor 0,bxG 0 (Zba s) (Zbg p x) L)]):=by
 have h:=zgq (T:=T) s p L x hx;rw[zah Za4.h442 rfl,b442];generalize Zba s=s' at *
 generalize Zbg p x=p' at *
 simp -implicitDefEqProofs[h]
theorem zzm(i:Ins)(P:Po)(hop:i.op=1∨i.op=2∨i.op=3∨i.op=4)(hn:fsz i.n≤1000)(hy:i.op=3→0≤i.a∧i.a<P.y.length)(hp:i.op=4→0≤i.a∧i.a<P.p.length) :
  Zb T 431 [mD,.agg (Zee i),ept P.f]=some (efz (fz (Zg P [] i).1)):=by
 have h1:=zahz (T:=T) i.n hn;obtain⟨op,a,b,n⟩:=i;obtain⟨t,y,p⟩:=P;dsimp only at *
 unfold Zg Po.f;dsimp only;rw[zaa Za4.h431 rfl,b431];rcases hop with rfl | rfl | rfl | rfl
 ·show _=some (efz (fz (fv n)));generalize fz (fv n)=z at *
  generalize fzs y=Y at *
  generalize fzs p=PP at *
  generalize fz t=tt at *
  simp -implicitDefEqProofs[h1]
 ·show _=some (efz (fz t));generalize fzs y=Y at *
  generalize fzs p=PP at *
  generalize fz t=tt at *
  simp -implicitDefEqProofs
 ·obtain⟨k,rfl⟩:∃k:Nat,a=k:=⟨a.toNat,by have:=(hy rfl).1;omega⟩;have hk:k<y.length:=by have:=(hy rfl).2;omega
  have hk':(k:Int)<y.length:=by omega
  have hg:(fzs y)[k]? = some (fz (y[k]'hk)):=zgu (Ya hk);have hge:=(Yd.1 hg).2;have hl:(fzs y).length=y.length:=zai y;have e:gI y (k:Int)=y[k]'hk:=by simp[gI,List.getD,Ya hk]
  show _=some (efz (fz (gI _ _)));rw[e];generalize fzs y=Y at *
  generalize fzs p=PP at *
  generalize fz t=tt at *
  generalize fz (y[k]'hk)=z at *
  simp -implicitDefEqProofs[hk,hk',hg,hge,hl]
 ·obtain⟨k,rfl⟩:∃k:Nat,a=k:=⟨a.toNat,by have:=(hp rfl).1;omega⟩;have hk:k<p.length:=by have:=(hp rfl).2;omega
  have hk':(k:Int)<p.length:=by omega
  have hg:(fzs p)[k]? = some (fz (p[k]'hk)):=zgu (Ya hk);have hge:=(Yd.1 hg).2;have hl:(fzs p).length=p.length:=zai p;have e:gI p (k:Int)=p[k]'hk:=by simp[gI,List.getD,Ya hk]
  show _=some (efz (fz (gI _ _)));rw[e];generalize fzs y=Y at *
  generalize fzs p=PP at *
  generalize fz t=tt at *
  generalize fz (p[k]'hk)=z at *
  simp -implicitDefEqProofs[hk,hk',hg,hge,hl]
theorem z0y{D:List Rat}{a:Int}(h:0≤a∧a<D.length):∃k:Nat,a=k∧(k:Int)<D.length∧k<D.length∧(fzs D)[k]? = some (fz (gI D a)):=by
 obtain⟨k,rfl⟩:∃k:Nat,a=k:=⟨a.toNat,by omega⟩;have hk:k<D.length:=by omega
 refine⟨k,rfl,by omega,hk,?_⟩;have e:gI D (k:Int)=D[k]'hk:=by simp[gI,List.getD,Ya hk]
 rw[e];exact zgu (Ya hk)
theorem zc6{D:List Rat}{a:Int}{B:Nat}(hB:1≤B)(h:∀q∈D,sz q≤B):sz (gI D a)≤B:=by
 unfold gI List.getD;cases hx:D[a.toNat]? with
 | none=>exact Yc (Ycx zb9) hB
 | some q=>exact h q (Ye hx)
theorem zzn(i:Ins)(P:Po)(D:List Rat)(dim par:Int)(hm:Zcj dim par D.length i=true)(hd:(P.y.length:Int)=dim)(hp:(P.p.length:Int)=par)(hn:fsz i.n≤1000)(hD:∀q∈D,sz q≤1000) :
  Zb T 422 [mD,.agg (Zee i),ept P.f,.sl (Zd (fzs D)) .an]=some (.tup [efz (fz (Zg P D i).1),.b (Zg P D i).2]):=by
 have hop:=zkg hm;by_cases hleaf:i.op=1∨i.op=2∨i.op=3∨i.op=4
 ·have h1:=zzm (T:=T) i P hleaf hn (fun h=>by have:=zz8 hm h;omega) (fun h=>by have:=zz9 hm h;omega);have e:Zg P D i=((Zg P [] i).1,true):=by
   unfold Zg;rcases hleaf with h | h | h | h<;>simp[h]
  rw[e];generalize fz (Zg P [] i).1=z at *
  generalize fzs D=DD at *
  obtain⟨op,a,b,n⟩:=i;generalize P.f=Q at *
  obtain⟨⟨t0,t1,t2⟩,y,p⟩:=Q;dsimp only at *
  rw[zaa Za4.h422 rfl,b422];rcases hleaf with rfl | rfl | rfl | rfl<;>simp -implicitDefEqProofs[h1]
 have ha:=zfm hm (by omega);obtain⟨k,hk1,hk2,hk3,hka⟩:=z0y ha;have sa:fsz (fz (gI D i.a))≤1000:=zc6 (by decide) hD;have hkae:=(Yd.1 hka).2;have hl:(fzs D).length=D.length:=zai D;have c6:=z9g (T:=T) (fz (gI D i.a)) sa;have c11:=z9l (T:=T) (fz (gI D i.a)) i.b sa;rw[zbe]at c6 c11;by_cases h6:i.op=6
 ·have e:Zg P D i=(-gI D i.a,true):=by simp[Zg,h6]
  rw[e];generalize fz (-gI D i.a)=z at *
  generalize fz (gI D i.a)=u at *
  generalize fzs D=DD at *
  obtain⟨op,a,b,n⟩:=i;generalize P.f=Q at *
  obtain⟨⟨t0,t1,t2⟩,y,p⟩:=Q;dsimp only at *
  subst h6 hk1;rw[zaa Za4.h422 rfl,b422];simp -implicitDefEqProofs[hk2,hk3,hka,hkae,hl,c6]
 by_cases h11:i.op=11
 ·have hb:=zpc hm h11;have e:Zg P D i=Zgm (gI D i.a) i.b:=by simp[Zg,h11,zk8 hb.1 hb.2]
  rw[e];generalize fz (Zgm (gI D i.a) i.b).1=z at *
  generalize (Zgm (gI D i.a) i.b).2=ok at *
  generalize fz (gI D i.a)=u at *
  generalize fzs D=DD at *
  obtain⟨op,a,b,n⟩:=i;generalize P.f=Q at *
  obtain⟨⟨t0,t1,t2⟩,y,p⟩:=Q;dsimp only at *
  subst h11 hk1;rw[zaa Za4.h422 rfl,b422];simp -implicitDefEqProofs[hk2,hk3,hka,hkae,hl,c11]
 have hb:=zi5 hm (by omega);obtain⟨j,hj1,hj2,hj3,hjb⟩:=z0y hb;have sb:fsz (fz (gI D i.b))≤1000:=zc6 (by decide) hD;have hjbe:=(Yd.1 hjb).2;have c7:=z9h (T:=T) (fz (gI D i.a)) (fz (gI D i.b)) sa sb;have c8:=z9i (T:=T) (fz (gI D i.a)) (fz (gI D i.b)) sa sb;have c9:=z9j (T:=T) (fz (gI D i.a)) (fz (gI D i.b)) sa sb;have c10:=z9k (T:=T) (fz (gI D i.a)) (fz (gI D i.b)) sa sb;rw[zbe,zbe]at c7 c8 c9 c10;have e7:i.op=7→Zg P D i=(gI D i.a+gI D i.b,true):=fun h=>by simp[Zg,h]
 have e8:i.op=8→Zg P D i=(gI D i.a-gI D i.b,true):=fun h=>by simp[Zg,h]
 have e9:i.op=9→Zg P D i=(gI D i.a*gI D i.b,true):=fun h=>by simp[Zg,h]
 have e10:i.op=10→Zg P D i=(gI D i.a/gI D i.b,decide (gI D i.b≠0)):=fun h=>by simp[Zg,h]
 generalize gI D i.a=A at *
 generalize gI D i.b=B at *
 generalize fz A=u at *
 generalize fz B=v at *
 generalize Zg P D i=V at *
 generalize fzs D=DD at *
 obtain⟨op,a,b,n⟩:=i;generalize P.f=Q at *
 obtain⟨⟨t0,t1,t2⟩,y,p⟩:=Q;dsimp only at *
 subst hk1 hj1;rw[zaa Za4.h422 rfl,b422];rcases(show op=7∨op=8∨op=9∨op=10 by omega) with rfl | rfl | rfl | rfl
 ·rw[e7 rfl];generalize fz (A+B)=z at *
  simp -implicitDefEqProofs[hk2,hk3,hka,hkae,hj2,hj3,hjb,hjbe,hl,c7]
 ·rw[e8 rfl];generalize fz (A-B)=z at *
  simp -implicitDefEqProofs[hk2,hk3,hka,hkae,hj2,hj3,hjb,hjbe,hl,c8]
 ·rw[e9 rfl];generalize fz (A*B)=z at *
  simp -implicitDefEqProofs[hk2,hk3,hka,hkae,hj2,hj3,hjb,hjbe,hl,c9]
 ·rw[e10 rfl];generalize fz (A/B)=z at *
  generalize decide (B≠0)=ok at *
  simp -implicitDefEqProofs[hk2,hk3,hka,hkae,hj2,hj3,hjb,hjbe,hl,c10]
end
theorem zqg{n b:Nat}(h:Za1 n≤b):(ofN n).length≤b/32+1:=by
 refine zap ?_;unfold Za1 at h;split at h
 ·rename_i h0;subst h0;exact Ya2 (by decide)
 ·rename_i h0;have h1:n<2^(n.log2+1):=(Yes h0).1 (Y4 _);have h3:(4294967296:Nat)^(b/32+1)=2^(32*(b/32+1)):=by rw[Ydo]
  have h2:2^(n.log2+1)≤2^(32*(b/32+1)):=Y0 (by decide) (by omega);omega
theorem zff{q:Rat}{b:Nat}(h:Zb9 q≤b):sz q≤b/32+1:=by
 unfold Zb9 Zbh fz at h;rw[zae,zae]at h;exact Ye5.2 ⟨zqg (Yc (Nat.le_add_right _ _) h),zqg (Yc (Nat.le_add_left _ _) h)⟩
theorem zwo(q:Rat)(n:Nat):sz (q^n)≤n*sz q+1:=by
 unfold sz;rw[Yfb,Rat.den_pow,Int.natAbs_pow];exact Ye5.2 ⟨zgp (Ydl _ _) n,zgp (Yc8 _ _) n⟩
theorem zit{q:Rat}{e:Int}{B:Nat}(hq:sz q≤B)(h1:-8≤e)(h2:e≤8):sz (Zbs q e)≤8*B+1:=by
 unfold Zbs;rcases Int.le_total 0 e with h | h
 ·obtain⟨n,rfl⟩:∃n:Nat,e=n:=⟨e.toNat,by omega⟩;rw[Yc9];have:=zwo q n;have h3:n*sz q≤8*B:=Ycq (by omega) hq;omega
 ·obtain⟨n,rfl⟩:∃n:Nat,e=-(n:Int):=⟨(-e).toNat,by omega⟩;rw[Rat.zpow_neg,Yc9];have:=zwo q n;have h3:n*sz q≤8*B:=Ycq (by omega) hq;have:=z07 (q^n);omega
structure PvS (P:Po) (B:Nat):Prop where
 t:sz P.t≤B
 y:∀q∈P.y,sz q≤B
 p:∀q∈P.p,sz q≤B
theorem zwp{P:Po}{D:List Rat}{i:Ins}{dim par:Int}{p:Nat}(hm:Zcj dim par p i=true)(hP:PvS P 1000)(hn:fsz i.n≤1000)(hD:∀q∈D,sz q≤129):sz (Zg P D i).1≤2000:=by
 have ga:=zc6 (D:=D) (a:=i.a) (B:=129) (by decide) hD;have gb:=zc6 (D:=D) (a:=i.b) (B:=129) (by decide) hD;have gy:=zc6 (D:=P.y) (a:=i.a) (B:=1000) (by decide) hP.y;have gp:=zc6 (D:=P.p) (a:=i.a) (B:=1000) (by decide) hP.p;have gn:=za6 (x:=i.n) (L:=1000) hn (by decide);have gt:=hP.t;rcases zkg hm with h | h | h | h | h | h | h | h | h | h
 ·simp[Zg,h];omega
 ·simp[Zg,h];omega
 ·simp[Zg,h];omega
 ·simp[Zg,h];omega
 ·simp[Zg,h,zi0];omega
 ·have:=zd7 (gI D i.a) (gI D i.b);simp[Zg,h];omega
 ·have:=zqs (gI D i.a) (gI D i.b);simp[Zg,h];omega
 ·have:=zbf (gI D i.a) (gI D i.b);simp[Zg,h];omega
 ·have:=ze7 (gI D i.a) (gI D i.b);simp[Zg,h];omega
 ·obtain⟨e1,e2⟩:=zpc hm h;have h1:=zit ga e1 e2;by_cases hc:i.b<0∧gI D i.a=0
  ·simp[Zg,h,hc,zb9]
  ·simp only[Zg,h];simp only[hc];simp;omega
def Ze3(lim:Nat)(P:Po):List Ins→List Rat→Int→Int→Int×Int
 | [],_,s,p=>(s,p)
 | i::r,D,s,p=>if (Zg P D i).2=false then (s,p) else if lim<Zb9 (Zg P D i).1 then (Zba s,Zbg p (fz (Zg P D i).1)) else Ze3 lim P r (D++[(Zg P D i).1]) (Zba s) (Zbg p (fz (Zg P D i).1))
theorem ziu(lim:Nat)(P:Po)(i:Ins)(r:List Ins)(D:List Rat)(s p:Int):Ze3 lim P (i::r) D s p=if (Zg P D i).2=false then (s,p) else if lim<Zb9 (Zg P D i).1 then (Zba s,Zbg p (fz (Zg P D i).1)) else Ze3 lim P r (D++[(Zg P D i).1]) (Zba s) (Zbg p (fz (Zg P D i).1)):=rfl
abbrev bxM:Box:=⟨3,.str,1,[[.ptr (.bor 0) 0 3 0 0]]⟩
abbrev bxP(g:Nat)(x:PoF):Box:=⟨g,.str,5,[[.b x.t.1,.sl (Za x.t.2.1) .an,.sl (Za x.t.2.2) .an,.sl (Zd x.y) .an,.sl (Zd x.p) .an]]⟩
abbrev bxF(g:Nat)(a b c d:Int):Box:=⟨g,.str,4,[[.i .i64 a,.i .i64 b,.i .i64 c,.i .i64 d]]⟩
def Zdq(Q:PoF)(L:Int)(code:List Ins)(i:Nat)(D:List Fz)(s p:Int)(kd:Kind):St:=
 ⟨[(3,.ptr (.loc 3) 3 1 0 0),(5,.ptr (.loc 5) 4 5 0 0),(7,.ptr (.loc 7) 5 4 0 0),(8,.bs (.loc 8) 6 3 0 i),(34,.sl (Zdf code) .an),(35,.i .i64 code.length),(36,.i .i64 i)],
  [(.bor 0,bxG 0 s p L),(.loc 3,bxM),(.loc 5,bxP 4 Q),(.loc 7,bxF 5 0 0 0 0),(.loc 8,⟨6,kd,3,Zd D⟩)],8⟩
def Zlh(n:Nat)(D:List Fz)(s p L:Int)(kd:Kind):Ex×St:=(.n,⟨[(7,.ptr (.loc 7) 3 4 0 0),(8,.bs (.loc 8) 4 3 0 n)],[(.bor 0,bxG 0 s p L),(.loc 7,bxF 3 0 0 0 0),(.loc 8,⟨4,kd,3,Zd D⟩)],6⟩)
def Zii(kind at_ s p L:Int):Ex×St:=(.r,⟨[(6,.sl [] .an),(7,.ptr (.loc 7) 3 4 0 0)],[(.bor 0,bxG 0 s p L),(.loc 7,bxF 3 kind 0 0 at_)],5⟩)
section
variable{T:Tbl}[Z7 T][Zs T][Zw T][Zx T][Zt T][Zv T][Zf T][Zl T][Zq T][Z0 T][Zab T][Zbz T][Zad T][Z8 T][Zaw T][Za4 T][Zei T]
theorem zzo{kd:Kind}(hk:kd=.own∨kd=.sh)(x:Ins)(Q:PoF)(L:Int)(code:List Ins)(i:Nat)(D:List Fz)(s p:Int)(v:Fz)(hi:i<code.length)(hc:code.length≤1000)(hg:code[i]? = some x)(hdl:D.length=i)(hv:fsz v≤10000)
  (c:Zb T 422 [mD,.agg (Zee x),ept Q,.sl (Zd D) .an]=some (.tup [efz v,.b true])) (hf:(Zbh v:Int)≤L) :
  evX (orc T) T 1 l407_0 (Zdq Q L code i D s p kd)=some (.n,Zdq Q L code (i+1) (D++[v]) (Zba s) (Zbg p v) .sh):=by
 have hf2:=zwn (T:=T) s p L v hv;rw[decide_eq_true hf]at hf2;have hws:=zbs hi (by omega);have hge:=(Yd.1 hg).2;have ht:List.take i D=D:=Yb (by omega);have hp:wkL (Zd D++[Zbq v])=Zd (D++[v]):=by rw[zi2,zgz]
 have hi':(i:Int)<code.length:=by omega
 have hb:i≤4294967295:=by omega
 generalize Zba s=s' at *
 generalize Zbg p v=p' at *
 unfold Zdq;obtain⟨⟨q0,q1,q2⟩,qy,qp⟩:=Q;rcases hk with rfl | rfl<;>simp -implicitDefEqProofs[l407_0,hi,hi',hg,hge,hws,c,hf2,hp,hdl,hb,ht]
theorem z3u{kd:Kind}(hk:kd=.own∨kd=.sh)(x:Ins)(Q:PoF)(L:Int)(code:List Ins)(i:Nat)(D:List Fz)(s p:Int)(v:Fz)(hi:i<code.length)(hc:code.length≤1000)(hg:code[i]? = some x)(hdl:D.length=i)
  (c:Zb T 422 [mD,.agg (Zee x),ept Q,.sl (Zd D) .an]=some (.tup [efz v,.b false])) :
  evX (orc T) T 1 l407_0 (Zdq Q L code i D s p kd)=some (Zii 3 i s p L):=by
 have hge:=(Yd.1 hg).2;have ht:List.take i D=D:=Yb (by omega);have hi':(i:Int)<code.length:=by omega
 unfold Zdq Zii;obtain⟨⟨q0,q1,q2⟩,qy,qp⟩:=Q;rcases hk with rfl | rfl<;>simp -implicitDefEqProofs[l407_0,hi,hi',hg,hge,c,hdl,ht]
theorem z3v{kd:Kind}(hk:kd=.own∨kd=.sh)(x:Ins)(Q:PoF)(L:Int)(code:List Ins)(i:Nat)(D:List Fz)(s p:Int)(v:Fz)(hi:i<code.length)(hc:code.length≤1000)(hg:code[i]? = some x)(hdl:D.length=i)(hv:fsz v≤10000)
  (c:Zb T 422 [mD,.agg (Zee x),ept Q,.sl (Zd D) .an]=some (.tup [efz v,.b true])) (hf:¬ (Zbh v:Int)≤L) :
  evX (orc T) T 1 l407_0 (Zdq Q L code i D s p kd)=some (Zii 6 i (Zba s) (Zbg p v) L):=by
 have hf2:=zwn (T:=T) s p L v hv;rw[decide_eq_false hf]at hf2;have hge:=(Yd.1 hg).2;have ht:List.take i D=D:=Yb (by omega);have hi':(i:Int)<code.length:=by omega
 generalize Zba s=s' at *
 generalize Zbg p v=p' at *
 unfold Zdq Zii;obtain⟨⟨q0,q1,q2⟩,qy,qp⟩:=Q;rcases hk with rfl | rfl<;>simp -implicitDefEqProofs[l407_0,hi,hi',hg,hge,c,hf2,hdl,ht]
theorem z9m{kd:Kind}(hk:kd=.own∨kd=.sh)(Q:PoF)(L:Int)(code:List Ins)(D:List Fz)(s p:Int):Zd5 (evX (orc T) T 1 l407_0 (Zdq Q L code code.length D s p kd))=true ∧
  Zde 1 0 (.norm false [7,8]) (evX (orc T) T 1 l407_0 (Zdq Q L code code.length D s p kd))=some (Zlh code.length D s p L kd):=by
 unfold Zdq Zlh;obtain⟨⟨q0,q1,q2⟩,qy,qp⟩:=Q;rcases hk with rfl | rfl<;>constructor<;>simp -implicitDefEqProofs[l407_0]
theorem zwq(kind at_ s p L:Int):Zde 1 0 (.norm false [7,8]) (some (Zii kind at_ s p L))=some (Zii kind at_ s p L):=by
 unfold Zii;simp -implicitDefEqProofs
def kdE(kd:Kind)(l:List Ins):Kind:=if l=[] then kd else .sh
def Zdv(lim:Nat)(P:Po)(code l:List Ins)(D:List Rat)(s p:Int)(kd:Kind):Ex×St:=
 if (Zbl lim P l D).2.1=0 then Zlh code.length (fzs (Zbl lim P l D).1) (Ze3 lim P l D s p).1 (Ze3 lim P l D s p).2 lim (kdE kd l)
 else Zii (Zbl lim P l D).2.1 (Zbl lim P l D).2.2 (Ze3 lim P l D s p).1 (Ze3 lim P l D s p).2 lim
theorem zqh(P:Po)(lim:Nat)(hlim:lim≤4096)(t:Tp)(ht:OkTp t)(hn:∀i∈t.code,fsz i.n≤1000)(hd:(P.y.length:Int)=t.dim)(hp:(P.p.length:Int)=t.par)(hP:PvS P 1000)(s p:Int) :
  Zn T 1 0 (.norm false [7,8]) l407_0 (Zdq P.f lim t.code 0 [] s p .own)=some (Zdv lim P t.code t.code [] s p .own):=by
 have hc:=ht.cl;have key:=zaz (T:=T) (k:=1) (id:=0) (g2:=.norm false [7,8]) (c:=l407_0) (fun x:Nat×List Rat×(Int×Int)×Kind=>Zdq P.f lim t.code x.1 (fzs x.2.1) x.2.2.1.1 x.2.2.1.2 x.2.2.2)
  (fun x=>x.1≤t.code.length∧x.2.1.length=x.1∧(∀q∈x.2.1,sz q≤129)∧(x.2.2.2=.own∨x.2.2.2=.sh)) (fun x=>t.code.length-x.1)
  (fun x=>some (Zdv lim P t.code (t.code.drop x.1) x.2.1 x.2.2.1.1 x.2.2.1.2 x.2.2.2)) ?_ (0,[],(s,p),.own) ⟨Yr _,rfl,by simp,.inl rfl⟩
 ·exact key
 rintro⟨i,D,⟨s,p⟩,kd⟩ ⟨hi,hdl,hD,hk⟩
 dsimp only at *
 by_cases hlt:i<t.code.length
 ·have hg:t.code[i]? = some (t.code[i]'hlt):=Ya hlt;have hmem:=Yn hlt;have hm:=ht.may i _ hg;have hdr:t.code.drop i=t.code[i]'hlt::t.code.drop (i+1):=Yf hlt;generalize hx:t.code[i]'hlt=x at *
  have hm':Zcj t.dim t.par D.length x=true:=by rw[hdl];exact hm
  have c:=zzn (T:=T) x P D t.dim t.par hm' hd hp (hn x hmem) (fun q hq=>Yc (hD q hq) (by decide));have hvs:fsz (fz (Zg P D x).1)≤10000:=Yc (zwp hm' hP (hn x hmem) hD) (by decide);have hfl:(fzs D).length=i:=by rw[zai,hdl]
  have hout:Zdv lim P t.code (t.code.drop i) D s p kd=Zdv lim P t.code (x::t.code.drop (i+1)) D s p kd:=by rw[hdr]
  rw[hout];cases hok:(Zg P D x).2 with
  | false=>
   right;rw[hok]at c;have e:=z3u (T:=T) hk x P.f lim t.code i (fzs D) s p _ hlt (by omega) hg hfl c;rw[e,zwq];refine⟨rfl,?_⟩;have hR:Zbl lim P (x::t.code.drop (i+1)) D=([],3,i):=by rw[zc5,if_pos hok,hdl]
   have hG:Ze3 lim P (x::t.code.drop (i+1)) D s p=(s,p):=by rw[ziu,if_pos hok]
   unfold Zdv;rw[hR,hG]
   rfl
  | true=>
   rw[hok]at c;by_cases hfit:Zb9 (Zg P D x).1≤lim
   ·left;have e:=zzo (T:=T) hk x P.f lim t.code i (fzs D) s p _ hlt (by omega) hg hfl hvs c (by unfold Zb9 at hfit;omega);refine⟨(i+1,D++[(Zg P D x).1],(Zba s,Zbg p (fz (Zg P D x).1)),.sh),⟨by omega,by simp[hdl],fun q hq=>?_,.inr rfl⟩,by show t.code.length-(i+1)<t.code.length-i;omega,?_,?_⟩
    ·rcases Yaq.1 hq with h | h
     ·exact hD q h
     ·rw[Y9.1 h];have:=zff hfit;have:lim/32≤128:=by omega
      omega
    ·rw[e];simp[fzs]
    ·dsimp only;congr 1;have hR:Zbl lim P (x::t.code.drop (i+1)) D=Zbl lim P (t.code.drop (i+1)) (D++[(Zg P D x).1]):=by rw[zc5,if_neg (by rw[hok];decide),if_neg (by omega)]
     have hG:Ze3 lim P (x::t.code.drop (i+1)) D s p=Ze3 lim P (t.code.drop (i+1)) (D++[(Zg P D x).1]) (Zba s) (Zbg p (fz (Zg P D x).1)):=by rw[ziu,if_neg (by rw[hok];decide),if_neg (by omega)]
     unfold Zdv;rw[hR,hG];have e1:kdE kd (x::t.code.drop (i+1))=.sh:=by simp[kdE]
     have e2:∀l,kdE .sh l=.sh:=by intro l;simp[kdE]
     rw[e1,e2]
   ·right;have e:=z3v (T:=T) hk x P.f lim t.code i (fzs D) s p _ hlt (by omega) hg hfl hvs c (by unfold Zb9 at hfit;omega);rw[e,zwq];refine⟨rfl,?_⟩;have hR:Zbl lim P (x::t.code.drop (i+1)) D=([],6,i):=by rw[zc5,if_neg (by rw[hok];decide),if_pos (by omega),hdl]
    have hG:Ze3 lim P (x::t.code.drop (i+1)) D s p=(Zba s,Zbg p (fz (Zg P D x).1)):=by rw[ziu,if_neg (by rw[hok];decide),if_pos (by omega)]
    unfold Zdv;rw[hR,hG]
    rfl
 ·right;have hi2:i=t.code.length:=by omega
  subst hi2;have e:=z9m (T:=T) hk P.f lim t.code (fzs D) s p;refine⟨e.1,?_⟩;rw[e.2,Yaf];unfold Zdv;simp[Zbl,Ze3,kdE]
end
def Zev(t:Tp)(y p:Nat):Bool:=okT t&&decide ((y:Int)=t.dim)&&decide ((p:Int)=t.par)
def Zb7(lim:Nat)(t:Tp)(P:Po):List Rat×Nat×Nat:=if Zev t P.y.length P.p.length=true then Zbl lim P t.code [] else ([],2,0)
def Zhh(t:Tp)(D:List Rat):List Rat:=t.outs.map (gI D)
def Zm6(lim:Nat)(t:Tp)(P:Po):List Rat×Nat×Nat:=if (Zb7 lim t P).2.1=0 then (Zhh t (Zb7 lim t P).1,0,0) else ([],(Zb7 lim t P).2)
structure TpS (t:Tp):Prop where
 small:Small t
 ns:∀i∈t.code,fsz i.n≤1000
abbrev Zcq(k s g a:Int):AV:=.agg [.i .i64 k,.i .i64 s,.i .i64 g,.i .i64 a]
theorem zc3{t:Tp}{y p:Nat}(h:Zev t y p=true):OkTp t∧(y:Int)=t.dim∧(p:Int)=t.par:=by
 unfold Zev at h;simp only[Yj,decide_eq_true_eq]at h;exact⟨(zi4 t).1 h.1.1,h.1.2,h.2⟩
section
variable{T:Tbl}[Z7 T][Zs T][Zw T][Zx T][Zt T][Zv T][Zf T][Zl T][Zq T][Z0 T][Zab T][Zbz T][Zad T][Z8 T][Zaw T][Za4 T][Zei T]
theorem z3w(t:Tp)(Q:PoF)(hs:TpS t)(s p L:Int)(h:Zev t Q.y.length Q.p.length=false) :
  Zaa T 407 [.agg [.ptr (.bor 0) 0 3 0 0],etp t,ept Q] [(.bor 0,bxG 0 s p L)]=some (.tup [.sl [] .an,Zcq 2 0 0 0],[(.bor 0,bxG 0 s p L)]):=by
 have hr:=zcr (T:=T) t hs.small;unfold Zev at h;rw[zah Za4.h407 rfl,b407];obtain⟨⟨q0,q1,q2⟩,qy,qp⟩:=Q;dsimp only at h;cases hok:okT t with
 | false=>
  rw[hok]at hr;obtain⟨code,outs,dim,par⟩:=t;simp -implicitDefEqProofs[hr]
 | true=>
  rw[hok]at hr h;obtain⟨code,outs,dim,par⟩:=t;dsimp only at *
  by_cases h1:(qy.length:Int)=dim
  ·by_cases h2:(qp.length:Int)=par
   ·simp[h1,h2]at h
   ·simp -implicitDefEqProofs[hr,h1,h2]
  ·simp -implicitDefEqProofs[hr,h1]
theorem zwr(t:Tp)(P:Po)(hs:TpS t)(lim:Nat)(hlim:lim≤4096)(s p:Int)(hP:PvS P 1000)(h:Zev t P.y.length P.p.length=true)(hk:(Zbl lim P t.code []).2.1=0) :
  ∃(s' p':Int) (kd:Kind),(kd=.own∨kd=.sh)∧Zaa T 407 [.agg [.ptr (.bor 0) 0 3 0 0],etp t,ept P.f] [(.bor 0,bxG 0 s p lim)] =
   some (.tup [.bs (.loc 8) 3 3 0 t.code.length,Zcq 0 0 0 0],[(.bor 0,bxG 0 s' p' lim),(.loc 8,⟨3,kd,3,Zd (fzs (Zbl lim P t.code []).1)⟩)]):=by
 obtain⟨hok,h1,h2⟩:=zc3 h;have hr:=zcr (T:=T) t hs.small;have hl:=zqh (T:=T) P lim hlim t hok hs.ns h1 h2 hP s p;rw[(zi4 t).2 hok]at hr;unfold Zdv at hl;rw[if_pos hk]at hl;unfold Zdq Zlh at hl;simp only[Yo,zb5]at hl;have hkd:∃kd:Kind,kdE .own t.code=kd∧(kd=.own∨kd=.sh):=by
  unfold kdE;split
  ·exact⟨_,rfl,.inl rfl⟩
  ·exact⟨_,rfl,.inr rfl⟩
 obtain⟨kd,hkd1,hkd2⟩:=hkd;rw[hkd1]at hl;clear hkd1;have hy:(fzs P.y).length=P.y.length:=zai _;have hp':(fzs P.p).length=P.p.length:=zai _;unfold Po.f at *
 generalize (Ze3 lim P t.code [] s p).1=s' at *
 generalize (Ze3 lim P t.code [] s p).2=p' at *
 generalize fzs (Zbl lim P t.code []).1=D at *
 generalize fzs P.y=Y at *
 generalize fzs P.p=PP at *
 generalize fz P.t=tt at *
 obtain⟨code,outs,dim,par⟩:=t;dsimp only at *
 refine⟨s',p',kd,hkd2,?_⟩;rw[zah Za4.h407 rfl,b407];rcases hkd2 with rfl | rfl
 ·simp -implicitDefEqProofs[hr,h1,h2,hy,hp',hl]
 ·simp -implicitDefEqProofs[hr,h1,h2,hy,hp',hl]
theorem zws(t:Tp)(P:Po)(hs:TpS t)(lim:Nat)(hlim:lim≤4096)(s p:Int)(hP:PvS P 1000)(h:Zev t P.y.length P.p.length=true)(hk:¬ (Zbl lim P t.code []).2.1=0) :
  ∃(s' p':Int),Zaa T 407 [.agg [.ptr (.bor 0) 0 3 0 0],etp t,ept P.f] [(.bor 0,bxG 0 s p lim)] =
   some (.tup [.sl [] .an,Zcq (Zbl lim P t.code []).2.1 0 0 (Zbl lim P t.code []).2.2],[(.bor 0,bxG 0 s' p' lim)]):=by
 obtain⟨hok,h1,h2⟩:=zc3 h;have hr:=zcr (T:=T) t hs.small;have hl:=zqh (T:=T) P lim hlim t hok hs.ns h1 h2 hP s p;rw[(zi4 t).2 hok]at hr;unfold Zdv at hl;rw[if_neg hk]at hl;unfold Zdq Zii at hl;simp only[Yo,zb5]at hl;have hy:(fzs P.y).length=P.y.length:=zai _;have hp':(fzs P.p).length=P.p.length:=zai _;unfold Po.f at *
 generalize (Ze3 lim P t.code [] s p).1=s' at *
 generalize (Ze3 lim P t.code [] s p).2=p' at *
 generalize (((Zbl lim P t.code []).2.1:Nat):Int)=kk at *
 generalize (((Zbl lim P t.code []).2.2:Nat):Int)=aa at *
 generalize fzs P.y=Y at *
 generalize fzs P.p=PP at *
 generalize fz P.t=tt at *
 obtain⟨code,outs,dim,par⟩:=t;dsimp only at *
 refine⟨s',p',?_⟩;rw[zah Za4.h407 rfl,b407];simp -implicitDefEqProofs[hr,h1,h2,hy,hp',hl]
theorem z3x{x:PoF}(h:PoS x 1000):PvS x.v 1000:=by
 refine⟨za6 h.t (by decide),fun q hq=>?_,fun q hq=>?_⟩
 ·obtain⟨u,hu,rfl⟩:=Y2.1 hq;exact za6 (h.y u hu) (by decide)
 ·obtain⟨u,hu,rfl⟩:=Y2.1 hq;exact za6 (h.p u hu) (by decide)
def Ze(n:Int):Nat:=(Zkq n).toNat
theorem zqi(n:Int):Zkq n=(Ze n:Int)∧Ze n≤4096:=by
 unfold Ze Zkq;split
 ·omega
 ·split<;>omega
theorem zzp(t:Tp)(x:PoF)(bits:Int)(hs:TpS t)(hx:PoS x 1000) :
  Zb T 384 [etp t,ept x,.i .i64 bits]=some (.tup [.sl (Zd (fzs (Zb7 (Ze bits) t x.v).1)) .an,Zcq (Zb7 (Ze bits) t x.v).2.1 0 0 (Zb7 (Ze bits) t x.v).2.2]):=by
 have hn:=zie (T:=T) x hx;have hg:=zid (T:=T) bits;obtain⟨hl1,hl2⟩:=zqi bits;rw[hl1]at hg;have hP:=z3x hx;have hlen:x.v.f.y.length=x.v.y.length∧x.v.f.p.length=x.v.p.length:=⟨zai _,zai _⟩;unfold Zb7;cases hf:Zev t x.v.y.length x.v.p.length with
 | false=>
  have hm:=z3w (T:=T) t x.v.f hs 0 0 (Ze bits) (by rw[hlen.1,hlen.2];exact hf);simp only[Yab,if_false];have e0:fzs []=[]:=rfl;rw[e0,zaa Za4.h384 rfl,b384];generalize x.v.f=Q at *
  obtain⟨code,outs,dim,par⟩:=t;obtain⟨⟨q0,q1,q2⟩,qy,qp⟩:=Q;obtain⟨⟨x0,x1,x2⟩,xy,xp⟩:=x;dsimp only at *
  simp -implicitDefEqProofs[hn,hg,hm]
 | true=>
  simp only[if_true];by_cases hk:(Zbl (Ze bits) x.v t.code []).2.1=0
  ·obtain⟨s',p',kd,hkd,hm⟩:=zwr (T:=T) t x.v hs (Ze bits) hl2 0 0 hP hf hk;have e2:=(zlf _ _ _ _ hk).1;have el:(Zbl (Ze bits) x.v t.code []).1.length=t.code.length:=by
    obtain⟨E,h1,h2⟩:=(zlf _ _ _ _ hk).2;rw[h1];simpa using h2
   rw[hk,e2];have hfl:(fzs (Zbl (Ze bits) x.v t.code []).1).length=t.code.length:=by rw[zai,el]
   clear el e2 hk;generalize fzs (Zbl (Ze bits) x.v t.code []).1=D at *
   have ht:List.take t.code.length D=D:=Yb (by omega);rw[zaa Za4.h384 rfl,b384];generalize x.v.f=Q at *
   obtain⟨code,outs,dim,par⟩:=t;obtain⟨⟨q0,q1,q2⟩,qy,qp⟩:=Q;obtain⟨⟨x0,x1,x2⟩,xy,xp⟩:=x;dsimp only at *
   rcases hkd with rfl | rfl
   ·simp -implicitDefEqProofs[hn,hg,hm,hfl,ht]
   ·simp -implicitDefEqProofs[hn,hg,hm,hfl,ht]
  ·obtain⟨s',p',hm⟩:=zws (T:=T) t x.v hs (Ze bits) hl2 0 0 hP hf hk;have e1:=(zxk _ _ _ _ hk).1;have e0:fzs []=[]:=rfl;rw[e1,e0];clear e1 hk;generalize (((Zbl (Ze bits) x.v t.code []).2.1:Nat):Int)=kk at *
   generalize (((Zbl (Ze bits) x.v t.code []).2.2:Nat):Int)=aa at *
   rw[zaa Za4.h384 rfl,b384];generalize x.v.f=Q at *
   obtain⟨code,outs,dim,par⟩:=t;obtain⟨⟨q0,q1,q2⟩,qy,qp⟩:=Q;obtain⟨⟨x0,x1,x2⟩,xy,xp⟩:=x;dsimp only at *
   simp -implicitDefEqProofs[hn,hg,hm]
def Zon(D:List Fz)(outs:List Int)(E:List Fz)(i:Nat)(kd:Kind):St:=
 ⟨[(1,.sl (Zd D) .an),(5,.bs (.loc 5) 1 3 0 i),(20,.sl (ints outs) .an),(21,.i .i64 outs.length),(22,.i .i64 i)],[(.loc 5,⟨1,.own,3,Zd (E.take i)⟩)],3⟩
theorem zwt{lim:Nat}{P:Po}(hlim:lim≤4096):∀(l:List Ins) (D:List Rat),(∀q∈D,sz q≤129)→∀q∈(Zbl lim P l D).1,sz q≤129
 | [],D,h=>h
 | i::r,D,h=>by
  rw[zc5];split
  ·simp
  ·split
   ·simp
   ·rename_i hf;refine zwt hlim r _ fun q hq=>?_;rcases Yaq.1 hq with hq | hq
    ·exact h q hq
    ·rw[Y9.1 hq];have:=zff (q:=(Zg P D i).1) (b:=lim) (by omega);omega
end
def Znp(d p:Int):PoF:=⟨fz 0,List.replicate (Zar d) (fz 0),List.replicate (Zar p) (fz 0)⟩
section
variable{T:Tbl}[Z7 T][Zs T][Zw T][Zx T][Zt T][Zv T][Zf T][Zl T][Zq T][Z0 T][Zab T][Zbz T][Z6 T][Zau T][Zax T][Za6 T][Z3 T]
theorem zk4(d p:Int):Zaa T 2395 [.i .i64 d,.i .i64 p] []=some (.agg [.b (fz 0).1,.sl (Za (fz 0).2.1) .an,.sl (Za (fz 0).2.2) .an,.bs (.fld (.loc 7) 9) 1 3 0 (Zar d),.bs (.fld (.loc 9) 9) 2 3 0 (Zar p)],
  [(.fld (.loc 7) 9,⟨1,.own,3,Zd (List.replicate (Zar d) (fz 0))⟩),(.fld (.loc 9) 9,⟨2,.own,3,Zd (List.replicate (Zar p) (fz 0))⟩)]):=by
 have c0:=zcm (T:=T);have c1:=zck (T:=T) d;have c2:=zck (T:=T) p;generalize fz 0=Z at *
 generalize hA:List.replicate (Zar d) Z=A at *
 generalize hB:List.replicate (Zar p) Z=B at *
 obtain⟨z0,z1,z2⟩:=Z;rw[zah Z3.h2395 rfl,b2395];simp -implicitDefEqProofs[c0,c1,c2]
structure Bk where
 t:Tp
 done:List Fz
 co:List Fz
 g:PoF
abbrev bkH(b:Bk):Heap:=
 [(.bor 0,⟨0,.str,11,[[.sl (Zdf b.t.code) .an,.sl (ints b.t.outs) .an,.i .i64 b.t.dim,.i .i64 b.t.par,.sl (Zd b.done) .an,.bs (.bor 1) 1 3 0 b.co.length,.b b.g.t.1,.sl (Za b.g.t.2.1) .an,.sl (Za b.g.t.2.2) .an,
   .bs (.bor 2) 2 3 0 b.g.y.length,.bs (.bor 3) 3 3 0 b.g.p.length]]⟩),
  (.bor 1,⟨1,.own,3,Zd b.co⟩),(.bor 2,⟨2,.own,3,Zd b.g.y⟩),(.bor 3,⟨3,.own,3,Zd b.g.p⟩)]
abbrev bkP:AV:=.ptr (.bor 0) 0 11 0 0
end
def bmp(l:List Rat)(i:Int)(x:Rat):List Rat:=l.set i.toNat (gI l i+x)
@[simp] theorem z57(l:List Rat)(i:Int)(x:Rat):(bmp l i x).length=l.length:=by simp[bmp]
theorem zqq(l:List Rat)(i:Int):bmp l i 0=l:=by
 unfold bmp gI;rw[Rat.add_zero];refine List.ext_getElem? fun j=>?_;rw[Yel];split
 ·rename_i h;subst h;split
  ·rename_i h2;rw[Yp,Ya h2]
   rfl
  ·rename_i h2;rw[Yah (by omega)]
 ·rfl
def Zdj(D:List Rat)(x:Ins)(r:Rat):Rat:=if 0<x.b then Zbs (gI D x.a) (x.b-1) else if x.b<0 then r/gI D x.a else 0
def Zje(D:List Rat)(x:Ins)(r c:Rat)(co:List Rat):List Rat:=
 if x.op=6 then bmp co x.a (-c)
 else if x.op=7 then bmp (bmp co x.a c) x.b c
 else if x.op=8 then bmp (bmp co x.a c) x.b (-c)
 else if x.op=9 then bmp (bmp co x.a (c*gI D x.b)) x.b (c*gI D x.a)
 else if x.op=10 then bmp (bmp co x.a (c/gI D x.b)) x.b (-(c/gI D x.b*r))
 else if x.op=11 then bmp co x.a (c*(x.b*Zdj D x r))
 else co
def Zfy(x:Ins)(c:Rat)(g:Po):Po:=
 if x.op=2 then ⟨g.t+c,g.y,g.p⟩ else if x.op=3 then ⟨g.t,bmp g.y x.a c,g.p⟩ else if x.op=4 then ⟨g.t,g.y,bmp g.p x.a c⟩ else g
theorem zxb(D:List Rat)(x:Ins)(r:Rat)(co:List Rat):Zje D x r 0 co=co:=by
 have h1:(-0:Rat)=0:=by grind
 have h2:∀v:Rat,0/v=0:=fun v=>by rw[Yfa,Rat.zero_mul]
 unfold Zje
 repeat' split
 all_goals simp only[h1,h2,Rat.zero_mul,zqq]
theorem zxc(x:Ins)(g:Po):Zfy x 0 g=g:=by
 unfold Zfy;simp only[zqq,Rat.add_zero]
 repeat' split
 all_goals rfl
def Zdr(lim:Nat)(code:List Ins)(D:List Rat):Nat→List Rat→Po→(List Rat×Po)×Option Nat
 | 0,co,g=>((co,g),none)
 | n+1,co,g=>
  match code[n]? with
  | none=>((co,g),none)
  | some x=>if lim<Zb9 (gI co n) then ((co,g),some n) else Zdr lim code D n (Zje D x (gI D n) (gI co n) co) (Zfy x (gI co n) g)
def Zh4(code:List Ins)(D:List Rat):Nat→List Rat→Po→List Rat×Po
 | 0,co,g=>(co,g)
 | n+1,co,g=>
  match code[n]? with
  | none=>(co,g)
  | some x=>Zh4 code D n (Zje D x (gI D n) (gI co n) co) (Zfy x (gI co n) g)
theorem zxd(lim:Nat)(code:List Ins)(D:List Rat):∀(n:Nat) (co:List Rat) (g:Po),(Zdr lim code D n co g).2=none→(Zdr lim code D n co g).1=Zh4 code D n co g
 | 0,co,g,_=>rfl
 | n+1,co,g,h=>by
  unfold Zdr at h ⊢;unfold Zh4;cases hx:code[n]? with
  | none=>rfl
  | some x=>
   rw[hx]at h;dsimp only at h ⊢;by_cases hl:lim<Zb9 (gI co n)
   ·rw[if_pos hl]at h;cases h
   ·rw[if_neg hl]at h ⊢;exact zxd lim code D n _ _ h
def Zfa:List Int→List Rat→List Rat→List Rat
 | o::os,w::ws,co=>Zfa os ws (bmp co o w)
 | _,_,co=>co
def Zce(lim:Nat):List Rat→Nat→Option Nat
 | [],_=>none
 | q::l,k=>if lim<Zb9 q then some k else Zce lim l (k+1)
def Zbc(d p:Nat):Po:=⟨0,List.replicate d 0,List.replicate p 0⟩
def Zgq(g:Po):List Rat:=g.t::(g.y++g.p)
def Zc3(lim:Nat)(t:Tp)(P:Po)(w:List Rat):Po×Nat×Nat×Nat:=
 if w.length≠t.outs.length then (Zbc 0 0,2,0,0)
 else if (Zb7 lim t P).2.1≠0 then (Zbc 0 0,(Zb7 lim t P).2.1,0,(Zb7 lim t P).2.2)
 else
  match Zdr lim t.code (Zb7 lim t P).1 t.code.length (Zfa t.outs w (List.replicate t.code.length 0)) (Zbc t.dim.toNat t.par.toNat) with
  | (_,some i)=>(Zbc 0 0,6,2,i)
  | (s,none)=>match Zce lim (Zgq s.2) 0 with | some k=>(Zbc 0 0,6,3,k) | none=>(s.2,0,0,0)
def Zlv(l m:List Rat):List Rat:=List.zipWith (· + ·) l m
def Znv(g h:Po):Po:=⟨g.t+h.t,Zlv g.y h.y,Zlv g.p h.p⟩
theorem zhj(x:Ins)(c:Rat)(g:Po):(Zfy x c g).y.length=g.y.length∧(Zfy x c g).p.length=g.p.length:=by
 unfold Zfy
 repeat' split
 all_goals simp
abbrev blk:Fz:=(false,[],[])
def Zaq(co:List Fz)(k:Nat)(q:Rat):List Fz:=co.set k (fz (fv (co.getD k blk)+q))
@[simp] theorem z2m(co:List Fz)(k:Nat)(q:Rat):(Zaq co k q).length=co.length:=by simp[Zaq]
theorem zuw:fv blk=0:=by decide +kernel
theorem z0s(co:List Fz)(i:Int)(q:Rat):(Zaq co i.toNat q).map fv=bmp (co.map fv) i q:=by
 have e:fv (co.getD i.toNat blk)=gI (co.map fv) i:=by
  unfold gI;rw[Yp,Yp,Ya4];cases co[i.toNat]? with
  | none=>exact zuw
  | some x=>rfl
 unfold Zaq bmp;rw[Ycw,zbe,e]
theorem z2n{co:List Fz}{K:Nat}(h:∀x∈co,fsz x≤K)(k:Nat):fsz (co.getD k blk)≤K:=by
 rw[Yp];cases hx:co[k]? with
 | none=>exact Yr _
 | some x=>exact h x (Ye hx)
theorem zfe{co:List Fz}{K S:Nat}(k:Nat){q:Rat}(h:∀x∈co,fsz x≤K)(h1:1≤K)(hq:sz q≤S):∀x∈Zaq co k q,fsz x≤K+S+1:=by
 intro x hx;rcases Ycb hx with h2 | h2
 ·have:=h x h2;omega
 ·rw[h2,zaw];have h3:=zd7 (fv (co.getD k blk)) q;have h4:=za6 (z2n h k) h1;omega
abbrev bkN(n ny np:Nat)(b:Bk):Heap:=
 [(.bor 0,⟨0,.str,11,[[.sl (Zdf b.t.code) .an,.sl (ints b.t.outs) .an,.i .i64 b.t.dim,.i .i64 b.t.par,.sl (Zd b.done) .an,.bs (.bor 1) 1 3 0 n,.b b.g.t.1,.sl (Za b.g.t.2.1) .an,.sl (Za b.g.t.2.2) .an,
   .bs (.bor 2) 2 3 0 ny,.bs (.bor 3) 3 3 0 np]]⟩),
  (.bor 1,⟨1,.own,3,Zd b.co⟩),(.bor 2,⟨2,.own,3,Zd b.g.y⟩),(.bor 3,⟨3,.own,3,Zd b.g.p⟩)]
section
variable{T:Tbl}[Z7 T][Zs T][Zw T][Zx T][Zt T][Zv T][Zf T][Zl T][Zq T][Z0 T][Zab T][Zbz T][Z6 T][Zau T][Zax T][Za6 T][Z3 T]
theorem zcp(n ny np:Nat)(b:Bk)(k:Nat)(c:Fz)(hn:b.co.length=n)(hk:k<n)(hx:∀x∈b.co,fsz x≤30000)(hc:fsz c≤30000) :
  Zaa T 410 [bkP,.i .i64 k,efz c] (bkN n ny np b)=some (.tup [],bkN n ny np { b with co:=Zaq b.co k (fv c) }):=by
 have hk0:k<b.co.length:=by omega
 have hg:b.co[k]? = some (b.co[k]'hk0):=Ya hk0;have e:b.co.getD k blk=b.co[k]'hk0:=by rw[Yp,hg];rfl
 have ca:=zcz (T:=T) (b.co[k]'hk0) c (hx _ (Yn hk0)) hc;unfold Zaq;rw[e];generalize b.co[k]'hk0=x at *
 obtain⟨_,hge⟩:=Yd.1 hg;have hlt':(k:Int)<n:=by omega
 obtain⟨⟨code,outs,dim,par⟩,done,co,⟨⟨g0,g1,g2⟩,gy,gp⟩⟩:=b;dsimp only at *
 generalize fz (fv x+fv c)=z at *
 have hp:wkL ((Zd co).set k [.b z.1,.sl (Za z.2.1) .an,.sl (Za z.2.2) .an])=Zd (co.set k z):=by
  have:(Zd co).set k (Zbq z)=Zd (co.set k z):=by simp[Zd,Ycw]
  show wkL ((Zd co).set k (Zbq z))=_;rw[this,zgz]
 rw[zah Z3.h410 rfl,b410];simp -implicitDefEqProofs[ca,hg,hk,hk0,hlt',hge,hp]
theorem zyg(n ny np:Nat)(b:Bk)(x:Ins)(c r dB:Fz)(kA kB:Nat)(ha:x.a=kA)(hb:x.b=kB)(hn:b.co.length=n)(hA:kA<n)(hB:kB<n)(hd:b.done[kB]? = some dB)(hx:∀y∈b.co,fsz y≤29000)(hc:fsz c≤129)(hr:fsz r≤129)(hdb:fsz dB≤129) :
  Zaa T 427 [bkP,.agg (Zee x),efz c,efz r] (bkN n ny np b)=some (.tup [],bkN n ny np { b with co:=Zaq (Zaq b.co kA (fv c/fv dB)) kB (-(fv c/fv dB*fv r)) }):=by
 have cq:=zf3 (T:=T) c dB (by omega) (by omega);have vc:=za6 hc (by decide);have vr:=za6 hr (by decide);have vd:=za6 hdb (by decide);have z1:=ze7 (fv c) (fv dB);have z2:=zbf (fv c/fv dB) (fv r);have cm:=zbz (T:=T) (fz (fv c/fv dB)) r (by rw[zaw];omega) (by omega);have cn:=zf1 (T:=T) (fz (fv c/fv dB*fv r)) (by rw[zaw];omega);have s1:=zcp (T:=T) n ny np b kA (fz (fv c/fv dB)) hn hA (fun y hy=>Yc (hx y hy) (by decide)) (by rw[zaw];omega);have s2:=zcp (T:=T) n ny np { b with co:=Zaq b.co kA (fv c/fv dB) } kB (fz (-(fv c/fv dB*fv r))) (by simpa using hn) hB
  (fun y hy=>by have:=zfe (K:=29001) (S:=258) kA (fun y hy=>Yc (hx y hy) (by decide)) (by decide) (by omega) y hy;omega) (by rw[zaw,zi0];omega)
 obtain⟨hlt,hge⟩:=Yd.1 hd;have hlt':(kB:Int)<b.done.length:=by omega
 rw[zbe]at cm cn s1 s2;generalize decide (fv dB≠0)=bb at *
 generalize Zaq (Zaq b.co kA (fv c/fv dB)) kB (-(fv c/fv dB*fv r))=C2 at *
 generalize Zaq b.co kA (fv c/fv dB)=C1 at *
 generalize fz (-(fv c/fv dB*fv r))=z3 at *
 generalize fz (fv c/fv dB*fv r)=z4 at *
 generalize fz (fv c/fv dB)=z5 at *
 clear z1 z2 vc vr vd;obtain⟨⟨code,outs,dim,par⟩,done,co,⟨⟨g0,g1,g2⟩,gy,gp⟩⟩:=b;obtain⟨op,ia,ib,n⟩:=x;dsimp only at *
 subst ha;subst hb;rw[zah Z3.h427 rfl,b427];simp -implicitDefEqProofs[cq,cm,cn,s1,s2,hd,hlt',hlt,hge]
theorem zux{q:Rat}(hq:sz q≤129){e:Int}(h0:0<e)(h1:e≤8):sz (Zbs q (e-1))≤904:=by
 obtain⟨n,hn⟩:∃n:Nat,e-1=n:=⟨(e-1).toNat,by omega⟩;unfold Zbs;rw[hn,Yc9];have:=zwo q n;have h3:n*sz q≤7*129:=Ycq (by omega) hq;omega
theorem zp6(e:Int)(h1:-8≤e)(h2:e≤8):sz (e:Rat)≤1:=by
 have h:e=-8∨e=-7∨e=-6∨e=-5∨e=-4∨e=-3∨e=-2∨e=-1∨e=0∨e=1∨e=2∨e=3∨e=4∨e=5∨e=6∨e=7∨e=8:=by omega
 unfold sz;rw[Rat.num_intCast,Rat.den_intCast];refine Ye5.2 ⟨?_,by decide +kernel⟩;refine zap ?_;rw[Nat.pow_one];omega
theorem zyh(n ny np:Nat)(b:Bk)(x:Ins)(c r dA:Fz)(kA:Nat)(ha:x.a=kA)(h8:-8≤x.b)(h8':x.b≤8)(hn:b.co.length=n)(hA:kA<n)(hd:b.done[kA]? = some dA)(hx:∀y∈b.co,fsz y≤29000)(hc:fsz c≤129)(hr:fsz r≤129)(hda:fsz dA≤129) :
  Zaa T 428 [bkP,.agg (Zee x),efz c,efz r] (bkN n ny np b)=some (.tup [],bkN n ny np { b with co:=Zaq b.co kA (fv c*(x.b*(if 0<x.b then Zbs (fv dA) (x.b-1) else if x.b<0 then fv r/fv dA else 0))) }):=by
 have c0:=zcm (T:=T);have ce:=zgo (T:=T) x.b (by omega) (by omega);have vc:=za6 hc (by decide);have vr:=za6 hr (by decide);have vd:=za6 hda (by decide);have ze:=zp6 x.b h8 h8';obtain⟨hlt,hge⟩:=Yd.1 hd;have hlt':(kA:Int)<b.done.length:=by omega
 -- the last steps,whatever the turn is
 have fin:∀q:Rat,sz q≤904→Zb T 217 [efz (fz (x.b:Rat)),efz (fz q)]=some (efz (fz (x.b*q)))∧Zb T 217 [efz c,efz (fz (x.b*q))]=some (efz (fz (fv c*(x.b*q)))) ∧
   Zaa T 410 [bkP,.i .i64 kA,efz (fz (fv c*(x.b*q)))] (bkN n ny np b)=some (.tup [],bkN n ny np { b with co:=Zaq b.co kA (fv c*(x.b*q)) }):=by
  intro q hq;have z1:=zbf (x.b:Rat) q;have z2:=zbf (fv c) (x.b*q);have m1:=zbz (T:=T) (fz (x.b:Rat)) (fz q) (by rw[zaw];omega) (by rw[zaw];omega);have m2:=zbz (T:=T) c (fz (x.b*q)) (by omega) (by rw[zaw];omega);have s1:=zcp (T:=T) n ny np b kA (fz (fv c*(x.b*q))) hn hA (fun y hy=>Yc (hx y hy) (by decide)) (by rw[zaw];omega);rw[zbe,zbe]at m1;rw[zbe]at m2 s1;exact⟨m1,m2,s1⟩
 by_cases h1:0<x.b
 ·have cp:=zhf (T:=T) dA (x.b-1) (by omega);have e2:=zk8 (q:=fv dA) (e:=x.b-1) (by omega) (by omega);rw[if_neg (by omega)]at e2;rw[e2]at cp;obtain⟨m1,m2,s1⟩:=fin _ (zux vd h1 h8');rw[if_pos h1];have hw:IntKind.wrap .i64 (x.b-1)=x.b-1:=zad _ (by omega);generalize Zaq b.co kA (fv c*(x.b*Zbs (fv dA) (x.b-1)))=C1 at *
  generalize fz (fv c*(x.b*Zbs (fv dA) (x.b-1)))=z1 at *
  generalize fz (x.b*Zbs (fv dA) (x.b-1))=z2 at *
  generalize fz (Zbs (fv dA) (x.b-1))=z3 at *
  generalize fz (x.b:Rat)=z4 at *
  generalize fz 0=z5 at *
  clear e2 fin vc vr vd ze;obtain⟨⟨code,outs,dim,par⟩,done,co,⟨⟨g0,g1,g2⟩,gy,gp⟩⟩:=b;obtain⟨op,ia,ib,n⟩:=x;dsimp only at *
  subst ha;rw[zah Z3.h428 rfl,b428];simp -implicitDefEqProofs[c0,ce,cp,m1,m2,s1,hd,hlt',hlt,hge,h1,hw]
 ·by_cases h2:x.b<0
  ·have cq:=zf3 (T:=T) r dA (by omega) (by omega);have z0:=ze7 (fv r) (fv dA);obtain⟨m1,m2,s1⟩:=fin (fv r/fv dA) (by omega);rw[if_neg h1,if_pos h2];generalize decide (fv dA≠0)=bb at *
   generalize Zaq b.co kA (fv c*(x.b*(fv r/fv dA)))=C1 at *
   generalize fz (fv c*(x.b*(fv r/fv dA)))=z1 at *
   generalize fz (x.b*(fv r/fv dA))=z2 at *
   generalize fz (fv r/fv dA)=z3 at *
   generalize fz (x.b:Rat)=z4 at *
   generalize fz 0=z5 at *
   clear fin vc vr vd ze z0;obtain⟨⟨code,outs,dim,par⟩,done,co,⟨⟨g0,g1,g2⟩,gy,gp⟩⟩:=b;obtain⟨op,ia,ib,n⟩:=x;dsimp only at *
   subst ha;rw[zah Z3.h428 rfl,b428];simp -implicitDefEqProofs[c0,ce,cq,m1,m2,s1,hd,hlt',hlt,hge,h1,h2]
  ·obtain⟨m1,m2,s1⟩:=fin 0 (by decide +kernel);rw[if_neg h1,if_neg h2];generalize Zaq b.co kA (fv c*(x.b*0))=C1 at *
   generalize fz (fv c*(x.b*0))=z1 at *
   generalize fz (x.b*0)=z2 at *
   generalize fz (x.b:Rat)=z4 at *
   generalize fz 0=z5 at *
   clear fin vc vr vd ze;obtain⟨⟨code,outs,dim,par⟩,done,co,⟨⟨g0,g1,g2⟩,gy,gp⟩⟩:=b;obtain⟨op,ia,ib,n⟩:=x;dsimp only at *
   subst ha;rw[zah Z3.h428 rfl,b428];simp -implicitDefEqProofs[c0,ce,m1,m2,s1,hd,hlt',hlt,hge,h1,h2]
end
def Zf6(D:List Fz)(x:Ins)(r c:Rat)(co:List Fz):List Fz:=
 if c=0 then co
 else if x.op=6 then Zaq co x.a.toNat (-c)
 else if x.op=7 then Zaq (Zaq co x.a.toNat c) x.b.toNat c
 else if x.op=8 then Zaq (Zaq co x.a.toNat c) x.b.toNat (-c)
 else if x.op=9 then Zaq (Zaq co x.a.toNat (c*gI (D.map fv) x.b)) x.b.toNat (c*gI (D.map fv) x.a)
 else if x.op=10 then Zaq (Zaq co x.a.toNat (c/gI (D.map fv) x.b)) x.b.toNat (-(c/gI (D.map fv) x.b*r))
 else if x.op=11 then Zaq co x.a.toNat (c*(x.b*Zdj (D.map fv) x r))
 else co
def Zkm(x:Ins)(c:Rat)(g:PoF):PoF:=
 if c=0 then g
 else if x.op=2 then ⟨fz (fv g.t+c),g.y,g.p⟩ else if x.op=3 then ⟨g.t,Zaq g.y x.a.toNat c,g.p⟩ else if x.op=4 then ⟨g.t,g.y,Zaq g.p x.a.toNat c⟩ else g
theorem z8t(D:List Fz)(x:Ins)(r c:Rat)(co:List Fz):(Zf6 D x r c co).map fv=Zje (D.map fv) x r c (co.map fv):=by
 unfold Zf6;by_cases h:c=0
 ·subst h;rw[if_pos rfl,zxb]
 ·rw[if_neg h];unfold Zje
  repeat' split
  all_goals simp only[z0s]
@[simp] theorem z2o(D:List Fz)(x:Ins)(r c:Rat)(co:List Fz):(Zf6 D x r c co).length=co.length:=by
 unfold Zf6
 repeat' split
 all_goals simp
theorem zuy{D:List Fz}{i:Int}{k:Nat}{u:Fz}(h:i=k)(hu:D[k]? = some u):gI (D.map fv) i=fv u:=by
 subst h;unfold gI;rw[Yp,Ya4,Yag,hu]
 rfl
theorem z2p{D:List Fz}{x:Ins}{r c:Rat}{co:List Fz}{K p:Nat}{dim par:Int}(hm:Zcj dim par p x=true)(hD:∀u∈D,fsz u≤129)(hc:sz c≤129)(hr:sz r≤129)(h:∀u∈co,fsz u≤K)(h1:1≤K) :
  ∀u∈Zf6 D x r c co,fsz u≤K+1036:=by
 have hg:∀i,sz (gI (D.map fv) i)≤129:=fun i=>zc6 (by decide) fun q hq=>by
  obtain⟨u,hu,rfl⟩:=Y2.1 hq;exact za6 (hD u hu) (by decide)
 have ga:=hg x.a;have gb:=hg x.b;have z0:=zi0 c;have z1:=zbf c (gI (D.map fv) x.b);have z2:=zbf c (gI (D.map fv) x.a);have z3:=ze7 c (gI (D.map fv) x.b);have z4:=zbf (c/gI (D.map fv) x.b) r;have z5:=zi0 (c/gI (D.map fv) x.b*r);have two:∀(S S':Nat) (k k':Nat) (q q':Rat),sz q≤S→sz q'≤S'→S+S'≤1000→∀u∈Zaq (Zaq co k q) k' q',fsz u≤K+1036:=by
  intro S S' k k' q q' hq hq' hS u hu;have:=zfe k' (zfe k h h1 hq) (by omega) hq' u hu;omega
 unfold Zf6
 repeat' split
 ·intro u hu;have:=h u hu;omega
 ·intro u hu;have:=zfe (S:=129) x.a.toNat h h1 (by omega) u hu;omega
 ·exact two 129 129 _ _ _ _ (by omega) (by omega) (by decide)
 ·exact two 129 129 _ _ _ _ (by omega) (by omega) (by decide)
 ·exact two 258 258 _ _ _ _ (by omega) (by omega) (by decide)
 ·exact two 258 387 _ _ _ _ (by omega) (by omega) (by decide)
 ·rename_i h11;obtain⟨e1,e2⟩:=zpc hm h11;have zt:sz (Zdj (D.map fv) x r)≤904:=by
   unfold Zdj;split
   ·exact zux ga (by omega) e2
   ·split
    ·have:=ze7 r (gI (D.map fv) x.a);omega
    ·exact(by decide +kernel:sz 0≤904)
  have z6:=zbf (x.b:Rat) (Zdj (D.map fv) x r);have z7:=zp6 x.b e1 e2;have z8:=zbf c (x.b*Zdj (D.map fv) x r);intro u hu;have:=zfe (S:=1034) x.a.toNat h h1 (by omega) u hu;omega
 ·intro u hu;have:=h u hu;omega
section
variable{T:Tbl}[Z7 T][Zs T][Zw T][Zx T][Zt T][Zv T][Zf T][Zl T][Zq T][Z0 T][Zab T][Zbz T][Z6 T][Zau T][Zax T][Za6 T][Z3 T]
theorem zyi(n ny np:Nat)(b:Bk)(x:Ins)(k:Nat)(c r:Fz)(hx:b.t.code[k]? = some x)(hm:Zcj b.t.dim b.t.par k x=true)(hdl:b.done.length=n)(hcl:b.co.length=n)(hyl:b.g.y.length=ny)(hpl:b.g.p.length=np)(hy:(ny:Int)=b.t.dim)(hp:(np:Int)=b.t.par)
  (hc:b.co[k]? = some c) (hr:b.done[k]? = some r) (zc:fsz c≤129) (zd:∀u∈b.done,fsz u≤129) (zo:∀u∈b.co,fsz u≤29000) (zt:fsz b.g.t≤29000) (zy:∀u∈b.g.y,fsz u≤29000) (zp:∀u∈b.g.p,fsz u≤29000) :
  Zaa T 412 [bkP,.i .i64 k] (bkN n ny np b)=some (.tup [],bkN n ny np { b with co:=Zf6 b.done x (fv r) (fv c) b.co,g:=Zkm x (fv c) b.g }):=by
 have csg:=zmr (T:=T) c (by omega);obtain⟨kc1,kc2⟩:=Yd.1 hc;obtain⟨kx1,kx2⟩:=Yd.1 hx;obtain⟨kr1,kr2⟩:=Yd.1 hr;have kc1':(k:Int)<n:=by omega
 have kx1':(k:Int)<b.t.code.length:=by omega
 have kr1':(k:Int)<b.done.length:=by omega
 have zr:=zd r (Ye hr);have vc:=za6 zc (by decide);by_cases h0:fv c=0
 ·have h0':sgQ (fv c)=0:=zge.2 h0;unfold Zf6 Zkm;rw[if_pos h0,if_pos h0];rw[h0']at csg;clear h0' h0 vc zr zd zo zt zy zp;obtain⟨⟨code,outs,dim,par⟩,done,co,⟨⟨g0,g1,g2⟩,gy,gp⟩⟩:=b;dsimp only at *
  rw[zah Z3.h412 rfl,b412];simp -implicitDefEqProofs[csg,hx,hc,kc1',kx1',kc2,kx2]
 have h0':¬ sgQ (fv c)=0:=fun h=>h0 (zge.1 h);have op:=zkg hm;have sd:=fun(y:Fz) (i:Nat) (hi:i<n) (hy:fsz y≤29000)=>zcp (T:=T) n ny np b i y hcl hi (fun u hu=>Yc (zo u hu) (by decide)) (by omega);have sd2:=fun(q:Rat) (j:Nat) (hq:sz q≤258) (y:Fz) (i:Nat) (hi:i<n) (hy:fsz y≤29000)=>zcp (T:=T) n ny np { b with co:=Zaq b.co j q } i y (by simpa using hcl) hi
  (fun u hu=>by have:=zfe (K:=29000) (S:=258) j zo (by decide) hq u hu;omega) (by omega)
 have cn:=zf1 (T:=T) c (by omega);have zn:fsz (fz (-fv c))≤29000:=by rw[zaw,zi0];omega
 have zc':fsz c≤29000:=by omega
 unfold Zf6 Zkm;rw[if_neg h0,if_neg h0];have sx:∀(l:List Fz) (j:Nat) (z:Fz),wkL ((Zd l).set j [.b z.1,.sl (Za z.2.1) .an,.sl (Za z.2.2) .an])=Zd (l.set j z):=by
  intro l j z;have:(Zd l).set j (Zbq z)=Zd (l.set j z):=by simp[Zd,Ycw]
  show wkL ((Zd l).set j (Zbq z))=_;rw[this,zgz]
 have gq:∀{i:Int} {j:Nat} {u:Fz},i=j→b.done[j]? = some u→gI (b.done.map fv) i=fv u:=fun h1 h2=>zuy h1 h2;generalize sgQ (fv c)=sg at csg h0';clear h0;rcases op with h | h | h | h | h | h | h | h | h | h
 ·-- constant
  simp only[h,Int.reduceEq,if_false,if_true];obtain⟨⟨code,outs,dim,par⟩,done,co,⟨⟨g0,g1,g2⟩,gy,gp⟩⟩:=b;obtain⟨xo,xa,xb,xn⟩:=x;dsimp only at *
  subst h;rw[zah Z3.h412 rfl,b412];simp -implicitDefEqProofs[csg,h0',hx,hc,kc1',kx1',kc2,kx2]
 ·-- moment
  simp only[h,Int.reduceEq,if_false,if_true];have ca:=zcz (T:=T) b.g.t c (by omega) (by omega);generalize fz (fv b.g.t+fv c)=z at *
  obtain⟨⟨code,outs,dim,par⟩,done,co,⟨⟨g0,g1,g2⟩,gy,gp⟩⟩:=b;obtain⟨xo,xa,xb,xn⟩:=x;dsimp only at *
  subst h;rw[zah Z3.h412 rfl,b412];simp -implicitDefEqProofs[csg,h0',hx,hc,kc1',kx1',kc2,kx2,ca]
 ·-- state
  simp only[h,Int.reduceEq,if_false,if_true];obtain⟨ja,hja⟩:∃j:Nat,x.a=j:=⟨x.a.toNat,by have:=(zz8 hm h).1;omega⟩;have hA:ja<ny:=by have:=(zz8 hm h).2;omega
  have hAl:ja<b.g.y.length:=by omega
  obtain⟨u,hu⟩:∃u,b.g.y[ja]? = some u:=⟨_,Ya hAl⟩;obtain⟨_,hu2⟩:=Yd.1 hu;have hA':(ja:Int)<ny:=by omega
  have ca:=zcz (T:=T) u c (by have:=zy u (Ye hu);omega) (by omega);have eu:b.g.y.getD ja blk=u:=by rw[Yp,hu];rfl
  unfold Zaq;rw[hja,Yag,eu];generalize fz (fv u+fv c)=z at *
  have sx1:=sx b.g.y ja z;obtain⟨⟨code,outs,dim,par⟩,done,co,⟨⟨g0,g1,g2⟩,gy,gp⟩⟩:=b;obtain⟨xo,xa,xb,xn⟩:=x;dsimp only at *
  subst h;rw[zah Z3.h412 rfl,b412];simp -implicitDefEqProofs[csg,h0',hx,hc,kc1',kx1',kc2,kx2,ca,hu,hu2,hA,hA',hAl,sx1,hja]
 ·-- parameter
  simp only[h,Int.reduceEq,if_false,if_true];obtain⟨ja,hja⟩:∃j:Nat,x.a=j:=⟨x.a.toNat,by have:=(zz9 hm h).1;omega⟩;have hA:ja<np:=by have:=(zz9 hm h).2;omega
  have hAl:ja<b.g.p.length:=by omega
  obtain⟨u,hu⟩:∃u,b.g.p[ja]? = some u:=⟨_,Ya hAl⟩;obtain⟨_,hu2⟩:=Yd.1 hu;have hA':(ja:Int)<np:=by omega
  have ca:=zcz (T:=T) u c (by have:=zp u (Ye hu);omega) (by omega);have eu:b.g.p.getD ja blk=u:=by rw[Yp,hu];rfl
  unfold Zaq;rw[hja,Yag,eu];generalize fz (fv u+fv c)=z at *
  have sx1:=sx b.g.p ja z;obtain⟨⟨code,outs,dim,par⟩,done,co,⟨⟨g0,g1,g2⟩,gy,gp⟩⟩:=b;obtain⟨xo,xa,xb,xn⟩:=x;dsimp only at *
  subst h;rw[zah Z3.h412 rfl,b412];simp -implicitDefEqProofs[csg,h0',hx,hc,kc1',kx1',kc2,kx2,ca,hu,hu2,hA,hA',hAl,sx1,hja]
 ·-- other side
  simp only[h,Int.reduceEq,if_false,if_true];obtain⟨ja,hja⟩:∃j:Nat,x.a=j:=⟨x.a.toNat,by have:=(zfm hm (by omega)).1;omega⟩;have hA:ja<n:=by have:=(zfm hm (by omega)).2;omega
  have s1:=sd (fz (-fv c)) ja hA zn;rw[zbe]at s1;rw[hja,Yag];generalize Zaq b.co ja (-fv c)=C1 at *
  generalize fz (-fv c)=z1 at *
  obtain⟨⟨code,outs,dim,par⟩,done,co,⟨⟨g0,g1,g2⟩,gy,gp⟩⟩:=b;obtain⟨xo,xa,xb,xn⟩:=x;dsimp only at *
  subst h;rw[zah Z3.h412 rfl,b412];simp -implicitDefEqProofs[csg,h0',hx,hc,kc1',kx1',kc2,kx2,cn,s1,hja]
 ·-- sum
  simp only[h,Int.reduceEq,if_false,if_true];obtain⟨ja,hja⟩:∃j:Nat,x.a=j:=⟨x.a.toNat,by have:=(zfm hm (by omega)).1;omega⟩;have hA:ja<n:=by have:=(zfm hm (by omega)).2;omega
  obtain⟨jb,hjb⟩:∃j:Nat,x.b=j:=⟨x.b.toNat,by have:=(zi5 hm (by omega)).1;omega⟩;have hB:jb<n:=by have:=(zi5 hm (by omega)).2;omega
  have s1:=sd c ja hA zc';have s2:=sd2 (fv c) ja (by omega) c jb hB zc';rw[hja,hjb,Yag,Yag];generalize Zaq (Zaq b.co ja (fv c)) jb (fv c)=C2 at *
  generalize Zaq b.co ja (fv c)=C1 at *
  obtain⟨⟨code,outs,dim,par⟩,done,co,⟨⟨g0,g1,g2⟩,gy,gp⟩⟩:=b;obtain⟨xo,xa,xb,xn⟩:=x;dsimp only at *
  subst h;rw[zah Z3.h412 rfl,b412];simp -implicitDefEqProofs[csg,h0',hx,hc,kc1',kx1',kc2,kx2,s1,s2,hja,hjb]
 ·-- difference
  simp only[h,Int.reduceEq,if_false,if_true];obtain⟨ja,hja⟩:∃j:Nat,x.a=j:=⟨x.a.toNat,by have:=(zfm hm (by omega)).1;omega⟩;have hA:ja<n:=by have:=(zfm hm (by omega)).2;omega
  obtain⟨jb,hjb⟩:∃j:Nat,x.b=j:=⟨x.b.toNat,by have:=(zi5 hm (by omega)).1;omega⟩;have hB:jb<n:=by have:=(zi5 hm (by omega)).2;omega
  have s1:=sd c ja hA zc';have s2:=sd2 (fv c) ja (by omega) (fz (-fv c)) jb hB zn;rw[zbe]at s2;rw[hja,hjb,Yag,Yag];generalize Zaq (Zaq b.co ja (fv c)) jb (-fv c)=C2 at *
  generalize Zaq b.co ja (fv c)=C1 at *
  generalize fz (-fv c)=z1 at *
  obtain⟨⟨code,outs,dim,par⟩,done,co,⟨⟨g0,g1,g2⟩,gy,gp⟩⟩:=b;obtain⟨xo,xa,xb,xn⟩:=x;dsimp only at *
  subst h;rw[zah Z3.h412 rfl,b412];simp -implicitDefEqProofs[csg,h0',hx,hc,kc1',kx1',kc2,kx2,cn,s1,s2,hja,hjb]
 ·-- product
  simp only[h,Int.reduceEq,if_false,if_true];obtain⟨ja,hja⟩:∃j:Nat,x.a=j:=⟨x.a.toNat,by have:=(zfm hm (by omega)).1;omega⟩;have hA:ja<n:=by have:=(zfm hm (by omega)).2;omega
  obtain⟨jb,hjb⟩:∃j:Nat,x.b=j:=⟨x.b.toNat,by have:=(zi5 hm (by omega)).1;omega⟩;have hB:jb<n:=by have:=(zi5 hm (by omega)).2;omega
  obtain⟨da,hda⟩:∃u,b.done[ja]? = some u:=⟨_,Ya (by omega)⟩;obtain⟨hda1,hda2⟩:=Yd.1 hda;have hda3:(ja:Int)<b.done.length:=by omega
  have zda:=zd da (Ye hda);have vda:=za6 zda (by decide);obtain⟨db,hdb⟩:∃u,b.done[jb]? = some u:=⟨_,Ya (by omega)⟩;obtain⟨hdb1,hdb2⟩:=Yd.1 hdb;have hdb3:(jb:Int)<b.done.length:=by omega
  have zdb:=zd db (Ye hdb);have vdb:=za6 zdb (by decide);have z1:=zbf (fv c) (fv db);have z2:=zbf (fv c) (fv da);have m1:=zbz (T:=T) c db (by omega) (by omega);have m2:=zbz (T:=T) c da (by omega) (by omega);have s1:=sd (fz (fv c*fv db)) ja hA (by rw[zaw];omega);have s2:=sd2 (fv c*fv db) ja (by omega) (fz (fv c*fv da)) jb hB (by rw[zaw];omega);rw[zbe]at s1 s2;rw[gq hja hda,gq hjb hdb,hja,hjb,Yag,Yag];generalize Zaq (Zaq b.co ja (fv c*fv db)) jb (fv c*fv da)=C2 at *
  generalize Zaq b.co ja (fv c*fv db)=C1 at *
  generalize fz (fv c*fv db)=u1 at *
  generalize fz (fv c*fv da)=u2 at *
  clear sd sd2 z1 z2;obtain⟨⟨code,outs,dim,par⟩,done,co,⟨⟨g0,g1,g2⟩,gy,gp⟩⟩:=b;obtain⟨xo,xa,xb,xn⟩:=x;dsimp only at *
  subst h;rw[zah Z3.h412 rfl,b412];simp -implicitDefEqProofs[csg,h0',hx,hc,kc1',kx1',kc2,kx2,m1,m2,s1,s2,hja,hjb,hda,hdb,hda1,hdb1,hda2,hdb2,hda3,hdb3]
 ·-- quotient
  simp only[h,Int.reduceEq,if_false,if_true];obtain⟨ja,hja⟩:∃j:Nat,x.a=j:=⟨x.a.toNat,by have:=(zfm hm (by omega)).1;omega⟩;have hA:ja<n:=by have:=(zfm hm (by omega)).2;omega
  obtain⟨jb,hjb⟩:∃j:Nat,x.b=j:=⟨x.b.toNat,by have:=(zi5 hm (by omega)).1;omega⟩;have hB:jb<n:=by have:=(zi5 hm (by omega)).2;omega
  obtain⟨db,hdb⟩:∃u,b.done[jb]? = some u:=⟨_,Ya (by omega)⟩;obtain⟨hdb1,hdb2⟩:=Yd.1 hdb;have hdb3:(jb:Int)<b.done.length:=by omega
  have zdb:=zd db (Ye hdb);have vdb:=za6 zdb (by decide);have q1:=zyg (T:=T) n ny np b x c r db ja jb hja hjb hcl hA hB hdb zo zc zr zdb;rw[gq hjb hdb,hja,hjb,Yag,Yag];generalize Zaq (Zaq b.co ja (fv c/fv db)) jb (-(fv c/fv db*fv r))=C2 at *
  clear sd sd2;obtain⟨⟨code,outs,dim,par⟩,done,co,⟨⟨g0,g1,g2⟩,gy,gp⟩⟩:=b;obtain⟨xo,xa,xb,xn⟩:=x;dsimp only at *
  subst h;subst hja;subst hjb;rw[zah Z3.h412 rfl,b412];simp -implicitDefEqProofs[csg,h0',hx,hc,kc1',kx1',kc2,kx2,q1,hr,kr1,kr2,kr1']
 ·-- power
  simp only[h,Int.reduceEq,if_false,if_true];obtain⟨ja,hja⟩:∃j:Nat,x.a=j:=⟨x.a.toNat,by have:=(zfm hm (by omega)).1;omega⟩;have hA:ja<n:=by have:=(zfm hm (by omega)).2;omega
  obtain⟨da,hda⟩:∃u,b.done[ja]? = some u:=⟨_,Ya (by omega)⟩;obtain⟨hda1,hda2⟩:=Yd.1 hda;have hda3:(ja:Int)<b.done.length:=by omega
  have zda:=zd da (Ye hda);have vda:=za6 zda (by decide);obtain⟨e1,e2⟩:=zpc hm h;have q1:=zyh (T:=T) n ny np b x c r da ja hja e1 e2 hcl hA hda zo zc zr zda;have et:Zdj (b.done.map fv) x (fv r)=(if 0<x.b then Zbs (fv da) (x.b-1) else if x.b<0 then fv r/fv da else 0):=by
   unfold Zdj;rw[gq hja hda]
  rw[et,hja,Yag];generalize (if 0<x.b then Zbs (fv da) (x.b-1) else if x.b<0 then fv r/fv da else 0)=tq at *
  generalize Zaq b.co ja (fv c*(x.b*tq))=C2 at *
  clear sd sd2;obtain⟨⟨code,outs,dim,par⟩,done,co,⟨⟨g0,g1,g2⟩,gy,gp⟩⟩:=b;obtain⟨xo,xa,xb,xn⟩:=x;dsimp only at *
  subst h;subst hja;rw[zah Z3.h412 rfl,b412];simp -implicitDefEqProofs[csg,h0',hx,hc,kc1',kx1',kc2,kx2,q1,hr,kr1,kr2,kr1']
end
section
variable{T:Tbl}[Z7 T][Zs T][Zw T][Zx T][Zt T][Zv T][Zf T][Zl T][Zq T][Z0 T][Zab T][Zbz T][Z6 T][Zau T][Zax T][Za6 T][Zad T][Zaw T][Z8 T][Z3 T]
theorem zrm(x:Fz)(hx:fsz x≤30000):Zb T 223 [efz x]=some (.i .i64 (Zbh x)):=by
 have h1:=zc4 x;have h2:=zc7 x;have c1:=zhh (T:=T) x.2.1 (by omega);have c2:=zhh (T:=T) x.2.2 (by omega);have b1:=zhi (x:=val x.2.1) (k:=30000) (Yc (zac x.2.1) (by omega));have b2:=zhi (x:=val x.2.2) (k:=30000) (Yc (zac x.2.2) (by omega));have w:IntKind.wrap .i64 ((Za1 (val x.2.1):Int)+(Za1 (val x.2.2):Int))=((Zbh x:Nat):Int):=by
  have e:((Zbh x:Nat):Int)=(Za1 (val x.2.1):Int)+(Za1 (val x.2.2):Int):=by unfold Zbh;omega
  rw[e];exact zad _ (by omega)
 rw[zaa Zab.h223 rfl,b223];generalize Zbh x=S at *
 generalize Za1 (val x.2.1)=B1 at *
 generalize Za1 (val x.2.2)=B2 at *
 simp -implicitDefEqProofs[c1,c2,w]
theorem zd1(s p L:Int)(x:Fz)(hx:fsz x≤30000):Zaa T 411 [.ptr (.bor 0) 0 3 0 0,efz x] [(.bor 0,bxG 0 s p L)]=some (.b (decide ((Zbh x:Int)≤L)),[(.bor 0,bxG 0 (Zba s) (Zbg p x) L)]):=by
 have h1:=zrm (T:=T) x hx;have h2:=zjy (T:=T) s p L (Zbh x);unfold Zbg;rw[zah Z8.h411 rfl,b411];generalize Zba s=s' at *
 generalize (if p<(Zbh x:Int) then (Zbh x:Int) else p)=p' at *
 generalize (Zbh x:Int)=z at *
 simp -implicitDefEqProofs[h1,h2]
theorem zyj(g:PoF)(hy:g.y≠[])(hl:g.y.length≤1000)(hl2:g.p.length≤1000):Zb T 414 [ept g]=some (.sl (Zd (g.t::(g.y++g.p))) .an):=by
 obtain⟨⟨g0,g1,g2⟩,gy,gp⟩:=g;dsimp only;dsimp only at hy hl hl2;have hne:¬ Zd gy=[]:=fun h=>hy (by have:=congrArg List.length h;simpa using this);have h1:1+gy.length≤4294967296:=by omega
 have h2:1+gy.length+gp.length≤4294967296:=by omega
 have h3:1+gy.length≤gy.length+1:=by omega
 have h4:∀c:List AV,List.take (1+gy.length) (c::Zd gy)=c::Zd gy:=fun c=>Yb (by simp;omega);have h5:1+gy.length+gp.length≤gy.length+gp.length+1:=by omega
 have h6:∀c:List AV,List.take (1+gy.length+gp.length) (c::(Zd gy++Zd gp))=c::(Zd gy++Zd gp):=fun c=>Yb (by simp;omega);have h7:wkL (Zd gy++Zd gp)=Zd gy++Zd gp:=by
  have:Zd gy++Zd gp=Zd (gy++gp):=by simp[Zd]
  rw[this,zgz]
 have e:Zd ((g0,g1,g2)::(gy++gp))=[.b g0,.sl (Za g1) .an,.sl (Za g2) .an]::(Zd gy++Zd gp):=by simp[Zd]
 rw[e,zaa Z3.h414 rfl,b414];simp -implicitDefEqProofs[hne,h1,h2,h3,h4,h5,h6,h7,zvv]
def Zg9(F:List Fz)(L:Int)(i:Nat)(s p:Int):St:=⟨[(0,.ptr (.bor 0) 0 3 0 0),(1,.sl (Zd F) .an),(8,.sl (Zd F) .an),(9,.i .i64 F.length),(10,.i .i64 i)],[(.bor 0,bxG 0 s p L)],4⟩
theorem zaht(F:List Fz)(L:Int)(i:Nat)(s p:Int)(x:Fz)(hi:i<F.length)(hl:F.length≤1000)(hg:F[i]? = some x)(hx:fsz x≤30000)(hf:(Zbh x:Int)≤L) :
  evX (orc T) T 1 l413_0 (Zg9 F L i s p)=some (.n,Zg9 F L (i+1) (Zba s) (Zbg p x)):=by
 have ht:=zd1 (T:=T) s p L x hx;rw[decide_eq_true hf]at ht;have hws:=zbs hi (by omega);have hge:=(Yd.1 hg).2;have hi':(i:Int)<F.length:=by omega
 generalize Zba s=s' at *
 generalize Zbg p x=p' at *
 unfold Zg9;simp -implicitDefEqProofs[l413_0,hi,hi',hg,hge,hws,ht]
theorem z8u(F:List Fz)(L:Int)(i:Nat)(s p:Int)(x:Fz)(hi:i<F.length)(hl:F.length≤1000)(hg:F[i]? = some x)(hx:fsz x≤30000)(hf:¬ (Zbh x:Int)≤L) :
  evX (orc T) T 1 l413_0 (Zg9 F L i s p)=some (.r,⟨[(4,.i .i64 i),(5,.b false)],[(.bor 0,bxG 0 (Zba s) (Zbg p x) L)],4⟩):=by
 have ht:=zd1 (T:=T) s p L x hx;rw[decide_eq_false hf]at ht;have hge:=(Yd.1 hg).2;have hi':(i:Int)<F.length:=by omega
 generalize Zba s=s' at *
 generalize Zbg p x=p' at *
 unfold Zg9;simp -implicitDefEqProofs[l413_0,hi,hi',hg,hge,ht]
theorem z8v(F:List Fz)(L s p:Int):Zd5 (evX (orc T) T 1 l413_0 (Zg9 F L F.length s p))=true ∧
  Zde 1 0 (.norm false [1]) (evX (orc T) T 1 l413_0 (Zg9 F L F.length s p))=some (.n,⟨[(1,.sl (Zd F) .an)],[(.bor 0,bxG 0 s p L)],4⟩):=by
 unfold Zg9;constructor<;>simp -implicitDefEqProofs[l413_0]
theorem z8w(i s p L:Int):Zde 1 0 (.norm false [1]) (some (.r,(⟨[(4,.i .i64 i),(5,.b false)],[(.bor 0,bxG 0 s p L)],4⟩:St)))=some (.r,⟨[(4,.i .i64 i),(5,.b false)],[(.bor 0,bxG 0 s p L)],4⟩):=by
 simp -implicitDefEqProofs
theorem z2q(qs:List Rat)(L:Nat)(hl:qs.length≤1000)(hw:∀q∈qs,sz q≤30000)(s p:Int) :
  ∃r,(∃s' p':Int,(Zce L qs 0=none∧r=(Ex.n,(⟨[(1,.sl (Zd (fzs qs)) .an)],[(.bor 0,bxG 0 s' p' L)],4⟩:St)))∨(∃k:Nat,Zce L qs 0=some k∧r=(.r,⟨[(4,.i .i64 k),(5,.b false)],[(.bor 0,bxG 0 s' p' L)],4⟩))) ∧
   Zn T 1 0 (.norm false [1]) l413_0 (Zg9 (fzs qs) L 0 s p)=some r:=by
 refine zaq (fun x:Nat×Int×Int=>Zg9 (fzs qs) L x.1 x.2.1 x.2.2) (fun x=>x.1≤qs.length∧Zce L (qs.drop x.1) x.1=Zce L qs 0) (fun x=>qs.length-x.1) _ ?_ (0,s,p) ⟨Yr _,rfl⟩
 rintro⟨i,s,p⟩ ⟨hi,hf⟩
 dsimp only at *
 have hfl:(fzs qs).length=qs.length:=zai _;by_cases hlt:i<qs.length
 ·have hd:qs.drop i=qs[i]::qs.drop (i+1):=Yf hlt;have hg:(fzs qs)[i]? = some (fz qs[i]):=by simp[fzs,hlt]
  have hs:fsz (fz qs[i])≤30000:=hw _ (Yn hlt);rw[hd,Zce]at hf;by_cases hb:L<Zb9 qs[i]
  ·right;rw[if_pos hb]at hf;have e:=z8u (T:=T) (fzs qs) L i s p _ (by omega) (by omega) hg hs (by unfold Zb9 at hb;omega);refine⟨_,⟨Zba s,Zbg p (fz qs[i]),.inr ⟨i,hf.symm,rfl⟩⟩,by rw[e];rfl,by rw[e,z8w]⟩
  ·left;rw[if_neg hb]at hf;exact⟨(i+1,Zba s,Zbg p (fz qs[i])),⟨by dsimp only;omega,hf⟩,by dsimp only;omega,zaht (T:=T) (fzs qs) L i s p _ (by omega) (by omega) hg hs (by unfold Zb9 at hb;omega)⟩
 ·right;have:i=qs.length:=by omega
  subst this;rw[Yaf,Zce]at hf;have e:=z8v (T:=T) (fzs qs) L s p;rw[hfl]at e;exact⟨_,⟨s,p,.inl ⟨hf.symm,rfl⟩⟩,e⟩
theorem zuz(qs:List Rat)(L:Nat)(hl:qs.length≤1000)(hw:∀q∈qs,sz q≤30000)(s p:Int) :
  ∃s' p':Int,Zaa T 413 [.ptr (.bor 0) 0 3 0 0,.sl (Zd (fzs qs)) .an] [(.bor 0,bxG 0 s p L)]=some (.tup [.i .i64 (match Zce L qs 0 with | some k=>(k:Int) | none=>(qs.length:Int)),.b (Zce L qs 0).isNone],[(.bor 0,bxG 0 s' p' L)]):=by
 obtain⟨r,⟨s',p',hr⟩,hloop⟩:=z2q (T:=T) qs L hl hw s p;refine⟨s',p',?_⟩;have hfl:(fzs qs).length=qs.length:=zai _;rw[zah Z8.h413 rfl,b413];unfold Zg9 at hloop;simp only[Yo]at hloop;rcases hr with ⟨h,rfl⟩ | ⟨k,h,rfl⟩
 ·rw[h];rw[hfl]at hloop;generalize fzs qs=F at *
  simp -implicitDefEqProofs[hloop,hfl]
 ·rw[h];rw[hfl]at hloop;generalize fzs qs=F at *
  simp -implicitDefEqProofs[hloop,hfl]
end
abbrev fa1:BId:=.fld (.fld (.loc 20) 0) 8009
abbrev fa2:BId:=.fld (.fld (.loc 20) 0) 10009
abbrev fb1:BId:=.fld (.fld (.loc 50) 0) 8009
abbrev fb2:BId:=.fld (.fld (.loc 50) 0) 10009
abbrev z5:List AV:=[.b (fz 0).1,.sl (Za (fz 0).2.1) .an,.sl (Za (fz 0).2.2) .an,.bs fa1 4 3 0 0,.bs fa2 5 3 0 0]
abbrev bkX(n ny np:Nat)(b:Bk):Heap:=
 [(.loc 8,⟨1,.str,5,[[.b false,.sl [] .an,.sl [] .an,.sl [] .an,.sl [] .an]]⟩),(.loc 9,⟨2,.str,4,[[.i .i64 0,.i .i64 0,.i .i64 0,.i .i64 0]]⟩),
  (.loc 10,⟨3,.str,5,[z5]⟩),(fa1,⟨4,.own,3,[]⟩),(fa2,⟨5,.own,3,[]⟩),
  (.loc 52,⟨6,.str,11,[[.sl (Zdf b.t.code) .an,.sl (ints b.t.outs) .an,.i .i64 b.t.dim,.i .i64 b.t.par,.sl (Zd b.done) .an,.bs (.loc 45) 7 3 0 n,.b b.g.t.1,.sl (Za b.g.t.2.1) .an,.sl (Za b.g.t.2.2) .an,
   .bs fb1 8 3 0 ny,.bs fb2 9 3 0 np]]⟩),
  (.loc 45,⟨7,.own,3,Zd b.co⟩),(fb1,⟨8,.own,3,Zd b.g.y⟩),(fb2,⟨9,.own,3,Zd b.g.p⟩)]
def Zid(n ny np:Nat)(W:List Fz)(bits:Int)(b:Bk)(i:Nat):St:=
 ⟨[(2,.sl (Zd W) .an),(3,.i .i64 bits),(8,.ptr (.loc 8) 1 5 0 0),(9,.ptr (.loc 9) 2 4 0 0),(10,.ptr (.loc 10) 3 5 0 0),(11,.sl (Zd b.done) .an),(13,.ptr (.loc 52) 6 11 0 0),
  (54,.sl (ints b.t.outs) .an),(55,.i .i64 b.t.outs.length),(56,.i .i64 i)],bkX n ny np b,11⟩
def Zha(n ny np:Nat)(L:Int)(b:Bk)(i s p:Int):St:=
 ⟨[(8,.ptr (.loc 8) 1 5 0 0),(9,.ptr (.loc 9) 2 4 0 0),(10,.ptr (.loc 10) 3 5 0 0),(13,.ptr (.loc 52) 6 11 0 0),(16,.ptr (.fld (.loc 70) 7) 10 3 0 0),(17,.i .i64 i)],bkX n ny np b++[(.fld (.loc 70) 7,bxG 10 s p L)],12⟩
def Zir(n ny np:Nat)(bits:Int)(b:Bk):Ex×St:=
 (.n,⟨[(3,.i .i64 bits),(8,.ptr (.loc 8) 1 5 0 0),(9,.ptr (.loc 9) 2 4 0 0),(10,.ptr (.loc 10) 3 5 0 0),(11,.sl (Zd b.done) .an),(13,.ptr (.loc 52) 6 11 0 0)],bkX n ny np b,11⟩)
def Zjg(n ny np:Nat)(L:Int)(b:Bk)(s p:Int):Ex×St:=
 (.n,⟨[(8,.ptr (.loc 8) 1 5 0 0),(9,.ptr (.loc 9) 2 4 0 0),(10,.ptr (.loc 10) 3 5 0 0),(13,.ptr (.loc 52) 6 11 0 0),(16,.ptr (.fld (.loc 70) 7) 10 3 0 0)],bkX n ny np b++[(.fld (.loc 70) 7,bxG 10 s p L)],12⟩)
def Zfj(i:Int):Ex×St:=
 (.r,⟨[(8,.ptr (.loc 8) 1 5 0 0),(9,.ptr (.loc 9) 4 4 0 0)],[(.loc 8,⟨1,.str,5,[[.b (fz 0).1,.sl (Za (fz 0).2.1) .an,.sl (Za (fz 0).2.2) .an,.bs fa1 2 3 0 0,.bs fa2 3 3 0 0]]⟩),(fa1,⟨2,.own,3,[]⟩),(fa2,⟨3,.own,3,[]⟩),
  (.loc 9,⟨4,.str,4,[[.i .i64 6,.i .i64 0,.i .i64 2,.i .i64 i]]⟩)],6⟩)
section
variable{T:Tbl}[Z7 T][Zs T][Zw T][Zx T][Zt T][Zv T][Zf T][Zl T][Zq T][Z0 T][Zab T][Zbz T][Z6 T][Zau T][Zax T][Za6 T][Zad T][Zaw T][Z8 T][Z3 T]
theorem zyk(n ny np:Nat)(W:List Fz)(bits:Int)(b:Bk)(i k:Nat)(w:Fz)(hi:i<b.t.outs.length)(hl:b.t.outs.length≤1000)(hg:b.t.outs[i]? = some (k:Int))(hw:W[i]? = some w)(hn:b.co.length=n)(hk:k<n)
  (hx:∀x∈b.co,fsz x≤30000) (hc:fsz w≤30000) :
  evX (orc T) T 0 l397_0 (Zid n ny np W bits b i)=some (.n,Zid n ny np W bits { b with co:=Zaq b.co k (fv w) } (i+1)):=by
 have hs:=zcp (T:=T) n ny np b k w hn hk hx hc;have hws:=zbs hi (by omega);have hge:=(Yd.1 hg).2;obtain⟨hw1,hw2⟩:=Yd.1 hw;have hi':(i:Int)<b.t.outs.length:=by omega
 have hw1':(i:Int)<W.length:=by omega
 generalize Zaq b.co k (fv w)=C1 at *
 unfold Zid;generalize fz 0=Z at *
 obtain⟨⟨code,outs,dim,par⟩,done,co,⟨⟨g0,g1,g2⟩,gy,gp⟩⟩:=b;dsimp only at *
 simp -implicitDefEqProofs[l397_0,hi,hi',hg,hge,hw,hw1,hw1',hw2,hws,hs]
theorem zyl(n ny np:Nat)(L:Int)(b b':Bk)(i:Nat)(s p:Int)(c:Fz)(hc:b.co[i]? = some c)(zc:fsz c≤29000)(hf:(Zbh (fz (fv c)):Int)≤L)
  (ht:Zaa T 412 [bkP,.i .i64 i] (bkN n ny np b)=some (.tup [],bkN n ny np b')) (hn:b.co.length=n) (hn2:n≤1000) (ht1:b'.t=b.t) (ht2:b'.done=b.done) :
  evX (orc T) T 0 l397_1 (Zha n ny np L b i s p)=some (.n,Zha n ny np L b' ((i:Int)-1) (Zba s) (Zbg p (fz (fv c)))):=by
 have cn:=zew (T:=T) c (by omega);have zq:=za6 zc (by decide);have tk:=zd1 (T:=T) s p L (fz (fv c)) (by rw[zaw];omega);rw[decide_eq_true hf]at tk;obtain⟨kc1,kc2⟩:=Yd.1 hc;have kc1':(i:Int)<n:=by omega
 have hw:IntKind.wrap .i64 ((i:Int)-1)=(i:Int)-1:=zad _ (by omega);generalize Zba s=s' at *
 generalize Zbg p (fz (fv c))=p' at *
 generalize fz (fv c)=q at *
 unfold Zha;generalize fz 0=Z at *
 obtain⟨⟨code,outs,dim,par⟩,done,co,⟨⟨g0,g1,g2⟩,gy,gp⟩⟩:=b;obtain⟨⟨code',outs',dim',par'⟩,done',co',⟨⟨g0',g1',g2'⟩,gy',gp'⟩⟩:=b';dsimp only at *
 cases ht1;subst ht2;simp -implicitDefEqProofs[l397_1,hc,kc1',kc2,cn,tk,ht,hw]
theorem z2r(n ny np:Nat)(L:Int)(b:Bk)(i:Nat)(s p:Int)(c:Fz)(hc:b.co[i]? = some c)(zc:fsz c≤29000)(hf:¬ (Zbh (fz (fv c)):Int)≤L)(hn:b.co.length=n)(hn2:n≤1000) :
  evX (orc T) T 0 l397_1 (Zha n ny np L b i s p)=some (Zfj i):=by
 have cn:=zew (T:=T) c (by omega);have zq:=za6 zc (by decide);have tk:=zd1 (T:=T) s p L (fz (fv c)) (by rw[zaw];omega);rw[decide_eq_false hf]at tk;obtain⟨kc1,kc2⟩:=Yd.1 hc;have kc1':(i:Int)<n:=by omega
 generalize Zba s=s' at *
 generalize Zbg p (fz (fv c))=p' at *
 generalize fz (fv c)=q at *
 unfold Zha Zfj;obtain⟨⟨code,outs,dim,par⟩,done,co,⟨⟨g0,g1,g2⟩,gy,gp⟩⟩:=b;dsimp only at *
 simp -implicitDefEqProofs[l397_1,hc,kc1',kc2,cn,tk]
theorem z8x(i:Int):Zde 0 2 (.norm false [8,9,10,13,16]) (some (Zfj i))=some (Zfj i):=by
 unfold Zfj;simp -implicitDefEqProofs
theorem z8y(n ny np:Nat)(L:Int)(b:Bk)(s p:Int):Zd5 (evX (orc T) T 0 l397_1 (Zha n ny np L b (-1) s p))=true ∧
  Zde 0 2 (.norm false [8,9,10,13,16]) (evX (orc T) T 0 l397_1 (Zha n ny np L b (-1) s p))=some (Zjg n ny np L b s p):=by
 unfold Zha Zjg;generalize fz 0=Z at *
 obtain⟨⟨code,outs,dim,par⟩,done,co,⟨⟨g0,g1,g2⟩,gy,gp⟩⟩:=b;constructor<;>simp -implicitDefEqProofs[l397_1]
theorem z8z(n ny np:Nat)(W:List Fz)(bits:Int)(b:Bk):Zd5 (evX (orc T) T 0 l397_0 (Zid n ny np W bits b b.t.outs.length))=true ∧
  Zde 0 0 (.norm false [3,8,9,10,11,13]) (evX (orc T) T 0 l397_0 (Zid n ny np W bits b b.t.outs.length))=some (Zir n ny np bits b):=by
 unfold Zid Zir;generalize fz 0=Z at *
 obtain⟨⟨code,outs,dim,par⟩,done,co,⟨⟨g0,g1,g2⟩,gy,gp⟩⟩:=b;constructor<;>simp -implicitDefEqProofs[l397_0]
end
def Zft:List Int→List Fz→List Fz→List Fz
 | o::os,w::ws,co=>Zft os ws (Zaq co o.toNat (fv w))
 | _,_,co=>co
theorem zu0:∀(os:List Int) (ws co:List Fz),(Zft os ws co).map fv=Zfa os (ws.map fv) (co.map fv)
 | [],_,_=>rfl
 | _::_,[],_=>rfl
 | o::os,w::ws,co=>by rw[Zft,zu0 os ws,z0s];rfl
def Zhb(co:List Fz):Prop:=∀u∈co,u=blk∨u=fz (fv u)
theorem zhc{co:List Fz}(h:Zhb co)(k:Nat)(q:Rat):Zhb (Zaq co k q):=by
 intro u hu;rcases Ycb hu with h2 | h2
 ·exact h u h2
 ·right;rw[h2,zbe]
theorem zym{co:List Fz}(h:Zhb co)(D:List Fz)(x:Ins)(r c:Rat):Zhb (Zf6 D x r c co):=by
 unfold Zf6
 repeat' split
 all_goals first
  | exact h
  | exact zhc h _ _
  | exact zhc (zhc h _ _) _ _
theorem z2s{co:List Fz}(h:Zhb co){k:Nat}{u:Fz}(hu:co[k]? = some u):fsz u≤sz (fv u):=by
 rcases h u (Ye hu) with h2 | h2
 ·rw[h2];exact Yr _
 ·exact Ycx (by rw[←zaw,←h2])
theorem z2t(l:List Rat)(i:Int)(q:Rat):Zaq (fzs l) i.toNat q=fzs (bmp l i q):=by
 have e:fv ((fzs l).getD i.toNat blk)=gI l i:=by
  unfold gI fzs;rw[Yp,Yp,Ya4];cases l[i.toNat]? with
  | none=>exact zuw
  | some x=>exact zbe x
 unfold Zaq bmp;rw[e];simp[fzs,Ycw]
theorem z80(x:Ins)(c:Rat)(g:Po):Zkm x c g.f=(Zfy x c g).f:=by
 unfold Zkm;by_cases h:c=0
 ·subst h;rw[if_pos rfl,zxc]
 ·rw[if_neg h];unfold Zfy Po.f
  repeat' split
  all_goals simp only[z2t,zbe]
theorem zu1{l:List Rat}{K S:Nat}(i:Int){q:Rat}(h:∀u∈l,sz u≤K)(h1:1≤K)(hq:sz q≤S):∀u∈bmp l i q,sz u≤K+S+1:=by
 intro u hu;rcases Ycb hu with h2 | h2
 ·have:=h u h2;omega
 ·rw[h2];have h3:=zd7 (gI l i) q;have h4:=zc6 (a:=i) h1 h;omega
theorem z2u{g:Po}{K:Nat}(h:PvS g K)(h1:1≤K)(x:Ins){c:Rat}(hc:sz c≤129):PvS (Zfy x c g) (K+130):=by
 have up:PvS g (K+130):=⟨by have:=h.t;omega,fun q hq=>by have:=h.y q hq;omega,fun q hq=>by have:=h.p q hq;omega⟩;unfold Zfy
 repeat' split
 ·exact⟨by have:=zd7 g.t c;have:=h.t;dsimp only;omega,up.y,up.p⟩
 ·exact⟨up.t,fun q hq=>zu1 x.a h.y h1 hc q hq,up.p⟩
 ·exact⟨up.t,up.y,fun q hq=>zu1 x.a h.p h1 hc q hq⟩
 ·exact up
section
variable{T:Tbl}[Z7 T][Zs T][Zw T][Zx T][Zt T][Zv T][Zf T][Zl T][Zq T][Z0 T][Zab T][Zbz T][Z6 T][Zau T][Zax T][Za6 T][Zad T][Zaw T][Z8 T][Z3 T]
theorem z2v(n ny np:Nat)(W:List Fz)(bits:Int)(b:Bk)(hn:b.co.length=n)(ho:∀o∈b.t.outs,0≤o∧o<n)(hwl:W.length=b.t.outs.length)(hol:b.t.outs.length≤6)(hw:∀u∈W,fsz u≤1000)(hz:∀u∈b.co,fsz u≤1)(hni:Zhb b.co) :
  ∃co,co=Zft b.t.outs W b.co∧co.length=n∧Zhb co∧(∀u∈co,fsz u≤7000)∧Zn T 0 0 (.norm false [3,8,9,10,11,13]) l397_0 (Zid n ny np W bits b 0)=some (Zir n ny np bits { b with co:=co }):=by
 have:=zaq (T:=T) (k:=0) (id:=0) (g2:=.norm false [3,8,9,10,11,13]) (c:=l397_0) (fun x:Nat×List Fz=>Zid n ny np W bits { b with co:=x.2 } x.1)
  (fun x=>x.1≤b.t.outs.length∧x.2.length=n∧Zhb x.2∧(∀u∈x.2,fsz u≤1+x.1*1002)∧Zft (b.t.outs.drop x.1) (W.drop x.1) x.2=Zft b.t.outs W b.co) (fun x=>b.t.outs.length-x.1)
  (fun r=>∃co,co=Zft b.t.outs W b.co∧co.length=n∧Zhb co∧(∀u∈co,fsz u≤7000)∧r=Zir n ny np bits { b with co:=co }) ?_ (0,b.co) ⟨Yr _,hn,hni,fun u hu=>by have:=hz u hu;dsimp only;omega,rfl⟩
 ·obtain⟨r,⟨co,h1,h2,h3,h4,rfl⟩,h5⟩:=this;exact⟨co,h1,h2,h3,h4,h5⟩
 rintro⟨i,co⟩ ⟨hi,hcl,hnc,hsz,hF⟩
 dsimp only at *
 by_cases hlt:i<b.t.outs.length
 ·left;have hlw:i<W.length:=by omega
  obtain⟨o,hg⟩:∃o,b.t.outs[i]? = some o:=⟨_,Ya hlt⟩;obtain⟨w,hgw⟩:∃w,W[i]? = some w:=⟨_,Ya hlw⟩;have hd:b.t.outs.drop i=o::b.t.outs.drop (i+1):=by rw[Yf hlt,(Yd.1 hg).2]
  have hdw:W.drop i=w::W.drop (i+1):=by rw[Yf hlw,(Yd.1 hgw).2]
  obtain⟨o1,o2⟩:=ho _ (Ye hg);have zw:=hw _ (Ye hgw);rw[hd,hdw,Zft]at hF;obtain⟨k,rfl⟩:∃k:Nat,o=k:=⟨o.toNat,by omega⟩;rw[Yag]at hF;have hb:i*1002≤6*1002:=Yv _ (by omega);have e:=zyk (T:=T) n ny np W bits { b with co:=co } i k w hlt (by dsimp only;omega) hg hgw hcl (by omega) (fun u hu=>by have:=hsz u hu;omega) (by omega);refine⟨(i+1,Zaq co k (fv w)),⟨by dsimp only;omega,by simpa using hcl,zhc hnc _ _,fun u hu=>?_,hF⟩,by dsimp only;omega,e⟩;have h9:=zfe (S:=1000) k hsz (by omega) (za6 zw (by decide)) u hu;show fsz u≤1+(i+1)*1002;rw[Ye3];exact Yc h9 (by generalize i*1002=z;omega)
 ·right;have:i=b.t.outs.length:=by omega
  subst this;rw[Yaf,Zft]at hF
  ·have hb:b.t.outs.length*1002≤6*1002:=Yv _ (by omega);refine⟨_,⟨co,hF,hcl,hnc,fun u hu=>by have:=hsz u hu;omega,rfl⟩,z8z (T:=T) n ny np W bits { b with co:=co }⟩
  ·intro o os w ws h;cases h
def Zl7(n ny np L:Nat)(t:Tp)(D:List Fz)(R:(List Rat×Po)×Option Nat)(r:Ex×St):Prop:=
 (∃i,R.2=some i∧r=Zfj (i:Nat))∨(R.2=none∧PvS R.1.2 3000∧R.1.2.y.length=ny∧R.1.2.p.length=np∧∃(co:List Fz) (s p:Int),r=Zjg n ny np L ⟨t,D,co,R.1.2.f⟩ s p)
theorem z2w(n ny np L:Nat)(t:Tp)(D co0:List Fz)(g0:Po)(ht:OkTp t)(hn:t.code.length=n)(hn2:n≤20)(hL:L≤4096)(hD:D.length=n)(hy:(ny:Int)=t.dim)(hp:(np:Int)=t.par)(zD:∀u∈D,fsz u≤129)
  (h1:co0.length=n) (h2:Zhb co0) (h3:∀u∈co0,fsz u≤7000) (h4:PvS g0 1) (h5:g0.y.length=ny) (h6:g0.p.length=np) (s0 p0:Int) :
  ∃r,Zl7 n ny np L t D (Zdr L t.code (D.map fv) n (co0.map fv) g0) r∧Zn T 0 2 (.norm false [8,9,10,13,16]) l397_1 (Zha n ny np L ⟨t,D,co0,g0.f⟩ ((n:Int)-1) s0 p0)=some r:=by
 refine zaq (T:=T) (k:=0) (id:=2) (g2:=.norm false [8,9,10,13,16]) (c:=l397_1) (fun x:Nat×List Fz×Po×Int×Int=>Zha n ny np L ⟨t,D,x.2.1,x.2.2.1.f⟩ ((x.1:Int)-1) x.2.2.2.1 x.2.2.2.2)
  (fun x=>x.1≤n∧x.2.1.length=n∧Zhb x.2.1∧(∀u∈x.2.1,fsz u≤7000+(n-x.1)*1036)∧PvS x.2.2.1 (1+(n-x.1)*130)∧x.2.2.1.y.length=ny∧x.2.2.1.p.length=np∧Zdr L t.code (D.map fv) x.1 (x.2.1.map fv) x.2.2.1=Zdr L t.code (D.map fv) n (co0.map fv) g0) (fun x=>x.1)
  _ ?_ (n,co0,g0,s0,p0) ⟨Yh _,h1,h2,fun u hu=>by have:=h3 u hu;dsimp only;omega,by dsimp only;rw[Ybn,Ycf];exact h4,h5,h6,rfl⟩
 rintro⟨m,co,g,s,p⟩ ⟨hm,hcl,hnc,hsz,hgs,hgy,hgp,hR⟩
 dsimp only at *
 cases m with
 | zero=>
  right;have e:=z8y (T:=T) n ny np L ⟨t,D,co,g.f⟩ s p;rw[Zdr]at hR;have em:((0:Nat):Int)-1=-1:=rfl;rw[em];refine⟨_,.inr ?_,e⟩;rw[←hR];have hb:(n-0)*130≤20*130:=Yv _ (by omega);have hP:PvS g 3000:=⟨by have:=hgs.t;omega,fun q hq=>by have:=hgs.y q hq;omega,fun q hq=>by have:=hgs.p q hq;omega⟩;exact⟨rfl,hP,hgy,hgp,co,s,p,rfl⟩
 | succ k=>
  have hk:k<n:=by omega
  have em:((k+1:Nat):Int)-1=k:=by omega
  obtain⟨c,hc⟩:∃c,co[k]? = some c:=⟨_,Ya (by omega)⟩;obtain⟨r,hr⟩:∃r,D[k]? = some r:=⟨_,Ya (by omega)⟩;obtain⟨x,hx⟩:∃x,t.code[k]? = some x:=⟨_,Ya (by omega)⟩;have hmay:=ht.may k x hx;have b1:(n-(k+1))*1036≤19*1036:=Yv _ (by omega);have b2:(n-(k+1))*130≤19*130:=Yv _ (by omega);have zc:=hsz c (Ye hc);have ec:gI (co.map fv) k=fv c:=zuy rfl hc;have er:gI (D.map fv) k=fv r:=zuy rfl hr;rw[em];rw[Zdr,hx]at hR;dsimp only at hR;rw[ec,er]at hR;by_cases hf:L<Zb9 (fv c)
  ·right;rw[if_pos hf]at hR;have e:=z2r (T:=T) n ny np L ⟨t,D,co,g.f⟩ k s p c hc (by omega) (by unfold Zb9 at hf;omega) hcl (by omega);rw[e];refine⟨_,.inl ⟨k,?_,rfl⟩,rfl,z8x k⟩;rw[←hR]
  ·left;rw[if_neg hf]at hR;have zq:=zff (q:=fv c) (b:=L) (by omega);have zc9:=z2s hnc hc;have zr:=zD r (Ye hr);have th:=zyi (T:=T) n ny np ⟨t,D,co,g.f⟩ x k c r hx hmay hD hcl (by rw[←hgy];exact zai _) (by rw[←hgp];exact zai _) hy hp hc hr (by omega) zD (fun u hu=>by have:=hsz u hu;omega)
    (by show sz g.t≤_;have:=hgs.t;omega) (fun u hu=>by obtain⟨q,hq,rfl⟩:=Y2.1 hu;have:=hgs.y q hq;rw[zaw];omega) (fun u hu=>by obtain⟨q,hq,rfl⟩:=Y2.1 hu;have:=hgs.p q hq;rw[zaw];omega)
   dsimp only at th;rw[z80]at th;have e:=zyl (T:=T) n ny np L ⟨t,D,co,g.f⟩ ⟨t,D,Zf6 D x (fv r) (fv c) co,(Zfy x (fv c) g).f⟩ k s p c hc (by omega) (by unfold Zb9 at hf;omega) th hcl (by omega) rfl rfl;refine⟨(k,Zf6 D x (fv r) (fv c) co,Zfy x (fv c) g,Zba s,Zbg p (fz (fv c))),⟨by dsimp only;omega,by simpa using hcl,zym hnc _ _ _ _,fun u hu=>?_,?_,?_,?_,?_⟩,by dsimp only;omega,e⟩
   ·have h9:=z2p hmay zD (by omega) (za6 zr (by decide)) hsz (by omega) u hu;show fsz u≤7000+(n-k)*1036;rw[show n-k=n-(k+1)+1 by omega,Ye3];exact Yc h9 (by generalize (n-(k+1))*1036=z;omega)
   ·have:=z2u hgs (by omega) x (c:=fv c) (by omega);dsimp only;rw[show n-k=n-(k+1)+1 by omega,Ya9,←Yan];exact this
   ·exact(zhj _ _ _).1.trans hgy
   ·exact(zhj _ _ _).2.trans hgp
   ·dsimp only;rw[z8t];exact hR
end
theorem z81(n:Nat):wkL (List.replicate n [.b false,.sl [] .nl,.sl [] .nl])=Zd (List.replicate n blk):=by
 rw[zbq,Ycs];simp[Zd,wkR,wkA]
section
variable{T:Tbl}[Z7 T][Zs T][Zw T][Zx T][Zt T][Zv T][Zf T][Zl T][Zq T][Z0 T][Zab T][Zbz T][Z6 T][Zau T][Zax T][Za6 T][Zad T][Zaw T][Z8 T][Za4 T][Zei T][Z3 T]
theorem zhd(d p:Int)(ny np:Nat)(h1:Zar d=ny)(h2:Zar p=np):Zaa T 2395 [.i .i64 d,.i .i64 p] []=some (.agg [.b (fz 0).1,.sl (Za (fz 0).2.1) .an,.sl (Za (fz 0).2.2) .an,.bs (.fld (.loc 7) 9) 1 3 0 ny,.bs (.fld (.loc 9) 9) 2 3 0 np],
  [(.fld (.loc 7) 9,⟨1,.own,3,Zd (List.replicate ny (fz 0))⟩),(.fld (.loc 9) 9,⟨2,.own,3,Zd (List.replicate np (fz 0))⟩)]):=by
 have:=zk4 (T:=T) d p;rw[h1,h2]at this;exact this
theorem zu2(t:Tp)(x:PoF)(w:List Fz)(bits:Int)(h:w.length≠t.outs.length):Zb T 397 [etp t,ept x,.sl (Zd w) .an,.i .i64 bits]=some (.tup [ept (Zbc 0 0).f,Zcq 2 0 0 0]):=by
 have hz:=zhd (T:=T) 0 0 0 0 rfl rfl;have h':¬ (w.length:Int)=t.outs.length:=by omega
 have e:(Zbc 0 0).f=⟨fz 0,[],[]⟩:=rfl;rw[e];generalize fz 0=Z at *
 obtain⟨code,outs,dim,par⟩:=t;obtain⟨⟨x0,x1,x2⟩,xy,xp⟩:=x;dsimp only at *
 rw[zaa Z3.h397 rfl,b397];simp -implicitDefEqProofs[hz,h']
theorem zyn(t:Tp)(x:PoF)(w:List Fz)(bits:Int)(h:w.length=t.outs.length)(D:List Fz)(k a:Nat)(hk:k≠0)(hr:Zb T 384 [etp t,ept x,.i .i64 bits]=some (.tup [.sl (Zd D) .an,Zcq k 0 0 a])):Zb T 397 [etp t,ept x,.sl (Zd w) .an,.i .i64 bits]=some (.tup [ept (Zbc 0 0).f,Zcq k 0 0 a]):=by
 have hz:=zhd (T:=T) 0 0 0 0 rfl rfl;have h':(w.length:Int)=t.outs.length:=by omega
 have hk':¬ (k:Int)=0:=by omega
 have e:(Zbc 0 0).f=⟨fz 0,[],[]⟩:=rfl;rw[e];generalize fz 0=Z at *
 generalize (k:Int)=kk at *
 generalize (a:Int)=aa at *
 obtain⟨code,outs,dim,par⟩:=t;obtain⟨⟨x0,x1,x2⟩,xy,xp⟩:=x;dsimp only at *
 rw[zaa Z3.h397 rfl,b397];simp -implicitDefEqProofs[hz,h,hr,hk']
def Zkn(lim:Nat)(R:(List Rat×Po)×Option Nat):AV:=
 match R with
 | (_,some i)=>.tup [ept (Zbc 0 0).f,Zcq 6 0 2 i]
 | (s,none)=>match Zce lim (Zgq s.2) 0 with | some k=>.tup [ept (Zbc 0 0).f,Zcq 6 0 3 k] | none=>.tup [ept s.2.f,Zcq 0 0 0 0]
theorem zu3(t:Tp)(x:PoF)(w:List Fz)(bits:Int)(D:List Rat)(hok:OkTp t)(hn2:t.code.length≤20)(hlen:w.length=t.outs.length)(hw:∀u∈w,fsz u≤1000)(hD:D.length=t.code.length)(zD:∀q∈D,sz q≤129)
  (hr:Zb T 384 [etp t,ept x,.i .i64 bits]=some (.tup [.sl (Zd (fzs D)) .an,Zcq 0 0 0 0])) :
  Zb T 397 [etp t,ept x,.sl (Zd w) .an,.i .i64 bits]=some (Zkn (Ze bits) (Zdr (Ze bits) t.code D t.code.length (Zfa t.outs (w.map fv) (List.replicate t.code.length 0)) (Zbc t.dim.toNat t.par.toNat))):=by
 obtain⟨hl1,hl2⟩:=zqi bits;have hg:=zid (T:=T) bits;rw[hl1]at hg;have d1:=hok.d1;have d2:=hok.d2;have p1:=hok.p1;have p2:=hok.p2;have ol:=hok.ol;have hz:=zhd (T:=T) 0 0 0 0 rfl rfl;have hz2:=zhd (T:=T) t.dim t.par t.dim.toNat t.par.toNat (by unfold Zar;omega) (by unfold Zar;omega);have hM:∀dd clk,Zd4 (orc T) T 2395 [.i .i64 t.dim,.i .i64 t.par] dd clk=Zf5 (Zaa T 2395 [.i .i64 t.dim,.i .i64 t.par] []) dd clk:=fun dd clk=>zuq Z3.h2395 rfl;have hyd:((t.dim.toNat:Nat):Int)=t.dim:=by omega
 have hpd:((t.par.toNat:Nat):Int)=t.par:=by omega
 have hZ:=z81 t.code.length;have hFD:(fzs D).length=t.code.length:=by rw[zai,hD]
 have hcl:(t.code.length:Int)≤4294967296:=by omega
 have hw1:IntKind.wrap .i64 ((t.code.length:Int)-1)=(t.code.length:Int)-1:=zad _ (by omega);obtain⟨co,hco,hco1,hco2,hco3,hsd⟩:=z2v (T:=T) t.code.length t.dim.toNat t.par.toNat w bits ⟨t,fzs D,List.replicate t.code.length blk,(Zbc t.dim.toNat t.par.toNat).f⟩ (by simp) hok.outs hlen (by show t.outs.length≤6;omega) hw
  (fun u hu=>by rw[Ya5 hu];exact Yr _) (fun u hu=>.inl (Ya5 hu))
 have hnz:PvS (Zbc t.dim.toNat t.par.toNat) 1:=⟨Ycx zb9,fun q hq=>by rw[Ya5 hq];exact Ycx zb9,fun q hq=>by rw[Ya5 hq];exact Ycx zb9⟩;obtain⟨r,hr1,hbk⟩:=z2w (T:=T) t.code.length t.dim.toNat t.par.toNat (Ze bits) t (fzs D) co (Zbc t.dim.toNat t.par.toNat) hok rfl hn2 hl2 hFD hyd hpd
  (fun u hu=>by obtain⟨q,hq,rfl⟩:=Y2.1 hu;exact zD q hq) hco1 hco2 hco3 hnz (by simp[Zbc]) (by simp[Zbc]) 0 0
 have e1:(fzs D).map fv=D:=by simp[fzs,Function.comp_def]
 have e2:co.map fv=Zfa t.outs (w.map fv) (List.replicate t.code.length 0):=by
  rw[hco,zu0,Ycs,zuw]
 rw[e1,e2]at hr1;generalize Zdr (Ze bits) t.code D t.code.length (Zfa t.outs (w.map fv) (List.replicate t.code.length 0)) (Zbc t.dim.toNat t.par.toNat)=R at *
 have ez:(Zbc t.dim.toNat t.par.toNat).f=⟨fz 0,List.replicate t.dim.toNat (fz 0),List.replicate t.par.toNat (fz 0)⟩:=by simp[Zbc,Po.f,fzs]
 have ez0:(Zbc 0 0).f=⟨fz 0,[],[]⟩:=rfl;rw[ez]at hsd hbk;unfold Zid Zir at hsd;unfold Zha at hbk;simp only[bkX,Yb7,Yae]at hbk;simp only[Yo]at hsd;unfold Zkn;rw[ez0];have hne:(Zbc t.dim.toNat t.par.toNat).y.length=t.dim.toNat:=by simp[Zbc]
 clear hnz hok hw hD zD hco hco1 hco2 hco3 e1 e2 hl1 hl2 ez ez0 hne;generalize hny:t.dim.toNat=ny at *
 generalize hnp:t.par.toNat=np at *
 generalize hnn:t.code.length=n at *
 generalize fzs D=DD at *
 have hlen':(w.length:Int)=t.outs.length:=by omega
 rcases hr1 with ⟨i,hi,rfl⟩ | ⟨hi,hP,hy,hp,co',s',p',rfl⟩
 ·obtain⟨s,o⟩:=R;dsimp only at hi;subst hi;dsimp only;unfold Zfj at hbk;generalize (i:Int)=ii at *
  obtain⟨code,outs,dim,par⟩:=t;obtain⟨⟨x0,x1,x2⟩,xy,xp⟩:=x;dsimp only at *
  rw[zaa Z3.h397 rfl,b397];simp -implicitDefEqProofs[hz,hz2,hM,hlen,hlen',hr,hFD,hZ,hcl,hg,hw1,hsd,hbk]
 ·obtain⟨⟨cq,g⟩,o⟩:=R;dsimp only at hi hP hy hp hbk;subst hi;dsimp only;have ca:=zyj (T:=T) g.f (by
   intro h;have h9:(fzs g.y).length=0:=by rw[show fzs g.y=[] from h];rfl
   rw[zai]at h9;omega) (by show (fzs g.y).length≤1000;rw[zai];omega) (by show (fzs g.p).length≤1000;rw[zai];omega)
  obtain⟨s2,p2',cr⟩:=zuz (T:=T) (Zgq g) (Ze bits) (by unfold Zgq;simp;omega) (fun q hq=>by
   unfold Zgq at hq;rcases Y5.1 hq with rfl | hq
   ·have:=hP.t;omega
   ·rcases Yaq.1 hq with hq | hq
    ·have:=hP.y q hq;omega
    ·have:=hP.p q hq;omega) s' p'
  have ef:fzs (Zgq g)=g.f.t::(g.f.y++g.f.p):=by unfold Zgq Po.f fzs;simp
  rw[ef]at cr;generalize g.f.t::(g.f.y++g.f.p)=AL at *
  unfold Zjg at hbk;simp only[bkX,Yb7,Yae]at hbk;have hfy:g.f.y.length=ny:=by rw[←hy];exact zai _
  have hfp:g.f.p.length=np:=by rw[←hp];exact zai _
  clear hP hy hp ef;generalize g.f=gf at *
  generalize ((Zgq g).length:Int)=al at *
  have hty:List.take ny gf.y=gf.y:=Yb (by omega);have htp:List.take np gf.p=gf.p:=Yb (by omega);cases hf:Zce (Ze bits) (Zgq g) 0 with
  | some k=>
   rw[hf]at cr;dsimp only[Option.isNone]at cr ⊢;generalize (k:Int)=kk at *
   obtain⟨code,outs,dim,par⟩:=t;obtain⟨⟨x0,x1,x2⟩,xy,xp⟩:=x;obtain⟨⟨f0,f1,f2⟩,fy,fp⟩:=gf;dsimp only at *
   rw[zaa Z3.h397 rfl,b397];simp -implicitDefEqProofs[hz,hz2,hM,hlen,hlen',hr,hFD,hZ,hcl,hg,hw1,hsd,hbk,ca,cr,hfy,hfp,hty,htp]
  | none=>
   rw[hf]at cr;dsimp only[Option.isNone]at cr ⊢;obtain⟨code,outs,dim,par⟩:=t;obtain⟨⟨x0,x1,x2⟩,xy,xp⟩:=x;obtain⟨⟨f0,f1,f2⟩,fy,fp⟩:=gf;dsimp only at *
   rw[zaa Z3.h397 rfl,b397];simp -implicitDefEqProofs[hz,hz2,hM,hlen,hlen',hr,hFD,hZ,hcl,hg,hw1,hsd,hbk,ca,cr,hfy,hfp,hty,htp]
theorem zu4(t:Tp)(x:PoF)(w:List Fz)(bits:Int)(hs:TpS t)(hx:PoS x 1000)(hc:t.code.length≤20)(hw:∀u∈w,fsz u≤1000) :
  Zb T 397 [etp t,ept x,.sl (Zd w) .an,.i .i64 bits]=some (.tup [ept (Zc3 (Ze bits) t x.v (w.map fv)).1.f,Zcq (Zc3 (Ze bits) t x.v (w.map fv)).2.1 0 (Zc3 (Ze bits) t x.v (w.map fv)).2.2.1 (Zc3 (Ze bits) t x.v (w.map fv)).2.2.2]):=by
 have hr:=zzp (T:=T) t x bits hs hx;have hlim:=(zqi bits).2;unfold Zc3;rw[Yau];by_cases h1:w.length≠t.outs.length
 ·rw[if_pos h1];exact zu2 (T:=T) t x w bits h1
 ·rw[if_neg h1];have h1':w.length=t.outs.length:=by omega
  by_cases hk:(Zb7 (Ze bits) t x.v).2.1≠0
  ·rw[if_pos hk];exact zyn (T:=T) t x w bits h1' _ _ _ hk hr
  ·rw[if_neg hk];have hk':(Zb7 (Ze bits) t x.v).2.1=0:=by omega
   have hf:Zev t x.v.y.length x.v.p.length=true:=by
    cases hf:Zev t x.v.y.length x.v.p.length with
    | true=>rfl
    | false=>unfold Zb7 at hk';rw[hf]at hk';simp at hk'
   have e1:Zb7 (Ze bits) t x.v=Zbl (Ze bits) x.v t.code []:=by unfold Zb7;rw[if_pos hf]
   rw[e1]at hr hk' ⊢;obtain⟨e2,E,e3,e4⟩:=zlf _ _ _ _ hk';rw[hk',e2]at hr;have hg:=zu3 (T:=T) t x w bits _ (zc3 hf).1 hc h1' hw (by rw[e3];simpa using e4) (zwt hlim _ _ (by simp)) hr;rw[hg];generalize Zdr (Ze bits) t.code (Zbl (Ze bits) x.v t.code []).1 t.code.length (Zfa t.outs (w.map fv) (List.replicate t.code.length 0)) (Zbc t.dim.toNat t.par.toNat)=R;obtain⟨s,o⟩:=R;unfold Zkn;cases o with
   | some i=>rfl
   | none=>
    dsimp only;cases Zce (Ze bits) (Zgq s.2) 0 with
    | some k=>rfl
    | none=>rfl
end
@[simp] theorem z9n{f:Nat}{x:AV}{h:Heap}{clk:Nat}:Zke f x h clk=if noRef x=true then some (.fnv f x,h,clk) else none:=rfl
structure JcF where
 t:List Fz
 y:List (List Fz)
 p:List (List Fz)
abbrev Zij(j:JcF):AV:=.agg [.sl (Zd j.t) .an,.sl (Zu j.y) .an,.sl (Zu j.p) .an]
abbrev Zli(x:PoF):List AV:=[.b x.t.1,.sl (Za x.t.2.1) .an,.sl (Za x.t.2.2) .an,.sl (Zd x.y) .an,.sl (Zd x.p) .an]
def rowP(l:List PoF):List (List AV):=l.map Zli
@[simp] theorem z3y(l:List PoF):(rowP l).length=l.length:=by simp[rowP]
@[simp] theorem z3z(l:List PoF):wkL (rowP l)=rowP l:=by rw[zbq];simp[rowP,wkR,wkA]
@[simp] theorem zacz(l:List PoF)(i:Nat)(h:i<(rowP l).length):(rowP l)[i]=Zli (l[i]'(by simpa using h)):=by simp[rowP]
theorem zwu(l:List PoF)(x:PoF):rowP l++[Zli x]=rowP (l++[x]):=by simp[rowP]
@[simp] theorem z9o(l:List PoF)(n:Nat):(rowP l).take n=rowP (l.take n):=by simp[rowP]
@[simp] theorem zzq:rowP []=[]:=rfl
theorem zwv{m:List PoF}{n:Nat}(h:m.length=n)(x:PoF):wkL (rowP (List.take n m)++[Zli x])=rowP (m++[x]):=by
 rw[Yb (by omega),zwu,z3z]
abbrev epl(t:Tp)(x:PoF)(bits:Int):AV:=.agg [.sl (Zdf t.code) .an,.sl (ints t.outs) .an,.i .i64 t.dim,.i .i64 t.par,.b x.t.1,.sl (Za x.t.2.1) .an,.sl (Za x.t.2.2) .an,.sl (Zd x.y) .an,.sl (Zd x.p) .an,.i .i64 bits]
def Zat{α:Type}(F:Nat→α×Nat×Nat×Nat):Nat→Nat→List α→List α×Nat×Nat×Nat
 | 0,_,acc=>(acc,0,0,0)
 | n+1,i,acc=>if (F i).2.1=0 then Zat F n (i+1) (acc++[(F i).1]) else ([],(F i).2)
theorem zfg{α:Type}(F:Nat→α×Nat×Nat×Nat):∀(n i:Nat) (acc:List α),(Zat F n i acc).2.1=0→(Zat F n i acc).1=acc++(List.range n).map (fun k=>(F (i+k)).1)∧(Zat F n i acc).2.2=(0,0)∧∀k,k<n→(F (i+k)).2.1=0
 | 0,i,acc,_=>⟨by simp[Zat],rfl,fun k hk=>by omega⟩
 | n+1,i,acc,h=>by
  rw[Zat]at h ⊢;by_cases hk:(F i).2.1=0
  ·rw[if_pos hk]at h ⊢;obtain⟨h1,h2,h3⟩:=zfg F n (i+1) _ h;refine⟨?_,h2,fun k hkn=>?_⟩
   ·rw[h1,Yey,Y1,Yb2,Yax,Ydu];congr 2;refine Ycj fun k _=>?_;show (F (i+1+k)).1=(F (i+(k+1))).1;rw[show i+1+k=i+(k+1) by omega]
   ·cases k with
    | zero=>exact hk
    | succ k=>rw[show i+(k+1)=i+1+k by omega];exact h3 k (by omega)
  ·rw[if_neg hk]at h;exact absurd h hk
theorem zga{α:Type}(F:Nat→α×Nat×Nat×Nat):∀(n i:Nat) (acc:List α),¬ (Zat F n i acc).2.1=0→(Zat F n i acc).1=[]
 | 0,i,acc,h=>absurd rfl h
 | n+1,i,acc,h=>by
  rw[Zat]at h ⊢;by_cases hk:(F i).2.1=0
  ·rw[if_pos hk]at h ⊢;exact zga F n (i+1) _ h
  ·rw[if_neg hk]
def Zjv(T:Tbl)(X:AV)(n i:Nat)(acc:List PoF):St:=
 ⟨[(1,.fnv (Zo T 500416) X),(5,.ptr (.loc 5) 1 4 0 0),(6,.bs (.loc 6) 2 5 0 i),(10,.i .i64 n),(11,.i .i64 i)],[(.loc 5,bxF 1 0 0 0 0),(.loc 6,⟨2,.own,5,rowP acc⟩)],4⟩
def Zix(R:List PoF×Nat×Nat×Nat)(n:Nat):Ex×St:=
 if R.2.1=0 then (.n,⟨[(5,.ptr (.loc 5) 1 4 0 0),(6,.bs (.loc 6) 2 5 0 n)],[(.loc 5,bxF 1 0 0 0 0),(.loc 6,⟨2,.own,5,rowP R.1⟩)],4⟩)
 else (.r,⟨[(4,.sl [] .an),(5,.ptr (.loc 5) 1 4 0 0)],[(.loc 5,bxF 1 R.2.1 0 R.2.2.1 R.2.2.2)],3⟩)
section
variable{T:Tbl}[Z7 T][Zs T][Zw T][Zx T][Zt T][Zv T][Zf T][Zl T][Zq T][Z0 T][Zab T][Zbz T][Zad T][Z8 T][Zaw T][Za4 T][Zei T][Z6 T][Zau T][Zax T][Za6 T][Z3 T][Z1 T][Zc5 T][Zc6 T]
theorem zo3(t:Tp)(q:PoF)(bits:Int)(n:Nat)(hn:n≤1000)(F:Nat→PoF×Nat×Nat×Nat)(c:∀i:Nat,i<n→Zb T 416 [epl t q bits,.i .i64 i]=some (.tup [ept (F i).1,Zcq (F i).2.1 0 (F i).2.2.1 (F i).2.2.2]))
  (h0:∀i:Nat,i<n→(F i).2.1=0→(F i).2.2=(0,0)) :
  Zn T 0 0 (.norm false [5,6]) l415_0 (Zjv T (epl t q bits) n 0 [])=some (Zix (Zat F n 0 []) n):=by
 have key:=zaz (T:=T) (k:=0) (id:=0) (g2:=.norm false [5,6]) (c:=l415_0) (fun x:Nat×List PoF=>Zjv T (epl t q bits) n x.1 x.2)
  (fun x=>x.1≤n∧x.2.length=x.1) (fun x=>n-x.1)
  (fun x=>some (Zix (Zat F (n-x.1) x.1 x.2) n)) ?_ (0,[]) ⟨Yr _,rfl⟩
 ·exact key
 rintro⟨i,acc⟩ ⟨hi,hal⟩
 obtain⟨code,outs,dim,par⟩:=t;obtain⟨⟨q0,q1,q2⟩,qy,qp⟩:=q;dsimp only at *
 by_cases hlt:i<n
 ·have ci:=c i hlt;have hi':(i:Int)<n:=by omega
  have hws:=zbs hlt (by omega);have hb:i≤4294967295:=by omega
  have ht:List.take i acc=acc:=Yb (by omega);obtain⟨m,hm⟩:∃m,n-i=m+1:=⟨n-i-1,by omega⟩;rw[hm,Zat];by_cases hk:(F i).2.1=0
  ·left;have h00:=h0 i hlt hk;refine⟨(i+1,acc++[(F i).1]),⟨by omega,by simp[hal]⟩,by dsimp only;omega,?_,?_⟩
   ·rw[hk,h00]at ci;have hp:=zwv hal (F i).1;rw[ht]at hp;generalize (F i).1=G at *
    obtain⟨⟨g0,g1,g2⟩,gy,gp⟩:=G;unfold Zjv;simp -implicitDefEqProofs[l415_0,hi',hlt,hws,ci,hp,ht,hal,hb]
   ·rw[if_pos hk,show n-(i+1)=m by omega]
  ·right;have hk':¬ (((F i).2.1:Nat):Int)=0:=by omega
   rw[if_neg hk];unfold Zjv Zix;dsimp only;rw[if_neg hk];generalize (((F i).2.1:Nat):Int)=kk at *
   generalize (((F i).2.2.1:Nat):Int)=ss at *
   generalize (((F i).2.2.2:Nat):Int)=aa at *
   generalize (F i).1=G at *
   obtain⟨⟨g0,g1,g2⟩,gy,gp⟩:=G;constructor<;>simp -implicitDefEqProofs[l415_0,hi',hlt,ci,hk']
 ·right;have e:i=n:=by omega
  subst e;have ht:List.take i acc=acc:=Yb (by omega);rw[Ybn,Zat];unfold Zjv Zix;rw[if_pos rfl];constructor<;>simp -implicitDefEqProofs[l415_0]
end
abbrev tyK:Ty:=.cons (.sl tyF) (.cons (.sl (.sl tyF)) (.cons (.sl (.sl tyF)) .nil))
theorem zmp{cs:List AV}(h:Ok (.sl (.sl tyF)) cs):∃m:List (List Fz),wkR cs=[.sl (Zu m) .an]:=by
 obtain⟨els,f,rfl,_,_,he⟩:=h;obtain⟨m,hm⟩:=zmo els he;exact⟨m,by simp[wkR,wkA,hm]⟩
theorem zut{x:AV}(h:Zin (true,tyK) x):∃j:JcF,wkA x=Zij j:=by
 obtain⟨cs,rfl,c1,c1',rfl,h1,c2,c2',rfl,h2,c3,c3',rfl,h3,rfl⟩:=h;obtain⟨a,e1⟩:=zf0 h1;obtain⟨b,e2⟩:=zmp h2;obtain⟨c,e3⟩:=zmp h3;refine⟨⟨a,b,c⟩,?_⟩;rw[wkA];simp only[zjv,e1,e2,e3]
 rfl
end Go.Ab
section
namespace Go.Proofs.YtjhilbodpmnbmaaGreatDoor
open Go Go.Ab Go.ChangeShapes Go.WideShapes Go.ChangeAt Go.RowKit
theorem Tryz.own:ownKnob Tryz.prog.godebug=none:=by kernel_rfl
theorem Tryz.laidOut:laidOutB Tryz.prog=true:=by kernel_rfl
theorem Tryz.mixed:Tryz.prog.follows .mixedOrders=true:=by kernel_rfl
theorem Tryz.rowed:mapsRowed Tryz.prog=true:=by kernel_rfl
theorem Tryz.heard:Tryz.prog.stopsHeard=true:=by kernel_rfl
theorem Tryz.enters:Tryz.prog.mayEnter=true:=by kernel_rfl
theorem Tryz.keys:Tryz.prog.plainKeys=Rows.evalFieldsRow.plainKeys:=by kernel_rfl
theorem Tryz.lifts:Tryz.prog.liftsFinal=Rows.evalFieldsRow.lifted:=by kernel_rfl
theorem Tryz.makes:Tryz.prog.make=some Rows.evalFieldsRow.make:=by kernel_rfl
def laid2:List (String×DataW Unit):=[("unicode/utf8.acceptRanges",Rows.laid_unicode_utf8_acceptRanges),("unicode/utf8.first",Rows.laid_unicode_utf8_first)]
noncomputable def laidWorld(os:Os):World:=
 let put (h:Array Obj) (g:Nat) (cs:Array Value):Array Obj:=h.modify g fun
  | .cells _ t frozen=>.cells cs t frozen
  | o=>o
 let w0:=World.holding Tryz.prog os ⟨#[],#[],[]⟩
 let h1:=put w0.heap 1 (Lib.firstTab.map fun z=>Value.int .u8 z).toArray
 let h2:=put h1 2 ((List.range 16).flatMap fun i=>[Value.int .u8 (Lib.accLo i),Value.int .u8 (Lib.accHi i)]).toArray
 { w0 with heap:=h2 }
theorem laid_met(os:Os)(args:Array Value):laidMetH Tryz.prog laid2 ((laidWorld os).forCall (fun _ _=>0) ⟨#[],args,[]⟩).memory:=
 laidMetH_of_parts3 (fuel:=8) (laidMet_of_run' 8 (by kernel_rfl) (by kernel_rfl)) (by kernel_rfl) (by kernel_rfl)
theorem laid_shaped(os:Os):(laidWorld os).Shaped Tryz.prog:=World.shaped_of_RefB (by kernel_rfl) (by kernel_rfl)
theorem tab_all:TOk Tryz.prog nu (fun u=>lTab.lookup u):=lTab_ok (text_ok Tryz.mixed) (join_ok)
end Go.Proofs.YtjhilbodpmnbmaaGreatDoor
end
namespace Go.Ab
class Zlz (T:Tbl):Prop where
class Zmm (T:Tbl):Prop where
class Zmq (T:Tbl):Prop where
def prim344:List AV→Option AV
 | [.s s,.s [47,46]]=>if s.length≤1000000 then some (.i .i64 (Lib.indexAny s [47,46])) else none
 | _=>none
def prim194:List AV→Option AV
 | [.s s,.s [c]]=>some (.i .i64 (Lib.indexByte s c))
 | _=>none
def prim361:List AV→Option AV
 | [.s s,.s [c]]=>some (.i .i64 (Lib.countByte s c))
 | _=>none
def prim343:List AV→Option AV
 | [.s [48],.i .i64 n]=>if 0≤n∧n≤64 then some (.s (List.replicate n.toNat 48)) else none
 | _=>none
class Zl6 (T:Tbl):Prop where
class Zkl (T:Tbl):Prop where
def Zjb(c:UInt8):List UInt8→List (List UInt8)
 | []=>[[]]
 | b::l=>if b=c then []::Zjb c l else match Zjb c l with
  | []=>[[b]]
  | p::r=>(b::p)::r
section
variable{T:Tbl}[Zl6 T][Zkl T]
def Zop(c:UInt8)(N:Nat)(ps:List (List UInt8))(s:List UInt8):St:=
 ⟨[(0,.s s),(1,.s [c]),(2,.i .i64 0),(3,.i .i64 ((N:Int)-1)),(9,.bs (.loc 31) 1 1 0 N),(10,.i .i64 ps.length)],[(.loc 31,⟨1,.own,1,Zby ps++List.replicate (N-ps.length) [.s []]⟩)],3⟩
end
abbrev flt(k a:Int):AV:=.agg [.i .i64 k,.i .i64 0,.i .i64 0,.i .i64 a]
def Zl8(c:UInt8):Bool:=c == 47 || c == 46
def Zko:List UInt8→Nat
 | []=>0
 | c::r=>if Zl8 c then 0 else Zko r+1
def Zms(z:Int)(neg:Bool)(s:List UInt8)(c:UInt8)(at_:Nat):Rat×Int×Int:=
 let rest:=s.drop at_
 if 0≤Zjd rest then (0,1,Zjd rest+at_)
 else if c=47 then (if rd rest=0 then (0,2,at_) else (mkRat z (rd rest),0,0))
 else (mkRat (sg neg (z.natAbs*10^rest.length+rd rest)) (10^rest.length),0,0)
def Zlb(s:List UInt8):Rat×Int×Int:=
 let first:=s.take (Zko s)
 if 0≤Zk1 first then (0,1,Zk1 first+minus first)
 else if Zko s<s.length then Zms (Zlu first) (s.head? = some 45) s (s.getD (Zko s) 0) (Zko s+1)
 else (mkRat (Zlu first) 1,0,0)
def Zls:List (List UInt8)→Nat→List Rat→List Rat×Int×Int
 | [],_,acc=>(acc,0,0)
 | w::ws,k,acc=>if (Zlb w).2.1=0 then Zls ws (k+w.length+1) (acc++[(Zlb w).1]) else ([],(Zlb w).2.1,(Zlb w).2.2+k)
def Zn0(s:List UInt8):List Rat×Int×Int:=if s=[] then ([],0,0) else Zls (Zjb 44 s) 0 []
section
variable{T:Tbl}[Z7 T][Zs T][Zw T][Zx T][Zt T][Zv T][Z6 T][Zau T][Zf T][Zl T][Zq T][Zi7 T][Zl6 T][Zkl T][Zbz T][Zmq T][Zax T][Za6 T][Zlq T]
def Zn1(ws:List (List UInt8))(y:Nat×Nat×List Rat):St:=
 ⟨[(3,.ptr (.loc 3) 1 4 0 0),(4,.bs (.loc 4) 2 3 0 y.2.2.length),(5,.i .i64 y.2.1),(14,.sl (Zby ws) .an),(15,.i .i64 ws.length),(16,.i .i64 y.1)],
  [(.loc 3,⟨1,.str,4,[[.i .i64 0,.i .i64 0,.i .i64 0,.i .i64 0]]⟩),(.loc 4,⟨2,.own,3,Zd (fzs y.2.2)⟩)],4⟩
def Znd(r:List Rat×Int×Int):Option (Ex×St):=
 if r.2.1=0 then some (.n,⟨[(3,.ptr (.loc 3) 1 4 0 0),(4,.bs (.loc 4) 2 3 0 r.1.length)],[(.loc 3,⟨1,.str,4,[[.i .i64 0,.i .i64 0,.i .i64 0,.i .i64 0]]⟩),(.loc 4,⟨2,.own,3,Zd (fzs r.1)⟩)],4⟩)
 else some (.r,⟨[(2,.sl [] .an),(3,.ptr (.loc 3) 1 4 0 0)],[(.loc 3,⟨1,.str,4,[[.i .i64 r.2.1,.i .i64 0,.i .i64 0,.i .i64 r.2.2]]⟩)],3⟩)
end
end Go.Ab
section
namespace Go.Ab
end Go.Ab
end
namespace Go.Ab
def Znj(t:Tp)(many words:Nat):Bool:=((t.code.take many).any fun i=>decide (words<fsz i.n)) || decide (many<t.code.length) || decide (many<t.outs.length)
def Ze7(x:PoF)(many words:Nat):Bool:=decide (words<fsz x.t) || Zbp x.y many words || Zbp x.p many words
theorem zop{x:PoF}{many words:Nat}(h:Ze7 x many words=false)(hm:many≤1000):PoS x words:=by
 unfold Ze7 at h;simp only[Yc6,decide_eq_false_iff_not]at h;obtain⟨⟨h1,h2⟩,h3⟩:=h;obtain⟨a1,a2⟩:=zbt h2;obtain⟨b1,b2⟩:=zbt h3;exact⟨by omega,a2,b2,by omega,by omega⟩
section
variable{T:Tbl}[Zai T][Za5 T][Zak T][Zbf T][Zac T][Zbk T][Zae T][Zav T][Zb6 T][Zcz T][Zc7 T]
def Zn2(t:Tp)(many words i:Nat):St:=⟨[(1,.i .i64 many),(2,.i .i64 words),(3,.ptr (.loc 3) 1 4 0 0),(7,.i .i64 i)],[(.loc 3,bxT t)],3⟩
def Zn3(t:Tp)(many:Nat):Ex×St:=(.n,⟨[(1,.i .i64 many),(3,.ptr (.loc 3) 1 4 0 0)],[(.loc 3,bxT t)],3⟩)
theorem zrz(x:PoF)(many words:Nat)(hm:many≤1000):Zb T 380 [ept x,.i .i64 many,.i .i64 words]=some (.b (Ze7 x many words)):=by
 have c1:=zgs (T:=T) x.t words;have c2:=zc2 (T:=T) x.y many words hm;have c3:=zc2 (T:=T) x.p many words hm;unfold Ze7;generalize decide (words<fsz x.t)=B1 at *
 generalize Zbp x.y many words=B2 at *
 generalize Zbp x.p many words=B3 at *
 obtain⟨⟨n,a,d⟩,y,p⟩:=x;dsimp only at *
 rw[zaa Zc7.h380 rfl,b380];cases B1<;>cases B2<;>simp -implicitDefEqProofs[c1,c2,c3]
theorem zyt(x:PoF)(hy:x.y.length≤1000)(hp:x.p.length≤1000):Zb T 383 [ept x]=some (ept x):=by
 have c1:=zp8 (T:=T) x.t;have c2:=zf5 (T:=T) x.y (by omega);have c3:=zf5 (T:=T) x.p (by omega);obtain⟨⟨n,a,d⟩,y,p⟩:=x;dsimp only at *
 rw[zaa Zc7.h383 rfl,b383];simp -implicitDefEqProofs[c1,c2,c3]
@[simp] theorem zahu(l:List Int):Option.all (fun r=>decide (r.length=1)) (ints l).head? = true:=by cases l<;>rfl
def fC:BId:=.fld (.loc 3) 0
def Zn4(t:Tp)(i:Nat):St:=⟨[(1,.ptr (.loc 1) 1 4 0 0),(2,.ptr (.loc 2) 2 4 0 0),(3,.ptr (.loc 3) 3 4 0 0),(4,.i .i64 i)],
 [(.loc 1,bxT t),(.loc 2,⟨2,.str,4,[[.sl [] .an,.sl [] .an,.i .i64 0,.i .i64 0]]⟩),(.loc 3,⟨3,.str,4,[[.bs fC 4 6 0 i,.bs (.loc 13) 5 1 0 t.outs.length,.i .i64 t.dim,.i .i64 t.par]]⟩),(fC,⟨4,.own,6,Zdf (t.code.take i)⟩),(.loc 13,⟨5,.own,1,ints t.outs⟩)],7⟩
end
class Zmr (T:Tbl):Prop where
def Znk(t:Tp)(n:Nat):Tp:=⟨t.code.take n,List.replicate t.outs.length 0,t.dim,t.par⟩
def t62:Tp:=⟨[⟨3,0,0,(false,[],[])⟩,⟨2,0,0,(false,[],[])⟩,⟨10,0,1,(false,[],[])⟩],[2],1,0⟩
def p62:PoF:=⟨fz 2,[fz 6],[]⟩
def p60:PoF:=⟨(false,[],[]),[fz 6],[]⟩
section
variable{T:Tbl}[Z7 T][Zs T][Zw T][Zx T][Zt T][Zv T][Zf T][Zl T][Zq T][Z0 T][Zab T][Zbz T][Zad T][Z8 T][Zaw T][Za4 T][Zei T][Z6 T][Zau T][Zax T][Za6 T]
variable[Zai T][Za5 T][Zak T][Zbf T][Zac T][Zbk T][Zae T][Zav T][Zb6 T][Zcz T][Zc7 T][Zfs T]
abbrev Zn5(x y:PoF)(bits:Int):AV:=.agg [.b x.t.1,.sl (Za x.t.2.1) .an,.sl (Za x.t.2.2) .an,.sl (Zd x.y) .an,.sl (Zd x.p) .an,.b y.t.1,.sl (Za y.t.2.1) .an,.sl (Za y.t.2.2) .an,.sl (Zd y.y) .an,.sl (Zd y.p) .an,.i .i64 bits]
def Znl(x y:PoF)(bits:Int):Bool:=Ze7 x 6 2 || Ze7 y 6 2 || decide (500<bits)
end
section
variable{T:Tbl}[Z7 T][Zs T][Zw T][Zx T][Zt T][Zv T][Zf T][Zl T][Zq T][Z0 T][Zab T][Zbz T][Zad T][Z8 T][Zaw T][Za4 T][Zei T][Z6 T][Zau T][Zax T][Za6 T][Z3 T]
variable[Zai T][Za5 T][Zak T][Zbf T][Zac T][Zbk T][Zae T][Zav T][Zb6 T][Zcz T][Zc7 T][Zlz T]
def Zn6(a b:PoF):PoF:=⟨fz (fv a.t+fv b.t),fzs (Zju (a.y.map fv) b.y),fzs (Zju (a.p.map fv) b.p)⟩
def t28:Tp:=⟨[⟨3,0,0,(false,[],[])⟩,⟨4,0,0,(false,[],[])⟩,⟨9,0,1,(false,[],[])⟩],[2],1,1⟩
def p28:PoF:=⟨(false,[],[]),[fz 3],[fz 5]⟩
end
theorem zii{lim:Nat}:∀{l:List Rat} {k:Nat},Zce lim l k=none→∀q∈l,Zb9 q≤lim
 | [],_,_=>fun q hq=>by cases hq
 | a::l,k,h=>by
  unfold Zce at h;by_cases ha:lim<Zb9 a
  ·rw[if_pos ha]at h;cases h
  ·rw[if_neg ha]at h;intro q hq;rcases Y5.1 hq with rfl | hq
   ·omega
   ·exact zii h q hq
theorem zmu(code:List Ins)(D:List Rat):∀(n:Nat) (co:List Rat) (g:Po),(Zh4 code D n co g).2.y.length=g.y.length∧(Zh4 code D n co g).2.p.length=g.p.length
 | 0,co,g=>⟨rfl,rfl⟩
 | n+1,co,g=>by
  unfold Zh4;cases hx:code[n]? with
  | none=>exact⟨rfl,rfl⟩
  | some x=>
   dsimp only;obtain⟨h1,h2⟩:=zmu code D n (Zje D x (gI D n) (gI co n) co) (Zfy x (gI co n) g);exact⟨h1.trans (zhj _ _ _).1,h2.trans (zhj _ _ _).2⟩
theorem zyu{lim:Nat}{t:Tp}{P:Po}{w:List Rat}(hw:(Zc3 lim t P w).2.1=0):(Zc3 lim t P w).2.2=(0,0)∧(Zc3 lim t P w).1.y.length=t.dim.toNat∧(Zc3 lim t P w).1.p.length=t.par.toNat∧∀q∈Zgq (Zc3 lim t P w).1,Zb9 q≤lim:=by
 unfold Zc3 at hw ⊢;by_cases h1:w.length≠t.outs.length
 ·rw[if_pos h1]at hw;cases hw
 ·rw[if_neg h1]at hw ⊢;by_cases h2:(Zb7 lim t P).2.1≠0
  ·rw[if_pos h2]at hw;exact absurd hw h2
  ·rw[if_neg h2]at hw ⊢;have hb:=zxd lim t.code (Zb7 lim t P).1 t.code.length (Zfa t.outs w (List.replicate t.code.length 0)) (Zbc t.dim.toNat t.par.toNat);obtain⟨l1,l2⟩:=zmu t.code (Zb7 lim t P).1 t.code.length (Zfa t.outs w (List.replicate t.code.length 0)) (Zbc t.dim.toNat t.par.toNat);generalize Zdr lim t.code (Zb7 lim t P).1 t.code.length (Zfa t.outs w (List.replicate t.code.length 0)) (Zbc t.dim.toNat t.par.toNat)=R at *
   obtain⟨s,o⟩:=R;cases o with
   | some i=>cases hw
   | none=>
    dsimp only at hw hb ⊢;rw[←hb rfl]at l1 l2;cases hf:Zce lim (Zgq s.2) 0 with
    | some k=>rw[hf]at hw;cases hw
    | none=>
     refine⟨rfl,?_,?_,zii hf⟩
     ·rw[l1];simp[Zbc]
     ·rw[l2];simp[Zbc]
theorem zww{n i:Int}{q:Rat}(h:q∈Zcl n i):q=0∨q=1:=by
 unfold Zcl at h;split at h
 ·rcases Ycb h with h | h
  ·exact .inl (Ya5 h)
  ·exact .inr h
 ·exact .inl (Ya5 h)
theorem zqj{n i:Int}{q:Rat}(h:q∈Zcl n i):sz q≤1:=by
 rcases zww h with rfl | rfl
 ·exact Ycx zb9
 ·exact z84 (by decide) (by decide)
def Zek(lim:Nat)(t:Tp)(P:Po)(i:Nat):PoF×Nat×Nat×Nat:=((Zc3 lim t P (Zcl t.outs.length i)).1.f,(Zc3 lim t P (Zcl t.outs.length i)).2)
theorem zgv{m:List (List Fz)}{n:Nat}(h:m.length=n)(x:List Fz):wkL (Zu (List.take n m)++[[.sl (Zd x) .an]])=Zu (m++[x]):=by
 rw[Yb (by omega),znr];simp
def Zik(L:List PoF):JcF:=⟨L.map PoF.t,L.map PoF.y,L.map PoF.p⟩
abbrev fJ(k:Nat):BId:=.fld (.loc 10) k
abbrev bxJ(g:Nat):Box:=⟨g,.str,3,[[.sl [] .an,.sl [] .an,.sl [] .an]]⟩
def Zja(L:List PoF)(i:Nat):St:=
 ⟨[(6,.ptr (.loc 6) 1 3 0 0),(7,.ptr (.loc 7) 2 4 0 0),(9,.ptr (.loc 9) 3 4 0 0),(10,.ptr (.loc 10) 4 3 0 0),(31,.sl (rowP L) .an),(32,.i .i64 L.length),(33,.i .i64 i)],
  [(.loc 6,bxJ 1),(.loc 7,bxF 2 0 0 0 0),(.loc 9,bxF 3 0 0 0 0),(.loc 10,⟨4,.str,3,[[.bs (fJ 0) 5 3 0 i,.bs (fJ 1) 6 1 0 i,.bs (fJ 2) 7 1 0 i]]⟩),
   (fJ 0,⟨5,.own,3,Zd ((L.take i).map PoF.t)⟩),(fJ 1,⟨6,.own,1,Zu ((L.take i).map PoF.y)⟩),(fJ 2,⟨7,.own,1,Zu ((L.take i).map PoF.p)⟩)],9⟩
section
variable{T:Tbl}[Z7 T][Zs T][Zw T][Zx T][Zt T][Zv T][Zf T][Zl T][Zq T][Z0 T][Zab T][Zbz T][Zad T][Z8 T][Zaw T][Za4 T][Zei T][Z6 T][Zau T][Zax T][Za6 T][Z3 T][Z1 T][Zc5 T][Zc6 T]
theorem zwx(t:Tp)(x:PoF)(bits:Int)(i:Nat)(hs:TpS t)(hx:PoS x 1000)(hl:t.code.length≤20) :
  Zb T 416 [epl t x bits,.i .i64 i]=some (.tup [ept (Zek (Ze bits) t x.v i).1,Zcq (Zek (Ze bits) t x.v i).2.1 0 (Zek (Ze bits) t x.v i).2.2.1 (Zek (Ze bits) t x.v i).2.2.2]):=by
 have u:=zel (T:=T) t.outs.length i;have b:=zu4 (T:=T) t x (fzs (Zcl t.outs.length i)) bits hs hx hl (fun v hv=>by
  obtain⟨q,hq,rfl⟩:=Y2.1 hv;rw[zaw];exact Yc (zqj hq) (by decide))
 rw[znd]at b;unfold Zek;dsimp only;generalize (((Zc3 (Ze bits) t x.v (Zcl t.outs.length i)).2.1:Nat):Int)=kk at *
 generalize (((Zc3 (Ze bits) t x.v (Zcl t.outs.length i)).2.2.1:Nat):Int)=ss at *
 generalize (((Zc3 (Ze bits) t x.v (Zcl t.outs.length i)).2.2.2:Nat):Int)=aa at *
 generalize (Zc3 (Ze bits) t x.v (Zcl t.outs.length i)).1.f=G at *
 generalize fzs (Zcl t.outs.length i)=U at *
 obtain⟨code,outs,dim,par⟩:=t;obtain⟨⟨x0,x1,x2⟩,xy,xp⟩:=x;obtain⟨⟨g0,g1,g2⟩,gy,gp⟩:=G;dsimp only at *
 rw[zaa Z1.h416 rfl,b416];simp -implicitDefEqProofs[u,b]
theorem zsl(t:Tp)(x:PoF)(bits:Int)(n:Nat)(hn:n≤1000)(hs:TpS t)(hx:PoS x 1000)(hl:t.code.length≤20) :
  Zb T 415 [.i .i64 n,.fnv (Zo T 500416) (epl t x bits)]=some (.tup [.sl (rowP (Zat (Zek (Ze bits) t x.v) n 0 []).1) .an,
   Zcq (Zat (Zek (Ze bits) t x.v) n 0 []).2.1 0 (Zat (Zek (Ze bits) t x.v) n 0 []).2.2.1 (Zat (Zek (Ze bits) t x.v) n 0 []).2.2.2]):=by
 have h:=zo3 (T:=T) t x bits n hn (Zek (Ze bits) t x.v) (fun i _=>zwx t x bits i hs hx hl) (fun i _ hk=>(zyu hk).1);unfold Zjv Zix at h;simp only[Yo,zzq]at h;by_cases hk:(Zat (Zek (Ze bits) t x.v) n 0 []).2.1=0
 ·obtain⟨e1,e2,_⟩:=zfg _ _ _ _ hk;rw[if_pos hk]at h;have hl2:(Zat (Zek (Ze bits) t x.v) n 0 []).1.length=n:=by rw[e1];simp
  rw[hk,e2];clear e1 e2 hk hs hx;generalize (Zat (Zek (Ze bits) t x.v) n 0 []).1=L at *
  have ht:List.take n L=L:=Yb (by omega);obtain⟨code,outs,dim,par⟩:=t;obtain⟨⟨x0,x1,x2⟩,xy,xp⟩:=x;rw[zaa Z1.h415 rfl,b415];simp -implicitDefEqProofs[h,hl2,ht]
 ·rw[if_neg hk]at h;rw[zga _ _ _ _ hk];generalize (((Zat (Zek (Ze bits) t x.v) n 0 []).2.1:Nat):Int)=kk at *
  generalize (((Zat (Zek (Ze bits) t x.v) n 0 []).2.2.1:Nat):Int)=ss at *
  generalize (((Zat (Zek (Ze bits) t x.v) n 0 []).2.2.2:Nat):Int)=aa at *
  obtain⟨code,outs,dim,par⟩:=t;obtain⟨⟨x0,x1,x2⟩,xy,xp⟩:=x;rw[zaa Z1.h415 rfl,b415];simp -implicitDefEqProofs[h]
theorem zwy(L:List PoF)(hn:L.length≤1000):Zn T 0 0 (.norm false [6,7,9,10]) l403_0 (Zja L 0) =
  some (.n,⟨[(6,.ptr (.loc 6) 1 3 0 0),(7,.ptr (.loc 7) 2 4 0 0),(9,.ptr (.loc 9) 3 4 0 0),(10,.ptr (.loc 10) 4 3 0 0)],
   [(.loc 6,bxJ 1),(.loc 7,bxF 2 0 0 0 0),(.loc 9,bxF 3 0 0 0 0),(.loc 10,⟨4,.str,3,[[.bs (fJ 0) 5 3 0 L.length,.bs (fJ 1) 6 1 0 L.length,.bs (fJ 2) 7 1 0 L.length]]⟩),
   (fJ 0,⟨5,.own,3,Zd (Zik L).t⟩),(fJ 1,⟨6,.own,1,Zu (Zik L).y⟩),(fJ 2,⟨7,.own,1,Zu (Zik L).p⟩)],9⟩):=by
 refine za0 (Zja L) L.length _ (fun i hi=>?_) ?_
 ·have hg:L[i]? = some (L[i]'hi):=Ya hi;have hge:=(Yd.1 hg).2;have hws:=zbs hi (by omega);have hi':(i:Int)<L.length:=by omega
  have hb:i≤4294967295:=by omega
  have e1:=zbj L PoF.t hi;have e2:=zbj L PoF.y hi;have e3:=zbj L PoF.p hi;have m1:((L.take i).map PoF.t).length=i:=by simp;omega
  have m2:((L.take i).map PoF.y).length=i:=by simp;omega
  have m3:((L.take i).map PoF.p).length=i:=by simp;omega
  have p1:=zcj m1 (L[i]'hi).t;have p2:=zgv m2 (L[i]'hi).y;have p3:=zgv m3 (L[i]'hi).p;show evX (orc T) T 0 l403_0 (Zja L i)=some (.n,Zja L (i+1));unfold Zja;rw[e1,e2,e3];clear e1 e2 e3;generalize (L.take i).map PoF.t=M1 at *
  generalize (L.take i).map PoF.y=M2 at *
  generalize (L.take i).map PoF.p=M3 at *
  have t1:List.take i M1=M1:=Yb (by omega);have t2:List.take i M2=M2:=Yb (by omega);have t3:List.take i M3=M3:=Yb (by omega);rw[t1]at p1;rw[t2]at p2;rw[t3]at p3;generalize L[i]'hi=G at *
  obtain⟨⟨g0,g1,g2⟩,gy,gp⟩:=G;dsimp only at *
  simp -implicitDefEqProofs[l403_0,hi,hi',hg,hge,hws,hb,m1,m2,m3,p1,p2,p3,t1,t2,t3]
 ·unfold Zja Zik;rw[Yb (Yh _)];generalize L.map PoF.t=M1 at *
  generalize L.map PoF.y=M2 at *
  generalize L.map PoF.p=M3 at *
  constructor<;>simp -implicitDefEqProofs[l403_0]
end
def Zh(B:Po)(V S:List Rat)(x:Ins)(v:Rat):Rat:=
 if x.op=1 then 0
 else if x.op=3 then gI B.y x.a
 else if x.op=4 then gI B.p x.a
 else if x.op=6 then -gI S x.a
 else if x.op=7 then gI S x.a+gI S x.b
 else if x.op=8 then gI S x.a-gI S x.b
 else if x.op=9 then gI S x.a*gI V x.b+gI V x.a*gI S x.b
 else if x.op=10 then (gI S x.a-v*gI S x.b)/gI V x.b
 else if x.op=11 then x.b*Zdj V x v*gI S x.a
 else B.t
def Zci(lim:Nat)(P B:Po):List Ins→List Rat→List Rat→List Rat×List Rat×Nat×Nat×Nat
 | [],V,S=>(V,S,0,0,0)
 | i::r,V,S=>
  if (Zg P V i).2=false then ([],[],3,0,V.length)
  else if lim<Zb9 (Zg P V i).1 then ([],[],6,0,V.length)
  else if lim<Zb9 (Zh B V S i (Zg P V i).1) then ([],[],6,1,V.length)
  else Zci lim P B r (V++[(Zg P V i).1]) (S++[Zh B V S i (Zg P V i).1])
theorem zen(lim:Nat)(P B:Po)(i:Ins)(r:List Ins)(V S:List Rat):Zci lim P B (i::r) V S =
  if (Zg P V i).2=false then ([],[],3,0,V.length)
  else if lim<Zb9 (Zg P V i).1 then ([],[],6,0,V.length)
  else if lim<Zb9 (Zh B V S i (Zg P V i).1) then ([],[],6,1,V.length)
  else Zci lim P B r (V++[(Zg P V i).1]) (S++[Zh B V S i (Zg P V i).1]):=rfl
def Zlk(B:Po)(V:List Rat):List Ins→List Rat→List Rat
 | [],S=>S
 | i::r,S=>Zlk B V r (S++[Zh B V S i (gI V S.length)])
theorem zqw{A C:List Rat}{i:Int}(h0:0≤i)(h:i<A.length):gI (A++C) i=gI A i:=by
 unfold gI;rw[Yp,Yp,Ym (by omega)]
theorem z1a{dim par:Int}{p:Nat}{x:Ins}(hm:Zcj dim par p x=true){A C:List Rat}(hA:A.length=p) :
  ((x.op=6∨x.op=11∨(7≤x.op∧x.op≤10))→gI (A++C) x.a=gI A x.a)∧((7≤x.op∧x.op≤10)→gI (A++C) x.b=gI A x.b):=
 ⟨fun h=>by have:=zfm hm h;exact zqw this.1 (by omega),fun h=>by have:=zi5 hm h;exact zqw this.1 (by omega)⟩
theorem zs1{dim par:Int}{p:Nat}{x:Ins}(hm:Zcj dim par p x=true)(B:Po){A C S E:List Rat}(hA:A.length=p)(hS:S.length=p)(v:Rat):Zh B (A++C) (S++E) x v=Zh B A S x v:=by
 obtain⟨ga,gb⟩:=z1a hm hA (C:=C);obtain⟨sa,sb⟩:=z1a hm hS (C:=E);rcases zkg hm with h | h | h | h | h | h | h | h | h | h
 ·simp[Zh,h]
 ·simp[Zh,h]
 ·simp[Zh,h]
 ·simp[Zh,h]
 ·simp[Zh,h,sa (by omega)]
 ·simp[Zh,h,sa (by omega),sb (by omega)]
 ·simp[Zh,h,sa (by omega),sb (by omega)]
 ·simp[Zh,h,ga (by omega),gb (by omega),sa (by omega),sb (by omega)]
 ·simp[Zh,h,gb (by omega),sa (by omega),sb (by omega)]
 ·simp[Zh,h,Zdj,ga (by omega),sa (by omega)]
theorem zxj(A:List Rat)(x:Rat):gI (A++[x]) (A.length:Nat)=x:=by
 unfold gI;rw[Yp,Yag,Yg (Yh _),Ybn]
 rfl
theorem zpb(lim:Nat)(P B:Po)(dim par:Int):∀(l:List Ins) (V S:List Rat),V.length=S.length→(∀(k:Nat) (x:Ins),l[k]? = some x→Zcj dim par (V.length+k:Nat) x=true)→(Zci lim P B l V S).2.2.1=0 →
  ∃V' S',Zci lim P B l V S=(V++V',S++S',0,0,0)∧V'.length=l.length∧S'.length=l.length∧Zbl lim P l V=(V++V',0,0)∧(∀q∈S',Zb9 q≤lim) ∧
   ∀(k:Nat) (x:Ins),l[k]? = some x→gI (S++S') (V.length+k:Nat)=Zh B (V++V') (S++S') x (gI (V++V') (V.length+k:Nat))
 | [],V,S,_,_,_=>⟨[],[],by simp[Zci],rfl,rfl,by simp[Zbl],by simp,fun k x hx=>by simp at hx⟩
 | i::r,V,S,hl,hm,h=>by
  rw[zen]at h;by_cases h1:(Zg P V i).2=false
  ·rw[if_pos h1]at h;cases h
  rw[if_neg h1]at h;by_cases h2:lim<Zb9 (Zg P V i).1
  ·rw[if_pos h2]at h;cases h
  rw[if_neg h2]at h;by_cases h3:lim<Zb9 (Zh B V S i (Zg P V i).1)
  ·rw[if_pos h3]at h;cases h
  rw[if_neg h3]at h;obtain⟨V',S',e1,e2,e3,e4,e5,e6⟩:=zpb lim P B dim par r (V++[(Zg P V i).1]) (S++[Zh B V S i (Zg P V i).1]) (by simp[hl]) (fun k x hx=>by
   have:=hm (k+1) x (by simpa using hx);rw[Ya6,Yy,Ybo]
   rwa [show V.length+(0+1)+k=V.length+(k+1) by omega]) h
  have hm0:=hm 0 i rfl;rw[Yt]at hm0;refine⟨(Zg P V i).1::V',Zh B V S i (Zg P V i).1::S',?_,by simp[e2],by simp[e3],?_,?_,?_⟩
  ·rw[zen,if_neg h1,if_neg h2,if_neg h3,e1];simp
  ·rw[zc5,if_neg h1,if_neg h2,e4];simp
  ·intro q hq;rcases Y5.1 hq with rfl | hq
   ·omega
   ·exact e5 q hq
  ·intro k x hx;have a1:V++(Zg P V i).1::V'=(V++[(Zg P V i).1])++V':=by simp
   have a2:S++Zh B V S i (Zg P V i).1::S'=(S++[Zh B V S i (Zg P V i).1])++S':=by simp
   cases k with
   | zero=>
    have hx':i=x:=by simpa using hx
    subst hx';rw[zs1 hm0 B rfl hl.symm,Yt,a1,a2];generalize Zh B V S i=sl;have g2:gI (V++[(Zg P V i).1]++V') (V.length:Nat)=(Zg P V i).1:=by rw[zqw (by omega) (by simp;omega),zxj]
    have g1:∀z,gI (S++[z]++S') (V.length:Nat)=z:=fun z=>by rw[hl,zqw (by omega) (by simp;omega),zxj]
    rw[g2,g1]
   | succ k=>
    have:=e6 k x (by simpa using hx);rw[Ya6,Yy,Ybo,show V.length+(0+1)+k=V.length+(k+1) by omega]at this;rw[a1,a2];exact this
def sumT(S:List Rat):Nat→List Rat→Rat
 | 0,_=>0
 | n+1,co=>sumT S n co+gI co n*gI S n
def dotW:List Rat→List Rat→Rat
 | a::l,b::m=>a*b+dotW l m
 | _,_=>0
def meet(g B:Po):Rat:=g.t*B.t+(dotW g.y B.y+dotW g.p B.p)
structure Comb (c:Rat) (a b B:Po):Prop where
 t:B.t=c*a.t+b.t
 y:∀i,gI B.y i=c*gI a.y i+gI b.y i
 p:∀i,gI B.p i=c*gI a.p i+gI b.p i
def Z4(lim:Nat)(t:Tp)(P B:Po):List Rat×List Rat×Nat×Nat×Nat:=
 if P.y.length=B.y.length∧P.p.length=B.p.length∧Zev t P.y.length P.p.length=true then Zci lim P B t.code [] [] else ([],[],2,0,0)
theorem zz7{lim:Nat}{t:Tp}{P B:Po}(h:(Z4 lim t P B).2.2.1=0):OkTp t∧(P.y.length:Int)=t.dim∧(P.p.length:Int)=t.par∧B.y.length=P.y.length∧B.p.length=P.p.length ∧
  (Z4 lim t P B).2.2=(0,0,0)∧Zb7 lim t P=((Z4 lim t P B).1,0,0)∧(Z4 lim t P B).1.length=t.code.length∧(Z4 lim t P B).2.1.length=t.code.length∧(∀q∈(Z4 lim t P B).2.1,Zb9 q≤lim) ∧
  ∀(k:Nat) (x:Ins),t.code[k]? = some x→gI (Z4 lim t P B).2.1 (k:Nat)=Zh B (Z4 lim t P B).1 (Z4 lim t P B).2.1 x (gI (Z4 lim t P B).1 (k:Nat)):=by
 unfold Z4 at h ⊢;by_cases hc:P.y.length=B.y.length∧P.p.length=B.p.length∧Zev t P.y.length P.p.length=true
 ·rw[if_pos hc]at h ⊢;obtain⟨hok,hd,hp⟩:=zc3 hc.2.2;obtain⟨V',S',e1,e2,e3,e4,e5,e6⟩:=zpb lim P B t.dim t.par t.code [] [] rfl (fun k x hx=>by
   have:=hok.may k x hx
   rwa [Ybo,Yaj]) h
  rw[Yae,Yae]at e1;rw[Yae]at e4;have e7:Zb7 lim t P=(V',0,0):=by unfold Zb7;rw[if_pos hc.2.2,e4]
  rw[e1];refine⟨hok,hd,hp,hc.1.symm,hc.2.1.symm,rfl,e7,e2,e3,e5,fun k x hx=>?_⟩;have:=e6 k x hx;rw[Yae,Yae,Ybo,Yaj]at this;exact this
 ·rw[if_neg hc]at h;cases h
abbrev Du:=Fz×Fz
abbrev Zj2(x:Du):List AV:=[.b x.1.1,.sl (Za x.1.2.1) .an,.sl (Za x.1.2.2) .an,.b x.2.1,.sl (Za x.2.2.1) .an,.sl (Za x.2.2.2) .an]
abbrev edu(x:Du):AV:=.agg (Zj2 x)
def Zb0(l:List Du):List (List AV):=l.map Zj2
@[simp] theorem z4b(l:List Du):(Zb0 l).length=l.length:=by simp[Zb0]
@[simp] theorem zxe(l:List Du):wkL (Zb0 l)=Zb0 l:=by rw[zbq];simp[Zb0,wkR,wkA]
@[simp] theorem zac2(l:List Du)(i:Nat)(h:i<(Zb0 l).length):(Zb0 l)[i]=Zj2 (l[i]'(by simpa using h)):=by simp[Zb0]
theorem znp(l:List Du)(x:Du):Zb0 l++[Zj2 x]=Zb0 (l++[x]):=by simp[Zb0]
@[simp] theorem z9t(l:List Du)(n:Nat):(Zb0 l).take n=Zb0 (l.take n):=by simp[Zb0]
@[simp] theorem zle:Zb0 []=[]:=rfl
theorem zxf{m:List Du}{n:Nat}(h:m.length=n)(x:Du):wkL (Zb0 (List.take n m)++[Zj2 x])=Zb0 (m++[x]):=by
 rw[Yb (by omega),znp,zxe]
def Z2:List Rat→List Rat→List Du
 | v::V,s::S=>(fz v,fz s)::Z2 V S
 | _,_=>[]
theorem za1:∀{V S:List Rat},V.length=S.length→(Z2 V S).length=V.length
 | [],[],_=>rfl
 | [],_::_,h=>by simp at h
 | _::_,[],h=>by simp at h
 | _::_,_::_,h=>by simp[Z2,za1 (Nat.succ.inj h)]
theorem zqr:∀{V S:List Rat} {k:Nat},V.length=S.length→k<V.length→(Z2 V S)[k]? = some (fz (gI V (k:Nat)),fz (gI S (k:Nat)))
 | [],_,_,_,h=>by simp at h
 | _::_,[],_,h,_=>by simp at h
 | _::_,_::_,0,_,_=>rfl
 | _::V,_::S,k+1,hl,h=>by
  have:=zqr (V:=V) (S:=S) (k:=k) (Nat.succ.inj hl) (by simpa using h);simpa[Z2,gI]using this
theorem znq:∀{V S:List Rat} (v s:Rat),V.length=S.length→Z2 (V++[v]) (S++[s])=Z2 V S++[(fz v,fz s)]
 | [],[],_,_,_=>rfl
 | [],_::_,_,_,h=>by simp at h
 | _::_,[],_,_,h=>by simp at h
 | _::_,_::_,v,s,h=>by simp[Z2,znq v s (Nat.succ.inj h)]
structure PoD where
 t:Du
 y:List Du
 p:List Du
def dua(P B:Po):PoD:=⟨(fz P.t,fz B.t),Z2 P.y B.y,Z2 P.p B.p⟩
abbrev epd(x:PoD):AV:=.agg [.b x.t.1.1,.sl (Za x.t.1.2.1) .an,.sl (Za x.t.1.2.2) .an,.b x.t.2.1,.sl (Za x.t.2.2.1) .an,.sl (Za x.t.2.2.2) .an,.sl (Zb0 x.y) .an,.sl (Zb0 x.p) .an]
theorem ziy{V S:List Rat}{a:Int}(h:0≤a∧a<V.length)(hl:V.length=S.length):∃k:Nat,a=k∧(k:Int)<V.length∧k<V.length∧(Z2 V S)[k]? = some (fz (gI V a),fz (gI S a)):=by
 obtain⟨k,rfl⟩:∃k:Nat,a=k:=⟨a.toNat,by omega⟩;exact⟨k,rfl,h.2,by omega,zqr hl (by omega)⟩
theorem zxg{B:Po}{V S:List Rat}{x:Ins}{dim par:Int}{p:Nat}(hm:Zcj dim par p x=true)(hB:PvS B 1000)(hV:∀q∈V,sz q≤129)(hS:∀q∈S,sz q≤129)(v:Rat)(hv:x.op=10∨x.op=11→sz v≤1100):sz (Zh B V S x v)≤2000:=by
 have ga:=zc6 (D:=V) (a:=x.a) (B:=129) (by decide) hV;have gb:=zc6 (D:=V) (a:=x.b) (B:=129) (by decide) hV;have sa:=zc6 (D:=S) (a:=x.a) (B:=129) (by decide) hS;have sb:=zc6 (D:=S) (a:=x.b) (B:=129) (by decide) hS;have gy:=zc6 (D:=B.y) (a:=x.a) (B:=1000) (by decide) hB.y;have gp:=zc6 (D:=B.p) (a:=x.a) (B:=1000) (by decide) hB.p;have gt:=hB.t;rcases zkg hm with h | h | h | h | h | h | h | h | h | h
 ·simp[Zh,h,zb9]
 ·simp[Zh,h];omega
 ·simp[Zh,h];omega
 ·simp[Zh,h];omega
 ·simp[Zh,h,zi0];omega
 ·have:=zd7 (gI S x.a) (gI S x.b);simp[Zh,h];omega
 ·have:=zqs (gI S x.a) (gI S x.b);simp[Zh,h];omega
 ·have a1:=zbf (gI S x.a) (gI V x.b);have a2:=zbf (gI V x.a) (gI S x.b);have:=zd7 (gI S x.a*gI V x.b) (gI V x.a*gI S x.b);simp[Zh,h];omega
 ·have hv:=hv (.inl h);have a1:=zbf v (gI S x.b);have a2:=zqs (gI S x.a) (v*gI S x.b);have:=ze7 (gI S x.a-v*gI S x.b) (gI V x.b);simp[Zh,h];omega
 ·obtain⟨e1,e2⟩:=zpc hm h;have hv:=hv (.inr h);have ht:sz (Zdj V x v)≤1229:=by
   unfold Zdj;split
   ·exact Yc (zit ga (by omega) (by omega)) (by decide)
   ·split
    ·have:=ze7 v (gI V x.a);omega
    ·rw[zb9];decide
  have hb:sz (x.b:Rat)≤1:=zp6 x.b e1 e2;have a1:=zbf (x.b:Rat) (Zdj V x v);have:=zbf ((x.b:Rat)*Zdj V x v) (gI S x.a);simp[Zh,h];omega
abbrev mD2:AV:=.agg [.dead,.dead]
abbrev noD:Du:=((false,[],[]),(false,[],[]))
section
variable{T:Tbl}[Z7 T][Zs T][Zw T][Zx T][Zt T][Zv T][Zf T][Zl T][Zq T][Z0 T][Zab T][Zbz T][Zad T][Z8 T][Zaw T][Zz T][Zdh T]
theorem zahv(x:Fz)(hx:fsz x≤1000):Zb T 453 [mD2,efz x]=some (edu (fz (fv x),fz 0)):=by
 have h:=zci (T:=T) x (by omega);have h0:=zcm (T:=T);rw[zaa Zz.h453 rfl,b453];generalize fz (fv x)=z at *
 generalize fz 0=z0 at *
 simp -implicitDefEqProofs[h,h0]
theorem z85(x:Du)(hx:fsz x.1≤1000)(hy:fsz x.2≤1000):Zb T 452 [mD2,edu x]=some (edu (fz (-fv x.1),fz (-fv x.2))):=by
 have h:=zf1 (T:=T) x.1 (by omega);have h2:=zf1 (T:=T) x.2 (by omega);rw[zaa Zz.h452 rfl,b452];generalize fz (-fv x.1)=z at *
 generalize fz (-fv x.2)=z0 at *
 simp -implicitDefEqProofs[h,h2]
theorem z86(x y:Du)(h1:fsz x.1≤1000)(h2:fsz x.2≤1000)(h3:fsz y.1≤1000)(h4:fsz y.2≤1000):Zb T 449 [mD2,edu x,edu y]=some (edu (fz (fv x.1+fv y.1),fz (fv x.2+fv y.2))):=by
 have h:=zf2 (T:=T) x.1 y.1 h1 h3;have h':=zf2 (T:=T) x.2 y.2 h2 h4;rw[zaa Zz.h449 rfl,b449];generalize fz (fv x.1+fv y.1)=z at *
 generalize fz (fv x.2+fv y.2)=z0 at *
 simp -implicitDefEqProofs[h,h']
theorem z87(x y:Du)(h1:fsz x.1≤1000)(h2:fsz x.2≤1000)(h3:fsz y.1≤1000)(h4:fsz y.2≤1000):Zb T 456 [mD2,edu x,edu y]=some (edu (fz (fv x.1-fv y.1),fz (fv x.2-fv y.2))):=by
 have h:=zhe (T:=T) x.1 y.1 h1 h3;have h':=zhe (T:=T) x.2 y.2 h2 h4;rw[zaa Zz.h456 rfl,b456];generalize fz (fv x.1-fv y.1)=z at *
 generalize fz (fv x.2-fv y.2)=z0 at *
 simp -implicitDefEqProofs[h,h']
theorem z88(x y:Du)(h1:fsz x.1≤400)(h2:fsz x.2≤400)(h3:fsz y.1≤400)(h4:fsz y.2≤400):Zb T 451 [mD2,edu x,edu y]=some (edu (fz (fv x.1*fv y.1),fz (fv x.2*fv y.1+fv x.1*fv y.2))):=by
 have m1:=zbz (T:=T) x.1 y.1 (by omega) (by omega);have m2:=zbz (T:=T) x.2 y.1 (by omega) (by omega);have m3:=zbz (T:=T) x.1 y.2 (by omega) (by omega);have s1:=zbf (fv x.2) (fv y.1);have s2:=zbf (fv x.1) (fv y.2);have v1:=za6 h1 (by decide);have v2:=za6 h2 (by decide);have v3:=za6 h3 (by decide);have v4:=za6 h4 (by decide);have ad:=zf2 (T:=T) (fz (fv x.2*fv y.1)) (fz (fv x.1*fv y.2)) (by rw[zaw];omega) (by rw[zaw];omega);rw[zbe,zbe]at ad;clear s1 s2 v1 v2 v3 v4;rw[zaa Zz.h451 rfl,b451];generalize fz (fv x.2*fv y.1+fv x.1*fv y.2)=z at *
 generalize fz (fv x.1*fv y.1)=z0 at *
 generalize fz (fv x.2*fv y.1)=z1 at *
 generalize fz (fv x.1*fv y.2)=z2 at *
 simp -implicitDefEqProofs[m1,m2,m3,ad]
theorem z89(x y:Du)(h1:fsz x.1≤129)(h2:fsz x.2≤129)(h3:fsz y.1≤129)(h4:fsz y.2≤129):Zb T 455 [mD2,edu x,edu y] =
  some (if fv y.1≠0 then .tup [edu (fz (fv x.1/fv y.1),fz ((fv x.2-fv x.1/fv y.1*fv y.2)/fv y.1)),.b true] else .tup [edu noD,.b false]):=by
 have q1:=zf3 (T:=T) x.1 y.1 (by omega) (by omega);have v1:=za6 h1 (by decide);have v2:=za6 h2 (by decide);have v3:=za6 h3 (by decide);have v4:=za6 h4 (by decide);have s1:=ze7 (fv x.1) (fv y.1);have s2:=zbf (fv x.1/fv y.1) (fv y.2);have s3:=zqs (fv x.2) (fv x.1/fv y.1*fv y.2);have m1:=zbz (T:=T) (fz (fv x.1/fv y.1)) y.2 (by rw[zaw];omega) (by omega);rw[zbe]at m1;have u1:=zhe (T:=T) x.2 (fz (fv x.1/fv y.1*fv y.2)) (by omega) (by rw[zaw];omega);rw[zbe]at u1;have q2:=zf3 (T:=T) (fz (fv x.2-fv x.1/fv y.1*fv y.2)) y.1 (by rw[zaw];omega) (by omega);rw[zbe]at q2;clear s1 s2 s3 v1 v2 v3 v4;rw[zaa Zz.h455 rfl,b455];generalize fz ((fv x.2-fv x.1/fv y.1*fv y.2)/fv y.1)=z1 at *
 generalize fz (fv x.2-fv x.1/fv y.1*fv y.2)=z2 at *
 generalize fz (fv x.1/fv y.1*fv y.2)=z3 at *
 generalize fz (fv x.1/fv y.1)=z4 at *
 by_cases hz:fv y.1=0
 ·rw[if_neg (by simp[hz])];rw[hz]at q1;simp -implicitDefEqProofs[q1]
 ·rw[if_pos hz];rw[decide_eq_true hz]at q1 q2;simp -implicitDefEqProofs[q1,m1,u1,q2]
def Ziv(q:Rat)(e:Int)(v:Rat):Rat:=if 0<e then Zbs q (e-1) else if e<0 then v/q else 0
theorem z9a(x:Du)(e:Int)(he:-8≤e)(he':e≤8)(h1:fsz x.1≤129)(h2:fsz x.2≤129):Zb T 454 [mD2,edu x,.i .i64 e] =
  some (if e<0∧fv x.1=0 then .tup [edu noD,.b false] else .tup [edu (fz (Zbs (fv x.1) e),fz ((e:Rat)*Ziv (fv x.1) e (Zbs (fv x.1) e)*fv x.2)),.b true]):=by
 have c0:=zcm (T:=T);have ce:=zgo (T:=T) e (by omega) (by omega);have cp:=zhf (T:=T) x.1 e (by omega);rw[zk8 he he']at cp;have v1:=za6 h1 (by decide);have v2:=za6 h2 (by decide);have ze:=zp6 e he he';by_cases hz:e<0∧fv x.1=0
 ·rw[if_pos hz]at cp ⊢;rw[zaa Zz.h454 rfl,b454];generalize fz 0=z0 at *
  simp -implicitDefEqProofs[cp]
 rw[if_neg hz]at cp ⊢;have zp:sz (Zbs (fv x.1) e)≤1033:=zit v1 he he';have fin:∀q:Rat,sz q≤1162→Zb T 217 [efz (fz (e:Rat)),efz (fz q)]=some (efz (fz (e*q)))∧Zb T 217 [efz (fz (e*q)),efz x.2]=some (efz (fz (e*q*fv x.2))):=by
  intro q hq;have z1:=zbf (e:Rat) q;have m1:=zic (T:=T) (fz (e:Rat)) (fz q) (by rw[zaw];omega) (by rw[zaw];omega);have m2:=zic (T:=T) (fz (e*q)) x.2 (by rw[zaw];omega) (by omega);rw[zbe,zbe]at m1;rw[zbe]at m2;exact⟨m1,m2⟩
 unfold Ziv;by_cases h0:0<e
 ·have cp2:=zhf (T:=T) x.1 (e-1) (by omega);rw[zk8 (q:=fv x.1) (e:=e-1) (by omega) (by omega),if_neg (by omega)]at cp2;have z2:sz (Zbs (fv x.1) (e-1))≤1162:=Yc (zit v1 (by omega) (by omega)) (by decide);obtain⟨m1,m2⟩:=fin _ z2;rw[if_pos h0];have hw:IntKind.wrap .i64 (e-1)=e-1:=zad _ (by omega);have hn:¬ e<0:=by omega
  clear fin v1 v2 ze zp z2 hz;generalize fz (e*Zbs (fv x.1) (e-1)*fv x.2)=y1 at *
  generalize fz (e*Zbs (fv x.1) (e-1))=y2 at *
  generalize fz (Zbs (fv x.1) (e-1))=y3 at *
  generalize fz (Zbs (fv x.1) e)=y4 at *
  generalize fz (e:Rat)=y5 at *
  generalize fz 0=z0 at *
  rw[zaa Zz.h454 rfl,b454];simp -implicitDefEqProofs[c0,ce,cp,cp2,m1,m2,h0,hw,hn]
 ·rw[if_neg h0];by_cases hn:e<0
  ·have z3:=ze7 (Zbs (fv x.1) e) (fv x.1);have cq:=zms (T:=T) (fz (Zbs (fv x.1) e)) x.1 (by rw[zaw];omega) (by omega);rw[zbe]at cq;obtain⟨m1,m2⟩:=fin (Zbs (fv x.1) e/fv x.1) (by omega);rw[if_pos hn];clear fin v1 v2 ze zp z3 hz;generalize decide (fv x.1≠0)=bb at *
   generalize fz (e*(Zbs (fv x.1) e/fv x.1)*fv x.2)=y1 at *
   generalize fz (e*(Zbs (fv x.1) e/fv x.1))=y2 at *
   generalize fz (Zbs (fv x.1) e/fv x.1)=y3 at *
   generalize fz (Zbs (fv x.1) e)=y4 at *
   generalize fz (e:Rat)=y5 at *
   generalize fz 0=z0 at *
   rw[zaa Zz.h454 rfl,b454];simp -implicitDefEqProofs[c0,ce,cp,cq,m1,m2,h0,hn]
  ·obtain⟨m1,m2⟩:=fin 0 (by decide +kernel);rw[if_neg hn];clear fin v1 v2 ze zp hz;generalize fz (e*0*fv x.2)=y1 at *
   generalize fz (e*0)=y2 at *
   generalize fz (Zbs (fv x.1) e)=y4 at *
   generalize fz (e:Rat)=y5 at *
   generalize fz 0=z0 at *
   rw[zaa Zz.h454 rfl,b454];simp -implicitDefEqProofs[c0,ce,cp,m1,m2,h0,hn]
theorem z29(i:Ins)(P B:Po)(hop:i.op=1∨i.op=2∨i.op=3∨i.op=4)(hn:fsz i.n≤1000)(hy:i.op=3→0≤i.a∧i.a<P.y.length)(hp:i.op=4→0≤i.a∧i.a<P.p.length)(ly:P.y.length=B.y.length)(lp:P.p.length=B.p.length) :
  Zb T 436 [mD2,.agg (Zee i),epd (dua P B)]=some (edu (fz (Zg P [] i).1,fz (Zh B [] [] i 0))):=by
 have h1:=zahv (T:=T) i.n hn;obtain⟨op,a,b,n⟩:=i;obtain⟨t,y,p⟩:=P;obtain⟨t',y',p'⟩:=B;dsimp only at *
 unfold Zg Zh dua;dsimp only;rw[zaa Zz.h436 rfl,b436];rcases hop with rfl | rfl | rfl | rfl
 ·show _=some (edu (fz (fv n),fz 0));generalize fz (fv n)=z at *
  generalize fz 0=z0 at *
  generalize Z2 y y'=Y at *
  generalize Z2 p p'=PP at *
  generalize fz t=tt at *
  generalize fz t'=tt' at *
  simp -implicitDefEqProofs[h1]
 ·show _=some (edu (fz t,fz t'));generalize Z2 y y'=Y at *
  generalize Z2 p p'=PP at *
  generalize fz t=tt at *
  generalize fz t'=tt' at *
  simp -implicitDefEqProofs
 ·obtain⟨k,e,hk',hk,hg⟩:=ziy (hy rfl) ly;subst e;have hge:=(Yd.1 hg).2;have hl:(Z2 y y').length=y.length:=za1 ly;show _=some (edu (fz (gI y k),fz (gI y' k)));generalize Z2 y y'=Y at *
  generalize Z2 p p'=PP at *
  generalize fz t=tt at *
  generalize fz t'=tt' at *
  generalize fz (gI y k)=z at *
  generalize fz (gI y' k)=z' at *
  simp -implicitDefEqProofs[hk,hk',hg,hge,hl]
 ·obtain⟨k,e,hk',hk,hg⟩:=ziy (hp rfl) lp;subst e;have hge:=(Yd.1 hg).2;have hl:(Z2 p p').length=p.length:=za1 lp;show _=some (edu (fz (gI p k),fz (gI p' k)));generalize Z2 y y'=Y at *
  generalize Z2 p p'=PP at *
  generalize fz t=tt at *
  generalize fz t'=tt' at *
  generalize fz (gI p k)=z at *
  generalize fz (gI p' k)=z' at *
  simp -implicitDefEqProofs[hk,hk',hg,hge,hl]
theorem z3a(i:Ins)(P B:Po)(V S:List Rat)(dim par:Int)(hm:Zcj dim par V.length i=true)(hd:(P.y.length:Int)=dim)(hp:(P.p.length:Int)=par)(ly:P.y.length=B.y.length)(lp:P.p.length=B.p.length)(lS:V.length=S.length)(hn:fsz i.n≤1000)(hV:∀q∈V,sz q≤129)(hS:∀q∈S,sz q≤129) :
  ∃w:Du,Zb T 432 [mD2,.agg (Zee i),epd (dua P B),.sl (Zb0 (Z2 V S)) .an]=some (.tup [edu w,.b (Zg P V i).2])∧((Zg P V i).2=true→w=(fz (Zg P V i).1,fz (Zh B V S i (Zg P V i).1))):=by
 have hop:=zkg hm;by_cases hleaf:i.op=1∨i.op=2∨i.op=3∨i.op=4
 ·have h1:=z29 (T:=T) i P B hleaf hn (fun h=>by have:=zz8 hm h;omega) (fun h=>by have:=zz9 hm h;omega) ly lp;have e:Zg P V i=((Zg P [] i).1,true):=by
   unfold Zg;rcases hleaf with h | h | h | h<;>simp[h]
  have e2:∀v,Zh B V S i v=Zh B [] [] i 0:=by
   intro v;unfold Zh;rcases hleaf with h | h | h | h<;>simp[h]
  rw[e,e2];refine⟨_,?_,fun _=>rfl⟩;generalize fz (Zg P [] i).1=z at *
  generalize fz (Zh B [] [] i 0)=z' at *
  generalize Z2 V S=DD at *
  obtain⟨op,a,b,n⟩:=i;generalize dua P B=Q at *
  obtain⟨⟨⟨t0,t1,t2⟩,⟨t3,t4,t5⟩⟩,y,p⟩:=Q;clear e e2 hm hop hd hp ly lp lS hV hS;dsimp only at *
  rw[zaa Zz.h432 rfl,b432];rcases hleaf with rfl | rfl | rfl | rfl<;>simp -implicitDefEqProofs[h1]
 have ha:=zfm hm (by omega);obtain⟨k,hk1,hk2,hk3,hka⟩:=ziy ha lS;have sa:fsz (fz (gI V i.a))≤129:=zc6 (by decide) hV;have sa':fsz (fz (gI S i.a))≤129:=zc6 (by decide) hS;have hkae:=(Yd.1 hka).2;have hl:(Z2 V S).length=V.length:=za1 lS;have c6:=z85 (T:=T) (fz (gI V i.a),fz (gI S i.a)) (by dsimp only;omega) (by dsimp only;omega);dsimp only at c6;rw[zbe,zbe]at c6;by_cases h6:i.op=6
 ·have e:Zg P V i=(-gI V i.a,true):=by simp[Zg,h6]
  have e2:∀v,Zh B V S i v=-gI S i.a:=by intro v;simp[Zh,h6]
  rw[e,e2];refine⟨_,?_,fun _=>rfl⟩;generalize fz (-gI V i.a)=z at *
  generalize fz (-gI S i.a)=z' at *
  generalize fz (gI V i.a)=u at *
  generalize fz (gI S i.a)=u' at *
  generalize Z2 V S=DD at *
  obtain⟨op,a,b,n⟩:=i;generalize dua P B=Q at *
  obtain⟨⟨⟨t0,t1,t2⟩,⟨t3,t4,t5⟩⟩,y,p⟩:=Q;clear e e2 hm hop hd hp ly lp hV hS hleaf;dsimp only at *
  subst h6 hk1;rw[zaa Zz.h432 rfl,b432];simp -implicitDefEqProofs[hk2,hk3,hka,hkae,hl,c6]
 by_cases h11:i.op=11
 ·have hb:=zpc hm h11;have c11:=z9a (T:=T) (fz (gI V i.a),fz (gI S i.a)) i.b hb.1 hb.2 sa sa';dsimp only at c11;rw[zbe,zbe]at c11;have e:Zg P V i=if i.b<0∧gI V i.a=0 then (0,false) else (Zbs (gI V i.a) i.b,true):=by simp[Zg,h11]
  have e2:∀v,Zh B V S i v=i.b*Ziv (gI V i.a) i.b v*gI S i.a:=by intro v;simp[Zh,h11,Zdj,Ziv]
  by_cases hz:i.b<0∧gI V i.a=0
  ·rw[if_pos hz]at e c11;rw[e];refine⟨noD,?_,fun h=>by cases h⟩;generalize fz (gI V i.a)=u at *
   generalize fz (gI S i.a)=u' at *
   generalize Z2 V S=DD at *
   obtain⟨op,a,b,n⟩:=i;generalize dua P B=Q at *
   obtain⟨⟨⟨t0,t1,t2⟩,⟨t3,t4,t5⟩⟩,y,p⟩:=Q;clear e e2 hm hop hd hp ly lp hV hS hleaf;dsimp only at *
   subst h11 hk1;rw[zaa Zz.h432 rfl,b432];simp -implicitDefEqProofs[hk2,hk3,hka,hkae,hl,c11]
  ·rw[if_neg hz]at e c11;rw[e,e2];dsimp only;refine⟨_,?_,fun _=>rfl⟩;generalize fz (i.b*Ziv (gI V i.a) i.b (Zbs (gI V i.a) i.b)*gI S i.a)=z' at *
   generalize fz (Zbs (gI V i.a) i.b)=z at *
   generalize fz (gI V i.a)=u at *
   generalize fz (gI S i.a)=u' at *
   generalize Z2 V S=DD at *
   obtain⟨op,a,b,n⟩:=i;generalize dua P B=Q at *
   obtain⟨⟨⟨t0,t1,t2⟩,⟨t3,t4,t5⟩⟩,y,p⟩:=Q;clear e e2 hm hop hd hp ly lp hV hS hleaf;dsimp only at *
   subst h11 hk1;rw[zaa Zz.h432 rfl,b432];simp -implicitDefEqProofs[hk2,hk3,hka,hkae,hl,c11]
 have hb:=zi5 hm (by omega);obtain⟨j,hj1,hj2,hj3,hjb⟩:=ziy hb lS;have sb:fsz (fz (gI V i.b))≤129:=zc6 (by decide) hV;have sb':fsz (fz (gI S i.b))≤129:=zc6 (by decide) hS;have hjbe:=(Yd.1 hjb).2;have c7:=z86 (T:=T) (fz (gI V i.a),fz (gI S i.a)) (fz (gI V i.b),fz (gI S i.b)) (by dsimp only;omega) (by dsimp only;omega) (by dsimp only;omega) (by dsimp only;omega);have c8:=z87 (T:=T) (fz (gI V i.a),fz (gI S i.a)) (fz (gI V i.b),fz (gI S i.b)) (by dsimp only;omega) (by dsimp only;omega) (by dsimp only;omega) (by dsimp only;omega);have c9:=z88 (T:=T) (fz (gI V i.a),fz (gI S i.a)) (fz (gI V i.b),fz (gI S i.b)) (by dsimp only;omega) (by dsimp only;omega) (by dsimp only;omega) (by dsimp only;omega);have c10:=z89 (T:=T) (fz (gI V i.a),fz (gI S i.a)) (fz (gI V i.b),fz (gI S i.b)) sa sa' sb sb';dsimp only at c7 c8 c9 c10;rw[zbe,zbe,zbe,zbe]at c7 c8 c9 c10;have e7:i.op=7→Zg P V i=(gI V i.a+gI V i.b,true)∧∀v,Zh B V S i v=gI S i.a+gI S i.b:=fun h=>by simp[Zg,Zh,h]
 have e8:i.op=8→Zg P V i=(gI V i.a-gI V i.b,true)∧∀v,Zh B V S i v=gI S i.a-gI S i.b:=fun h=>by simp[Zg,Zh,h]
 have e9:i.op=9→Zg P V i=(gI V i.a*gI V i.b,true)∧∀v,Zh B V S i v=gI S i.a*gI V i.b+gI V i.a*gI S i.b:=fun h=>by simp[Zg,Zh,h]
 have e10:i.op=10→Zg P V i=(gI V i.a/gI V i.b,decide (gI V i.b≠0))∧∀v,Zh B V S i v=(gI S i.a-v*gI S i.b)/gI V i.b:=fun h=>by simp[Zg,Zh,h]
 clear hm hd hp ly lp hV hS sa sa' sb sb' c6;generalize gI V i.a=A at *
 generalize gI V i.b=C at *
 generalize gI S i.a=A' at *
 generalize gI S i.b=C' at *
 generalize fz A=u at *
 generalize fz C=v at *
 generalize fz A'=u' at *
 generalize fz C'=v' at *
 generalize Zg P V i=W at *
 generalize Zh B V S i=sl at *
 generalize Z2 V S=DD at *
 obtain⟨op,a,b,n⟩:=i;generalize dua P B=Q at *
 obtain⟨⟨⟨t0,t1,t2⟩,⟨t3,t4,t5⟩⟩,y,p⟩:=Q;dsimp only at *
 subst hk1 hj1;rw[zaa Zz.h432 rfl,b432];rcases(show op=7∨op=8∨op=9∨op=10 by omega) with rfl | rfl | rfl | rfl
 ·rw[(e7 rfl).1,(e7 rfl).2];refine⟨_,?_,fun _=>rfl⟩;clear e7 e8 e9 e10 c8 c9 c10;generalize fz (A+C)=z at *
  generalize fz (A'+C')=z' at *
  simp -implicitDefEqProofs[hk2,hk3,hka,hkae,hj2,hj3,hjb,hjbe,hl,c7]
 ·rw[(e8 rfl).1,(e8 rfl).2];refine⟨_,?_,fun _=>rfl⟩;clear e7 e8 e9 e10 c7 c9 c10;generalize fz (A-C)=z at *
  generalize fz (A'-C')=z' at *
  simp -implicitDefEqProofs[hk2,hk3,hka,hkae,hj2,hj3,hjb,hjbe,hl,c8]
 ·rw[(e9 rfl).1,(e9 rfl).2];refine⟨_,?_,fun _=>rfl⟩;clear e7 e8 e9 e10 c7 c8 c10;generalize fz (A*C)=z at *
  generalize fz (A'*C+A*C')=z' at *
  simp -implicitDefEqProofs[hk2,hk3,hka,hkae,hj2,hj3,hjb,hjbe,hl,c9]
 ·rw[(e10 rfl).1,(e10 rfl).2];clear e7 e8 e9 e10 c7 c8 c9;by_cases hz:C=0
  ·refine⟨noD,?_,fun h=>by simp[hz]at h⟩;rw[if_neg (by simp[hz])]at c10;have hd:decide (C≠0)=false:=by simp[hz]
   rw[hd];simp -implicitDefEqProofs[hk2,hk3,hka,hkae,hj2,hj3,hjb,hjbe,hl,c10]
  ·refine⟨_,?_,fun _=>rfl⟩;rw[if_pos hz]at c10;have hd:decide (C≠0)=true:=by simp[hz]
   rw[hd];generalize fz (A/C)=z at *
   generalize fz ((A'-A/C*C')/C)=z' at *
   simp -implicitDefEqProofs[hk2,hk3,hka,hkae,hj2,hj3,hjb,hjbe,hl,c10]
end
abbrev bxS(g:Nat)(st:Int):Box:=⟨g,.str,1,[[.i .i64 st]]⟩
abbrev duM(T:Tbl):AV:=.agg [.ptr (.bor 0) 0 3 0 0,.fnp (Zo T 500424) (.bor 1) 1 1 0 0]
def Zf8(x:Du)(L:Int):Bool:=decide ((Zbh x.1:Int)≤L)&&decide ((Zbh x.2:Int)≤L)
def Zf9(x:Du)(L st:Int):Int:=if (Zbh x.1:Int)≤L∧¬ (Zbh x.2:Int)≤L then 1 else st
def Zho(x:Du)(L s:Int):Int:=if (Zbh x.1:Int)≤L then Zba (Zba s) else Zba s
def pkD(x:Du)(L p:Int):Int:=if (Zbh x.1:Int)≤L then Zbg (Zbg p x.1) x.2 else Zbg p x.1
section
variable{T:Tbl}[Z7 T][Zs T][Zw T][Zx T][Zt T][Zv T][Zf T][Zl T][Zq T][Z0 T][Zab T][Zbz T][Zad T][Z8 T][Zaw T][Zz T][Zdh T][Zco T]
theorem zvw(st:Int):Zaa T 424 [.ptr (.bor 0) 0 1 0 0] [(.bor 0,bxS 0 st)]=some (.tup [],[(.bor 0,bxS 0 1)]):=by
 rw[zah Zz.h424 rfl,b424];simp -implicitDefEqProofs
theorem z3b(s p L st:Int)(x:Du)(h1:fsz x.1≤10000)(h2:fsz x.2≤10000) :
  Zaa T 450 [duM T,edu x] [(.bor 0,bxG 0 s p L),(.bor 1,bxS 1 st)]=some (.b (Zf8 x L),[(.bor 0,bxG 0 (Zho x L s) (pkD x L p) L),(.bor 1,bxS 1 (Zf9 x L st))]):=by
 have g1:=zgq (T:=T) s p L x.1 h1;have g2:=zgq (T:=T) (Zba s) (Zbg p x.1) L x.2 h2;have sl:=zvw (T:=T) st;by_cases k1:(Zbh x.1:Int)≤L
 ·by_cases k2:(Zbh x.2:Int)≤L
  ·have f1:Zf8 x L=true:=by simp[Zf8,k1,k2]
   have f2:Zf9 x L st=st:=by simp only[Zf9,k1,k2];rfl
   have f3:Zho x L s=Zba (Zba s):=by simp only[Zho,k1,if_true]
   have f4:pkD x L p=Zbg (Zbg p x.1) x.2:=by simp only[pkD,k1,if_true]
   rw[decide_eq_true k1]at g1;rw[decide_eq_true k2]at g2;rw[f1,f2,f3,f4];clear f1 f2 f3 f4 k1 k2;generalize Zba (Zba s)=s2 at *
   generalize Zba s=s1 at *
   generalize Zbg (Zbg p x.1) x.2=p2 at *
   generalize Zbg p x.1=p1 at *
   rw[zah Zz.h450 rfl,b450];simp -implicitDefEqProofs[g1,g2]
  ·have f1:Zf8 x L=false:=by simp[Zf8,k2]
   have f2:Zf9 x L st=1:=by unfold Zf9;rw[if_pos ⟨k1,k2⟩]
   have f3:Zho x L s=Zba (Zba s):=by simp only[Zho,k1,if_true]
   have f4:pkD x L p=Zbg (Zbg p x.1) x.2:=by simp only[pkD,k1,if_true]
   rw[decide_eq_true k1]at g1;rw[decide_eq_false k2]at g2;rw[f1,f2,f3,f4];clear f1 f2 f3 f4 k1 k2;generalize Zba (Zba s)=s2 at *
   generalize Zba s=s1 at *
   generalize Zbg (Zbg p x.1) x.2=p2 at *
   generalize Zbg p x.1=p1 at *
   rw[zah Zz.h450 rfl,b450];simp -implicitDefEqProofs[g1,g2,sl]
 ·have f1:Zf8 x L=false:=by simp[Zf8,k1]
  have f2:Zf9 x L st=st:=by unfold Zf9;rw[if_neg (fun h=>k1 h.1)]
  have f3:Zho x L s=Zba s:=by unfold Zho;rw[if_neg k1]
  have f4:pkD x L p=Zbg p x.1:=by unfold pkD;rw[if_neg k1]
  rw[decide_eq_false k1]at g1;rw[f1,f2,f3,f4];clear f1 f2 f3 f4 k1 g2;generalize Zba s=s1 at *
  generalize Zbg p x.1=p1 at *
  rw[zah Zz.h450 rfl,b450];simp -implicitDefEqProofs[g1]
end
abbrev Zm0(T:Tbl)(g:Nat):Box:=⟨g,.str,2,[[.ptr (.bor 0) 0 3 0 0,.fnp (Zo T 500424) (.bor 1) 1 1 0 0]]⟩
abbrev Zm1(g:Nat)(x:PoD):Box:=⟨g,.str,8,[[.b x.t.1.1,.sl (Za x.t.1.2.1) .an,.sl (Za x.t.1.2.2) .an,.b x.t.2.1,.sl (Za x.t.2.2.1) .an,.sl (Za x.t.2.2.2) .an,.sl (Zb0 x.y) .an,.sl (Zb0 x.p) .an]]⟩
def Zfw(T:Tbl)(Q:PoD)(L:Int)(code:List Ins)(i:Nat)(D:List Du)(s p:Int)(kd:Kind):St:=
 ⟨[(3,.ptr (.loc 3) 5 2 0 0),(5,.ptr (.loc 5) 6 8 0 0),(7,.ptr (.loc 7) 7 4 0 0),(8,.bs (.loc 8) 8 6 0 i),(34,.sl (Zdf code) .an),(35,.i .i64 code.length),(36,.i .i64 i)],
  [(.bor 0,bxG 0 s p L),(.bor 1,bxS 1 0),(.loc 3,Zm0 T 5),(.loc 5,Zm1 6 Q),(.loc 7,bxF 7 0 0 0 0),(.loc 8,⟨8,kd,6,Zb0 D⟩)],10⟩
def Zjj(n:Nat)(D:List Du)(s p L:Int)(kd:Kind):Ex×St:=(.n,⟨[(7,.ptr (.loc 7) 5 4 0 0),(8,.bs (.loc 8) 6 6 0 n)],[(.bor 0,bxG 0 s p L),(.bor 1,bxS 1 0),(.loc 7,bxF 5 0 0 0 0),(.loc 8,⟨6,kd,6,Zb0 D⟩)],8⟩)
def Zet(kind at_ st s p L:Int):Ex×St:=(.r,⟨[(6,.sl [] .an),(7,.ptr (.loc 7) 5 4 0 0)],[(.bor 0,bxG 0 s p L),(.bor 1,bxS 1 st),(.loc 7,bxF 5 kind 0 0 at_)],7⟩)
section
variable{T:Tbl}[Z7 T][Zs T][Zw T][Zx T][Zt T][Zv T][Zf T][Zl T][Zq T][Z0 T][Zab T][Zbz T][Zad T][Z8 T][Zaw T][Zz T][Zdh T][Zco T]
theorem zzb{kd:Kind}(hk:kd=.own∨kd=.sh)(x:Ins)(Q:PoD)(L:Int)(code:List Ins)(i:Nat)(D:List Du)(s p s' p':Int)(v:Du)(hi:i<code.length)(hc:code.length≤1000)(hg:code[i]? = some x)(hdl:D.length=i)
  (c:Zb T 432 [mD2,.agg (Zee x),epd Q,.sl (Zb0 D) .an]=some (.tup [edu v,.b true]))
  (hf:Zaa T 450 [duM T,edu v] [(.bor 0,bxG 0 s p L),(.bor 1,bxS 1 0)]=some (.b true,[(.bor 0,bxG 0 s' p' L),(.bor 1,bxS 1 0)])) :
  evX (orc T) T 2 l425_0 (Zfw T Q L code i D s p kd)=some (.n,Zfw T Q L code (i+1) (D++[v]) s' p' .sh):=by
 have hws:=zbs hi (by omega);have hge:=(Yd.1 hg).2;have ht:List.take i D=D:=Yb (by omega);have hp:wkL (Zb0 D++[Zj2 v])=Zb0 (D++[v]):=by rw[znp,zxe]
 have hi':(i:Int)<code.length:=by omega
 have hb:i≤4294967295:=by omega
 unfold Zfw;obtain⟨⟨⟨q0,q1,q2⟩,⟨q3,q4,q5⟩⟩,qy,qp⟩:=Q;rcases hk with rfl | rfl<;>simp -implicitDefEqProofs[l425_0,hi,hi',hg,hge,hws,c,hf,hp,hdl,hb,ht]
theorem z3c{kd:Kind}(hk:kd=.own∨kd=.sh)(x:Ins)(Q:PoD)(L:Int)(code:List Ins)(i:Nat)(D:List Du)(s p:Int)(v:Du)(hi:i<code.length)(hc:code.length≤1000)(hg:code[i]? = some x)(hdl:D.length=i)
  (c:Zb T 432 [mD2,.agg (Zee x),epd Q,.sl (Zb0 D) .an]=some (.tup [edu v,.b false])) :
  evX (orc T) T 2 l425_0 (Zfw T Q L code i D s p kd)=some (Zet 3 i 0 s p L):=by
 have hge:=(Yd.1 hg).2;have ht:List.take i D=D:=Yb (by omega);have hi':(i:Int)<code.length:=by omega
 unfold Zfw Zet;obtain⟨⟨⟨q0,q1,q2⟩,⟨q3,q4,q5⟩⟩,qy,qp⟩:=Q;rcases hk with rfl | rfl<;>simp -implicitDefEqProofs[l425_0,hi,hi',hg,hge,c,hdl,ht]
theorem zvx{kd:Kind}(hk:kd=.own∨kd=.sh)(x:Ins)(Q:PoD)(L:Int)(code:List Ins)(i:Nat)(D:List Du)(s p s' p' st:Int)(v:Du)(hi:i<code.length)(hc:code.length≤1000)(hg:code[i]? = some x)(hdl:D.length=i)
  (c:Zb T 432 [mD2,.agg (Zee x),epd Q,.sl (Zb0 D) .an]=some (.tup [edu v,.b true]))
  (hf:Zaa T 450 [duM T,edu v] [(.bor 0,bxG 0 s p L),(.bor 1,bxS 1 0)]=some (.b false,[(.bor 0,bxG 0 s' p' L),(.bor 1,bxS 1 st)])) :
  evX (orc T) T 2 l425_0 (Zfw T Q L code i D s p kd)=some (Zet 6 i st s' p' L):=by
 have hge:=(Yd.1 hg).2;have ht:List.take i D=D:=Yb (by omega);have hi':(i:Int)<code.length:=by omega
 unfold Zfw Zet;obtain⟨⟨⟨q0,q1,q2⟩,⟨q3,q4,q5⟩⟩,qy,qp⟩:=Q;rcases hk with rfl | rfl<;>simp -implicitDefEqProofs[l425_0,hi,hi',hg,hge,c,hf,hdl,ht]
theorem z9b{kd:Kind}(hk:kd=.own∨kd=.sh)(Q:PoD)(L:Int)(code:List Ins)(D:List Du)(s p:Int):Zd5 (evX (orc T) T 2 l425_0 (Zfw T Q L code code.length D s p kd))=true ∧
  Zde 2 0 (.norm false [7,8]) (evX (orc T) T 2 l425_0 (Zfw T Q L code code.length D s p kd))=some (Zjj code.length D s p L kd):=by
 unfold Zfw Zjj;obtain⟨⟨⟨q0,q1,q2⟩,⟨q3,q4,q5⟩⟩,qy,qp⟩:=Q;rcases hk with rfl | rfl<;>constructor<;>simp -implicitDefEqProofs[l425_0]
theorem zot(kind at_ st s p L:Int):Zde 2 0 (.norm false [7,8]) (some (Zet kind at_ st s p L))=some (Zet kind at_ st s p L):=by
 unfold Zet;simp -implicitDefEqProofs
def Zlt(R:List Rat×List Rat×Nat×Nat×Nat)(n:Nat)(lim:Nat)(r:Ex×St):Prop:=
 ∃s p:Int,(R.2.2.1=0∧∃kd:Kind,(kd=.own∨kd=.sh)∧r=Zjj n (Z2 R.1 R.2.1) s p lim kd)∨(R.2.2.1≠0∧r=Zet R.2.2.1 R.2.2.2.2 R.2.2.2.1 s p lim)
theorem zvy(P B:Po)(lim:Nat)(hlim:lim≤4096)(t:Tp)(ht:OkTp t)(hn:∀i∈t.code,fsz i.n≤1000)(hd:(P.y.length:Int)=t.dim)(hp:(P.p.length:Int)=t.par)(ly:P.y.length=B.y.length)(lp:P.p.length=B.p.length)(hP:PvS P 1000)(hB:PvS B 1000)(s p:Int) :
  ∃r,Zlt (Zci lim P B t.code [] []) t.code.length lim r∧Zn T 2 0 (.norm false [7,8]) l425_0 (Zfw T (dua P B) lim t.code 0 [] s p .own)=some r:=by
 have hc:=ht.cl;generalize hR:Zci lim P B t.code [] []=R;have key:=zaq (T:=T) (k:=2) (id:=0) (g2:=.norm false [7,8]) (c:=l425_0) (fun x:Nat×List Rat×List Rat×(Int×Int)×Kind=>Zfw T (dua P B) lim t.code x.1 (Z2 x.2.1 x.2.2.1) x.2.2.2.1.1 x.2.2.2.1.2 x.2.2.2.2)
  (fun x=>x.1≤t.code.length∧x.2.1.length=x.1∧x.2.2.1.length=x.1∧(∀q∈x.2.1,sz q≤129)∧(∀q∈x.2.2.1,sz q≤129)∧(x.2.2.2.2=.own∨x.2.2.2.2=.sh)∧Zci lim P B (t.code.drop x.1) x.2.1 x.2.2.1=R) (fun x=>t.code.length-x.1)
  (Zlt R t.code.length lim) ?_ (0,[],[],(s,p),.own) ⟨Yr _,rfl,rfl,by simp,by simp,.inl rfl,hR⟩
 ·exact key
 rintro⟨i,V,S,⟨s,p⟩,kd⟩ ⟨hi,hVl,hSl,hV,hS,hk,hr⟩
 dsimp only at *
 by_cases hlt:i<t.code.length
 ·have hg:t.code[i]? = some (t.code[i]'hlt):=Ya hlt;have hmem:=Yn hlt;have hm:=ht.may i _ hg;have hdr:t.code.drop i=t.code[i]'hlt::t.code.drop (i+1):=Yf hlt;generalize hx:t.code[i]'hlt=x at *
  rw[hdr,zen]at hr;have hm':Zcj t.dim t.par V.length x=true:=by rw[hVl];exact hm
  obtain⟨w,c,hw⟩:=z3a (T:=T) x P B V S t.dim t.par hm' hd hp ly lp (hVl.trans hSl.symm) (hn x hmem) hV hS;have hfl:(Z2 V S).length=i:=by rw[za1 (hVl.trans hSl.symm),hVl]
  cases hok:(Zg P V x).2 with
  | false=>
   right;rw[hok]at c;rw[if_pos hok]at hr;have e:=z3c (T:=T) hk x (dua P B) lim t.code i (Z2 V S) s p w hlt (by omega) hg hfl c;refine⟨_,⟨s,p,.inr ⟨?_,rfl⟩⟩,?_,?_⟩
   ·rw[←hr];simp
   ·rw[e];rfl
   ·rw[e,zot,←hr,hVl];rfl
  | true=>
   rw[hok]at c;rw[hw hok]at c;rw[if_neg (by rw[hok];decide)]at hr;have hvs:sz (Zg P V x).1≤2000:=zwp hm' hP (hn x hmem) hV;have hv2:x.op=10∨x.op=11→sz (Zg P V x).1≤1100:=by
    intro h;have ga:=zc6 (D:=V) (a:=x.a) (B:=129) (by decide) hV;have gb:=zc6 (D:=V) (a:=x.b) (B:=129) (by decide) hV;rcases h with h | h
    ·have:=ze7 (gI V x.a) (gI V x.b);simp[Zg,h];omega
    ·obtain⟨e1,e2⟩:=zpc hm' h;have h1:=zit ga e1 e2;by_cases hz:x.b<0∧gI V x.a=0
     ·simp[Zg,h,hz,zb9]
     ·simp only[Zg,h];simp only[hz];simp;omega
   have hss:sz (Zh B V S x (Zg P V x).1)≤2000:=zxg hm' hB hV hS _ hv2;have hf:=z3b (T:=T) s p lim 0 (fz (Zg P V x).1,fz (Zh B V S x (Zg P V x).1)) (by show fsz (fz _)≤_;rw[zaw];omega) (by show fsz (fz _)≤_;rw[zaw];omega);have q1:Zbh (fz (Zg P V x).1)=Zb9 (Zg P V x).1:=rfl;have q2:Zbh (fz (Zh B V S x (Zg P V x).1))=Zb9 (Zh B V S x (Zg P V x).1):=rfl;by_cases hfit:Zb9 (Zg P V x).1≤lim
   ·rw[if_neg (by omega)]at hr;by_cases hfi2:Zb9 (Zh B V S x (Zg P V x).1)≤lim
    ·left;rw[if_neg (by omega)]at hr;have f1:Zf8 (fz (Zg P V x).1,fz (Zh B V S x (Zg P V x).1)) lim=true:=by unfold Zf8;dsimp only;rw[q1,q2];simp;omega
     have f2:Zf9 (fz (Zg P V x).1,fz (Zh B V S x (Zg P V x).1)) lim 0=0:=by unfold Zf9;rw[if_neg (fun h=>h.2 (by dsimp only;rw[q2];omega))]
     rw[f1,f2]at hf;have e:=zzb (T:=T) hk x (dua P B) lim t.code i (Z2 V S) s p _ _ _ hlt (by omega) hg hfl c hf;refine⟨(i+1,V++[(Zg P V x).1],S++[Zh B V S x (Zg P V x).1],(Zho (fz (Zg P V x).1,fz (Zh B V S x (Zg P V x).1)) lim s,pkD (fz (Zg P V x).1,fz (Zh B V S x (Zg P V x).1)) lim p),.sh),⟨by omega,by simp[hVl],by simp[hSl],fun q hq=>?_,fun q hq=>?_,.inr rfl,hr⟩,by show t.code.length-(i+1)<t.code.length-i;omega,?_⟩
     ·rcases Yaq.1 hq with h | h
      ·exact hV q h
      ·rw[Y9.1 h];have:=zff hfit;have:lim/32≤128:=by omega
       omega
     ·rcases Yaq.1 hq with h | h
      ·exact hS q h
      ·rw[Y9.1 h];have:=zff hfi2;have:lim/32≤128:=by omega
       omega
     ·rw[e,znq _ _ (hVl.trans hSl.symm)]
    ·right;rw[if_pos (by omega)]at hr;have f1:Zf8 (fz (Zg P V x).1,fz (Zh B V S x (Zg P V x).1)) lim=false:=by unfold Zf8;dsimp only;rw[q1,q2];simp;omega
     have f2:Zf9 (fz (Zg P V x).1,fz (Zh B V S x (Zg P V x).1)) lim 0=1:=by unfold Zf9;rw[if_pos ⟨by dsimp only;rw[q1];omega,by dsimp only;rw[q2];omega⟩]
     rw[f1,f2]at hf;generalize Zho (fz (Zg P V x).1,fz (Zh B V S x (Zg P V x).1)) (lim:Int) s=c' at hf;generalize pkD (fz (Zg P V x).1,fz (Zh B V S x (Zg P V x).1)) (lim:Int) p=p' at hf;have e:=zvx (T:=T) hk x (dua P B) lim t.code i (Z2 V S) s p _ _ _ _ hlt (by omega) hg hfl c hf;exact⟨Zet 6 (i:Nat) 1 c' p' lim,⟨c',p',.inr ⟨by rw[←hr];simp,by rw[←hr,hVl];rfl⟩⟩,by rw[e];rfl,by rw[e,zot]⟩
   ·right;rw[if_pos (by omega)]at hr;have f1:Zf8 (fz (Zg P V x).1,fz (Zh B V S x (Zg P V x).1)) lim=false:=by unfold Zf8;dsimp only;rw[q1,q2];simp;omega
    have f2:Zf9 (fz (Zg P V x).1,fz (Zh B V S x (Zg P V x).1)) lim 0=0:=by unfold Zf9;rw[if_neg (fun h=>hfit (by have:=h.1;dsimp only at this;rw[q1]at this;omega))]
    rw[f1,f2]at hf;generalize Zho (fz (Zg P V x).1,fz (Zh B V S x (Zg P V x).1)) (lim:Int) s=c' at hf;generalize pkD (fz (Zg P V x).1,fz (Zh B V S x (Zg P V x).1)) (lim:Int) p=p' at hf;have e:=zvx (T:=T) hk x (dua P B) lim t.code i (Z2 V S) s p _ _ _ _ hlt (by omega) hg hfl c hf;exact⟨Zet 6 (i:Nat) 0 c' p' lim,⟨c',p',.inr ⟨by rw[←hr];simp,by rw[←hr,hVl];rfl⟩⟩,by rw[e];rfl,by rw[e,zot]⟩
 ·right;have hi2:i=t.code.length:=by omega
  subst hi2;rw[Yaf]at hr;have e:=z9b (T:=T) hk (dua P B) lim t.code (Z2 V S) s p;have hr':R=(V,S,0,0,0):=hr.symm;rw[hr'];exact⟨_,⟨s,p,.inl ⟨rfl,kd,hk,rfl⟩⟩,e.1,e.2⟩
end
theorem zk5:∀(V S:List Rat),(fzs V).zip (fzs S)=Z2 V S
 | [],[]=>rfl
 | [],_::_=>rfl
 | _::_,[]=>rfl
 | v::V,s::S=>by
  have:=zk5 V S;show (fz v,fz s)::(fzs V).zip (fzs S)=_;rw[this]
  rfl
def Zcd(lim:Nat)(t:Tp)(P B:Po):List Rat×List Rat×Nat×Nat×Nat:=
 if (Z4 lim t P B).2.2.1=0 then (Zhh t (Z4 lim t P B).1,Zhh t (Z4 lim t P B).2.1,0,0,0) else ([],[],(Z4 lim t P B).2.2)
theorem zvz{lim:Nat}{P B:Po}{K:Nat}(hlim:lim/32+1≤K):∀(l:List Ins) (V S:List Rat),(∀q∈V,sz q≤K)→(∀q∈S,sz q≤K)→(∀q∈(Zci lim P B l V S).1,sz q≤K)∧∀q∈(Zci lim P B l V S).2.1,sz q≤K
 | [],V,S,h1,h2=>⟨h1,h2⟩
 | i::r,V,S,h1,h2=>by
  rw[zen];split
  ·simp
  ·split
   ·simp
   ·split
    ·simp
    ·rename_i f1 f2 f3;refine zvz hlim r _ _ (fun q hq=>?_) (fun q hq=>?_)
     ·rcases Yaq.1 hq with hq | hq
      ·exact h1 q hq
      ·rw[Y9.1 hq];have:=zff (q:=(Zg P V i).1) (b:=lim) (by omega);omega
     ·rcases Yaq.1 hq with hq | hq
      ·exact h2 q hq
      ·rw[Y9.1 hq];have:=zff (q:=Zh B V S i (Zg P V i).1) (b:=lim) (by omega);omega
theorem zv0{lim:Nat}{t:Tp}{P B:Po}(hlim:lim/32+1≤48):(∀q∈(Zcd lim t P B).1,sz q≤48)∧∀q∈(Zcd lim t P B).2.1,sz q≤48:=by
 have hp:(∀q∈(Z4 lim t P B).1,sz q≤48)∧∀q∈(Z4 lim t P B).2.1,sz q≤48:=by
  unfold Z4;split
  ·exact zvz hlim _ _ _ (by simp) (by simp)
  ·simp
 unfold Zcd;split
 ·constructor
  ·intro q hq;obtain⟨o,_,rfl⟩:=Y2.1 hq;exact zc6 (by decide) hp.1
  ·intro q hq;obtain⟨o,_,rfl⟩:=Y2.1 hq;exact zc6 (by decide) hp.2
 ·simp
def Zie(V S:List Fz)(i:Nat):St:=
 ⟨[(1,.sl (Zd S) .an),(6,.bs (.loc 6) 1 6 0 i),(14,.sl (Zd V) .an),(15,.i .i64 V.length),(16,.i .i64 i)],[(.loc 6,⟨1,.own,6,Zb0 ((V.zip S).take i)⟩)],3⟩
section
variable{T:Tbl}[Z7 T][Zs T][Zw T][Zx T][Zt T][Zv T][Zf T][Zl T][Zq T][Z0 T][Zab T][Zbz T][Zad T][Z8 T][Zaw T][Zz T][Zdh T][Zco T]
theorem zv1(V S:List Fz)(hl:V.length=S.length)(hb:V.length≤1000) :
  Zn T 0 0 (.norm false [6]) l423_0 (Zie V S 0)=some (.n,⟨[(6,.bs (.loc 6) 1 6 0 V.length)],[(.loc 6,⟨1,.own,6,Zb0 (V.zip S)⟩)],3⟩):=by
 have zl:(V.zip S).length=V.length:=by rw[List.length_zip];omega
 refine za0 (fun i=>Zie V S i) V.length _ (fun i hi=>?_) ?_
 ·have hg:V[i]? = some (V[i]'hi):=Ya hi;have hge:=(Yd.1 hg).2;have hs:i<S.length:=by omega
  have hg2:S[i]? = some (S[i]'hs):=Ya hs;have hge2:=(Yd.1 hg2).2;have hws:=zbs hi (by omega);have hx:(V.zip S)[i]? = some (V[i]'hi,S[i]'hs):=by rw[Ya (by omega),List.getElem_zip]
  have e:(V.zip S).take (i+1)=(V.zip S).take i++[(V[i]'hi,S[i]'hs)]:=by
   rw[Ycd,hx]
   rfl
  have hml:((V.zip S).take i).length=i:=by rw[Ya8];omega
  have hp:=zxf (m:=(V.zip S).take i) hml (V[i]'hi,S[i]'hs);have hi':(i:Int)<V.length:=by omega
  have hs':(i:Int)<S.length:=by omega
  have hb':i≤4294967295:=by omega
  show evX (orc T) T 0 l423_0 (Zie _ _ i)=some (.n,Zie _ _ (i+1));unfold Zie;rw[e];clear e hx;generalize (V.zip S).take i=M at *
  generalize V[i]'hi=v at *
  generalize S[i]'hs=s at *
  simp -implicitDefEqProofs[l423_0,hi,hi',hs,hs',hg,hge,hg2,hge2,hws,hp,hml,hb']
 ·have e:(V.zip S).take V.length=V.zip S:=Yb (by omega);show Zd5 (evX (orc T) T 0 l423_0 (Zie _ _ V.length))=true∧Zde 0 0 _ (evX (orc T) T 0 l423_0 (Zie _ _ V.length))=_;unfold Zie;rw[e];generalize V.zip S=M at *
  constructor<;>simp -implicitDefEqProofs[l423_0]
theorem zmz(V S:List Fz)(hb:V.length≤1000) :
  Zb T 423 [.sl (Zd V) .an,.sl (Zd S) .an]=some (if V.length=S.length then .tup [.sl (Zb0 (V.zip S)) .an,.b true] else .tup [.sl [] .an,.b false]):=by
 by_cases hl:V.length=S.length
 ·rw[if_pos hl];have h:=zv1 (T:=T) V S hl hb;unfold Zie at h;simp only[Yo,Ycr,zle]at h;have zl:(V.zip S).length=V.length:=by rw[List.length_zip];omega
  have hl':(V.length:Int)=S.length:=by omega
  have ht:(V.zip S).take V.length=V.zip S:=Yb (by omega);generalize V.zip S=M at *
  rw[zaa Zz.h423 rfl,b423];simp -implicitDefEqProofs[h,hl.symm,zl,ht]
 ·rw[if_neg hl];have hl':¬ (V.length:Int)=S.length:=by omega
  rw[zaa Zz.h423 rfl,b423];simp -implicitDefEqProofs[hl,hl']
theorem z9c(t:Tp)(Q:PoD)(hs:TpS t)(s p L:Int)(h:Zev t Q.y.length Q.p.length=false) :
  Zaa T 425 [duM T,etp t,epd Q] [(.bor 0,bxG 0 s p L),(.bor 1,bxS 1 0)]=some (.tup [.sl [] .an,Zcq 2 0 0 0],[(.bor 0,bxG 0 s p L),(.bor 1,bxS 1 0)]):=by
 have hr:=zcr (T:=T) t hs.small;unfold Zev at h;rw[zah Zz.h425 rfl,b425];obtain⟨⟨⟨q0,q1,q2⟩,⟨q3,q4,q5⟩⟩,qy,qp⟩:=Q;dsimp only at h;cases hok:okT t with
 | false=>
  rw[hok]at hr;obtain⟨code,outs,dim,par⟩:=t;simp -implicitDefEqProofs[hr]
 | true=>
  rw[hok]at hr h;obtain⟨code,outs,dim,par⟩:=t;dsimp only at *
  by_cases h1:(qy.length:Int)=dim
  ·by_cases h2:(qp.length:Int)=par
   ·simp[h1,h2]at h
   ·simp -implicitDefEqProofs[hr,h1,h2]
  ·simp -implicitDefEqProofs[hr,h1]
theorem zzc(t:Tp)(P B:Po)(hs:TpS t)(lim:Nat)(hlim:lim≤4096)(s p:Int)(hP:PvS P 1000)(hB:PvS B 1000)(ly:P.y.length=B.y.length)(lp:P.p.length=B.p.length)(h:Zev t P.y.length P.p.length=true)(hk:(Zci lim P B t.code [] []).2.2.1=0) :
  ∃(s' p':Int) (kd:Kind),(kd=.own∨kd=.sh)∧Zaa T 425 [duM T,etp t,epd (dua P B)] [(.bor 0,bxG 0 s p lim),(.bor 1,bxS 1 0)] =
   some (.tup [.bs (.loc 8) 5 6 0 t.code.length,Zcq 0 0 0 0],[(.bor 0,bxG 0 s' p' lim),(.bor 1,bxS 1 0),(.loc 8,⟨5,kd,6,Zb0 (Z2 (Zci lim P B t.code [] []).1 (Zci lim P B t.code [] []).2.1)⟩)]):=by
 obtain⟨hok,h1,h2⟩:=zc3 h;have hr:=zcr (T:=T) t hs.small;obtain⟨r,⟨s',p',hend⟩,hl⟩:=zvy (T:=T) P B lim hlim t hok hs.ns h1 h2 ly lp hP hB s p;rw[(zi4 t).2 hok]at hr;rcases hend with ⟨_,kd,hkd,rfl⟩ | ⟨hne,_⟩
 ·unfold Zfw Zjj at hl;have e0:Z2 [] []=[]:=rfl;simp only[Yo,e0,zle]at hl;have hy:(Z2 P.y B.y).length=P.y.length:=za1 ly;have hp':(Z2 P.p B.p).length=P.p.length:=za1 lp;unfold dua at *
  generalize Z2 (Zci lim P B t.code [] []).1 (Zci lim P B t.code [] []).2.1=D at *
  generalize Z2 P.y B.y=Y at *
  generalize Z2 P.p B.p=PP at *
  generalize fz P.t=tt at *
  generalize fz B.t=tt' at *
  obtain⟨code,outs,dim,par⟩:=t;dsimp only at *
  refine⟨s',p',kd,hkd,?_⟩;rw[zah Zz.h425 rfl,b425];rcases hkd with rfl | rfl
  ·simp -implicitDefEqProofs[hr,h1,h2,hy,hp',hl]
  ·simp -implicitDefEqProofs[hr,h1,h2,hy,hp',hl]
 ·exact absurd hk hne
theorem zzd(t:Tp)(P B:Po)(hs:TpS t)(lim:Nat)(hlim:lim≤4096)(s p:Int)(hP:PvS P 1000)(hB:PvS B 1000)(ly:P.y.length=B.y.length)(lp:P.p.length=B.p.length)(h:Zev t P.y.length P.p.length=true)(hk:¬ (Zci lim P B t.code [] []).2.2.1=0) :
  ∃(s' p':Int),Zaa T 425 [duM T,etp t,epd (dua P B)] [(.bor 0,bxG 0 s p lim),(.bor 1,bxS 1 0)] =
   some (.tup [.sl [] .an,Zcq (Zci lim P B t.code [] []).2.2.1 0 0 (Zci lim P B t.code [] []).2.2.2.2],[(.bor 0,bxG 0 s' p' lim),(.bor 1,bxS 1 (Zci lim P B t.code [] []).2.2.2.1)]):=by
 obtain⟨hok,h1,h2⟩:=zc3 h;have hr:=zcr (T:=T) t hs.small;obtain⟨r,⟨s',p',hend⟩,hl⟩:=zvy (T:=T) P B lim hlim t hok hs.ns h1 h2 ly lp hP hB s p;rw[(zi4 t).2 hok]at hr;rcases hend with ⟨h0,_⟩ | ⟨_,rfl⟩
 ·exact absurd h0 hk
 ·unfold Zfw Zet at hl;have e0:Z2 [] []=[]:=rfl;simp only[Yo,e0,zle]at hl;have hy:(Z2 P.y B.y).length=P.y.length:=za1 ly;have hp':(Z2 P.p B.p).length=P.p.length:=za1 lp;unfold dua at *
  generalize (((Zci lim P B t.code [] []).2.2.1:Nat):Int)=kk at *
  generalize (((Zci lim P B t.code [] []).2.2.2.1:Nat):Int)=st at *
  generalize (((Zci lim P B t.code [] []).2.2.2.2:Nat):Int)=aa at *
  generalize Z2 P.y B.y=Y at *
  generalize Z2 P.p B.p=PP at *
  generalize fz P.t=tt at *
  generalize fz B.t=tt' at *
  obtain⟨code,outs,dim,par⟩:=t;dsimp only at *
  refine⟨s',p',?_⟩;rw[zah Zz.h425 rfl,b425];simp -implicitDefEqProofs[hr,h1,h2,hy,hp',hl]
end
section
variable{T:Tbl}[Z7 T][Zs T][Zw T][Zx T][Zt T][Zv T][Zf T][Zl T][Zq T][Z0 T][Zab T][Zbz T][Zad T][Z8 T][Zaw T][Zz T][Zdh T][Zco T]
theorem zv2(t:Tp)(x y:PoF)(bits:Int)(hs:TpS t)(hx:PoS x 1000)(hy:PoS y 1000) :
  Zb T 408 [etp t,ept x,ept y,.i .i64 bits]=some (.tup [.sl (Zb0 (Z2 (Z4 (Ze bits) t x.v y.v).1 (Z4 (Ze bits) t x.v y.v).2.1)) .an,
   Zcq (Z4 (Ze bits) t x.v y.v).2.2.1 0 (Z4 (Ze bits) t x.v y.v).2.2.2.1 (Z4 (Ze bits) t x.v y.v).2.2.2.2]):=by
 have hn:=zie (T:=T) x hx;have hn2:=zie (T:=T) y hy;have hg:=zid (T:=T) bits;obtain⟨hl1,hl2⟩:=zqi bits;rw[hl1]at hg;have hP:=z3x hx;have hB:=z3x hy;have xl:x.v.y.length=x.y.length:=Yau _;have xp:x.v.p.length=x.p.length:=Yau _;have p1:=zmz (T:=T) x.v.f.y y.v.f.y (by show (fzs _).length≤_;rw[zai,xl];exact hx.yl);have p2:=zmz (T:=T) x.v.f.p y.v.f.p (by show (fzs _).length≤_;rw[zai,xp];exact hx.pl);have z1:x.v.f.y.zip y.v.f.y=Z2 x.v.y y.v.y:=zk5 _ _;have z2:x.v.f.p.zip y.v.f.p=Z2 x.v.p y.v.p:=zk5 _ _;have l1:x.v.f.y.length=x.v.y.length∧y.v.f.y.length=y.v.y.length:=⟨zai _,zai _⟩;have l2:x.v.f.p.length=x.v.p.length∧y.v.f.p.length=y.v.p.length:=⟨zai _,zai _⟩;rw[z1,l1.1,l1.2]at p1;rw[z2,l2.1,l2.2]at p2;have ed:dua x.v y.v=⟨(x.v.f.t,y.v.f.t),Z2 x.v.y y.v.y,Z2 x.v.p y.v.p⟩:=rfl;by_cases a1:x.v.y.length=y.v.y.length
 ·rw[if_pos a1]at p1;by_cases a2:x.v.p.length=y.v.p.length
  ·rw[if_pos a2]at p2;cases hf:Zev t x.v.y.length x.v.p.length with
   | false=>
    have e:Z4 (Ze bits) t x.v y.v=([],[],2,0,0):=by unfold Z4;rw[if_neg (fun h=>by rw[hf]at h;exact absurd h.2.2 (by decide))]
    have hm:=z9c (T:=T) t (dua x.v y.v) hs 0 0 (Ze bits) (by rw[ed];dsimp only;rw[za1 a1,za1 a2];exact hf);rw[e];have e0:Z2 [] []=[]:=rfl;dsimp only;rw[ed]at hm;rw[e0,zaa Zz.h408 rfl,b408];clear e ed z1 z2 l1 l2 hP hB xl xp hf hl1 hl2 hx hy hs a1 a2;generalize Z2 x.v.y y.v.y=Zy at *
    generalize Z2 x.v.p y.v.p=Zp at *
    generalize x.v.f=X at *
    generalize y.v.f=Y at *
    obtain⟨code,outs,dim,par⟩:=t;obtain⟨⟨q0,q1,q2⟩,qy,qp⟩:=X;obtain⟨⟨r0,r1,r2⟩,ry,rp⟩:=Y;obtain⟨⟨x0,x1,x2⟩,xy,xp⟩:=x;obtain⟨⟨y0,y1,y2⟩,yy,yp⟩:=y;dsimp only at *
    simp -implicitDefEqProofs[hn,hn2,hg,hm,p1,p2]
   | true=>
    have e:Z4 (Ze bits) t x.v y.v=Zci (Ze bits) x.v y.v t.code [] []:=by unfold Z4;rw[if_pos ⟨a1,a2,hf⟩]
    rw[e];by_cases hk:(Zci (Ze bits) x.v y.v t.code [] []).2.2.1=0
    ·obtain⟨s',p',kd,hkd,hm⟩:=zzc (T:=T) t x.v y.v hs (Ze bits) hl2 0 0 hP hB a1 a2 hf hk;obtain⟨V',S',e1,e2,e3,_⟩:=zpb (Ze bits) x.v y.v t.dim t.par t.code [] [] rfl (fun k i hi=>by
      have:=(zc3 hf).1.may k i hi
      rwa [Ybo,Yaj]) hk
     rw[Yae,Yae]at e1;rw[e1]at hm ⊢;dsimp only at hm ⊢;have hfl:(Z2 V' S').length=t.code.length:=by rw[za1 (e2.trans e3.symm),e2]
     have ht:List.take t.code.length (Z2 V' S')=Z2 V' S':=Yb (by omega);rw[ed]at hm;rw[zaa Zz.h408 rfl,b408];clear e e1 e2 e3 hk ed z1 z2 l1 l2 hP hB xl xp hf hl1 hl2 hx hy hs a1 a2;generalize Z2 V' S'=D at *
     generalize Z2 x.v.y y.v.y=Zy at *
     generalize Z2 x.v.p y.v.p=Zp at *
     generalize x.v.f=X at *
     generalize y.v.f=Y at *
     obtain⟨code,outs,dim,par⟩:=t;obtain⟨⟨q0,q1,q2⟩,qy,qp⟩:=X;obtain⟨⟨r0,r1,r2⟩,ry,rp⟩:=Y;obtain⟨⟨x0,x1,x2⟩,xy,xp⟩:=x;obtain⟨⟨y0,y1,y2⟩,yy,yp⟩:=y;dsimp only at *
     rcases hkd with rfl | rfl
     ·simp -implicitDefEqProofs[hn,hn2,hg,hm,p1,p2,hfl,ht]
     ·simp -implicitDefEqProofs[hn,hn2,hg,hm,p1,p2,hfl,ht]
    ·obtain⟨s',p',hm⟩:=zzd (T:=T) t x.v y.v hs (Ze bits) hl2 0 0 hP hB a1 a2 hf hk;have en:∀(l:List Ins) (V S:List Rat),¬ (Zci (Ze bits) x.v y.v l V S).2.2.1=0→Z2 (Zci (Ze bits) x.v y.v l V S).1 (Zci (Ze bits) x.v y.v l V S).2.1=[]:=by
      intro l
      induction l with
      | nil=>intro V S h;exact absurd rfl h
      | cons i r ih=>
       intro V S h;rw[zen]at h ⊢;split
       ·rfl
       ·rename_i h1;rw[if_neg h1]at h;split
        ·rfl
        ·rename_i h2;rw[if_neg h2]at h;split
         ·rfl
         ·rename_i h3;rw[if_neg h3]at h;exact ih _ _ h
     rw[en _ _ _ hk];rw[ed]at hm;rw[zaa Zz.h408 rfl,b408];clear en e hk ed z1 z2 l1 l2 hP hB xl xp hf hl1 hl2 hx hy hs a1 a2;generalize (((Zci (Ze bits) x.v y.v t.code [] []).2.2.1:Nat):Int)=kk at *
     generalize (((Zci (Ze bits) x.v y.v t.code [] []).2.2.2.1:Nat):Int)=st at *
     generalize (((Zci (Ze bits) x.v y.v t.code [] []).2.2.2.2:Nat):Int)=aa at *
     generalize Z2 x.v.y y.v.y=Zy at *
     generalize Z2 x.v.p y.v.p=Zp at *
     generalize x.v.f=X at *
     generalize y.v.f=Y at *
     obtain⟨code,outs,dim,par⟩:=t;obtain⟨⟨q0,q1,q2⟩,qy,qp⟩:=X;obtain⟨⟨r0,r1,r2⟩,ry,rp⟩:=Y;obtain⟨⟨x0,x1,x2⟩,xy,xp⟩:=x;obtain⟨⟨y0,y1,y2⟩,yy,yp⟩:=y;dsimp only at *
     simp -implicitDefEqProofs[hn,hn2,hg,hm,p1,p2]
  ·rw[if_neg a2]at p2;have e:Z4 (Ze bits) t x.v y.v=([],[],2,0,0):=by unfold Z4;rw[if_neg (fun h=>a2 h.2.1)]
   rw[e];have e0:Z2 [] []=[]:=rfl;dsimp only;rw[e0,zaa Zz.h408 rfl,b408];clear e ed z1 z2 l1 l2 hP hB xl xp hl1 hl2 hx hy hs a1 a2;generalize Z2 x.v.y y.v.y=Zy at *
   generalize x.v.f=X at *
   generalize y.v.f=Y at *
   obtain⟨code,outs,dim,par⟩:=t;obtain⟨⟨q0,q1,q2⟩,qy,qp⟩:=X;obtain⟨⟨r0,r1,r2⟩,ry,rp⟩:=Y;obtain⟨⟨x0,x1,x2⟩,xy,xp⟩:=x;obtain⟨⟨y0,y1,y2⟩,yy,yp⟩:=y;dsimp only at *
   simp -implicitDefEqProofs[hn,hn2,p1,p2]
 ·rw[if_neg a1]at p1;have e:Z4 (Ze bits) t x.v y.v=([],[],2,0,0):=by unfold Z4;rw[if_neg (fun h=>a1 h.1)]
  rw[e];have e0:Z2 [] []=[]:=rfl;dsimp only;have p2':∃(Z:List Du) (b:Bool),Zb T 423 [.sl (Zd x.v.f.p) .an,.sl (Zd y.v.f.p) .an]=some (.tup [.sl (Zb0 Z) .an,.b b]):=by
   by_cases a2:x.v.p.length=y.v.p.length
   ·rw[if_pos a2]at p2;exact⟨_,_,p2⟩
   ·rw[if_neg a2]at p2;exact⟨[],_,p2⟩
  obtain⟨Z,b,p2'⟩:=p2';rw[e0,zaa Zz.h408 rfl,b408];clear e ed z1 z2 l1 l2 hP hB xl xp hl1 hl2 hx hy hs a1 p2;generalize x.v.f=X at *
  generalize y.v.f=Y at *
  obtain⟨code,outs,dim,par⟩:=t;obtain⟨⟨q0,q1,q2⟩,qy,qp⟩:=X;obtain⟨⟨r0,r1,r2⟩,ry,rp⟩:=Y;obtain⟨⟨x0,x1,x2⟩,xy,xp⟩:=x;obtain⟨⟨y0,y1,y2⟩,yy,yp⟩:=y;dsimp only at *
  cases b<;>simp -implicitDefEqProofs[hn,hn2,p1,p2']
end
section
variable{T:Tbl}[Z7 T][Zs T][Zw T][Zx T][Zt T][Zv T][Zf T][Zl T][Zq T][Z0 T][Zab T][Zbz T][Zad T][Z8 T][Zaw T][Zz T][Zdh T][Zco T]
def Zif(D:List Du)(outs:List Int)(A C:List Fz)(i:Nat):St:=
 ⟨[(8,.bs (.loc 8) 1 3 0 i),(9,.bs (.loc 9) 2 3 0 i),(10,.ptr (.loc 10) 3 4 0 0),(11,.sl (Zb0 D) .an),(27,.sl (ints outs) .an),(28,.i .i64 outs.length),(29,.i .i64 i)],
  [(.loc 8,⟨1,.own,3,Zd (A.take i)⟩),(.loc 9,⟨2,.own,3,Zd (C.take i)⟩),(.loc 10,bxF 3 0 0 0 0)],5⟩
theorem zr7(V S:List Rat)(outs:List Int)(hl:V.length=S.length)(ho:outs.length≤1000)(hr:∀o∈outs,0≤o∧o<V.length) :
  Zn T 0 0 (.norm false [8,9,10]) l388_0 (Zif (Z2 V S) outs (fzs (outs.map (gI V))) (fzs (outs.map (gI S))) 0) =
   some (.n,⟨[(8,.bs (.loc 8) 1 3 0 outs.length),(9,.bs (.loc 9) 2 3 0 outs.length),(10,.ptr (.loc 10) 3 4 0 0)],
    [(.loc 8,⟨1,.own,3,Zd (fzs (outs.map (gI V)))⟩),(.loc 9,⟨2,.own,3,Zd (fzs (outs.map (gI S)))⟩),(.loc 10,bxF 3 0 0 0 0)],5⟩):=by
 have el:∀V:List Rat,(fzs (outs.map (gI V))).length=outs.length:=fun V=>by rw[zai,Yau]
 refine za0 (fun i=>Zif (Z2 V S) outs (fzs (outs.map (gI V))) (fzs (outs.map (gI S))) i) outs.length _ (fun i hi=>?_) ?_
 ·have hg:outs[i]? = some (outs[i]'hi):=Ya hi;have hge:=(Yd.1 hg).2;have hws:=zbs hi (by omega);have hmem:=Yn hi;obtain⟨k,hk1,hk2,hk3,hka⟩:=ziy (hr _ hmem) hl;have hkae:=(Yd.1 hka).2;have step:∀V:List Rat,(fzs (outs.map (gI V))).take (i+1)=(fzs (outs.map (gI V))).take i++[fz (gI V (outs[i]'hi))]:=fun V=>by
   have hx:(fzs (outs.map (gI V)))[i]? = some (fz (gI V (outs[i]'hi))):=zgu (by simp[hg]);rw[Ycd,hx]
   rfl
  have hml:∀V:List Rat,((fzs (outs.map (gI V))).take i).length=i:=fun V=>by rw[Ya8,el];omega
  have hp1:=zcj (hml V) (fz (gI V (outs[i]'hi)));have hp2:=zcj (hml S) (fz (gI S (outs[i]'hi)));have m1:=hml V;have m2:=hml S;have hfl:(Z2 V S).length=V.length:=za1 hl;have hi':(i:Int)<outs.length:=by omega
  have hb:i≤4294967295:=by omega
  show evX (orc T) T 0 l388_0 (Zif _ _ _ _ i)=some (.n,Zif _ _ _ _ (i+1));unfold Zif;rw[step V,step S];clear step hml el;generalize (fzs (outs.map (gI V))).take i=M at *
  generalize (fzs (outs.map (gI S))).take i=N at *
  generalize fz (gI V (outs[i]'hi))=z at *
  generalize fz (gI S (outs[i]'hi))=z' at *
  generalize Z2 V S=DD at *
  generalize outs[i]'hi=o at *
  subst hk1;simp -implicitDefEqProofs[l388_0,hi,hi',hg,hge,hws,hk2,hk3,hka,hkae,hfl,hp1,hp2,m1,m2,hb]
 ·have e:∀V:List Rat,(fzs (outs.map (gI V))).take outs.length=fzs (outs.map (gI V)):=fun V=>Yb (by rw[el];omega);show Zd5 (evX (orc T) T 0 l388_0 (Zif _ _ _ _ outs.length))=true∧Zde 0 0 _ (evX (orc T) T 0 l388_0 (Zif _ _ _ _ outs.length))=_;unfold Zif;rw[e V,e S];generalize fzs (outs.map (gI V))=M at *
  generalize fzs (outs.map (gI S))=N at *
  generalize Z2 V S=DD at *
  constructor<;>simp -implicitDefEqProofs[l388_0]
theorem zr8(t:Tp)(x y:PoF)(bits:Int)(hs:TpS t)(hx:PoS x 1000)(hy:PoS y 1000) :
  Zb T 388 [etp t,ept x,ept y,.i .i64 bits]=some (.tup [.sl (Zd (fzs (Zcd (Ze bits) t x.v y.v).1)) .an,.sl (Zd (fzs (Zcd (Ze bits) t x.v y.v).2.1)) .an,
   Zcq (Zcd (Ze bits) t x.v y.v).2.2.1 0 (Zcd (Ze bits) t x.v y.v).2.2.2.1 (Zcd (Ze bits) t x.v y.v).2.2.2.2]):=by
 have h:=zv2 (T:=T) t x y bits hs hx hy;have e0:fzs []=[]:=rfl;unfold Zcd;by_cases hk:(Z4 (Ze bits) t x.v y.v).2.2.1=0
 ·obtain⟨hok,_,_,_,_,e1,_,n1,n2,_,_⟩:=zz7 hk;rw[if_pos hk];rw[e1]at h;have hl:=zr7 (T:=T) (Z4 (Ze bits) t x.v y.v).1 (Z4 (Ze bits) t x.v y.v).2.1 t.outs (n1.trans n2.symm) (by have:=hok.ol;have:=hok.d2;omega) (fun o ho=>by rw[n1];exact hok.outs o ho);unfold Zif at hl;simp only[Yo,Ycr,zb5]at hl;have el:∀V:List Rat,(fzs (t.outs.map (gI V))).length=t.outs.length:=fun V=>by rw[zai,Yau]
  have f1:=el (Z4 (Ze bits) t x.v y.v).1;have f2:=el (Z4 (Ze bits) t x.v y.v).2.1;unfold Zhh;dsimp only at h ⊢;clear e1 n1 n2 hk hok el hs hx hy;generalize fzs (t.outs.map (gI (Z4 (Ze bits) t x.v y.v).1))=A at *
  generalize fzs (t.outs.map (gI (Z4 (Ze bits) t x.v y.v).2.1))=C at *
  generalize Z2 (Z4 (Ze bits) t x.v y.v).1 (Z4 (Ze bits) t x.v y.v).2.1=D at *
  have t1:List.take t.outs.length A=A:=Yb (by omega);have t2:List.take t.outs.length C=C:=Yb (by omega);obtain⟨code,outs,dim,par⟩:=t;obtain⟨⟨x0,x1,x2⟩,xy,xp⟩:=x;obtain⟨⟨y0,y1,y2⟩,yy,yp⟩:=y;dsimp only at *
  rw[zaa Zz.h388 rfl,b388];simp -implicitDefEqProofs[h,hl,f1,f2,t1,t2]
 ·rw[if_neg hk,e0];have hk':¬ (((Z4 (Ze bits) t x.v y.v).2.2.1:Nat):Int)=0:=by omega
  clear hk;generalize (((Z4 (Ze bits) t x.v y.v).2.2.1:Nat):Int)=kk at *
  generalize (((Z4 (Ze bits) t x.v y.v).2.2.2.1:Nat):Int)=st at *
  generalize (((Z4 (Ze bits) t x.v y.v).2.2.2.2:Nat):Int)=aa at *
  generalize Z2 (Z4 (Ze bits) t x.v y.v).1 (Z4 (Ze bits) t x.v y.v).2.1=D at *
  obtain⟨code,outs,dim,par⟩:=t;obtain⟨⟨x0,x1,x2⟩,xy,xp⟩:=x;obtain⟨⟨y0,y1,y2⟩,yy,yp⟩:=y;rw[zaa Zz.h388 rfl,b388];simp -implicitDefEqProofs[h,hk']
end
def noJ:JcF:=⟨[],[],[]⟩
def Ze8(t:Tp):Nat:=max t.outs.length 1
def Zb8(lim:Nat)(t:Tp)(P:Po):List PoF×Nat×Nat×Nat:=Zat (Zek lim t P) (Ze8 t) 0 []
def Zhi(lim:Nat)(t:Tp)(P:Po):JcF:=if (Zb8 lim t P).2.1=0 then Zik (Zb8 lim t P).1 else noJ
section
variable{T:Tbl}[Z7 T][Zs T][Zw T][Zx T][Zt T][Zv T][Zf T][Zl T][Zq T][Z0 T][Zab T][Zbz T][Zad T][Z8 T][Zaw T][Za4 T][Zei T][Z6 T][Zau T][Zax T][Za6 T][Z3 T][Z1 T][Zc5 T][Zc6 T]
theorem zsm(t:Tp)(x:PoF)(bits:Int)(hs:TpS t)(hx:PoS x 1000)(hl:t.code.length≤20)(ho:t.outs.length≤1000) :
  Zb T 403 [etp t,ept x,.i .i64 bits]=some (.tup [Zij (Zhi (Ze bits) t x.v),Zcq (Zb8 (Ze bits) t x.v).2.1 0 (Zb8 (Ze bits) t x.v).2.2.1 (Zb8 (Ze bits) t x.v).2.2.2]):=by
 have hn:Ze8 t≤1000:=by unfold Ze8;omega
 have g:=zsl (T:=T) t x bits (Ze8 t) hn hs hx hl;have hmm:(if (t.outs.length:Int)<1 then 1 else (t.outs.length:Int))=(Ze8 t:Int):=by unfold Ze8;split<;>omega
 unfold Zhi;have hR:Zb8 (Ze bits) t x.v=Zat (Zek (Ze bits) t x.v) (Ze8 t) 0 []:=rfl;rw[←hR]at g;by_cases hk:(Zb8 (Ze bits) t x.v).2.1=0
 ·rw[if_pos hk];have hgk:=hk;rw[hR]at hgk;obtain⟨e1,e2,_⟩:=zfg _ _ _ _ hgk;rw[←hR]at e1 e2;have hl2:(Zb8 (Ze bits) t x.v).1.length=Ze8 t:=by rw[e1];simp
  have lp:=zwy (T:=T) (Zb8 (Ze bits) t x.v).1 (by omega);unfold Zja at lp;simp only[Yo,Ycr,Ydf,zb5,zgf]at lp;rw[hk,e2]at g ⊢;clear e1 e2 hk hgk hR hs hx;have j1:(Zik (Zb8 (Ze bits) t x.v).1).t.length=(Zb8 (Ze bits) t x.v).1.length:=Yau _;have j2:(Zik (Zb8 (Ze bits) t x.v).1).y.length=(Zb8 (Ze bits) t x.v).1.length:=Yau _;have j3:(Zik (Zb8 (Ze bits) t x.v).1).p.length=(Zb8 (Ze bits) t x.v).1.length:=Yau _;generalize Zik (Zb8 (Ze bits) t x.v).1=J at *
  generalize (Zb8 (Ze bits) t x.v).1=L at *
  generalize Ze8 t=n at *
  obtain⟨code,outs,dim,par⟩:=t;obtain⟨⟨x0,x1,x2⟩,xy,xp⟩:=x;obtain⟨jt,jy,jp⟩:=J;dsimp only at *
  have t1:List.take L.length jt=jt:=Yb (by omega);have t2:List.take L.length jy=jy:=Yb (by omega);have t3:List.take L.length jp=jp:=Yb (by omega);rw[zaa Z1.h403 rfl,b403];simp -implicitDefEqProofs[mm2,hmm,g,lp,j1,j2,j3,t1,t2,t3]
 ·rw[if_neg hk];have hk':¬ (((Zb8 (Ze bits) t x.v).2.1:Nat):Int)=0:=by omega
  clear hk hs hx;generalize (((Zb8 (Ze bits) t x.v).2.1:Nat):Int)=kk at *
  generalize (((Zb8 (Ze bits) t x.v).2.2.1:Nat):Int)=ss at *
  generalize (((Zb8 (Ze bits) t x.v).2.2.2:Nat):Int)=aa at *
  generalize (Zb8 (Ze bits) t x.v).1=L at *
  generalize Ze8 t=n at *
  unfold noJ;obtain⟨code,outs,dim,par⟩:=t;obtain⟨⟨x0,x1,x2⟩,xy,xp⟩:=x;dsimp only at *
  rw[zaa Z1.h403 rfl,b403];simp -implicitDefEqProofs[mm2,hmm,g,hk']
end
def Zga(n m i:Nat):PoF:=
 if i=0 then ⟨fz 1,List.replicate n (fz 0),List.replicate m (fz 0)⟩
 else if i≤n then ⟨(false,[],[]),fzs (Zcl n ((i:Int)-1)),List.replicate m (fz 0)⟩
 else ⟨(false,[],[]),List.replicate n (fz 0),fzs (Zcl m ((i:Int)-1-n))⟩
theorem zk9{n:Nat}:∀u∈List.replicate n (fz 0),fsz u≤1:=fun u hu=>by
 rw[Ya5 hu,zaw];exact Ycx zb9
theorem zqk{n i:Int}:∀u∈fzs (Zcl n i),fsz u≤1:=fun u hu=>by
 obtain⟨q,hq,rfl⟩:=Y2.1 hu;rw[zaw];exact zqj hq
theorem zg6(n i:Int):(Zcl n i).length=Zar n:=by
 unfold Zcl;split
 ·rw[List.length_set,Ya1]
 ·rw[Ya1]
theorem zj8{n:Nat}(h:n≤300):Zar n=n:=by unfold Zar;omega
theorem zzr{n m:Nat}(i:Nat)(hn:n≤300)(hm:m≤300):(Zga n m i).y.length=n∧(Zga n m i).p.length=m:=by
 unfold Zga;split
 ·simp
 ·split
  ·dsimp only;rw[zai,zg6,zj8 hn,Ya1];exact⟨rfl,rfl⟩
  ·dsimp only;rw[zai,zg6,zj8 hm,Ya1];exact⟨rfl,rfl⟩
theorem z9p{n m:Nat}(i:Nat)(hn:n≤300)(hm:m≤300):PoS (Zga n m i) 1:=by
 obtain⟨l1,l2⟩:=zzr i hn hm;have key:fsz (Zga n m i).t≤1∧(∀u∈(Zga n m i).y,fsz u≤1)∧∀u∈(Zga n m i).p,fsz u≤1:=by
  unfold Zga;split
  ·exact⟨by dsimp only;rw[zaw];exact z84 (by decide) (by decide),zk9,zk9⟩
  ·split
   ·exact⟨by show fsz ((false,[],[]):Fz)≤1;decide,zqk,zk9⟩
   ·exact⟨by show fsz ((false,[],[]):Fz)≤1;decide,zk9,zqk⟩
 exact⟨key.1,key.2.1,key.2.2,by omega,by omega⟩
def Zdl(lim:Nat)(t:Tp)(x:PoF)(i:Nat):List Fz×Nat×Nat×Nat:=(fzs (Zcd lim t x.v (Zga x.y.length x.p.length i).v).2.1,(Zcd lim t x.v (Zga x.y.length x.p.length i).v).2.2)
theorem zo4{lim:Nat}{t:Tp}{P B:Po}(h:(Zcd lim t P B).2.2.1=0):(Z4 lim t P B).2.2.1=0∧Zcd lim t P B=(Zhh t (Z4 lim t P B).1,Zhh t (Z4 lim t P B).2.1,0,0,0):=by
 unfold Zcd at h ⊢;by_cases hk:(Z4 lim t P B).2.2.1=0
 ·rw[if_pos hk];exact⟨hk,rfl⟩
 ·rw[if_neg hk]at h;exact absurd h hk
def Zjw(T:Tbl)(X:AV)(n i:Nat)(acc:List (List Fz)):St:=
 ⟨[(1,.fnv (Zo T 500418) X),(5,.ptr (.loc 5) 1 4 0 0),(6,.bs (.loc 6) 2 1 0 i),(10,.i .i64 n),(11,.i .i64 i)],[(.loc 5,bxF 1 0 0 0 0),(.loc 6,⟨2,.own,1,Zu acc⟩)],4⟩
def Ziy(R:List (List Fz)×Nat×Nat×Nat)(n:Nat):Ex×St:=
 if R.2.1=0 then (.n,⟨[(5,.ptr (.loc 5) 1 4 0 0),(6,.bs (.loc 6) 2 1 0 n)],[(.loc 5,bxF 1 0 0 0 0),(.loc 6,⟨2,.own,1,Zu R.1⟩)],4⟩)
 else (.r,⟨[(4,.sl [] .an),(5,.ptr (.loc 5) 1 4 0 0)],[(.loc 5,bxF 1 R.2.1 0 R.2.2.1 R.2.2.2)],3⟩)
section
variable{T:Tbl}[Z7 T][Zs T][Zw T][Zx T][Zt T][Zv T][Zf T][Zl T][Zq T][Z0 T][Zab T][Zbz T][Zad T][Z8 T][Zaw T][Za4 T][Zei T][Z6 T][Zau T][Zax T][Za6 T][Z3 T][Zz T][Zdh T][Zco T][Z1 T][Zc5 T][Zc6 T]
theorem zo5(t:Tp)(x:PoF)(bits:Int)(hy:x.y.length≤300)(hp:x.p.length≤300) :
  Zb T 429 [epl t x bits]=some (ept ⟨(false,[],[]),List.replicate x.y.length (fz 0),List.replicate x.p.length (fz 0)⟩):=by
 have z1:=zqe (T:=T) x.y.length hy;have z2:=zqe (T:=T) x.p.length hp;obtain⟨code,outs,dim,par⟩:=t;obtain⟨⟨x0,x1,x2⟩,xy,xp⟩:=x;dsimp only at *
 generalize List.replicate xy.length (fz 0)=R1 at *
 generalize List.replicate xp.length (fz 0)=R2 at *
 rw[zaa Z1.h429 rfl,b429];simp -implicitDefEqProofs[z1,z2]
theorem zwz(t:Tp)(x:PoF)(bits:Int)(i:Nat)(hi:i≤1000)(hs:TpS t)(hx:PoS x 1000)(hy:x.y.length≤300)(hp:x.p.length≤300) :
  Zb T 418 [epl t x bits,.i .i64 i]=some (.tup [.sl (Zd (Zdl (Ze bits) t x i).1) .an,Zcq (Zdl (Ze bits) t x i).2.1 0 (Zdl (Ze bits) t x i).2.2.1 (Zdl (Ze bits) t x i).2.2.2]):=by
 have st:=zo5 (T:=T) t x bits hy hp;have o1:=zp7 (T:=T);have hd:=z9p i hy hp;have b:=zr8 (T:=T) t x (Zga x.y.length x.p.length i) bits hs hx ⟨Yc hd.t (by decide),fun u hu=>Yc (hd.y u hu) (by decide),fun u hu=>Yc (hd.p u hu) (by decide),hd.yl,hd.pl⟩;have u1:=zel (T:=T) x.y.length ((i:Int)-1);have u2:=zel (T:=T) x.p.length ((i:Int)-1-x.y.length);have w1:IntKind.wrap .i64 ((i:Int)-1)=(i:Int)-1:=zad _ (by omega);have w2:IntKind.wrap .i64 ((i:Int)-1-x.y.length)=(i:Int)-1-x.y.length:=zad _ (by omega);unfold Zdl;dsimp only;generalize Zcd (Ze bits) t x.v (Zga x.y.length x.p.length i).v=D at *
 obtain⟨D1,D2,k,s,a⟩:=D;dsimp only at *
 generalize ((k:Nat):Int)=kk at *
 generalize ((s:Nat):Int)=ss at *
 generalize ((a:Nat):Int)=aa at *
 generalize fzs D1=E1 at *
 generalize fzs D2=E2 at *
 unfold Zga at b;by_cases h0:i=0
 ·rw[if_pos h0]at b;subst h0;clear u1 u2 w1 w2 hd hx hs;obtain⟨code,outs,dim,par⟩:=t;obtain⟨⟨x0,x1,x2⟩,xy,xp⟩:=x;dsimp only at *
  generalize List.replicate xy.length (fz 0)=R1 at *
  generalize List.replicate xp.length (fz 0)=R2 at *
  generalize fz 1=O at *
  rw[zaa Z1.h418 rfl,b418];simp -implicitDefEqProofs[st,o1,b]
 ·rw[if_neg h0]at b;have h0':¬ (i:Int)=0:=by omega
  by_cases h1:i≤x.y.length
  ·rw[if_pos h1]at b;have h1':(i:Int)≤x.y.length:=by omega
   clear u2 w2 hd hx hs;obtain⟨code,outs,dim,par⟩:=t;obtain⟨⟨x0,x1,x2⟩,xy,xp⟩:=x;dsimp only at *
   generalize List.replicate xy.length (fz 0)=R1 at *
   generalize List.replicate xp.length (fz 0)=R2 at *
   generalize fzs (Zcl xy.length ((i:Int)-1))=U at *
   replace b:Zb T 388 [.agg [.sl (Zdf code) .an,.sl (ints outs) .an,.i .i64 dim,.i .i64 par],.agg [.b x0,.sl (Za x1) .an,.sl (Za x2) .an,.sl (Zd xy) .an,.sl (Zd xp) .an],.agg [.b false,.sl [] .an,.sl [] .an,.sl (Zd U) .an,.sl (Zd R2) .an],.i .i64 bits]=some (.tup [.sl (Zd E1) .an,.sl (Zd E2) .an,Zcq kk 0 ss aa]):=b;rw[zaa Z1.h418 rfl,b418];simp -implicitDefEqProofs[st,u1,w1,b,h0,h0',h1,h1']
  ·rw[if_neg h1]at b;have h1':¬ (i:Int)≤x.y.length:=by omega
   clear u1 hd hx hs;obtain⟨code,outs,dim,par⟩:=t;obtain⟨⟨x0,x1,x2⟩,xy,xp⟩:=x;dsimp only at *
   generalize List.replicate xy.length (fz 0)=R1 at *
   generalize List.replicate xp.length (fz 0)=R2 at *
   generalize fzs (Zcl xp.length ((i:Int)-1-xy.length))=U at *
   replace b:Zb T 388 [.agg [.sl (Zdf code) .an,.sl (ints outs) .an,.i .i64 dim,.i .i64 par],.agg [.b x0,.sl (Za x1) .an,.sl (Za x2) .an,.sl (Zd xy) .an,.sl (Zd xp) .an],.agg [.b false,.sl [] .an,.sl [] .an,.sl (Zd R1) .an,.sl (Zd U) .an],.i .i64 bits]=some (.tup [.sl (Zd E1) .an,.sl (Zd E2) .an,Zcq kk 0 ss aa]):=b;rw[zaa Z1.h418 rfl,b418];simp -implicitDefEqProofs[st,u2,w1,w2,b,h0,h0',h1,h1']
theorem znf(t:Tp)(q:PoF)(bits:Int)(n:Nat)(hn:n≤1000)(F:Nat→List Fz×Nat×Nat×Nat)(c:∀i:Nat,i<n→Zb T 418 [epl t q bits,.i .i64 i]=some (.tup [.sl (Zd (F i).1) .an,Zcq (F i).2.1 0 (F i).2.2.1 (F i).2.2.2]))
  (h0:∀i:Nat,i<n→(F i).2.1=0→(F i).2.2=(0,0)) :
  Zn T 0 0 (.norm false [5,6]) l417_0 (Zjw T (epl t q bits) n 0 [])=some (Ziy (Zat F n 0 []) n):=by
 have key:=zaz (T:=T) (k:=0) (id:=0) (g2:=.norm false [5,6]) (c:=l417_0) (fun x:Nat×List (List Fz)=>Zjw T (epl t q bits) n x.1 x.2)
  (fun x=>x.1≤n∧x.2.length=x.1) (fun x=>n-x.1)
  (fun x=>some (Ziy (Zat F (n-x.1) x.1 x.2) n)) ?_ (0,[]) ⟨Yr _,rfl⟩
 ·exact key
 rintro⟨i,acc⟩ ⟨hi,hal⟩
 obtain⟨code,outs,dim,par⟩:=t;obtain⟨⟨q0,q1,q2⟩,qy,qp⟩:=q;dsimp only at *
 by_cases hlt:i<n
 ·have ci:=c i hlt;have hi':(i:Int)<n:=by omega
  have hws:=zbs hlt (by omega);have hb:i≤4294967295:=by omega
  have ht:List.take i acc=acc:=Yb (by omega);obtain⟨m,hm⟩:∃m,n-i=m+1:=⟨n-i-1,by omega⟩;rw[hm,Zat];by_cases hk:(F i).2.1=0
  ·left;have h00:=h0 i hlt hk;refine⟨(i+1,acc++[(F i).1]),⟨by omega,by simp[hal]⟩,by dsimp only;omega,?_,?_⟩
   ·rw[hk,h00]at ci;have hp:=zgv hal (F i).1;rw[ht]at hp;generalize (F i).1=G at *
    unfold Zjw;simp -implicitDefEqProofs[l417_0,hi',hlt,hws,ci,hp,ht,hal,hb]
   ·rw[if_pos hk,show n-(i+1)=m by omega]
  ·right;have hk':¬ (((F i).2.1:Nat):Int)=0:=by omega
   rw[if_neg hk];unfold Zjw Ziy;dsimp only;rw[if_neg hk];generalize (((F i).2.1:Nat):Int)=kk at *
   generalize (((F i).2.2.1:Nat):Int)=ss at *
   generalize (((F i).2.2.2:Nat):Int)=aa at *
   generalize (F i).1=G at *
   constructor<;>simp -implicitDefEqProofs[l417_0,hi',hlt,ci,hk']
 ·right;have e:i=n:=by omega
  subst e;have ht:List.take i acc=acc:=Yb (by omega);rw[Ybn,Zat];unfold Zjw Ziy;rw[if_pos rfl];constructor<;>simp -implicitDefEqProofs[l417_0]
theorem zsn(t:Tp)(x:PoF)(bits:Int)(n:Nat)(hn:n≤1000)(hs:TpS t)(hx:PoS x 1000)(hy:x.y.length≤300)(hp:x.p.length≤300) :
  Zb T 417 [.i .i64 n,.fnv (Zo T 500418) (epl t x bits)]=some (.tup [.sl (Zu (Zat (Zdl (Ze bits) t x) n 0 []).1) .an,
   Zcq (Zat (Zdl (Ze bits) t x) n 0 []).2.1 0 (Zat (Zdl (Ze bits) t x) n 0 []).2.2.1 (Zat (Zdl (Ze bits) t x) n 0 []).2.2.2]):=by
 have h:=znf (T:=T) t x bits n hn (Zdl (Ze bits) t x) (fun i hi=>zwz t x bits i (by omega) hs hx hy hp) (fun i _ hk=>by
  unfold Zdl at hk ⊢;rw[(zo4 hk).2])
 unfold Zjw Ziy at h;simp only[Yo,zgf]at h;by_cases hk:(Zat (Zdl (Ze bits) t x) n 0 []).2.1=0
 ·obtain⟨e1,e2,_⟩:=zfg _ _ _ _ hk;rw[if_pos hk]at h;have hl2:(Zat (Zdl (Ze bits) t x) n 0 []).1.length=n:=by rw[e1];simp
  rw[hk,e2];clear e1 e2 hk hs hx;generalize (Zat (Zdl (Ze bits) t x) n 0 []).1=L at *
  have ht:List.take n L=L:=Yb (by omega);obtain⟨code,outs,dim,par⟩:=t;obtain⟨⟨x0,x1,x2⟩,xy,xp⟩:=x;rw[zaa Z1.h417 rfl,b417];simp -implicitDefEqProofs[h,hl2,ht]
 ·rw[if_neg hk]at h;rw[zga _ _ _ _ hk];generalize (((Zat (Zdl (Ze bits) t x) n 0 []).2.1:Nat):Int)=kk at *
  generalize (((Zat (Zdl (Ze bits) t x) n 0 []).2.2.1:Nat):Int)=ss at *
  generalize (((Zat (Zdl (Ze bits) t x) n 0 []).2.2.2:Nat):Int)=aa at *
  obtain⟨code,outs,dim,par⟩:=t;obtain⟨⟨x0,x1,x2⟩,xy,xp⟩:=x;rw[zaa Z1.h417 rfl,b417];simp -implicitDefEqProofs[h]
end
def Zjx(l:List (List Fz))(many:Nat):List (List Fz):=if l=[] then List.replicate many [] else if Zfk l then Zcu l (Zan l) else []
def Zda(lim:Nat)(t:Tp)(x:PoF):List (List Fz)×Nat×Nat×Nat:=Zat (Zdl lim t x) (1+x.y.length+x.p.length) 0 []
def Zmd(L:List (List Fz))(n many:Nat):JcF:=⟨L.getD 0 [],Zjx ((L.take (1+n)).tail) many,Zjx (L.drop (1+n)) many⟩
def Zhj(lim:Nat)(t:Tp)(x:PoF):JcF:=if (Zda lim t x).2.1=0 then Zmd (Zda lim t x).1 x.y.length t.outs.length else noJ
theorem zzs(n:Nat):List.replicate n [AV.sl [] .an]=Zu (List.replicate n []):=by simp[Zu]
theorem z9q(l:List (List Fz)):Option.all (fun r=>decide (r.length=1)) (Zu l).head? = true:=by cases l<;>rfl
theorem z30{lim:Nat}{t:Tp}{x:PoF}(hlim:lim/32+1≤48)(i:Nat):∀u∈(Zdl lim t x i).1,fsz u≤48:=z83 (zv0 hlim).2
theorem zzt{lim:Nat}{t:Tp}{x:PoF}(i:Nat)(ho:t.outs.length≤1000):(Zdl lim t x i).1.length≤1000:=by
 unfold Zdl Zcd;split
 ·dsimp only;rw[zai];unfold Zhh;rw[Yau];exact ho
 ·exact Yr _
section
variable{T:Tbl}[Z7 T][Zs T][Zw T][Zx T][Zt T][Zv T][Zf T][Zl T][Zq T][Z0 T][Zab T][Zbz T][Zad T][Z8 T][Zaw T][Za4 T][Zei T][Z6 T][Zau T][Zax T][Za6 T][Zct T][Z3 T][Zz T][Zdh T][Zco T][Z1 T][Zc5 T][Zc6 T]
theorem zg7(l:List (List Fz))(many:Nat)(hm:many≤1000)(hl:l.length≤1000)(hk:Zan l≤1000)(hs:∀r∈l,∀x∈r,fsz x≤1000) :
  Zb T 419 [.sl (Zu l) .an,.i .i64 many]=some (.sl (Zu (Zjx l many)) .an):=by
 have tn:=zvc (T:=T) l hl hk hs;unfold Zjx;rw[zaa Z1.h419 rfl,b419];by_cases h:l=[]
 ·rw[if_pos h];subst h;have m1:(many:Int)≤4294967296:=by omega
  have e:=zzs many;have e2:wkL (List.replicate many [AV.sl [] .nl])=Zu (List.replicate many []):=by rw[zbq,Ycs,←e];simp[wkR,wkA]
  simp -implicitDefEqProofs[m1,e,e2]
 ·rw[if_neg h];have h1:¬ l.length=0:=by simpa using h
  have h2:¬ (l.length:Int)=0:=by omega
  generalize (if Zfk l then Zcu l (Zan l) else [])=R at *
  simp -implicitDefEqProofs[tn,h1,h2]
theorem zso(t:Tp)(x:PoF)(bits:Int)(hb:Ze bits/32+1≤48)(hs:TpS t)(hx:PoS x 1000)(hy:x.y.length≤300)(hp:x.p.length≤300)(ho:t.outs.length≤1000) :
  Zb T 404 [etp t,ept x,.i .i64 bits]=some (.tup [Zij (Zhj (Ze bits) t x),Zcq (Zda (Ze bits) t x).2.1 0 (Zda (Ze bits) t x).2.2.1 (Zda (Ze bits) t x).2.2.2]):=by
 have g:=zsn (T:=T) t x bits (1+x.y.length+x.p.length) (by omega) hs hx hy hp;have ec:((1+x.y.length+x.p.length:Nat):Int)=1+(x.y.length:Int)+(x.p.length:Int):=by omega
 rw[ec]at g;unfold Zhj;have hR:Zda (Ze bits) t x=Zat (Zdl (Ze bits) t x) (1+x.y.length+x.p.length) 0 []:=rfl;rw[←hR]at g;have w1:IntKind.wrap .i64 (1+(x.y.length:Int))=1+(x.y.length:Int):=zad _ (by omega);have w2:IntKind.wrap .i64 (1+(x.y.length:Int)+(x.p.length:Int))=1+(x.y.length:Int)+(x.p.length:Int):=zad _ (by omega);by_cases hk:(Zda (Ze bits) t x).2.1=0
 ·rw[if_pos hk];have hgk:=hk;rw[hR]at hgk;obtain⟨e1,e2,_⟩:=zfg _ _ _ _ hgk;rw[←hR,Yae]at e1;rw[←hR]at e2;have hl2:(Zda (Ze bits) t x).1.length=1+x.y.length+x.p.length:=by rw[e1];simp
  have hsz:∀r∈(Zda (Ze bits) t x).1,(∀u∈r,fsz u≤1000)∧r.length≤1000:=by
   intro r hr;rw[e1]at hr;obtain⟨k,_,rfl⟩:=Y2.1 hr;exact⟨fun u hu=>Yc (z30 hb _ u hu) (by decide),zzt _ ho⟩
  rw[hk,e2]at g ⊢;clear e1 e2 hk hgk hR hs hx hb;generalize (Zda (Ze bits) t x).1=L at *
  have wid:∀l:List (List Fz),(∀r∈l,r∈L)→Zan l≤1000:=by
   intro l hl;cases l with
   | nil=>exact Yr _
   | cons r l=>exact(hsz r (hl r Yaa)).2
  have m1:∀r∈(L.take (1+x.y.length)).tail,r∈L:=fun r hr=>Ybr (List.mem_of_mem_tail hr);have m2:∀r∈L.drop (1+x.y.length),r∈L:=fun r hr=>Yc5 hr;have b1:=zg7 (T:=T) ((L.take (1+x.y.length)).tail) t.outs.length ho (by rw[List.length_tail,Ya8];omega) (wid _ m1) (fun r hr=>(hsz r (m1 r hr)).1);have b2:=zg7 (T:=T) (L.drop (1+x.y.length)) t.outs.length ho (by rw[Yby];omega) (wid _ m2) (fun r hr=>(hsz r (m2 r hr)).1);have h0:0<L.length:=by omega
  have hg0:L[0]? = some (L[0]'h0):=Ya h0;have eg:L.getD 0 []=L[0]'h0:=by rw[Yp,hg0];rfl
  have hl2':(L.length:Int)=1+(x.y.length:Int)+(x.p.length:Int):=by omega
  unfold Zmd;rw[eg];clear eg hsz m1 m2 wid;generalize L[0]'h0=L0 at *
  generalize Zjx ((L.take (1+x.y.length)).tail) t.outs.length=B1 at *
  generalize Zjx (L.drop (1+x.y.length)) t.outs.length=B2 at *
  obtain⟨code,outs,dim,par⟩:=t;obtain⟨⟨x0,x1,x2⟩,xy,xp⟩:=x;dsimp only at *
  have q0:(0:Int)<1+(xy.length:Int)+(xp.length:Int):=by omega
  have q1:(1:Int)+(xy.length:Int)≤1+(xy.length:Int)+(xp.length:Int):=by omega
  have q2:((1:Int)+(xy.length:Int)).toNat=1+xy.length:=by omega
  have q3:(0:Int)≤1+(xy.length:Int):=by omega
  have q4:(1:Int)≤1+(xy.length:Int):=by omega
  have q5:List.take (1+xy.length+xp.length) L=L:=Yb (by omega);rw[zaa Z1.h404 rfl,b404];simp -implicitDefEqProofs[q5,w1,w2,g,b1,b2,h0,hg0,hl2,hl2',q0,q1,q2,q3,q4,z9q]
 ·rw[if_neg hk];have hk':¬ (((Zda (Ze bits) t x).2.1:Nat):Int)=0:=by omega
  clear hk hs hx hb;generalize (((Zda (Ze bits) t x).2.1:Nat):Int)=kk at *
  generalize (((Zda (Ze bits) t x).2.2.1:Nat):Int)=ss at *
  generalize (((Zda (Ze bits) t x).2.2.2:Nat):Int)=aa at *
  generalize (Zda (Ze bits) t x).1=L at *
  unfold noJ;obtain⟨code,outs,dim,par⟩:=t;obtain⟨⟨x0,x1,x2⟩,xy,xp⟩:=x;dsimp only at *
  rw[zaa Z1.h404 rfl,b404];simp -implicitDefEqProofs[w1,w2,g,hk']
structure JcS (j:JcF) (B K:Nat):Prop where
 t:∀u∈j.t,fsz u≤B
 y:∀r∈j.y,∀u∈r,fsz u≤B
 p:∀r∈j.p,∀u∈r,fsz u≤B
 tl:j.t.length≤K
 yl:j.y.length≤K
 pl:j.p.length≤K
 yr:∀r∈j.y,r.length≤K
 pr:∀r∈j.p,r.length≤K
def Ziz(a b:JcF):Bool:=decide (a.t.map fv=b.t.map fv)&&decide (a.y.map (·.map fv)=b.y.map (·.map fv))&&decide (a.p.map (·.map fv)=b.p.map (·.map fv))
theorem zj9(a b:JcF)(ha:JcS a 1000 1000)(hb:JcS b 1000 1000):Zb T 401 [Zij a,Zij b]=some (.b (Ziz a b)):=by
 have c1:=zqf (T:=T) a.t b.t ha.tl ha.t hb.t;have c2:=zmt (T:=T) a.y b.y ha.yl ha.yr ha.y hb.y;have c3:=zmt (T:=T) a.p b.p ha.pl ha.pr ha.p hb.p;unfold Ziz;generalize decide (a.t.map fv=b.t.map fv)=B1 at *
 generalize decide (a.y.map (·.map fv)=b.y.map (·.map fv))=B2 at *
 generalize decide (a.p.map (·.map fv)=b.p.map (·.map fv))=B3 at *
 obtain⟨at',ay,ap⟩:=a;obtain⟨bt,bY,bp⟩:=b;dsimp only at *
 rw[zaa Z1.h401 rfl,b401];cases B1<;>cases B2<;>simp -implicitDefEqProofs[c1,c2,c3]
end
def Zc0(x:PoF)(j:JcF)(i:Nat):Fz×Nat×Nat×Nat:=
 (fz (fv (j.t.getD i (false,[],[]))*fv x.t+(Zah (j.y.getD i []) x.y+Zah (j.p.getD i []) x.p)),if (j.y.getD i []).length=x.y.length∧(j.p.getD i []).length=x.p.length then 0 else 1,0,0)
def Zfx(j:JcF)(x:PoF):List Fz×Nat×Nat×Nat:=if j.y.length=j.t.length∧j.p.length=j.t.length then Zat (Zc0 x j) j.t.length 0 [] else ([],1,0,0)
def Zjy(x:PoF)(j:JcF)(i:Nat)(acc:List Fz):St:=
 ⟨[(2,.ptr (.loc 2) 1 3 0 0),(3,.ptr (.loc 3) 2 5 0 0),(6,.bs (.loc 6) 3 3 0 i),(30,.sl (Zd j.t) .an),(31,.i .i64 j.t.length),(32,.i .i64 i)],
  [(.loc 2,⟨1,.str,3,[[.sl (Zd j.t) .an,.sl (Zu j.y) .an,.sl (Zu j.p) .an]]⟩),(.loc 3,⟨2,.str,5,[[.b x.t.1,.sl (Za x.t.2.1) .an,.sl (Za x.t.2.2) .an,.sl (Zd x.y) .an,.sl (Zd x.p) .an]]⟩),(.loc 6,⟨3,.own,3,Zd acc⟩)],5⟩
def Zi0(R:List Fz×Nat×Nat×Nat)(n:Nat):Ex×St:=
 if R.2.1=0 then (.n,⟨[(6,.bs (.loc 6) 1 3 0 n)],[(.loc 6,⟨1,.own,3,Zd R.1⟩)],3⟩) else (.r,⟨[(4,.sl [] .an),(5,.b false)],[],2⟩)
theorem zla{a b:List Fz}{B K:Nat}(ha:∀u∈a,fsz u≤B)(hb:∀u∈b,fsz u≤B)(hB:1≤B)(hl:a.length≤K):sz (Zah a b)≤K*(2*B+1)+1:=by
 have w:∀(l:List Fz),(∀u∈l,fsz u≤B)→∀q∈l.map fv,sz q≤B:=by
  intro l h q hq;obtain⟨u,hu,rfl⟩:=Y2.1 hq;exact za6 (h u hu) hB
 have z:=z0t (a.map fv) (b.map fv) (w _ ha) (w _ hb);rw[←z09,Yau]at z;exact Yc z (Nat.succ_le_succ (Yv _ hl))
section
variable{T:Tbl}[Z7 T][Zs T][Zw T][Zx T][Zt T][Zv T][Zf T][Zl T][Zq T][Z0 T][Zab T][Zbz T][Zad T][Z8 T][Zaw T][Za4 T][Zei T][Z6 T][Zau T][Zax T][Za6 T][Zct T][Z3 T][Zz T][Zdh T][Zco T][Z1 T][Zc5 T][Zc6 T]
theorem zsp(x:PoF)(j:JcF)(hx:PoS x 48)(hj:JcS j 48 10)(h1:j.y.length=j.t.length)(h2:j.p.length=j.t.length) :
  Zn T 0 0 (.norm false [6]) l400_0 (Zjy x j 0 [])=some (Zi0 (Zat (Zc0 x j) j.t.length 0 []) j.t.length):=by
 have key:=zaz (T:=T) (k:=0) (id:=0) (g2:=.norm false [6]) (c:=l400_0) (fun z:Nat×List Fz=>Zjy x j z.1 z.2)
  (fun z=>z.1≤j.t.length∧z.2.length=z.1) (fun z=>j.t.length-z.1)
  (fun z=>some (Zi0 (Zat (Zc0 x j) (j.t.length-z.1) z.1 z.2) j.t.length)) ?_ (0,[]) ⟨Yr _,rfl⟩
 ·exact key
 rintro⟨i,acc⟩ ⟨hi,hal⟩
 have htl:=hj.tl;dsimp only at *
 by_cases hlt:i<j.t.length
 ·have hi':(i:Int)<j.t.length:=by omega
  have hws:=zbs hlt (by omega);have hb:i≤4294967295:=by omega
  have ht:List.take i acc=acc:=Yb (by omega);obtain⟨m,hm⟩:∃m,j.t.length-i=m+1:=⟨j.t.length-i-1,by omega⟩;have g1:j.t[i]? = some (j.t[i]'hlt):=Ya hlt;have g2:j.y[i]? = some (j.y[i]'(by omega)):=Ya (by omega);have g3:j.p[i]? = some (j.p[i]'(by omega)):=Ya (by omega);have d1:j.t.getD i (false,[],[])=j.t[i]'hlt:=by rw[Yp,g1];rfl
  have d2:j.y.getD i []=j.y[i]'(by omega):=by rw[Yp,g2];rfl
  have d3:j.p.getD i []=j.p[i]'(by omega):=by rw[Yp,g3];rfl
  have s1:=hj.t _ (Yn hlt);have s2:=hj.y _ (Yn (l:=j.y) (n:=i) (by omega));have s3:=hj.p _ (Yn (l:=j.p) (n:=i) (by omega));have n2:=hj.yr _ (Yn (l:=j.y) (n:=i) (by omega));have n3:=hj.pr _ (Yn (l:=j.p) (n:=i) (by omega));have hF:Zc0 x j i=(fz (fv (j.t[i]'hlt)*fv x.t+(Zah (j.y[i]'(by omega)) x.y+Zah (j.p[i]'(by omega)) x.p)),if (j.y[i]'(by omega)).length=x.y.length∧(j.p[i]'(by omega)).length=x.p.length then 0 else 1,0,0):=by
   unfold Zc0;rw[d1,d2,d3]
  rw[hm,Zat,hF];clear hF d1 d2 d3;have ge1:=(Yd.1 g1).2;have ge2:=(Yd.1 g2).2;have ge3:=(Yd.1 g3).2;have hiy:i<j.y.length:=by omega
  have hip:i<j.p.length:=by omega
  have hiy':(i:Int)<j.y.length:=by omega
  have hip':(i:Int)<j.p.length:=by omega
  generalize j.t[i]'hlt=ti at *
  generalize j.y[i]'hiy=yi at *
  generalize j.p[i]'hip=pi at *
  have c1:=zwk (T:=T) yi x.y (B:=48) s2 hx.y (by decide) (by omega);have c2:=zwk (T:=T) pi x.p (B:=48) s3 hx.p (by decide) (by omega);by_cases hk:yi.length=x.y.length∧pi.length=x.p.length
  ·left;rw[if_pos hk];rw[if_pos hk.1]at c1;rw[if_pos hk.2]at c2;have z1:=zla (K:=10) s2 hx.y (by decide) n2;have z2:=zla (K:=10) s3 hx.p (by decide) n3;have z3:=zd7 (Zah yi x.y) (Zah pi x.p);have z4:=zbf (fv ti) (fv x.t);have z5:=za6 s1 (by decide);have z6:=za6 hx.t (by decide);have k1:=zbz (T:=T) ti x.t (by omega) (by have:=hx.t;omega);have k2:=zcz (T:=T) (fz (Zah yi x.y)) (fz (Zah pi x.p)) (by rw[zaw];omega) (by rw[zaw];omega);rw[zbe,zbe]at k2;have k3:=zcz (T:=T) (fz (fv ti*fv x.t)) (fz (Zah yi x.y+Zah pi x.p)) (by rw[zaw];omega) (by rw[zaw];omega);rw[zbe,zbe]at k3;refine⟨(i+1,acc++[fz (fv ti*fv x.t+(Zah yi x.y+Zah pi x.p))]),⟨by omega,by simp[hal]⟩,by dsimp only;omega,?_,?_⟩
   ·have hp:=zcj hal (fz (fv ti*fv x.t+(Zah yi x.y+Zah pi x.p)));rw[ht]at hp;clear z1 z2 z3 z4 z5 z6 hx hj hk s1 s2 s3 n2 n3;generalize fz (fv ti*fv x.t+(Zah yi x.y+Zah pi x.p))=v1 at *
    generalize fz (fv ti*fv x.t)=v2 at *
    generalize fz (Zah yi x.y+Zah pi x.p)=v3 at *
    generalize fz (Zah yi x.y)=v4 at *
    generalize fz (Zah pi x.p)=v5 at *
    obtain⟨⟨x0,x1,x2⟩,xy,xp⟩:=x;obtain⟨jt,jy,jp⟩:=j;dsimp only at *
    unfold Zjy;simp -implicitDefEqProofs[l400_0,hi',hlt,hiy,hip,hiy',hip',g1,g2,g3,ge1,ge2,ge3,hws,hp,ht,hal,hb,c1,c2,k1,k2,k3]
   ·rw[if_pos rfl,show j.t.length-(i+1)=m by omega]
  ·right;rw[if_neg hk,if_neg (by simp)];have c1':∃(u:Fz) (b1:Bool),Zb T 270 [.sl (Zd yi) .an,.sl (Zd x.y) .an]=some (.tup [efz u,.b b1])∧(b1=true→yi.length=x.y.length):=by
    by_cases h:yi.length=x.y.length
    ·rw[if_pos h]at c1;exact⟨_,_,c1,fun _=>h⟩
    ·rw[if_neg h]at c1;exact⟨_,_,c1,fun h=>by cases h⟩
   have c2':∃(u:Fz) (b1:Bool),Zb T 270 [.sl (Zd pi) .an,.sl (Zd x.p) .an]=some (.tup [efz u,.b b1])∧(b1=true→pi.length=x.p.length):=by
    by_cases h:pi.length=x.p.length
    ·rw[if_pos h]at c2;exact⟨_,_,c2,fun _=>h⟩
    ·rw[if_neg h]at c2;exact⟨_,_,c2,fun h=>by cases h⟩
   obtain⟨v1,b1,e1,f1⟩:=c1';obtain⟨v2,b2,e2,f2⟩:=c2';have hbb:(b1&&b2)=false:=by
    cases b1 with
    | false=>rfl
    | true=>
     cases b2 with
     | false=>rfl
     | true=>exact absurd ⟨f1 rfl,f2 rfl⟩ hk
   clear c1 c2 f1 f2 hk hx hj s1 s2 s3 n2 n3;unfold Zjy Zi0;obtain⟨⟨x0,x1,x2⟩,xy,xp⟩:=x;obtain⟨jt,jy,jp⟩:=j;dsimp only at *
   rw[if_neg (by simp)];cases b1 with
   | false=>constructor<;>simp -implicitDefEqProofs[l400_0,hi',hlt,hiy,hip,hiy',hip',g1,g2,g3,ge1,ge2,ge3,e1,e2]
   | true=>
    cases b2 with
    | false=>constructor<;>simp -implicitDefEqProofs[l400_0,hi',hlt,hiy,hip,hiy',hip',g1,g2,g3,ge1,ge2,ge3,e1,e2]
    | true=>cases hbb
 ·right;have e:i=j.t.length:=by omega
  subst e;have ht:List.take j.t.length acc=acc:=Yb (by omega);rw[Ybn,Zat];unfold Zjy Zi0;rw[if_pos rfl];obtain⟨⟨x0,x1,x2⟩,xy,xp⟩:=x;obtain⟨jt,jy,jp⟩:=j;constructor<;>simp -implicitDefEqProofs[l400_0]
theorem zo6(x:PoF)(j:JcF)(hx:PoS x 48)(hj:JcS j 48 10) :
  Zb T 400 [Zij j,ept x]=some (.tup [.sl (Zd (Zfx j x).1) .an,.b (decide ((Zfx j x).2.1=0))]):=by
 unfold Zfx;by_cases h1:j.y.length=j.t.length
 ·have h1':(j.y.length:Int)=j.t.length:=by omega
  by_cases h2:j.p.length=j.t.length
  ·have h2':(j.p.length:Int)=j.t.length:=by omega
   rw[if_pos ⟨h1,h2⟩];have h:=zsp (T:=T) x j hx hj h1 h2;unfold Zjy Zi0 at h;simp only[Yo,zb5]at h;by_cases hk:(Zat (Zc0 x j) j.t.length 0 []).2.1=0
   ·obtain⟨e1,_,_⟩:=zfg _ _ _ _ hk;rw[if_pos hk]at h;have hl2:(Zat (Zc0 x j) j.t.length 0 []).1.length=j.t.length:=by rw[e1];simp
    rw[decide_eq_true hk];clear e1 hk hx hj;generalize (Zat (Zc0 x j) j.t.length 0 []).1=L at *
    obtain⟨⟨x0,x1,x2⟩,xy,xp⟩:=x;obtain⟨jt,jy,jp⟩:=j;dsimp only at *
    have ht:List.take jt.length L=L:=Yb (by omega);rw[zaa Z1.h400 rfl,b400];simp -implicitDefEqProofs[h,hl2,ht,h1,h1',h2,h2']
   ·rw[if_neg hk]at h;rw[zga _ _ _ _ hk,decide_eq_false hk];clear hk hx hj;obtain⟨⟨x0,x1,x2⟩,xy,xp⟩:=x;obtain⟨jt,jy,jp⟩:=j;dsimp only at *
    rw[zaa Z1.h400 rfl,b400];simp -implicitDefEqProofs[h,h1,h1',h2,h2']
  ·rw[if_neg (fun h=>h2 h.2)];have h2':¬ (j.p.length:Int)=j.t.length:=by omega
   obtain⟨⟨x0,x1,x2⟩,xy,xp⟩:=x;obtain⟨jt,jy,jp⟩:=j;dsimp only at *
   rw[zaa Z1.h400 rfl,b400];simp -implicitDefEqProofs[h1,h1',h2,h2']
 ·rw[if_neg (fun h=>h1 h.1)];have h1':¬ (j.y.length:Int)=j.t.length:=by omega
  obtain⟨⟨x0,x1,x2⟩,xy,xp⟩:=x;obtain⟨jt,jy,jp⟩:=j;dsimp only at *
  rw[zaa Z1.h400 rfl,b400];simp -implicitDefEqProofs[h1,h1']
end
class Zmn (T:Tbl):Prop where
theorem zvh:∀(a b:List Fz),Zah a b=dotW (a.map fv) (b.map fv)
 | [],_=>by simp[Zah,dotW]
 | _::_,[]=>by simp[Zah,dotW]
 | x::a,y::b=>by
  rw[Zah,Y1,Y1,dotW,zvh a b]
theorem zlb{α:Type}(F:Nat→α×Nat×Nat×Nat):∀(n i:Nat) (acc:List α),(∀k,k<n→(F (i+k)).2.1=0)→Zat F n i acc=(acc++(List.range n).map (fun k=>(F (i+k)).1),0,0,0)
 | 0,i,acc,_=>by simp[Zat]
 | n+1,i,acc,h=>by
  rw[Zat,if_pos (by have:=h 0 (Nat.succ_pos _);rwa [Yt]at this),zlb F n (i+1) _ (fun k hk=>by rw[show i+1+k=i+(k+1) by omega];exact h (k+1) (by omega))];congr 1;rw[Yey,Y1,Yb2,Yax,Ydu];congr 2;refine Ycj fun k _=>?_;show (F (i+1+k)).1=(F (i+(k+1))).1;rw[show i+1+k=i+(k+1) by omega]
section
variable{T:Tbl}[Z7 T][Zs T][Zw T][Zx T][Zt T][Zv T][Zf T][Zl T][Zq T][Z0 T][Zab T][Zbz T][Zad T][Z8 T][Zaw T][Za4 T][Zei T][Z6 T][Zau T][Zax T][Za6 T][Zct T][Z3 T][Zz T][Zdh T][Zco T][Z1 T][Zc5 T][Zc6 T]
variable[Zai T][Za5 T][Zak T][Zbf T][Zac T][Zbk T][Zae T][Zav T][Zb6 T][Zcz T][Zc7 T][Zfs T][Zdu T]
theorem zoq:Zb T 399 []=some (.b true):=by
 have k3:=zgo (T:=T) 3 (by decide) (by decide);have k5:=zgo (T:=T) 5 (by decide) (by decide);have q3:((3:Int):Rat)=3:=rfl;have q5:((5:Int):Rat)=5:=rfl;rw[q3]at k3;rw[q5]at k5;have hs:TpS t28:=⟨⟨by decide,by decide,fun i hi=>by
  simp only[t28,Y5,Ydx,or_false]at hi;rcases hi with rfl | rfl | rfl<;>decide,by decide,by decide⟩,fun i hi=>by
  simp only[t28,Y5,Ydx,or_false]at hi;rcases hi with rfl | rfl | rfl<;>decide⟩
 have f3:fsz (fz 3)≤1000:=by decide +kernel
 have f5:fsz (fz 5)≤1000:=by decide +kernel
 have hx:PoS p28 1000:=⟨by decide,fun u hu=>by rw[Y9.1 hu];exact f3,fun u hu=>by rw[Y9.1 hu];exact f5,by decide,by decide⟩;have a1:=zsm (T:=T) t28 p28 100 hs hx (by decide) (by decide);have a2:=zso (T:=T) t28 p28 100 (by decide) hs hx (by decide) (by decide) (by decide);have r1:(Zb8 (Ze 100) t28 p28.v).2=(0,0,0):=by decide +kernel
 have r2:(Zda (Ze 100) t28 p28).2=(0,0,0):=by decide +kernel
 have j1:(Zhi (Ze 100) t28 p28.v).t=[fz 0]∧(Zhi (Ze 100) t28 p28.v).y=[[fz 5]]∧(Zhi (Ze 100) t28 p28.v).p=[[fz 3]]:=by decide +kernel
 have j2:(Zhj (Ze 100) t28 p28).t=[fz 0]∧(Zhj (Ze 100) t28 p28).y=[[fz 5]]∧(Zhj (Ze 100) t28 p28).p=[[fz 3]]:=by decide +kernel
 have e1:Zhi (Ze 100) t28 p28.v=⟨[fz 0],[[fz 5]],[[fz 3]]⟩:=by
  generalize Zhi (Ze 100) t28 p28.v=J at *
  obtain⟨a,b,c⟩:=J;dsimp only at j1;rw[j1.1,j1.2.1,j1.2.2]
 have e2:Zhj (Ze 100) t28 p28=⟨[fz 0],[[fz 5]],[[fz 3]]⟩:=by
  generalize Zhj (Ze 100) t28 p28=J at *
  obtain⟨a,b,c⟩:=J;dsimp only at j2;rw[j2.1,j2.2.1,j2.2.2]
 rw[e1,r1]at a1;rw[e2,r2]at a2;have s5:∀u∈[fz 5],fsz u≤400:=fun u hu=>by rw[Y9.1 hu];decide +kernel
 have t1:=zzl (T:=T) [fz 5] (by decide) s5;have et1:List.intercalate [44] (Zd6 [fz 5])=[53]:=by decide +kernel
 rw[et1]at t1;have one:∀q∈[(0:Rat),3,5],fsz (fz q)≤1000:=by decide +kernel
 have z0:=one 0 (by simp);have z3:=one 3 (by simp);have z5:=one 5 (by simp);have hJ:JcS ⟨[fz 0],[[fz 5]],[[fz 3]]⟩ 1000 1000:=⟨fun u hu=>by rw[Y9.1 hu];exact z0,fun R hR u hu=>by rw[Y9.1 hR]at hu;rw[Y9.1 hu];exact z5,
  fun R hR u hu=>by rw[Y9.1 hR]at hu;rw[Y9.1 hu];exact z3,by simp,by simp,by simp,fun R hR=>by rw[Y9.1 hR];simp,fun R hR=>by rw[Y9.1 hR];simp⟩
 have sm:=zj9 (T:=T) _ _ hJ hJ;have es:Ziz ⟨[fz 0],[[fz 5]],[[fz 3]]⟩ ⟨[fz 0],[[fz 5]],[[fz 3]]⟩=true:=by unfold Ziz;simp
 rw[es]at sm;clear e1 e2 r1 r2 j1 j2 et1 hs hx f3 f5 q3 q5 s5 one z0 z3 z5 hJ es;unfold p28 at a1 a2;generalize fz 0=F0 at *
 generalize fz 3=F3 at *
 generalize fz 5=F5 at *
 have eJ:Zij ⟨[F0],[[F5]],[[F3]]⟩=.agg [.sl [Zbq F0] .an,.sl [[.sl [Zbq F5] .an]] .an,.sl [[.sl [Zbq F3] .an]] .an]:=rfl;rw[eJ]at a1 a2 sm;replace a1:Zb T 403 [.agg [.sl [[.i .i64 3,.i .i64 0,.i .i64 0,.b false,.sl [] .an,.sl [] .an],[.i .i64 4,.i .i64 0,.i .i64 0,.b false,.sl [] .an,.sl [] .an],[.i .i64 9,.i .i64 0,.i .i64 1,.b false,.sl [] .an,.sl [] .an]] .an,.sl [[.i .i64 2]] .an,.i .i64 1,.i .i64 1],
  .agg [.b false,.sl [] .an,.sl [] .an,.sl [[.b F3.1,.sl (Za F3.2.1) .an,.sl (Za F3.2.2) .an]] .an,.sl [[.b F5.1,.sl (Za F5.2.1) .an,.sl (Za F5.2.2) .an]] .an],.i .i64 100]=some (.tup [.agg [.sl [Zbq F0] .an,.sl [[.sl [Zbq F5] .an]] .an,.sl [[.sl [Zbq F3] .an]] .an],Zcq 0 0 0 0]):=a1
 replace a2:Zb T 404 [.agg [.sl [[.i .i64 3,.i .i64 0,.i .i64 0,.b false,.sl [] .an,.sl [] .an],[.i .i64 4,.i .i64 0,.i .i64 0,.b false,.sl [] .an,.sl [] .an],[.i .i64 9,.i .i64 0,.i .i64 1,.b false,.sl [] .an,.sl [] .an]] .an,.sl [[.i .i64 2]] .an,.i .i64 1,.i .i64 1],
  .agg [.b false,.sl [] .an,.sl [] .an,.sl [[.b F3.1,.sl (Za F3.2.1) .an,.sl (Za F3.2.2) .an]] .an,.sl [[.b F5.1,.sl (Za F5.2.1) .an,.sl (Za F5.2.2) .an]] .an],.i .i64 100]=some (.tup [.agg [.sl [Zbq F0] .an,.sl [[.sl [Zbq F5] .an]] .an,.sl [[.sl [Zbq F3] .an]] .an],Zcq 0 0 0 0]):=a2
 replace t1:Zb T 274 [.sl [Zbq F5] .an]=some (.s [53]):=t1;rw[zaa Zdu.h399 rfl,b399];simp -implicitDefEqProofs[a1,a2,t1,k3,k5,sm]
end
end Go.Ab