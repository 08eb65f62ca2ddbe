/-
  A calculus of values, boxes and code, and what functions of the program compute, proved in it.
  Conditions: none beyond those that the theorems state. (Part 8.)
-/
import Derived.Test.YtjhilbodpmnbmaaGreatDoorPart7

set_option linter.unusedSectionVars false
set_option linter.unusedVariables false
set_option linter.unusedSimpArgs false
set_option linter.unnecessarySimpa false

namespace Go.Ab
theorem zyv{α:Type}(F:Nat→α×Nat×Nat×Nat)(n:Nat):(Zat F n 0 []).2.1=0↔∀k,k<n→(F k).2.1=0:=by
 constructor
 ·intro h k hk;have:=(zfg F n 0 [] h).2.2 k hk
  rwa [Yaj]at this
 ·intro h;rw[zlb F n 0 [] (fun k hk=>by rw[Yaj];exact h k hk)]
def Zfv(x:PoF)(j:JcF)(i:Nat):Bool:=(List.range i).all fun k=>decide ((Zc0 x j k).2.1=0)
theorem zvi(x:PoF)(j:JcF)(i:Nat):Zfv x j (i+1)=(Zfv x j i&&decide ((Zc0 x j i).2.1=0)):=by
 unfold Zfv;rw[List.range_succ,List.all_append];simp
theorem zvj{x:PoF}{j:JcF}{i n:Nat}(h:i≤n)(hi:Zfv x j i=false):Zfv x j n=false:=by
 unfold Zfv at *
 rw[List.all_eq_false]at *
 obtain⟨k,hk,h2⟩:=hi;exact⟨k,Ydp.2 (by have:=Ydp.1 hk;omega),h2⟩
def Zdp(j:JcF):Bool:=decide (j.y.length=j.t.length)&&decide (j.p.length=j.t.length)
def Zgn(x:PoF)(j:JcF):Bool:=Zdp j&&Zfv x j j.t.length
theorem zp9(x:PoF)(j:JcF):decide ((Zfx j x).2.1=0)=Zgn x j:=by
 unfold Zfx Zgn Zdp Zfv;by_cases h1:j.y.length=j.t.length
 ·by_cases h2:j.p.length=j.t.length
  ·rw[if_pos ⟨h1,h2⟩,decide_eq_true h1,decide_eq_true h2,Ybd,Ybd];have:=zyv (Zc0 x j) j.t.length;rw[Ybb,decide_eq_true_eq,this,Yk];simp
  ·rw[if_neg (fun h=>h2 h.2),decide_eq_false h2];simp
 ·rw[if_neg (fun h=>h1 h.1),decide_eq_false h1];simp
abbrev bxK(g:Nat)(j:JcF):Box:=⟨g,.str,3,[[.sl (Zd j.t) .an,.sl (Zu j.y) .an,.sl (Zu j.p) .an]]⟩
abbrev bxQ(g:Nat)(x:PoF):Box:=⟨g,.str,5,[[.b x.t.1,.sl (Za x.t.2.1) .an,.sl (Za x.t.2.2) .an,.sl (Zd x.y) .an,.sl (Zd x.p) .an]]⟩
def Zjp(a b:JcF)(x:PoF)(l:List Fz)(ok fits:Bool)(i:Nat):St:=
 ⟨[(3,.ptr (.loc 3) 1 3 0 0),(4,.ptr (.loc 4) 2 3 0 0),(5,.ptr (.loc 5) 3 5 0 0),(7,.ptr (.loc 7) 4 3 0 0),(8,.ptr (.loc 8) 5 3 0 0),(9,.sl (Zd l) .an),(10,.b ok),(11,.b fits),(12,.i .i64 i)],
  [(.loc 3,bxK 1 a),(.loc 4,bxK 2 b),(.loc 5,bxQ 3 x),(.loc 7,bxK 4 a),(.loc 8,bxK 5 b)],7⟩
def Zks(a b:JcF)(x:PoF)(l:List Fz)(ok fits:Bool):Ex×St:=
 (.n,⟨[(3,.ptr (.loc 3) 1 3 0 0),(4,.ptr (.loc 4) 2 3 0 0),(5,.ptr (.loc 5) 3 5 0 0),(7,.ptr (.loc 7) 4 3 0 0),(8,.ptr (.loc 8) 5 3 0 0),(9,.sl (Zd l) .an),(10,.b ok),(11,.b fits)],
  [(.loc 3,bxK 1 a),(.loc 4,bxK 2 b),(.loc 5,bxQ 3 x),(.loc 7,bxK 4 a),(.loc 8,bxK 5 b)],7⟩)
def Zkt(a:JcF)(x:PoF)(l:List Fz)(i:Nat):St:=
 ⟨[(3,.ptr (.loc 3) 1 3 0 0),(9,.sl (Zd l) .an),(14,.ptr (.loc 14) 2 5 0 0),(15,.i .i64 i)],[(.loc 3,bxK 1 a),(.loc 14,bxQ 2 x)],4⟩
section
variable{T:Tbl}[Z7 T][Zs T][Zw T][Zx T][Zt T][Zv T][Zf T][Zl T][Zq T][Z0 T][Zab T][Zbz T][Zad T][Z8 T][Zaw T][Za4 T][Zei T][Z6 T][Zau T][Zax T][Za6 T][Zct T][Z3 T][Zz T][Zdh T][Zco T][Z1 T][Zc5 T][Zc6 T]
variable[Zai T][Za5 T][Zak T][Zbf T][Zac T][Zbk T][Zae T][Zav T][Zcp T][Ze0 T][Zb6 T][Zcz T][Zfi T][Zc7 T][Zfs T][Zdu T]
theorem zor(x:PoF)(hx:PoS x 1000):Zb T 402 [ept x]=some (ept x.v.f):=by
 have c1:=zb7 (T:=T) x.t (Yc hx.t (by decide));have c2:=zb1 (T:=T) x.y hx.yl hx.y;have c3:=zb1 (T:=T) x.p hx.pl hx.p;rw[zon];generalize fz (fv x.t)=A at *
 generalize nrm x.y=B at *
 generalize nrm x.p=C at *
 clear hx;obtain⟨⟨t0,t1,t2⟩,y,p⟩:=x;obtain⟨a0,a1,a2⟩:=A;dsimp only at *
 rw[zaa Ze0.h402 rfl,b402];simp -implicitDefEqProofs[c1,c2,c3]
theorem zvk(a b:JcF)(x:PoF)(l:List Fz)(ok:Bool)(hl:a.t.length≤1000) :
  Zn T 0 0 (.norm false [3,4,5,7,8,9,10,11]) l377_0 (Zjp a b x l ok (Zdp a) 0)=some (Zks a b x l ok (Zgn x a)):=by
 have key:=zaz (T:=T) (k:=0) (id:=0) (g2:=.norm false [3,4,5,7,8,9,10,11]) (c:=l377_0) (fun z:Nat=>Zjp a b x l ok (Zdp a&&Zfv x a z) z)
  (fun z=>z≤a.t.length) (fun z=>a.t.length-z) (fun _=>some (Zks a b x l ok (Zgn x a))) ?_ 0 (Yr _)
 ·have e:(Zdp a&&Zfv x a 0)=Zdp a:=by simp[Zfv]
  rw[e]at key;exact key
 intro i hi;by_cases hlt:i<a.t.length
 ·have hi':(i:Int)<a.t.length:=by omega
  cases hf:(Zdp a&&Zfv x a i) with
  | false=>
   right;have e:Zgn x a=false:=by
    unfold Zgn;cases h0:Zdp a with
    | false=>rfl
    | true=>
     rw[h0,Ybd]at hf;rw[Ybd];exact zvj hi hf
   rw[e];unfold Zjp Zks;obtain⟨⟨x0,x1,x2⟩,xy,xp⟩:=x;obtain⟨at',ay,ap⟩:=a;obtain⟨bt,bY,bp⟩:=b;dsimp only at *
   constructor<;>simp -implicitDefEqProofs[l377_0,hi',hlt]
  | true=>
   left;rw[Yj]at hf;have h0:=hf.1;unfold Zdp at h0;rw[Yj,decide_eq_true_eq,decide_eq_true_eq]at h0;have g2:a.y[i]? = some (a.y[i]'(by omega)):=Ya (by omega);have g3:a.p[i]? = some (a.p[i]'(by omega)):=Ya (by omega);have d2:a.y.getD i []=a.y[i]'(by omega):=by rw[Yp,g2];rfl
   have d3:a.p.getD i []=a.p[i]'(by omega):=by rw[Yp,g3];rfl
   have ge2:=(Yd.1 g2).2;have ge3:=(Yd.1 g3).2;have hiy:i<a.y.length:=by omega
   have hip:i<a.p.length:=by omega
   have hiy':(i:Int)<a.y.length:=by omega
   have hip':(i:Int)<a.p.length:=by omega
   have hws:=zbs hlt (by omega);have hk:decide ((Zc0 x a i).2.1=0)=(decide ((a.y[i]'hiy).length=x.y.length)&&decide ((a.p[i]'hip).length=x.p.length)):=by
    unfold Zc0;dsimp only;rw[d2,d3];by_cases h:(a.y[i]'hiy).length=x.y.length∧(a.p[i]'hip).length=x.p.length
    ·rw[if_pos h,decide_eq_true h.1,decide_eq_true h.2];rfl
    ·rw[if_neg h];by_cases h1:(a.y[i]'hiy).length=x.y.length
     ·rw[decide_eq_false (fun h2=>h ⟨h1,h2⟩)];simp
     ·rw[decide_eq_false h1];simp
   refine⟨i+1,by omega,by omega,?_,rfl⟩;rw[zvi,hf.2,hf.1,Ybd,Ybd,hk];clear hk d2 d3 hf;generalize a.y[i]'hiy=yi at *
   generalize a.p[i]'hip=pi at *
   have w:∀m n:Nat,((m:Int) == (n:Int))=decide (m=n):=fun m n=>by rw[Ybb,beq_iff_eq,decide_eq_true_eq];omega
   have w1:=w yi.length x.y.length;have w2:=w pi.length x.p.length;unfold Zjp;by_cases h1:yi.length=x.y.length
   ·have h1':(yi.length:Int)=x.y.length:=by omega
    rw[decide_eq_true h1,Ybd];obtain⟨⟨x0,x1,x2⟩,xy,xp⟩:=x;obtain⟨at',ay,ap⟩:=a;obtain⟨bt,bY,bp⟩:=b;dsimp only at *
    simp -implicitDefEqProofs[l377_0,hi',hlt,hiy,hip,hiy',hip',g2,g3,ge2,ge3,hws,h1,h1',w2]
   ·have h1':¬ (yi.length:Int)=x.y.length:=by omega
    rw[decide_eq_false h1,Yeh];obtain⟨⟨x0,x1,x2⟩,xy,xp⟩:=x;obtain⟨at',ay,ap⟩:=a;obtain⟨bt,bY,bp⟩:=b;dsimp only at *
    simp -implicitDefEqProofs[l377_0,hi',hlt,hiy,hip,hiy',hip',g2,g3,ge2,ge3,hws,h1,h1']
 ·right;have e:i=a.t.length:=by omega
  subst e;have ef:(Zdp a&&Zfv x a a.t.length)=Zgn x a:=rfl;rw[ef];unfold Zjp Zks;generalize Zgn x a=B at *
  obtain⟨⟨x0,x1,x2⟩,xy,xp⟩:=x;obtain⟨at',ay,ap⟩:=a;obtain⟨bt,bY,bp⟩:=b;dsimp only at *
  constructor<;>simp -implicitDefEqProofs[l377_0]
theorem zvl(a:JcF)(x:PoF)(hx:PoS x 2)(hj:JcS a 2 5)(hxl:x.y.length≤5∧x.p.length≤5)(h1:a.y.length=a.t.length)(h2:a.p.length=a.t.length)(hall:∀k,k<a.t.length→(Zc0 x a k).2.1=0) :
  Zn T 0 2 (.norm false []) l377_1 (Zkt a x.v.f ((List.range a.t.length).map fun k=>(Zc0 x a k).1) 0)=some (.n,⟨[],[],2⟩):=by
 have htl:=hj.tl;have hL:((List.range a.t.length).map fun k=>(Zc0 x a k).1).length=a.t.length:=by simp
 have key:=zaz (T:=T) (k:=0) (id:=2) (g2:=.norm false []) (c:=l377_1) (fun z:Nat=>Zkt a x.v.f ((List.range a.t.length).map fun k=>(Zc0 x a k).1) z)
  (fun z=>z≤a.t.length) (fun z=>a.t.length-z) (fun _=>some (.n,⟨[],[],2⟩)) ?_ 0 (Yr _)
 ·exact key
 intro i hi;by_cases hlt:i<a.t.length
 ·left;refine⟨i+1,by omega,by omega,?_,rfl⟩;have hi':(i:Int)<a.t.length:=by omega
  have hws:=zbs hlt (by omega);have g1:a.t[i]? = some (a.t[i]'hlt):=Ya hlt;have g2:a.y[i]? = some (a.y[i]'(by omega)):=Ya (by omega);have g3:a.p[i]? = some (a.p[i]'(by omega)):=Ya (by omega);have d1:a.t.getD i (false,[],[])=a.t[i]'hlt:=by rw[Yp,g1];rfl
  have d2:a.y.getD i []=a.y[i]'(by omega):=by rw[Yp,g2];rfl
  have d3:a.p.getD i []=a.p[i]'(by omega):=by rw[Yp,g3];rfl
  have s1:=hj.t _ (Yn hlt);have s2:=hj.y _ (Yn (l:=a.y) (n:=i) (by omega));have s3:=hj.p _ (Yn (l:=a.p) (n:=i) (by omega));have n2:=hj.yr _ (Yn (l:=a.y) (n:=i) (by omega));have n3:=hj.pr _ (Yn (l:=a.p) (n:=i) (by omega));have hk:=hall i hlt;have gL:((List.range a.t.length).map fun k=>(Zc0 x a k).1)[i]? = some (Zc0 x a i).1:=by rw[Ya4,List.getElem?_range hlt];rfl
  have hv:(Zc0 x a i).1=fz (Zah (a.y[i]'(by omega)) x.y+Zah (a.p[i]'(by omega)) x.p+fv (a.t[i]'hlt)*fv x.t):=by
   unfold Zc0;dsimp only;rw[d1,d2,d3,Rat.add_comm]
  rw[hv]at gL;have hk2:(a.y[i]'(by omega)).length=x.y.length∧(a.p[i]'(by omega)).length=x.p.length:=by
   unfold Zc0 at hk;dsimp only at hk;rw[d2,d3]at hk;by_cases h:(a.y[i]'(by omega)).length=x.y.length∧(a.p[i]'(by omega)).length=x.p.length
   ·exact h
   ·rw[if_neg h]at hk;cases hk
  have ge1:=(Yd.1 g1).2;have ge2:=(Yd.1 g2).2;have ge3:=(Yd.1 g3).2;have geL:=(Yd.1 gL).2;have hiy:i<a.y.length:=by omega
  have hip:i<a.p.length:=by omega
  have hiy':(i:Int)<a.y.length:=by omega
  have hip':(i:Int)<a.p.length:=by omega
  clear d1 d2 d3 hv hk hall;generalize a.t[i]'hlt=ti at *
  generalize a.y[i]'hiy=yi at *
  generalize a.p[i]'hip=pi at *
  have nr1:=zb1 (T:=T) yi (by omega) (fun u hu=>Yc (s2 u hu) (by decide));have nr2:=zb1 (T:=T) pi (by omega) (fun u hu=>Yc (s3 u hu) (by decide));have nt:=zb7 (T:=T) ti (by omega);have nrm_e:∀l:List Fz,nrm l=fzs (l.map fv):=fun l=>by unfold nrm fzs;rw[Yb2];rfl
  have wd:∀{l:List Fz},(∀u∈l,fsz u≤2)→∀q∈l.map fv,sz q≤2:=fun h q hq=>by
   obtain⟨u,hu,rfl⟩:=Y2.1 hq;exact za6 (h u hu) (by decide)
  have dt1:=zm9 (T:=T) (yi.map fv) (x.y.map fv) (by simp[hk2.1]) (B:=2) (wd s2) (wd hx.y) (by decide) (by rw[Yau];omega);have dt2:=zm9 (T:=T) (pi.map fv) (x.p.map fv) (by simp[hk2.2]) (B:=2) (wd s3) (wd hx.p) (by decide) (by rw[Yau];omega);have dq:∀l m:List Fz,Zah (fzs (l.map fv)) (fzs (m.map fv))=Zah l m:=fun l m=>by rw[zvh,zvh,znd,znd]
  rw[dq,←nrm_e,←nrm_e]at dt1 dt2;have z1:=zla (K:=5) s2 hx.y (by decide) n2;have z2:=zla (K:=5) s3 hx.p (by decide) n3;have z3:=zd7 (Zah yi x.y) (Zah pi x.p);have z4:=zbf (fv ti) (fv x.t);have z5:=za6 s1 (by decide);have z6:=za6 hx.t (by decide);have k2:=zgt (T:=T) (Zah yi x.y) (Zah pi x.p) (by omega) (by omega);have k1:=zj5 (T:=T) (fv ti) (fv x.t) (by omega) (by omega);have k3:=zgt (T:=T) (Zah yi x.y+Zah pi x.p) (fv ti*fv x.t) (by omega) (by omega);have z7:=zd7 (Zah yi x.y+Zah pi x.p) (fv ti*fv x.t);have is:=zys (T:=T) (fz (Zah yi x.y+Zah pi x.p+fv ti*fv x.t)) (fz (Zah yi x.y+Zah pi x.p+fv ti*fv x.t)) (by rw[zaw];omega);rw[decide_eq_true rfl]at is;have hxv:x.v.f=⟨fz (fv x.t),nrm x.y,nrm x.p⟩:=zon x;clear z1 z2 z3 z4 z5 z6 z7 s1 s2 s3 n2 n3 hx hj wd dq hk2;unfold Zkt;rw[hxv];generalize ((List.range a.t.length).map fun k=>(Zc0 x a k).1)=LL at *
  generalize fz (Zah yi x.y+Zah pi x.p+fv ti*fv x.t)=v1 at *
  generalize fz (Zah yi x.y+Zah pi x.p)=v2 at *
  generalize fz (fv ti*fv x.t)=v3 at *
  generalize fz (Zah yi x.y)=v4 at *
  generalize fz (Zah pi x.p)=v5 at *
  generalize fz (fv ti)=v6 at *
  generalize fz (fv x.t)=v7 at *
  generalize nrm yi=w1 at *
  generalize nrm pi=w2 at *
  generalize nrm x.y=w3 at *
  generalize nrm x.p=w4 at *
  obtain⟨at',ay,ap⟩:=a;have hiL:i<LL.length:=by omega
  have hiL':(i:Int)<LL.length:=by omega
  dsimp only at *
  simp -implicitDefEqProofs[l377_1,hi',hlt,hiy,hip,hiy',hip',hiL,hiL',g1,g2,g3,gL,ge1,ge2,ge3,geL,hws,nr1,nr2,nt,dt1,dt2,k1,k2,k3,is]
 ·right;have e:i=a.t.length:=by omega
  subst e;have hL':(((List.range a.t.length).map fun k=>(Zc0 x a k).1).length:Int)=a.t.length:=by omega
  unfold Zkt;generalize ((List.range a.t.length).map fun k=>(Zc0 x a k).1)=LL at *
  generalize x.v.f=Q at *
  obtain⟨⟨x0,x1,x2⟩,xy,xp⟩:=Q;obtain⟨at',ay,ap⟩:=a;dsimp only at *
  constructor<;>simp -implicitDefEqProofs[l377_1,hL,hL']
end
theorem z23(A B:List (List Fz)):decide (fzM (Zbr A)=fzM (Zbr B))=decide (A.map (·.map fv)=B.map (·.map fv)):=
 decide_eq_decide.2 ⟨fun h=>by have:=congrArg Zbr h;rw[zqu,zqu]at this;exact this,fun h=>congrArg fzM h⟩
theorem z24(A B:List Fz):decide (nrm A=nrm B)=decide (A.map fv=B.map fv):=by
 have e:∀l:List Fz,nrm l=fzs (l.map fv):=fun l=>by unfold nrm fzs;rw[Yb2];rfl
 rw[e,e];exact decide_eq_decide.2 z22
theorem zyw{j:JcF}{x:PoF}(h:Zgn x j=false):(Zfx j x).1=[]:=by
 have:=zp9 x j;rw[h]at this;unfold Zfx at *
 split at this
 ·rename_i hc;rw[if_pos hc];exact zga _ _ _ _ (of_decide_eq_false this)
 ·rename_i hc;rw[if_neg hc]
theorem z25{j:JcF}{x:PoF}(h:Zgn x j=true):(Zfx j x).1=(List.range j.t.length).map (fun k=>(Zc0 x j k).1)∧j.y.length=j.t.length∧j.p.length=j.t.length∧∀k,k<j.t.length→(Zc0 x j k).2.1=0:=by
 unfold Zgn Zdp Zfv at h;simp only[Yj,decide_eq_true_eq,Yk,Ydp]at h;obtain⟨⟨h1,h2⟩,h3⟩:=h;refine⟨?_,h1,h2,h3⟩;unfold Zfx;rw[if_pos ⟨h1,h2⟩,zlb _ _ _ _ (fun k hk=>by rw[Yaj];exact h3 k hk),Yae];exact Ycj fun k _=>by rw[Yaj]
section
variable{T:Tbl}[Z7 T][Zs T][Zw T][Zx T][Zt T][Zv T][Zf T][Zl T][Zq T][Z0 T][Zab T][Zbz T][Zad T][Z8 T][Zaw T][Za4 T][Zei T][Z6 T][Zau T][Zax T][Za6 T][Zct T][Z3 T][Zz T][Zdh T][Zco T][Z1 T][Zc5 T][Zc6 T]
variable[Zai T][Za5 T][Zak T][Zbf T][Zac T][Zbk T][Zae T][Zav T][Zcp T][Ze0 T][Zb6 T][Zcz T][Zfi T][Zc7 T][Zfs T][Zdu T]
set_option maxHeartbeats 4000000 in
theorem zos(a b:JcF)(x:PoF):Zb T 377 [Zij a,Zij b,ept x]=some (.b true):=by
 have cw:=zoq (T:=T);have c1:Zb T 286 [.sl (Zd a.t) .an,.i .i64 5,.i .i64 2]=some (.b (Zbp a.t 5 2)):=zc2 (T:=T) a.t 5 2 (by decide);have c2:Zb T 307 [.sl (Zu a.y) .an,.i .i64 5,.i .i64 2]=some (.b (Zc9 a.y 5 2)):=zey (T:=T) a.y 5 2 (by decide);have c3:Zb T 307 [.sl (Zu a.p) .an,.i .i64 5,.i .i64 2]=some (.b (Zc9 a.p 5 2)):=zey (T:=T) a.p 5 2 (by decide);have c4:Zb T 286 [.sl (Zd b.t) .an,.i .i64 5,.i .i64 2]=some (.b (Zbp b.t 5 2)):=zc2 (T:=T) b.t 5 2 (by decide);have c5:Zb T 307 [.sl (Zu b.y) .an,.i .i64 5,.i .i64 2]=some (.b (Zc9 b.y 5 2)):=zey (T:=T) b.y 5 2 (by decide);have c6:Zb T 307 [.sl (Zu b.p) .an,.i .i64 5,.i .i64 2]=some (.b (Zc9 b.p 5 2)):=zey (T:=T) b.p 5 2 (by decide);have c7:Zb T 380 [ept x,.i .i64 5,.i .i64 2]=some (.b (Ze7 x 5 2)):=zrz (T:=T) x 5 2 (by decide);by_cases hL:(Zbp a.t 5 2 || Zc9 a.y 5 2 || Zc9 a.p 5 2 || Zbp b.t 5 2 || Zc9 b.y 5 2 || Zc9 b.p 5 2 || Ze7 x 5 2)=true
 ·generalize Zbp a.t 5 2=B1 at *
  generalize Zc9 a.y 5 2=B2 at *
  generalize Zc9 a.p 5 2=B3 at *
  generalize Zbp b.t 5 2=B4 at *
  generalize Zc9 b.y 5 2=B5 at *
  generalize Zc9 b.p 5 2=B6 at *
  generalize Ze7 x 5 2=B7 at *
  obtain⟨at',ay,ap⟩:=a;obtain⟨bt,bY,bp⟩:=b;obtain⟨⟨x0,x1,x2⟩,xy,xp⟩:=x;dsimp only at *
  rw[zaa Zdu.h377 rfl,b377];cases B1 with
  | true=>simp -implicitDefEqProofs[c1,cw]
  | false=>
   cases B2 with
   | true=>simp -implicitDefEqProofs[c1,c2,cw]
   | false=>
    cases B3 with
    | true=>simp -implicitDefEqProofs[c1,c2,c3,cw]
    | false=>
     cases B4 with
     | true=>simp -implicitDefEqProofs[c1,c2,c3,c4,cw]
     | false=>
      cases B5 with
      | true=>simp -implicitDefEqProofs[c1,c2,c3,c4,c5,cw]
      | false=>
       cases B6 with
       | true=>simp -implicitDefEqProofs[c1,c2,c3,c4,c5,c6,cw]
       | false=>
        cases B7 with
        | true=>simp -implicitDefEqProofs[c1,c2,c3,c4,c5,c6,c7,cw]
        | false=>simp at hL
 simp only[Ybq,not_or,Bool.not_eq_true]at hL;obtain⟨⟨⟨⟨⟨⟨h1,h2⟩,h3⟩,h4⟩,h5⟩,h6⟩,h7⟩:=hL;obtain⟨a1,a2⟩:=zbt h1;obtain⟨y1,y2,y3⟩:=zd3 h2;obtain⟨p1,p2,p3⟩:=zd3 h3;obtain⟨b1,b2⟩:=zbt h4;obtain⟨u1,u2,u3⟩:=zd3 h5;obtain⟨v1,v2,v3⟩:=zd3 h6;have hx:=zop h7 (by decide);have hxl:x.y.length≤5∧x.p.length≤5:=by
  have h:=h7;unfold Ze7 at h;simp only[Yc6]at h;obtain⟨m3,_⟩:=zbt h.1.2;obtain⟨m4,_⟩:=zbt h.2;omega
 have mk:∀{j:JcF} {B K:Nat},2≤B→5≤K→j.t.length≤5→(∀u∈j.t,fsz u≤2)→j.y.length≤5→(∀r∈j.y,r.length≤5)→(∀r∈j.y,∀u∈r,fsz u≤2)→j.p.length≤5→(∀r∈j.p,r.length≤5)→(∀r∈j.p,∀u∈r,fsz u≤2)→JcS j B K:=
  fun hB hK k1 k2 k3 k4 k5 k6 k7 k8=>⟨fun u hu=>Yc (k2 u hu) hB,fun r hr u hu=>Yc (k5 r hr u hu) hB,fun r hr u hu=>Yc (k8 r hr u hu) hB,Yc k1 hK,Yc k3 hK,Yc k6 hK,fun r hr=>Yc (k4 r hr) hK,fun r hr=>Yc (k7 r hr) hK⟩
 rw[h1]at c1;rw[h2]at c2;rw[h3]at c3;rw[h4]at c4;rw[h5]at c5;rw[h6]at c6;rw[h7]at c7;have t1:=zf5 (T:=T) a.t (by omega);have t2:=zhg (T:=T) a.y (by omega) (fun r hr=>Yc (y2 r hr) (by decide));have t3:=zhg (T:=T) a.p (by omega) (fun r hr=>Yc (p2 r hr) (by decide));have t4:=zf5 (T:=T) b.t (by omega);have t5:=zhg (T:=T) b.y (by omega) (fun r hr=>Yc (u2 r hr) (by decide));have t6:=zhg (T:=T) b.p (by omega) (fun r hr=>Yc (v2 r hr) (by decide));have t7:=zyt (T:=T) x hx.yl hx.pl;have al:=zo6 (T:=T) x a ⟨Yc hx.t (by decide),fun u hu=>Yc (hx.y u hu) (by decide),fun u hu=>Yc (hx.p u hu) (by decide),hx.yl,hx.pl⟩ (mk (by decide) (by decide) a1 a2 y1 y2 y3 p1 p2 p3);have sm:=zj9 (T:=T) a b (mk (by decide) (by decide) a1 a2 y1 y2 y3 p1 p2 p3) (mk (by decide) (by decide) b1 b2 u1 u2 u3 v1 v2 v3);have n1:=zb1 (T:=T) a.t (by omega) (fun u hu=>Yc (a2 u hu) (by decide));have n2:=zb1 (T:=T) b.t (by omega) (fun u hu=>Yc (b2 u hu) (by decide));have n3:=zd2 (T:=T) a.y (by omega) (fun r hr=>Yc (y2 r hr) (by decide)) (fun r hr u hu=>Yc (y3 r hr u hu) (by decide));have n4:=zd2 (T:=T) b.y (by omega) (fun r hr=>Yc (u2 r hr) (by decide)) (fun r hr u hu=>Yc (u3 r hr u hu) (by decide));have n5:=zd2 (T:=T) a.p (by omega) (fun r hr=>Yc (p2 r hr) (by decide)) (fun r hr u hu=>Yc (p3 r hr u hu) (by decide));have n6:=zd2 (T:=T) b.p (by omega) (fun r hr=>Yc (v2 r hr) (by decide)) (fun r hr u hu=>Yc (v3 r hr u hu) (by decide));have vsz:∀{m:List (List Fz)},(∀r∈m,∀u∈r,fsz u≤2)→∀r∈fzM (Zbr m),∀u∈r,fsz u≤10000:=by
  intro m h r hr u hu;obtain⟨r1,hr1,rfl⟩:=Y2.1 hr;obtain⟨r2,hr2,rfl⟩:=Y2.1 hr1;obtain⟨q,hq,rfl⟩:=Y2.1 hu;obtain⟨w,hw,rfl⟩:=Y2.1 hq;rw[zaw];exact Yc (za6 (h r2 hr2 w hw) (by decide)) (by decide)
 have vlen:∀{m:List (List Fz)},(∀r∈m,r.length≤5)→∀r∈fzM (Zbr m),r.length≤1000:=by
  intro m h r hr;obtain⟨r1,hr1,rfl⟩:=Y2.1 hr;obtain⟨r2,hr2,rfl⟩:=Y2.1 hr1;rw[zai,Yau];exact Yc (h r2 hr2) (by decide)
 have vl:∀m:List (List Fz),(fzM (Zbr m)).length=m.length:=fun m=>by simp[fzM,Zbr]
 have m1:=zj6 (T:=T) (nrm a.t) (nrm b.t) (by simp[nrm];omega) (fun u hu=>by
  obtain⟨w,hw,rfl⟩:=Y2.1 hu;rw[zaw];exact Yc (za6 (a2 w hw) (by decide)) (by decide))
 have m2:=zj7 (T:=T) (fzM (Zbr a.y)) (fzM (Zbr b.y)) (by rw[vl];omega) (vlen y2) (vsz y3);have m3:=zj7 (T:=T) (fzM (Zbr a.p)) (fzM (Zbr b.p)) (by rw[vl];omega) (vlen p2) (vsz p3);rw[z24]at m1;rw[z23]at m2 m3;have fl:=zvk (T:=T) a b x (Zfx a x).1 (decide ((Zfx a x).2.1=0)) (by omega);rw[zp9]at al fl;have nx:=zor (T:=T) x ⟨Yc hx.t (by decide),fun u hu=>Yc (hx.y u hu) (by decide),fun u hu=>Yc (hx.p u hu) (by decide),hx.yl,hx.pl⟩;have o0:=zcm (T:=T);have r0:=zjw (T:=T) (fz 0) (by decide +kernel);have e0:Zhl (fz 0)=true:=by decide +kernel
 rw[e0]at r0;have w1:((a.y.length:Int) == (a.t.length:Int))=decide (a.y.length=a.t.length):=by rw[Ybb,beq_iff_eq,decide_eq_true_eq];omega
 have w2:((a.p.length:Int) == (a.t.length:Int))=decide (a.p.length=a.t.length):=by rw[Ybb,beq_iff_eq,decide_eq_true_eq];omega
 unfold Ziz at sm;unfold Zjp Zks at fl;simp only[Yo]at fl;cases hf:Zgn x a with
 | false=>
  rw[hf]at al fl;rw[zyw hf]at al fl;clear hx hxl mk vsz vlen vl a2 y2 y3 p2 p3 b2 u2 u3 v2 v3 nx r0 e0 o0;unfold Zdp at fl;generalize decide (a.t.map fv=b.t.map fv)=S1 at *
  generalize decide (a.y.map (·.map fv)=b.y.map (·.map fv))=S2 at *
  generalize decide (a.p.map (·.map fv)=b.p.map (·.map fv))=S3 at *
  generalize nrm a.t=N1 at *
  generalize nrm b.t=N2 at *
  generalize fzM (Zbr a.y)=N3 at *
  generalize fzM (Zbr b.y)=N4 at *
  generalize fzM (Zbr a.p)=N5 at *
  generalize fzM (Zbr b.p)=N6 at *
  obtain⟨at',ay,ap⟩:=a;obtain⟨bt,bY,bp⟩:=b;obtain⟨⟨x0,x1,x2⟩,xy,xp⟩:=x;dsimp only at *
  generalize decide (ay.length=at'.length)=D1 at *
  generalize decide (ap.length=at'.length)=D2 at *
  rw[zaa Zdu.h377 rfl,b377];cases D1<;>cases D2<;>simp only[Bool.and_self,Bool.and_false,Yeh,zb5]at fl<;>cases S1<;>cases S2<;>cases S3<;>simp -implicitDefEqProofs[c1,c2,c3,c4,c5,c6,c7,cw,t1,t2,t3,t4,t5,t6,t7,al,w1,w2,fl,n1,n2,n3,n4,n5,n6,m1,m2,m3,sm]
 | true=>
  rw[hf]at al fl;obtain⟨e1,e2,e3,e4⟩:=z25 hf;have sl:=zvl (T:=T) a x hx (mk (by decide) (by decide) a1 a2 y1 y2 y3 p1 p2 p3) hxl e2 e3 e4;rw[←e1]at sl;have ll:(Zfx a x).1.length=a.t.length:=by rw[e1];simp
  have ll':((Zfx a x).1.length:Int)=a.t.length:=by omega
  have hfit:Zdp a=true:=by unfold Zdp;rw[decide_eq_true e2,decide_eq_true e3];rfl
  rw[hfit]at fl;rw[decide_eq_true e2]at w1;rw[decide_eq_true e3]at w2;unfold Zkt at sl;simp only[Yo]at sl;clear hx hxl mk vsz vlen vl a2 y2 y3 p2 p3 b2 u2 u3 v2 v3 e0 e1 e2 e3 e4 hfit hf;generalize x.v.f=Q at *
  generalize fz 0=F0 at *
  generalize (Zfx a x).1=LL at *
  generalize decide (a.t.map fv=b.t.map fv)=S1 at *
  generalize decide (a.y.map (·.map fv)=b.y.map (·.map fv))=S2 at *
  generalize decide (a.p.map (·.map fv)=b.p.map (·.map fv))=S3 at *
  generalize nrm a.t=N1 at *
  generalize nrm b.t=N2 at *
  generalize fzM (Zbr a.y)=N3 at *
  generalize fzM (Zbr b.y)=N4 at *
  generalize fzM (Zbr a.p)=N5 at *
  generalize fzM (Zbr b.p)=N6 at *
  obtain⟨at',ay,ap⟩:=a;obtain⟨bt,bY,bp⟩:=b;obtain⟨⟨x0,x1,x2⟩,xy,xp⟩:=x;obtain⟨⟨q0,q1,q2⟩,qy,qp⟩:=Q;dsimp only at *
  rw[zaa Zdu.h377 rfl,b377];cases S1<;>cases S2<;>cases S3<;>simp -implicitDefEqProofs[c1,c2,c3,c4,c5,c6,c7,cw,t1,t2,t3,t4,t5,t6,t7,al,w1,w2,fl,n1,n2,n3,n4,n5,n6,m1,m2,m3,sm,nx,ll,ll',sl,o0,r0]
end
end Go.Ab