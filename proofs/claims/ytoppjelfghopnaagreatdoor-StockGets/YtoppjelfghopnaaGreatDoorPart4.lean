/-
  A calculus of values, boxes and code, and what functions of the program compute, proved in it.
  Conditions: none beyond those that the theorems state. (Part 4: GpGuess3, Nm3, GpLong, GcQuotD, GpQuotD, Nm4, GcDigits, GcText, GcTrim, GpDigits, Nm5, GcWhole, GcCommon, GcFrac, GcFrac2, GcFrac3, GcFrac5, NmFig, GcStr, GcSplit, GcPow, GcFig, GcTape, GcGauge, GcEval, GcRun, GcIfc, NmLex, GcJoin, GcRow, GcRow2, GcRow5, GcLex, GcScheme, GcSchP, GcSchT, GcLaw30, GcRef02, GpRef02, GcRef04, GpRef04, GcRef05, GcRef06, GpRef05, GpRef05d, GcRef07, GpRef07, GcRef08, GcRef09, GcRef10, GcRef11, GcRef11b, GcRef5x, GcRef9p, GcRef12.)
-/
import Derived.Test.YtoppjelfghopnaaGreatDoorPart3
import Derived.Lib.IndexAny
import Derived.Lib.Bytealg

set_option linter.unusedSectionVars false
set_option linter.unusedVariables false
set_option linter.unusedSimpArgs false
set_option linter.unnecessarySimpa false

section
namespace Go.Ab
section
variable{T:Tbl}[Zu T][Z1 T][Zz T][Zw T]
theorem z1v{n two:Nat}(h:0<two):(∀q,q<4294967296→min 4294967295 (n/two)≤q→q*two≤n→q=min 4294967295 (n/two))∧(∀q,n<q*two→min 4294967295 (n/two)<q):=by
 constructor
 ·intro q hq hg hle;have:=(Ycd h).2 hle;omega
 ·intro q hlt;have:=(Ybt h).2 hlt;omega
theorem zxw{A a0 b1 b0:Nat}(h0:a0<4294967296)(hp:0<b1):A*4294967296+a0<(A/b1+1)*(b1*4294967296+b0):=by
 have h1:A<(A/b1+1)*b1:=by rw[Yam];exact Nat.lt_mul_div_succ A hp
 refine Nat.lt_of_lt_of_eq ?_ (zhs (A/b1+1) b1 b0).symm;generalize (A/b1+1)*b1=u at *
 generalize (A/b1+1)*b0=v at *
 omega
end
section
variable{T:Tbl}[Zu T][Zw T]
theorem zq3(a2 a1 a0 b1 b0:Nat)(h2:a2<4294967296)(h1:a1<4294967296)(h0:a0<4294967296)(hb1:b1<4294967296)(hb0:b0<4294967296)(hp:0<b1) :
  Zb T 119 [u32 a2,u32 a1,u32 a0,u32 b1,u32 b0]=some (u32 (min 4294967295 (((a2*4294967296+a1)*4294967296+a0)/(b1*4294967296+b0)))):=by
 obtain⟨F1,F2⟩:=z1v (n:=(a2*4294967296+a1)*4294967296+a0) (two:=b1*4294967296+b0) (by omega);have hgle:=Yep 4294967295 (((a2*4294967296+a1)*4294967296+a0)/(b1*4294967296+b0));generalize min 4294967295 (((a2*4294967296+a1)*4294967296+a0)/(b1*4294967296+b0))=g at *
 by_cases hlt:a2<b1
 ·have hd:=zmb (T:=T) a2 a1 b1 hlt h1 hb1;have hql:(a2*4294967296+a1)/b1<4294967296:=zzu hlt h1;have hrl:(a2*4294967296+a1)%b1<b1:=Ya1 _ hp;have hdm:=Ybu (a2*4294967296+a1) b1;rw[Yam]at hdm;obtain⟨_,rfl,hr⟩:=zt5 (T:=T) a2 a1 a0 b1 b0 g h0 hb1 hb0 F1 F2 ((a2*4294967296+a1)/b1,(a2*4294967296+a1)%b1) ⟨hql,by simp only;omega,hdm,by have:=F2 _ (zxw (A:=a2*4294967296+a1) (b0:=b0) h0 hp);simp only;omega⟩;unfold Zgy at hr;simp at hr;rw[f119 _ rfl,b119];simp -implicitDefEqProofs[hd,hr]
 ·have hd:=zq5 (T:=T) a2 a1 b1 (by omega) h2 h1;have ha:=zdz (T:=T) a1 b1 0 h1 hb1 (by decide);rw[Yx]at ha;by_cases hbig:b1<a2∨4294967296≤a1+b1
  ·have hg:4294967295=g:=by
    refine F1 4294967295 (by decide) hgle ?_;refine zkf (r:=a2*4294967296+a1-4294967295*b1) (by omega) ?_;omega
   subst hg;rw[f119 _ rfl,b119];rcases Yq b1 a2 with hb | hb
   ·simp -implicitDefEqProofs[hd,ha,hb]
   ·have hc:4294967296≤a1+b1:=by omega
    have hb2:¬ b1<a2:=by omega
    have m2:0<(a1+b1)/4294967296:=Yet hc (by decide);simp -implicitDefEqProofs[hd,ha,hb2,m2]
  ·have hb2:¬ b1<a2:=fun h=>hbig (.inl h);have hc:a1+b1<4294967296:=by omega
   have m1:(a1+b1)%4294967296=a1+b1:=Yi hc;have m2:(a1+b1)/4294967296=0:=Ya4 hc;rw[m1,m2]at ha;obtain⟨_,rfl,hr⟩:=zt5 (T:=T) a2 a1 a0 b1 b0 g h0 hb1 hb0 F1 F2 (4294967295,a1+b1) ⟨Y4 4294967295,hc,by simp only;omega,hgle⟩;unfold Zgy at hr;simp at hr;have hb3:a2≤b1:=by omega
   rw[f119 _ rfl,b119];simp -implicitDefEqProofs[hd,ha,hb2,hr]
end
end Go.Ab
end
section
namespace Go.Ab
theorem zwm{V b d three two v0 b0:Nat}(hV:V=three*d+v0)(hv:v0<d)(hb:b=two*d+b0)(hb0:b0<d)(h2:4294967296≤two)(hlt:V<4294967296*b) :
  V/b≤min 4294967295 (three/two)∧min 4294967295 (three/two)≤V/b+1:=by
 have hd:0<d:=by omega
 have htp:0<two:=by omega
 have hbp:0<b:=by
  have:=Nat.mul_pos htp hd;omega
 have hq:V/b<4294967296:=Yci (by rw[Yam];exact hlt);have hqb:V/b*b≤V:=Nat.div_mul_le_self V b;have hqb2:V<(V/b+1)*b:=by rw[Yam];exact Nat.lt_mul_div_succ V hbp
 generalize V/b=q at *
 constructor
 ·refine Nat.le_min.2 ⟨by omega,(Ycd htp).2 ?_⟩;have h3:q*two*d<(three+1)*d:=by
   have:q*two*d≤q*b:=by rw[hb,Yan,Yab];omega
   rw[Ybp,Yec];omega
  have:=Nat.lt_of_mul_lt_mul_right h3;omega
 ·generalize hx:min 4294967295 (three/two)=x;have hx1:x≤three/two:=by rw[←hx];exact Nat.min_le_right _ _
  have hx2:x≤4294967295:=by rw[←hx];exact Yep _ _
  have hx3:x*two≤three:=(Ycd htp).1 hx1;rcases Yq (q+1) x with h | h
  ·exfalso;have e1:(q+2)*two≤x*two:=Y5 _ h;have e2:(q+2)*two*d≤three*d:=Y5 _ (Ye e1 hx3);have e3:(q+1)*b=(q+1)*two*d+(q+1)*b0:=by rw[hb,Yan,Yab]
   have e4:(q+1)*b0≤(q+1)*d:=Yag _ (Yc8 hb0);have e5:(q+2)*two*d=(q+1)*two*d+two*d:=by rw[show q+2=(q+1)+1 from rfl,Ybp (q+1) 1 two,Yec,Ybp]
   have e6:(q+1)*d≤two*d:=Y5 _ (by omega);omega
  ·exact h
end Go.Ab
end
section
namespace Go.Ab
theorem zx4{vA vA' t p V x r vb vm T:Nat}(h0:vA=t+p*V)(h1:vA'=t+p*r)(hV:V=vb*x+r)(hT:T=vA+p*4294967296*(vm*vb)) :
  T=vA'+p*((x+4294967296*vm)*vb):=by grind
theorem zub{V b x Bo vm p:Nat}(hb:0<b)(h1:V/b≤x)(h2:x≤V/b+1)(_hp:V<p)(hm:vm<p)(hBo:Bo≤1)(h:vm+x*b=V+p*Bo) :
  (Bo=0→x=V/b∧vm=V%b)∧(Bo=1→x=V/b+1∧vm+b=V%b+p):=by
 have hd:=Ybu V b;constructor
 ·intro h0;subst h0;have hx:x=V/b:=by
   have:x*b≤V:=by omega
   have:=(Ycd hb).2 this;omega
  grind
 ·intro h0;subst h0;have hx:x=V/b+1:=by
   grind
  grind
theorem zuc{vm b r p D vm':Nat}(_hr:r<p)(h:vm+b=r+p)(hm:vm'<p)(hD:D≤1)(hg:vm'+p*D=vm+b):vm'=r:=by
 rcases Yay D with h0 | h0
 all_goals grind
theorem zmc{α:Type}{A:List α}{i k:Nat}(h:i=k)(hi:i<A.length)(hk:k<A.length):A[i]'hi=A[k]'hk:=by grind
theorem zkh(A:List UInt32)(j n:Nat):val (A.drop j)=val ((A.drop j).take n)+4294967296^((A.drop j).take n).length*val (A.drop (j+n)):=by
 grind[List.take_append_drop,zai,List.drop_drop]
theorem zq7{q x:Nat}(h:x=q+1)(hx:x<4294967296):Zet x 1=q:=by unfold Zet;omega
theorem zud{A m1:List UInt32}{j n:Nat}(hm1:m1.length=n+1)(hj:j+n<A.length) :
  (A.take j++(m1++A.drop (j+(n+1)))).take j=A.take j∧(A.take j++(m1++A.drop (j+(n+1)))).drop (j+(n+1))=A.drop (j+(n+1)) ∧
  ((A.take j++(m1++A.drop (j+(n+1)))).drop j).take (n+1)=m1∧(A.take j++(m1++A.drop (j+(n+1)))).length=A.length:=by
 have htj:(A.take j).length=j:=by grind
 refine⟨?_,?_,?_,?_⟩
 ·rw[Ybw (by omega),Yb (by omega)]
 ·rw[←Yct,Ybx (by omega),Ya6 (l:=A.take j) (by omega),Yaz,Ybx (by omega),Ya6 (by omega),Yaz]
 all_goals grind
theorem zue{D:List UInt32}{n:Nat}(h:n+2<D.length):val (D.take (n+3))=(((D[n+2]'h).toNat*4294967296+(D[n+1]'(by omega)).toNat)*4294967296+(D[n]'(by omega)).toNat)*4294967296^n+val (D.take n):=by
 grind[zaf]
theorem z1y{D:List UInt32}{n:Nat}(h:n+1<D.length):val (D.take (n+2))=((D[n+1]'h).toNat*4294967296+(D[n]'(by omega)).toNat)*4294967296^n+val (D.take n):=by
 grind[zaf]
section
variable{T:Tbl}[Zu T][Zw T]
theorem zq8(A b:List UInt32)(j x:Nat)(hx:x<4294967296)(hj:j+b.length<A.length)(hl:A.length≤1000000) :
  ∃(B:Nat) (m:List UInt32),B≤1∧m.length=b.length+1∧val m+x*val b=val ((A.drop j).take (b.length+1))+4294967296^(b.length+1)*B ∧
   Zbx T 120 [.bs (.bor 0) 0 1 0 A.length,.i .i64 j,.sl (Za b) .an,u32 x] [(.bor 0,⟨0,.own,1,Za A⟩)] =
    some (.b (decide (0<B)),[(.bor 0,⟨0,.own,1,Za (A.take j++(m++A.drop (j+(b.length+1))))⟩)]):=by
 have h1:(A.take j).length=j:=by grind
 have h2:(A.drop j).length=A.length-j:=by simp
 obtain⟨B,m,hB,hm,hv,hc⟩:=zup (T:=T) (A.take j) (A.drop j) b x hx (by omega) (by omega)
 grind[List.take_append_drop,List.drop_drop]
end
section
variable{T:Tbl}[Zu T][Zw T]
theorem zq9(A b:List UInt32)(j:Nat)(hj:j+b.length<A.length)(hl:A.length≤1000000) :
  ∃(D:Nat) (m:List UInt32),D≤1∧m.length=b.length+1∧val m+4294967296^(b.length+1)*D=val ((A.drop j).take (b.length+1))+val b ∧
   Zbx T 121 [.bs (.bor 0) 0 1 0 A.length,.i .i64 j,.sl (Za b) .an] [(.bor 0,⟨0,.own,1,Za A⟩)] =
    some (.tup [],[(.bor 0,⟨0,.own,1,Za (A.take j++(m++A.drop (j+(b.length+1))))⟩)]):=by
 have h1:(A.take j).length=j:=by grind
 have h2:(A.drop j).length=A.length-j:=by simp
 obtain⟨D,m,hD,hm,hv,hc⟩:=zuq (T:=T) (A.take j) (A.drop j) b (by omega) (by omega);rw[h1,h2,show j+(A.length-j)=A.length by omega,Yaq,Yct]at hc;exact⟨D,m,hD,hm,hv,hc⟩
end
section
variable{T:Tbl}[Zu T][Z1 T][Zz T][Zw T]
def Zjc(b:List UInt32)(LA LQ:Nat)(y:Nat×List UInt32×List UInt32):St:=
 ⟨[(0,.bs (.bor 0) 0 1 0 LA),(1,.sl (Za b) .an),(5,.i .i64 b.length),(6,.bs (.loc 15) 3 1 0 LQ),(7,.i .i64 ((y.1:Int)-1))],
  [(.bor 0,⟨0,.own,1,Za y.2.1⟩),(.loc 15,⟨3,.own,1,Za (List.replicate y.1 0++y.2.2)⟩)],5⟩
end
section
variable{T:Tbl}[Zu T][Zw T]
set_option maxHeartbeats 2000000 in
theorem z1z(A0 b:List UInt32)(LQ nb:Nat)(hnb:b.length=nb+2)(hb1:0<(b[nb+1]'(by omega)).toNat)(hl:A0.length≤1000000)(hA0:A0.length=LQ+b.length):∀y:Nat×List UInt32×List UInt32,
  (y.1≤LQ∧y.2.1.length=A0.length∧y.2.2.length=LQ-y.1∧val (y.2.1.drop y.1)<val b∧val A0=val y.2.1+4294967296^y.1*(val y.2.2*val b)) →
  ∃r,(∃Q A:List UInt32,r=(Ex.n,(⟨[(6,.bs (.loc 15) 3 1 0 LQ)],[(.bor 0,⟨0,.own,1,Za A⟩),(.loc 15,⟨3,.own,1,Za Q⟩)],5⟩:St)) ∧
   Q.length=LQ∧A.length=A0.length∧val Q=val A0/val b∧val A=val A0%val b)∧Zn T 1 0 (.norm false [6]) l93_0 (Zjc b A0.length LQ y)=some r:=by
 refine zaq _ _ (fun y=>y.1) _ ?_
 rintro⟨k,A,m⟩ ⟨hk,hA,hm,hlt,hv⟩
 simp only at hk hA hm hlt hv;have hbp:0<val b:=by omega
 cases k with
 | zero=>
  right;rw[Yc9,Yec]at hv;rw[Yaa]at hlt;refine⟨_,⟨m,A,rfl,by omega,hA,?_,?_⟩,?_,?_⟩
  ·rw[hv,Nat.add_mul_div_right _ _ hbp,Ya4 hlt,Yah]
  ·rw[hv,Yd3,Yi hlt]
  ·simp -implicitDefEqProofs[l93_0,Zjc]
  ·simp -implicitDefEqProofs[l93_0,Zjc]
 | succ j=>
  left
  -- the window
  have hD:(A.drop j).length=A.length-j:=by simp
  have hDn:nb+2<(A.drop j).length:=by omega
  have hVlt:val (A.drop j)<4294967296*val b:=by
   have:=Yk (show j<A.length by omega);rw[this,zak];have:=zaj (A[j]'(by omega));omega
  have hbB:=zax b;rw[hnb]at hbB;have hsplit:=zkh A j (nb+3);have hlen3:((A.drop j).take (nb+3)).length=nb+3:=by simp;omega
  rw[hlen3]at hsplit;have hz:val (A.drop (j+(nb+3)))=0:=by
   rcases Yay (val (A.drop (j+(nb+3)))) with h | h
   ·exact h
   ·exfalso;have h1:=Yag (4294967296^(nb+3)) h;rw[Y8 4294967296 (nb+2)]at h1 hsplit;generalize 4294967296^(nb+2)=p at *
    generalize p*4294967296*val (A.drop (j+(nb+3)))=u at *
    omega
  rw[hz,Yal,Yx]at hsplit;have h3:=zue hDn;have h2:=z1y (D:=b) (n:=nb) (by omega);rw[zbd (a:=b) (i:=nb+2) (by omega)]at h2;have hv0:=zax ((A.drop j).take nb);have hb0:=zax (b.take nb);rw[show ((A.drop j).take nb).length=nb by simp;omega]at hv0;rw[show (b.take nb).length=nb by simp;omega]at hb0;obtain⟨V,hV⟩:∃V,V=val (A.drop j):=⟨_,rfl⟩;rw[←hV]at hsplit hVlt;rw[←hsplit]at h3;have hg:=zwm (V:=V) (b:=val b) h3 hv0 h2 hb0 (by omega) hVlt;obtain⟨p0,hp0⟩:∃p,p=j+b.length:=⟨_,rfl⟩;obtain⟨p1,hp1⟩:∃p,p=j+(nb+1):=⟨_,rfl⟩;obtain⟨p2,hp2⟩:∃p,p=j+nb:=⟨_,rfl⟩;obtain⟨q1,hq1⟩:∃p,p=nb+1:=⟨_,rfl⟩;have c1:p0<A.length:=by omega
  have c2:p1<A.length:=by omega
  have c3:p2<A.length:=by omega
  have c4:q1<b.length:=by omega
  have c5:nb<b.length:=by omega
  have e1:(A.drop j)[nb+2]'hDn=A[p0]'c1:=Ydi.trans (zmc (by omega) _ _);have e2:(A.drop j)[nb+1]'(by omega)=A[p1]'c2:=Ydi.trans (zmc (by omega) _ _);have e3:(A.drop j)[nb]'(by omega)=A[p2]'c3:=Ydi.trans (zmc (by omega) _ _);have e4:b[nb+1]'(by omega)=b[q1]'c4:=zmc (by omega) _ _;rw[e1,e2,e3,e4]at hg;rw[e4]at hb1;have hgs:=zq3 (T:=T) (A[p0]'c1).toNat (A[p1]'c2).toNat (A[p2]'c3).toNat (b[q1]'c4).toNat (b[nb]'c5).toNat (zaj _) (zaj _) (zaj _) (zaj _) (zaj _) hb1;obtain⟨x,hxd⟩:∃x,x=min 4294967295 ((((A[p0]'c1).toNat*4294967296+(A[p1]'c2).toNat)*4294967296+(A[p2]'c3).toNat)/((b[q1]'c4).toNat*4294967296+(b[nb]'c5).toNat)):=⟨_,rfl⟩;rw[←hxd]at hg hgs;have hx:x<4294967296:=by rw[hxd];exact Ycv (Yep _ _) (by decide)
  clear hxd;obtain⟨Bo,m1,hBo,hm1,hvm1,hct⟩:=zq8 (T:=T) A b j x hx (by omega) (by omega);rw[hnb,show nb+2+1=nb+3 from rfl,←hsplit]at hvm1;have hm1l:=zax m1;rw[hm1,hnb,show nb+2+1=nb+3 from rfl]at hm1l;have hVp:V<4294967296^(nb+3):=by
   rw[Y8 4294967296 (nb+2)];generalize 4294967296^(nb+2)=p at *
   omega
  have hpk:=zub hbp hg.1 hg.2 hVp hm1l hBo hvm1;have hql:V/val b<4294967296:=Yci (by rw[Yam];exact hVlt);have hzb:val (A.drop (j+(b.length+1)))=0:=by rw[hnb];exact hz
  have htj:(A.take j).length=j:=by simp;omega
  have fin:∀m2:List UInt32,m2.length=b.length+1→val m2=V%val b →
    (A.take j++(m2++A.drop (j+(b.length+1)))).length=A0.length∧val ((A.take j++(m2++A.drop (j+(b.length+1)))).drop j)<val b ∧
    val A0=val (A.take j++(m2++A.drop (j+(b.length+1))))+4294967296^j*(val (w32 (V/val b)::m)*val b):=by
   intro m2 hm2 hvm2;refine⟨by simp[hm2];omega,?_,?_⟩
   ·rw[Ybx (by omega),Ya6 (by omega),Yaz,zai,hzb,Yal,Yx,hvm2];exact Ya1 _ hbp
   ·have t1:val A=val (A.take j)+4294967296^j*V:=by rw[hV];exact zm6 A j (by omega)
    have t2:val (A.take j++(m2++A.drop (j+(b.length+1))))=val (A.take j)+4294967296^j*(V%val b):=by
     rw[zai,zai,hzb,Yal,Yx,hvm2,htj]
    rw[zak,zah hql];exact zx4 t1 t2 (Ybu V (val b)).symm hv
  clear hv hvm1 hsplit h3 h2 hg hbB hVlt hlt hzb hz hv0 hb0 hm1l hVp;have hw1:IntKind.wrap .i64 ((j:Int)-1)=(j:Int)-1:=zab _ (by omega);have hw2:IntKind.wrap .i64 ((j:Int)+b.length)=((p0:Nat):Int):=by rw[zab _ (by omega)];omega
  have hw3:IntKind.wrap .i64 ((p0:Int)-1)=((p1:Nat):Int):=by rw[zab _ (by omega)];omega
  have hw4:IntKind.wrap .i64 ((p0:Int)-2)=((p2:Nat):Int):=by rw[zab _ (by omega)];omega
  have hw5:IntKind.wrap .i64 ((b.length:Int)-1)=((q1:Nat):Int):=by rw[zab _ (by omega)];omega
  have hw6:IntKind.wrap .i64 ((b.length:Int)-2)=((nb:Nat):Int):=by rw[zab _ (by omega)];omega
  have hj1:j<LQ:=by omega
  rw[hA]at hct;have hml:(w32 (V/val b)::m).length=LQ-j:=by simp[hm];omega
  have hjb:j+b.length<A.length:=by omega
  have hnb3:nb+3=b.length+1:=by omega
  have d1:p0<A0.length:=by omega
  have d2:p1<A0.length:=by omega
  have d3:p2<A0.length:=by omega
  rcases Yay Bo with h0 | h0
  ·obtain⟨hxq,hvm⟩:=hpk.1 h0;subst h0;subst hxq;have hset:=zkk (m:=m) (j:=j) (w32 (V/val b));obtain⟨f1,f2,f3⟩:=fin m1 hm1 hvm;refine⟨(j,A.take j++(m1++A.drop (j+(b.length+1))),w32 (V/val b)::m),⟨Yc8 hj1,f1,hml,f2,f3⟩,Y4 j,?_⟩;simp -implicitDefEqProofs[l93_0,Zjc,hw1,hw2,hw3,hw4,hw5,hw6,c4,c5,d1,d2,d3,hA,hj1,hgs,hct,hset,zkl,zbe _ _ _ hx]
  ·have h1:Bo=1:=by omega
   obtain⟨hxq,hvm⟩:=hpk.2 h1;subst h1;have hset:=zkk (m:=m) (j:=j) (w32 (V/val b));obtain⟨t1,t2,t3,t4⟩:=zud (A:=A) hm1 hjb;rw[hA]at t4;obtain⟨D,m2,hD,hm2,hvm2,hcg⟩:=zq9 (T:=T) (A.take j++(m1++A.drop (j+(b.length+1)))) b j (by rw[t4,←hA];exact hjb) (by rw[t4];exact hl);rw[t1,t2,t4]at hcg;rw[t3]at hvm2;have hm2l:=zax m2;rw[hm2]at hm2l;have hVb:=Ya1 V hbp;have hbq:val b<4294967296^(b.length+1):=Yp (zax b) (Ym (by decide) (Ybq _));rw[hnb3]at hvm;have hv2:=zuc (Nat.lt_trans hVb hbq) hvm hm2l hD hvm2;have hsx:=zq7 hxq hx;obtain⟨f1,f2,f3⟩:=fin m2 hm2 hv2;refine⟨(j,A.take j++(m2++A.drop (j+(b.length+1))),w32 (V/val b)::m),⟨Yc8 hj1,f1,hml,f2,f3⟩,Y4 j,?_⟩;simp -implicitDefEqProofs[l93_0,Zjc,hw1,hw2,hw3,hw4,hw5,hw6,c4,c5,d1,d2,d3,hA,hj1,hgs,hct,hsx,hcg,hset,zkl,zbe _ _ _ hql]
end
section
variable{T:Tbl}[Zu T][Zw T]
theorem zuf(A b:List UInt32)(LQ nb:Nat)(hnb:b.length=nb+2)(hb1:0<(b[nb+1]'(by omega)).toNat)(hl:A.length≤1000000)(hA:A.length=LQ+b.length)(hlt:val (A.drop LQ)<val b) :
  ∃Q R:List UInt32,Q.length=LQ∧R.length=A.length∧val Q=val A/val b∧val R=val A%val b ∧
   Zbx T 93 [.bs (.bor 0) 0 1 0 A.length,.sl (Za b) .an] [(.bor 0,⟨0,.own,1,Za A⟩)]=some (.bs (.loc 15) 3 1 0 LQ,[(.bor 0,⟨0,.own,1,Za R⟩),(.loc 15,⟨3,.own,1,Za Q⟩)]):=by
 obtain⟨_,⟨Q,R,rfl,hQ,hR,hq,hr⟩,hlp⟩:=z1z (T:=T) A b LQ nb hnb hb1 hl hA (LQ,A,[]) ⟨Yf _,rfl,by simp,hlt,by simp⟩;have hw:IntKind.wrap .i64 ((A.length:Int)-b.length)=(LQ:Int):=by rw[zab _ (by omega)];omega
 have hw1:IntKind.wrap .i64 ((LQ:Int)-1)=(LQ:Int)-1:=zab _ (by omega);have h1:(LQ:Int)≤4294967296:=by omega
 refine⟨Q,R,hQ,hR,hq,hr,?_⟩;unfold Zjc at hlp;simp at hlp;rw[za4 Zw.h93 rfl,b93];simp -implicitDefEqProofs[hw,hw1,h1,hlp]
end
end Go.Ab
end
section
namespace Go.Ab
def b2071:AX:=
 (.seq
 (.reg [rg 2 (.mov (.c (.sl [] .nl)))])
 (.seq
 (.reg [mv 3 0,rg 4 (.call 86 [(.t 3)]),rg 5 (.call 2106 [(.t 4),(.c (.i .i64 0))]),mv 2 5])
 (.pre (.norm false [2]) .ret)))
def l2092_0:AX:=
 (.note
 (.seq
 (.reg [rg 27 (.bin .lss (.t 26) (.t 25))])
 (.seq
 (.cond (.t 27)
 .skip
 (.exit 0))
 (.seq
 (.block 1
 (.seq
 (.reg [mv 28 26,rg 29 (.iad 1 (.t 24) (.t 26)),rg 30 (.load none (.t 29)),mv 8 28,mv 9 30])
 (.seq
 (.reg [mv 31 9,rg 32 (.conv .u64 (.t 31)),mv 33 6,rg 34 (.bin .shl (.t 32) (.t 33)),mv 10 34])
 (.seq
 (.reg [mv 35 7,mv 36 5,mv 37 8,rg 38 (.bin .add (.t 36) (.t 37)),rg 39 (.iad 1 (.t 35) (.t 38)),rg 40 (.load none (.t 39)),mv 41 10,rg 42 (.conv .u32 (.t 41)),rg 43 (.bin .or (.t 40) (.t 42)),rg 44 (.iad 1 (.t 35) (.t 38)),so (.store 1 (.t 44) (.t 43))])
 (.reg [mv 45 7,mv 46 5,mv 47 8,rg 48 (.bin .add (.t 46) (.t 47)),rg 49 (.bin .add (.t 48) (.c (.i .i64 1))),mv 50 10,rg 51 (.bin .shr (.t 50) (.c (u64 32))),rg 52 (.conv .u32 (.t 51)),rg 53 (.iad 1 (.t 45) (.t 49)),so (.store 1 (.t 53) (.t 52))])))))
 (.reg [rg 54 (.bin .add (.t 26) (.c (.i .i64 1))),mv 26 54]))))
 (.norm false [5,6,7,24,25,26]))
def b2092:AX:=
 (.seq
 (.reg [rg 4 (.mov (.c (.sl [] .nl)))])
 (.seq
 (.reg [mv 11 1,rg 12 (.mm true [(.t 11),(.c (.i .i64 0))]),rg 13 (.mm false [(.t 12),(.c (.i .i64 4096))]),mv 1 13])
 (.seq
 (.reg [mv 14 1,rg 15 (.bin .quo (.t 14) (.c (.i .i64 32))),mv 16 1,rg 17 (.bin .rem (.t 16) (.c (.i .i64 32))),mv 5 15,mv 6 17])
 (.seq
 (.reg [mv 18 5,mv 19 0,rg 20 (.len (.t 19)),rg 21 (.bin .add (.t 18) (.t 20)),rg 22 (.bin .add (.t 21) (.c (.i .i64 1))),rg 23 (.mks 1 [(u32 0)] (.t 22) (.t 22)),mv 7 23])
 (.seq
 (.seq
 (.reg [mv 24 0,rg 25 (.len (.t 24)),rg 26 (.mov (.c (.i .i64 0)))])
 (.lp 0 (.norm false [5,6,7,24,25,26]) l2092_0 (.norm false [7])))
 (.seq
 (.reg [mv 55 7,rg 56 (.call 2071 [(.t 55)]),mv 4 56])
 (.pre (.norm false [4]) .ret)))))))
def b62:AX:=
 (.seq
 (.reg [rg 4 (.mov (.c (.sl [] .nl))),rg 5 (.mov (.c (.sl [] .nl))),rg 6 (.mov (.c (.b false)))])
 (.seq
 (.reg [mv 12 1,rg 13 (.call 71 [(.t 12)]),mv 1 13])
 (.seq
 (.block 0
 (.seq
 (.reg [mv 15 1,rg 16 (.len (.t 15)),rg 17 (.bin .eql (.t 16) (.c (.i .i64 0))),mv 14 17])
 (.cond (.t 14)
 (.seq
 (.reg [rg 4 (.mov (.c (.sl [] .nl))),rg 5 (.mov (.c (.sl [] .nl))),rg 6 (.mov (.c (.b false)))])
 (.pre (.norm false [4,5,6]) .ret))
 (.seq
 (.reg [mv 19 0,mv 20 1,rg 21 (.call 87 [(.t 19),(.t 20)]),rg 22 (.bin .lss (.t 21) (.c (.i .i64 0))),mv 18 22])
 (.cond (.t 18)
 (.seq
 (.reg [mv 23 0,rg 24 (.call 71 [(.t 23)]),rg 4 (.mov (.c (.sl [] .nl))),mv 5 24,rg 6 (.mov (.c (.b true)))])
 (.pre (.norm false [4,5,6]) .ret))
 (.seq
 (.reg [mv 26 1,rg 27 (.len (.t 26)),rg 28 (.bin .eql (.t 27) (.c (.i .i64 1))),mv 25 28])
 (.cond (.t 25)
 (.seq
 (.reg [mv 30 0,mv 31 1,rg 32 (.iad 1 (.t 31) (.c (.i .i64 0))),rg 33 (.load none (.t 32)),rg 34 (.call 90 [(.t 30),(.t 33)]),mv 29 34,rg 35 (.ext (.t 29) 0),rg 36 (.ext (.t 29) 1),rg 37 (.ext (.t 29) 2),mv 7 35,mv 8 36,mv 9 37])
 (.seq
 (.reg [mv 38 7,mv 39 8,rg 40 (.conv .u64 (.t 39)),rg 41 (.call 72 [(.t 40)]),mv 4 38,mv 5 41,rg 6 (.mov (.c (.b true)))])
 (.pre (.norm false [4,5,6]) .ret)))
 .skip)))))))
 (.seq
 (.reg [mv 42 1,mv 43 1,rg 44 (.len (.t 43)),rg 45 (.bin .sub (.t 44) (.c (.i .i64 1))),rg 46 (.iad 1 (.t 42) (.t 45)),rg 47 (.load none (.t 46)),rg 48 (.call 91 [(.t 47)]),rg 49 (.bin .sub (.c (.i .i64 32)) (.t 48)),mv 10 49])
 (.seq
 (.reg [mv 50 0,mv 51 10,rg 52 (.call 2092 [(.t 50),(.t 51)]),rg 53 (.bsl 1 [(u32 0)] 1 [(0,(.c (u32 0)))]),rg 54 (.app 1 (.t 52) (.t 53)),mv 11 54])
 (.seq
 (.reg [mv 55 11,mv 56 1,mv 57 10,rg 58 (.call 2092 [(.t 56),(.t 57)]),rg 59 (.call 93 [(.t 55),(.t 58)]),mv 4 59])
 (.seq
 (.reg [mv 60 4,rg 61 (.call 71 [(.t 60)]),mv 62 11,mv 63 10,rg 64 (.call 94 [(.t 62),(.t 63)]),mv 4 61,mv 5 64,rg 6 (.mov (.c (.b true)))])
 (.pre (.norm false [4,5,6]) .ret))))))))
def row2071:AFx:=⟨1,6,[.t 2],b2071,(some [false]),false⟩
def row2092:AFx:=⟨2,57,[.t 4],b2092,(some [false,false]),false⟩
def row62:AFx:=⟨2,65,[.t 4,.t 5,.t 6],b62,none,false⟩
class Zs (T:Tbl):Prop where
 h2071:T 2071=some row2071
 h2092:T 2092=some row2092
 h62:T 62=some row62
section
variable{T:Tbl}[Zs T]{d:Option Nat}{st:St}
@[simp] theorem x2071(xs:List AV):Zd (orc T) T 2071 xs d st=bL (Zeb st.heap [false] xs) fun ys=>Zdp ys (Zm (Za1 [false] xs) st.heap) (Zcy (Zm (Za1 [false] xs) st.heap) 40 (Zci [false] xs) []) T 2071 false d st:=zav Zs.h2071
@[simp] theorem x2092(xs:List AV):Zd (orc T) T 2092 xs d st=bL (Zeb st.heap [false,false] xs) fun ys=>Zdp ys (Zm (Za1 [false,false] xs) st.heap) (Zcy (Zm (Za1 [false,false] xs) st.heap) 40 (Zci [false,false] xs) []) T 2092 false d st:=zav Zs.h2092
@[simp] theorem x62(xs:List AV):Zd (orc T) T 62 xs d st=cP T 62 false xs d st:=zaa Zs.h62
end
end Go.Ab
end
section
namespace Go.Ab
theorem z16(x:Nat):x<2^Z7 x:=by
 unfold Z7;split
 ·subst x;decide
 ·exact Yc4
theorem zur{x:Nat}(h:x<4294967296):Z7 x≤32:=by
 unfold Z7;split
 ·omega
 ·rename_i h0;have:=(Ydx h0 (k:=32)).2 (by simpa using h);omega
theorem zzw{n k:Nat}(h:(ofN n).length=k+1):4294967296^k≤n:=by
 rcases Yq n (4294967296^k) with h1 | h1
 ·have:=zag h1;omega
 ·exact h1
theorem z7m{b:List UInt32}{nb:Nat}(h:b.length=nb+2)(hb:b=ofN (val b)) :
  (ofN (val b*2^(32-Z7 (b[nb+1]'(by omega)).toNat))).length=nb+2:=by
 have hl:=zur (zaj (b[nb+1]'(by omega)));have hs:=z16 (b[nb+1]'(by omega)).toNat;have h1:val b=val (b.take (nb+1))+4294967296^(nb+1)*(b[nb+1]'(by omega)).toNat:=by
  have:=zaf (Ya (show nb+1<b.length by omega))
  rwa [zbd (by omega)]at this
 have h2:=zax (b.take (nb+1));rw[show (b.take (nb+1)).length=nb+1 by simp;omega]at h2;generalize (b[nb+1]'(by omega)).toNat=t at *
 refine Nat.le_antisymm (zag ?_) ?_
 ·have h3:val b<4294967296^(nb+1)*2^Z7 t:=by
   have:4294967296^(nb+1)*(t+1)≤4294967296^(nb+1)*2^Z7 t:=Yag _ hs;rw[Yan,Ydt]at this;omega
  have h4:2^Z7 t*2^(32-Z7 t)=4294967296:=by
   rw[←Ybe,show Z7 t+(32-Z7 t)=32 by omega]
  have h5:=Yd0 h3 (Ya2 (n:=32-Z7 t) (show 0<2 by decide));rw[Yab,h4,←Y8]at h5;exact h5
 ·have h3:val b≤val b*2^(32-Z7 t):=Ycm _ (Ya2 (by decide));have:=zas h3;rw[←hb]at this;omega
theorem z17{b:List UInt32}{nb:Nat}(h:b.length=nb+2)(hb:b=ofN (val b)):0<(b[nb+1]'(by omega)).toNat:=by
 have h1:val b=val (b.take (nb+1))+4294967296^(nb+1)*(b[nb+1]'(by omega)).toNat:=by
  have:=zaf (Ya (show nb+1<b.length by omega))
  rwa [zbd (by omega)]at this
 have h2:=zax (b.take (nb+1));rw[show (b.take (nb+1)).length=nb+1 by simp;omega]at h2;have h3:4294967296^(nb+1)≤val b:=zzw (by rw[←hb];omega);rcases Yay (b[nb+1]'(by omega)).toNat with h0 | h0
 ·rw[h0,Yal]at h1;omega
 ·exact h0
theorem zhw(l:List UInt32):val (l++[0])=val l:=by rw[zai];simp
theorem z7n{A b:List UInt32}{nb L:Nat}(hA:(A++[0]).length=L+b.length)(hb:b.length=nb+2)(hbo:b=ofN (val b)):val ((A++[0]).drop L)<val b:=by
 have hl:L≤A.length:=by simp at hA;omega
 rw[Ybx hl,zhw];have h1:=zax (A.drop L);have h2:(A.drop L).length=nb+1:=by simp at hA ⊢;omega
 rw[h2]at h1;exact Yp h1 (zzw (by rw[←hbo];omega))
section
variable{T:Tbl}[Zu T][Zs T]
theorem zmj(a:List UInt32)(hl:a.length≤1000000):Zbx T 2071 [.sl (Za a) .an] [] =
  some (.bs (.fld (.loc 5) 10) 1 1 0 (ofN (val a)).length,[(.fld (.loc 5) 10,⟨1,.own,1,Za (ofN (val a))⟩)]):=by
 have h1:=zad a;have h2:=zb9 (T:=T) (ofN (val a)) 0 (by omega);simp only[Yt,Yx,List.replicate_zero,Ybc]at h2;rw[za4 Zs.h2071 rfl,b2071];simp -implicitDefEqProofs[zbq a (by omega),h2]
end
section
variable{T:Tbl}[Zu T][Zs T]
theorem zhx(a:List UInt32)(n:Nat)(hn:n≤4096)(hl:a.length≤100000):Zbx T 2092 [.sl (Za a) .an,.i .i64 n] [] =
  some (.bs (.fld (.fld (.loc 56) 0) 6010) 1 1 0 (ofN (val a*2^n)).length,[(.fld (.fld (.loc 56) 0) 6010,⟨1,.own,1,Za (ofN (val a*2^n))⟩)]):=by
 obtain⟨_,⟨c,m,rfl,hm,hc,hv⟩,hr⟩:=zwd (T:=T) (List.replicate (n/32) 0) a (n%32) (Ya1 _ (by decide)) (by simp;omega) (0,0,[]) ⟨Yl _,Ya2 (by decide),rfl,by simp⟩;have hc32:c<4294967296:=Yp hc (by
  have:2^(n%32)≤2^32:=Ym (by decide) (by omega);simpa using this)
 have hval:val (List.replicate (n/32) 0++(m++[w32 c]))=val a*2^n:=by
  rw[zai,zau,Ycb,zai,hm];simp only[zak,za3,Yal,Yx,zah hc32,Yah];rw[hv,zkw,←Yab,←Ybe,show 32*(n/32)+n%32=n by omega,Yam]
 have hlen:(List.replicate (n/32) 0++(m++[w32 c])).length=n/32+a.length+1:=by simp[hm];omega
 have hnm:=zmj (T:=T) (List.replicate (n/32) 0++(m++[w32 c])) (by omega);rw[hval]at hnm;rw[show l92_0=l2092_0 from rfl]at hr;unfold Zkf at hr;generalize List.replicate (n/32) 0++(m++[w32 c])=Q at *
 simp at hr;have hz:List.replicate (n/32) (0:UInt32)++w32 0::List.replicate a.length 0=List.replicate (n/32+a.length+1) 0:=by
  have:w32 0=0:=rfl;rw[this,←Ybk,Ycl,Yao]
 rw[hz]at hr;have hn2:¬ (4096:Int)<(n:Int):=by omega
 have hq:(n:Int).tdiv 32=(n:Int)/32:=Ybo (by omega);have hm2:(n:Int).tmod 32=(n:Int)%32:=Yca (by omega);have w1:IntKind.wrap .i64 ((n:Int)/32)=(n:Int)/32:=zab (n/32) (by omega);have w2:IntKind.wrap .i64 ((n:Int)/32+a.length)=(n:Int)/32+a.length:=zab _ (by omega);have w3:IntKind.wrap .i64 ((n:Int)/32+a.length+1)=(n:Int)/32+a.length+1:=zab _ (by omega);have p1:(0:Int)≤(n:Int)/32+a.length+1:=by omega
 have p2:(n:Int)/32+a.length+1≤4294967296:=by omega
 have p3:((n:Int)/32+a.length+1).toNat=n/32+a.length+1:=by omega
 have htk:List.take (n/32+a.length+1) Q=Q:=Yb (by omega);rw[za4 Zs.h2092 rfl,b2092];simp -implicitDefEqProofs[hn2,hq,hm2,w1,w2,w3,p1,p2,p3,hr,hnm,htk,hlen]
end
section
variable{T:Tbl}[Zu T][Z1 T][Zz T][Zw T][Zs T]
theorem zfl(a b:List UInt32)(ha:a.length≤90000)(hb:b.length≤90000):Zb T 62 [.sl (Za a) .an,.sl (Za b) .an] =
  some (if val b=0 then .tup [.sl [] .an,.sl [] .an,.b false] else .tup [.sl (Za (ofN (val a/val b))) .an,.sl (Za (ofN (val a%val b))) .an,.b true]):=by
 have hnb:=zbf (T:=T) b (by omega);have hna:=zbf (T:=T) a (by omega);have hlb:=zad b;have hla:=zad a;have hcmp:=zhv (T:=T) a (ofN (val b)) (by omega) (by omega);rw[zae]at hcmp;rw[zac Zs.h62 rfl,b62];by_cases h0:val b=0
 ·rw[h0]at hnb;simp -implicitDefEqProofs[hnb,h0]
 ·have h0':ofN (val b)≠[]:=fun h=>h0 (zar.1 h);have hl0:(ofN (val b)).length≠0:=fun h=>h0' (Ya3 h);by_cases hlt:val a<val b
  ·have hd:=Ya4 hlt;have hm:=Yi hlt;simp -implicitDefEqProofs[hnb,h0,hl0,hcmp,zcj,hlt,hna,hd,hm]
  ·rcases Yq 1 (ofN (val b)).length with h1 | h1
   ·obtain⟨b',hb'⟩:∃b',b'=ofN (val b):=⟨_,rfl⟩;have hvb:val b'=val b:=by rw[hb',zae]
    have hbo:b'=ofN (val b'):=by rw[hvb,hb']
    rw[←hb']at hnb hcmp hl0 h1 hlb;obtain⟨nb,hnbl⟩:∃nb,b'.length=nb+2:=⟨b'.length-2,by omega⟩;have hll:=zpl (T:=T) (b'[nb+1]'(by omega));have hbl:=zur (zaj (b'[nb+1]'(by omega)));have hup:=z7m hnbl hbo;obtain⟨s,hs⟩:∃s,s=32-Z7 (b'[nb+1]'(by omega)).toNat:=⟨_,rfl⟩;obtain⟨l,hll2⟩:∃l,l=Z7 (b'[nb+1]'(by omega)).toNat:=⟨_,rfl⟩;rw[←hs]at hup;rw[←hll2]at hll hs hbl;obtain⟨B,hB⟩:∃B,B=ofN (val b'*2^s):=⟨_,rfl⟩;obtain⟨A,hA⟩:∃A,A=ofN (val a*2^s):=⟨_,rfl⟩;have hua:=zhx (T:=T) a s (by omega) (by omega);have hub:=zhx (T:=T) b' s (by omega) (by omega);rw[←hA]at hua;rw[←hB]at hub hup;have hBo:B=ofN (val B):=by rw[hB,zae]
    have hvA:val A=val a*2^s:=by rw[hA,zae]
    have hvB:val B=val b'*2^s:=by rw[hB,zae]
    have hAB:B.length≤A.length:=by
     rw[hA,hB];exact zas (Y5 _ (by omega))
    have hAl:A.length≤a.length+1:=by
     rw[hA];refine zag ?_;have h2:2^s≤2^32:=Ym (by decide) (by omega);rw[Y8];exact Ycv (Yag _ h2) (Yd0 (zax a) (by decide))
    have hpos:=z17 (hup) hBo;obtain⟨Q,R,hQ,hR,hvQ,hvR,hlong⟩:=zuf (T:=T) (A++[0]) B (A.length+1-B.length) nb hup hpos (by simp;omega) (by simp;omega) (z7n (by simp;omega) hup hBo);rw[zhw,hvA,hvB,hvb,Nat.mul_div_mul_right _ _ (Ya2 (by decide))]at hvQ;rw[zhw,hvA,hvB,hvb,Nat.mul_mod_mul_right]at hvR;have hnq:=zbf (T:=T) Q (by omega);have hAl1:(A++[(0:UInt32)]).length=A.length+1:=by simp
    rw[hAl1]at hlong hR;have hdn:=zwg (T:=T) R s (by omega) (by omega);rw[hvR,Nat.mul_div_cancel _ (Ya2 (by decide))]at hdn;rw[hvQ]at hnq;obtain⟨q1,hq1⟩:∃p,p=nb+1:=⟨_,rfl⟩;have c1:q1<b'.length:=by omega
    have hwt:b'[nb+1]'(by omega)=b'[q1]'c1:=zmc (by omega) _ _;rw[hwt]at hll;have w1:IntKind.wrap .i64 ((b'.length:Int)-1)=(q1:Int):=by rw[zab _ (by omega)];omega
    have w2:IntKind.wrap .i64 (32-(l:Int))=(s:Int):=by rw[zab _ (by omega)];omega
    have c3:A.length≤4294967295:=by omega
    have c4:w32 0=0:=rfl;have c5:A.length+1≤A.length+1-B.length+B.length:=by omega
    have c2:¬ ((b'.length:Int)=1):=by omega
    have t1:List.take (A.length+1) R=R:=Yb (by omega);have t2:List.take (A.length+1-B.length) Q=Q:=Yb (by omega);simp -implicitDefEqProofs[hnb,h0,hl0,hcmp,zcj,hlt,w1,w2,c1,c2,c3,c4,c5,hll,hua,hub,hlong,hnq,hdn,t1,t2,hQ,hR]
   ·have hl1:(ofN (val b)).length=1:=by omega
    obtain⟨w,hw⟩:=List.length_eq_one_iff.1 hl1;have hvb:val b=w.toNat:=by
     have:=zae (val b);rw[hw]at this;simp at this;omega
    have hwl:=zaj w;have hwd:=zuo (T:=T) a (val b) (by omega) (by omega) (by omega);have hof:=zeo (T:=T) (val a%val b) (by have:=Ya1 (val a) (show 0<val b by omega);omega);have m1:val a%val b%18446744073709551616=val a%val b:=Yi (by have:=Ya1 (val a) (show 0<val b by omega);omega);rw[hw]at hnb hcmp;rw[←hvb]at hwl;simp -implicitDefEqProofs[hnb,h0,hcmp,zcj,hlt,hwd,←hvb,hof,m1]
end
end Go.Ab
end
section
namespace Go.Ab
def Zml(n:Nat):List UInt8:=if h:n<10 then [UInt8.ofNat (48+n)] else UInt8.ofNat (48+n%10)::Zml (n/10)
termination_by n
decreasing_by omega
def Zg6(n:Nat):List UInt8:=(Zml n).reverse
def Zlk:List AV→Option UInt32
 | [.i .u32 n]=>if 0≤n∧n<4294967296 then some (w32 n.toNat) else none
 | _=>none
def prim68:List AV→Option AV
 | [.sl els .an]=>if els.length≤1000 then (els.mapM Zlk).map fun l=>.s (Zg6 (val l)) else none
 | _=>none
def Zb1:Nat→List UInt8→Int
 | _,[]=>-1
 | k,c::r=>if c.toNat<48∨57<c.toNat∨k=60 then k else Zb1 (k+1) r
def Zp(l:List UInt8):Int:=if l=[] then 0 else Zb1 0 l
theorem zkx:∀(k:Nat) (l:List UInt8),-1≤Zb1 k l
 | _,[]=>by simp[Zb1]
 | k,c::r=>by
  simp only[Zb1];split
  ·omega
  ·exact zkx (k+1) r
theorem ze0:∀(k:Nat) (l:List UInt8),k≤60→Zb1 k l≤60
 | _,[],_=>by simp[Zb1]
 | k,c::r,h=>by
  simp only[Zb1];split
  ·omega
  ·exact ze0 (k+1) r (by omega)
theorem zdl:∀(k:Nat) (l:List UInt8),k≤60→Zb1 k l<0→k+l.length≤60∧∀c∈l,48≤c.toNat∧c.toNat≤57
 | k,[],h,_=>⟨by simpa using h,by simp⟩
 | k,c::r,h,hw=>by
  simp only[Zb1]at hw;split at hw
  ·omega
  ·rename_i hc;obtain⟨h1,h2⟩:=zdl (k+1) r (by omega) hw;refine⟨by simp;omega,fun d hd=>?_⟩;rcases Yw.1 hd with rfl | hd
   ·omega
   ·exact h2 d hd
def rd(l:List UInt8):Nat:=l.foldl (fun n c=>n*10+(c.toNat-48)) 0
theorem z26(l:List UInt8):∀n,l.foldl (fun n c=>n*10+(c.toNat-48)) n=n*10^l.length+rd l:=by
 induction l with
 | nil=>intro n;simp[rd]
 | cons c l ih=>
  intro n;simp only[List.foldl_cons,Yd,rd];rw[ih,ih (0*10+(c.toNat-48)),Y8]
  grind
theorem zid(a b:List UInt8):rd (a++b)=rd a*10^b.length+rd b:=by
 unfold rd;rw[List.foldl_append,z26]
 rfl
theorem z27(a:List UInt8)(c:UInt8):rd (a++[c])=rd a*10+(c.toNat-48):=by
 rw[zid];simp[rd]
theorem zgk{l:List UInt8}{i:Nat}{c:UInt8}(h:l[i]? = some c):rd (l.take (i+1))=rd (l.take i)*10+(c.toNat-48):=by
 rw[Ycz,h];exact z27 _ _
theorem zon{l:List UInt8}(h:∀c∈l,48≤c.toNat∧c.toNat≤57):rd l<10^l.length:=by
 induction l with
 | nil=>simp[rd]
 | cons c l ih=>
  have h1:=ih fun d hd=>h d (Ys _ hd);have h2:=h c Y9;have:rd (c::l)=(c.toNat-48)*10^l.length+rd l:=by
   have:=zid [c] l;simpa[rd]using this
  rw[this,Yd,Y8];have h3:(c.toNat-48)*10^l.length≤9*10^l.length:=Y5 _ (by omega);omega
def txN(n:Nat)(s:List UInt8):List UInt8:=if n=0∧s≠[] then s else Zg6 n++s
def Znv:Nat→Nat→List UInt8
 | 0,_=>[]
 | k+1,x=>Znv k (x/10)++[UInt8.ofNat (48+x%10)]
def u8c(l:List UInt8):List AV:=l.map fun b=>u8 b.toNat
end Go.Ab
end
section
namespace Go.Ab
def b98:AX:=
 (.seq
 (.reg [rg 4 (.mov (.c (.s []))),rg 5 (.mov (.c (.b false)))])
 (.seq
 (.seq
 (.reg [mv 6 0,mv 7 1,rg 8 (.call 123 [(.t 6),(.t 7)]),rg 9 (.un .not (.t 8))])
 (.cond (.t 9)
 (.seq
 (.reg [mv 10 0,mv 4 10,rg 5 (.mov (.c (.b false)))])
 (.pre (.norm false [4,5]) .ret))
 .skip))
 (.seq
 (.reg [mv 11 0,mv 12 1,rg 13 (.lens (.t 12)),rg 14 (.slstr (.t 11) (some (.t 13)) none),mv 4 14,rg 5 (.mov (.c (.b true)))])
 (.pre (.norm false [4,5]) .ret))))
def b123:AX:=
 (.seq
 (.reg [rg 4 (.mov (.c (.b false)))])
 (.seq
 (.reg [mv 5 0,rg 6 (.lens (.t 5)),mv 7 1,rg 8 (.lens (.t 7)),rg 9 (.bin .geq (.t 6) (.t 8)),mv 10 9,gd 11 10 true (.mov (.t 0)),gd 12 10 true (.mov (.t 1)),gd 13 10 true (.lens (.t 12)),gd 14 10 true (.slstr (.t 11) none (some (.t 13))),gd 15 10 true (.mov (.t 1)),gd 16 10 true (.bin .eql (.t 14) (.t 15)),rg 17 (.pick (.t 10) (.t 16) (.c (.b false))),mv 4 17])
 (.pre (.norm false [4]) .ret)))
def b64:AX:=
 (.seq
 (.reg [rg 4 (.mov (.c (.s []))),rg 5 (.mov (.c (.b false)))])
 (.seq
 (.reg [mv 6 0,mv 7 1,rg 8 (.call 98 [(.t 6),(.t 7)]),rg 9 (.ext (.t 8) 0),rg 10 (.ext (.t 8) 1),mv 4 9,mv 5 10])
 (.pre (.norm false [4,5]) .ret)))
def l101_0:AX:=
 (.note
 (.seq
 (.seq
 (.reg [mv 5 4,rg 6 (.bin .geq (.t 5) (.c (.i .i64 0)))])
 (.cond (.t 6)
 .skip
 (.exit 0)))
 (.seq
 (.block 1
 (.seq
 (.reg [mv 9 4,mv 10 0,rg 11 (.bin .rem (.t 10) (.c (u32 10))),rg 12 (.bin .add (.c (u32 48)) (.t 11)),rg 13 (.conv .u8 (.t 12)),rg 14 (.iaa 1 9 (.t 3) (.t 9)),so (.store 1 (.t 14) (.t 13))])
 (.reg [mv 15 0,rg 16 (.bin .quo (.t 15) (.c (u32 10))),mv 0 16])))
 (.reg [mv 7 4,rg 8 (.bin .sub (.t 7) (.c (.i .i64 1))),mv 4 8])))
 (.norm false [0,3,4]))
def b101:AX:=
 (.seq
 (.reg [rg 2 (.mov (.c (.s [])))])
 (.seq
 (.reg [rg 3 (.alloc [(u8 0),(u8 0),(u8 0),(u8 0),(u8 0),(u8 0),(u8 0),(u8 0),(u8 0)])])
 (.seq
 (.seq
 (.reg [rg 4 (.mov (.c (.i .i64 8)))])
 (.lp 0 (.norm false [0,3,4]) l101_0 (.norm false [3])))
 (.seq
 (.reg [rg 17 (.xop (.arsl 9) [(.t 3)]),rg 18 (.xop .bstr [(.t 17)]),mv 2 18])
 (.pre (.norm false [2]) .ret)))))
def l99_0:AX:=
 (.note
 (.seq
 (.reg [rg 7 (.bin .lss (.t 6) (.t 5))])
 (.seq
 (.cond (.t 7)
 .skip
 (.exit 0))
 (.seq
 (.block 1
 (.seq
 (.reg [mv 8 6,mv 3 8])
 (.seq
 (.reg [mv 9 0,mv 10 3,rg 11 (.ixs (.t 9) (.t 10)),rg 12 (.bin .lss (.t 11) (.c (u8 48))),mv 13 12,gd 14 13 false (.mov (.t 0)),gd 15 13 false (.mov (.t 3)),gd 16 13 false (.ixs (.t 14) (.t 15)),gd 17 13 false (.bin .gtr (.t 16) (.c (u8 57))),rg 18 (.pick (.t 13) (.c (.b true)) (.t 17)),mv 19 18,gd 20 19 false (.mov (.t 3)),gd 21 19 false (.bin .eql (.t 20) (.c (.i .i64 60))),rg 22 (.pick (.t 19) (.c (.b true)) (.t 21))])
 (.cond (.t 22)
 (.seq
 (.reg [mv 23 3,mv 2 23])
 (.pre (.norm false [2]) .ret))
 .skip))))
 (.reg [rg 24 (.bin .add (.t 6) (.c (.i .i64 1))),mv 6 24]))))
 (.norm false [0,5,6]))
def b99:AX:=
 (.seq
 (.reg [rg 2 (.mov (.c (.i .i64 0)))])
 (.seq
 (.seq
 (.reg [mv 4 0,rg 5 (.lens (.t 4)),rg 6 (.mov (.c (.i .i64 0)))])
 (.lp 0 (.norm false [0,5,6]) l99_0 (.norm false [0])))
 (.seq
 (.seq
 (.reg [mv 25 0,rg 26 (.bin .eql (.t 25) (.c (.s [])))])
 (.cond (.t 26)
 (.seq
 (.reg [rg 2 (.mov (.c (.i .i64 0)))])
 (.pre (.norm false [2]) .ret))
 .skip))
 (.seq
 (.reg [rg 2 (.mov (.c (.i .i64 (-1))))])
 (.pre (.norm false [2]) .ret)))))
def l65_0:AX:=
 (.note
 (.seq
 (.seq
 (.reg [mv 20 9,rg 21 (.bin .lss (.t 20) (.c (.i .i64 9))),mv 22 21,gd 23 22 true (.mov (.t 6)),gd 24 22 true (.mov (.t 0)),gd 25 22 true (.lens (.t 24)),gd 26 22 true (.bin .lss (.t 23) (.t 25)),rg 27 (.pick (.t 22) (.t 26) (.c (.b false)))])
 (.cond (.t 27)
 .skip
 (.exit 2)))
 (.seq
 (.block 3
 (.seq
 (.reg [mv 30 7,rg 31 (.bin .mul (.t 30) (.c (u32 10))),mv 32 0,mv 33 6,rg 34 (.ixs (.t 32) (.t 33)),rg 35 (.bin .sub (.t 34) (.c (u8 48))),rg 36 (.conv .u32 (.t 35)),rg 37 (.bin .add (.t 31) (.t 36)),mv 7 37])
 (.seq
 (.reg [mv 38 8,rg 39 (.bin .mul (.t 38) (.c (u32 10))),mv 8 39])
 (.reg [mv 40 6,rg 41 (.bin .add (.t 40) (.c (.i .i64 1))),mv 6 41]))))
 (.reg [mv 28 9,rg 29 (.bin .add (.t 28) (.c (.i .i64 1))),mv 9 29])))
 (.norm false [0,3,5,6,7,8,9]))
def l65_1:AX:=
 (.note
 (.seq
 (.seq
 (.reg [mv 16 6,mv 17 0,rg 18 (.lens (.t 17)),rg 19 (.bin .lss (.t 16) (.t 18))])
 (.cond (.t 19)
 .skip
 (.exit 0)))
 (.block 1
 (.seq
 (.reg [rg 7 (.mov (.c (u32 0))),rg 8 (.mov (.c (u32 1)))])
 (.seq
 (.seq
 (.reg [rg 9 (.mov (.c (.i .i64 0)))])
 (.lp 2 (.norm false [0,3,5,6,7,8,9]) l65_0 (.norm false [0,3,5,6,7,8])))
 (.reg [mv 42 5,mv 43 8,mv 44 7,rg 45 (.call 100 [(.t 42),(.t 43),(.t 44)]),mv 5 45])))))
 (.norm false [0,3,5,6]))
def b65:AX:=
 (.seq
 (.reg [rg 2 (.mov (.c (.sl [] .nl))),rg 3 (.alloc [(.i .i64 0),(.i .i64 0),(.i .i64 0),(.i .i64 0)])])
 (.seq
 (.seq
 (.reg [mv 10 0,rg 11 (.call 99 [(.t 10)]),mv 4 11])
 (.seq
 (.reg [mv 12 4,rg 13 (.bin .geq (.t 12) (.c (.i .i64 0)))])
 (.cond (.t 13)
 (.seq
 (.reg [mv 14 4,rg 15 (.build [(.i .i64 0),(.i .i64 0),(.i .i64 0),(.i .i64 0)] [(0,1,(.c (.i .i64 1))),(3,1,(.t 14))]),rg 2 (.mov (.c (.sl [] .nl))),so (.store 4 (.t 3) (.t 15))])
 (.pre (.norm false [2,3]) .ret))
 .skip)))
 (.seq
 (.reg [rg 5 (.mov (.c (.sl [] .nl)))])
 (.seq
 (.seq
 (.reg [rg 6 (.mov (.c (.i .i64 0)))])
 (.lp 0 (.norm false [0,3,5,6]) l65_1 (.norm false [3,5])))
 (.seq
 (.reg [mv 46 5,rg 47 (.build [(.i .i64 0),(.i .i64 0),(.i .i64 0),(.i .i64 0)] []),mv 2 46,so (.store 4 (.t 3) (.t 47))])
 (.pre (.norm false [2,3]) .ret))))))
def row98:AFx:=⟨2,15,[.t 4,.t 5],b98,none,false⟩
def row123:AFx:=⟨2,18,[.t 4],b123,none,false⟩
def row64:AFx:=⟨2,11,[.t 4,.t 5],b64,none,false⟩
def row101:AFx:=⟨1,19,[.t 2],b101,none,false⟩
def row99:AFx:=⟨1,27,[.t 2],b99,none,false⟩
def row65:AFx:=⟨1,48,[.t 2,.cell 3 (some 4)],b65,none,false⟩
class Zr (T:Tbl):Prop where
 h98:T 98=some row98
 h123:T 123=some row123
 h64:T 64=some row64
 h101:T 101=some row101
 h99:T 99=some row99
 h65:T 65=some row65
section
variable{T:Tbl}[Zr T]{d:Option Nat}{st:St}
@[simp] theorem x98(xs:List AV):Zd (orc T) T 98 xs d st=cP T 98 false xs d st:=zaa Zr.h98
@[simp] theorem x123(xs:List AV):Zd (orc T) T 123 xs d st=cP T 123 false xs d st:=zaa Zr.h123
@[simp] theorem x64(xs:List AV):Zd (orc T) T 64 xs d st=cP T 64 false xs d st:=zaa Zr.h64
@[simp] theorem x99(xs:List AV):Zd (orc T) T 99 xs d st=cP T 99 false xs d st:=zaa Zr.h99
@[simp] theorem x65(xs:List AV):Zd (orc T) T 65 xs d st=cP T 65 false xs d st:=zaa Zr.h65
end
end Go.Ab
end
section
namespace Go.Ab
class Za0 (T:Tbl):Prop where
end Go.Ab
end
section
namespace Go.Ab
def b103:AX:=
 (.seq
 (.reg [rg 4 (.mov (.c (.s [])))])
 (.seq
 (.seq
 (.reg [mv 7 0,rg 8 (.bin .eql (.t 7) (.c (.s []))),mv 9 8,gd 10 9 false (.mov (.t 1)),gd 11 9 false (.bin .eql (.t 10) (.c (.s []))),rg 12 (.pick (.t 9) (.c (.b true)) (.t 11))])
 (.cond (.t 12)
 (.seq
 (.reg [mv 13 0,mv 4 13])
 (.pre (.norm false [4]) .ret))
 .skip))
 (.seq
 (.seq
 (.reg [mv 14 1,rg 15 (.lens (.t 14)),rg 16 (.bin .eql (.t 15) (.c (.i .i64 1))),mv 17 16,gd 18 17 true (.mov (.t 1)),gd 19 17 true (.ixs (.t 18) (.c (.i .i64 0))),gd 20 17 true (.bin .lss (.t 19) (.c (u8 128))),rg 21 (.pick (.t 17) (.t 20) (.c (.b false)))])
 (.cond (.t 21)
 (.seq
 (.reg [mv 22 0,mv 23 1,rg 24 (.ixs (.t 23) (.c (.i .i64 0))),rg 25 (.call 125 [(.t 22),(.t 24)]),mv 4 25])
 (.pre (.norm false [4]) .ret))
 .skip))
 (.seq
 (.seq
 (.reg [mv 27 1,rg 28 (.call 126 [(.t 27)]),mv 26 28,rg 29 (.ext (.t 26) 0),rg 30 (.ext (.t 26) 1),rg 5 (.alloc [(.b false),(.b false),(.b false),(.b false),(.b false),(.b false),(.b false),(.b false),(.b false),(.b false),(.b false),(.b false),(.b false),(.b false),(.b false),(.b false),(.b false),(.b false),(.b false),(.b false),(.b false),(.b false),(.b false),(.b false),(.b false),(.b false),(.b false),(.b false),(.b false),(.b false),(.b false),(.b false),(.b false),(.b false),(.b false),(.b false),(.b false),(.b false),(.b false),(.b false),(.b false),(.b false),(.b false),(.b false),(.b false),(.b false),(.b false),(.b false),(.b false),(.b false),(.b false),(.b false),(.b false),(.b false),(.b false),(.b false),(.b false),(.b false),(.b false),(.b false),(.b false),(.b false),(.b false),(.b false),(.b false),(.b false),(.b false),(.b false),(.b false),(.b false),(.b false),(.b false),(.b false),(.b false),(.b false),(.b false),(.b false),(.b false),(.b false),(.b false),(.b false),(.b false),(.b false),(.b false),(.b false),(.b false),(.b false),(.b false),(.b false),(.b false),(.b false),(.b false),(.b false),(.b false),(.b false),(.b false),(.b false),(.b false),(.b false),(.b false),(.b false),(.b false),(.b false),(.b false),(.b false),(.b false),(.b false),(.b false),(.b false),(.b false),(.b false),(.b false),(.b false),(.b false),(.b false),(.b false),(.b false),(.b false),(.b false),(.b false),(.b false),(.b false),(.b false),(.b false),(.b false),(.b false),(.b false),(.b false),(.b false),(.b false),(.b false),(.b false),(.b false),(.b false),(.b false),(.b false),(.b false),(.b false),(.b false),(.b false),(.b false),(.b false),(.b false),(.b false),(.b false),(.b false),(.b false),(.b false),(.b false),(.b false),(.b false),(.b false),(.b false),(.b false),(.b false),(.b false),(.b false),(.b false),(.b false),(.b false),(.b false),(.b false),(.b false),(.b false),(.b false),(.b false),(.b false),(.b false),(.b false),(.b false),(.b false),(.b false),(.b false),(.b false),(.b false),(.b false),(.b false),(.b false),(.b false),(.b false),(.b false),(.b false),(.b false),(.b false),(.b false),(.b false),(.b false),(.b false),(.b false),(.b false),(.b false),(.b false),(.b false),(.b false),(.b false),(.b false),(.b false),(.b false),(.b false),(.b false),(.b false),(.b false),(.b false),(.b false),(.b false),(.b false),(.b false),(.b false),(.b false),(.b false),(.b false),(.b false),(.b false),(.b false),(.b false),(.b false),(.b false),(.b false),(.b false),(.b false),(.b false),(.b false),(.b false),(.b false),(.b false),(.b false),(.b false),(.b false),(.b false),(.b false),(.b false),(.b false),(.b false),(.b false),(.b false),(.b false),(.b false),(.b false),(.b false),(.b false),(.b false),(.b false),(.b false),(.b false),(.b false),(.b false),(.b false),(.b false),(.b false),(.b false),(.b false),(.b false),(.b false),(.b false),(.b false),(.b false)]),so (.store 256 (.t 5) (.t 29)),mv 6 30])
 (.seq
 (.reg [mv 31 6])
 (.cond (.t 31)
 (.seq
 (.reg [mv 32 0,rg 33 (.call 127 [(.t 32),(.t 5)]),mv 4 33])
 (.pre (.norm false [4]) .ret))
 .skip)))
 (.seq
 (.reg [mv 34 0,mv 35 1,rg 36 (.call 128 [(.t 34),(.t 35)]),mv 4 36])
 (.pre (.norm false [4]) .ret))))))
def l125_0:AX:=
 (.note
 (.seq
 (.seq
 (.reg [mv 5 0,rg 6 (.lens (.t 5)),rg 7 (.bin .gtr (.t 6) (.c (.i .i64 0))),mv 8 7,gd 9 8 true (.mov (.t 0)),gd 10 8 true (.ixs (.t 9) (.c (.i .i64 0))),gd 11 8 true (.mov (.t 1)),gd 12 8 true (.bin .eql (.t 10) (.t 11)),rg 13 (.pick (.t 8) (.t 12) (.c (.b false)))])
 (.cond (.t 13)
 .skip
 (.exit 0)))
 (.block 1
 (.reg [mv 14 0,rg 15 (.slstr (.t 14) (some (.c (.i .i64 1))) none),mv 0 15])))
 (.norm false [0,1]))
def b125:AX:=
 (.seq
 (.reg [rg 4 (.mov (.c (.s [])))])
 (.seq
 (.lp 0 (.norm false [0,1]) l125_0 (.norm false [0]))
 (.seq
 (.reg [mv 16 0,mv 4 16])
 (.pre (.norm false [4]) .ret))))
def row103:AFx:=⟨2,37,[.t 4],b103,none,false⟩
def row125:AFx:=⟨2,17,[.t 4],b125,none,false⟩
class Zly (T:Tbl):Prop where
 h103:T 103=some row103
 h125:T 125=some row125
end Go.Ab
end
section
namespace Go.Ab
section
variable{T:Tbl}[Zr T]
theorem ztz(l:List UInt8)(hl:l.length≤1000000):Zb T 64 [.s l,.s [45]]=some (.tup [.s (if l.head? = some 45 then l.tail else l),.b (l.head? = some 45)]):=by
 have h1:Zb T 123 [.s l,.s [45]]=some (.b (l.head? = some 45)):=by
  rw[zac Zr.h123 rfl,b123];cases l with
  | nil=>simp -implicitDefEqProofs
  | cons c r=>
   have h2:(1:Int)≤(r.length:Int)+1:=by omega
   by_cases hc:c=45<;>simp -implicitDefEqProofs[h2,hc]
 have h3:Zb T 98 [.s l,.s [45]]=some (.tup [.s (if l.head? = some 45 then l.tail else l),.b (l.head? = some 45)]):=by
  rw[zac Zr.h98 rfl,b98];cases l with
  | nil=>simp -implicitDefEqProofs[h1]
  | cons c r=>
   have h2:(1:Int)≤(r.length:Int)+1:=by omega
   by_cases hc:c=45
   ·subst hc;simp -implicitDefEqProofs[h1,h2]
   ·simp -implicitDefEqProofs[h1,hc]
 rw[zac Zr.h64 rfl,b64];simp -implicitDefEqProofs[h3]
end
section
variable{T:Tbl}
theorem z1r(l:List UInt8)(hl:l.length≤1000000):∀i:Nat,i≤l.length →
  Zn T 0 0 (.norm false [0]) l99_0 ⟨[(0,.s l),(5,.i .i64 l.length),(6,.i .i64 i)],[],2⟩ =
   if 0≤Zb1 i (l.drop i) then some (.r,⟨[(2,.i .i64 (Zb1 i (l.drop i)))],[],2⟩) else some (.n,⟨[(0,.s l)],[],2⟩):=by
 refine zan (fun i:Nat=>⟨[(0,.s l),(5,.i .i64 l.length),(6,.i .i64 i)],[],2⟩) _ (fun i=>l.length-i) _ ?_;intro i hi;by_cases h0:i<l.length
 ·have hg:l[i]? = some (l[i]'h0):=Ya h0;have hd:=Yk h0;have hw:IntKind.wrap .i64 ((i:Int)+1)=((i+1:Nat):Int):=zab _ (by omega);by_cases hc:(l[i]'h0).toNat<48∨57<(l[i]'h0).toNat∨i=60
  ·right;rw[hd];have e:Zb1 i (l[i]'h0::List.drop (i+1) l)=i:=by simp only[Zb1];rw[if_pos hc]
   rw[e];by_cases c1:(l[i]'h0).toNat<48
   ·constructor<;>simp -implicitDefEqProofs[l99_0,h0,c1]
   ·by_cases c2:57<(l[i]'h0).toNat
    ·constructor<;>simp -implicitDefEqProofs[l99_0,h0,c1,c2]
    ·have c3:i=60:=by omega
     subst c3;have h0':(60:Int)<(l.length:Int):=by omega
     constructor<;>simp -implicitDefEqProofs[l99_0,h0,h0',c1,c2]
  ·left;have e:Zb1 i (l.drop i)=Zb1 (i+1) (l.drop (i+1)):=by rw[hd];simp only[Zb1];rw[if_neg hc]
   have c1:¬ (l[i]'h0).toNat<48:=fun h=>hc (.inl h);have c2:¬ 57<(l[i]'h0).toNat:=fun h=>hc (.inr (.inl h));have c3:¬ ((i:Int)=60):=fun h=>hc (.inr (.inr (by omega)));refine⟨i+1,h0,by show l.length-(i+1)<l.length-i;omega,?_,?_⟩
   ·simp -implicitDefEqProofs[l99_0,h0,c1,c2,c3,hw]
   ·simp only[e]
 ·right;have:i=l.length:=by omega
  subst this;rw[Yac];constructor<;>simp -implicitDefEqProofs[l99_0,Zb1]
end
section
variable{T:Tbl}[Zr T]
theorem zl6(l:List UInt8)(hl:l.length≤1000000):Zb T 99 [.s l]=some (.i .i64 (Zp l)):=by
 have h:=z1r (T:=T) l hl 0 (Yl _);have hg:=zkx 0 l;rw[Yaa]at h;simp at h;rw[zac Zr.h99 rfl,b99];unfold Zp;by_cases h0:l=[]
 ·subst h0;simp[Zb1]at h;simp -implicitDefEqProofs[h]
 ·by_cases h1:0≤Zb1 0 l
  ·rw[if_pos h1]at h;simp -implicitDefEqProofs[h,h0]
  ·rw[if_neg h1]at h;have h2:Zb1 0 l=-1:=by omega
   simp -implicitDefEqProofs[h,h0,h2]
end
section
variable{T:Tbl}[Zu T][Zz T][Zr T]
def Zj3(l:List UInt8)(o:List UInt32)(i0 k:Nat):St:=
 ⟨[(0,.s l),(3,.ptr (.loc 3) 1 4 0 0),(5,.sl (Za o) .an),(6,.i .i64 (i0+k:Nat)),(7,u32 (rd ((l.drop i0).take k))),(8,u32 (10^k)),(9,.i .i64 k)],[(.loc 3,⟨1,.str,4,[[.i .i64 0,.i .i64 0,.i .i64 0,.i .i64 0]]⟩)],3⟩
end
section
variable{T:Tbl}
theorem z1s(l:List UInt8)(o:List UInt32)(i0 kf:Nat)(hl:l.length≤60)(hd:∀c∈l,48≤c.toNat∧c.toNat≤57)(hkf:kf=min 9 (l.length-i0))(hi0:i0≤l.length):∀k,k≤kf →
  Zn T 0 2 (.norm false [0,3,5,6,7,8]) l65_0 (Zj3 l o i0 k) =
   some (.n,⟨[(0,.s l),(3,.ptr (.loc 3) 1 4 0 0),(5,.sl (Za o) .an),(6,.i .i64 (i0+kf:Nat)),(7,u32 (rd ((l.drop i0).take kf))),(8,u32 (10^kf))],[(.loc 3,⟨1,.str,4,[[.i .i64 0,.i .i64 0,.i .i64 0,.i .i64 0]]⟩)],3⟩):=by
 refine zan (fun k=>Zj3 l o i0 k) _ (fun k=>kf-k) _ ?_;intro k hk;by_cases h0:k<kf
 ·left;have hi:i0+k<l.length:=by omega
  have hg:l[i0+k]? = some (l[i0+k]'hi):=Ya hi;have hgd:(l.drop i0)[k]? = some (l[i0+k]'hi):=by rw[Yaj];exact hg
  have hc:=hd _ (Yaf hi);obtain⟨p,hp⟩:∃p,p=i0+k:=⟨_,rfl⟩;have hx:=zon (l:=(l.drop i0).take k) fun c hc=>hd c (Ycg (Ya5 hc));have hlen:((l.drop i0).take k).length=k:=by simp;omega
  rw[hlen]at hx;have hp8:10^k≤10^8:=Ym (by decide) (by omega);have hr:=zgk hgd;have hw:IntKind.wrap .i64 ((k:Int)+1)=((k+1:Nat):Int):=zab _ (by omega);have hw2:IntKind.wrap .i64 ((p:Int)+1)=((i0+(k+1):Nat):Int):=by rw[zab _ (by omega)];omega
  have hk9:(k:Int)<9:=by omega
  have hpl:(p:Int)<l.length:=by omega
  refine⟨k+1,h0,by show kf-(k+1)<kf-k;omega,?_,rfl⟩;unfold Zj3;rw[hr,Y8];subst hp;generalize hcd:(l[i0+k]'hi).toNat=c at *
  generalize rd ((l.drop i0).take k)=x at *
  generalize 10^k=t at *
  have m1:x*10%4294967296=x*10:=Yi (by omega);have m2:Zjz c 48=c-48:=z1k (by omega) (by omega);have m3:(c-48)%4294967296=c-48:=Yi (by omega);have m4:(x*10+(c-48))%4294967296=x*10+(c-48):=Yi (by omega);have m5:t*10%4294967296=t*10:=Yi (by omega);have hpl':(i0:Int)+k<l.length:=by omega
  have hw2':IntKind.wrap .i64 ((i0:Int)+k+1)=(i0:Int)+(k+1):=by rw[zab _ (by omega)];omega
  simp -implicitDefEqProofs[l65_0,hk9,hpl',hi,hcd,m1,m2,m3,m4,m5,hw,hw2']
 ·right;have:k=kf:=by omega
  subst this;unfold Zj3;generalize rd ((l.drop i0).take k)=x;generalize 10^k=t;by_cases h9:k=9
  ·subst h9;constructor<;>simp -implicitDefEqProofs[l65_0]
  ·have hk9:(k:Int)<9:=by omega
   have hpl':¬ ((i0:Int)+k<l.length):=by omega
   constructor<;>simp -implicitDefEqProofs[l65_0,hk9,hpl']
end
section
variable{T:Tbl}[Zz T]
theorem z1t(l:List UInt8)(hl:l.length≤60)(hd:∀c∈l,48≤c.toNat∧c.toNat≤57):∀i:Nat,i≤l.length →
  Zn T 0 0 (.norm false [3,5]) l65_1 ⟨[(0,.s l),(3,.ptr (.loc 3) 1 4 0 0),(5,.sl (Za (ofN (rd (l.take i)))) .an),(6,.i .i64 i)],[(.loc 3,⟨1,.str,4,[[.i .i64 0,.i .i64 0,.i .i64 0,.i .i64 0]]⟩)],3⟩ =
   some (.n,⟨[(3,.ptr (.loc 3) 1 4 0 0),(5,.sl (Za (ofN (rd l))) .an)],[(.loc 3,⟨1,.str,4,[[.i .i64 0,.i .i64 0,.i .i64 0,.i .i64 0]]⟩)],3⟩):=by
 refine zan (fun i:Nat=>⟨[(0,.s l),(3,.ptr (.loc 3) 1 4 0 0),(5,.sl (Za (ofN (rd (l.take i)))) .an),(6,.i .i64 i)],[(.loc 3,⟨1,.str,4,[[.i .i64 0,.i .i64 0,.i .i64 0,.i .i64 0]]⟩)],3⟩) _ (fun i=>l.length-i) _ ?_;intro i hi;by_cases h0:i<l.length
 ·left;obtain⟨kf,hkf⟩:∃kf,kf=min 9 (l.length-i):=⟨_,rfl⟩;have h:=z1s (T:=T) l (ofN (rd (l.take i))) i kf hl hd hkf hi 0 (Yl _);unfold Zj3 at h;simp[show rd []=0 from rfl]at h;have hx:=zon (l:=(l.drop i).take kf) fun c hc=>hd c (Ycg (Ya5 hc));have hlen:((l.drop i).take kf).length=kf:=by simp;omega
  rw[hlen]at hx;have hp8:10^kf≤10^9:=Ym (by decide) (by omega);have hol:(ofN (rd (l.take i))).length≤60:=by
   refine zag ?_;have h1:=zon (l:=l.take i) fun c hc=>hd c (Ya5 hc);have h2:10^(l.take i).length≤10^60:=Ym (by decide) (by simp;omega);exact Yp h1 (Ye h2 (by decide))
  have hpw:=zun (T:=T) (ofN (rd (l.take i))) (10^kf) (rd ((l.drop i).take kf)) (by omega) (by omega) (by omega);have hr:rd (l.take (i+kf))=rd (l.take i)*10^kf+rd ((l.drop i).take kf):=by
   rw[List.take_add,zid,hlen]
  rw[zae,←hr]at hpw;refine⟨i+kf,by omega,by show l.length-(i+kf)<l.length-i;omega,?_,rfl⟩;simp -implicitDefEqProofs[l65_1,h0,h,hpw]
 ·right;have:i=l.length:=by omega
  subst this;rw[Ybf];constructor<;>simp -implicitDefEqProofs[l65_1]
end
section
variable{T:Tbl}[Zz T][Zr T]
theorem zho(l:List UInt8)(hl:l.length≤1000000):Zb T 65 [.s l]=some (.tup (if 0≤Zp l then [.sl [] .an,.agg [.i .i64 1,.i .i64 0,.i .i64 0,.i .i64 (Zp l)]]
  else [.sl (Za (ofN (rd l))) .an,.agg [.i .i64 0,.i .i64 0,.i .i64 0,.i .i64 0]])):=by
 have hw:=zl6 (T:=T) l hl;rw[zac Zr.h65 rfl,b65];by_cases h0:0≤Zp l
 ·simp -implicitDefEqProofs[hw,h0]
 ·have h1:Zb1 0 l<0:=by
   unfold Zp at h0;split at h0
   ·omega
   ·omega
  obtain⟨h2,h3⟩:=zdl 0 l (Yl _) h1;have h:=z1t (T:=T) l (by omega) h3 0 (Yl _);simp[show rd []=0 from rfl]at h;simp -implicitDefEqProofs[hw,h0,h]
end
end Go.Ab
end
section
namespace Go.Ab
def sg(n:Bool)(k:Nat):Int:=if n then -(k:Int) else k
def wv(n:Bool)(a:List UInt32):Int:=sg n (val a)
abbrev wh(n:Bool)(a:List UInt32):AV:=.agg [.b n,.sl (Za a) .an]
abbrev ez(z:Int):AV:=wh (decide (z<0)) (ofN z.natAbs)
def sgI(z:Int):Int:=if z<0 then -1 else if z=0 then 0 else 1
theorem zz8(n:Bool)(k:Nat):decide (sg n k<0)=(n&&decide (k≠0)):=by
 cases n
 ·simp[sg]
 ·by_cases h:k=0<;>simp[sg,h];omega
theorem zm9(n:Bool)(k:Nat):(sg n k).natAbs=k:=by cases n<;>simp[sg]
@[simp] theorem zie(z:Int):wv (decide (z<0)) (ofN z.natAbs)=z:=by
 unfold wv;rw[zae];by_cases h:z<0
 ·simp[sg,h];omega
 ·simp[sg,h];omega
theorem z8d(n:Bool)(a:List UInt32):(wv n a).natAbs=val a:=zm9 n _
theorem z28(n:Bool)(k:Nat):ez (sg n k)=wh (n&&decide (k≠0)) (ofN k):=by
 unfold ez;rw[zz8,zm9]
theorem zif(n:Bool)(x y:Nat):sg n (x+y)=sg n x+sg n y:=by cases n<;>simp[sg]<;>omega
theorem zna{n m:Bool}(h:n≠m){x y:Nat}(hxy:x<y):sg m (y-x)=sg n x+sg m y:=by
 cases n<;>cases m<;>simp[sg]at h ⊢<;>omega
theorem znb{n m:Bool}(h:n≠m){x y:Nat}(hxy:¬ x<y):sg n (x-y)=sg n x+sg m y:=by
 cases n<;>cases m<;>simp[sg]at h ⊢<;>omega
theorem z8e(n:Bool)(x:Nat):sg (!n) x=- sg n x:=by cases n<;>simp[sg]
theorem z8f(n m:Bool)(x y:Nat):sg (n != m) (x*y)=sg n x*sg m y:=by cases n<;>cases m<;>simp[sg,Int.mul_neg,Int.neg_mul]
theorem z8g(n:Bool)(x:Nat):sgI (sg n x)=if x=0 then 0 else if n then -1 else 1:=by
 unfold sgI;cases n<;>simp[sg]<;>split<;>(try split)<;>omega
def Zk6(z:Int):List UInt8:=if z<0 then 45::Zg6 z.natAbs else Zg6 z.natAbs
theorem zbo{x y:Int}{L:Nat}(hx:(ofN x.natAbs).length≤L)(hy:(ofN y.natAbs).length≤L):(ofN (x+y).natAbs).length≤L+1:=by
 refine zag ?_;have h1:=zax (ofN x.natAbs);have h2:=zax (ofN y.natAbs);rw[zae]at h1 h2;have h3:4294967296^(ofN x.natAbs).length≤4294967296^L:=Ym (by decide) hx;have h4:4294967296^(ofN y.natAbs).length≤4294967296^L:=Ym (by decide) hy;rw[Y8];generalize 4294967296^L=p at *
 omega
theorem zig(x:Int):ofN (-x).natAbs=ofN x.natAbs:=by rw[Int.natAbs_neg]
theorem zbs{x y:Int}{L M:Nat}(hx:(ofN x.natAbs).length≤L)(hy:(ofN y.natAbs).length≤M):(ofN (x*y).natAbs).length≤L+M:=by
 refine zag ?_;have h1:=zax (ofN x.natAbs);have h2:=zax (ofN y.natAbs);rw[zae]at h1 h2;rw[Int.natAbs_mul,Ybe];exact Nat.mul_lt_mul'' (Yp h1 (Ym (by decide) hx)) (Yp h2 (Ym (by decide) hy))
theorem zcw(n:Bool)(a:List UInt32):(ofN (wv n a).natAbs).length≤a.length:=by rw[z8d];exact zad a
def Zy(l:List UInt8):Int:=sg (l.head? = some 45) (rd (if l.head? = some 45 then l.tail else l))
def Zbc(l:List UInt8):Int:=Zp (if l.head? = some 45 then l.tail else l)
def Zcc(l:List UInt8):Int:=if l.head? = some 45 then 1 else 0
theorem zgv{l:List UInt8}(h0:¬ 0≤Zbc l):(ofN (Zy l).natAbs).length≤60:=by
 unfold Zbc at h0;unfold Zy;rw[zm9];generalize (if l.head? = some 45 then l.tail else l)=l' at *
 have h1:Zb1 0 l'<0:=by
  unfold Zp at h0;split at h0
  ·omega
  ·omega
 obtain⟨h2,h3⟩:=zdl 0 l' (Yl _) h1;refine zag (k:=60) ?_;have h4:=zon h3;have h5:10^l'.length≤10^60:=Ym (by decide) (by omega);exact Yp h4 (Ye h5 (by decide))
end Go.Ab
end
section
namespace Go.Ab
def b55:AX:=
 (.seq
 (.reg [rg 4 (.alloc [(.b false),(.sl [] .nl)])])
 (.seq
 (.reg [mv 5 0,mv 6 5,gd 7 6 true (.mov (.t 1)),gd 8 6 true (.len (.t 7)),gd 9 6 true (.bin .gtr (.t 8) (.c (.i .i64 0))),rg 10 (.pick (.t 6) (.t 9) (.c (.b false))),mv 11 1,rg 12 (.build [(.b false),(.sl [] .nl)] [(0,1,(.t 10)),(1,1,(.t 11))]),so (.store 2 (.t 4) (.t 12))])
 (.pre (.norm false [4]) .ret)))
def b38:AX:=
 (.seq
 (.reg [rg 1 (.xop (.box 2) [(.t 0)]),rg 2 (.alloc [(.b false),(.sl [] .nl)])])
 (.seq
 (.drawT [rg 3 (.fad 0 (.t 1)),rg 4 (.load none (.t 3)),rg 5 (.fad 1 (.t 1)),rg 6 (.load none (.t 5)),rg 7 (.call 71 [(.t 6)])]
 [rg 8 (.call 55 [(.t 4),(.t 7)]),so (.store 2 (.t 2) (.t 8))])
 (.pre (.norm false [2]) .ret)))
def b40:AX:=
 (.seq
 (.reg [rg 1 (.xop (.box 2) [(.t 0)]),rg 2 (.alloc [(.b false),(.sl [] .nl)])])
 (.seq
 (.drawT [rg 3 (.fad 0 (.t 1)),rg 4 (.load none (.t 3)),rg 5 (.un .not (.t 4)),rg 6 (.fad 1 (.t 1)),rg 7 (.load none (.t 6)),rg 8 (.call 71 [(.t 7)])]
 [rg 9 (.call 55 [(.t 5),(.t 8)]),so (.store 2 (.t 2) (.t 9))])
 (.pre (.norm false [2]) .ret)))
def b23:AX:=
 (.seq
 (.reg [rg 2 (.xop (.box 2) [(.t 0)]),rg 3 (.xop (.box 2) [(.t 1)]),rg 4 (.alloc [(.b false),(.sl [] .nl)])])
 (.seq
 (.seq
 (.reg [rg 7 (.fad 0 (.t 2)),rg 8 (.load none (.t 7)),rg 9 (.fad 0 (.t 3)),rg 10 (.load none (.t 9)),rg 11 (.eqb false (.t 8) (.t 10))])
 (.cond (.t 11)
 (.seq
 (.drawT [rg 12 (.fad 0 (.t 2)),rg 13 (.load none (.t 12)),rg 14 (.fad 1 (.t 2)),rg 15 (.load none (.t 14)),rg 16 (.fad 1 (.t 3)),rg 17 (.load none (.t 16)),rg 18 (.bsl 1 [(.sl [] .nl)] 2 [(0,(.t 15)),(1,(.t 17))]),rg 19 (.call 56 [(.t 18)])]
 [rg 20 (.call 55 [(.t 13),(.t 19)]),so (.store 2 (.t 4) (.t 20))])
 (.pre (.norm false [4]) .ret))
 .skip))
 (.seq
 (.reg [rg 22 (.fad 1 (.t 2)),rg 23 (.load none (.t 22)),rg 24 (.fad 1 (.t 3)),rg 25 (.load none (.t 24)),rg 26 (.call 57 [(.t 23),(.t 25)]),mv 21 26,rg 27 (.ext (.t 21) 0),rg 28 (.ext (.t 21) 1),mv 5 27,mv 6 28])
 (.seq
 (.seq
 (.reg [mv 29 6,rg 30 (.bin .lss (.t 29) (.c (.i .i64 0)))])
 (.cond (.t 30)
 (.seq
 (.reg [rg 31 (.fad 0 (.t 3)),rg 32 (.load none (.t 31)),mv 33 5,rg 34 (.call 55 [(.t 32),(.t 33)]),so (.store 2 (.t 4) (.t 34))])
 (.pre (.norm false [4]) .ret))
 .skip))
 (.seq
 (.reg [rg 35 (.fad 0 (.t 2)),rg 36 (.load none (.t 35)),mv 37 5,rg 38 (.call 55 [(.t 36),(.t 37)]),so (.store 2 (.t 4) (.t 38))])
 (.pre (.norm false [4]) .ret))))))
def b25:AX:=
 (.seq
 (.reg [rg 2 (.xop (.box 2) [(.t 0)]),rg 3 (.xop (.box 2) [(.t 1)]),rg 4 (.alloc [(.b false),(.sl [] .nl)])])
 (.seq
 (.drawT [rg 5 (.load (some 2) (.t 2)),rg 6 (.load (some 2) (.t 3)),rg 7 (.call 40 [(.t 6)])]
 [rg 8 (.call 23 [(.t 5),(.t 7)]),so (.store 2 (.t 4) (.t 8))])
 (.pre (.norm false [4]) .ret)))
def b27:AX:=
 (.seq
 (.reg [rg 2 (.xop (.box 2) [(.t 0)]),rg 3 (.xop (.box 2) [(.t 1)]),rg 4 (.alloc [(.b false),(.sl [] .nl)])])
 (.seq
 (.drawT [rg 5 (.fad 0 (.t 2)),rg 6 (.load none (.t 5)),rg 7 (.fad 0 (.t 3)),rg 8 (.load none (.t 7)),rg 9 (.eqb true (.t 6) (.t 8)),rg 10 (.fad 1 (.t 2)),rg 11 (.load none (.t 10)),rg 12 (.fad 1 (.t 3)),rg 13 (.load none (.t 12)),rg 14 (.call 60 [(.t 11),(.t 13)])]
 [rg 15 (.call 55 [(.t 9),(.t 14)]),so (.store 2 (.t 4) (.t 15))])
 (.pre (.norm false [4]) .ret)))
def b37:AX:=
 (.seq
 (.reg [rg 1 (.xop (.box 2) [(.t 0)]),rg 2 (.mov (.c (.i .i64 0)))])
 (.seq
 (.block 0
 (.seq
 (.reg [rg 4 (.fad 1 (.t 1)),rg 5 (.load none (.t 4)),rg 6 (.call 70 [(.t 5)]),mv 3 6])
 (.cond (.t 3)
 (.seq
 (.reg [rg 2 (.mov (.c (.i .i64 0)))])
 (.pre (.norm false [2]) .ret))
 (.seq
 (.reg [rg 8 (.fad 0 (.t 1)),rg 9 (.load none (.t 8)),mv 7 9])
 (.cond (.t 7)
 (.seq
 (.reg [rg 2 (.mov (.c (.i .i64 (-1))))])
 (.pre (.norm false [2]) .ret))
 .skip)))))
 (.seq
 (.reg [rg 2 (.mov (.c (.i .i64 1)))])
 (.pre (.norm false [2]) .ret))))
def b41:AX:=
 (.seq
 (.reg [rg 2 (.alloc [(.b false),(.sl [] .nl)])])
 (.seq
 (.seq
 (.reg [mv 3 0,rg 4 (.bin .lss (.t 3) (.c (.i .i64 0)))])
 (.cond (.t 4)
 (.seq
 (.reg [mv 5 0,rg 6 (.conv .u64 (.t 5)),rg 7 (.un .neg (.t 6)),rg 8 (.call 72 [(.t 7)]),rg 9 (.call 55 [(.c (.b true)),(.t 8)]),so (.store 2 (.t 2) (.t 9))])
 (.pre (.norm false [2]) .ret))
 .skip))
 (.seq
 (.reg [mv 10 0,rg 11 (.conv .u64 (.t 10)),rg 12 (.call 72 [(.t 11)]),rg 13 (.call 55 [(.c (.b false)),(.t 12)]),so (.store 2 (.t 2) (.t 13))])
 (.pre (.norm false [2]) .ret))))
def b36:AX:=
 (.seq
 (.reg [rg 2 (.xop (.box 2) [(.t 0)]),rg 3 (.xop (.box 2) [(.t 1)]),rg 4 (.mov (.c (.i .i64 0)))])
 (.seq
 (.reg [rg 5 (.load (some 2) (.t 2)),rg 6 (.load (some 2) (.t 3)),rg 7 (.call 25 [(.t 5),(.t 6)]),rg 8 (.call 37 [(.t 7)]),mv 4 8])
 (.pre (.norm false [4]) .ret)))
def b32:AX:=
 (.seq
 (.reg [rg 2 (.alloc [(.b false),(.sl [] .nl)]),rg 3 (.alloc [(.i .i64 0),(.i .i64 0),(.i .i64 0),(.i .i64 0)])])
 (.seq
 (.reg [mv 9 0,rg 10 (.call 64 [(.t 9),(.c (.s [45]))]),mv 8 10,rg 11 (.ext (.t 8) 0),rg 12 (.ext (.t 8) 1),mv 4 11,mv 5 12])
 (.seq
 (.reg [mv 14 4,rg 15 (.call 65 [(.t 14)]),mv 13 15,rg 16 (.ext (.t 13) 0),rg 17 (.ext (.t 13) 1),rg 7 (.alloc [(.i .i64 0),(.i .i64 0),(.i .i64 0),(.i .i64 0)]),mv 6 16,so (.store 4 (.t 7) (.t 17))])
 (.seq
 (.seq
 (.reg [rg 18 (.load (some 4) (.t 7)),rg 19 (.build [(.i .i64 0),(.i .i64 0),(.i .i64 0),(.i .i64 0)] []),rg 20 (.eqs true [(0,.int),(1,.int),(2,.int),(3,.int)] (.t 18) (.t 19))])
 (.cond (.t 20)
 (.seq
 (.reg [rg 21 (.fad 3 (.t 7)),rg 22 (.load none (.t 21)),mv 23 0,rg 24 (.lens (.t 23)),mv 25 4,rg 26 (.lens (.t 25)),rg 27 (.bin .sub (.t 24) (.t 26)),rg 28 (.bin .add (.t 22) (.t 27)),rg 29 (.fad 3 (.t 7)),so (.store 1 (.t 29) (.t 28))])
 (.seq
 (.draw [⟨rg 30 (.build [(.b false),(.sl [] .nl)] []),0,0⟩,⟨rg 31 (.load (some 4) (.t 7)),0,1⟩,⟨so (.store 2 (.t 2) (.t 30)),0,1⟩,⟨so (.store 4 (.t 3) (.t 31)),1,2⟩])
 (.pre (.norm false [2,3]) .ret)))
 .skip))
 (.seq
 (.reg [mv 32 5,mv 33 6,rg 34 (.call 55 [(.t 32),(.t 33)]),rg 35 (.build [(.i .i64 0),(.i .i64 0),(.i .i64 0),(.i .i64 0)] []),so (.store 2 (.t 2) (.t 34)),so (.store 4 (.t 3) (.t 35))])
 (.pre (.norm false [2,3]) .ret))))))
def row55:AFx:=⟨2,13,[.cell 4 (some 2)],b55,none,false⟩
def row38:AFx:=⟨1,9,[.cell 2 (some 2)],b38,none,false⟩
def row40:AFx:=⟨1,10,[.cell 2 (some 2)],b40,none,false⟩
def row23:AFx:=⟨2,39,[.cell 4 (some 2)],b23,none,false⟩
def row25:AFx:=⟨2,9,[.cell 4 (some 2)],b25,none,false⟩
def row27:AFx:=⟨2,16,[.cell 4 (some 2)],b27,none,false⟩
def row37:AFx:=⟨1,10,[.t 2],b37,none,false⟩
def row41:AFx:=⟨1,14,[.cell 2 (some 2)],b41,none,false⟩
def row36:AFx:=⟨2,9,[.t 4],b36,none,false⟩
def row32:AFx:=⟨1,36,[.cell 2 (some 2),.cell 3 (some 4)],b32,none,false⟩
class Zg (T:Tbl):Prop where
 h55:T 55=some row55
 h38:T 38=some row38
 h40:T 40=some row40
 h23:T 23=some row23
 h25:T 25=some row25
 h27:T 27=some row27
 h37:T 37=some row37
 h41:T 41=some row41
 h36:T 36=some row36
 h32:T 32=some row32
section
variable{T:Tbl}[Zg T]{d:Option Nat}{st:St}
@[simp] theorem x55(xs:List AV):Zd (orc T) T 55 xs d st=cP T 55 false xs d st:=zaa Zg.h55
@[simp] theorem x38(xs:List AV):Zd (orc T) T 38 xs d st=cP T 38 false xs d st:=zaa Zg.h38
@[simp] theorem y40{e:Env}{h:Heap}{older:List Heap}(args:List Opd):opD (orc T) T (.call 40 args) e h older=dR (Zb T 40 ((args.map (ev e.get)).map (wkIf false))) (args.map (ev e.get)):=zao Zg.h40
@[simp] theorem x23(xs:List AV):Zd (orc T) T 23 xs d st=cP T 23 false xs d st:=zaa Zg.h23
@[simp] theorem y23{e:Env}{h:Heap}{older:List Heap}(args:List Opd):opD (orc T) T (.call 23 args) e h older=dR (Zb T 23 ((args.map (ev e.get)).map (wkIf false))) (args.map (ev e.get)):=zao Zg.h23
@[simp] theorem x25(xs:List AV):Zd (orc T) T 25 xs d st=cP T 25 false xs d st:=zaa Zg.h25
@[simp] theorem x27(xs:List AV):Zd (orc T) T 27 xs d st=cP T 27 false xs d st:=zaa Zg.h27
@[simp] theorem x37(xs:List AV):Zd (orc T) T 37 xs d st=cP T 37 false xs d st:=zaa Zg.h37
@[simp] theorem x41(xs:List AV):Zd (orc T) T 41 xs d st=cP T 41 false xs d st:=zaa Zg.h41
@[simp] theorem x36(xs:List AV):Zd (orc T) T 36 xs d st=cP T 36 false xs d st:=zaa Zg.h36
@[simp] theorem x32(xs:List AV):Zd (orc T) T 32 xs d st=cP T 32 false xs d st:=zaa Zg.h32
end
end Go.Ab
end
section
namespace Go.Ab
def l198_0:AX:=
 (.note
 (.seq
 (.seq
 (.reg [mv 5 1,rg 6 (.bin .neq (.t 5) (.c (u64 0)))])
 (.cond (.t 6)
 .skip
 (.exit 0)))
 (.block 1
 (.drawT [mv 7 1,mv 8 0,mv 9 1,rg 10 (.bin .rem (.t 8) (.t 9)),mv 0 7]
 [mv 1 10])))
 (.norm false [0,1]))
def b198:AX:=
 (.seq
 (.reg [rg 4 (.mov (.c (u64 0)))])
 (.seq
 (.lp 0 (.norm false [0,1]) l198_0 (.norm false [0]))
 (.seq
 (.reg [mv 11 0,mv 4 11])
 (.pre (.norm false [4]) .ret))))
def l199_0:AX:=
 (.note
 (.seq
 (.seq
 (.reg [mv 19 1,rg 20 (.len (.t 19)),rg 21 (.bin .gtr (.t 20) (.c (.i .i64 2)))])
 (.cond (.t 21)
 .skip
 (.exit 0)))
 (.block 1
 (.seq
 (.reg [mv 23 0,mv 24 1,rg 25 (.call 62 [(.t 23),(.t 24)]),mv 22 25,rg 26 (.ext (.t 22) 0),rg 27 (.ext (.t 22) 1),rg 28 (.ext (.t 22) 2),mv 5 26,mv 6 27,mv 7 28])
 (.reg [mv 29 1,mv 30 6,mv 0 29,mv 1 30]))))
 (.norm false [0,1]))
def b199:AX:=
 (.seq
 (.reg [rg 4 (.mov (.c (.sl [] .nl)))])
 (.seq
 (.reg [mv 15 0,rg 16 (.call 71 [(.t 15)]),mv 17 1,rg 18 (.call 71 [(.t 17)]),mv 0 16,mv 1 18])
 (.seq
 (.lp 0 (.norm false [0,1]) l199_0 (.norm false [0,1]))
 (.seq
 (.seq
 (.reg [mv 31 1,rg 32 (.len (.t 31)),rg 33 (.bin .eql (.t 32) (.c (.i .i64 0)))])
 (.cond (.t 33)
 (.seq
 (.reg [mv 34 0,mv 4 34])
 (.pre (.norm false [4]) .ret))
 .skip))
 (.seq
 (.reg [mv 36 0,mv 37 1,rg 38 (.call 62 [(.t 36),(.t 37)]),mv 35 38,rg 39 (.ext (.t 35) 0),rg 40 (.ext (.t 35) 1),rg 41 (.ext (.t 35) 2),mv 8 39,mv 9 40,mv 10 41])
 (.seq
 (.reg [mv 43 1,rg 44 (.call 73 [(.t 43)]),mv 42 44,rg 45 (.ext (.t 42) 0),rg 46 (.ext (.t 42) 1),mv 11 45,mv 12 46])
 (.seq
 (.reg [mv 48 9,rg 49 (.call 73 [(.t 48)]),mv 47 49,rg 50 (.ext (.t 47) 0),rg 51 (.ext (.t 47) 1),mv 13 50,mv 14 51])
 (.seq
 (.reg [mv 52 11,mv 53 13,rg 54 (.call 198 [(.t 52),(.t 53)]),rg 55 (.call 72 [(.t 54)]),mv 4 55])
 (.pre (.norm false [4]) .ret)))))))))
def b200:AX:=
 (.seq
 (.reg [rg 2 (.mov (.c (.b false)))])
 (.seq
 (.reg [mv 3 0,rg 4 (.len (.t 3)),rg 5 (.bin .eql (.t 4) (.c (.i .i64 1))),mv 6 5,gd 7 6 true (.mov (.t 0)),gd 8 6 true (.iad 1 (.t 7) (.c (.i .i64 0))),gd 9 6 true (.load none (.t 8)),gd 10 6 true (.bin .eql (.t 9) (.c (u32 1))),rg 11 (.pick (.t 6) (.t 10) (.c (.b false))),mv 2 11])
 (.pre (.norm false [2]) .ret)))
def b201:AX:=
 (.seq
 (.reg [rg 4 (.mov (.c (.sl [] .nl))),rg 5 (.mov (.c (.sl [] .nl)))])
 (.seq
 (.reg [mv 7 0,mv 8 1,rg 9 (.call 199 [(.t 7),(.t 8)]),mv 6 9])
 (.seq
 (.block 0
 (.seq
 (.reg [mv 11 6,rg 12 (.len (.t 11)),rg 13 (.bin .eql (.t 12) (.c (.i .i64 0))),mv 10 13])
 (.cond (.t 10)
 (.seq
 (.reg [rg 4 (.mov (.c (.sl [] .nl))),rg 5 (.mov (.c (.sl [] .nl)))])
 (.pre (.norm false [4,5]) .ret))
 (.seq
 (.reg [mv 15 6,rg 16 (.call 200 [(.t 15)]),mv 14 16])
 (.cond (.t 14)
 (.seq
 (.reg [mv 17 0,rg 18 (.call 71 [(.t 17)]),mv 19 1,rg 20 (.call 71 [(.t 19)]),mv 4 18,mv 5 20])
 (.pre (.norm false [4,5]) .ret))
 .skip)))))
 (.seq
 (.reg [mv 22 0,mv 23 6,rg 24 (.call 62 [(.t 22),(.t 23)]),mv 21 24,rg 25 (.ext (.t 21) 0),rg 26 (.ext (.t 21) 1),rg 27 (.ext (.t 21) 2),mv 4 25])
 (.seq
 (.reg [mv 29 1,mv 30 6,rg 31 (.call 62 [(.t 29),(.t 30)]),mv 28 31,rg 32 (.ext (.t 28) 0),rg 33 (.ext (.t 28) 1),rg 34 (.ext (.t 28) 2),mv 5 32])
 (.seq
 (.reg [mv 35 4,mv 36 5,mv 4 35,mv 5 36])
 (.pre (.norm false [4,5]) .ret)))))))
def row198:AFx:=⟨2,12,[.t 4],b198,none,false⟩
def row199:AFx:=⟨2,56,[.t 4],b199,none,false⟩
def row200:AFx:=⟨1,12,[.t 2],b200,none,false⟩
def row201:AFx:=⟨2,37,[.t 4,.t 5],b201,none,false⟩
class Zj (T:Tbl):Prop where
 h198:T 198=some row198
 h199:T 199=some row199
 h200:T 200=some row200
 h201:T 201=some row201
section
variable{T:Tbl}[Zj T]{d:Option Nat}{st:St}{xs:List AV}{ps:List Opd}{e:Env}{h:Heap}{ol:List Heap}
@[simp] theorem x198:Zd (orc T) T 198 xs d st=cP T 198 false xs d st:=zaa Zj.h198
@[simp] theorem x199:Zd (orc T) T 199 xs d st=cP T 199 false xs d st:=zaa Zj.h199
@[simp] theorem x200:Zd (orc T) T 200 xs d st=cP T 200 false xs d st:=zaa Zj.h200
@[simp] theorem x201:Zd (orc T) T 201 xs d st=cP T 201 false xs d st:=zaa Zj.h201
end
end Go.Ab
end
section
namespace Go.Ab
def b202:AX:=
 (.seq
 (.reg [rg 2 (.xop (.box 2) [(.t 0)]),rg 4 (.alloc [(.b false),(.sl [] .nl),(.sl [] .nl)])])
 (.seq
 (.reg [rg 8 (.fad 1 (.t 2)),rg 9 (.load none (.t 8)),mv 10 1,rg 11 (.call 201 [(.t 9),(.t 10)]),mv 7 11,rg 12 (.ext (.t 7) 0),rg 13 (.ext (.t 7) 1),mv 5 12,mv 6 13])
 (.seq
 (.reg [rg 14 (.fad 0 (.t 2)),rg 15 (.load none (.t 14)),mv 16 5,rg 17 (.build [(.b false),(.sl [] .nl)] [(0,1,(.t 15)),(1,1,(.t 16))]),rg 18 (.call 38 [(.t 17)]),mv 19 6,rg 20 (.build [(.b false),(.sl [] .nl),(.sl [] .nl)] [(0,2,(.t 18)),(2,1,(.t 19))]),so (.store 3 (.t 4) (.t 20))])
 (.pre (.norm false [4]) .ret))))
def b203:AX:=
 (.seq
 (.reg [rg 1 (.xop (.box 3) [(.t 0)]),rg 2 (.alloc [(.b false),(.sl [] .nl)]),rg 3 (.mov (.c (.sl [] .nl)))])
 (.seq
 (.seq
 (.reg [rg 4 (.fad 2 (.t 1)),rg 5 (.load none (.t 4)),rg 6 (.call 70 [(.t 5)])])
 (.cond (.t 6)
 (.seq
 (.reg [rg 7 (.build [(.b false),(.sl [] .nl)] []),rg 8 (.call 72 [(.c (u64 1))]),so (.store 2 (.t 2) (.t 7)),mv 3 8])
 (.pre (.norm false [2,3]) .ret))
 .skip))
 (.seq
 (.draw [⟨rg 9 (.fad 0 (.t 1)),0,0⟩,⟨rg 10 (.load (some 2) (.t 9)),0,0⟩,⟨rg 11 (.fad 2 (.t 1)),0,1⟩,⟨rg 12 (.load none (.t 11)),0,1⟩,⟨so (.store 2 (.t 2) (.t 10)),0,1⟩,⟨mv 3 12,1,1⟩])
 (.pre (.norm false [2,3]) .ret))))
def b205:AX:=
 (.seq
 (.reg [rg 2 (.alloc [(.b false),(.sl [] .nl),(.sl [] .nl)])])
 (.seq
 (.reg [mv 3 0,rg 4 (.call 41 [(.t 3)]),rg 5 (.call 72 [(.c (u64 1))]),rg 6 (.build [(.b false),(.sl [] .nl),(.sl [] .nl)] [(0,2,(.t 4)),(2,1,(.t 5))]),so (.store 3 (.t 2) (.t 6))])
 (.pre (.norm false [2]) .ret)))
def b207:AX:=
 (.seq
 (.reg [rg 1 (.xop (.box 3) [(.t 0)]),rg 2 (.alloc [(.b false),(.sl [] .nl),(.sl [] .nl)])])
 (.seq
 (.reg [rg 3 (.load (some 3) (.t 1)),rg 4 (.call 203 [(.t 3)]),rg 5 (.ext (.t 4) 0),rg 6 (.ext (.t 4) 1),rg 7 (.call 202 [(.t 5),(.t 6)]),so (.store 3 (.t 2) (.t 7))])
 (.pre (.norm false [2]) .ret)))
def b210:AX:=
 (.seq
 (.reg [rg 2 (.xop (.box 2) [(.t 0)]),rg 4 (.alloc [(.b false),(.sl [] .nl)])])
 (.seq
 (.reg [rg 5 (.load (some 2) (.t 2)),mv 6 1,rg 7 (.build [(.b false),(.sl [] .nl)] [(1,1,(.t 6))]),rg 8 (.call 27 [(.t 5),(.t 7)]),so (.store 2 (.t 4) (.t 8))])
 (.pre (.norm false [4]) .ret)))
def b211:AX:=
 (.seq
 (.reg [rg 2 (.xop (.box 3) [(.t 0)]),rg 3 (.xop (.box 3) [(.t 1)]),rg 4 (.mov (.c (.i .i64 0)))])
 (.seq
 (.reg [rg 10 (.load (some 3) (.t 2)),rg 11 (.call 203 [(.t 10)]),mv 9 11,rg 12 (.ext (.t 9) 0),rg 13 (.ext (.t 9) 1),rg 5 (.alloc [(.b false),(.sl [] .nl)]),so (.store 2 (.t 5) (.t 12)),mv 6 13])
 (.seq
 (.reg [rg 15 (.load (some 3) (.t 3)),rg 16 (.call 203 [(.t 15)]),mv 14 16,rg 17 (.ext (.t 14) 0),rg 18 (.ext (.t 14) 1),rg 7 (.alloc [(.b false),(.sl [] .nl)]),so (.store 2 (.t 7) (.t 17)),mv 8 18])
 (.seq
 (.drawT [rg 19 (.load (some 2) (.t 5)),mv 20 8,rg 21 (.call 210 [(.t 19),(.t 20)]),rg 22 (.load (some 2) (.t 7)),mv 23 6]
 [rg 24 (.call 210 [(.t 22),(.t 23)]),rg 25 (.call 36 [(.t 21),(.t 24)]),mv 4 25])
 (.pre (.norm false [4]) .ret)))))
def b212:AX:=
 (.seq
 (.reg [rg 2 (.xop (.box 3) [(.t 0)]),rg 3 (.xop (.box 3) [(.t 1)]),rg 4 (.mov (.c (.b false)))])
 (.seq
 (.reg [rg 5 (.load (some 3) (.t 2)),rg 6 (.load (some 3) (.t 3)),rg 7 (.call 211 [(.t 5),(.t 6)]),rg 8 (.bin .eql (.t 7) (.c (.i .i64 0))),mv 4 8])
 (.pre (.norm false [4]) .ret)))
def b215:AX:=
 (.seq
 (.reg [rg 2 (.xop (.box 3) [(.t 0)]),rg 3 (.xop (.box 3) [(.t 1)]),rg 4 (.alloc [(.b false),(.sl [] .nl),(.sl [] .nl)])])
 (.seq
 (.reg [rg 10 (.load (some 3) (.t 2)),rg 11 (.call 203 [(.t 10)]),mv 9 11,rg 12 (.ext (.t 9) 0),rg 13 (.ext (.t 9) 1),rg 5 (.alloc [(.b false),(.sl [] .nl)]),so (.store 2 (.t 5) (.t 12)),mv 6 13])
 (.seq
 (.reg [rg 15 (.load (some 3) (.t 3)),rg 16 (.call 203 [(.t 15)]),mv 14 16,rg 17 (.ext (.t 14) 0),rg 18 (.ext (.t 14) 1),rg 7 (.alloc [(.b false),(.sl [] .nl)]),so (.store 2 (.t 7) (.t 17)),mv 8 18])
 (.seq
 (.drawT [rg 19 (.load (some 2) (.t 5)),mv 20 8,rg 21 (.call 210 [(.t 19),(.t 20)]),rg 22 (.load (some 2) (.t 7)),mv 23 6,rg 24 (.call 210 [(.t 22),(.t 23)]),rg 25 (.call 23 [(.t 21),(.t 24)]),mv 26 6,mv 27 8]
 [rg 28 (.call 60 [(.t 26),(.t 27)]),rg 29 (.call 202 [(.t 25),(.t 28)]),so (.store 3 (.t 4) (.t 29))])
 (.pre (.norm false [4]) .ret)))))
def row202:AFx:=⟨2,21,[.cell 4 (some 3)],b202,none,false⟩
def row203:AFx:=⟨1,13,[.cell 2 (some 2),.t 3],b203,none,false⟩
def row205:AFx:=⟨1,7,[.cell 2 (some 3)],b205,none,false⟩
def row207:AFx:=⟨1,8,[.cell 2 (some 3)],b207,none,false⟩
def row210:AFx:=⟨2,9,[.cell 4 (some 2)],b210,none,false⟩
def row211:AFx:=⟨2,26,[.t 4],b211,none,false⟩
def row212:AFx:=⟨2,9,[.t 4],b212,none,false⟩
def row215:AFx:=⟨2,30,[.cell 4 (some 3)],b215,none,false⟩
class Z0 (T:Tbl):Prop where
 h202:T 202=some row202
 h203:T 203=some row203
 h205:T 205=some row205
 h207:T 207=some row207
 h210:T 210=some row210
 h211:T 211=some row211
 h212:T 212=some row212
 h215:T 215=some row215
section
variable{T:Tbl}[Z0 T]{d:Option Nat}{st:St}{xs:List AV}{ps:List Opd}{e:Env}{h:Heap}{ol:List Heap}
@[simp] theorem x202:Zd (orc T) T 202 xs d st=cP T 202 false xs d st:=zaa Z0.h202
@[simp] theorem x203:Zd (orc T) T 203 xs d st=cP T 203 false xs d st:=zaa Z0.h203
@[simp] theorem x205:Zd (orc T) T 205 xs d st=cP T 205 false xs d st:=zaa Z0.h205
@[simp] theorem y205:opD (orc T) T (.call 205 ps) e h ol=dP T 205 false ps e:=zao Z0.h205
@[simp] theorem x207:Zd (orc T) T 207 xs d st=cP T 207 false xs d st:=zaa Z0.h207
@[simp] theorem x210:Zd (orc T) T 210 xs d st=cP T 210 false xs d st:=zaa Z0.h210
@[simp] theorem y210:opD (orc T) T (.call 210 ps) e h ol=dP T 210 false ps e:=zao Z0.h210
@[simp] theorem x211:Zd (orc T) T 211 xs d st=cP T 211 false xs d st:=zaa Z0.h211
@[simp] theorem x212:Zd (orc T) T 212 xs d st=cP T 212 false xs d st:=zaa Z0.h212
@[simp] theorem x215:Zd (orc T) T 215 xs d st=cP T 215 false xs d st:=zaa Z0.h215
end
end Go.Ab
end
section
namespace Go.Ab
def b204:AX:=
 (.seq
 (.reg [rg 2 (.xop (.box 2) [(.t 0)]),rg 4 (.alloc [(.b false),(.sl [] .nl),(.sl [] .nl)]),rg 5 (.mov (.c (.b false)))])
 (.seq
 (.seq
 (.reg [mv 6 1,rg 7 (.call 70 [(.t 6)])])
 (.cond (.t 7)
 (.seq
 (.reg [rg 8 (.call 205 [(.c (.i .i64 0))]),so (.store 3 (.t 4) (.t 8)),rg 5 (.mov (.c (.b false)))])
 (.pre (.norm false [4,5]) .ret))
 .skip))
 (.seq
 (.reg [rg 9 (.load (some 2) (.t 2)),mv 10 1,rg 11 (.call 202 [(.t 9),(.t 10)]),so (.store 3 (.t 4) (.t 11)),rg 5 (.mov (.c (.b true)))])
 (.pre (.norm false [4,5]) .ret))))
def row204:AFx:=⟨2,12,[.cell 4 (some 3),.t 5],b204,none,false⟩
class Zay (T:Tbl):Prop where
 h204:T 204=some row204
section
variable{T:Tbl}[Zay T]{d:Option Nat}{st:St}{xs:List AV}{ps:List Opd}{e:Env}{h:Heap}{ol:List Heap}
@[simp] theorem x204:Zd (orc T) T 204 xs d st=cP T 204 false xs d st:=zaa Zay.h204
@[simp] theorem y204:opD (orc T) T (.call 204 ps) e h ol=dP T 204 false ps e:=zao Zay.h204
end
end Go.Ab
end
section
namespace Go.Ab
def b208:AX:=
 (.seq
 (.reg [rg 1 (.xop (.box 3) [(.t 0)]),rg 2 (.mov (.c (.b false)))])
 (.seq
 (.reg [rg 4 (.load (some 3) (.t 1)),rg 5 (.call 207 [(.t 4)]),rg 3 (.alloc [(.b false),(.sl [] .nl),(.sl [] .nl)]),so (.store 3 (.t 3) (.t 5))])
 (.seq
 (.reg [rg 6 (.fad 0 (.t 1)),rg 7 (.fad 0 (.t 6)),rg 8 (.load none (.t 7)),rg 9 (.fad 0 (.t 3)),rg 10 (.fad 0 (.t 9)),rg 11 (.load none (.t 10)),rg 12 (.eqb false (.t 8) (.t 11)),mv 13 12,gd 14 13 true (.fad 0 (.t 1)),gd 15 13 true (.fad 1 (.t 14)),gd 16 13 true (.load none (.t 15)),gd 17 13 true (.len (.t 16)),gd 18 13 true (.fad 0 (.t 3)),gd 19 13 true (.fad 1 (.t 18)),gd 20 13 true (.load none (.t 19)),gd 21 13 true (.len (.t 20)),gd 22 13 true (.bin .eql (.t 17) (.t 21)),rg 23 (.pick (.t 13) (.t 22) (.c (.b false))),mv 24 23,gd 25 24 true (.fad 2 (.t 1)),gd 26 24 true (.load none (.t 25)),gd 27 24 true (.len (.t 26)),gd 28 24 true (.fad 2 (.t 3)),gd 29 24 true (.load none (.t 28)),gd 30 24 true (.len (.t 29)),gd 31 24 true (.bin .eql (.t 27) (.t 30)),rg 32 (.pick (.t 24) (.t 31) (.c (.b false))),mv 33 32,gd 34 33 true (.fad 0 (.t 1)),gd 35 33 true (.fad 1 (.t 34)),gd 36 33 true (.load none (.t 35)),gd 37 33 true (.fad 0 (.t 3)),gd 38 33 true (.fad 1 (.t 37)),gd 39 33 true (.load none (.t 38)),gd 40 33 true (.call 87 [(.t 36),(.t 39)]),gd 41 33 true (.bin .eql (.t 40) (.c (.i .i64 0))),rg 42 (.pick (.t 33) (.t 41) (.c (.b false))),mv 43 42,gd 44 43 true (.fad 2 (.t 1)),gd 45 43 true (.load none (.t 44)),gd 46 43 true (.fad 2 (.t 3)),gd 47 43 true (.load none (.t 46)),gd 48 43 true (.call 87 [(.t 45),(.t 47)]),gd 49 43 true (.bin .eql (.t 48) (.c (.i .i64 0))),rg 50 (.pick (.t 43) (.t 49) (.c (.b false))),mv 2 50])
 (.pre (.norm false [2]) .ret))))
def row208:AFx:=⟨1,51,[.t 2],b208,none,false⟩
class Za9 (T:Tbl):Prop where
 h208:T 208=some row208
section
variable{T:Tbl}[Za9 T]{d:Option Nat}{st:St}{xs:List AV}{ps:List Opd}{e:Env}{h:Heap}{ol:List Heap}
@[simp] theorem x208:Zd (orc T) T 208 xs d st=cP T 208 false xs d st:=zaa Za9.h208
end
end Go.Ab
end
section
namespace Go.Ab
def b223:AX:=
 (.seq
 (.reg [rg 1 (.xop (.box 3) [(.t 0)]),rg 2 (.mov (.c (.i .i64 0)))])
 (.seq
 (.drawT [rg 3 (.fad 0 (.t 1)),rg 4 (.fad 1 (.t 3)),rg 5 (.load none (.t 4)),rg 6 (.call 356 [(.t 5)]),rg 7 (.fad 2 (.t 1)),rg 8 (.load none (.t 7))]
 [rg 9 (.call 356 [(.t 8)]),rg 10 (.bin .add (.t 6) (.t 9)),mv 2 10])
 (.pre (.norm false [2]) .ret)))
def row223:AFx:=⟨1,11,[.t 2],b223,none,false⟩
class Zbi (T:Tbl):Prop where
 h223:T 223=some row223
section
variable{T:Tbl}[Zbi T]{d:Option Nat}{st:St}{xs:List AV}{ps:List Opd}{e:Env}{h:Heap}{ol:List Heap}
@[simp] theorem x223:Zd (orc T) T 223 xs d st=cP T 223 false xs d st:=zaa Zbi.h223
end
end Go.Ab
end
section
namespace Go.Ab
def prim344:List AV→Option AV
 | [.s s,.s [47,46]]=>if s.length≤1000000 then some (.i .i64 (Lib.indexAny s [47,46])) else none
 | _=>none
def prim194:List AV→Option AV
 | [.s s,.s [c]]=>some (.i .i64 (Lib.indexByte s c))
 | _=>none
def prim361:List AV→Option AV
 | [.s s,.s [c]]=>some (.i .i64 (Lib.countByte s c))
 | _=>none
def prim343:List AV→Option AV
 | [.s [48],.i .i64 n]=>if 0≤n∧n≤64 then some (.s (List.replicate n.toNat 48)) else none
 | _=>none
end Go.Ab
end
section
namespace Go.Ab
def row344:AFx:=⟨0,0,[],.prim prim344,none,false⟩
def row194:AFx:=⟨0,0,[],.prim prim194,none,false⟩
def row361:AFx:=⟨0,0,[],.prim prim361,none,false⟩
class Zcv (T:Tbl):Prop where
 h344:T 344=some row344
 h194:T 194=some row194
 h361:T 361=some row361
section
variable{T:Tbl}[Zcv T]{d:Option Nat}{st:St}{xs:List AV}{ps:List Opd}{e:Env}{h:Heap}{ol:List Heap}
@[simp] theorem x344:Zd (orc T) T 344 xs d st=cP T 344 false xs d st:=zaa Zcv.h344
theorem p344(xs:List AV):Zb T 344 xs=prim344 xs:=zc5 Zcv.h344
@[simp] theorem x194:Zd (orc T) T 194 xs d st=cP T 194 false xs d st:=zaa Zcv.h194
theorem p194(xs:List AV):Zb T 194 xs=prim194 xs:=zc5 Zcv.h194
@[simp] theorem x361:Zd (orc T) T 361 xs d st=cP T 361 false xs d st:=zaa Zcv.h361
theorem p361(xs:List AV):Zb T 361 xs=prim361 xs:=zc5 Zcv.h361
end
end Go.Ab
end
section
namespace Go.Ab
def b346:AX:=
 (.seq
 (.reg [rg 4 (.mov (.c (.sl [] .nl)))])
 (.seq
 (.reg [mv 5 0,mv 6 1,rg 7 (.call 354 [(.t 5),(.t 6),(.c (.i .i64 0)),(.c (.i .i64 (-1)))]),mv 4 7])
 (.pre (.norm false [4]) .ret)))
def l354_0:AX:=
 (.note
 (.seq
 (.seq
 (.reg [mv 34 10,mv 35 3,rg 36 (.bin .lss (.t 34) (.t 35))])
 (.cond (.t 36)
 .skip
 (.exit 0)))
 (.block 1
 (.seq
 (.reg [mv 37 0,mv 38 1,rg 39 (.call 362 [(.t 37),(.t 38)]),mv 11 39])
 (.seq
 (.seq
 (.reg [mv 40 11,rg 41 (.bin .lss (.t 40) (.c (.i .i64 0)))])
 (.cond (.t 41)
 (.exit 0)
 .skip))
 (.seq
 (.reg [mv 42 9,mv 43 10,mv 44 0,mv 45 11,mv 46 2,rg 47 (.bin .add (.t 45) (.t 46)),rg 48 (.slstr (.t 44) none (some (.t 47))),rg 49 (.iad 1 (.t 42) (.t 43)),so (.store 1 (.t 49) (.t 48))])
 (.seq
 (.reg [mv 50 0,mv 51 11,mv 52 1,rg 53 (.lens (.t 52)),rg 54 (.bin .add (.t 51) (.t 53)),rg 55 (.slstr (.t 50) (some (.t 54)) none),mv 0 55])
 (.reg [mv 56 10,rg 57 (.bin .add (.t 56) (.c (.i .i64 1))),mv 10 57])))))))
 (.norm false [0,1,2,3,9,10]))
def b354:AX:=
 (.seq
 (.reg [rg 8 (.mov (.c (.sl [] .nl)))])
 (.seq
 (.seq
 (.reg [mv 12 3,rg 13 (.bin .eql (.t 12) (.c (.i .i64 0)))])
 (.cond (.t 13)
 (.seq
 (.reg [rg 8 (.mov (.c (.sl [] .nl)))])
 (.pre (.norm false [8]) .ret))
 .skip))
 (.seq
 (.seq
 (.reg [mv 14 1,rg 15 (.bin .eql (.t 14) (.c (.s [])))])
 (.cond (.t 15)
 (.seq
 (.reg [mv 16 0,mv 17 3,rg 18 (.call 360 [(.t 16),(.t 17)]),mv 8 18])
 (.pre (.norm false [8]) .ret))
 .skip))
 (.seq
 (.seq
 (.reg [mv 19 3,rg 20 (.bin .lss (.t 19) (.c (.i .i64 0)))])
 (.cond (.t 20)
 (.reg [mv 21 0,mv 22 1,rg 23 (.call 361 [(.t 21),(.t 22)]),rg 24 (.bin .add (.t 23) (.c (.i .i64 1))),mv 3 24])
 .skip))
 (.seq
 (.reg [mv 25 3,mv 26 0,rg 27 (.lens (.t 26)),rg 28 (.bin .add (.t 27) (.c (.i .i64 1))),rg 29 (.mm false [(.t 25),(.t 28)]),mv 3 29])
 (.seq
 (.reg [mv 30 3,rg 31 (.mks 1 [(.s [])] (.t 30) (.t 30)),mv 9 31])
 (.seq
 (.reg [mv 32 3,rg 33 (.bin .sub (.t 32) (.c (.i .i64 1))),mv 3 33])
 (.seq
 (.reg [rg 10 (.mov (.c (.i .i64 0)))])
 (.seq
 (.lp 0 (.norm false [0,1,2,3,9,10]) l354_0 (.norm false [0,9,10]))
 (.seq
 (.reg [mv 58 9,mv 59 10,mv 60 0,rg 61 (.iad 1 (.t 58) (.t 59)),so (.store 1 (.t 61) (.t 60))])
 (.seq
 (.reg [mv 62 9,mv 63 10,rg 64 (.bin .add (.t 63) (.c (.i .i64 1))),rg 65 (.slc 1 (.t 62) none (some (.t 64)) none),mv 8 65])
 (.pre (.norm false [8]) .ret))))))))))))
def b362:AX:=
 (.seq
 (.reg [rg 4 (.mov (.c (.i .i64 0)))])
 (.seq
 (.reg [mv 5 0,mv 6 1,rg 7 (.call 194 [(.t 5),(.t 6)]),mv 4 7])
 (.pre (.norm false [4]) .ret)))
def b345:AX:=
 (.seq
 (.reg [rg 4 (.mov (.c (.b false)))])
 (.seq
 (.reg [mv 5 0,mv 6 1,rg 7 (.call 123 [(.t 5),(.t 6)]),mv 4 7])
 (.pre (.norm false [4]) .ret)))
def row346:AFx:=⟨2,8,[.t 4],b346,none,false⟩
def row354:AFx:=⟨4,66,[.t 8],b354,none,false⟩
def row362:AFx:=⟨2,8,[.t 4],b362,none,false⟩
def row345:AFx:=⟨2,8,[.t 4],b345,none,false⟩
class Zao (T:Tbl):Prop where
 h346:T 346=some row346
 h354:T 354=some row354
 h362:T 362=some row362
 h345:T 345=some row345
section
variable{T:Tbl}[Zao T]{d:Option Nat}{st:St}{xs:List AV}{ps:List Opd}{e:Env}{h:Heap}{ol:List Heap}
@[simp] theorem x346:Zd (orc T) T 346 xs d st=cP T 346 false xs d st:=zaa Zao.h346
@[simp] theorem x354:Zd (orc T) T 354 xs d st=cP T 354 false xs d st:=zaa Zao.h354
@[simp] theorem x362:Zd (orc T) T 362 xs d st=cP T 362 false xs d st:=zaa Zao.h362
@[simp] theorem y345:opD (orc T) T (.call 345 ps) e h ol=dP T 345 false ps e:=zao Zao.h345
end
end Go.Ab
end
section
namespace Go.Ab
def l258_0:AX:=
 (.note
 (.seq
 (.seq
 (.reg [mv 36 8,rg 37 (.bin .geq (.t 36) (.c (.i .i64 0)))])
 (.cond (.t 37)
 .skip
 (.exit 0)))
 (.seq
 (.block 1
 (.seq
 (.reg [mv 40 7,rg 41 (.call 357 [(.t 40)]),mv 7 41])
 (.seq
 (.reg [mv 42 1,mv 43 8,rg 44 (.bin .shr (.t 42) (.t 43)),rg 45 (.bin .and (.t 44) (.c (.i .i64 1))),rg 46 (.bin .eql (.t 45) (.c (.i .i64 1)))])
 (.cond (.t 46)
 (.reg [mv 47 7,mv 48 0,rg 49 (.call 60 [(.t 47),(.t 48)]),mv 7 49])
 .skip))))
 (.reg [mv 38 8,rg 39 (.bin .sub (.t 38) (.c (.i .i64 1))),mv 8 39])))
 (.norm false [0,1,7,8]))
def b258:AX:=
 (.seq
 (.reg [rg 4 (.mov (.c (.sl [] .nl))),rg 5 (.mov (.c (.b false)))])
 (.seq
 (.reg [mv 9 0,rg 10 (.call 356 [(.t 9)]),mv 6 10])
 (.seq
 (.seq
 (.reg [mv 11 1,rg 12 (.bin .lss (.t 11) (.c (.i .i64 0))),mv 13 12,gd 14 13 false (.mov (.t 6)),gd 15 13 false (.bin .gtr (.t 14) (.c (.i .i64 1))),gd 16 13 false (.mov (.t 15)),gd 17 16 true (.mov (.t 1)),gd 18 16 true (.mov (.t 6)),gd 19 16 true (.bin .quo (.c (.i .i64 65536)) (.t 18)),gd 20 16 true (.bin .gtr (.t 17) (.t 19)),gd 21 13 false (.pick (.t 16) (.t 20) (.c (.b false))),rg 22 (.pick (.t 13) (.c (.b true)) (.t 21))])
 (.cond (.t 22)
 (.seq
 (.reg [rg 4 (.mov (.c (.sl [] .nl))),rg 5 (.mov (.c (.b false)))])
 (.pre (.norm false [4,5]) .ret))
 .skip))
 (.seq
 (.reg [rg 23 (.call 72 [(.c (u64 1))]),mv 7 23])
 (.seq
 (.seq
 (.reg [mv 24 6,rg 25 (.bin .lss (.t 24) (.c (.i .i64 2)))])
 (.cond (.t 25)
 (.seq
 (.seq
 (.reg [mv 26 1,rg 27 (.bin .gtr (.t 26) (.c (.i .i64 0)))])
 (.cond (.t 27)
 (.reg [mv 28 0,rg 29 (.call 71 [(.t 28)]),mv 7 29])
 .skip))
 (.seq
 (.reg [mv 30 7,mv 4 30,rg 5 (.mov (.c (.b true)))])
 (.pre (.norm false [4,5]) .ret)))
 .skip))
 (.seq
 (.seq
 (.reg [mv 31 1,rg 32 (.conv .u64 (.t 31)),rg 33 (.call 72 [(.t 32)]),rg 34 (.call 356 [(.t 33)]),rg 35 (.bin .sub (.t 34) (.c (.i .i64 1))),mv 8 35])
 (.lp 0 (.norm false [0,1,7,8]) l258_0 (.norm false [7])))
 (.seq
 (.reg [mv 50 7,mv 4 50,rg 5 (.mov (.c (.b true)))])
 (.pre (.norm false [4,5]) .ret))))))))
def b356:AX:=
 (.seq
 (.reg [rg 2 (.mov (.c (.i .i64 0)))])
 (.seq
 (.reg [mv 4 0,rg 5 (.call 71 [(.t 4)]),mv 0 5])
 (.seq
 (.reg [mv 6 0,rg 7 (.len (.t 6)),mv 3 7])
 (.seq
 (.seq
 (.reg [mv 8 3,rg 9 (.bin .eql (.t 8) (.c (.i .i64 0)))])
 (.cond (.t 9)
 (.seq
 (.reg [rg 2 (.mov (.c (.i .i64 0)))])
 (.pre (.norm false [2]) .ret))
 .skip))
 (.seq
 (.reg [mv 10 3,rg 11 (.bin .sub (.t 10) (.c (.i .i64 1))),rg 12 (.bin .mul (.c (.i .i64 32)) (.t 11)),mv 13 0,mv 14 3,rg 15 (.bin .sub (.t 14) (.c (.i .i64 1))),rg 16 (.iad 1 (.t 13) (.t 15)),rg 17 (.load none (.t 16)),rg 18 (.call 91 [(.t 17)]),rg 19 (.bin .add (.t 12) (.t 18)),mv 2 19])
 (.pre (.norm false [2]) .ret))))))
def l357_0:AX:=
 (.note
 (.seq
 (.reg [rg 18 (.bin .lss (.t 17) (.t 16))])
 (.seq
 (.cond (.t 18)
 .skip
 (.exit 0))
 (.seq
 (.block 1
 (.seq
 (.reg [mv 19 17,rg 20 (.iad 1 (.t 15) (.t 17)),rg 21 (.load none (.t 20)),mv 4 19,mv 5 21])
 (.reg [mv 22 3,mv 23 4,rg 24 (.bin .mul (.c (.i .i64 2)) (.t 23)),rg 25 (.bin .add (.t 24) (.c (.i .i64 1))),mv 26 0,mv 27 4,rg 28 (.bin .add (.t 27) (.c (.i .i64 1))),rg 29 (.slc 1 (.t 26) (some (.t 28)) none none),mv 30 5,rg 31 (.call 89 [(.t 22),(.t 25),(.t 29),(.t 30),(.c (u32 0))])])))
 (.reg [rg 32 (.bin .add (.t 17) (.c (.i .i64 1))),mv 17 32]))))
 (.norm false [0,3,15,16,17]))
def l357_1:AX:=
 (.note
 (.seq
 (.reg [rg 42 (.bin .lss (.t 41) (.t 40))])
 (.seq
 (.cond (.t 42)
 .skip
 (.exit 2))
 (.seq
 (.block 3
 (.seq
 (.reg [mv 43 41,rg 44 (.iad 1 (.t 39) (.t 41)),rg 45 (.load none (.t 44)),mv 8 43,mv 9 45])
 (.reg [mv 47 7,mv 48 8,rg 49 (.bin .mul (.c (.i .i64 2)) (.t 48)),rg 50 (.bin .add (.t 49) (.c (.i .i64 1))),mv 51 7,mv 52 8,rg 53 (.bin .mul (.c (.i .i64 2)) (.t 52)),mv 54 9,mv 55 9,rg 56 (.call 117 [(.t 54),(.t 55),(.c (u32 0)),(.c (u32 0))]),mv 46 56,rg 57 (.ext (.t 46) 0),rg 58 (.ext (.t 46) 1),rg 59 (.iad 1 (.t 47) (.t 50)),so (.store 1 (.t 59) (.t 57)),rg 60 (.iad 1 (.t 51) (.t 53)),so (.store 1 (.t 60) (.t 58))])))
 (.reg [rg 61 (.bin .add (.t 41) (.c (.i .i64 1))),mv 41 61]))))
 (.norm false [6,7,39,40,41]))
def b357:AX:=
 (.seq
 (.reg [rg 2 (.mov (.c (.sl [] .nl)))])
 (.seq
 (.reg [mv 10 0,rg 11 (.len (.t 10)),rg 12 (.bin .mul (.c (.i .i64 2)) (.t 11)),rg 13 (.bin .add (.t 12) (.c (.i .i64 1))),rg 14 (.mks 1 [(u32 0)] (.t 13) (.t 13)),mv 3 14])
 (.seq
 (.seq
 (.reg [mv 15 0,rg 16 (.len (.t 15)),rg 17 (.mov (.c (.i .i64 0)))])
 (.lp 0 (.norm false [0,3,15,16,17]) l357_0 (.norm false [0,3])))
 (.seq
 (.reg [mv 33 3,rg 34 (.call 92 [(.t 33),(.c (.i .i64 1))]),mv 6 34])
 (.seq
 (.reg [mv 35 0,rg 36 (.len (.t 35)),rg 37 (.bin .mul (.c (.i .i64 2)) (.t 36)),rg 38 (.mks 1 [(u32 0)] (.t 37) (.t 37)),mv 7 38])
 (.seq
 (.seq
 (.reg [mv 39 0,rg 40 (.len (.t 39)),rg 41 (.mov (.c (.i .i64 0)))])
 (.lp 2 (.norm false [6,7,39,40,41]) l357_1 (.norm false [6,7])))
 (.seq
 (.reg [mv 62 6,mv 63 7,rg 64 (.bsl 1 [(.sl [] .nl)] 2 [(0,(.t 62)),(1,(.t 63))]),rg 65 (.call 56 [(.t 64)]),mv 2 65])
 (.pre (.norm false [2]) .ret))))))))
def row258:AFx:=⟨2,51,[.t 4,.t 5],b258,none,false⟩
def row356:AFx:=⟨1,20,[.t 2],b356,none,false⟩
def row357:AFx:=⟨1,66,[.t 2],b357,none,false⟩
class Zby (T:Tbl):Prop where
 h258:T 258=some row258
 h356:T 356=some row356
 h357:T 357=some row357
section
variable{T:Tbl}[Zby T]{d:Option Nat}{st:St}{xs:List AV}{ps:List Opd}{e:Env}{h:Heap}{ol:List Heap}
@[simp] theorem x258:Zd (orc T) T 258 xs d st=cP T 258 false xs d st:=zaa Zby.h258
@[simp] theorem x356:Zd (orc T) T 356 xs d st=cP T 356 false xs d st:=zaa Zby.h356
@[simp] theorem y356:opD (orc T) T (.call 356 ps) e h ol=dP T 356 false ps e:=zao Zby.h356
@[simp] theorem x357:Zd (orc T) T 357 xs d st=cP T 357 false xs d st:=zaa Zby.h357
end
end Go.Ab
end
section
namespace Go.Ab
def b252:AX:=
 (.seq
 (.reg [rg 2 (.mov (.c (.sl [] .nl)))])
 (.seq
 (.reg [rg 6 (.call 72 [(.c (u64 10))]),mv 7 0,rg 8 (.call 258 [(.t 6),(.t 7)]),mv 5 8,rg 9 (.ext (.t 5) 0),rg 10 (.ext (.t 5) 1),mv 3 9,mv 4 10])
 (.seq
 (.reg [mv 11 3,mv 2 11])
 (.pre (.norm false [2]) .ret))))
def b253:AX:=
 (.seq
 (.reg [rg 4 (.mov (.c (.sl [] .nl))),rg 5 (.alloc [(.i .i64 0),(.i .i64 0),(.i .i64 0),(.i .i64 0)])])
 (.seq
 (.reg [mv 9 0,mv 10 1,rg 11 (.slstr (.t 9) (some (.t 10)) none),rg 12 (.call 65 [(.t 11)]),mv 8 12,rg 13 (.ext (.t 8) 0),rg 14 (.ext (.t 8) 1),rg 7 (.alloc [(.i .i64 0),(.i .i64 0),(.i .i64 0),(.i .i64 0)]),mv 6 13,so (.store 4 (.t 7) (.t 14))])
 (.seq
 (.seq
 (.reg [rg 15 (.load (some 4) (.t 7)),rg 16 (.build [(.i .i64 0),(.i .i64 0),(.i .i64 0),(.i .i64 0)] []),rg 17 (.eqs true [(0,.int),(1,.int),(2,.int),(3,.int)] (.t 15) (.t 16))])
 (.cond (.t 17)
 (.reg [rg 18 (.fad 3 (.t 7)),rg 19 (.load none (.t 18)),mv 20 1,rg 21 (.bin .add (.t 19) (.t 20)),rg 22 (.fad 3 (.t 7)),so (.store 1 (.t 22) (.t 21))])
 .skip))
 (.seq
 (.drawT [mv 23 6,rg 24 (.load (some 4) (.t 7)),mv 4 23]
 [so (.store 4 (.t 5) (.t 24))])
 (.pre (.norm false [4,5]) .ret)))))
def b254:AX:=
 (.seq
 (.reg [rg 3 (.xop (.box 2) [(.t 0)]),rg 6 (.alloc [(.b false),(.sl [] .nl),(.sl [] .nl)]),rg 7 (.alloc [(.i .i64 0),(.i .i64 0),(.i .i64 0),(.i .i64 0)])])
 (.seq
 (.reg [mv 13 1,mv 14 2,rg 15 (.call 253 [(.t 13),(.t 14)]),mv 12 15,rg 16 (.ext (.t 12) 0),rg 17 (.ext (.t 12) 1),rg 9 (.alloc [(.i .i64 0),(.i .i64 0),(.i .i64 0),(.i .i64 0)]),mv 8 16,so (.store 4 (.t 9) (.t 17))])
 (.seq
 (.seq
 (.reg [rg 18 (.load (some 4) (.t 9)),rg 19 (.build [(.i .i64 0),(.i .i64 0),(.i .i64 0),(.i .i64 0)] []),rg 20 (.eqs true [(0,.int),(1,.int),(2,.int),(3,.int)] (.t 18) (.t 19))])
 (.cond (.t 20)
 (.seq
 (.draw [⟨rg 21 (.call 205 [(.c (.i .i64 0))]),0,0⟩,⟨rg 22 (.load (some 4) (.t 9)),0,1⟩,⟨so (.store 3 (.t 6) (.t 21)),0,1⟩,⟨so (.store 4 (.t 7) (.t 22)),1,2⟩])
 (.pre (.norm false [6,7]) .ret))
 .skip))
 (.seq
 (.reg [rg 24 (.load (some 2) (.t 3)),mv 25 8,rg 26 (.call 204 [(.t 24),(.t 25)]),mv 23 26,rg 27 (.ext (.t 23) 0),rg 28 (.ext (.t 23) 1),rg 10 (.alloc [(.b false),(.sl [] .nl),(.sl [] .nl)]),so (.store 3 (.t 10) (.t 27)),mv 11 28])
 (.seq
 (.seq
 (.reg [mv 29 11,rg 30 (.un .not (.t 29))])
 (.cond (.t 30)
 (.seq
 (.reg [rg 31 (.load (some 3) (.t 10)),mv 32 2,rg 33 (.build [(.i .i64 0),(.i .i64 0),(.i .i64 0),(.i .i64 0)] [(0,1,(.c (.i .i64 2))),(3,1,(.t 32))]),so (.store 3 (.t 6) (.t 31)),so (.store 4 (.t 7) (.t 33))])
 (.pre (.norm false [6,7]) .ret))
 .skip))
 (.seq
 (.reg [rg 34 (.load (some 3) (.t 10)),rg 35 (.build [(.i .i64 0),(.i .i64 0),(.i .i64 0),(.i .i64 0)] []),so (.store 3 (.t 6) (.t 34)),so (.store 4 (.t 7) (.t 35))])
 (.pre (.norm false [6,7]) .ret)))))))
def b255:AX:=
 (.seq
 (.reg [rg 4 (.xop (.box 2) [(.t 0)]),rg 8 (.alloc [(.b false),(.sl [] .nl),(.sl [] .nl)]),rg 9 (.alloc [(.i .i64 0),(.i .i64 0),(.i .i64 0),(.i .i64 0)])])
 (.seq
 (.reg [mv 17 2,mv 18 3,rg 19 (.call 253 [(.t 17),(.t 18)]),mv 16 19,rg 20 (.ext (.t 16) 0),rg 21 (.ext (.t 16) 1),rg 11 (.alloc [(.i .i64 0),(.i .i64 0),(.i .i64 0),(.i .i64 0)]),mv 10 20,so (.store 4 (.t 11) (.t 21))])
 (.seq
 (.seq
 (.reg [rg 22 (.load (some 4) (.t 11)),rg 23 (.build [(.i .i64 0),(.i .i64 0),(.i .i64 0),(.i .i64 0)] []),rg 24 (.eqs true [(0,.int),(1,.int),(2,.int),(3,.int)] (.t 22) (.t 23))])
 (.cond (.t 24)
 (.seq
 (.draw [⟨rg 25 (.call 205 [(.c (.i .i64 0))]),0,0⟩,⟨rg 26 (.load (some 4) (.t 11)),0,1⟩,⟨so (.store 3 (.t 8) (.t 25)),0,1⟩,⟨so (.store 4 (.t 9) (.t 26)),1,2⟩])
 (.pre (.norm false [8,9]) .ret))
 .skip))
 (.seq
 (.reg [mv 27 2,rg 28 (.lens (.t 27)),mv 29 3,rg 30 (.bin .sub (.t 28) (.t 29)),rg 31 (.call 252 [(.t 30)]),mv 12 31])
 (.seq
 (.reg [rg 32 (.fad 1 (.t 4)),rg 33 (.load none (.t 32)),mv 34 12,rg 35 (.call 60 [(.t 33),(.t 34)]),mv 36 10,rg 37 (.bsl 1 [(.sl [] .nl)] 2 [(0,(.t 35)),(1,(.t 36))]),rg 38 (.call 56 [(.t 37)]),mv 13 38])
 (.seq
 (.reg [mv 40 1,mv 41 13,rg 42 (.build [(.b false),(.sl [] .nl)] [(0,1,(.t 40)),(1,1,(.t 41))]),mv 43 12,rg 44 (.call 204 [(.t 42),(.t 43)]),mv 39 44,rg 45 (.ext (.t 39) 0),rg 46 (.ext (.t 39) 1),rg 14 (.alloc [(.b false),(.sl [] .nl),(.sl [] .nl)]),so (.store 3 (.t 14) (.t 45)),mv 15 46])
 (.seq
 (.reg [rg 47 (.load (some 3) (.t 14)),rg 48 (.build [(.i .i64 0),(.i .i64 0),(.i .i64 0),(.i .i64 0)] []),so (.store 3 (.t 8) (.t 47)),so (.store 4 (.t 9) (.t 48))])
 (.pre (.norm false [8,9]) .ret))))))))
def b256:AX:=
 (.seq
 (.reg [rg 2 (.alloc [(.b false),(.sl [] .nl),(.sl [] .nl)]),rg 3 (.alloc [(.i .i64 0),(.i .i64 0),(.i .i64 0),(.i .i64 0)])])
 (.seq
 (.reg [mv 10 0,rg 11 (.call 344 [(.t 10),(.c (.s [47,46]))]),mv 4 11])
 (.seq
 (.reg [mv 12 0,mv 5 12])
 (.seq
 (.seq
 (.reg [mv 13 4,rg 14 (.bin .geq (.t 13) (.c (.i .i64 0)))])
 (.cond (.t 14)
 (.reg [mv 15 0,mv 16 4,rg 17 (.slstr (.t 15) none (some (.t 16))),mv 5 17])
 .skip))
 (.seq
 (.reg [mv 19 5,rg 20 (.call 32 [(.t 19)]),mv 18 20,rg 21 (.ext (.t 18) 0),rg 22 (.ext (.t 18) 1),rg 6 (.alloc [(.b false),(.sl [] .nl)]),rg 7 (.alloc [(.i .i64 0),(.i .i64 0),(.i .i64 0),(.i .i64 0)]),so (.store 2 (.t 6) (.t 21)),so (.store 4 (.t 7) (.t 22))])
 (.seq
 (.block 0
 (.seq
 (.reg [rg 24 (.load (some 4) (.t 7)),rg 25 (.build [(.i .i64 0),(.i .i64 0),(.i .i64 0),(.i .i64 0)] []),rg 26 (.eqs true [(0,.int),(1,.int),(2,.int),(3,.int)] (.t 24) (.t 25)),mv 23 26])
 (.cond (.t 23)
 (.seq
 (.draw [⟨rg 27 (.call 205 [(.c (.i .i64 0))]),0,0⟩,⟨rg 28 (.load (some 4) (.t 7)),0,1⟩,⟨so (.store 3 (.t 2) (.t 27)),0,1⟩,⟨so (.store 4 (.t 3) (.t 28)),1,2⟩])
 (.pre (.norm false [2,3]) .ret))
 (.seq
 (.reg [mv 30 4,rg 31 (.bin .lss (.t 30) (.c (.i .i64 0))),mv 29 31])
 (.cond (.t 29)
 (.seq
 (.draw [⟨rg 33 (.load (some 2) (.t 6)),0,1⟩,⟨rg 34 (.call 72 [(.c (u64 1))]),0,1⟩,⟨rg 35 (.call 204 [(.t 33),(.t 34)]),0,1⟩,⟨mv 32 35,0,1⟩,⟨rg 36 (.ext (.t 32) 0),0,1⟩,⟨rg 37 (.ext (.t 32) 1),0,2⟩,⟨rg 8 (.alloc [(.b false),(.sl [] .nl),(.sl [] .nl)]),0,1⟩,⟨so (.store 3 (.t 8) (.t 36)),1,2⟩,⟨mv 9 37,2,2⟩])
 (.seq
 (.reg [rg 38 (.load (some 3) (.t 8)),rg 39 (.build [(.i .i64 0),(.i .i64 0),(.i .i64 0),(.i .i64 0)] []),so (.store 3 (.t 2) (.t 38)),so (.store 4 (.t 3) (.t 39))])
 (.pre (.norm false [2,3]) .ret)))
 (.seq
 (.reg [mv 41 0,mv 42 4,rg 43 (.ixs (.t 41) (.t 42)),rg 44 (.bin .eql (.t 43) (.c (u8 47))),mv 40 44])
 (.cond (.t 40)
 (.seq
 (.reg [rg 45 (.load (some 2) (.t 6)),mv 46 0,mv 47 4,rg 48 (.bin .add (.t 47) (.c (.i .i64 1))),rg 49 (.call 254 [(.t 45),(.t 46),(.t 48)]),rg 50 (.ext (.t 49) 0),rg 51 (.ext (.t 49) 1),so (.store 3 (.t 2) (.t 50)),so (.store 4 (.t 3) (.t 51))])
 (.pre (.norm false [2,3]) .ret))
 .skip)))))))
 (.seq
 (.drawT [rg 52 (.load (some 2) (.t 6)),mv 53 0,rg 54 (.call 345 [(.t 53),(.c (.s [45]))]),mv 55 0,mv 56 4,rg 57 (.bin .add (.t 56) (.c (.i .i64 1))),rg 58 (.call 255 [(.t 52),(.t 54),(.t 55),(.t 57)]),rg 59 (.ext (.t 58) 0),rg 60 (.ext (.t 58) 1)]
 [so (.store 3 (.t 2) (.t 59)),so (.store 4 (.t 3) (.t 60))])
 (.pre (.norm false [2,3]) .ret))))))))
def row252:AFx:=⟨1,12,[.t 2],b252,none,false⟩
def row253:AFx:=⟨2,25,[.t 4,.cell 5 (some 4)],b253,none,false⟩
def row254:AFx:=⟨3,36,[.cell 6 (some 3),.cell 7 (some 4)],b254,none,false⟩
def row255:AFx:=⟨4,49,[.cell 8 (some 3),.cell 9 (some 4)],b255,none,false⟩
def row256:AFx:=⟨1,61,[.cell 2 (some 3),.cell 3 (some 4)],b256,none,false⟩
class Zcu (T:Tbl):Prop where
 h252:T 252=some row252
 h253:T 253=some row253
 h254:T 254=some row254
 h255:T 255=some row255
 h256:T 256=some row256
section
variable{T:Tbl}[Zcu T]{d:Option Nat}{st:St}{xs:List AV}{ps:List Opd}{e:Env}{h:Heap}{ol:List Heap}
@[simp] theorem x252:Zd (orc T) T 252 xs d st=cP T 252 false xs d st:=zaa Zcu.h252
@[simp] theorem x253:Zd (orc T) T 253 xs d st=cP T 253 false xs d st:=zaa Zcu.h253
@[simp] theorem x254:Zd (orc T) T 254 xs d st=cP T 254 false xs d st:=zaa Zcu.h254
@[simp] theorem y255:opD (orc T) T (.call 255 ps) e h ol=dP T 255 false ps e:=zao Zcu.h255
@[simp] theorem x256:Zd (orc T) T 256 xs d st=cP T 256 false xs d st:=zaa Zcu.h256
end
end Go.Ab
end
section
namespace Go.Ab
class Zcz (T:Tbl):Prop where
end Go.Ab
end
section
namespace Go.Ab
class Zca (T:Tbl):Prop where
end Go.Ab
end
section
namespace Go.Ab
class Zdb (T:Tbl):Prop where
end Go.Ab
end
section
namespace Go.Ab
class Ze4 (T:Tbl):Prop where
end Go.Ab
end
section
namespace Go.Ab
def meths1:List RV:=[.cell 1 (some 445),.cell 2 (some 444),.cell 3 (some 441),.cell 4 (some 448),.cell 5 (some 443),.cell 6 (some 447),.cell 7 (some 446),.cell 8 (some 442)]
class Ze3 (T:Tbl):Prop where
end Go.Ab
end
section
namespace Go.Ab
def isD(c:UInt8):Bool:=decide (48≤c.toNat)&&decide (c.toNat≤57)
def isL(c:UInt8):Bool:=decide (97≤c.toNat)&&decide (c.toNat≤122) || decide (65≤c.toNat)&&decide (c.toNat≤90) || decide (c.toNat=95)
def Zg7:List UInt8:=[43,45,42,47,94,40,41,91,93,44,59,61]
def isS(c:UInt8):Bool:=Zg7.contains c
def Zi(c:UInt8):Nat:=if isD c then 1 else if isL c then 2 else if isS c then 3 else 0
def Zap(k:Nat)(c:UInt8):Bool:=decide (k=1)&&isD c || decide (k=2)&&(isL c || isD c)
def Zaw(k:Nat):Nat:=if k=1 then 60 else if k=2 then 12 else 1
theorem zd3(k:Nat):1≤Zaw k:=by
 unfold Zaw;split
 ·omega
 ·split<;>omega
def isB(c:UInt8):Bool:=decide (c=32) || decide (c=9) || decide (c=10) || decide (c=13)
abbrev Wd:=Nat×List UInt8×Nat
def Zbd:Bool→List UInt8→Nat
 | _,[]=>0
 | note,c::r=>
  let note':=if c=35 then true else if c=10 then false else note
  if (note' || isB c)=true then 1+Zbd note' r else 0
theorem zp3:∀(note:Bool) (l:List UInt8),Zbd note l≤l.length
 | _,[]=>Yf _
 | note,c::r=>by
  by_cases h:((if c=35 then true else if c=10 then false else note) || isB c)=true
  ·have:=zp3 (if c=35 then true else if c=10 then false else note) r;simp only[Zbd,h,if_true,Yd];omega
  ·simp only[Zbd,h,if_false,Yz,Yl]
def Z9(k:Nat)(r:List UInt8):Nat:=1+(r.takeWhile (Zap k)).length
def Zdg(l:List UInt8)(i:Nat)(acc:List Wd):Except Nat (List Wd):=
 match l with
 | []=>.ok acc
 | c::r=>
  if Zi c=0 then .error i
  else if Zaw (Zi c)<Z9 (Zi c) r then .error (i+Zaw (Zi c))
  else Zdg ((r.drop (Z9 (Zi c) r-1)).drop (Zbd false (r.drop (Z9 (Zi c) r-1)))) (i+Z9 (Zi c) r+Zbd false (r.drop (Z9 (Zi c) r-1)))
   (acc++[(Zi c,(c::r).take (Z9 (Zi c) r),i)])
termination_by l.length
decreasing_by simp;omega
theorem zgc(c:UInt8)(r:List UInt8)(i:Nat)(acc:List Wd):Zdg (c::r) i acc =
  if Zi c=0 then .error i
  else if Zaw (Zi c)<Z9 (Zi c) r then .error (i+Zaw (Zi c))
  else Zdg ((r.drop (Z9 (Zi c) r-1)).drop (Zbd false (r.drop (Z9 (Zi c) r-1)))) (i+Z9 (Zi c) r+Zbd false (r.drop (Z9 (Zi c) r-1)))
   (acc++[(Zi c,(c::r).take (Z9 (Zi c) r),i)]):=by rw[Zdg]
theorem zfs(i:Nat)(acc:List Wd):Zdg [] i acc=.ok acc:=by rw[Zdg]
def Zc7(c:UInt8)(i:Nat)(acc:List Wd):List Wd:=
 match acc.getLast? with
 | some (k,t,a)=>if a+t.length=i∧Zap k c=true then acc.dropLast++[(k,t++[c],a)] else acc++[(Zi c,[c],i)]
 | none=>acc++[(Zi c,[c],i)]
def Zek(acc:List Wd):Bool:=
 match acc.getLast? with
 | some (k,t,_)=>decide (k=0) || decide (Zaw k<t.length)
 | none=>false
def Zem:List UInt8→Nat→Bool→List Wd→Except Nat (List Wd)
 | [],_,_,acc=>.ok acc
 | c::r,i,note,acc=>
  let note':=if c=35 then true else if c=10 then false else note
  if (note' || isB c)=true then Zem r (i+1) note' acc
  else if Zek (Zc7 c i acc)=true then .error i
  else Zem r (i+1) note' (Zc7 c i acc)
theorem zij:∀(l:List UInt8) (i:Nat) (note:Bool) (acc:List Wd),Zem l i note acc=Zem (l.drop (Zbd note l)) (i+Zbd note l) false acc
 | [],_,_,_=>rfl
 | c::r,i,note,acc=>by
  by_cases h:((if c=35 then true else if c=10 then false else note) || isB c)=true
  ·have ih:=zij r (i+1) (if c=35 then true else if c=10 then false else note) acc;simp only[Zem,Zbd,h,if_true];rw[ih,Ya0 1,Yco,Yao i 1,Ya0 1]
  ·have h':=h;simp only[Yav,not_or,Ydm]at h';obtain⟨h1,h2⟩:=h';have h3:note=false:=by
    by_cases h35:c=35
    ·simp[h35]at h1
    ·by_cases h10:c=10
     ·subst h10;simp[isB]at h2
     ·simpa[h35,h10]using h1
   subst h3;simp only[Zbd,h,if_false,Yaa,Yx,Yz]
theorem zze{k:Nat}{c:UInt8}(h:Zap k c=true):(isL c=true∨isD c=true):=by
 simp only[Zap,Yav,Yo]at h;rcases h with ⟨_,h⟩ | ⟨_,h | h⟩
 ·exact .inr h
 ·exact .inl h
 ·exact .inr h
theorem z8p{c:UInt8}{n:Nat}(h:c.toNat≠n)(hn:n<256):c≠UInt8.ofNat n:=fun e=>h (by rw[e];simp;omega)
theorem zr8{c:UInt8}(h:isL c=true∨isD c=true):c≠35∧c≠10∧isB c=false:=by
 have h1:48≤c.toNat:=by
  simp only[isL,isD,Yav,Yo,decide_eq_true_eq]at h;omega
 have e (n:Nat) (hn:n<48):c≠UInt8.ofNat n:=z8p (by omega) (by omega);refine⟨e 35 (by decide),e 10 (by decide),?_⟩;simp only[isB,Bool.or_eq_false_iff,decide_eq_false_iff_not];exact⟨⟨⟨e 32 (by decide),e 9 (by decide)⟩,e 10 (by decide)⟩,e 13 (by decide)⟩
theorem zp4(k a:Nat)(acc:List Wd)(hk:k≠0):∀(r t:List UInt8),t.length≤Zaw k →
  Zem r (a+t.length) false (acc++[(k,t,a)]) =
   if Zaw k<t.length+(r.takeWhile (Zap k)).length then .error (a+Zaw k)
   else Zem (r.drop (r.takeWhile (Zap k)).length) (a+t.length+(r.takeWhile (Zap k)).length) false (acc++[(k,t++r.takeWhile (Zap k),a)])
 | [],t,ht=>by
  rw[if_neg (by simp;omega)];simp
 | c::r,t,ht=>by
  by_cases hc:Zap k c=true
  ·obtain⟨h1,h2,h3⟩:=zr8 (zze hc);rw[Yb8 hc];have hs:Zc7 c (a+t.length) (acc++[(k,t,a)])=acc++[(k,t++[c],a)]:=by
    simp[Zc7,hc]
   have hb:Zek (acc++[(k,t++[c],a)])=decide (Zaw k<t.length+1):=by
    simp[Zek,hk]
   conv=>lhs;unfold Zem
   simp only[h1,h2,h3,if_false,Bool.or_self,Yz,hs,hb,decide_eq_true_eq];by_cases hm:Zaw k<t.length+1
   ·have e:Zaw k=t.length:=by omega
    rw[if_pos hm,if_pos (by simp;omega),e]
   ·rw[if_neg hm];have ih:=zp4 k a acc hk r (t++[c]) (by simp;omega);simp only[Yu,Ydj,Yd,Y1,Yah]at ih;rw[Yao a,ih];simp only[Yd,Yco,Ybg,List.singleton_append];have e1:t.length+1+(List.takeWhile (Zap k) r).length=t.length+((List.takeWhile (Zap k) r).length+1):=by omega
    have e2:a+(t.length+1)+(List.takeWhile (Zap k) r).length=a+t.length+((List.takeWhile (Zap k) r).length+1):=by omega
    rw[e1,e2]
  ·rw[Yb9 hc,if_neg (by simp;omega)];simp
theorem znc(l:List UInt8):∀c r,l.drop (Zbd false l)=c::r→c≠35∧isB c=false:=by
 have key:∀(l:List UInt8) (note:Bool) c r,l.drop (Zbd note l)=c::r→c≠35∧isB c=false:=by
  intro l
  induction l with
  | nil=>intro note c r h;simp at h
  | cons x l ih=>
   intro note c r h;by_cases hx:((if x=35 then true else if x=10 then false else note) || isB x)=true
   ·simp only[Zbd,hx,if_true]at h;rw[Ya0 1,Yco]at h;exact ih _ c r h
   ·simp only[Zbd,hx,if_false,Yz]at h;simp only[Yaa,List.cons.injEq]at h;obtain⟨rfl,rfl⟩:=h;simp only[Yav,not_or,Ydm]at hx;refine⟨fun e=>?_,hx.2⟩;rw[if_pos e]at hx;cases hx.1
 exact key l false
theorem zws(p:UInt8→Bool):∀r:List UInt8,r.take (r.takeWhile p).length=r.takeWhile p
 | []=>rfl
 | c::r=>by
  by_cases h:p c=true
  ·rw[Yb8 h,Yd,Ydu,zws p r]
  ·rw[Yb9 h];rfl
theorem zwt(p:UInt8→Bool):∀r:List UInt8,r.drop (r.takeWhile p).length=r.dropWhile p
 | []=>rfl
 | c::r=>by
  by_cases h:p c=true
  ·rw[Yb8 h,Yd,Yco,zwt p r,List.dropWhile_cons_of_pos h]
  ·rw[Yb9 h,List.dropWhile_cons_of_neg h];rfl
def Zmr(acc:List Wd)(i:Nat)(l:List UInt8):Prop:=∀k t a,acc.getLast? = some (k,t,a)→a+t.length=i→∀c r,l=c::r→Zap k c=false
theorem zwu:∀(n:Nat) (l:List UInt8) (i:Nat) (acc:List Wd),l.length=n→Zmr acc i l→(∀c r,l=c::r→c≠35∧isB c=false) →
  Zem l i false acc=Zdg l i acc:=by
 intro n
 induction n using Nat.strongRecOn with
 | _ n ih=>
  intro l i acc hl hf hp;cases l with
  | nil=>unfold Zdg;rfl
  | cons c r=>
   obtain⟨h1,h2⟩:=hp c r rfl;have h3:c≠10:=by intro h;subst h;simp[isB]at h2
   have hs:Zc7 c i acc=acc++[(Zi c,[c],i)]:=by
    unfold Zc7;split
    ·rename_i k t a hlast;rw[if_neg]
     rintro⟨h4,h5⟩
     rw[hf k t a hlast h4 c r rfl]at h5;cases h5
    ·rfl
   have hb:Zek (acc++[(Zi c,[c],i)])=decide (Zi c=0):=by
    have:=zd3 (Zi c);simp[Zek];omega
   conv=>lhs;unfold Zem
   conv=>rhs;unfold Zdg
   simp only[h1,h2,h3,if_false,Bool.or_self,Yz,hs,hb,decide_eq_true_eq];by_cases hk:Zi c=0
   ·simp only[hk,if_true]
   ·simp only[hk,if_false];have hmost:=zd3 (Zi c);have hrun:=zp4 (Zi c) i acc hk r [c] (by simpa using hmost);simp only[Ydj,Yd,Y1,Yah,List.singleton_append]at hrun;rw[hrun];unfold Z9;by_cases hm:Zaw (Zi c)<1+(List.takeWhile (Zap (Zi c)) r).length
    ·rw[if_pos hm,if_pos hm]
    ·rw[if_neg hm,if_neg hm];simp only[Ybn];obtain⟨x,hx⟩:∃x,x=(List.takeWhile (Zap (Zi c)) r).length:=⟨_,rfl⟩;have htk:r.take x=List.takeWhile (Zap (Zi c)) r:=by rw[hx,zws]
     rw[←hx,zij,Ya0 1 x,Ydu,htk,Yao i 1 x,Ya0 1 x];refine ih _ ?_ _ _ _ rfl ?_ ?_
     ·simp only[Yv,Yd]at hl ⊢;omega
     ·intro k t a hlast hat c' r' hl';simp only[List.getLast?_append,List.getLast?_singleton,Option.some_or,Option.some.injEq,Prod.mk.injEq]at hlast;obtain⟨rfl,rfl,rfl⟩:=hlast;simp only[Yd,←hx]at hat;have h0:Zbd false (r.drop x)=0:=by omega
      rw[h0,Yaa]at hl';have:r.drop x=List.dropWhile (Zap (Zi c)) r:=by rw[hx,zwt]
      rw[this]at hl';have:=List.head?_dropWhile_not (Zap (Zi c)) r;rw[hl']at this;simpa using this
     ·exact znc _
theorem zwv(l:List UInt8):Zem l 0 false []=Zdg (l.drop (Zbd false l)) (Zbd false l) []:=by
 rw[zij,Yah];exact zwu _ _ _ _ rfl (fun _ _ _ h=>by cases h) (znc l)
def prim187:List AV→Option AV
 | [.i .u8 n]=>if 0≤n∧n<256 then some (.b (isS (UInt8.ofNat n.toNat))) else none
 | _=>none
theorem zr9(c:UInt8):prim187 [u8 c.toNat]=some (.b (isS c)):=by
 have:=c.toNat_lt;simp only[prim187,u8];rw[if_pos ⟨by omega,by omega⟩];simp
def prim184:List AV→Option AV
 | [.s l,.s [c]]=>if l.length≤1000000 then some (.tup [.s (l.takeWhile (· != c)),.s ((l.dropWhile (· != c)).drop 1),.b (l.contains c)]) else none
 | _=>none
theorem zjr(l:List UInt8)(h:l.length≤1000000){c:UInt8}:prim184 [.s l,.s [c]]=some (.tup [.s (l.takeWhile (· != c)),.s ((l.dropWhile (· != c)).drop 1),.b (l.contains c)]):=by
 simp only[prim184,h,if_true]
def textOf:List AV→Option (List UInt8)
 | [.s l]=>if l.length≤10000 then some l else none
 | _=>none
def prim183:List AV→Option AV
 | [.sl els .an,.s sep]=>if els.length≤1000∧sep.length≤100 then (els.mapM textOf).map fun ts=>.s (List.intercalate sep ts) else none
 | _=>none
def Zaj(l:List (List UInt8)):List (List AV):=l.map fun s=>[.s s]
@[simp] theorem zcx(l:List (List UInt8)):(Zaj l).length=l.length:=by simp[Zaj]
@[simp] theorem zft(l:List (List UInt8)):wkL (Zaj l)=Zaj l:=by
 induction l with
 | nil=>rfl
 | cons x l ih=>simpa[Zaj,wkL,wkR]using ih
end Go.Ab
end
section
namespace Go.Ab
class Zaz (T:Tbl):Prop where
end Go.Ab
end
section
namespace Go.Ab
class Zcj (T:Tbl):Prop where
end Go.Ab
end
section
namespace Go.Ab
def l275_0:AX:=
 (.note
 (.seq
 (.reg [rg 17 (.bin .lss (.t 16) (.t 15))])
 (.seq
 (.cond (.t 17)
 .skip
 (.exit 0))
 (.seq
 (.block 1
 (.seq
 (.reg [rg 18 (.iad 1 (.t 14) (.t 16)),rg 19 (.load none (.t 18)),mv 7 19])
 (.seq
 (.reg [mv 21 7,rg 22 (.call 256 [(.t 21)]),mv 20 22,rg 23 (.ext (.t 20) 0),rg 24 (.ext (.t 20) 1),rg 8 (.alloc [(.b false),(.sl [] .nl),(.sl [] .nl)]),rg 9 (.alloc [(.i .i64 0),(.i .i64 0),(.i .i64 0),(.i .i64 0)]),so (.store 3 (.t 8) (.t 23)),so (.store 4 (.t 9) (.t 24))])
 (.seq
 (.seq
 (.reg [rg 25 (.load (some 4) (.t 9)),rg 26 (.build [(.i .i64 0),(.i .i64 0),(.i .i64 0),(.i .i64 0)] []),rg 27 (.eqs true [(0,.int),(1,.int),(2,.int),(3,.int)] (.t 25) (.t 26))])
 (.cond (.t 27)
 (.seq
 (.reg [rg 28 (.fad 3 (.t 9)),rg 29 (.load none (.t 28)),mv 30 5,rg 31 (.bin .add (.t 29) (.t 30)),rg 32 (.fad 3 (.t 9)),so (.store 1 (.t 32) (.t 31))])
 (.seq
 (.drawT [rg 33 (.load (some 4) (.t 9)),rg 2 (.mov (.c (.sl [] .nl)))]
 [so (.store 4 (.t 3) (.t 33))])
 (.pre (.norm false [2,3]) .ret)))
 .skip))
 (.seq
 (.reg [mv 34 4,rg 35 (.load (some 3) (.t 8)),rg 36 (.bsl 3 [(.b false),(.sl [] .nl),(.sl [] .nl)] 1 [(0,(.t 35))]),rg 37 (.app 3 (.t 34) (.t 36)),mv 4 37])
 (.reg [mv 38 5,mv 39 7,rg 40 (.lens (.t 39)),rg 41 (.bin .add (.t 40) (.c (.i .i64 1))),rg 42 (.bin .add (.t 38) (.t 41)),mv 5 42]))))))
 (.reg [rg 43 (.bin .add (.t 16) (.c (.i .i64 1))),mv 16 43]))))
 (.norm false [3,4,5,14,15,16]))
def b275:AX:=
 (.seq
 (.reg [rg 2 (.mov (.c (.sl [] .nl))),rg 3 (.alloc [(.i .i64 0),(.i .i64 0),(.i .i64 0),(.i .i64 0)])])
 (.seq
 (.seq
 (.reg [mv 10 0,rg 11 (.bin .eql (.t 10) (.c (.s [])))])
 (.cond (.t 11)
 (.seq
 (.reg [rg 12 (.build [(.i .i64 0),(.i .i64 0),(.i .i64 0),(.i .i64 0)] []),rg 2 (.mov (.c (.sl [] .nl))),so (.store 4 (.t 3) (.t 12))])
 (.pre (.norm false [2,3]) .ret))
 .skip))
 (.seq
 (.note (.reg [rg 4 (.mov (.c (.sl [] .nl)))]) (.nil 4 3))
 (.seq
 (.reg [rg 5 (.mov (.c (.i .i64 0)))])
 (.seq
 (.seq
 (.reg [mv 13 0,rg 14 (.call 346 [(.t 13),(.c (.s [44]))]),rg 15 (.len (.t 14)),rg 16 (.mov (.c (.i .i64 0)))])
 (.lp 0 (.norm false [3,4,5,14,15,16]) l275_0 (.norm false [3,4])))
 (.seq
 (.reg [mv 44 4,rg 45 (.build [(.i .i64 0),(.i .i64 0),(.i .i64 0),(.i .i64 0)] []),mv 2 44,so (.store 4 (.t 3) (.t 45))])
 (.pre (.norm false [2,3]) .ret)))))))
def row275:AFx:=⟨1,46,[.t 2,.cell 3 (some 4)],b275,none,false⟩
class Zco (T:Tbl):Prop where
 h275:T 275=some row275
section
variable{T:Tbl}[Zco T]{d:Option Nat}{st:St}{xs:List AV}{ps:List Opd}{e:Env}{h:Heap}{ol:List Heap}
@[simp] theorem x275:Zd (orc T) T 275 xs d st=cP T 275 false xs d st:=zaa Zco.h275
end
end Go.Ab
end
section
namespace Go.Ab
class Zfq (T:Tbl):Prop where
end Go.Ab
end
section
namespace Go.Ab
def b185:AX:=
 (.seq
 (.reg [rg 2 (.mov (.c (.b false)))])
 (.seq
 (.reg [mv 3 0,rg 4 (.bin .geq (.t 3) (.c (u8 48))),mv 5 4,gd 6 5 true (.mov (.t 0)),gd 7 5 true (.bin .leq (.t 6) (.c (u8 57))),rg 8 (.pick (.t 5) (.t 7) (.c (.b false))),mv 2 8])
 (.pre (.norm false [2]) .ret)))
def b186:AX:=
 (.seq
 (.reg [rg 2 (.mov (.c (.b false)))])
 (.seq
 (.reg [mv 3 0,rg 4 (.bin .geq (.t 3) (.c (u8 97))),mv 5 4,gd 6 5 true (.mov (.t 0)),gd 7 5 true (.bin .leq (.t 6) (.c (u8 122))),rg 8 (.pick (.t 5) (.t 7) (.c (.b false))),mv 9 8,gd 10 9 false (.mov (.t 0)),gd 11 9 false (.bin .geq (.t 10) (.c (u8 65))),gd 12 9 false (.mov (.t 11)),gd 13 12 true (.mov (.t 0)),gd 14 12 true (.bin .leq (.t 13) (.c (u8 90))),gd 15 9 false (.pick (.t 12) (.t 14) (.c (.b false))),rg 16 (.pick (.t 9) (.c (.b true)) (.t 15)),mv 17 16,gd 18 17 false (.mov (.t 0)),gd 19 17 false (.bin .eql (.t 18) (.c (u8 95))),rg 20 (.pick (.t 17) (.c (.b true)) (.t 19)),mv 2 20])
 (.pre (.norm false [2]) .ret)))
def b177:AX:=
 (.seq
 (.reg [rg 2 (.mov (.c (.i .i64 0)))])
 (.seq
 (.block 0
 (.seq
 (.reg [mv 4 0,rg 5 (.call 185 [(.t 4)]),mv 3 5])
 (.cond (.t 3)
 (.seq
 (.reg [rg 2 (.mov (.c (.i .i64 1)))])
 (.pre (.norm false [2]) .ret))
 (.seq
 (.reg [mv 7 0,rg 8 (.call 186 [(.t 7)]),mv 6 8])
 (.cond (.t 6)
 (.seq
 (.reg [rg 2 (.mov (.c (.i .i64 2)))])
 (.pre (.norm false [2]) .ret))
 (.seq
 (.reg [mv 10 0,rg 11 (.call 187 [(.t 10)]),mv 9 11])
 (.cond (.t 9)
 (.seq
 (.reg [rg 2 (.mov (.c (.i .i64 3)))])
 (.pre (.norm false [2]) .ret))
 .skip)))))))
 (.seq
 (.reg [rg 2 (.mov (.c (.i .i64 0)))])
 (.pre (.norm false [2]) .ret))))
def b188:AX:=
 (.seq
 (.reg [rg 4 (.mov (.c (.b false)))])
 (.seq
 (.reg [mv 5 0,rg 6 (.bin .eql (.t 5) (.c (.i .i64 1))),mv 7 6,gd 8 7 true (.mov (.t 1)),gd 9 7 true (.call 185 [(.t 8)]),rg 10 (.pick (.t 7) (.t 9) (.c (.b false))),mv 11 10,gd 12 11 false (.mov (.t 0)),gd 13 11 false (.bin .eql (.t 12) (.c (.i .i64 2))),gd 14 11 false (.mov (.t 13)),gd 15 14 true (.mov (.t 1)),gd 16 14 true (.call 186 [(.t 15)]),gd 17 14 true (.mov (.t 16)),gd 18 17 false (.mov (.t 1)),gd 19 17 false (.call 185 [(.t 18)]),gd 20 14 true (.pick (.t 17) (.c (.b true)) (.t 19)),gd 21 11 false (.pick (.t 14) (.t 20) (.c (.b false))),rg 22 (.pick (.t 11) (.c (.b true)) (.t 21)),mv 4 22])
 (.pre (.norm false [4]) .ret)))
def b179:AX:=
 (.seq
 (.reg [rg 2 (.mov (.c (.i .i64 0)))])
 (.seq
 (.seq
 (.reg [mv 3 0])
 (.block 0
 (.seq
 (.reg [rg 5 (.bin .eql (.t 3) (.c (.i .i64 1))),mv 4 5])
 (.cond (.t 4)
 (.seq
 (.reg [rg 2 (.mov (.c (.i .i64 60)))])
 (.pre (.norm false [2]) .ret))
 (.seq
 (.reg [rg 7 (.bin .eql (.t 3) (.c (.i .i64 2))),mv 6 7])
 (.cond (.t 6)
 (.seq
 (.reg [rg 2 (.mov (.c (.i .i64 12)))])
 (.pre (.norm false [2]) .ret))
 .skip))))))
 (.seq
 (.reg [rg 2 (.mov (.c (.i .i64 1)))])
 (.pre (.norm false [2]) .ret))))
def l178_0:AX:=
 (.note
 (.seq
 (.seq
 (.reg [mv 6 5,mv 7 0,rg 8 (.lens (.t 7)),rg 9 (.bin .lss (.t 6) (.t 8)),mv 10 9,gd 11 10 true (.mov (.t 1)),gd 12 10 true (.mov (.t 0)),gd 13 10 true (.mov (.t 5)),gd 14 10 true (.ixs (.t 12) (.t 13)),gd 15 10 true (.call 188 [(.t 11),(.t 14)]),rg 16 (.pick (.t 10) (.t 15) (.c (.b false)))])
 (.cond (.t 16)
 .skip
 (.exit 0)))
 (.block 1
 (.reg [mv 17 5,rg 18 (.bin .add (.t 17) (.c (.i .i64 1))),mv 5 18])))
 (.norm false [0,1,5]))
def b178:AX:=
 (.seq
 (.reg [rg 4 (.mov (.c (.i .i64 0)))])
 (.seq
 (.reg [rg 5 (.mov (.c (.i .i64 1)))])
 (.seq
 (.lp 0 (.norm false [0,1,5]) l178_0 (.norm false [5]))
 (.seq
 (.reg [mv 19 5,mv 4 19])
 (.pre (.norm false [4]) .ret)))))
def b172:AX:=
 (.seq
 (.reg [rg 1 (.xop (.box 3) [(.t 0)]),rg 2 (.mov (.c (.b false)))])
 (.seq
 (.seq
 (.drawT [rg 3 (.fad 1 (.t 1)),rg 4 (.load none (.t 3)),rg 5 (.bin .eql (.t 4) (.c (.s []))),mv 6 5,gd 7 6 false (.fad 0 (.t 1)),gd 8 6 false (.load none (.t 7)),gd 9 6 false (.bin .eql (.t 8) (.c (.i .i64 0))),rg 10 (.pick (.t 6) (.c (.b true)) (.t 9)),mv 11 10,gd 12 11 false (.fad 1 (.t 1)),gd 13 11 false (.load none (.t 12)),gd 14 11 false (.ixs (.t 13) (.c (.i .i64 0))),gd 15 11 false (.call 177 [(.t 14)]),gd 16 11 false (.fad 0 (.t 1)),gd 17 11 false (.load none (.t 16))]
 [gd 18 11 false (.bin .neq (.t 15) (.t 17)),rg 19 (.pick (.t 11) (.c (.b true)) (.t 18))])
 (.cond (.t 19)
 (.seq
 (.reg [rg 2 (.mov (.c (.b false)))])
 (.pre (.norm false [2]) .ret))
 .skip))
 (.seq
 (.drawT [rg 20 (.fad 1 (.t 1)),rg 21 (.load none (.t 20)),rg 22 (.fad 0 (.t 1)),rg 23 (.load none (.t 22)),rg 24 (.call 178 [(.t 21),(.t 23)]),rg 25 (.fad 1 (.t 1)),rg 26 (.load none (.t 25)),rg 27 (.lens (.t 26)),rg 28 (.bin .eql (.t 24) (.t 27)),mv 29 28,gd 30 29 true (.fad 1 (.t 1)),gd 31 29 true (.load none (.t 30)),gd 32 29 true (.lens (.t 31)),gd 33 29 true (.fad 0 (.t 1)),gd 34 29 true (.load none (.t 33)),gd 35 29 true (.call 179 [(.t 34)])]
 [gd 36 29 true (.bin .leq (.t 32) (.t 35)),rg 37 (.pick (.t 29) (.t 36) (.c (.b false))),mv 2 37])
 (.pre (.norm false [2]) .ret))))
def row185:AFx:=⟨1,9,[.t 2],b185,none,false⟩
def row186:AFx:=⟨1,21,[.t 2],b186,none,false⟩
def row187:AFx:=⟨0,0,[],.prim prim187,none,false⟩
def row177:AFx:=⟨1,12,[.t 2],b177,none,false⟩
def row188:AFx:=⟨2,23,[.t 4],b188,none,false⟩
def row179:AFx:=⟨1,8,[.t 2],b179,none,false⟩
def row178:AFx:=⟨2,20,[.t 4],b178,none,false⟩
def row172:AFx:=⟨1,38,[.t 2],b172,none,false⟩
def row184:AFx:=⟨0,0,[],.prim prim184,none,false⟩
class Zcb (T:Tbl):Prop where
 h185:T 185=some row185
 h186:T 186=some row186
 h187:T 187=some row187
 h177:T 177=some row177
 h188:T 188=some row188
 h179:T 179=some row179
 h178:T 178=some row178
 h172:T 172=some row172
 h184:T 184=some row184
section
variable{T:Tbl}[Zcb T]{d:Option Nat}{st:St}{xs:List AV}{ps:List Opd}{e:Env}{h:Heap}{ol:List Heap}
@[simp] theorem x185:Zd (orc T) T 185 xs d st=cP T 185 false xs d st:=zaa Zcb.h185
@[simp] theorem x186:Zd (orc T) T 186 xs d st=cP T 186 false xs d st:=zaa Zcb.h186
@[simp] theorem x187:Zd (orc T) T 187 xs d st=cP T 187 false xs d st:=zaa Zcb.h187
theorem p187(xs:List AV):Zb T 187 xs=prim187 xs:=zc5 Zcb.h187
@[simp] theorem y177:opD (orc T) T (.call 177 ps) e h ol=dP T 177 false ps e:=zao Zcb.h177
@[simp] theorem x188:Zd (orc T) T 188 xs d st=cP T 188 false xs d st:=zaa Zcb.h188
@[simp] theorem y179:opD (orc T) T (.call 179 ps) e h ol=dP T 179 false ps e:=zao Zcb.h179
@[simp] theorem y178:opD (orc T) T (.call 178 ps) e h ol=dP T 178 false ps e:=zao Zcb.h178
@[simp] theorem x172:Zd (orc T) T 172 xs d st=cP T 172 false xs d st:=zaa Zcb.h172
@[simp] theorem x184:Zd (orc T) T 184 xs d st=cP T 184 false xs d st:=zaa Zcb.h184
theorem p184(xs:List AV):Zb T 184 xs=prim184 xs:=zc5 Zcb.h184
end
end Go.Ab
end
section
namespace Go.Ab
def b551:AX:=
 (.seq
 (.reg [rg 1 (.xop (.box 5) [(.t 0)]),rg 2 (.mov (.c (.i .i64 0)))])
 (.seq
 (.reg [rg 4 (.call 205 [(.c (.i .i64 1))]),rg 3 (.alloc [(.b false),(.sl [] .nl),(.sl [] .nl)]),so (.store 3 (.t 3) (.t 4))])
 (.seq
 (.block 0
 (.seq
 (.reg [rg 6 (.fad 0 (.t 1)),rg 7 (.load none (.t 6)),rg 8 (.build [(.i .i64 0),(.s []),(.i .i64 0)] [(0,1,(.c (.i .i64 2))),(1,1,(.t 7))]),rg 9 (.call 172 [(.t 8)]),rg 10 (.un .not (.t 9)),mv 5 10])
 (.cond (.t 5)
 (.seq
 (.reg [rg 2 (.mov (.c (.i .i64 1)))])
 (.pre (.norm false [2]) .ret))
 (.seq
 (.reg [rg 12 (.load (some 5) (.t 1)),rg 13 (.call 559 [(.t 12)]),rg 14 (.un .not (.t 13)),mv 11 14])
 (.cond (.t 11)
 (.seq
 (.reg [rg 2 (.mov (.c (.i .i64 2)))])
 (.pre (.norm false [2]) .ret))
 (.seq
 (.reg [rg 16 (.fad 2 (.t 1)),rg 17 (.load none (.t 16)),rg 18 (.call 560 [(.t 17)]),rg 19 (.un .not (.t 18)),mv 20 19,gd 21 20 false (.fad 3 (.t 1)),gd 22 20 false (.load none (.t 21)),gd 23 20 false (.fad 1 (.t 1)),gd 24 20 false (.load none (.t 23)),gd 25 20 false (.fad 4 (.t 1)),gd 26 20 false (.load none (.t 25)),gd 27 20 false (.bsl 1 [(.sl [] .nl)] 3 [(0,(.t 22)),(1,(.t 24)),(2,(.t 26))]),gd 28 20 false (.call 560 [(.t 27)]),gd 29 20 false (.un .not (.t 28)),rg 30 (.pick (.t 20) (.c (.b true)) (.t 29)),mv 15 30])
 (.cond (.t 15)
 (.seq
 (.reg [rg 2 (.mov (.c (.i .i64 3)))])
 (.pre (.norm false [2]) .ret))
 (.seq
 (.reg [rg 32 (.load (some 5) (.t 1)),rg 33 (.call 561 [(.t 32)]),rg 34 (.un .not (.t 33)),mv 31 34])
 (.cond (.t 31)
 (.seq
 (.reg [rg 2 (.mov (.c (.i .i64 4)))])
 (.pre (.norm false [2]) .ret))
 (.seq
 (.drawT [rg 36 (.fad 3 (.t 1)),rg 37 (.load none (.t 36)),rg 38 (.call 562 [(.t 37)]),rg 39 (.load (some 3) (.t 3))]
 [rg 40 (.call 212 [(.t 38),(.t 39)]),rg 41 (.un .not (.t 40)),mv 35 41])
 (.cond (.t 35)
 (.seq
 (.reg [rg 2 (.mov (.c (.i .i64 5)))])
 (.pre (.norm false [2]) .ret))
 (.seq
 (.drawT [rg 43 (.fad 4 (.t 1)),rg 44 (.load none (.t 43)),rg 45 (.len (.t 44)),rg 46 (.bin .gtr (.t 45) (.c (.i .i64 0))),mv 47 46,gd 48 47 true (.fad 4 (.t 1)),gd 49 47 true (.load none (.t 48)),gd 50 47 true (.call 562 [(.t 49)]),gd 51 47 true (.load (some 3) (.t 3))]
 [gd 52 47 true (.call 212 [(.t 50),(.t 51)]),gd 53 47 true (.un .not (.t 52)),rg 54 (.pick (.t 47) (.t 53) (.c (.b false))),mv 42 54])
 (.cond (.t 42)
 (.seq
 (.reg [rg 2 (.mov (.c (.i .i64 6)))])
 (.pre (.norm false [2]) .ret))
 .skip)))))))))))))
 (.seq
 (.reg [rg 2 (.mov (.c (.i .i64 0)))])
 (.pre (.norm false [2]) .ret)))))
def l559_0:AX:=
 (.note
 (.seq
 (.reg [rg 46 (.bin .lss (.t 45) (.t 44))])
 (.seq
 (.cond (.t 46)
 .skip
 (.exit 0))
 (.seq
 (.block 1
 (.seq
 (.reg [mv 47 45,rg 48 (.iad 1 (.t 43) (.t 45)),rg 49 (.load none (.t 48)),mv 4 47,mv 5 49])
 (.seq
 (.reg [mv 50 5,rg 51 (.len (.t 50)),mv 52 4,rg 53 (.bin .neq (.t 51) (.t 52))])
 (.cond (.t 53)
 (.seq
 (.reg [rg 2 (.mov (.c (.b false)))])
 (.pre (.norm false [2]) .ret))
 .skip))))
 (.reg [rg 54 (.bin .add (.t 45) (.c (.i .i64 1))),mv 45 54]))))
 (.norm false [43,44,45]))
def b559:AX:=
 (.seq
 (.reg [rg 1 (.xop (.box 5) [(.t 0)]),rg 2 (.mov (.c (.b false)))])
 (.seq
 (.reg [rg 6 (.fad 3 (.t 1)),rg 7 (.load none (.t 6)),rg 8 (.len (.t 7)),mv 3 8])
 (.seq
 (.seq
 (.reg [mv 9 3,rg 10 (.bin .lss (.t 9) (.c (.i .i64 1))),mv 11 10,gd 12 11 false (.mov (.t 3)),gd 13 11 false (.bin .gtr (.t 12) (.c (.i .i64 8))),rg 14 (.pick (.t 11) (.c (.b true)) (.t 13)),mv 15 14,gd 16 15 false (.fad 1 (.t 1)),gd 17 15 false (.load none (.t 16)),gd 18 15 false (.len (.t 17)),gd 19 15 false (.mov (.t 3)),gd 20 15 false (.bin .neq (.t 18) (.t 19)),rg 21 (.pick (.t 15) (.c (.b true)) (.t 20)),mv 22 21,gd 23 22 false (.fad 2 (.t 1)),gd 24 22 false (.load none (.t 23)),gd 25 22 false (.len (.t 24)),gd 26 22 false (.mov (.t 3)),gd 27 22 false (.bin .neq (.t 25) (.t 26)),rg 28 (.pick (.t 22) (.c (.b true)) (.t 27)),mv 29 28,gd 30 29 false (.fad 4 (.t 1)),gd 31 29 false (.load none (.t 30)),gd 32 29 false (.len (.t 31)),gd 33 29 false (.mov (.t 3)),gd 34 29 false (.bin .neq (.t 32) (.t 33)),gd 35 29 false (.mov (.t 34)),gd 36 35 true (.fad 4 (.t 1)),gd 37 35 true (.load none (.t 36)),gd 38 35 true (.len (.t 37)),gd 39 35 true (.bin .neq (.t 38) (.c (.i .i64 0))),gd 40 29 false (.pick (.t 35) (.t 39) (.c (.b false))),rg 41 (.pick (.t 29) (.c (.b true)) (.t 40))])
 (.cond (.t 41)
 (.seq
 (.reg [rg 2 (.mov (.c (.b false)))])
 (.pre (.norm false [2]) .ret))
 .skip))
 (.seq
 (.seq
 (.reg [rg 42 (.fad 2 (.t 1)),rg 43 (.load none (.t 42)),rg 44 (.len (.t 43)),rg 45 (.mov (.c (.i .i64 0)))])
 (.lp 0 (.norm false [43,44,45]) l559_0 (.norm false [])))
 (.seq
 (.reg [rg 2 (.mov (.c (.b true)))])
 (.pre (.norm false [2]) .ret))))))
def l560_0:AX:=
 (.note
 (.seq
 (.reg [rg 16 (.bin .lss (.t 15) (.t 14))])
 (.seq
 (.cond (.t 16)
 .skip
 (.exit 2))
 (.seq
 (.block 3
 (.seq
 (.reg [rg 17 (.iad 3 (.t 13) (.t 15)),rg 18 (.load (some 3) (.t 17)),rg 6 (.alloc [(.b false),(.sl [] .nl),(.sl [] .nl)]),so (.store 3 (.t 6) (.t 18))])
 (.seq
 (.reg [rg 19 (.load (some 3) (.t 6)),rg 20 (.call 208 [(.t 19)]),rg 21 (.un .not (.t 20)),mv 22 21,gd 23 22 false (.load (some 3) (.t 6)),gd 24 22 false (.call 223 [(.t 23)]),gd 25 22 false (.bin .gtr (.t 24) (.c (.i .i64 190))),rg 26 (.pick (.t 22) (.c (.b true)) (.t 25))])
 (.cond (.t 26)
 (.seq
 (.reg [rg 2 (.mov (.c (.b false)))])
 (.pre (.norm false [2]) .ret))
 .skip))))
 (.reg [rg 27 (.bin .add (.t 15) (.c (.i .i64 1))),mv 15 27]))))
 (.norm false [7,8,9,13,14,15]))
def l560_1:AX:=
 (.note
 (.seq
 (.reg [rg 10 (.bin .lss (.t 9) (.t 8))])
 (.seq
 (.cond (.t 10)
 .skip
 (.exit 0))
 (.seq
 (.block 1
 (.seq
 (.reg [rg 11 (.iad 1 (.t 7) (.t 9)),rg 12 (.load none (.t 11)),mv 4 12])
 (.seq
 (.reg [mv 13 4,rg 14 (.len (.t 13)),rg 15 (.mov (.c (.i .i64 0)))])
 (.lp 2 (.norm false [7,8,9,13,14,15]) l560_0 (.norm false [7,8,9])))))
 (.reg [rg 28 (.bin .add (.t 9) (.c (.i .i64 1))),mv 9 28]))))
 (.norm false [7,8,9]))
def b560:AX:=
 (.seq
 (.reg [rg 2 (.mov (.c (.b false)))])
 (.seq
 (.seq
 (.reg [mv 7 0,rg 8 (.len (.t 7)),rg 9 (.mov (.c (.i .i64 0)))])
 (.lp 0 (.norm false [7,8,9]) l560_1 (.norm false [])))
 (.seq
 (.reg [rg 2 (.mov (.c (.b true)))])
 (.pre (.norm false [2]) .ret))))
def l561_0:AX:=
 (.note
 (.seq
 (.reg [rg 9 (.bin .lss (.t 8) (.t 7))])
 (.seq
 (.cond (.t 9)
 .skip
 (.exit 0))
 (.seq
 (.block 1
 (.seq
 (.reg [mv 10 8,rg 11 (.iad 1 (.t 6) (.t 8)),rg 12 (.load none (.t 11)),mv 3 10,mv 4 12])
 (.seq
 (.drawT [mv 13 4,rg 14 (.call 562 [(.t 13)]),rg 15 (.fad 1 (.t 1)),rg 16 (.load none (.t 15)),mv 17 3,rg 18 (.iad 3 (.t 16) (.t 17)),rg 19 (.load (some 3) (.t 18))]
 [rg 20 (.call 212 [(.t 14),(.t 19)]),rg 21 (.un .not (.t 20))])
 (.cond (.t 21)
 (.seq
 (.reg [rg 2 (.mov (.c (.b false)))])
 (.pre (.norm false [2]) .ret))
 .skip))))
 (.reg [rg 22 (.bin .add (.t 8) (.c (.i .i64 1))),mv 8 22]))))
 (.norm false [1,6,7,8]))
def b561:AX:=
 (.seq
 (.reg [rg 1 (.xop (.box 5) [(.t 0)]),rg 2 (.mov (.c (.b false)))])
 (.seq
 (.seq
 (.reg [rg 5 (.fad 2 (.t 1)),rg 6 (.load none (.t 5)),rg 7 (.len (.t 6)),rg 8 (.mov (.c (.i .i64 0)))])
 (.lp 0 (.norm false [1,6,7,8]) l561_0 (.norm false [])))
 (.seq
 (.reg [rg 2 (.mov (.c (.b true)))])
 (.pre (.norm false [2]) .ret))))
def l562_0:AX:=
 (.note
 (.seq
 (.reg [rg 10 (.bin .lss (.t 9) (.t 8))])
 (.seq
 (.cond (.t 10)
 .skip
 (.exit 0))
 (.seq
 (.block 1
 (.seq
 (.reg [rg 11 (.iad 3 (.t 7) (.t 9)),rg 12 (.load (some 3) (.t 11)),rg 5 (.alloc [(.b false),(.sl [] .nl),(.sl [] .nl)]),so (.store 3 (.t 5) (.t 12))])
 (.reg [rg 13 (.load (some 3) (.t 3)),rg 14 (.load (some 3) (.t 5)),rg 15 (.call 215 [(.t 13),(.t 14)]),so (.store 3 (.t 3) (.t 15))])))
 (.reg [rg 16 (.bin .add (.t 9) (.c (.i .i64 1))),mv 9 16]))))
 (.norm false [2,3,7,8,9]))
def b562:AX:=
 (.seq
 (.reg [rg 2 (.alloc [(.b false),(.sl [] .nl),(.sl [] .nl)])])
 (.seq
 (.reg [rg 6 (.call 205 [(.c (.i .i64 0))]),rg 3 (.alloc [(.b false),(.sl [] .nl),(.sl [] .nl)]),so (.store 3 (.t 3) (.t 6))])
 (.seq
 (.seq
 (.reg [mv 7 0,rg 8 (.len (.t 7)),rg 9 (.mov (.c (.i .i64 0)))])
 (.lp 0 (.norm false [2,3,7,8,9]) l562_0 (.norm false [2,3])))
 (.seq
 (.reg [rg 17 (.load (some 3) (.t 3)),so (.store 3 (.t 2) (.t 17))])
 (.pre (.norm false [2]) .ret)))))
def row551:AFx:=⟨1,55,[.t 2],b551,none,false⟩
def row559:AFx:=⟨1,55,[.t 2],b559,none,false⟩
def row560:AFx:=⟨1,29,[.t 2],b560,none,false⟩
def row561:AFx:=⟨1,23,[.t 2],b561,none,false⟩
def row562:AFx:=⟨1,18,[.cell 2 (some 3)],b562,none,false⟩
class Zat (T:Tbl):Prop where
 h551:T 551=some row551
 h559:T 559=some row559
 h560:T 560=some row560
 h561:T 561=some row561
 h562:T 562=some row562
section
variable{T:Tbl}[Zat T]{d:Option Nat}{st:St}{xs:List AV}{ps:List Opd}{e:Env}{h:Heap}{ol:List Heap}
@[simp] theorem x551:Zd (orc T) T 551 xs d st=cP T 551 false xs d st:=zaa Zat.h551
@[simp] theorem x559:Zd (orc T) T 559 xs d st=cP T 559 false xs d st:=zaa Zat.h559
@[simp] theorem x560:Zd (orc T) T 560 xs d st=cP T 560 false xs d st:=zaa Zat.h560
@[simp] theorem x561:Zd (orc T) T 561 xs d st=cP T 561 false xs d st:=zaa Zat.h561
@[simp] theorem y562:opD (orc T) T (.call 562 ps) e h ol=dP T 562 false ps e:=zao Zat.h562
end
end Go.Ab
end
section
namespace Go.Ab
def b608:AX:=
 (.seq
 (.reg [rg 2 (.alloc [(.s []),(.sl [] .nl),(.sl [] .nl),(.sl [] .nl),(.sl [] .nl)]),rg 3 (.alloc [(.i .i64 0),(.i .i64 0),(.i .i64 0),(.i .i64 0)])])
 (.seq
 (.seq
 (.reg [mv 7 0,rg 8 (.lens (.t 7)),rg 9 (.bin .gtr (.t 8) (.c (.i .i64 4000)))])
 (.cond (.t 9)
 (.seq
 (.reg [rg 10 (.build [(.s []),(.sl [] .nl),(.sl [] .nl),(.sl [] .nl),(.sl [] .nl)] []),rg 11 (.build [(.i .i64 0),(.i .i64 0),(.i .i64 0),(.i .i64 0)] [(0,1,(.c (.i .i64 1))),(3,1,(.c (.i .i64 4000)))]),so (.store 5 (.t 2) (.t 10)),so (.store 4 (.t 3) (.t 11))])
 (.pre (.norm false [2,3]) .ret))
 .skip))
 (.seq
 (.reg [mv 13 0,rg 14 (.call 612 [(.t 13)]),mv 12 14,rg 15 (.ext (.t 12) 0),rg 16 (.ext (.t 12) 1),rg 4 (.alloc [(.s []),(.sl [] .nl),(.sl [] .nl),(.sl [] .nl),(.sl [] .nl)]),rg 5 (.alloc [(.i .i64 0),(.i .i64 0),(.i .i64 0),(.i .i64 0)]),so (.store 5 (.t 4) (.t 15)),so (.store 4 (.t 5) (.t 16))])
 (.seq
 (.seq
 (.reg [rg 17 (.load (some 4) (.t 5)),rg 18 (.build [(.i .i64 0),(.i .i64 0),(.i .i64 0),(.i .i64 0)] []),rg 19 (.eqs true [(0,.int),(1,.int),(2,.int),(3,.int)] (.t 17) (.t 18))])
 (.cond (.t 19)
 (.seq
 (.draw [⟨rg 20 (.build [(.s []),(.sl [] .nl),(.sl [] .nl),(.sl [] .nl),(.sl [] .nl)] []),0,0⟩,⟨rg 21 (.load (some 4) (.t 5)),0,1⟩,⟨so (.store 5 (.t 2) (.t 20)),0,1⟩,⟨so (.store 4 (.t 3) (.t 21)),1,2⟩])
 (.pre (.norm false [2,3]) .ret))
 .skip))
 (.seq
 (.seq
 (.reg [rg 22 (.load (some 5) (.t 4)),rg 23 (.call 551 [(.t 22)]),mv 6 23])
 (.seq
 (.reg [mv 24 6,rg 25 (.bin .neq (.t 24) (.c (.i .i64 0)))])
 (.cond (.t 25)
 (.seq
 (.reg [rg 26 (.build [(.s []),(.sl [] .nl),(.sl [] .nl),(.sl [] .nl),(.sl [] .nl)] []),mv 27 6,rg 28 (.build [(.i .i64 0),(.i .i64 0),(.i .i64 0),(.i .i64 0)] [(0,1,(.c (.i .i64 2))),(3,1,(.t 27))]),so (.store 5 (.t 2) (.t 26)),so (.store 4 (.t 3) (.t 28))])
 (.pre (.norm false [2,3]) .ret))
 .skip)))
 (.seq
 (.draw [⟨rg 29 (.load (some 5) (.t 4)),0,0⟩,⟨rg 30 (.load (some 4) (.t 5)),0,1⟩,⟨so (.store 5 (.t 2) (.t 29)),0,1⟩,⟨so (.store 4 (.t 3) (.t 30)),1,2⟩])
 (.pre (.norm false [2,3]) .ret)))))))
def b612:AX:=
 (.seq
 (.reg [rg 2 (.alloc [(.s []),(.sl [] .nl),(.sl [] .nl),(.sl [] .nl),(.sl [] .nl)]),rg 3 (.alloc [(.i .i64 0),(.i .i64 0),(.i .i64 0),(.i .i64 0)])])
 (.seq
 (.reg [rg 4 (.alloc [(.s []),(.sl [] .nl),(.sl [] .nl),(.sl [] .nl),(.sl [] .nl)])])
 (.seq
 (.reg [mv 7 0,rg 8 (.build [(.s []),(.i .i64 0),(.b false)] [(0,1,(.t 7))]),rg 9 (.xop (.box 3) [(.t 8)]),mv 5 9])
 (.seq
 (.reg [mv 11 5,rg 12 (.call 614 [(.t 11)]),mv 10 12,rg 13 (.ext (.t 10) 0),rg 14 (.ext (.t 10) 1),rg 15 (.ext (.t 10) 2),rg 16 (.fad 0 (.t 4)),so (.store 1 (.t 16) (.t 13))])
 (.seq
 (.seq
 (.reg [rg 17 (.fad 0 (.t 4)),rg 18 (.load none (.t 17)),rg 19 (.build [(.i .i64 0),(.s []),(.i .i64 0)] [(0,1,(.c (.i .i64 2))),(1,1,(.t 18))]),rg 20 (.call 172 [(.t 19)]),rg 21 (.un .not (.t 20))])
 (.cond (.t 21)
 (.seq
 (.reg [rg 22 (.load (some 5) (.t 4)),rg 23 (.build [(.i .i64 0),(.i .i64 0),(.i .i64 0),(.i .i64 0)] [(0,1,(.c (.i .i64 1)))]),so (.store 5 (.t 2) (.t 22)),so (.store 4 (.t 3) (.t 23))])
 (.pre (.norm false [2,3]) .ret))
 .skip))
 (.seq
 (.reg [mv 24 5,mv 25 0,rg 26 (.call 615 [(.t 24),(.t 25),(.t 4)]),rg 6 (.alloc [(.i .i64 0),(.i .i64 0),(.i .i64 0),(.i .i64 0)]),so (.store 4 (.t 6) (.t 26))])
 (.seq
 (.seq
 (.reg [rg 27 (.load (some 4) (.t 6)),rg 28 (.build [(.i .i64 0),(.i .i64 0),(.i .i64 0),(.i .i64 0)] []),rg 29 (.eqs true [(0,.int),(1,.int),(2,.int),(3,.int)] (.t 27) (.t 28))])
 (.cond (.t 29)
 (.seq
 (.draw [⟨rg 30 (.load (some 5) (.t 4)),0,0⟩,⟨rg 31 (.load (some 4) (.t 6)),0,1⟩,⟨so (.store 5 (.t 2) (.t 30)),0,1⟩,⟨so (.store 4 (.t 3) (.t 31)),1,2⟩])
 (.pre (.norm false [2,3]) .ret))
 .skip))
 (.seq
 (.seq
 (.reg [mv 33 5,rg 34 (.call 616 [(.t 33),(.c (.s [98]))]),mv 32 34,rg 35 (.ext (.t 32) 0),rg 36 (.ext (.t 32) 1),rg 37 (.fad 3 (.t 4)),so (.store 1 (.t 37) (.t 35)),so (.store 4 (.t 6) (.t 36))])
 (.seq
 (.reg [rg 38 (.load (some 4) (.t 6)),rg 39 (.build [(.i .i64 0),(.i .i64 0),(.i .i64 0),(.i .i64 0)] []),rg 40 (.eqs true [(0,.int),(1,.int),(2,.int),(3,.int)] (.t 38) (.t 39)),mv 41 40,gd 42 41 false (.mov (.t 5)),gd 43 41 false (.nilc (.t 42)),gd 44 41 false (.fad 2 (.t 43)),gd 45 41 false (.load none (.t 44)),rg 46 (.pick (.t 41) (.c (.b true)) (.t 45))])
 (.cond (.t 46)
 (.seq
 (.draw [⟨rg 47 (.load (some 5) (.t 4)),0,0⟩,⟨rg 48 (.load (some 4) (.t 6)),0,1⟩,⟨so (.store 5 (.t 2) (.t 47)),0,1⟩,⟨so (.store 4 (.t 3) (.t 48)),1,2⟩])
 (.pre (.norm false [2,3]) .ret))
 .skip)))
 (.seq
 (.seq
 (.reg [mv 50 5,rg 51 (.call 616 [(.t 50),(.c (.s [101]))]),mv 49 51,rg 52 (.ext (.t 49) 0),rg 53 (.ext (.t 49) 1),rg 54 (.fad 4 (.t 4)),so (.store 1 (.t 54) (.t 52)),so (.store 4 (.t 6) (.t 53))])
 (.seq
 (.reg [rg 55 (.load (some 4) (.t 6)),rg 56 (.build [(.i .i64 0),(.i .i64 0),(.i .i64 0),(.i .i64 0)] []),rg 57 (.eqs true [(0,.int),(1,.int),(2,.int),(3,.int)] (.t 55) (.t 56)),mv 58 57,gd 59 58 false (.mov (.t 5)),gd 60 58 false (.nilc (.t 59)),gd 61 58 false (.fad 2 (.t 60)),gd 62 58 false (.load none (.t 61)),rg 63 (.pick (.t 58) (.c (.b true)) (.t 62))])
 (.cond (.t 63)
 (.seq
 (.draw [⟨rg 64 (.load (some 5) (.t 4)),0,0⟩,⟨rg 65 (.load (some 4) (.t 6)),0,1⟩,⟨so (.store 5 (.t 2) (.t 64)),0,1⟩,⟨so (.store 4 (.t 3) (.t 65)),1,2⟩])
 (.pre (.norm false [2,3]) .ret))
 .skip)))
 (.seq
 (.draw [⟨rg 66 (.load (some 5) (.t 4)),0,0⟩,⟨mv 67 5,0,1⟩,⟨rg 68 (.nilc (.t 67)),0,1⟩,⟨rg 69 (.fad 1 (.t 68)),0,1⟩,⟨rg 70 (.load none (.t 69)),0,1⟩,⟨rg 71 (.build [(.i .i64 0),(.i .i64 0),(.i .i64 0),(.i .i64 0)] [(0,1,(.c (.i .i64 1))),(3,1,(.t 70))]),0,1⟩,⟨so (.store 5 (.t 2) (.t 66)),0,1⟩,⟨so (.store 4 (.t 3) (.t 71)),1,2⟩])
 (.pre (.norm false [2,3]) .ret)))))))))))
def b614:AX:=
 (.seq
 (.reg [rg 2 (.mov (.c (.s []))),rg 3 (.mov (.c (.i .i64 0))),rg 4 (.mov (.c (.b false)))])
 (.seq
 (.seq
 (.reg [mv 9 0,rg 10 (.nilc (.t 9)),rg 11 (.fad 2 (.t 10)),rg 12 (.load none (.t 11))])
 (.cond (.t 12)
 (.seq
 (.drawT [mv 13 0,rg 14 (.nilc (.t 13)),rg 15 (.fad 1 (.t 14)),rg 16 (.load none (.t 15)),rg 2 (.mov (.c (.s [])))]
 [mv 3 16,rg 4 (.mov (.c (.b false)))])
 (.pre (.norm false [2,3,4]) .ret))
 .skip))
 (.seq
 (.reg [mv 17 0,rg 18 (.nilc (.t 17)),rg 19 (.fad 1 (.t 18)),rg 20 (.load none (.t 19)),mv 5 20])
 (.seq
 (.reg [mv 22 0,rg 23 (.nilc (.t 22)),rg 24 (.fad 0 (.t 23)),rg 25 (.load none (.t 24)),rg 26 (.call 184 [(.t 25),(.c (.s [10]))]),mv 21 26,rg 27 (.ext (.t 21) 0),rg 28 (.ext (.t 21) 1),rg 29 (.ext (.t 21) 2),mv 6 27,mv 7 28,mv 8 29])
 (.seq
 (.reg [mv 30 0,mv 31 0,mv 32 7,mv 33 8,rg 34 (.un .not (.t 33)),rg 35 (.nilc (.t 30)),rg 36 (.fad 0 (.t 35)),so (.store 1 (.t 36) (.t 32)),rg 37 (.nilc (.t 31)),rg 38 (.fad 2 (.t 37)),so (.store 1 (.t 38) (.t 34))])
 (.seq
 (.reg [mv 39 0,rg 40 (.nilc (.t 39)),rg 41 (.fad 1 (.t 40)),rg 42 (.load none (.t 41)),mv 43 6,rg 44 (.lens (.t 43)),rg 45 (.bin .add (.t 42) (.t 44)),rg 46 (.nilc (.t 39)),rg 47 (.fad 1 (.t 46)),so (.store 1 (.t 47) (.t 45))])
 (.seq
 (.seq
 (.reg [mv 48 8])
 (.cond (.t 48)
 (.reg [mv 49 0,rg 50 (.nilc (.t 49)),rg 51 (.fad 1 (.t 50)),rg 52 (.load none (.t 51)),rg 53 (.bin .add (.t 52) (.c (.i .i64 1))),rg 54 (.nilc (.t 49)),rg 55 (.fad 1 (.t 54)),so (.store 1 (.t 55) (.t 53))])
 .skip))
 (.seq
 (.reg [mv 56 6,mv 57 5,mv 2 56,mv 3 57,rg 4 (.mov (.c (.b true)))])
 (.pre (.norm false [2,3,4]) .ret)))))))))
def l615_0:AX:=
 (.note
 (.block 1
 (.seq
 (.reg [mv 14 0,rg 15 (.call 614 [(.t 14)]),mv 13 15,rg 16 (.ext (.t 13) 0),rg 17 (.ext (.t 13) 1),rg 18 (.ext (.t 13) 2),mv 7 16,mv 8 17,mv 9 18])
 (.seq
 (.seq
 (.reg [mv 19 9,rg 20 (.un .not (.t 19))])
 (.cond (.t 20)
 (.seq
 (.reg [rg 21 (.build [(.i .i64 0),(.i .i64 0),(.i .i64 0),(.i .i64 0)] []),so (.store 4 (.t 6) (.t 21))])
 (.pre (.norm true [6]) .ret))
 .skip))
 (.seq
 (.seq
 (.reg [mv 22 7,rg 23 (.call 618 [(.t 22),(.c (.s [124]))]),rg 24 (.un .not (.t 23))])
 (.cond (.t 24)
 (.seq
 (.reg [mv 25 0,mv 26 1,mv 27 8,rg 28 (.call 619 [(.t 25),(.t 26),(.t 27)])])
 (.seq
 (.reg [rg 29 (.build [(.i .i64 0),(.i .i64 0),(.i .i64 0),(.i .i64 0)] []),so (.store 4 (.t 6) (.t 29))])
 (.pre (.norm true [6]) .ret)))
 .skip))
 (.seq
 (.reg [mv 31 7,mv 32 8,rg 33 (.call 620 [(.t 31),(.t 32)]),mv 30 33,rg 34 (.ext (.t 30) 0),rg 35 (.ext (.t 30) 1),rg 36 (.ext (.t 30) 2),rg 10 (.alloc [(.b false),(.sl [] .nl),(.sl [] .nl)]),rg 12 (.alloc [(.i .i64 0),(.i .i64 0),(.i .i64 0),(.i .i64 0)]),so (.store 3 (.t 10) (.t 34)),mv 11 35,so (.store 4 (.t 12) (.t 36))])
 (.seq
 (.seq
 (.reg [rg 37 (.load (some 4) (.t 12)),rg 38 (.build [(.i .i64 0),(.i .i64 0),(.i .i64 0),(.i .i64 0)] []),rg 39 (.eqs true [(0,.int),(1,.int),(2,.int),(3,.int)] (.t 37) (.t 38))])
 (.cond (.t 39)
 (.seq
 (.reg [rg 40 (.load (some 4) (.t 12)),so (.store 4 (.t 6) (.t 40))])
 (.pre (.norm true [6]) .ret))
 .skip))
 (.seq
 (.draw [⟨mv 41 2,0,1⟩,⟨mv 42 2,0,0⟩,⟨rg 43 (.nilc (.t 42)),0,0⟩,⟨rg 44 (.fad 1 (.t 43)),0,0⟩,⟨rg 45 (.load none (.t 44)),0,0⟩,⟨rg 46 (.load (some 3) (.t 10)),0,0⟩,⟨rg 47 (.bsl 3 [(.b false),(.sl [] .nl),(.sl [] .nl)] 1 [(0,(.t 46))]),0,0⟩,⟨rg 48 (.app 3 (.t 45) (.t 47)),0,1⟩,⟨rg 49 (.nilc (.t 41)),1,1⟩,⟨rg 50 (.fad 1 (.t 49)),1,1⟩,⟨so (.store 1 (.t 50) (.t 48)),1,2⟩])
 (.reg [mv 51 2,mv 52 2,rg 53 (.nilc (.t 52)),rg 54 (.fad 2 (.t 53)),rg 55 (.load none (.t 54)),mv 56 11,rg 57 (.bsl 1 [(.sl [] .nl)] 1 [(0,(.t 56))]),rg 58 (.app 1 (.t 55) (.t 57)),rg 59 (.nilc (.t 51)),rg 60 (.fad 2 (.t 59)),so (.store 1 (.t 60) (.t 58))]))))))))
 (.norm true [0,1,2,6]))
def b615:AX:=
 (.seq
 (.reg [rg 6 (.alloc [(.i .i64 0),(.i .i64 0),(.i .i64 0),(.i .i64 0)])])
 (.pre (.fld 2 0 1 3) (.pre (.fld 2 0 2 1) (.lp 0 (.norm true [0,1,2,6]) l615_0 (.norm true [6])))))
def b616:AX:=
 (.seq
 (.reg [rg 4 (.mov (.c (.sl [] .nl))),rg 5 (.alloc [(.i .i64 0),(.i .i64 0),(.i .i64 0),(.i .i64 0)])])
 (.seq
 (.reg [mv 14 0,rg 15 (.call 614 [(.t 14)]),mv 13 15,rg 16 (.ext (.t 13) 0),rg 17 (.ext (.t 13) 1),rg 18 (.ext (.t 13) 2),mv 6 16,mv 7 17,mv 8 18])
 (.seq
 (.reg [mv 20 6,mv 21 1,rg 22 (.bin .add (.t 21) (.c (.s [32]))),rg 23 (.call 64 [(.t 20),(.t 22)]),mv 19 23,rg 24 (.ext (.t 19) 0),rg 25 (.ext (.t 19) 1),mv 9 24,mv 10 25])
 (.seq
 (.seq
 (.reg [mv 26 10,rg 27 (.un .not (.t 26))])
 (.cond (.t 27)
 (.seq
 (.reg [mv 28 7,rg 29 (.build [(.i .i64 0),(.i .i64 0),(.i .i64 0),(.i .i64 0)] [(0,1,(.c (.i .i64 1))),(3,1,(.t 28))]),rg 4 (.mov (.c (.sl [] .nl))),so (.store 4 (.t 5) (.t 29))])
 (.pre (.norm false [4,5]) .ret))
 .skip))
 (.seq
 (.reg [mv 31 9,rg 32 (.call 275 [(.t 31)]),mv 30 32,rg 33 (.ext (.t 30) 0),rg 34 (.ext (.t 30) 1),rg 12 (.alloc [(.i .i64 0),(.i .i64 0),(.i .i64 0),(.i .i64 0)]),mv 11 33,so (.store 4 (.t 12) (.t 34))])
 (.seq
 (.reg [mv 35 11,rg 36 (.load (some 4) (.t 12)),mv 37 7,mv 38 1,rg 39 (.lens (.t 38)),rg 40 (.bin .add (.t 37) (.t 39)),rg 41 (.bin .add (.t 40) (.c (.i .i64 1))),rg 42 (.call 621 [(.t 36),(.t 41)]),mv 4 35,so (.store 4 (.t 5) (.t 42))])
 (.pre (.norm false [4,5]) .ret)))))))
def b618:AX:=
 (.seq
 (.reg [rg 4 (.mov (.c (.b false)))])
 (.seq
 (.reg [mv 5 0,mv 6 1,rg 7 (.call 362 [(.t 5),(.t 6)]),rg 8 (.bin .geq (.t 7) (.c (.i .i64 0))),mv 4 8])
 (.pre (.norm false [4]) .ret)))
def b619:AX:=
 (.reg [mv 6 0,mv 7 0,mv 8 0,mv 9 1,mv 10 2,rg 11 (.slstr (.t 9) (some (.t 10)) none),mv 12 2,rg 13 (.nilc (.t 6)),rg 14 (.fad 0 (.t 13)),so (.store 1 (.t 14) (.t 11)),rg 15 (.nilc (.t 7)),rg 16 (.fad 1 (.t 15)),so (.store 1 (.t 16) (.t 12)),rg 17 (.nilc (.t 8)),rg 18 (.fad 2 (.t 17)),so (.store 1 (.t 18) (.c (.b false)))])
def b620:AX:=
 (.seq
 (.reg [rg 4 (.alloc [(.b false),(.sl [] .nl),(.sl [] .nl)]),rg 5 (.mov (.c (.sl [] .nl))),rg 6 (.alloc [(.i .i64 0),(.i .i64 0),(.i .i64 0),(.i .i64 0)])])
 (.seq
 (.reg [mv 14 0,rg 15 (.call 184 [(.t 14),(.c (.s [124]))]),mv 13 15,rg 16 (.ext (.t 13) 0),rg 17 (.ext (.t 13) 1),rg 18 (.ext (.t 13) 2),mv 7 16,mv 8 17,mv 9 18])
 (.seq
 (.reg [mv 20 7,rg 21 (.call 256 [(.t 20)]),mv 19 21,rg 22 (.ext (.t 19) 0),rg 23 (.ext (.t 19) 1),rg 10 (.alloc [(.b false),(.sl [] .nl),(.sl [] .nl)]),rg 11 (.alloc [(.i .i64 0),(.i .i64 0),(.i .i64 0),(.i .i64 0)]),so (.store 3 (.t 10) (.t 22)),so (.store 4 (.t 11) (.t 23))])
 (.seq
 (.seq
 (.reg [rg 24 (.load (some 4) (.t 11)),rg 25 (.build [(.i .i64 0),(.i .i64 0),(.i .i64 0),(.i .i64 0)] []),rg 26 (.eqs true [(0,.int),(1,.int),(2,.int),(3,.int)] (.t 24) (.t 25))])
 (.cond (.t 26)
 (.seq
 (.drawT [rg 27 (.load (some 3) (.t 10)),rg 28 (.load (some 4) (.t 11)),mv 29 1,rg 30 (.call 621 [(.t 28),(.t 29)])]
 [so (.store 3 (.t 4) (.t 27)),rg 5 (.mov (.c (.sl [] .nl))),so (.store 4 (.t 6) (.t 30))])
 (.pre (.norm false [4,5,6]) .ret))
 .skip))
 (.seq
 (.reg [mv 32 8,rg 33 (.call 275 [(.t 32)]),mv 31 33,rg 34 (.ext (.t 31) 0),rg 35 (.ext (.t 31) 1),mv 12 34,so (.store 4 (.t 11) (.t 35))])
 (.seq
 (.draw [⟨rg 36 (.load (some 3) (.t 10)),0,0⟩,⟨mv 37 12,0,1⟩,⟨rg 38 (.load (some 4) (.t 11)),0,0⟩,⟨mv 39 1,0,0⟩,⟨mv 40 7,0,0⟩,⟨rg 41 (.lens (.t 40)),0,0⟩,⟨rg 42 (.bin .add (.t 39) (.t 41)),0,0⟩,⟨rg 43 (.bin .add (.t 42) (.c (.i .i64 1))),0,0⟩,⟨rg 44 (.call 621 [(.t 38),(.t 43)]),0,0⟩,⟨so (.store 3 (.t 4) (.t 36)),0,1⟩,⟨mv 5 37,1,1⟩,⟨so (.store 4 (.t 6) (.t 44)),1,2⟩])
 (.pre (.norm false [4,5,6]) .ret)))))))
def b621:AX:=
 (.seq
 (.reg [rg 2 (.xop (.box 4) [(.t 0)]),rg 4 (.alloc [(.i .i64 0),(.i .i64 0),(.i .i64 0),(.i .i64 0)])])
 (.seq
 (.seq
 (.reg [rg 5 (.load (some 4) (.t 2)),rg 6 (.build [(.i .i64 0),(.i .i64 0),(.i .i64 0),(.i .i64 0)] []),rg 7 (.eqs true [(0,.int),(1,.int),(2,.int),(3,.int)] (.t 5) (.t 6))])
 (.cond (.t 7)
 (.reg [rg 8 (.fad 3 (.t 2)),rg 9 (.load none (.t 8)),mv 10 1,rg 11 (.bin .add (.t 9) (.t 10)),rg 12 (.fad 3 (.t 2)),so (.store 1 (.t 12) (.t 11))])
 .skip))
 (.seq
 (.reg [rg 13 (.load (some 4) (.t 2)),so (.store 4 (.t 4) (.t 13))])
 (.pre (.norm false [4]) .ret))))
def row608:AFx:=⟨1,31,[.cell 2 (some 5),.cell 3 (some 4)],b608,none,false⟩
def row612:AFx:=⟨1,72,[.cell 2 (some 5),.cell 3 (some 4)],b612,none,false⟩
def row614:AFx:=⟨1,58,[.t 2,.t 3,.t 4],b614,(some [true]),false⟩
def row615:AFx:=⟨3,61,[.cell 6 (some 4)],b615,(some [true,false,true]),true⟩
def row616:AFx:=⟨2,43,[.t 4,.cell 5 (some 4)],b616,(some [true,false]),false⟩
def row618:AFx:=⟨2,9,[.t 4],b618,none,false⟩
def row619:AFx:=⟨3,19,[],b619,(some [true,false,false]),false⟩
def row620:AFx:=⟨2,45,[.cell 4 (some 3),.t 5,.cell 6 (some 4)],b620,none,false⟩
def row621:AFx:=⟨2,14,[.cell 4 (some 4)],b621,none,false⟩
class Za3 (T:Tbl):Prop where
 h608:T 608=some row608
 h612:T 612=some row612
 h614:T 614=some row614
 h615:T 615=some row615
 h616:T 616=some row616
 h618:T 618=some row618
 h619:T 619=some row619
 h620:T 620=some row620
 h621:T 621=some row621
section
variable{T:Tbl}[Za3 T]{d:Option Nat}{st:St}{xs:List AV}{ps:List Opd}{e:Env}{h:Heap}{ol:List Heap}
@[simp] theorem x608:Zd (orc T) T 608 xs d st=cP T 608 false xs d st:=zaa Za3.h608
@[simp] theorem x612:Zd (orc T) T 612 xs d st=cP T 612 false xs d st:=zaa Za3.h612
@[simp] theorem x614:Zd (orc T) T 614 xs d st=cL T 614 false [true] xs d st:=zav Za3.h614
@[simp] theorem x615:Zd (orc T) T 615 xs d st=cL T 615 true [true,false,true] xs d st:=zav Za3.h615
@[simp] theorem x616:Zd (orc T) T 616 xs d st=cL T 616 false [true,false] xs d st:=zav Za3.h616
@[simp] theorem x618:Zd (orc T) T 618 xs d st=cP T 618 false xs d st:=zaa Za3.h618
@[simp] theorem x619:Zd (orc T) T 619 xs d st=cL T 619 false [true,false,false] xs d st:=zav Za3.h619
@[simp] theorem x620:Zd (orc T) T 620 xs d st=cP T 620 false xs d st:=zaa Za3.h620
@[simp] theorem x621:Zd (orc T) T 621 xs d st=cP T 621 false xs d st:=zaa Za3.h621
@[simp] theorem y621:opD (orc T) T (.call 621 ps) e h ol=dP T 621 false ps e:=zao Za3.h621
end
end Go.Ab
end
section
namespace Go.Ab
def l599_0:AX:=
 (.note
 (.seq
 (.seq
 (.reg [mv 44 5,rg 45 (.fad 2 (.t 2)),rg 46 (.load none (.t 45)),rg 47 (.len (.t 46)),rg 48 (.bin .lss (.t 44) (.t 47))])
 (.cond (.t 48)
 .skip
 (.exit 0)))
 (.seq
 (.block 1
 (.seq
 (.drawT [rg 51 (.fad 2 (.t 2)),rg 52 (.load none (.t 51)),mv 53 5,rg 54 (.iad 1 (.t 52) (.t 53)),rg 55 (.load none (.t 54)),rg 56 (.fad 2 (.t 3)),rg 57 (.load none (.t 56)),mv 58 5,rg 59 (.iad 1 (.t 57) (.t 58)),rg 60 (.load none (.t 59))]
 [rg 61 (.call 279 [(.t 55),(.t 60)]),rg 62 (.un .not (.t 61))])
 (.cond (.t 62)
 (.seq
 (.reg [rg 4 (.mov (.c (.b false)))])
 (.pre (.norm false [4]) .ret))
 .skip)))
 (.reg [mv 49 5,rg 50 (.bin .add (.t 49) (.c (.i .i64 1))),mv 5 50])))
 (.norm false [2,3,5]))
def b599:AX:=
 (.seq
 (.reg [rg 2 (.xop (.box 5) [(.t 0)]),rg 3 (.xop (.box 5) [(.t 1)]),rg 4 (.mov (.c (.b false)))])
 (.seq
 (.seq
 (.reg [rg 6 (.fad 0 (.t 2)),rg 7 (.load none (.t 6)),rg 8 (.fad 0 (.t 3)),rg 9 (.load none (.t 8)),rg 10 (.bin .neq (.t 7) (.t 9)),mv 11 10,gd 12 11 false (.fad 2 (.t 2)),gd 13 11 false (.load none (.t 12)),gd 14 11 false (.len (.t 13)),gd 15 11 false (.fad 2 (.t 3)),gd 16 11 false (.load none (.t 15)),gd 17 11 false (.len (.t 16)),gd 18 11 false (.bin .neq (.t 14) (.t 17)),rg 19 (.pick (.t 11) (.c (.b true)) (.t 18)),mv 20 19,gd 21 20 false (.fad 3 (.t 2)),gd 22 20 false (.load none (.t 21)),gd 23 20 false (.fad 3 (.t 3)),gd 24 20 false (.load none (.t 23)),gd 25 20 false (.call 279 [(.t 22),(.t 24)]),gd 26 20 false (.un .not (.t 25)),rg 27 (.pick (.t 20) (.c (.b true)) (.t 26)),mv 28 27,gd 29 28 false (.fad 1 (.t 2)),gd 30 28 false (.load none (.t 29)),gd 31 28 false (.fad 1 (.t 3)),gd 32 28 false (.load none (.t 31)),gd 33 28 false (.call 279 [(.t 30),(.t 32)]),gd 34 28 false (.un .not (.t 33)),rg 35 (.pick (.t 28) (.c (.b true)) (.t 34)),mv 36 35,gd 37 36 false (.fad 4 (.t 2)),gd 38 36 false (.load none (.t 37)),gd 39 36 false (.fad 4 (.t 3)),gd 40 36 false (.load none (.t 39)),gd 41 36 false (.call 279 [(.t 38),(.t 40)]),gd 42 36 false (.un .not (.t 41)),rg 43 (.pick (.t 36) (.c (.b true)) (.t 42))])
 (.cond (.t 43)
 (.seq
 (.reg [rg 4 (.mov (.c (.b false)))])
 (.pre (.norm false [4]) .ret))
 .skip))
 (.seq
 (.seq
 (.reg [rg 5 (.mov (.c (.i .i64 0)))])
 (.lp 0 (.norm false [2,3,5]) l599_0 (.norm false [])))
 (.seq
 (.reg [rg 4 (.mov (.c (.b true)))])
 (.pre (.norm false [4]) .ret)))))
def row599:AFx:=⟨2,63,[.t 4],b599,none,false⟩
class Zfa (T:Tbl):Prop where
 h599:T 599=some row599
section
variable{T:Tbl}[Zfa T]{d:Option Nat}{st:St}{xs:List AV}{ps:List Opd}{e:Env}{h:Heap}{ol:List Heap}
@[simp] theorem y599:opD (orc T) T (.call 599 ps) e h ol=dP T 599 false ps e:=zao Zfa.h599
end
end Go.Ab
end
section
namespace Go.Ab
class Zfh (T:Tbl):Prop where
end Go.Ab
end
section
namespace Go.Ab
def l43_0:AX:=
 (.note
 (.seq
 (.seq
 (.reg [mv 6 3,rg 7 (.bin .gtr (.t 6) (.c (.i .i64 0))),mv 8 7,gd 9 8 true (.mov (.t 0)),gd 10 8 true (.mov (.t 3)),gd 11 8 true (.bin .sub (.t 10) (.c (.i .i64 1))),gd 12 8 true (.iad 1 (.t 9) (.t 11)),gd 13 8 true (.load none (.t 12)),gd 14 8 true (.bin .eql (.t 13) (.c (u32 0))),rg 15 (.pick (.t 8) (.t 14) (.c (.b false)))])
 (.cond (.t 15)
 .skip
 (.exit 0)))
 (.block 1
 (.reg [mv 16 3,rg 17 (.bin .sub (.t 16) (.c (.i .i64 1))),mv 3 17])))
 (.norm false [0,3]))
def b43:AX:=
 (.seq
 (.reg [rg 2 (.mov (.c (.sl [] .nl)))])
 (.seq
 (.reg [mv 4 0,rg 5 (.len (.t 4)),mv 3 5])
 (.seq
 (.lp 0 (.norm false [0,3]) l43_0 (.norm false [0,3]))
 (.seq
 (.reg [rg 18 (.bsl 1 [(u32 0)] 0 []),mv 19 0,mv 20 3,rg 21 (.slc 1 (.t 19) none (some (.t 20)) none),rg 22 (.app 1 (.t 18) (.t 21)),mv 2 22])
 (.pre (.norm false [2]) .ret)))))
def b84:AX:=
 (.seq
 (.reg [rg 4 (.mov (.c (u32 0)))])
 (.seq
 (.seq
 (.reg [mv 5 1,mv 6 0,rg 7 (.len (.t 6)),rg 8 (.bin .lss (.t 5) (.t 7))])
 (.cond (.t 8)
 (.seq
 (.reg [mv 9 0,mv 10 1,rg 11 (.iad 1 (.t 9) (.t 10)),rg 12 (.load none (.t 11)),mv 4 12])
 (.pre (.norm false [4]) .ret))
 .skip))
 (.seq
 (.reg [rg 4 (.mov (.c (u32 0)))])
 (.pre (.norm false [4]) .ret))))
def l52_0:AX:=
 (.note
 (.seq
 (.seq
 (.reg [mv 14 5,rg 15 (.bin .geq (.t 14) (.c (.i .i64 0)))])
 (.cond (.t 15)
 .skip
 (.exit 0)))
 (.seq
 (.block 1
 (.seq
 (.reg [mv 18 0,mv 19 5,rg 20 (.call 84 [(.t 18),(.t 19)]),mv 6 20])
 (.seq
 (.reg [mv 21 1,mv 22 5,rg 23 (.call 84 [(.t 21),(.t 22)]),mv 7 23])
 (.seq
 (.seq
 (.reg [mv 24 6,mv 25 7,rg 26 (.bin .lss (.t 24) (.t 25))])
 (.cond (.t 26)
 (.seq
 (.reg [rg 4 (.mov (.c (.i .i64 (-1))))])
 (.pre (.norm false [4]) .ret))
 .skip))
 (.seq
 (.reg [mv 27 6,mv 28 7,rg 29 (.bin .gtr (.t 27) (.t 28))])
 (.cond (.t 29)
 (.seq
 (.reg [rg 4 (.mov (.c (.i .i64 1)))])
 (.pre (.norm false [4]) .ret))
 .skip))))))
 (.reg [mv 16 5,rg 17 (.bin .sub (.t 16) (.c (.i .i64 1))),mv 5 17])))
 (.norm false [0,1,5]))
def b52:AX:=
 (.seq
 (.reg [rg 4 (.mov (.c (.i .i64 0)))])
 (.seq
 (.seq
 (.reg [mv 8 0,rg 9 (.len (.t 8)),mv 10 1,rg 11 (.len (.t 10)),rg 12 (.mm true [(.t 9),(.t 11)]),rg 13 (.bin .sub (.t 12) (.c (.i .i64 1))),mv 5 13])
 (.lp 0 (.norm false [0,1,5]) l52_0 (.norm false [])))
 (.seq
 (.reg [rg 4 (.mov (.c (.i .i64 0)))])
 (.pre (.norm false [4]) .ret))))
def l54_0:AX:=
 (.note
 (.seq
 (.seq
 (.reg [mv 11 5,mv 12 0,rg 13 (.len (.t 12)),rg 14 (.bin .lss (.t 11) (.t 13))])
 (.cond (.t 14)
 .skip
 (.exit 0)))
 (.seq
 (.block 1
 (.seq
 (.drawT [mv 17 0,mv 18 5,rg 19 (.iad 1 (.t 17) (.t 18)),rg 20 (.load none (.t 19)),mv 21 1,mv 22 5,rg 23 (.iad 1 (.t 21) (.t 22)),rg 24 (.load none (.t 23))]
 [rg 25 (.bin .neq (.t 20) (.t 24))])
 (.cond (.t 25)
 (.seq
 (.reg [rg 4 (.mov (.c (.b false)))])
 (.pre (.norm false [4]) .ret))
 .skip)))
 (.reg [mv 15 5,rg 16 (.bin .add (.t 15) (.c (.i .i64 1))),mv 5 16])))
 (.norm false [0,1,5]))
def b54:AX:=
 (.seq
 (.reg [rg 4 (.mov (.c (.b false)))])
 (.seq
 (.seq
 (.reg [mv 6 0,rg 7 (.len (.t 6)),mv 8 1,rg 9 (.len (.t 8)),rg 10 (.bin .neq (.t 7) (.t 9))])
 (.cond (.t 10)
 (.seq
 (.reg [rg 4 (.mov (.c (.b false)))])
 (.pre (.norm false [4]) .ret))
 .skip))
 (.seq
 (.seq
 (.reg [rg 5 (.mov (.c (.i .i64 0)))])
 (.lp 0 (.norm false [0,1,5]) l54_0 (.norm false [])))
 (.seq
 (.reg [rg 4 (.mov (.c (.b true)))])
 (.pre (.norm false [4]) .ret)))))
def l58_0:AX:=
 (.note
 (.seq
 (.seq
 (.reg [mv 17 8,mv 18 5,rg 19 (.bin .lss (.t 17) (.t 18))])
 (.cond (.t 19)
 .skip
 (.exit 0)))
 (.seq
 (.block 1
 (.seq
 (.reg [mv 22 7,mv 23 0,mv 24 8,rg 25 (.call 84 [(.t 23),(.t 24)]),rg 26 (.conv .u64 (.t 25)),mv 27 1,mv 28 8,rg 29 (.call 84 [(.t 27),(.t 28)]),rg 30 (.conv .u64 (.t 29)),rg 31 (.bin .add (.t 26) (.t 30)),rg 32 (.bin .add (.t 22) (.t 31)),mv 7 32])
 (.seq
 (.reg [mv 33 6,mv 34 8,mv 35 7,rg 36 (.bin .rem (.t 35) (.c (u64 4294967296))),rg 37 (.conv .u32 (.t 36)),rg 38 (.iad 1 (.t 33) (.t 34)),so (.store 1 (.t 38) (.t 37))])
 (.reg [mv 39 7,rg 40 (.bin .quo (.t 39) (.c (u64 4294967296))),mv 7 40]))))
 (.reg [mv 20 8,rg 21 (.bin .add (.t 20) (.c (.i .i64 1))),mv 8 21])))
 (.norm false [0,1,5,6,7,8]))
def b58:AX:=
 (.seq
 (.reg [rg 4 (.mov (.c (.sl [] .nl)))])
 (.seq
 (.reg [mv 9 0,rg 10 (.len (.t 9)),mv 11 1,rg 12 (.len (.t 11)),rg 13 (.mm true [(.t 10),(.t 12)]),rg 14 (.bin .add (.t 13) (.c (.i .i64 1))),mv 5 14])
 (.seq
 (.reg [mv 15 5,rg 16 (.mks 1 [(u32 0)] (.t 15) (.t 15)),mv 6 16])
 (.seq
 (.reg [rg 7 (.mov (.c (u64 0)))])
 (.seq
 (.seq
 (.reg [rg 8 (.mov (.c (.i .i64 0)))])
 (.lp 0 (.norm false [0,1,5,6,7,8]) l58_0 (.norm false [6])))
 (.seq
 (.reg [mv 41 6,rg 42 (.call 43 [(.t 41)]),mv 4 42])
 (.pre (.norm false [4]) .ret)))))))
def l59_0:AX:=
 (.note
 (.seq
 (.seq
 (.reg [mv 18 8,mv 19 5,rg 20 (.bin .lss (.t 18) (.t 19))])
 (.cond (.t 20)
 .skip
 (.exit 0)))
 (.seq
 (.block 1
 (.seq
 (.reg [mv 23 0,mv 24 8,rg 25 (.call 84 [(.t 23),(.t 24)]),rg 26 (.conv .u64 (.t 25)),mv 9 26])
 (.seq
 (.reg [mv 27 1,mv 28 8,rg 29 (.call 84 [(.t 27),(.t 28)]),rg 30 (.conv .u64 (.t 29)),mv 31 7,rg 32 (.bin .add (.t 30) (.t 31)),mv 10 32])
 (.seq
 (.reg [rg 7 (.mov (.c (u64 0)))])
 (.seq
 (.seq
 (.reg [mv 33 9,mv 34 10,rg 35 (.bin .lss (.t 33) (.t 34))])
 (.cond (.t 35)
 (.seq
 (.reg [mv 36 9,rg 37 (.bin .add (.t 36) (.c (u64 4294967296))),mv 9 37])
 (.reg [rg 7 (.mov (.c (u64 1)))]))
 .skip))
 (.reg [mv 38 6,mv 39 8,mv 40 9,mv 41 10,rg 42 (.bin .sub (.t 40) (.t 41)),rg 43 (.conv .u32 (.t 42)),rg 44 (.iad 1 (.t 38) (.t 39)),so (.store 1 (.t 44) (.t 43))]))))))
 (.reg [mv 21 8,rg 22 (.bin .add (.t 21) (.c (.i .i64 1))),mv 8 22])))
 (.norm false [0,1,5,6,7,8]))
def b59:AX:=
 (.seq
 (.reg [rg 4 (.mov (.c (.sl [] .nl)))])
 (.seq
 (.reg [mv 11 0,rg 12 (.len (.t 11)),mv 13 1,rg 14 (.len (.t 13)),rg 15 (.mm true [(.t 12),(.t 14)]),mv 5 15])
 (.seq
 (.reg [mv 16 5,rg 17 (.mks 1 [(u32 0)] (.t 16) (.t 16)),mv 6 17])
 (.seq
 (.reg [rg 7 (.mov (.c (u64 0)))])
 (.seq
 (.seq
 (.reg [rg 8 (.mov (.c (.i .i64 0)))])
 (.lp 0 (.norm false [0,1,5,6,7,8]) l59_0 (.norm false [6])))
 (.seq
 (.reg [mv 45 6,rg 46 (.call 43 [(.t 45)]),mv 4 46])
 (.pre (.norm false [4]) .ret)))))))
def row43:AFx:=⟨1,23,[.t 2],b43,none,false⟩
def row84:AFx:=⟨2,13,[.t 4],b84,none,false⟩
def row52:AFx:=⟨2,30,[.t 4],b52,none,false⟩
def row54:AFx:=⟨2,26,[.t 4],b54,none,false⟩
def row58:AFx:=⟨2,43,[.t 4],b58,none,false⟩
def row59:AFx:=⟨2,47,[.t 4],b59,none,false⟩
class Z5 (T:Tbl):Prop where
 h43:T 43=some row43
 h84:T 84=some row84
 h52:T 52=some row52
 h54:T 54=some row54
 h58:T 58=some row58
 h59:T 59=some row59
section
variable{T:Tbl}[Z5 T]{d:Option Nat}{st:St}
@[simp] theorem x43(xs:List AV):Zd (orc T) T 43 xs d st=cP T 43 false xs d st:=zaa Z5.h43
@[simp] theorem x84(xs:List AV):Zd (orc T) T 84 xs d st=cP T 84 false xs d st:=zaa Z5.h84
@[simp] theorem x52(xs:List AV):Zd (orc T) T 52 xs d st=cP T 52 false xs d st:=zaa Z5.h52
@[simp] theorem x54(xs:List AV):Zd (orc T) T 54 xs d st=cP T 54 false xs d st:=zaa Z5.h54
@[simp] theorem x58(xs:List AV):Zd (orc T) T 58 xs d st=cP T 58 false xs d st:=zaa Z5.h58
@[simp] theorem y58{e:Env}{h:Heap}{older:List Heap}(args:List Opd):opD (orc T) T (.call 58 args) e h older=dR (Zb T 58 ((args.map (ev e.get)).map (wkIf false))) (args.map (ev e.get)):=zao Z5.h58
@[simp] theorem y59{e:Env}{h:Heap}{older:List Heap}(args:List Opd):opD (orc T) T (.call 59 args) e h older=dR (Zb T 59 ((args.map (ev e.get)).map (wkIf false))) (args.map (ev e.get)):=zao Z5.h59
end
end Go.Ab
end
section
namespace Go.Ab
section
variable{T:Tbl}
theorem zd0(a:List UInt32)(hl:a.length<9223372036854775808){n:Nat}(hn:n≤a.length)(h0:∀(i:Nat) (x:UInt32),n≤i→a[i]? = some x→x.toNat=0)(h1:∀x:UInt32,0<n→a[n-1]? = some x→x.toNat≠0) :
  ∀m:Nat,(n≤m∧m≤a.length)→Zn T 0 0 (.norm false [0,3]) l43_0 ⟨[(0,.sl (Za a) .an),(3,.i .i64 (m:Int))],[],2⟩=some (.n,⟨[(0,.sl (Za a) .an),(3,.i .i64 (n:Int))],[],2⟩):=by
 refine zan (fun m:Nat=>⟨[(0,.sl (Za a) .an),(3,.i .i64 (m:Int))],[],2⟩) _ (fun m=>m) _ ?_
 rintro m ⟨hm,hma⟩
 by_cases h2:m=0
 ·right;subst h2;have:n=0:=by omega
  subst this;constructor<;>simp[l43_0]
 ·have hw:IntKind.wrap .i64 ((m:Int)-1)=((m-1:Nat):Int):=by rw[zab _ (by omega)];omega
  have hm1:m-1<a.length:=by omega
  have hg:a[m-1]? = some (a[m-1]'hm1):=Ya hm1;have hpos:0<m:=by omega
  by_cases h3:m=n
  ·right;subst h3;have hx:=h1 _ hpos hg;constructor<;>simp[l43_0,hpos,hw,hm1,hx]
  ·left;refine⟨m-1,⟨by omega,by omega⟩,by omega,?_,rfl⟩;have hx:=h0 (m-1) _ (by omega) hg;simp[l43_0,hpos,hw,hm1,hx]
end
section
variable{T:Tbl}[Z5 T]
theorem zbi(a:List UInt32)(hl:a.length≤1000000):Zb T 43 [.sl (Za a) .an]=some (.sl (Za (ofN (val a))) .an):=by
 obtain⟨n,h1,h2,h3,h4⟩:=zfr a;have hr:=zd0 (T:=T) a (by omega) h1 h3 h4 a.length ⟨h1,Yf _⟩;have hlen:(ofN (val a)).length=n:=by grind
 have hb:n≤4294967296:=by omega
 rw[zac Z5.h43 rfl,b43];simp[hr,h1,h2,hlen,hb]
 grind
def atW(a:List UInt32)(i:Nat):Nat:=(a[i]?.map UInt32.toNat).getD 0
theorem zhy(a:List UInt32)(i:Nat):atW a i<4294967296:=by
 grind[atW,zaj]
theorem zbc(a:List UInt32)(i:Nat):val (a.take (i+1))=val (a.take i)+4294967296^i*atW a i:=by
 grind[atW,zaf,zbd]
theorem zct(a:List UInt32)(i:Nat)(_hl:a.length≤1000000):Zb T 84 [.sl (Za a) .an,.i .i64 i]=some (u32 (atW a i)):=by
 rw[zac Z5.h84 rfl,b84];unfold atW;by_cases h:i<a.length
 ·simp[h]
 ·simp[h]
theorem ziq(a b:List UInt32)(hl:a.length≤1000000)(hl2:b.length≤1000000):∀m:Nat,m≤1000000 →
  Zn T 0 0 (.norm false []) l52_0 ⟨[(0,.sl (Za a) .an),(1,.sl (Za b) .an),(5,.i .i64 ((m:Int)-1))],[],2⟩ =
   if val (a.take m)<val (b.take m) then some (.r,⟨[(4,.i .i64 (-1))],[],2⟩) else if val (b.take m)<val (a.take m) then some (.r,⟨[(4,.i .i64 1)],[],2⟩) else some (.n,⟨[],[],2⟩):=by
 refine zan (fun m:Nat=>⟨[(0,.sl (Za a) .an),(1,.sl (Za b) .an),(5,.i .i64 ((m:Int)-1))],[],2⟩) _ (fun m=>m) _ ?_;intro m hm;cases m with
 | zero=>
  right;constructor<;>simp[l52_0]
 | succ i=>
  have hw:IntKind.wrap .i64 ((i:Int)-1)=(i:Int)-1:=zab _ (by omega);have ca:=zct (T:=T) a i hl;have cb:=zct (T:=T) b i hl2;have e1:=zbc a i;have e2:=zbc b i;have b1:=zax (a.take i);have b2:=zax (b.take i);have p1:4294967296^(a.take i).length≤4294967296^i:=Ym (by decide) (by grind);have p2:4294967296^(b.take i).length≤4294967296^i:=Ym (by decide) (by grind);rcases Ybr (atW a i) (atW b i) with h1 | h1 | h1
  ·right;have h3:=Yag (4294967296^i) (show atW a i+1≤atW b i from h1);rw[Yan]at h3;have h2:val (a.take (i+1))<val (b.take (i+1)):=by omega
   constructor<;>simp[l52_0,ca,cb,h1,h2]
  ·left;refine⟨i,by omega,Y4 i,?_,?_⟩
   ·simp[l52_0,ca,cb,h1,hw]
   grind
  ·right;have h3:=Yag (4294967296^i) (show atW b i+1≤atW a i from h1);rw[Yan]at h3;have h2:val (b.take (i+1))<val (a.take (i+1)):=by omega
   have h4:¬ val (a.take (i+1))<val (b.take (i+1)):=by omega
   have h5:¬ atW a i<atW b i:=by omega
   constructor<;>simp[l52_0,ca,cb,h1,h2,h4,h5]
theorem zd1(a b:List UInt32)(ha:a.length≤1000000)(hb:b.length≤1000000):Zb T 52 [.sl (Za a) .an,.sl (Za b) .an]=some (.i .i64 (Zde (val a) (val b))):=by
 have hc:=ziq (T:=T) a b ha hb (max a.length b.length) (by omega);rw[Yb (by omega),Yb (by omega)]at hc;have e:(if (a.length:Int)<b.length then (b.length:Int) else a.length)=((max a.length b.length:Nat):Int):=by omega
 have hw:IntKind.wrap .i64 (((max a.length b.length:Nat):Int)-1)=((max a.length b.length:Nat):Int)-1:=zab _ (by omega);rw[zac Z5.h52 rfl,b52];simp at e hw hc;simp[e,hw,hc,Zde]
 grind
end
section
variable{T:Tbl}
theorem zhz(a b:List UInt32)(hab:a.length=b.length)(hl:a.length≤1000000):∀i:Nat,i≤a.length →
  Zn T 0 0 (.norm false []) l54_0 ⟨[(0,.sl (Za a) .an),(1,.sl (Za b) .an),(5,.i .i64 i)],[],2⟩=if a.drop i=b.drop i then some (.n,⟨[],[],2⟩) else some (.r,⟨[(4,.b false)],[],2⟩):=by
 refine zan (fun i:Nat=>⟨[(0,.sl (Za a) .an),(1,.sl (Za b) .an),(5,.i .i64 i)],[],2⟩) _ (fun i=>a.length-i) _ ?_;intro i hi;by_cases h0:i<a.length
 ·have h1:i<b.length:=by omega
  have hw:IntKind.wrap .i64 ((i:Int)+1)=((i+1:Nat):Int):=zab _ (by omega);have hda:a.drop i=a[i]'h0::a.drop (i+1):=Yk h0;have hdb:b.drop i=b[i]'h1::b.drop (i+1):=Yk h1;by_cases h2:a[i]'h0=b[i]'h1
  ·left;refine⟨i+1,h0,by omega,?_,?_⟩
   ·simp[l54_0,h0,h1,h2,hw]
   grind
  ·right;have h3:¬ (a[i]'h0).toNat=(b[i]'h1).toNat:=fun h=>h2 (Yef.1 h);have h4:¬ a.drop i=b.drop i:=by grind
   constructor<;>simp[l54_0,h0,h1,h3,h4]
 ·right;have h4:a.drop i=b.drop i:=by grind
  have h5:¬ (i:Int)<a.length:=by omega
  constructor<;>simp[l54_0,h4,h5]
end
section
variable{T:Tbl}[Z5 T]
theorem zjd(a b:List UInt32)(ha:a.length≤1000000):Zb T 54 [.sl (Za a) .an,.sl (Za b) .an]=some (.b (decide (a=b))):=by
 rw[zac Z5.h54 rfl,b54];by_cases h:a.length=b.length
 ·have hc:=zhz (T:=T) a b h ha 0 (Yl _);simp at hc;by_cases h3:a=b
  ·subst h3;simp[hc]
  ·simp[h,hc,h3]
 ·have h3:¬ a=b:=fun he=>h (by rw[he]);have h2:¬ (a.length:Int)=b.length:=by omega
  simp[h2,h3]
def Zh5(a b:List UInt32)(n:Nat)(y:Nat×Nat×List UInt32):St:=
 ⟨[(0,.sl (Za a) .an),(1,.sl (Za b) .an),(5,.i .i64 n),(6,.bs (.loc 16) 1 1 0 n),(7,u64 y.2.1),(8,.i .i64 y.1)],[(.loc 16,⟨1,.own,1,Za y.2.2⟩)],3⟩
theorem zir(a b:List UInt32)(n:Nat)(ha:a.length≤1000000)(hb:b.length≤1000000)(hn:n≤1000001):∀y:Nat×Nat×List UInt32,
  (y.1≤n∧y.2.1≤1∧y.2.2.length=n∧val (y.2.2.take y.1)+4294967296^y.1*y.2.1=val (a.take y.1)+val (b.take y.1)) →
  ∃r,(∃(c:Nat) (out:List UInt32),r=(Ex.n,(⟨[(6,.bs (.loc 16) 1 1 0 n)],[(.loc 16,⟨1,.own,1,Za out⟩)],3⟩:St)) ∧
   out.length=n∧c≤1∧val out+4294967296^n*c=val (a.take n)+val (b.take n))∧Zn T 0 0 (.norm false [6]) l58_0 (Zh5 a b n y)=some r:=by
 refine zaq _ _ (fun y=>n-y.1) _ ?_
 rintro⟨i,c,out⟩ ⟨hi,hc,ho,hv⟩
 simp only at hi hc ho hv;by_cases h0:i<n
 ·left;have hoi:i<out.length:=by omega
  have hog:out[i]? = some (out[i]'hoi):=Ya hoi;have hw:IntKind.wrap .i64 ((i:Int)+1)=((i+1:Nat):Int):=zab _ (by omega);have ca:=zct (T:=T) a i ha;have cb:=zct (T:=T) b i hb;have la:=zhy a i;have lb:=zhy b i;have e1:=zbc a i;have e2:=zbc b i;have m1:atW a i%18446744073709551616=atW a i:=Yi (by omega);have m2:atW b i%18446744073709551616=atW b i:=Yi (by omega);have m3:(c+(atW a i+atW b i))%18446744073709551616=c+(atW a i+atW b i):=Yi (by omega);have m4:(c+(atW a i+atW b i))/4294967296%18446744073709551616=(c+(atW a i+atW b i))/4294967296:=Yi (by omega);refine⟨(i+1,(c+(atW a i+atW b i))/4294967296,out.set i (w32 (c+(atW a i+atW b i)))),⟨h0,by grind,by grind,?_⟩,by omega,?_⟩
  ·grind[zbn,zbv,Nat.div_add_mod]
  ·simp[l58_0,Zh5,h0,ca,cb,m1,m2,m3,m4,hog,hw]
 ·right;have:i=n:=by omega
  subst this;rw[Yb (by omega)]at hv;refine⟨_,⟨c,out,rfl,ho,hc,hv⟩,?_,?_⟩<;>simp[l58_0,Zh5]
theorem zus{p q r x y z c:Nat}(h1:x+p*4294967296*c=y+z)(h2:c≤1)(h3:y<q)(h4:z<r)(h5:q≤p)(h6:r≤p):x=y+z:=by
 rcases(show c=0∨c=1 by omega) with h | h
 all_goals grind
theorem zfm(a b:List UInt32)(ha:a.length≤100000)(hb:b.length≤100000):Zb T 58 [.sl (Za a) .an,.sl (Za b) .an]=some (.sl (Za (ofN (val a+val b))) .an):=by
 obtain⟨n,hn⟩:∃n,n=max a.length b.length:=⟨_,rfl⟩;obtain⟨_,⟨c,out,rfl,ho,hc,hv⟩,hr⟩:=zir (T:=T) a b (n+1) (by omega) (by omega) (by omega) (0,0,List.replicate (n+1) 0) ⟨Yl _,Yl _,by simp,by simp⟩;unfold Zh5 at hr;simp at hr;rw[Yb (by omega),Yb (by omega)]at hv;have e:(if a.length<b.length then (b.length:Int) else a.length)=(n:Int):=by omega
 have hw:IntKind.wrap .i64 ((n:Int)+1)=((n:Int)+1):=zab _ (by omega);have hn1:(0:Int)≤(n:Int)+1:=by omega
 have hn2:(n:Int)+1≤4294967296:=by omega
 have hn3:((n:Int)+1).toNat=n+1:=by omega
 have l1:=zax a;have l2:=zax b;have p1:4294967296^a.length≤4294967296^n:=Ym (by decide) (by omega);have p2:4294967296^b.length≤4294967296^n:=Ym (by decide) (by omega);have hval:val out=val a+val b:=by
  exact zus hv hc l1 l2 p1 p2
 have hnm:=zbi (T:=T) out (by omega);rw[hval]at hnm;have htk:List.take (n+1) out=out:=Yb (by omega);rw[zac Z5.h58 rfl,b58];simp[e,hw,hn1,hn2,hn3,hr,ho,htk,hnm]
def Zg0(a b:List UInt32)(n:Nat)(y:Nat×Nat×List UInt32):St:=
 ⟨[(0,.sl (Za a) .an),(1,.sl (Za b) .an),(5,.i .i64 n),(6,.bs (.loc 17) 1 1 0 n),(7,u64 y.2.1),(8,.i .i64 y.1)],[(.loc 17,⟨1,.own,1,Za y.2.2⟩)],3⟩
theorem zis(a b:List UInt32)(n:Nat)(ha:a.length≤1000000)(hb:b.length≤1000000)(hn:n≤1000001):∀y:Nat×Nat×List UInt32,
  (y.1≤n∧y.2.1≤1∧y.2.2.length=n∧val (y.2.2.take y.1)+val (b.take y.1)=val (a.take y.1)+4294967296^y.1*y.2.1) →
  ∃r,(∃(c:Nat) (out:List UInt32),r=(Ex.n,(⟨[(6,.bs (.loc 17) 1 1 0 n)],[(.loc 17,⟨1,.own,1,Za out⟩)],3⟩:St)) ∧
   out.length=n∧c≤1∧val out+val (b.take n)=val (a.take n)+4294967296^n*c)∧Zn T 0 0 (.norm false [6]) l59_0 (Zg0 a b n y)=some r:=by
 refine zaq _ _ (fun y=>n-y.1) _ ?_
 rintro⟨i,c,out⟩ ⟨hi,hc,ho,hv⟩
 simp only at hi hc ho hv;by_cases h0:i<n
 ·left;have hoi:i<out.length:=by omega
  have hog:out[i]? = some (out[i]'hoi):=Ya hoi;have hw:IntKind.wrap .i64 ((i:Int)+1)=((i+1:Nat):Int):=zab _ (by omega);have ca:=zct (T:=T) a i ha;have cb:=zct (T:=T) b i hb;have la:=zhy a i;have lb:=zhy b i;have e1:=zbc a i;have e2:=zbc b i;have m1:atW a i%18446744073709551616=atW a i:=Yi (by omega);have m2:atW b i%18446744073709551616=atW b i:=Yi (by omega);have m3:(atW b i+c)%18446744073709551616=atW b i+c:=Yi (by omega);have m4:(atW a i+4294967296)%18446744073709551616=atW a i+4294967296:=Yi (by omega);have fin:∀s d:Nat,d≤1→s<4294967296→s+(atW b i+c)=atW a i+4294967296*d →
    val ((out.set i (w32 s)).take (i+1))+val (b.take (i+1))=val (a.take (i+1))+4294967296^(i+1)*d:=by
   grind[zbn,zah]
  by_cases h1:atW a i<atW b i+c
  ·have hs:Zdq (atW a i+4294967296) (atW b i+c)=atW a i+4294967296-(atW b i+c):=zea (by omega) (by omega);refine⟨(i+1,1,out.set i (w32 (atW a i+4294967296-(atW b i+c)))),⟨h0,Yf _,by grind,fin _ 1 (by omega) (by omega) (by omega)⟩,by omega,?_⟩;simp[l59_0,Zg0,h0,ca,cb,m1,m2,m3,m4,h1,hs,hog,hw]
  ·have hs:Zdq (atW a i) (atW b i+c)=atW a i-(atW b i+c):=zea (by omega) (by omega);refine⟨(i+1,0,out.set i (w32 (atW a i-(atW b i+c)))),⟨h0,Yl _,by grind,fin _ 0 (by omega) (by omega) (by omega)⟩,by omega,?_⟩;simp[l59_0,Zg0,h0,ca,cb,m1,m2,m3,h1,hs,hog,hw]
 ·right;have:i=n:=by omega
  subst this;rw[Yb (by omega)]at hv;refine⟨_,⟨c,out,rfl,ho,hc,hv⟩,?_,?_⟩<;>simp[l59_0,Zg0]
theorem zmk(a b:List UInt32)(ha:a.length≤100000)(hb:b.length≤100000)(hab:val b≤val a):Zb T 59 [.sl (Za a) .an,.sl (Za b) .an]=some (.sl (Za (ofN (val a-val b))) .an):=by
 obtain⟨n,hn⟩:∃n,n=max a.length b.length:=⟨_,rfl⟩;obtain⟨_,⟨c,out,rfl,ho,hc,hv⟩,hr⟩:=zis (T:=T) a b n (by omega) (by omega) (by omega) (0,0,List.replicate n 0) ⟨Yl _,Yl _,by simp,by simp⟩;unfold Zg0 at hr;simp at hr;rw[Yb (by omega),Yb (by omega)]at hv;have e:(if a.length<b.length then (b.length:Int) else a.length)=(n:Int):=by omega
 have hn2:(n:Int)≤4294967296:=by omega
 have hlo:=zax out;have hval:val out=val a-val b:=by
  rcases Yay c with h1 | h1
  all_goals grind
 have hnm:=zbi (T:=T) out (by omega);rw[hval]at hnm;have htk:List.take n out=out:=Yb (by omega);rw[zac Z5.h59 rfl,b59];simp[e,hn2,hr,ho,htk,hnm]
end
end Go.Ab
end
section
namespace Go.Ab
def l61_0:AX:=
 (.note
 (.seq
 (.seq
 (.reg [mv 21 8,mv 22 1,rg 23 (.len (.t 22)),rg 24 (.bin .lss (.t 21) (.t 23))])
 (.cond (.t 24)
 .skip
 (.exit 2)))
 (.seq
 (.block 3
 (.seq
 (.drawT [mv 27 7,mv 28 0,mv 29 6,rg 30 (.iad 1 (.t 28) (.t 29)),rg 31 (.load none (.t 30)),rg 32 (.conv .u64 (.t 31)),mv 33 1,mv 34 8,rg 35 (.iad 1 (.t 33) (.t 34)),rg 36 (.load none (.t 35)),rg 37 (.conv .u64 (.t 36)),rg 38 (.bin .mul (.t 32) (.t 37)),mv 39 5,mv 40 6,mv 41 8,rg 42 (.bin .add (.t 40) (.t 41)),rg 43 (.iad 1 (.t 39) (.t 42)),rg 44 (.load none (.t 43)),rg 45 (.conv .u64 (.t 44)),rg 46 (.bin .add (.t 38) (.t 45))]
 [rg 47 (.bin .add (.t 27) (.t 46)),mv 7 47])
 (.seq
 (.reg [mv 48 5,mv 49 6,mv 50 8,rg 51 (.bin .add (.t 49) (.t 50)),mv 52 7,rg 53 (.bin .rem (.t 52) (.c (u64 4294967296))),rg 54 (.conv .u32 (.t 53)),rg 55 (.iad 1 (.t 48) (.t 51)),so (.store 1 (.t 55) (.t 54))])
 (.reg [mv 56 7,rg 57 (.bin .quo (.t 56) (.c (u64 4294967296))),mv 7 57]))))
 (.reg [mv 25 8,rg 26 (.bin .add (.t 25) (.c (.i .i64 1))),mv 8 26])))
 (.norm false [0,1,5,6,7,8]))
def l61_1:AX:=
 (.note
 (.seq
 (.seq
 (.reg [mv 15 6,mv 16 0,rg 17 (.len (.t 16)),rg 18 (.bin .lss (.t 15) (.t 17))])
 (.cond (.t 18)
 .skip
 (.exit 0)))
 (.seq
 (.block 1
 (.seq
 (.reg [rg 7 (.mov (.c (u64 0)))])
 (.seq
 (.seq
 (.reg [rg 8 (.mov (.c (.i .i64 0)))])
 (.lp 2 (.norm false [0,1,5,6,7,8]) l61_0 (.norm false [0,1,5,6,7])))
 (.reg [mv 58 5,mv 59 6,mv 60 1,rg 61 (.len (.t 60)),rg 62 (.bin .add (.t 59) (.t 61)),mv 63 7,rg 64 (.conv .u32 (.t 63)),rg 65 (.iad 1 (.t 58) (.t 62)),so (.store 1 (.t 65) (.t 64))]))))
 (.reg [mv 19 6,rg 20 (.bin .add (.t 19) (.c (.i .i64 1))),mv 6 20])))
 (.norm false [0,1,5,6]))
def b61:AX:=
 (.seq
 (.reg [rg 4 (.mov (.c (.sl [] .nl)))])
 (.seq
 (.reg [mv 9 0,rg 10 (.len (.t 9)),mv 11 1,rg 12 (.len (.t 11)),rg 13 (.bin .add (.t 10) (.t 12)),rg 14 (.mks 1 [(u32 0)] (.t 13) (.t 13)),mv 5 14])
 (.seq
 (.seq
 (.reg [rg 6 (.mov (.c (.i .i64 0)))])
 (.lp 0 (.norm false [0,1,5,6]) l61_1 (.norm false [5])))
 (.seq
 (.reg [mv 66 5,rg 67 (.call 43 [(.t 66)]),mv 4 67])
 (.pre (.norm false [4]) .ret)))))
def row61:AFx:=⟨2,68,[.t 4],b61,none,false⟩
class Zah (T:Tbl):Prop extends Z5 T where
 h61:T 61=some row61
section
variable{T:Tbl}[Zah T]{d:Option Nat}{st:St}
@[simp] theorem x61(xs:List AV):Zd (orc T) T 61 xs d st=cP T 61 false xs d st:=zaa Zah.h61
@[simp] theorem y61{e:Env}{h:Heap}{older:List Heap}(args:List Opd):opD (orc T) T (.call 61 args) e h older=dR (Zb T 61 ((args.map (ev e.get)).map (wkIf false))) (args.map (ev e.get)):=zao Zah.h61
end
end Go.Ab
end
section
namespace Go.Ab
section
variable{T:Tbl}[Zah T]
theorem zut{p m w c c' s x y t v:Nat}(h:m+p*c=s+x*t)(e:w+4294967296*c'=x*y+v+c):(m+p*w)+p*4294967296*c'=(s+p*v)+x*(t+p*y):=
 zpo (k:=0) h e
def Zi5(P S a b:List UInt32)(y:Nat×Nat×List UInt32):St:=
 ⟨[(0,.sl (Za a) .an),(1,.sl (Za b) .an),(5,.bs (.loc 14) 1 1 0 (P.length+S.length)),(6,.i .i64 P.length),(7,u64 y.2.1),(8,.i .i64 y.1)],[(.loc 14,⟨1,.own,1,Za (P++(y.2.2++S.drop y.1))⟩)],3⟩
end
section
variable{T:Tbl}
theorem zyi(P S a b:List UInt32)(x:UInt32)(hxa:a[P.length]? = some x)(hS:b.length<S.length)(hl:P.length+S.length≤1000000):∀y:Nat×Nat×List UInt32,
  (y.1≤b.length∧y.2.1<4294967296∧y.2.2.length=y.1∧val y.2.2+4294967296^y.1*y.2.1=val (S.take y.1)+x.toNat*val (b.take y.1)) →
  ∃r,(∃(c:Nat) (m:List UInt32),r=(Ex.n,(⟨[(0,.sl (Za a) .an),(1,.sl (Za b) .an),(5,.bs (.loc 14) 1 1 0 (P.length+S.length)),(6,.i .i64 P.length),(7,u64 c)],[(.loc 14,⟨1,.own,1,Za (P++(m++S.drop b.length))⟩)],3⟩:St)) ∧
   m.length=b.length∧c<4294967296∧val m+4294967296^b.length*c=val (S.take b.length)+x.toNat*val b)∧Zn T 0 2 (.norm false [0,1,5,6,7]) l61_0 (Zi5 P S a b y)=some r:=by
 refine zaq _ _ (fun y=>b.length-y.1) _ ?_
 rintro⟨i,c,m⟩ ⟨hi,hc,hm,hv⟩
 simp only at hi hc hm hv;have hPa:P.length<a.length:=by
  rcases Yq P.length a.length with h | h
  ·exact h
  ·rw[Yak h]at hxa;cases hxa
 obtain rfl:a[P.length]'hPa=x:=by rw[Ya hPa]at hxa;cases hxa;rfl
 generalize hX:a[P.length]'hPa=x at hv ⊢;by_cases h0:i<b.length
 ·left;have hb:b[i]? = some (b[i]'h0):=Ya h0;have hiS:i<S.length:=by omega
  have hs:S[i]? = some (S[i]'hiS):=Ya hiS;have hg:=zc0 (P:=P) hm hiS;have hw:IntKind.wrap .i64 ((i:Int)+1)=((i+1:Nat):Int):=zab _ (by omega);have hw2:IntKind.wrap .i64 ((P.length:Int)+i)=((P.length+i:Nat):Int):=zab _ (by omega);have hlb:=zaj (b[i]'h0);have hls:=zaj (S[i]'hiS);have hmul:=zgh (zaj x) hlb;have hset:=zck (P:=P) (w32 (c+(x.toNat*(b[i]'h0).toNat+(S[i]'hiS).toNat))) hm hiS;have m1:x.toNat*(b[i]'h0).toNat%18446744073709551616=x.toNat*(b[i]'h0).toNat:=Yi (by omega);have m2:(x.toNat*(b[i]'h0).toNat+(S[i]'hiS).toNat)%18446744073709551616=x.toNat*(b[i]'h0).toNat+(S[i]'hiS).toNat:=Yi (by omega);have m3:(c+(x.toNat*(b[i]'h0).toNat+(S[i]'hiS).toNat))%18446744073709551616=c+(x.toNat*(b[i]'h0).toNat+(S[i]'hiS).toNat):=Yi (by omega);have m4:(c+(x.toNat*(b[i]'h0).toNat+(S[i]'hiS).toNat))/4294967296%18446744073709551616=(c+(x.toNat*(b[i]'h0).toNat+(S[i]'hiS).toNat))/4294967296:=Yi (by omega);refine⟨(i+1,(c+(x.toNat*(b[i]'h0).toNat+(S[i]'hiS).toNat))/4294967296,m++[w32 (c+(x.toNat*(b[i]'h0).toNat+(S[i]'hiS).toNat))]),⟨h0,by simp only;omega,by simp[hm],?_⟩,by simp only;omega,?_⟩
  ·simp only;rw[zai,zaf hb,zaf hs,Y8,hm];simp only[zak,za3,Yal,Yx,zbv];exact zut hv (by have:=Ybu (c+(x.toNat*(b[i]'h0).toNat+(S[i]'hiS).toNat)) 4294967296;omega)
  ·simp at hg hset;simp -implicitDefEqProofs[l61_0,Zi5,h0,hw,hw2,hiS,hg,hset,hPa,hX,m1,m2,m3,m4]
 ·right;have hib:i=b.length:=by omega
  have hv':val m+4294967296^b.length*c=val (S.take b.length)+x.toNat*val b:=by
   rw[hib,Yb (Yf b.length)]at hv;exact hv
  refine⟨(Ex.n,⟨[(0,.sl (Za a) .an),(1,.sl (Za b) .an),(5,.bs (.loc 14) 1 1 0 (P.length+S.length)),(6,.i .i64 P.length),(7,u64 c)],[(.loc 14,⟨1,.own,1,Za (P++(m++S.drop i))⟩)],3⟩),⟨c,m,by rw[hib],by rw[hm,hib],hc,hv'⟩,?_,?_⟩<;>simp -implicitDefEqProofs[l61_0,Zi5,h0]
end
section
variable{T:Tbl}[Zah T]
def Zh6(a b:List UInt32)(y:Nat×List UInt32):St:=
 ⟨[(0,.sl (Za a) .an),(1,.sl (Za b) .an),(5,.bs (.loc 14) 1 1 0 (a.length+b.length)),(6,.i .i64 y.1)],[(.loc 14,⟨1,.own,1,Za (y.2++List.replicate (a.length-y.1) 0)⟩)],3⟩
end
section
variable{T:Tbl}
theorem zuu(a b:List UInt32)(ha:a.length≤100000)(hb:b.length≤100000):∀y:Nat×List UInt32,
  (y.1≤a.length∧y.2.length=b.length+y.1∧val y.2=val (a.take y.1)*val b) →
  ∃r,(∃out:List UInt32,r=(Ex.n,(⟨[(5,.bs (.loc 14) 1 1 0 (a.length+b.length))],[(.loc 14,⟨1,.own,1,Za out⟩)],3⟩:St))∧out.length=a.length+b.length∧val out=val a*val b) ∧
   Zn T 0 0 (.norm false [5]) l61_1 (Zh6 a b y)=some r:=by
 refine zaq _ _ (fun y=>a.length-y.1) _ ?_
 rintro⟨i,X⟩ ⟨hi,hX,hv⟩
 simp only at hi hX hv;by_cases h0:i<a.length
 ·left;have hag:a[i]? = some (a[i]'h0):=Ya h0;have hw:IntKind.wrap .i64 ((i:Int)+1)=((i+1:Nat):Int):=zab _ (by omega);have e2:(X.take i).length=i:=by simp;omega
  have e3:(X.drop i++List.replicate (a.length-i) 0).length=a.length+b.length-i:=by simp;omega
  obtain⟨_,⟨c,m,rfl,hm,hc,hvm⟩,hr⟩:=zyi (T:=T) (X.take i) (X.drop i++List.replicate (a.length-i) 0) a b (a[i]'h0) (by rw[e2];exact hag) (by simp;omega) (by simp;omega) (0,0,[]) ⟨Yl _,Nat.zero_lt_succ _,rfl,by simp⟩;have e1:X.take i++(X.drop i++List.replicate (a.length-i) 0)=X++List.replicate (a.length-i) 0:=by rw[←Ybg,Yaq]
  have e4:i+(a.length+b.length-i)=a.length+b.length:=by omega
  have e6:(X.drop i++List.replicate (a.length-i) 0).take b.length=X.drop i:=by
   rw[Ybw (by simp;omega),Yb (by simp;omega)]
  have hSl:b.length<(X.drop i++List.replicate (a.length-i) 0).length:=by simp;omega
  have hg:=zc0 (P:=X.take i) (m:=m) hm hSl;have hset:=zck (P:=X.take i) (m:=m) (w32 c) hm hSl;have e5:(X.drop i++List.replicate (a.length-i) 0).drop (b.length+1)=List.replicate (a.length-(i+1)) 0:=by
   rw[Yeg,Ya6 (by simp;omega),Ydz];simp only[Yaz,Yv];congr 1;omega
  unfold Zi5 at hr;simp only[Yaz,Yaa]at hr;rw[e1,e2,e3,e4]at hr;rw[e2]at hg hset;rw[e5]at hset;rw[e6]at hvm;generalize hQ:X.take i++(m++(X.drop i++List.replicate (a.length-i) 0).drop b.length)=Q at hr hg hset;have hw2:IntKind.wrap .i64 ((i:Int)+b.length)=((i+b.length:Nat):Int):=zab _ (by omega);have hlt:((i:Int)+b.length)<(a.length:Int)+b.length:=by omega
  simp at hr hg hset;refine⟨(i+1,X.take i++(m++[w32 c])),⟨h0,by simp only[Yu,e2,hm,Ydj];omega,?_⟩,by simp only;omega,?_⟩
  ·simp only;have e7:=zai (X.take i) (X.drop i);rw[Yaq,e2]at e7;rw[zai,e2,zai,hm];simp only[zak,za3,Yal,Yx,zah hc];rw[hvm,zaf hag,Ybp,←hv,e7,Yan];rw[Yab];omega
  ·simp -implicitDefEqProofs[l61_1,Zh6,h0,hw,hr,hw2,hlt,hg,hset]
 ·right;have:i=a.length:=by omega
  subst this;rw[Yb (Yf _)]at hv;refine⟨_,⟨X++List.replicate (a.length-a.length) 0,rfl,by simp;omega,by simp[hv]⟩,?_,?_⟩<;>simp -implicitDefEqProofs[l61_1,Zh6]
end
section
variable{T:Tbl}[Zah T]
theorem zcl(a b:List UInt32)(ha:a.length≤100000)(hb:b.length≤100000):Zb T 61 [.sl (Za a) .an,.sl (Za b) .an]=some (.sl (Za (ofN (val a*val b))) .an):=by
 obtain⟨_,⟨out,rfl,ho,hv⟩,hr⟩:=zuu (T:=T) a b ha hb (0,List.replicate b.length 0) ⟨Yl _,by simp,by simp[zau]⟩;unfold Zh6 at hr;simp at hr;have hw1:IntKind.wrap .i64 ((a.length:Int)+b.length)=(a.length:Int)+b.length:=zab _ (by omega);have hle:(a.length:Int)+b.length≤4294967296:=by omega
 have hn:=zbi (T:=T) out (by omega);rw[hv]at hn;have htk:List.take (a.length+b.length) out=out:=Yb (by omega);have he:b.length+a.length=a.length+b.length:=by omega
 rw[he]at hr;rw[zac Zah.h61 rfl,b61];simp -implicitDefEqProofs[hw1,hle,hr,ho,htk,hn]
end
end Go.Ab
end
section
namespace Go.Ab
def l122_0:AX:=
 (.note
 (.seq
 (.seq
 (.reg [mv 21 6,mv 22 1,rg 23 (.bin .rem (.t 22) (.c (.i .i64 32))),rg 24 (.bin .lss (.t 21) (.t 23))])
 (.cond (.t 24)
 .skip
 (.exit 0)))
 (.seq
 (.block 1
 (.reg [mv 27 5,rg 28 (.bin .quo (.t 27) (.c (u32 2))),mv 5 28]))
 (.reg [mv 25 6,rg 26 (.bin .add (.t 25) (.c (.i .i64 1))),mv 6 26])))
 (.norm false [1,5,6]))
def b122:AX:=
 (.seq
 (.reg [rg 4 (.mov (.c (.b false)))])
 (.seq
 (.seq
 (.reg [mv 7 1,rg 8 (.bin .lss (.t 7) (.c (.i .i64 0))),mv 9 8,gd 10 9 false (.mov (.t 1)),gd 11 9 false (.bin .quo (.t 10) (.c (.i .i64 32))),gd 12 9 false (.mov (.t 0)),gd 13 9 false (.len (.t 12)),gd 14 9 false (.bin .geq (.t 11) (.t 13)),rg 15 (.pick (.t 9) (.c (.b true)) (.t 14))])
 (.cond (.t 15)
 (.seq
 (.reg [rg 4 (.mov (.c (.b false)))])
 (.pre (.norm false [4]) .ret))
 .skip))
 (.seq
 (.reg [mv 16 0,mv 17 1,rg 18 (.bin .quo (.t 17) (.c (.i .i64 32))),rg 19 (.iad 1 (.t 16) (.t 18)),rg 20 (.load none (.t 19)),mv 5 20])
 (.seq
 (.seq
 (.reg [rg 6 (.mov (.c (.i .i64 0)))])
 (.lp 0 (.norm false [1,5,6]) l122_0 (.norm false [5])))
 (.seq
 (.reg [mv 29 5,rg 30 (.bin .rem (.t 29) (.c (u32 2))),rg 31 (.bin .eql (.t 30) (.c (u32 1))),mv 4 31])
 (.pre (.norm false [4]) .ret))))))
def l95_0:AX:=
 (.note
 (.seq
 (.seq
 (.reg [mv 7 3,rg 8 (.bin .gtr (.t 7) (.c (.i .i64 0))),mv 9 8,gd 10 9 true (.mov (.t 0)),gd 11 9 true (.mov (.t 3)),gd 12 9 true (.bin .sub (.t 11) (.c (.i .i64 1))),gd 13 9 true (.call 122 [(.t 10),(.t 12)]),gd 14 9 true (.un .not (.t 13)),rg 15 (.pick (.t 9) (.t 14) (.c (.b false)))])
 (.cond (.t 15)
 .skip
 (.exit 0)))
 (.block 1
 (.reg [mv 16 3,rg 17 (.bin .sub (.t 16) (.c (.i .i64 1))),mv 3 17])))
 (.norm false [0,3]))
def b95:AX:=
 (.seq
 (.reg [rg 2 (.mov (.c (.i .i64 0)))])
 (.seq
 (.reg [mv 4 0,rg 5 (.len (.t 4)),rg 6 (.bin .mul (.c (.i .i64 32)) (.t 5)),mv 3 6])
 (.seq
 (.lp 0 (.norm false [0,3]) l95_0 (.norm false [3]))
 (.seq
 (.reg [mv 18 3,mv 2 18])
 (.pre (.norm false [2]) .ret)))))
def l96_0:AX:=
 (.note
 (.seq
 (.seq
 (.reg [mv 8 5,mv 9 0,rg 10 (.len (.t 9)),rg 11 (.bin .lss (.t 8) (.t 10))])
 (.cond (.t 11)
 .skip
 (.exit 0)))
 (.seq
 (.block 1
 (.seq
 (.reg [mv 14 0,mv 15 5,rg 16 (.iad 1 (.t 14) (.t 15)),rg 17 (.load none (.t 16)),rg 18 (.bin .quo (.t 17) (.c (u32 2147483648))),mv 6 18])
 (.seq
 (.reg [mv 19 0,mv 20 5,mv 21 0,mv 22 5,rg 23 (.iad 1 (.t 21) (.t 22)),rg 24 (.load none (.t 23)),rg 25 (.bin .mul (.t 24) (.c (u32 2))),mv 26 4,rg 27 (.bin .add (.t 25) (.t 26)),rg 28 (.iad 1 (.t 19) (.t 20)),so (.store 1 (.t 28) (.t 27))])
 (.reg [mv 29 6,mv 4 29]))))
 (.reg [mv 12 5,rg 13 (.bin .add (.t 12) (.c (.i .i64 1))),mv 5 13])))
 (.norm false [0,4,5]))
def b96:AX:=
 (.seq
 (.reg [rg 4 (.mov (.c (u32 0)))])
 (.seq
 (.seq
 (.reg [mv 7 1])
 (.cond (.t 7)
 (.reg [rg 4 (.mov (.c (u32 1)))])
 .skip))
 (.seq
 (.reg [rg 5 (.mov (.c (.i .i64 0)))])
 (.lp 0 (.norm false [0,4,5]) l96_0 (.norm false [])))))
def l97_0:AX:=
 (.note
 (.seq
 (.seq
 (.reg [mv 8 5,mv 9 0,rg 10 (.len (.t 9)),rg 11 (.bin .lss (.t 8) (.t 10))])
 (.cond (.t 11)
 .skip
 (.exit 0)))
 (.seq
 (.block 1
 (.seq
 (.reg [mv 14 0,mv 15 5,rg 16 (.iad 1 (.t 14) (.t 15)),rg 17 (.load none (.t 16)),rg 18 (.conv .u64 (.t 17)),mv 6 18])
 (.seq
 (.reg [mv 19 1,mv 20 5,rg 21 (.call 84 [(.t 19),(.t 20)]),rg 22 (.conv .u64 (.t 21)),mv 23 4,rg 24 (.bin .add (.t 22) (.t 23)),mv 7 24])
 (.seq
 (.reg [rg 4 (.mov (.c (u64 0)))])
 (.seq
 (.seq
 (.reg [mv 25 6,mv 26 7,rg 27 (.bin .lss (.t 25) (.t 26))])
 (.cond (.t 27)
 (.seq
 (.reg [mv 28 6,rg 29 (.bin .add (.t 28) (.c (u64 4294967296))),mv 6 29])
 (.reg [rg 4 (.mov (.c (u64 1)))]))
 .skip))
 (.reg [mv 30 0,mv 31 5,mv 32 6,mv 33 7,rg 34 (.bin .sub (.t 32) (.t 33)),rg 35 (.conv .u32 (.t 34)),rg 36 (.iad 1 (.t 30) (.t 31)),so (.store 1 (.t 36) (.t 35))]))))))
 (.reg [mv 12 5,rg 13 (.bin .add (.t 12) (.c (.i .i64 1))),mv 5 13])))
 (.norm false [0,1,4,5]))
def b97:AX:=
 (.seq
 (.reg [rg 4 (.mov (.c (u64 0)))])
 (.seq
 (.reg [rg 5 (.mov (.c (.i .i64 0)))])
 (.lp 0 (.norm false [0,1,4,5]) l97_0 (.norm false []))))
def l63_0:AX:=
 (.note
 (.seq
 (.seq
 (.reg [mv 19 8,rg 20 (.bin .geq (.t 19) (.c (.i .i64 0)))])
 (.cond (.t 20)
 .skip
 (.exit 0)))
 (.seq
 (.block 1
 (.seq
 (.drawT [mv 23 7,mv 24 0,mv 25 8,rg 26 (.bin .quo (.t 25) (.c (.i .i64 32))),rg 27 (.iad 1 (.t 24) (.t 26)),rg 28 (.load none (.t 27)),mv 29 8,rg 30 (.bin .rem (.t 29) (.c (.i .i64 32))),rg 31 (.bin .shl (.c (u32 1)) (.t 30)),rg 32 (.bin .quo (.t 28) (.t 31)),rg 33 (.bin .rem (.t 32) (.c (u32 2))),rg 34 (.bin .eql (.t 33) (.c (u32 1)))]
 [rg 35 (.call 96 [(.t 23),(.t 34)])])
 (.seq
 (.reg [mv 36 6,rg 37 (.call 96 [(.t 36),(.c (.b false))])])
 (.seq
 (.reg [mv 38 7,mv 39 1,rg 40 (.call 52 [(.t 38),(.t 39)]),rg 41 (.bin .geq (.t 40) (.c (.i .i64 0)))])
 (.cond (.t 41)
 (.seq
 (.reg [mv 42 7,mv 43 1,rg 44 (.call 97 [(.t 42),(.t 43)])])
 (.reg [mv 45 6,rg 46 (.iad 1 (.t 45) (.c (.i .i64 0))),rg 47 (.load none (.t 46)),rg 48 (.bin .add (.t 47) (.c (u32 1))),rg 49 (.iad 1 (.t 45) (.c (.i .i64 0))),so (.store 1 (.t 49) (.t 48))]))
 .skip)))))
 (.reg [mv 21 8,rg 22 (.bin .sub (.t 21) (.c (.i .i64 1))),mv 8 22])))
 (.norm false [0,1,6,7,8]))
def b63:AX:=
 (.seq
 (.reg [rg 4 (.mov (.c (.sl [] .nl))),rg 5 (.mov (.c (.sl [] .nl)))])
 (.seq
 (.reg [mv 9 0,rg 10 (.len (.t 9)),rg 11 (.mks 1 [(u32 0)] (.t 10) (.t 10)),mv 6 11])
 (.seq
 (.reg [mv 12 1,rg 13 (.len (.t 12)),rg 14 (.bin .add (.t 13) (.c (.i .i64 1))),rg 15 (.mks 1 [(u32 0)] (.t 14) (.t 14)),mv 7 15])
 (.seq
 (.seq
 (.reg [mv 16 0,rg 17 (.call 95 [(.t 16)]),rg 18 (.bin .sub (.t 17) (.c (.i .i64 1))),mv 8 18])
 (.lp 0 (.norm false [0,1,6,7,8]) l63_0 (.norm false [6,7])))
 (.seq
 (.reg [mv 50 6,rg 51 (.call 43 [(.t 50)]),mv 52 7,rg 53 (.call 43 [(.t 52)]),mv 4 51,mv 5 53])
 (.pre (.norm false [4,5]) .ret))))))
def row122:AFx:=⟨2,32,[.t 4],b122,none,false⟩
def row95:AFx:=⟨1,19,[.t 2],b95,none,false⟩
def row96:AFx:=⟨2,30,[],b96,(some [true,false]),false⟩
def row97:AFx:=⟨2,37,[],b97,(some [true,false]),false⟩
def row63:AFx:=⟨2,54,[.t 4,.t 5],b63,none,false⟩
class Z3 (T:Tbl):Prop extends Zah T where
 h122:T 122=some row122
 h95:T 95=some row95
 h96:T 96=some row96
 h97:T 97=some row97
 h63:T 63=some row63
section
variable{T:Tbl}[Z3 T]{d:Option Nat}{st:St}
@[simp] theorem x122(xs:List AV):Zd (orc T) T 122 xs d st=cP T 122 false xs d st:=zaa Z3.h122
@[simp] theorem x95(xs:List AV):Zd (orc T) T 95 xs d st=cP T 95 false xs d st:=zaa Z3.h95
@[simp] theorem y95{e:Env}{h:Heap}{older:List Heap}(args:List Opd):opD (orc T) T (.call 95 args) e h older=dR (Zb T 95 ((args.map (ev e.get)).map (wkIf false))) (args.map (ev e.get)):=zao Z3.h95
@[simp] theorem x96(xs:List AV):Zd (orc T) T 96 xs d st=bL (Zeb st.heap [true,false] xs) fun ys=>Zdp ys (Zm (Za1 [true,false] xs) st.heap) (Zcy (Zm (Za1 [true,false] xs) st.heap) 40 (Zci [true,false] xs) []) T 96 false d st:=zav Z3.h96
@[simp] theorem x97(xs:List AV):Zd (orc T) T 97 xs d st=bL (Zeb st.heap [true,false] xs) fun ys=>Zdp ys (Zm (Za1 [true,false] xs) st.heap) (Zcy (Zm (Za1 [true,false] xs) st.heap) 40 (Zci [true,false] xs) []) T 97 false d st:=zav Z3.h97
@[simp] theorem x63(xs:List AV):Zd (orc T) T 63 xs d st=cP T 63 false xs d st:=zaa Z3.h63
end
end Go.Ab
end
section
namespace Go.Ab
def l224_0:AX:=
 (.note
 (.seq
 (.seq
 (.reg [mv 6 0,rg 7 (.bin .rem (.t 6) (.c (u32 2))),rg 8 (.bin .eql (.t 7) (.c (u32 0)))])
 (.cond (.t 8)
 .skip
 (.exit 0)))
 (.block 1
 (.seq
 (.reg [mv 9 0,rg 10 (.bin .quo (.t 9) (.c (u32 2))),mv 0 10])
 (.reg [mv 11 3,rg 12 (.bin .add (.t 11) (.c (.i .i64 1))),mv 3 12]))))
 (.norm false [0,3]))
def b224:AX:=
 (.seq
 (.reg [rg 2 (.mov (.c (.i .i64 0)))])
 (.seq
 (.seq
 (.reg [mv 4 0,rg 5 (.bin .eql (.t 4) (.c (u32 0)))])
 (.cond (.t 5)
 (.seq
 (.reg [rg 2 (.mov (.c (.i .i64 32)))])
 (.pre (.norm false [2]) .ret))
 .skip))
 (.seq
 (.reg [rg 3 (.mov (.c (.i .i64 0)))])
 (.seq
 (.lp 0 (.norm false [0,3]) l224_0 (.norm false [3]))
 (.seq
 (.reg [mv 13 3,mv 2 13])
 (.pre (.norm false [2]) .ret))))))
def l225_0:AX:=
 (.note
 (.seq
 (.seq
 (.reg [mv 7 5,mv 8 0,rg 9 (.len (.t 8)),rg 10 (.bin .lss (.t 7) (.t 9))])
 (.cond (.t 10)
 .skip
 (.exit 0)))
 (.seq
 (.block 1
 (.seq
 (.reg [rg 6 (.mov (.c (u64 0)))])
 (.seq
 (.seq
 (.reg [mv 13 5,rg 14 (.bin .add (.t 13) (.c (.i .i64 1))),mv 15 0,rg 16 (.len (.t 15)),rg 17 (.bin .lss (.t 14) (.t 16))])
 (.cond (.t 17)
 (.reg [mv 18 0,mv 19 5,rg 20 (.bin .add (.t 19) (.c (.i .i64 1))),rg 21 (.iad 1 (.t 18) (.t 20)),rg 22 (.load none (.t 21)),rg 23 (.conv .u64 (.t 22)),mv 6 23])
 .skip))
 (.reg [mv 24 0,mv 25 5,mv 26 6,rg 27 (.bin .mul (.t 26) (.c (u64 4294967296))),mv 28 0,mv 29 5,rg 30 (.iad 1 (.t 28) (.t 29)),rg 31 (.load none (.t 30)),rg 32 (.conv .u64 (.t 31)),rg 33 (.bin .add (.t 27) (.t 32)),mv 34 1,rg 35 (.bin .shr (.t 33) (.t 34)),rg 36 (.conv .u32 (.t 35)),rg 37 (.iad 1 (.t 24) (.t 25)),so (.store 1 (.t 37) (.t 36))]))))
 (.reg [mv 11 5,rg 12 (.bin .add (.t 11) (.c (.i .i64 1))),mv 5 12])))
 (.norm false [0,1,5]))
def l225_1:AX:=
 (.note
 (.seq
 (.seq
 (.reg [mv 38 0,rg 39 (.len (.t 38)),rg 40 (.bin .gtr (.t 39) (.c (.i .i64 0))),mv 41 40,gd 42 41 true (.mov (.t 0)),gd 43 41 true (.mov (.t 0)),gd 44 41 true (.len (.t 43)),gd 45 41 true (.bin .sub (.t 44) (.c (.i .i64 1))),gd 46 41 true (.iad 1 (.t 42) (.t 45)),gd 47 41 true (.load none (.t 46)),gd 48 41 true (.bin .eql (.t 47) (.c (u32 0))),rg 49 (.pick (.t 41) (.t 48) (.c (.b false)))])
 (.cond (.t 49)
 .skip
 (.exit 2)))
 (.block 3
 (.reg [mv 50 0,mv 51 0,rg 52 (.len (.t 51)),rg 53 (.bin .sub (.t 52) (.c (.i .i64 1))),rg 54 (.slc 1 (.t 50) none (some (.t 53)) none),mv 0 54])))
 (.norm false [0]))
def b225:AX:=
 (.seq
 (.reg [rg 4 (.mov (.c (.sl [] .nl)))])
 (.seq
 (.seq
 (.reg [rg 5 (.mov (.c (.i .i64 0)))])
 (.lp 0 (.norm false [0,1,5]) l225_0 (.norm false [0])))
 (.seq
 (.lp 2 (.norm false [0]) l225_1 (.norm false [0]))
 (.seq
 (.reg [mv 55 0,mv 4 55])
 (.pre (.norm false [4]) .ret)))))
def l226_0:AX:=
 (.note
 (.seq
 (.seq
 (.reg [mv 6 0,rg 7 (.iad 1 (.t 6) (.c (.i .i64 0))),rg 8 (.load none (.t 7)),rg 9 (.bin .eql (.t 8) (.c (u32 0)))])
 (.cond (.t 9)
 .skip
 (.exit 0)))
 (.block 1
 (.seq
 (.reg [mv 10 0,rg 11 (.slc 1 (.t 10) (some (.c (.i .i64 1))) none none),mv 0 11])
 (.reg [mv 12 4,rg 13 (.bin .add (.t 12) (.c (.i .i64 32))),mv 4 13]))))
 (.norm false [0,4]))
def b226:AX:=
 (.seq
 (.reg [rg 2 (.mov (.c (.sl [] .nl))),rg 3 (.mov (.c (.i .i64 0)))])
 (.seq
 (.reg [rg 4 (.mov (.c (.i .i64 0)))])
 (.seq
 (.lp 0 (.norm false [0,4]) l226_0 (.norm false [0,4]))
 (.seq
 (.reg [mv 14 0,rg 15 (.iad 1 (.t 14) (.c (.i .i64 0))),rg 16 (.load none (.t 15)),rg 17 (.call 224 [(.t 16)]),mv 5 17])
 (.seq
 (.reg [mv 18 0,mv 19 5,rg 20 (.call 225 [(.t 18),(.t 19)]),mv 21 4,mv 22 5,rg 23 (.bin .add (.t 21) (.t 22)),mv 2 20,mv 3 23])
 (.pre (.norm false [2,3]) .ret))))))
def b227:AX:=
 (.seq
 (.reg [rg 4 (.mov (.c (.sl [] .nl)))])
 (.seq
 (.reg [mv 6 1,rg 7 (.bin .quo (.t 6) (.c (.i .i64 32))),rg 8 (.mks 1 [(u32 0)] (.t 7) (.t 7)),mv 9 0,rg 10 (.app 1 (.t 8) (.t 9)),mv 5 10])
 (.seq
 (.reg [mv 11 5,mv 12 1,rg 13 (.bin .rem (.t 12) (.c (.i .i64 32))),rg 14 (.bin .shl (.c (u32 1)) (.t 13)),rg 15 (.bsl 1 [(u32 0)] 1 [(0,(.t 14))]),rg 16 (.call 61 [(.t 11),(.t 15)]),mv 4 16])
 (.pre (.norm false [4]) .ret))))
def l228_0:AX:=
 (.note
 (.block 1
 (.seq
 (.reg [mv 33 5,mv 34 6,rg 35 (.call 52 [(.t 33),(.t 34)]),mv 9 35])
 (.seq
 (.seq
 (.reg [mv 36 9,rg 37 (.bin .eql (.t 36) (.c (.i .i64 0)))])
 (.cond (.t 37)
 (.exit 0)
 .skip))
 (.seq
 (.seq
 (.reg [mv 38 9,rg 39 (.bin .lss (.t 38) (.c (.i .i64 0)))])
 (.cond (.t 39)
 (.seq
 (.reg [mv 40 5,mv 10 40])
 (.seq
 (.reg [mv 41 6,mv 5 41])
 (.reg [mv 42 10,mv 6 42])))
 .skip))
 (.seq
 (.reg [mv 43 5,mv 44 6,rg 45 (.call 2097 [(.t 43),(.t 44)])])
 (.reg [mv 47 5,rg 48 (.call 226 [(.t 47)]),mv 46 48,rg 49 (.ext (.t 46) 0),rg 50 (.ext (.t 46) 1),mv 5 49]))))))
 (.norm false [5,6,7,8]))
def b228:AX:=
 (.seq
 (.reg [rg 4 (.mov (.c (.sl [] .nl)))])
 (.seq
 (.reg [mv 11 0,rg 12 (.call 2043 [(.t 11)]),mv 5 12])
 (.seq
 (.reg [mv 13 1,rg 14 (.call 2043 [(.t 13)]),mv 6 14])
 (.seq
 (.seq
 (.reg [mv 15 5,rg 16 (.len (.t 15)),rg 17 (.bin .eql (.t 16) (.c (.i .i64 0)))])
 (.cond (.t 17)
 (.seq
 (.reg [mv 18 6,mv 4 18])
 (.pre (.norm false [4]) .ret))
 .skip))
 (.seq
 (.seq
 (.reg [mv 19 6,rg 20 (.len (.t 19)),rg 21 (.bin .eql (.t 20) (.c (.i .i64 0)))])
 (.cond (.t 21)
 (.seq
 (.reg [mv 22 5,mv 4 22])
 (.pre (.norm false [4]) .ret))
 .skip))
 (.seq
 (.reg [mv 24 5,rg 25 (.call 226 [(.t 24)]),mv 23 25,rg 26 (.ext (.t 23) 0),rg 27 (.ext (.t 23) 1),mv 5 26,mv 7 27])
 (.seq
 (.reg [mv 29 6,rg 30 (.call 226 [(.t 29)]),mv 28 30,rg 31 (.ext (.t 28) 0),rg 32 (.ext (.t 28) 1),mv 6 31,mv 8 32])
 (.seq
 (.lp 0 (.norm false [5,6,7,8]) l228_0 (.norm false [5,7,8]))
 (.seq
 (.reg [mv 51 5,mv 52 7,mv 53 8,rg 54 (.mm false [(.t 52),(.t 53)]),rg 55 (.call 227 [(.t 51),(.t 54)]),mv 4 55])
 (.pre (.norm false [4]) .ret))))))))))
def b229:AX:=
 (.seq
 (.reg [rg 2 (.mov (.c (.b false)))])
 (.seq
 (.reg [mv 3 0,rg 4 (.len (.t 3)),rg 5 (.bin .eql (.t 4) (.c (.i .i64 1))),mv 6 5,gd 7 6 true (.mov (.t 0)),gd 8 6 true (.iad 1 (.t 7) (.c (.i .i64 0))),gd 9 6 true (.load none (.t 8)),gd 10 6 true (.bin .eql (.t 9) (.c (u32 1))),rg 11 (.pick (.t 6) (.t 10) (.c (.b false))),mv 2 11])
 (.pre (.norm false [2]) .ret)))
def b230:AX:=
 (.seq
 (.reg [rg 4 (.mov (.c (.sl [] .nl)))])
 (.seq
 (.seq
 (.reg [mv 7 1,rg 8 (.call 229 [(.t 7)])])
 (.cond (.t 8)
 (.seq
 (.reg [mv 9 0,rg 10 (.call 43 [(.t 9)]),mv 4 10])
 (.pre (.norm false [4]) .ret))
 .skip))
 (.seq
 (.reg [mv 12 0,mv 13 1,rg 14 (.call 63 [(.t 12),(.t 13)]),mv 11 14,rg 15 (.ext (.t 11) 0),rg 16 (.ext (.t 11) 1),mv 5 15,mv 6 16])
 (.seq
 (.reg [mv 17 5,mv 4 17])
 (.pre (.norm false [4]) .ret)))))
def l2097_0:AX:=
 (.note
 (.seq
 (.seq
 (.reg [mv 8 5,mv 9 0,rg 10 (.len (.t 9)),rg 11 (.bin .lss (.t 8) (.t 10))])
 (.cond (.t 11)
 .skip
 (.exit 0)))
 (.seq
 (.block 1
 (.seq
 (.reg [mv 14 0,mv 15 5,rg 16 (.iad 1 (.t 14) (.t 15)),rg 17 (.load none (.t 16)),rg 18 (.conv .u64 (.t 17)),mv 6 18])
 (.seq
 (.reg [mv 19 1,mv 20 5,rg 21 (.call 84 [(.t 19),(.t 20)]),rg 22 (.conv .u64 (.t 21)),mv 23 4,rg 24 (.bin .add (.t 22) (.t 23)),mv 7 24])
 (.seq
 (.reg [rg 4 (.mov (.c (u64 0)))])
 (.seq
 (.seq
 (.reg [mv 25 6,mv 26 7,rg 27 (.bin .lss (.t 25) (.t 26))])
 (.cond (.t 27)
 (.seq
 (.reg [mv 28 6,rg 29 (.bin .add (.t 28) (.c (u64 4294967296))),mv 6 29])
 (.reg [rg 4 (.mov (.c (u64 1)))]))
 .skip))
 (.reg [mv 30 0,mv 31 5,mv 32 6,mv 33 7,rg 34 (.bin .sub (.t 32) (.t 33)),rg 35 (.conv .u32 (.t 34)),rg 36 (.iad 1 (.t 30) (.t 31)),so (.store 1 (.t 36) (.t 35))]))))))
 (.reg [mv 12 5,rg 13 (.bin .add (.t 12) (.c (.i .i64 1))),mv 5 13])))
 (.norm false [0,1,4,5]))
def b2097:AX:=
 (.seq
 (.reg [rg 4 (.mov (.c (u64 0)))])
 (.seq
 (.reg [rg 5 (.mov (.c (.i .i64 0)))])
 (.lp 0 (.norm false [0,1,4,5]) l2097_0 (.norm false []))))
def row224:AFx:=⟨1,14,[.t 2],b224,none,false⟩
def row225:AFx:=⟨2,56,[.t 4],b225,(some [true,false]),false⟩
def row226:AFx:=⟨1,24,[.t 2,.t 3],b226,(some [true]),false⟩
def row227:AFx:=⟨2,17,[.t 4],b227,none,false⟩
def row228:AFx:=⟨2,56,[.t 4],b228,none,false⟩
def row229:AFx:=⟨1,12,[.t 2],b229,none,false⟩
def row230:AFx:=⟨2,18,[.t 4],b230,none,false⟩
def row2097:AFx:=⟨2,37,[],b2097,(some [true,true]),false⟩
class Z4 (T:Tbl):Prop where
 h224:T 224=some row224
 h225:T 225=some row225
 h226:T 226=some row226
 h227:T 227=some row227
 h228:T 228=some row228
 h229:T 229=some row229
 h230:T 230=some row230
 h2097:T 2097=some row2097
section
variable{T:Tbl}[Z4 T]{d:Option Nat}{st:St}{xs:List AV}{ps:List Opd}{e:Env}{h:Heap}{ol:List Heap}
@[simp] theorem x224:Zd (orc T) T 224 xs d st=cP T 224 false xs d st:=zaa Z4.h224
theorem f224(xs:List AV)(hn:xs.length=1):Zb T 224 xs=Zgx [.t 2] false (evX (orc T) T 0 b224 ⟨Zch xs,[],1⟩):=zac Z4.h224 hn
@[simp] theorem x225:Zd (orc T) T 225 xs d st=cL T 225 false [true,false] xs d st:=zav Z4.h225
theorem f225(xs:List AV)(hb:Heap)(hn:xs.length=2):Zbx T 225 xs hb=Zh1 [.t 4] false hb.length (evX (orc T) T hb.length b225 ⟨Zch xs,hb,hb.length+1⟩):=za4 Z4.h225 hn
@[simp] theorem x226:Zd (orc T) T 226 xs d st=cL T 226 false [true] xs d st:=zav Z4.h226
theorem f226(xs:List AV)(hb:Heap)(hn:xs.length=1):Zbx T 226 xs hb=Zh1 [.t 2,.t 3] false hb.length (evX (orc T) T hb.length b226 ⟨Zch xs,hb,hb.length+1⟩):=za4 Z4.h226 hn
@[simp] theorem x227:Zd (orc T) T 227 xs d st=cP T 227 false xs d st:=zaa Z4.h227
theorem f227(xs:List AV)(hn:xs.length=2):Zb T 227 xs=Zgx [.t 4] false (evX (orc T) T 0 b227 ⟨Zch xs,[],1⟩):=zac Z4.h227 hn
@[simp] theorem x228:Zd (orc T) T 228 xs d st=cP T 228 false xs d st:=zaa Z4.h228
theorem f228(xs:List AV)(hn:xs.length=2):Zb T 228 xs=Zgx [.t 4] false (evX (orc T) T 0 b228 ⟨Zch xs,[],1⟩):=zac Z4.h228 hn
@[simp] theorem x229:Zd (orc T) T 229 xs d st=cP T 229 false xs d st:=zaa Z4.h229
@[simp] theorem x230:Zd (orc T) T 230 xs d st=cP T 230 false xs d st:=zaa Z4.h230
@[simp] theorem x2097:Zd (orc T) T 2097 xs d st=cL T 2097 false [true,true] xs d st:=zav Z4.h2097
end
end Go.Ab
end
section
namespace Go.Ab
section
variable{T:Tbl}[Z3 T]
def Zkr(a:List UInt32)(y:Nat×Nat×List UInt32):St:=
 ⟨[(0,.bs (.bor 0) 0 1 0 a.length),(4,u32 y.2.1),(5,.i .i64 y.1)],[(.bor 0,⟨0,.own,1,Za (y.2.2++a.drop y.1)⟩)],4⟩
theorem z18{p m c c' w s x k:Nat}(h:m+p*c=2*s+k)(e:w+4294967296*c'=2*x+c):(m+p*w)+p*4294967296*c'=2*(s+p*x)+k:=by
 grind
end
section
variable{T:Tbl}
theorem z19(a:List UInt32)(c0:Nat)(hl:a.length≤1000000):∀y:Nat×Nat×List UInt32,
  (y.1≤a.length∧y.2.1≤1∧y.2.2.length=y.1∧val y.2.2+4294967296^y.1*y.2.1=2*val (a.take y.1)+c0) →
  ∃r,(∃(c:Nat) (m:List UInt32),r=(Ex.n,(⟨[],[(.bor 0,⟨0,.own,1,Za m⟩)],4⟩:St)) ∧
   m.length=a.length∧c≤1∧val m+4294967296^a.length*c=2*val a+c0)∧Zn T 1 0 (.norm false []) l96_0 (Zkr a y)=some r:=by
 refine zaq _ _ (fun y=>a.length-y.1) _ ?_
 rintro⟨i,c,m⟩ ⟨hi,hc,hm,hv⟩
 simp only at hi hc hm hv;by_cases h0:i<a.length
 ·left;have ha:a[i]? = some (a[i]'h0):=Ya h0;have hg:=zc0 (P:=[]) hm h0;have hw:IntKind.wrap .i64 ((i:Int)+1)=((i+1:Nat):Int):=zab _ (by omega);have hlx:=zaj (a[i]'h0);have hset:=zck (P:=[]) (w32 ((a[i]'h0).toNat*2%4294967296+c)) hm h0;simp at hg hset;have m1:((a[i]'h0).toNat*2%4294967296+c)%4294967296=(a[i]'h0).toNat*2%4294967296+c:=Yi (by omega);have m2:(a[i]'h0).toNat/2147483648<4294967296:=by omega
  have m3:(a[i]'h0).toNat*2%4294967296+c<4294967296:=by omega
  refine⟨(i+1,(a[i]'h0).toNat/2147483648,m++[w32 ((a[i]'h0).toNat*2%4294967296+c)]),⟨h0,by grind,by grind,?_⟩,by omega,?_⟩
  ·rw[zai,zaf ha,Y8,hm];simp only[zak,za3,Yal,Yx,zbv];exact z18 hv (by omega)
  ·simp -implicitDefEqProofs[l96_0,Zkr,h0,hw,hg,hset,m1,m2,zbe _ _ _ m3]
 ·right;have:i=a.length:=by omega
  subst this;rw[Yb (Yf a.length)]at hv;refine⟨_,⟨c,m,rfl,hm,hc,hv⟩,?_,?_⟩<;>simp -implicitDefEqProofs[l96_0,Zkr]
end
section
variable{T:Tbl}[Z3 T]
theorem zgi(a:List UInt32)(v:Bool)(hl:a.length≤1000000) :
  ∃(c:Nat) (m:List UInt32),m.length=a.length∧c≤1∧val m+4294967296^a.length*c=2*val a+(if v then 1 else 0) ∧
   Zbx T 96 [.bs (.bor 0) 0 1 0 a.length,.b v] [(.bor 0,⟨0,.own,1,Za a⟩)]=some (.tup [],[(.bor 0,⟨0,.own,1,Za m⟩)]):=by
 obtain⟨_,⟨c,m,rfl,hm,hc,hv⟩,hr⟩:=z19 (T:=T) a (if v then 1 else 0) hl (0,(if v then 1 else 0),[]) ⟨Yl _,by grind,rfl,by simp_all⟩;refine⟨c,m,hm,hc,hv,?_⟩;unfold Zkr at hr;rw[za4 Z3.h96 rfl,b96];cases v
 ·simp at hr;simp -implicitDefEqProofs[hr]
 ·simp at hr;simp -implicitDefEqProofs[hr]
def Zj4(a b:List UInt32)(y:Nat×Nat×List UInt32):St:=
 ⟨[(0,.bs (.bor 0) 0 1 0 a.length),(1,.sl (Za b) .an),(4,u64 y.2.1),(5,.i .i64 y.1)],[(.bor 0,⟨0,.own,1,Za (y.2.2++a.drop y.1)⟩)],4⟩
theorem z2a(a b:List UInt32)(hl:a.length≤1000000)(hb:b.length≤1000000):∀y:Nat×Nat×List UInt32,
  (y.1≤a.length∧y.2.1≤1∧y.2.2.length=y.1∧val y.2.2+val (b.take y.1)=val (a.take y.1)+4294967296^y.1*y.2.1) →
  ∃r,(∃(c:Nat) (m:List UInt32),r=(Ex.n,(⟨[],[(.bor 0,⟨0,.own,1,Za m⟩)],4⟩:St)) ∧
   m.length=a.length∧c≤1∧val m+val (b.take a.length)=val a+4294967296^a.length*c)∧Zn T 1 0 (.norm false []) l97_0 (Zj4 a b y)=some r:=by
 refine zaq _ _ (fun y=>a.length-y.1) _ ?_
 rintro⟨i,c,m⟩ ⟨hi,hc,hm,hv⟩
 simp only at hi hc hm hv;by_cases h0:i<a.length
 ·left;have ha:a[i]? = some (a[i]'h0):=Ya h0;have hg:=zc0 (P:=[]) hm h0;have hw:IntKind.wrap .i64 ((i:Int)+1)=((i+1:Nat):Int):=zab _ (by omega);have cb:=zct (T:=T) b i hb;have la:=zaj (a[i]'h0);have lb:=zhy b i;have e1:=zaf ha;have e2:=zbc b i;simp at hg;have m1:(a[i]'h0).toNat%18446744073709551616=(a[i]'h0).toNat:=Yi (by omega);have m2:atW b i%18446744073709551616=atW b i:=Yi (by omega);have m3:(atW b i+c)%18446744073709551616=atW b i+c:=Yi (by omega);have m4:((a[i]'h0).toNat+4294967296)%18446744073709551616=(a[i]'h0).toNat+4294967296:=Yi (by omega);have fin:∀s d:Nat,d≤1→s<4294967296→s+(atW b i+c)=(a[i]'h0).toNat+4294967296*d →
    val (m++[w32 s])+val (b.take (i+1))=val (a.take (i+1))+4294967296^(i+1)*d:=by
   grind[zai,zak,za3,zah]
  by_cases h1:(a[i]'h0).toNat<atW b i+c
  ·have hs:Zdq ((a[i]'h0).toNat+4294967296) (atW b i+c)=(a[i]'h0).toNat+4294967296-(atW b i+c):=zea (by omega) (by omega);have hset:=zck (P:=[]) (w32 ((a[i]'h0).toNat+4294967296-(atW b i+c))) hm h0;simp at hset;refine⟨(i+1,1,m++[w32 ((a[i]'h0).toNat+4294967296-(atW b i+c))]),⟨h0,Yf _,by grind,fin _ 1 (by omega) (by omega) (by omega)⟩,by omega,?_⟩;simp -implicitDefEqProofs[l97_0,Zj4,h0,cb,m1,m2,m3,m4,h1,hs,hg,hw,hset]
  ·have hs:Zdq (a[i]'h0).toNat (atW b i+c)=(a[i]'h0).toNat-(atW b i+c):=zea (by omega) (by omega);have hset:=zck (P:=[]) (w32 ((a[i]'h0).toNat-(atW b i+c))) hm h0;simp at hset;refine⟨(i+1,0,m++[w32 ((a[i]'h0).toNat-(atW b i+c))]),⟨h0,Yl _,by grind,fin _ 0 (by omega) (by omega) (by omega)⟩,by omega,?_⟩;simp -implicitDefEqProofs[l97_0,Zj4,h0,cb,m1,m2,m3,h1,hs,hg,hw,hset]
 ·right;have:i=a.length:=by omega
  subst this;rw[Yb (Yf a.length)]at hv;refine⟨_,⟨c,m,rfl,hm,hc,hv⟩,?_,?_⟩<;>simp -implicitDefEqProofs[l97_0,Zj4]
theorem zrc(a b:List UInt32)(hl:a.length≤1000000)(hb:b.length≤a.length)(hab:val b≤val a) :
  ∃m:List UInt32,m.length=a.length∧val m=val a-val b ∧
   Zbx T 97 [.bs (.bor 0) 0 1 0 a.length,.sl (Za b) .an] [(.bor 0,⟨0,.own,1,Za a⟩)]=some (.tup [],[(.bor 0,⟨0,.own,1,Za m⟩)]):=by
 obtain⟨_,⟨c,m,rfl,hm,hc,hv⟩,hr⟩:=z2a (T:=T) a b hl (by omega) (0,0,[]) ⟨Yl _,Yl _,rfl,by simp⟩;rw[Yb hb]at hv;have hlo:=zax m;have hval:val m=val a-val b:=by
  rcases Yay c with h1 | h1
  all_goals grind
 refine⟨m,hm,hval,?_⟩;unfold Zj4 at hr;rw[za4 Z3.h97 rfl,b97]
 simp_all
def Zks(x i:Nat)(y:Nat):St:=⟨[(1,.i .i64 i),(5,u32 (x/2^y)),(6,.i .i64 y)],[],2⟩
end
section
variable{T:Tbl}
theorem z2b(x i:Nat)(_hi:i≤100000000)(hx:x<4294967296):∀y:Nat,y≤i%32 →
  ∃r,(r=(Ex.n,(⟨[(5,u32 (x/2^(i%32)))],[],2⟩:St)))∧Zn T 0 0 (.norm false [5]) l122_0 (Zks x i y)=some r:=by
 refine zaq _ _ (fun y=>i%32-y) _ ?_;intro j hj;have hm:((i:Int).tmod 32)=((i%32:Nat):Int):=rfl;by_cases h0:j<i%32
 ·left;have hw:IntKind.wrap .i64 ((j:Int)+1)=((j+1:Nat):Int):=zab _ (by omega);have hd:x/2^j/2=x/2^(j+1):=by rw[Ybi,Y8]
  have hd2:x/2^(j+1)%4294967296=x/2^(j+1):=Yi (Ycv (Ybm _ _) hx);refine⟨j+1,h0,by omega,?_⟩;have hj2:(j:Int)<(i:Int)%32:=by omega
  simp -implicitDefEqProofs[l122_0,Zks,hm,hw,hd,hd2,hj2]
 ·right;have:j=i%32:=by omega
  subst this;refine⟨_,rfl,?_,?_⟩<;>simp -implicitDefEqProofs[l122_0,Zks,hm]
end
section
variable{T:Tbl}[Z3 T]
theorem zml(a:List UInt32)(i:Nat)(hl:a.length≤1000000)(hi:i<32*a.length) :
  Zb T 122 [.sl (Za a) .an,.i .i64 i]=some (.b (decide (val a/2^i%2=1))):=by
 have h1:i/32<a.length:=by omega
 have ha:a[i/32]? = some (a[i/32]'h1):=Ya h1;obtain⟨_,rfl,hr⟩:=z2b (T:=T) (a[i/32]'h1).toNat i (by omega) (zaj _) 0 (Yl _);unfold Zks at hr;simp at hr;have hq:IntKind.wrap .i64 ((i:Int)/32)=(i:Int)/32:=zab (i/32) (by omega);have hq1:((i:Int)/32).toNat=i/32:=by omega
 have hq2:(0:Int)≤(i:Int)/32:=by omega
 have hq3:(i:Int)/32<(a.length:Int):=by omega
 have hq4:¬ (a.length:Int)≤(i:Int)/32:=by omega
 have hb:=zwl ha;rw[zac Z3.h122 rfl,b122];simp -implicitDefEqProofs[hr,hq,hq1,hq2,hq3,hq4,h1,hb]
def Zg1(a:List UInt32)(y:Nat):St:=⟨[(0,.sl (Za a) .an),(3,.i .i64 y)],[],2⟩
theorem z2c(a:List UInt32)(hl:a.length≤1000000):∀y:Nat,(y≤32*a.length∧val a<2^y) →
  ∃r,(∃n:Nat,r=(Ex.n,(⟨[(3,.i .i64 n)],[],2⟩:St))∧n≤32*a.length∧val a<2^n)∧Zn T 0 0 (.norm false [3]) l95_0 (Zg1 a y)=some r:=by
 refine zaq _ _ (fun y=>y) _ ?_
 rintro k ⟨hk,hv⟩
 by_cases h0:k=0
 ·right;subst h0;refine⟨_,⟨0,rfl,Yl _,hv⟩,?_,?_⟩<;>simp -implicitDefEqProofs[l95_0,Zg1]
 ·obtain⟨j,rfl⟩:∃j,k=j+1:=⟨k-1,by omega⟩;have hw:IntKind.wrap .i64 (j:Int)=(j:Int):=zab _ (by omega);have hh:=zml (T:=T) a j hl (by omega);have hp:(0:Int)<(j:Int)+1:=by omega
  by_cases h1:val a/2^j%2=1
  ·right;refine⟨_,⟨j+1,rfl,hk,hv⟩,?_,?_⟩<;>simp -implicitDefEqProofs[l95_0,Zg1,hw,hh,hp,h1]
  ·left;refine⟨j,⟨by omega,zm7 hv (by omega)⟩,by omega,?_⟩;simp -implicitDefEqProofs[l95_0,Zg1,hw,hh,hp,h1]
theorem zuv(a:List UInt32)(hl:a.length≤1000000):∃n:Nat,n≤32*a.length∧val a<2^n∧Zb T 95 [.sl (Za a) .an]=some (.i .i64 n):=by
 obtain⟨_,⟨n,rfl,hn,hv⟩,hr⟩:=z2c (T:=T) a hl (32*a.length) ⟨Yf _,by rw[←zkw];exact zax a⟩;refine⟨n,hn,hv,?_⟩;unfold Zg1 at hr;simp at hr;have hw:IntKind.wrap .i64 (32*(a.length:Int))=32*(a.length:Int):=by
  grind[zab]
 rw[zac Z3.h95 rfl,b95];simp -implicitDefEqProofs[hr,hw]
end
end Go.Ab
end
section
namespace Go.Ab
section
variable{T:Tbl}[Z3 T]
theorem zyj(n:Nat)(h:n<32):Zad .shl (u32 1) (.i .i64 (n:Int))=some (u32 (2^n)):=by
 have h1:¬ (n:Int)<0:=by omega
 have h2:2^n<4294967296:=by
  have:2^n<2^32:=Nat.pow_lt_pow_right (by decide) h;simpa using this
 have h3:min n IntKind.u32.bits=n:=by
  have:IntKind.u32.bits=32:=rfl;rw[this];omega
 have h4:((1:Nat):Int)*2^n=((2^n:Nat):Int):=by simp
 unfold u32;simp only[Zad,if_neg h1,Ycj,h3,h4,zcs,Yi h2]
theorem z7o{v b Q L:Nat}(hb:0<b)(hq:Q=v/2/b)(hr:L=v/2%b) :
  (b≤2*L+v%2→v/b=2*Q+1∧v%b=2*L+v%2-b)∧(2*L+v%2<b→v/b=2*Q∧v%b=2*L+v%2):=by
 have h1:=Ybu (v/2) b;have h2:L<b:=by rw[hr];exact Ya1 _ hb
 rw[←hq,←hr]at h1;have h3:v=b*(2*Q)+(2*L+v%2):=by
  rw[←Yab,Yam b 2,Yab];omega
 have ht:v%2<2:=Ya1 _ (by decide);clear h1 hq hr;generalize v%2=t at *
 rw[h3];constructor
 ·intro h;have e:b*(2*Q)+(2*L+t)=(2*L+t-b)+b*(2*Q+1):=by rw[Yan,Ydt];omega
  rw[e,Yby _ _ hb,Yc3,Ya4 (by omega),Yi (by omega)];omega
 ·intro h;rw[Ya0,Yby _ _ hb,Yc3,Ya4 h,Yi h];omega
theorem z2d{a:List UInt32}{x:UInt32}(h:a[0]? = some x)(hx:x.toNat+1<4294967296):val (a.set 0 (w32 (x.toNat+1)))=val a+1:=by
 cases a with
 | nil=>cases h
 | cons y l=>
  cases h;simp only[Yce,zak,zah hx];omega
def Ziu(a b:List UInt32)(y:Nat×List UInt32×List UInt32):St:=
 ⟨[(0,.sl (Za a) .an),(1,.sl (Za b) .an),(6,.bs (.loc 11) 1 1 0 a.length),(7,.bs (.loc 15) 2 1 0 (b.length+1)),(8,.i .i64 ((y.1:Int)-1))],[(.loc 11,⟨1,.own,1,Za y.2.1⟩),(.loc 15,⟨2,.own,1,Za y.2.2⟩)],4⟩
theorem z2e(a b:List UInt32)(ha:a.length≤100000)(hb:b.length≤100000)(h0b:0<val b):∀y:Nat×List UInt32×List UInt32,
  (y.1≤32*a.length∧y.2.1.length=a.length∧y.2.2.length=b.length+1∧val y.2.1=val a/2^y.1/val b∧val y.2.2=val a/2^y.1%val b) →
  ∃r,(∃Q L:List UInt32,r=(Ex.n,(⟨[(6,.bs (.loc 11) 1 1 0 a.length),(7,.bs (.loc 15) 2 1 0 (b.length+1))],[(.loc 11,⟨1,.own,1,Za Q⟩),(.loc 15,⟨2,.own,1,Za L⟩)],4⟩:St)) ∧
   Q.length=a.length∧L.length=b.length+1∧val Q=val a/val b∧val L=val a%val b)∧Zn T 0 0 (.norm false [6,7]) l63_0 (Ziu a b y)=some r:=by
 refine zaq _ _ (fun y=>y.1) _ ?_
 rintro⟨k,Q,L⟩ ⟨hk,hQ,hL,hq,hr⟩
 simp only at hk hQ hL hq hr;cases k with
 | zero=>
  right;rw[Yc9,Yeu]at hq hr;refine⟨_,⟨Q,L,rfl,hQ,hL,hq,hr⟩,?_,?_⟩<;>simp -implicitDefEqProofs[l63_0,Ziu]
 | succ j=>
  left;have h1:j/32<a.length:=by omega
  have hag:a[j/32]? = some (a[j/32]'h1):=Ya h1;have hbit:=zwl hag;have hw:IntKind.wrap .i64 ((j:Int)-1)=(j:Int)-1:=zab _ (by omega);have hsh:Zad .shl (u32 1) (.i .i64 ((j:Int)%32))=some (u32 (2^(j%32))):=zyj (j%32) (Ya1 _ (by decide));have hm:((j:Int).tmod 32)=((j%32:Nat):Int):=rfl;have hj0:IntKind.wrap .i64 ((j:Int)/32)=(j:Int)/32:=zab (j/32) (by omega);have hj1:((j:Int)/32).toNat=j/32:=by omega
  have hj2:(0:Int)≤(j:Int)/32:=by omega
  have hj3:(j:Int)/32<(a.length:Int):=by omega
  have hxl:=zaj (a[j/32]'h1);obtain⟨cL,L2,hL2,hcL,hvL,hrL⟩:=zgi (T:=T) L (decide ((a[j/32]'h1).toNat/2^(j%32)%2=1)) (by omega);obtain⟨cQ,Q2,hQ2,hcQ,hvQ,hrQ⟩:=zgi (T:=T) Q false (by omega);have hcmp:=zd1 (T:=T) L2 b (by omega) (by omega);have hpq:(2^(j%32))≠0:=Nat.ne_of_gt (Ya2 (by decide));rw[hL]at hrL;rw[hQ]at hrQ;rw[hL]at hL2;rw[hQ]at hQ2;have htL:List.take (b.length+1) L2=L2:=Yb (by omega);have hres:∃Q3 L3:List UInt32,Q3.length=a.length∧L3.length=b.length+1∧val Q3=val a/2^j/val b∧val L3=val a/2^j%val b ∧
    (evX (orc T) T 0 l63_0 (Ziu a b (j+1,Q,L))=some (Ex.n,Ziu a b (j,Q3,L3))):=by
   have hvb:=zax b;have hva:=zax a;have hLb:val L<val b:=by rw[hr];exact Ya1 _ h0b
   have hv2:val a/2^(j+1)=val a/2^j/2:=by rw[Y8,Ybi]
   rw[hv2]at hq hr;have hlaw:=z7o h0b hq hr;have hva2:val a/2^j≤val a:=Ybm _ _;have hq2:2*val Q≤val a/2^j:=by
    have h2:val a/2^j/2/val b≤val a/2^j/2:=Ybm _ _;omega
   have hL0:val L2=2*val L+val a/2^j%2:=by
    have hb2:(if decide ((a[j/32]'h1).toNat/2^(j%32)%2=1)=true then 1 else 0)=val a/2^j%2:=by
     rw[hbit];simp only[decide_eq_true_eq];split<;>omega
    rw[hb2,hL,Y8]at hvL;have ht:val a/2^j%2<2:=Ya1 _ (by decide);generalize val a/2^j%2=t at *
    generalize 4294967296^b.length=p at *
    rcases Yay cL with h | h
    ·rw[h,Yal,Yx]at hvL;exact hvL
    ·have:=Yag (p*4294967296) h;generalize p*4294967296*cL=u at *
     omega
   have hQ0:val Q2=2*val Q:=by
    rw[hQ]at hvQ;simp at hvQ;generalize 4294967296^a.length=p at *
    rcases Yay cQ with h | h
    ·rw[h,Yal,Yx]at hvQ;exact hvQ
    ·have:=Yag p h;generalize p*cQ=u at *
     omega
   rw[←hL0]at hlaw;by_cases hle:val b≤val L2
   ·have hc:(0:Int)≤Zde (val L2) (val b):=by
     unfold Zde;split
     ·omega
     ·split<;>omega
    obtain⟨L3,hL3,hvL3,hrL3⟩:=zrc (T:=T) L2 b (by omega) (by omega) hle;rw[hL2]at hrL3 hL3;have h0Q:0<Q2.length:=by omega
    have hQg:Q2[0]? = some (Q2[0]'h0Q):=Ya h0Q;have hev:(Q2[0]'h0Q).toNat+1<4294967296:=by
     have:=zaj (Q2[0]'h0Q);have hc:val Q2=(Q2[0]'h0Q).toNat+4294967296*val (Q2.drop 1):=by
      conv=>lhs;rw[←Yaa (l:=Q2),Yk h0Q,zak]
     omega
    have h0a:0<a.length:=by omega
    have hQg':=hQg;have hev':=hev;generalize hqq:(Q2[0]'h0Q).toNat=qq at hev';refine⟨Q2.set 0 (w32 ((Q2[0]'h0Q).toNat+1)),L3,by simp[hQ2],hL3,by rw[z2d hQg hev,hQ0,(hlaw.1 hle).1],by rw[hvL3,(hlaw.1 hle).2],?_⟩;simp -implicitDefEqProofs[l63_0,Ziu,hw,hsh,hm,hj0,hj1,hj2,hj3,h1,hrL,hrQ,hL2,htL,hcmp,hc,hrL3,hQ2,h0a]
   ·have hc:¬ (0:Int)≤Zde (val L2) (val b):=by unfold Zde;rw[if_pos (by omega)];decide
    have hlt:val L2<val b:=by omega
    refine⟨Q2,L2,hQ2,hL2,by rw[hQ0,(hlaw.2 hlt).1],by rw[(hlaw.2 hlt).2],?_⟩;simp -implicitDefEqProofs[l63_0,Ziu,hw,hsh,hm,hj0,hj1,hj2,hj3,h1,hrL,hrQ,hL2,htL,hcmp,hc]
  obtain⟨Q3,L3,e1,e2,e3,e4,e5⟩:=hres;exact⟨(j,Q3,L3),⟨by simp only;omega,e1,e2,e3,e4⟩,Y4 j,e5⟩
theorem zuw(a b:List UInt32)(ha:a.length≤100000)(hb:b.length≤100000)(h0b:0<val b) :
  Zb T 63 [.sl (Za a) .an,.sl (Za b) .an]=some (.tup [.sl (Za (ofN (val a/val b))) .an,.sl (Za (ofN (val a%val b))) .an]):=by
 obtain⟨n,hn,hvn,hln⟩:=zuv (T:=T) a (by omega);have hd0:val a/2^n=0:=Ya4 hvn;obtain⟨_,⟨Q,L,rfl,hQ,hL,hq,hr⟩,hlp⟩:=z2e (T:=T) a b ha hb h0b (n,List.replicate a.length 0,List.replicate (b.length+1) 0)
  ⟨hn,by simp,by simp,by simp[zau,hd0],by simp only[hd0,Nat.zero_mod];exact zau _⟩
 have hw:IntKind.wrap .i64 ((n:Int)-1)=(n:Int)-1:=zab _ (by omega);have hw2:IntKind.wrap .i64 ((b.length:Int)+1)=((b.length+1:Nat):Int):=zab _ (by omega);have h1:(a.length:Int)≤4294967296:=by omega
 have h2:(b.length:Int)+1≤4294967296:=by omega
 have hn1:=zbi (T:=T) Q (by omega);have hn2:=zbi (T:=T) L (by omega);have t1:List.take a.length Q=Q:=Yb (by omega);have t2:List.take (b.length+1) L=L:=Yb (by omega);unfold Ziu at hlp;simp at hlp;rw[zac Z3.h63 rfl,b63];simp -implicitDefEqProofs[hln,hw,hw2,h1,h2,hlp,hQ,hL,t1,t2,hn1,hn2,hq,hr]
end
end Go.Ab
end
section
namespace Go.Ab
def l2043_0:AX:=
 (.note
 (.seq
 (.seq
 (.reg [mv 6 3,rg 7 (.bin .gtr (.t 6) (.c (.i .i64 0))),mv 8 7,gd 9 8 true (.mov (.t 0)),gd 10 8 true (.mov (.t 3)),gd 11 8 true (.bin .sub (.t 10) (.c (.i .i64 1))),gd 12 8 true (.iad 1 (.t 9) (.t 11)),gd 13 8 true (.load none (.t 12)),gd 14 8 true (.bin .eql (.t 13) (.c (u32 0))),rg 15 (.pick (.t 8) (.t 14) (.c (.b false)))])
 (.cond (.t 15)
 .skip
 (.exit 0)))
 (.block 1
 (.reg [mv 16 3,rg 17 (.bin .sub (.t 16) (.c (.i .i64 1))),mv 3 17])))
 (.norm false [0,3]))
def b2043:AX:=
 (.seq
 (.reg [rg 2 (.mov (.c (.sl [] .nl)))])
 (.seq
 (.reg [mv 4 0,rg 5 (.len (.t 4)),mv 3 5])
 (.seq
 (.lp 0 (.norm false [0,3]) l2043_0 (.norm false [0,3]))
 (.seq
 (.reg [rg 18 (.bsl 1 [(u32 0)] 0 []),mv 19 0,mv 20 3,rg 21 (.slc 1 (.t 19) none (some (.t 20)) none),rg 22 (.app 1 (.t 18) (.t 21)),mv 2 22])
 (.pre (.norm false [2]) .ret)))))
def l66_0:AX:=
 (.note
 (.seq
 (.seq
 (.reg [mv 6 3,mv 7 0,rg 8 (.lens (.t 7)),rg 9 (.bin .lss (.t 6) (.t 8))])
 (.cond (.t 9)
 .skip
 (.exit 0)))
 (.seq
 (.block 1
 (.seq
 (.reg [mv 12 0,mv 13 3,rg 14 (.ixs (.t 12) (.t 13)),rg 15 (.bin .lss (.t 14) (.c (u8 48))),mv 16 15,gd 17 16 false (.mov (.t 0)),gd 18 16 false (.mov (.t 3)),gd 19 16 false (.ixs (.t 17) (.t 18)),gd 20 16 false (.bin .gtr (.t 19) (.c (u8 57))),rg 21 (.pick (.t 16) (.c (.b true)) (.t 20)),mv 22 21,gd 23 22 false (.mov (.t 3)),gd 24 22 false (.bin .geq (.t 23) (.c (.i .i64 60))),rg 25 (.pick (.t 22) (.c (.b true)) (.t 24))])
 (.cond (.t 25)
 (.seq
 (.reg [mv 26 3,mv 2 26])
 (.pre (.norm false [2]) .ret))
 .skip)))
 (.reg [mv 10 3,rg 11 (.bin .add (.t 10) (.c (.i .i64 1))),mv 3 11])))
 (.norm false [0,3]))
def b66:AX:=
 (.seq
 (.reg [rg 2 (.mov (.c (.i .i64 0)))])
 (.seq
 (.seq
 (.reg [mv 4 0,rg 5 (.bin .eql (.t 4) (.c (.s [])))])
 (.cond (.t 5)
 (.seq
 (.reg [rg 2 (.mov (.c (.i .i64 0)))])
 (.pre (.norm false [2]) .ret))
 .skip))
 (.seq
 (.seq
 (.reg [rg 3 (.mov (.c (.i .i64 0)))])
 (.lp 0 (.norm false [0,3]) l66_0 (.norm false [])))
 (.seq
 (.reg [rg 2 (.mov (.c (.i .i64 (-1))))])
 (.pre (.norm false [2]) .ret)))))
def l67_0:AX:=
 (.note
 (.seq
 (.seq
 (.reg [mv 6 4,mv 7 0,rg 8 (.lens (.t 7)),rg 9 (.bin .lss (.t 6) (.t 8))])
 (.cond (.t 9)
 .skip
 (.exit 0)))
 (.seq
 (.block 1
 (.drawT [mv 12 3,rg 13 (.bsl 1 [(u32 0)] 1 [(0,(.c (u32 10)))]),rg 14 (.call 61 [(.t 12),(.t 13)]),mv 15 0,mv 16 4,rg 17 (.ixs (.t 15) (.t 16)),rg 18 (.conv .u32 (.t 17)),rg 19 (.bin .sub (.t 18) (.c (u32 48))),rg 20 (.bsl 1 [(u32 0)] 1 [(0,(.t 19))])]
 [rg 21 (.call 58 [(.t 14),(.t 20)]),mv 3 21]))
 (.reg [mv 10 4,rg 11 (.bin .add (.t 10) (.c (.i .i64 1))),mv 4 11])))
 (.norm false [0,3,4]))
def b67:AX:=
 (.seq
 (.reg [rg 2 (.mov (.c (.sl [] .nl)))])
 (.seq
 (.reg [rg 5 (.bsl 1 [(u32 0)] 0 []),mv 3 5])
 (.seq
 (.seq
 (.reg [rg 4 (.mov (.c (.i .i64 0)))])
 (.lp 0 (.norm false [0,3,4]) l67_0 (.norm false [3])))
 (.seq
 (.reg [mv 22 3,mv 2 22])
 (.pre (.norm false [2]) .ret)))))
def row2043:AFx:=⟨1,23,[.t 2],b2043,(some [false]),false⟩
def row66:AFx:=⟨1,27,[.t 2],b66,none,false⟩
def row67:AFx:=⟨1,23,[.t 2],b67,none,false⟩
class Zaa (T:Tbl):Prop extends Z3 T where
 h2043:T 2043=some row2043
 h66:T 66=some row66
 h67:T 67=some row67
section
variable{T:Tbl}[Zaa T]{d:Option Nat}{st:St}
@[simp] theorem x2043(xs:List AV):Zd (orc T) T 2043 xs d st=bL (Zeb st.heap [false] xs) fun ys=>Zdp ys (Zm (Za1 [false] xs) st.heap) (Zcy (Zm (Za1 [false] xs) st.heap) 40 (Zci [false] xs) []) T 2043 false d st:=zav Zaa.h2043
@[simp] theorem x66(xs:List AV):Zd (orc T) T 66 xs d st=cP T 66 false xs d st:=zaa Zaa.h66
@[simp] theorem x67(xs:List AV):Zd (orc T) T 67 xs d st=cP T 67 false xs d st:=zaa Zaa.h67
end
end Go.Ab
end
section
namespace Go.Ab
section
variable{T:Tbl}[Zaa T]
theorem zep(a:List UInt32)(hl:a.length≤1000000):Zbx T 2043 [.sl (Za a) .an] [] =
  some (.bs (.loc 22) 1 1 0 (ofN (val a)).length,[(.loc 22,⟨1,.own,1,Za (ofN (val a))⟩)]):=by
 obtain⟨n,h1,h2,h3,h4⟩:=zfr a;have hr:=zd0 (T:=T) a (by omega) h1 h3 h4 a.length ⟨h1,Yf _⟩;rw[show l43_0=l2043_0 from rfl]at hr;have hlen:(ofN (val a)).length=n:=by rw[←h2];simp;omega
 have hb:n≤4294967296:=by omega
 rw[za4 Zaa.h2043 rfl,b2043];simp -implicitDefEqProofs[hr,h1,h2,hb,hlen]
def Zon(N:Nat)(y:Nat×Nat×List UInt32)(P:List UInt32):St:=
 ⟨[(0,.bs (.bor 0) 0 1 0 N),(3,u64 y.2.1),(4,.i .i64 ((y.1:Int)-1))],[(.bor 0,⟨0,.own,1,Za (P.take y.1++y.2.2)⟩)],4⟩
end
section
variable{T:Tbl}[Zaa T]
def Zpv(b:BId)(x:List UInt32)(s:List UInt8):St:=⟨[(3,.bs b 1 1 0 x.length),(4,.s s)],[(b,⟨1,.own,1,Za x⟩)],3⟩
end
section
variable{T:Tbl}
theorem zym(l:List UInt8)(hl:l.length≤1000000):∀i:Nat,(i≤l.length∧i≤60) →
  Zn T 0 0 (.norm false []) l66_0 ⟨[(0,.s l),(3,.i .i64 i)],[],2⟩ =
   if 0≤Zb1 i (l.drop i) then some (.r,⟨[(2,.i .i64 (Zb1 i (l.drop i)))],[],2⟩) else some (.n,⟨[],[],2⟩):=by
 refine zan (fun i:Nat=>⟨[(0,.s l),(3,.i .i64 i)],[],2⟩) _ (fun i=>l.length-i) _ ?_
 rintro i ⟨hi,hi6⟩
 by_cases h0:i<l.length
 ·have hg:l[i]? = some (l[i]'h0):=Ya h0;have hd:=Yk h0;have hw:IntKind.wrap .i64 ((i:Int)+1)=((i+1:Nat):Int):=zab _ (by omega);by_cases hc:(l[i]'h0).toNat<48∨57<(l[i]'h0).toNat∨i=60
  ·right;rw[hd];have e:Zb1 i (l[i]'h0::List.drop (i+1) l)=i:=by simp only[Zb1];rw[if_pos hc]
   rw[e];by_cases c1:(l[i]'h0).toNat<48
   ·constructor<;>simp -implicitDefEqProofs[l66_0,h0,c1]
   ·by_cases c2:57<(l[i]'h0).toNat
    ·constructor<;>simp -implicitDefEqProofs[l66_0,h0,c1,c2]
    ·have c3:i=60:=by omega
     subst c3;have h0':(60:Int)<(l.length:Int):=by omega
     constructor<;>simp -implicitDefEqProofs[l66_0,h0,h0',c1,c2]
  ·left;have e:Zb1 i (l.drop i)=Zb1 (i+1) (l.drop (i+1)):=by rw[hd];simp only[Zb1];rw[if_neg hc]
   have c1:¬ (l[i]'h0).toNat<48:=fun h=>hc (.inl h);have c2:¬ 57<(l[i]'h0).toNat:=fun h=>hc (.inr (.inl h));have c4:¬ i=60:=fun h=>hc (.inr (.inr h));have c3:¬ (60≤(i:Int)):=by omega
   refine⟨i+1,⟨h0,by omega⟩,by show l.length-(i+1)<l.length-i;omega,?_,?_⟩
   ·simp -implicitDefEqProofs[l66_0,h0,c1,c2,c3,hw]
   ·simp only[e]
 ·right;have:i=l.length:=by omega
  subst this;rw[Yac];constructor<;>simp -implicitDefEqProofs[l66_0,Zb1]
end
section
variable{T:Tbl}[Zaa T]
theorem zh1(l:List UInt8)(hl:l.length≤1000000):Zb T 66 [.s l]=some (.i .i64 (Zp l)):=by
 have h:=zym (T:=T) l hl 0 ⟨Yl _,Yl _⟩;have hg:=zkx 0 l;rw[Yaa]at h;simp at h;rw[zac Zaa.h66 rfl,b66];unfold Zp;by_cases h0:l=[]
 ·subst h0;simp -implicitDefEqProofs
 ·by_cases h1:0≤Zb1 0 l
  ·rw[if_pos h1]at h;simp -implicitDefEqProofs[h,h0]
  ·rw[if_neg h1]at h;have h2:Zb1 0 l=-1:=by omega
   simp -implicitDefEqProofs[h,h0,h2]
theorem zyn(l:List UInt8)(hl:l.length≤60)(hd:∀c∈l,48≤c.toNat∧c.toNat≤57):∀i:Nat,i≤l.length →
  Zn T 0 0 (.norm false [3]) l67_0 ⟨[(0,.s l),(3,.sl (Za (ofN (rd (l.take i)))) .an),(4,.i .i64 i)],[],2⟩=some (.n,⟨[(3,.sl (Za (ofN (rd l))) .an)],[],2⟩):=by
 refine zan (fun i:Nat=>⟨[(0,.s l),(3,.sl (Za (ofN (rd (l.take i)))) .an),(4,.i .i64 i)],[],2⟩) _ (fun i=>l.length-i) _ ?_;intro i hi;by_cases h0:i<l.length
 ·left;have hg:l[i]? = some (l[i]'h0):=Ya h0;have hw:IntKind.wrap .i64 ((i:Int)+1)=((i+1:Nat):Int):=zab _ (by omega);have hc:=hd _ (Yaf h0);have hr:=zgk hg;have hol:(ofN (rd (l.take i))).length≤60:=by
   refine zag ?_;have h1:=zon (l:=l.take i) fun c hc=>hd c (Ya5 hc);have h2:10^(l.take i).length≤10^60:=Ym (by decide) (by simp;omega);exact Yp h1 (Ye h2 (by decide))
  obtain⟨c,hcd⟩:∃c,c=(l[i]'h0).toNat:=⟨_,rfl⟩;obtain⟨d,hdd⟩:∃d,d=c-48:=⟨_,rfl⟩;rw[←hcd]at hc hr;rw[←hdd]at hr;have m1:c%4294967296=c:=Yi (by omega);have m2:Zet c 48=d:=by rw[zxm (by omega) (by omega),hdd]
  have hml:=zcl (T:=T) (ofN (rd (l.take i))) [w32 10] (by omega) (by simp);have hv10:val [w32 10]=10:=by decide
  rw[zae,hv10]at hml;have hol2:(ofN (rd (l.take i)*10)).length≤61:=by
   refine zag ?_;have:=zax (ofN (rd (l.take i)));rw[zae]at this;have h2:4294967296^(ofN (rd (l.take i))).length≤4294967296^60:=Ym (by decide) hol;rw[Y8];exact Yp (Nat.mul_lt_mul_of_lt_of_le (Yp this h2) (Yf _) (by decide)) (Yag _ (by decide))
  have hdl:d<4294967296:=by omega
  have had:=zfm (T:=T) (ofN (rd (l.take i)*10)) [w32 d] (by omega) (by simp);have hvd:val [w32 d]=d:=by simp[zah hdl]
  rw[zae,hvd,←hr]at had;have e10:Za [w32 10]=[[u32 10]]:=rfl;have ed:Za [w32 d]=[[u32 d]]:=by simp[Za,zah hdl]
  rw[e10]at hml;rw[ed]at had;refine⟨i+1,h0,by show l.length-(i+1)<l.length-i;omega,?_,rfl⟩;simp -implicitDefEqProofs[l67_0,h0,←hcd,m1,m2,hml,had,hw]
 ·right;have:i=l.length:=by omega
  subst this;rw[Ybf];constructor<;>simp -implicitDefEqProofs[l67_0]
theorem zjf(l:List UInt8)(hl:l.length≤60)(hd:∀c∈l,48≤c.toNat∧c.toNat≤57):Zb T 67 [.s l]=some (.sl (Za (ofN (rd l))) .an):=by
 have h:=zyn (T:=T) l hl hd 0 (Yl _);simp[show rd []=0 from rfl]at h;rw[zac Zaa.h67 rfl,b67];simp -implicitDefEqProofs[h]
end
end Go.Ab
end
section
namespace Go.Ab
def b39:AX:=
 (.seq
 (.reg [rg 1 (.xop (.box 2) [(.t 0)]),rg 2 (.alloc [(.b false),(.sl [] .nl)])])
 (.seq
 (.reg [rg 4 (.fad 1 (.t 1)),rg 5 (.load none (.t 4)),rg 6 (.call 43 [(.t 5)]),mv 3 6])
 (.seq
 (.reg [rg 7 (.fad 0 (.t 1)),rg 8 (.load none (.t 7)),mv 9 8,gd 10 9 true (.mov (.t 3)),gd 11 9 true (.len (.t 10)),gd 12 9 true (.bin .gtr (.t 11) (.c (.i .i64 0))),rg 13 (.pick (.t 9) (.t 12) (.c (.b false))),mv 14 3,rg 15 (.build [(.b false),(.sl [] .nl)] [(0,1,(.t 13)),(1,1,(.t 14))]),so (.store 2 (.t 2) (.t 15))])
 (.pre (.norm false [2]) .ret))))
def b24:AX:=
 (.seq
 (.reg [rg 2 (.xop (.box 2) [(.t 0)]),rg 3 (.xop (.box 2) [(.t 1)]),rg 4 (.alloc [(.b false),(.sl [] .nl)])])
 (.seq
 (.seq
 (.reg [rg 5 (.fad 0 (.t 2)),rg 6 (.load none (.t 5)),rg 7 (.fad 0 (.t 3)),rg 8 (.load none (.t 7)),rg 9 (.eqb false (.t 6) (.t 8))])
 (.cond (.t 9)
 (.seq
 (.drawT [rg 10 (.fad 0 (.t 2)),rg 11 (.load none (.t 10)),rg 12 (.fad 1 (.t 2)),rg 13 (.load none (.t 12)),rg 14 (.fad 1 (.t 3)),rg 15 (.load none (.t 14)),rg 16 (.call 58 [(.t 13),(.t 15)])]
 [rg 17 (.build [(.b false),(.sl [] .nl)] [(0,1,(.t 11)),(1,1,(.t 16))]),rg 18 (.call 39 [(.t 17)]),so (.store 2 (.t 4) (.t 18))])
 (.pre (.norm false [4]) .ret))
 .skip))
 (.seq
 (.seq
 (.reg [rg 19 (.fad 1 (.t 2)),rg 20 (.load none (.t 19)),rg 21 (.fad 1 (.t 3)),rg 22 (.load none (.t 21)),rg 23 (.call 52 [(.t 20),(.t 22)]),rg 24 (.bin .lss (.t 23) (.c (.i .i64 0)))])
 (.cond (.t 24)
 (.seq
 (.drawT [rg 25 (.fad 0 (.t 3)),rg 26 (.load none (.t 25)),rg 27 (.fad 1 (.t 3)),rg 28 (.load none (.t 27)),rg 29 (.fad 1 (.t 2)),rg 30 (.load none (.t 29)),rg 31 (.call 59 [(.t 28),(.t 30)])]
 [rg 32 (.build [(.b false),(.sl [] .nl)] [(0,1,(.t 26)),(1,1,(.t 31))]),rg 33 (.call 39 [(.t 32)]),so (.store 2 (.t 4) (.t 33))])
 (.pre (.norm false [4]) .ret))
 .skip))
 (.seq
 (.drawT [rg 34 (.fad 0 (.t 2)),rg 35 (.load none (.t 34)),rg 36 (.fad 1 (.t 2)),rg 37 (.load none (.t 36)),rg 38 (.fad 1 (.t 3)),rg 39 (.load none (.t 38)),rg 40 (.call 59 [(.t 37),(.t 39)])]
 [rg 41 (.build [(.b false),(.sl [] .nl)] [(0,1,(.t 35)),(1,1,(.t 40))]),rg 42 (.call 39 [(.t 41)]),so (.store 2 (.t 4) (.t 42))])
 (.pre (.norm false [4]) .ret)))))
def b33:AX:=
 (.seq
 (.reg [rg 2 (.alloc [(.b false),(.sl [] .nl)]),rg 3 (.mov (.c (.i .i64 0)))])
 (.seq
 (.reg [mv 7 0,rg 8 (.lens (.t 7)),rg 9 (.bin .gtr (.t 8) (.c (.i .i64 0))),mv 10 9,gd 11 10 true (.mov (.t 0)),gd 12 10 true (.ixs (.t 11) (.c (.i .i64 0))),gd 13 10 true (.bin .eql (.t 12) (.c (u8 45))),rg 14 (.pick (.t 10) (.t 13) (.c (.b false))),mv 4 14])
 (.seq
 (.reg [rg 5 (.mov (.c (.i .i64 0)))])
 (.seq
 (.seq
 (.reg [mv 15 4])
 (.cond (.t 15)
 (.reg [rg 5 (.mov (.c (.i .i64 1)))])
 .skip))
 (.seq
 (.reg [mv 16 0,mv 17 5,rg 18 (.slstr (.t 16) (some (.t 17)) none),rg 19 (.call 66 [(.t 18)]),mv 6 19])
 (.seq
 (.seq
 (.reg [mv 20 6,rg 21 (.bin .geq (.t 20) (.c (.i .i64 0)))])
 (.cond (.t 21)
 (.seq
 (.reg [rg 22 (.build [(.b false),(.sl [] .nl)] []),mv 23 5,mv 24 6,rg 25 (.bin .add (.t 23) (.t 24)),so (.store 2 (.t 2) (.t 22)),mv 3 25])
 (.pre (.norm false [2,3]) .ret))
 .skip))
 (.seq
 (.reg [mv 26 4,mv 27 0,mv 28 5,rg 29 (.slstr (.t 27) (some (.t 28)) none),rg 30 (.call 67 [(.t 29)]),rg 31 (.build [(.b false),(.sl [] .nl)] [(0,1,(.t 26)),(1,1,(.t 30))]),rg 32 (.call 39 [(.t 31)]),so (.store 2 (.t 2) (.t 32)),rg 3 (.mov (.c (.i .i64 (-1))))])
 (.pre (.norm false [2,3]) .ret))))))))
def row39:AFx:=⟨1,16,[.cell 2 (some 2)],b39,none,false⟩
def row24:AFx:=⟨2,43,[.cell 4 (some 2)],b24,none,false⟩
def row33:AFx:=⟨1,33,[.cell 2 (some 2),.t 3],b33,none,false⟩
class Zai (T:Tbl):Prop extends Zaa T where
 h39:T 39=some row39
 h24:T 24=some row24
 h33:T 33=some row33
section
variable{T:Tbl}[Zai T]{d:Option Nat}{st:St}
@[simp] theorem x39(xs:List AV):Zd (orc T) T 39 xs d st=cP T 39 false xs d st:=zaa Zai.h39
@[simp] theorem x24(xs:List AV):Zd (orc T) T 24 xs d st=cP T 24 false xs d st:=zaa Zai.h24
@[simp] theorem x33(xs:List AV):Zd (orc T) T 33 xs d st=cP T 33 false xs d st:=zaa Zai.h33
end
end Go.Ab
end
section
namespace Go.Ab
def b231:AX:=
 (.seq
 (.reg [rg 1 (.xop (.box 3) [(.t 0)]),rg 2 (.alloc [(.b false),(.sl [] .nl),(.sl [] .nl)])])
 (.seq
 (.reg [rg 6 (.fad 2 (.t 1)),rg 7 (.load none (.t 6)),rg 8 (.call 43 [(.t 7)]),mv 3 8])
 (.seq
 (.reg [rg 9 (.fad 1 (.t 1)),rg 10 (.load none (.t 9)),rg 11 (.call 43 [(.t 10)]),mv 4 11])
 (.seq
 (.seq
 (.reg [mv 12 3,rg 13 (.len (.t 12)),rg 14 (.bin .eql (.t 13) (.c (.i .i64 0))),mv 15 14,gd 16 15 false (.mov (.t 4)),gd 17 15 false (.len (.t 16)),gd 18 15 false (.bin .eql (.t 17) (.c (.i .i64 0))),rg 19 (.pick (.t 15) (.c (.b true)) (.t 18))])
 (.cond (.t 19)
 (.seq
 (.reg [rg 20 (.bsl 1 [(u32 0)] 0 []),rg 21 (.bsl 1 [(u32 0)] 1 [(0,(.c (u32 1)))]),rg 22 (.build [(.b false),(.sl [] .nl),(.sl [] .nl)] [(1,1,(.t 20)),(2,1,(.t 21))]),so (.store 3 (.t 2) (.t 22))])
 (.pre (.norm false [2]) .ret))
 .skip))
 (.seq
 (.seq
 (.reg [mv 23 3,rg 24 (.call 229 [(.t 23)]),rg 25 (.un .not (.t 24))])
 (.cond (.t 25)
 (.seq
 (.reg [mv 26 4,mv 27 3,rg 28 (.call 228 [(.t 26),(.t 27)]),mv 5 28])
 (.seq
 (.reg [mv 29 4,mv 30 5,rg 31 (.call 230 [(.t 29),(.t 30)]),mv 4 31])
 (.reg [mv 32 3,mv 33 5,rg 34 (.call 230 [(.t 32),(.t 33)]),mv 3 34])))
 .skip))
 (.seq
 (.reg [rg 35 (.fad 0 (.t 1)),rg 36 (.load none (.t 35)),mv 37 4,mv 38 3,rg 39 (.build [(.b false),(.sl [] .nl),(.sl [] .nl)] [(0,1,(.t 36)),(1,1,(.t 37)),(2,1,(.t 38))]),so (.store 3 (.t 2) (.t 39))])
 (.pre (.norm false [2]) .ret)))))))
def b232:AX:=
 (.seq
 (.reg [rg 2 (.alloc [(.b false),(.sl [] .nl),(.sl [] .nl)])])
 (.seq
 (.seq
 (.reg [mv 3 0,rg 4 (.bin .lss (.t 3) (.c (.i .i64 0)))])
 (.cond (.t 4)
 (.seq
 (.reg [mv 5 0,rg 6 (.bin .add (.t 5) (.c (.i .i64 1))),rg 7 (.un .neg (.t 6)),rg 8 (.conv .u64 (.t 7)),rg 9 (.call 353 [(.t 8)]),rg 10 (.bsl 1 [(u32 0)] 1 [(0,(.c (u32 1)))]),rg 11 (.call 58 [(.t 9),(.t 10)]),rg 12 (.bsl 1 [(u32 0)] 1 [(0,(.c (u32 1)))]),rg 13 (.build [(.b false),(.sl [] .nl),(.sl [] .nl)] [(0,1,(.c (.b true))),(1,1,(.t 11)),(2,1,(.t 12))]),rg 14 (.call 231 [(.t 13)]),so (.store 3 (.t 2) (.t 14))])
 (.pre (.norm false [2]) .ret))
 .skip))
 (.seq
 (.reg [mv 15 0,rg 16 (.conv .u64 (.t 15)),rg 17 (.call 353 [(.t 16)]),rg 18 (.bsl 1 [(u32 0)] 1 [(0,(.c (u32 1)))]),rg 19 (.build [(.b false),(.sl [] .nl),(.sl [] .nl)] [(1,1,(.t 17)),(2,1,(.t 18))]),rg 20 (.call 231 [(.t 19)]),so (.store 3 (.t 2) (.t 20))])
 (.pre (.norm false [2]) .ret))))
def b233:AX:=
 (.seq
 (.reg [rg 2 (.xop (.box 3) [(.t 0)]),rg 3 (.xop (.box 3) [(.t 1)]),rg 4 (.mov (.c (.b false)))])
 (.seq
 (.reg [rg 5 (.fad 0 (.t 2)),rg 6 (.load none (.t 5)),rg 7 (.fad 0 (.t 3)),rg 8 (.load none (.t 7)),rg 9 (.eqb false (.t 6) (.t 8)),mv 10 9,gd 11 10 true (.fad 1 (.t 2)),gd 12 10 true (.load none (.t 11)),gd 13 10 true (.fad 1 (.t 3)),gd 14 10 true (.load none (.t 13)),gd 15 10 true (.call 54 [(.t 12),(.t 14)]),rg 16 (.pick (.t 10) (.t 15) (.c (.b false))),mv 17 16,gd 18 17 true (.fad 2 (.t 2)),gd 19 17 true (.load none (.t 18)),gd 20 17 true (.fad 2 (.t 3)),gd 21 17 true (.load none (.t 20)),gd 22 17 true (.call 54 [(.t 19),(.t 21)]),rg 23 (.pick (.t 17) (.t 22) (.c (.b false))),mv 4 23])
 (.pre (.norm false [4]) .ret)))
def b239:AX:=
 (.seq
 (.reg [rg 2 (.xop (.box 3) [(.t 0)]),rg 3 (.xop (.box 3) [(.t 1)]),rg 4 (.alloc [(.b false),(.sl [] .nl),(.sl [] .nl)])])
 (.seq
 (.draw [⟨rg 8 (.fad 0 (.t 2)),0,1⟩,⟨rg 9 (.load none (.t 8)),0,1⟩,⟨rg 10 (.fad 1 (.t 2)),0,1⟩,⟨rg 11 (.load none (.t 10)),0,1⟩,⟨rg 12 (.fad 2 (.t 3)),0,1⟩,⟨rg 13 (.load none (.t 12)),0,1⟩,⟨rg 14 (.call 61 [(.t 11),(.t 13)]),0,1⟩,⟨rg 15 (.build [(.b false),(.sl [] .nl)] [(0,1,(.t 9)),(1,1,(.t 14))]),0,1⟩,⟨rg 5 (.alloc [(.b false),(.sl [] .nl)]),0,1⟩,⟨so (.store 2 (.t 5) (.t 15)),1,2⟩])
 (.seq
 (.draw [⟨rg 16 (.fad 0 (.t 3)),0,1⟩,⟨rg 17 (.load none (.t 16)),0,1⟩,⟨rg 18 (.fad 1 (.t 3)),0,1⟩,⟨rg 19 (.load none (.t 18)),0,1⟩,⟨rg 20 (.fad 2 (.t 2)),0,1⟩,⟨rg 21 (.load none (.t 20)),0,1⟩,⟨rg 22 (.call 61 [(.t 19),(.t 21)]),0,1⟩,⟨rg 23 (.build [(.b false),(.sl [] .nl)] [(0,1,(.t 17)),(1,1,(.t 22))]),0,1⟩,⟨rg 6 (.alloc [(.b false),(.sl [] .nl)]),0,1⟩,⟨so (.store 2 (.t 6) (.t 23)),1,2⟩])
 (.seq
 (.reg [rg 24 (.load (some 2) (.t 5)),rg 25 (.load (some 2) (.t 6)),rg 26 (.call 24 [(.t 24),(.t 25)]),rg 7 (.alloc [(.b false),(.sl [] .nl)]),so (.store 2 (.t 7) (.t 26))])
 (.seq
 (.drawT [rg 27 (.fad 0 (.t 7)),rg 28 (.load none (.t 27)),rg 29 (.fad 1 (.t 7)),rg 30 (.load none (.t 29)),rg 31 (.fad 2 (.t 2)),rg 32 (.load none (.t 31)),rg 33 (.fad 2 (.t 3)),rg 34 (.load none (.t 33)),rg 35 (.call 61 [(.t 32),(.t 34)])]
 [rg 36 (.build [(.b false),(.sl [] .nl),(.sl [] .nl)] [(0,1,(.t 28)),(1,1,(.t 30)),(2,1,(.t 35))]),rg 37 (.call 231 [(.t 36)]),so (.store 3 (.t 4) (.t 37))])
 (.pre (.norm false [4]) .ret))))))
def b353:AX:=
 (.seq
 (.reg [rg 2 (.mov (.c (.sl [] .nl)))])
 (.seq
 (.reg [mv 3 0,rg 4 (.bin .rem (.t 3) (.c (u64 4294967296))),rg 5 (.conv .u32 (.t 4)),mv 6 0,rg 7 (.bin .quo (.t 6) (.c (u64 4294967296))),rg 8 (.conv .u32 (.t 7)),rg 9 (.bsl 1 [(u32 0)] 2 [(0,(.t 5)),(1,(.t 8))]),rg 10 (.call 43 [(.t 9)]),mv 2 10])
 (.pre (.norm false [2]) .ret)))
def row231:AFx:=⟨1,40,[.cell 2 (some 3)],b231,none,false⟩
def row232:AFx:=⟨1,21,[.cell 2 (some 3)],b232,none,false⟩
def row233:AFx:=⟨2,24,[.t 4],b233,none,false⟩
def row239:AFx:=⟨2,38,[.cell 4 (some 3)],b239,none,false⟩
def row353:AFx:=⟨1,11,[.t 2],b353,none,false⟩
class Z8 (T:Tbl):Prop where
 h231:T 231=some row231
 h232:T 232=some row232
 h233:T 233=some row233
 h239:T 239=some row239
 h353:T 353=some row353
section
variable{T:Tbl}[Z8 T]{d:Option Nat}{st:St}{xs:List AV}{ps:List Opd}{e:Env}{h:Heap}{ol:List Heap}
@[simp] theorem x231:Zd (orc T) T 231 xs d st=cP T 231 false xs d st:=zaa Z8.h231
@[simp] theorem y231:opD (orc T) T (.call 231 ps) e h ol=dP T 231 false ps e:=zao Z8.h231
@[simp] theorem x232:Zd (orc T) T 232 xs d st=cP T 232 false xs d st:=zaa Z8.h232
@[simp] theorem x233:Zd (orc T) T 233 xs d st=cP T 233 false xs d st:=zaa Z8.h233
@[simp] theorem y233:opD (orc T) T (.call 233 ps) e h ol=dP T 233 false ps e:=zao Z8.h233
@[simp] theorem x239:Zd (orc T) T 239 xs d st=cP T 239 false xs d st:=zaa Z8.h239
@[simp] theorem x353:Zd (orc T) T 353 xs d st=cP T 353 false xs d st:=zaa Z8.h353
end
end Go.Ab
end
section
namespace Go.Ab
def l260_0:AX:=
 (.note
 (.seq
 (.seq
 (.reg [mv 6 4,mv 7 0,rg 8 (.bin .lss (.t 6) (.t 7))])
 (.cond (.t 8)
 .skip
 (.exit 0)))
 (.seq
 (.block 1
 (.reg [mv 11 3,rg 12 (.bsl 1 [(u32 0)] 1 [(0,(.c (u32 10)))]),rg 13 (.call 61 [(.t 11),(.t 12)]),mv 3 13]))
 (.reg [mv 9 4,rg 10 (.bin .add (.t 9) (.c (.i .i64 1))),mv 4 10])))
 (.norm false [0,3,4]))
def b260:AX:=
 (.seq
 (.reg [rg 2 (.mov (.c (.sl [] .nl)))])
 (.seq
 (.reg [rg 5 (.bsl 1 [(u32 0)] 1 [(0,(.c (u32 1)))]),mv 3 5])
 (.seq
 (.seq
 (.reg [rg 4 (.mov (.c (.i .i64 0)))])
 (.lp 0 (.norm false [0,3,4]) l260_0 (.norm false [3])))
 (.seq
 (.reg [mv 14 3,mv 2 14])
 (.pre (.norm false [2]) .ret)))))
def l261_0:AX:=
 (.note
 (.seq
 (.seq
 (.reg [mv 11 5,mv 12 0,rg 13 (.lens (.t 12)),rg 14 (.bin .lss (.t 11) (.t 13)),mv 15 14,gd 16 15 true (.mov (.t 0)),gd 17 15 true (.mov (.t 5)),gd 18 15 true (.ixs (.t 16) (.t 17)),gd 19 15 true (.bin .neq (.t 18) (.c (u8 47))),rg 20 (.pick (.t 15) (.t 19) (.c (.b false))),mv 21 20,gd 22 21 true (.mov (.t 0)),gd 23 21 true (.mov (.t 5)),gd 24 21 true (.ixs (.t 22) (.t 23)),gd 25 21 true (.bin .neq (.t 24) (.c (u8 46))),rg 26 (.pick (.t 21) (.t 25) (.c (.b false)))])
 (.cond (.t 26)
 .skip
 (.exit 0)))
 (.block 1
 (.reg [mv 27 5,rg 28 (.bin .add (.t 27) (.c (.i .i64 1))),mv 5 28])))
 (.norm false [0,2,5]))
def b261:AX:=
 (.seq
 (.reg [rg 2 (.alloc [(.b false),(.sl [] .nl),(.sl [] .nl)]),rg 3 (.mov (.c (.i .i64 0))),rg 4 (.mov (.c (.i .i64 0)))])
 (.seq
 (.reg [rg 5 (.mov (.c (.i .i64 0)))])
 (.seq
 (.lp 0 (.norm false [0,2,5]) l261_0 (.norm false [0,2,5]))
 (.seq
 (.reg [mv 30 0,mv 31 5,rg 32 (.slstr (.t 30) none (some (.t 31))),rg 33 (.call 33 [(.t 32)]),mv 29 33,rg 34 (.ext (.t 29) 0),rg 35 (.ext (.t 29) 1),rg 6 (.alloc [(.b false),(.sl [] .nl)]),so (.store 2 (.t 6) (.t 34)),mv 7 35])
 (.seq
 (.seq
 (.reg [mv 36 7,rg 37 (.bin .geq (.t 36) (.c (.i .i64 0)))])
 (.cond (.t 37)
 (.seq
 (.reg [rg 38 (.call 232 [(.c (.i .i64 0))]),mv 39 7,so (.store 3 (.t 2) (.t 38)),rg 3 (.mov (.c (.i .i64 1))),mv 4 39])
 (.pre (.norm false [2,3,4]) .ret))
 .skip))
 (.seq
 (.seq
 (.reg [mv 40 5,mv 41 0,rg 42 (.lens (.t 41)),rg 43 (.bin .eql (.t 40) (.t 42))])
 (.cond (.t 43)
 (.seq
 (.reg [rg 44 (.fad 0 (.t 6)),rg 45 (.load none (.t 44)),rg 46 (.fad 1 (.t 6)),rg 47 (.load none (.t 46)),rg 48 (.bsl 1 [(u32 0)] 1 [(0,(.c (u32 1)))]),rg 49 (.build [(.b false),(.sl [] .nl),(.sl [] .nl)] [(0,1,(.t 45)),(1,1,(.t 47)),(2,1,(.t 48))]),rg 50 (.call 231 [(.t 49)]),so (.store 3 (.t 2) (.t 50)),rg 3 (.mov (.c (.i .i64 0))),rg 4 (.mov (.c (.i .i64 0)))])
 (.pre (.norm false [2,3,4]) .ret))
 .skip))
 (.seq
 (.reg [mv 51 0,mv 52 5,rg 53 (.bin .add (.t 52) (.c (.i .i64 1))),rg 54 (.slstr (.t 51) (some (.t 53)) none),mv 8 54])
 (.seq
 (.reg [mv 55 8,rg 56 (.call 66 [(.t 55)]),mv 7 56])
 (.seq
 (.seq
 (.reg [mv 57 7,rg 58 (.bin .geq (.t 57) (.c (.i .i64 0)))])
 (.cond (.t 58)
 (.seq
 (.reg [rg 59 (.call 232 [(.c (.i .i64 0))]),mv 60 5,rg 61 (.bin .add (.t 60) (.c (.i .i64 1))),mv 62 7,rg 63 (.bin .add (.t 61) (.t 62)),so (.store 3 (.t 2) (.t 59)),rg 3 (.mov (.c (.i .i64 1))),mv 4 63])
 (.pre (.norm false [2,3,4]) .ret))
 .skip))
 (.seq
 (.reg [mv 64 8,rg 65 (.call 67 [(.t 64)]),mv 9 65])
 (.seq
 (.seq
 (.reg [mv 66 0,mv 67 5,rg 68 (.ixs (.t 66) (.t 67)),rg 69 (.bin .eql (.t 68) (.c (u8 46)))])
 (.cond (.t 69)
 (.seq
 (.drawT [rg 70 (.fad 1 (.t 6)),rg 71 (.load none (.t 70)),mv 72 8,rg 73 (.lens (.t 72)),rg 74 (.call 260 [(.t 73)]),rg 75 (.call 61 [(.t 71),(.t 74)]),mv 76 9]
 [rg 77 (.call 58 [(.t 75),(.t 76)]),mv 10 77])
 (.seq
 (.drawT [mv 78 0,rg 79 (.ixs (.t 78) (.c (.i .i64 0))),rg 80 (.bin .eql (.t 79) (.c (u8 45))),mv 81 10,mv 82 8,rg 83 (.lens (.t 82)),rg 84 (.call 260 [(.t 83)])]
 [rg 85 (.build [(.b false),(.sl [] .nl),(.sl [] .nl)] [(0,1,(.t 80)),(1,1,(.t 81)),(2,1,(.t 84))]),rg 86 (.call 231 [(.t 85)]),so (.store 3 (.t 2) (.t 86)),rg 3 (.mov (.c (.i .i64 0))),rg 4 (.mov (.c (.i .i64 0)))])
 (.pre (.norm false [2,3,4]) .ret)))
 .skip))
 (.seq
 (.seq
 (.reg [mv 87 9,rg 88 (.len (.t 87)),rg 89 (.bin .eql (.t 88) (.c (.i .i64 0)))])
 (.cond (.t 89)
 (.seq
 (.reg [rg 90 (.call 232 [(.c (.i .i64 0))]),mv 91 5,rg 92 (.bin .add (.t 91) (.c (.i .i64 1))),so (.store 3 (.t 2) (.t 90)),rg 3 (.mov (.c (.i .i64 2))),mv 4 92])
 (.pre (.norm false [2,3,4]) .ret))
 .skip))
 (.seq
 (.reg [rg 93 (.fad 0 (.t 6)),rg 94 (.load none (.t 93)),rg 95 (.fad 1 (.t 6)),rg 96 (.load none (.t 95)),mv 97 9,rg 98 (.build [(.b false),(.sl [] .nl),(.sl [] .nl)] [(0,1,(.t 94)),(1,1,(.t 96)),(2,1,(.t 97))]),rg 99 (.call 231 [(.t 98)]),so (.store 3 (.t 2) (.t 99)),rg 3 (.mov (.c (.i .i64 0))),rg 4 (.mov (.c (.i .i64 0)))])
 (.pre (.norm false [2,3,4]) .ret))))))))))))))
def row260:AFx:=⟨1,15,[.t 2],b260,none,false⟩
def row261:AFx:=⟨1,100,[.cell 2 (some 3),.t 3,.t 4],b261,none,false⟩
class Zbv (T:Tbl):Prop where
 h260:T 260=some row260
 h261:T 261=some row261
section
variable{T:Tbl}[Zbv T]{d:Option Nat}{st:St}{xs:List AV}{ps:List Opd}{e:Env}{h:Heap}{ol:List Heap}
@[simp] theorem y260:opD (orc T) T (.call 260 ps) e h ol=dP T 260 false ps e:=zao Zbv.h260
@[simp] theorem x261:Zd (orc T) T 261 xs d st=cP T 261 false xs d st:=zaa Zbv.h261
end
end Go.Ab
end
section
namespace Go.Ab
def l279_0:AX:=
 (.note
 (.seq
 (.seq
 (.reg [mv 11 5,mv 12 0,rg 13 (.len (.t 12)),rg 14 (.bin .lss (.t 11) (.t 13))])
 (.cond (.t 14)
 .skip
 (.exit 0)))
 (.seq
 (.block 1
 (.seq
 (.drawT [mv 17 0,mv 18 5,rg 19 (.iad 3 (.t 17) (.t 18)),rg 20 (.load (some 3) (.t 19)),mv 21 1,mv 22 5,rg 23 (.iad 3 (.t 21) (.t 22)),rg 24 (.load (some 3) (.t 23))]
 [rg 25 (.call 233 [(.t 20),(.t 24)]),rg 26 (.un .not (.t 25))])
 (.cond (.t 26)
 (.seq
 (.reg [rg 4 (.mov (.c (.b false)))])
 (.pre (.norm false [4]) .ret))
 .skip)))
 (.reg [mv 15 5,rg 16 (.bin .add (.t 15) (.c (.i .i64 1))),mv 5 16])))
 (.norm false [0,1,5]))
def b279:AX:=
 (.seq
 (.reg [rg 4 (.mov (.c (.b false)))])
 (.seq
 (.seq
 (.reg [mv 6 0,rg 7 (.len (.t 6)),mv 8 1,rg 9 (.len (.t 8)),rg 10 (.bin .neq (.t 7) (.t 9))])
 (.cond (.t 10)
 (.seq
 (.reg [rg 4 (.mov (.c (.b false)))])
 (.pre (.norm false [4]) .ret))
 .skip))
 (.seq
 (.seq
 (.reg [rg 5 (.mov (.c (.i .i64 0)))])
 (.lp 0 (.norm false [0,1,5]) l279_0 (.norm false [])))
 (.seq
 (.reg [rg 4 (.mov (.c (.b true)))])
 (.pre (.norm false [4]) .ret)))))
def row279:AFx:=⟨2,27,[.t 4],b279,none,false⟩
class Zas (T:Tbl):Prop where
 h279:T 279=some row279
section
variable{T:Tbl}[Zas T]{d:Option Nat}{st:St}{xs:List AV}{ps:List Opd}{e:Env}{h:Heap}{ol:List Heap}
@[simp] theorem x279:Zd (orc T) T 279 xs d st=cP T 279 false xs d st:=zaa Zas.h279
end
end Go.Ab
end
section
namespace Go.Ab
def l285_0:AX:=
 (.note
 (.seq
 (.seq
 (.reg [mv 14 7,mv 15 0,rg 16 (.lens (.t 15)),rg 17 (.bin .leq (.t 14) (.t 16))])
 (.cond (.t 17)
 .skip
 (.exit 0)))
 (.seq
 (.block 1
 (.seq
 (.seq
 (.reg [mv 20 7,mv 21 0,rg 22 (.lens (.t 21)),rg 23 (.bin .lss (.t 20) (.t 22)),mv 24 23,gd 25 24 true (.mov (.t 0)),gd 26 24 true (.mov (.t 7)),gd 27 24 true (.ixs (.t 25) (.t 26)),gd 28 24 true (.bin .neq (.t 27) (.c (u8 44))),rg 29 (.pick (.t 24) (.t 28) (.c (.b false)))])
 (.cond (.t 29)
 (.exit 1)
 .skip))
 (.seq
 (.reg [mv 31 0,mv 32 6,mv 33 7,rg 34 (.slstr (.t 31) (some (.t 32)) (some (.t 33))),rg 35 (.call 261 [(.t 34)]),mv 30 35,rg 36 (.ext (.t 30) 0),rg 37 (.ext (.t 30) 1),rg 38 (.ext (.t 30) 2),rg 8 (.alloc [(.b false),(.sl [] .nl),(.sl [] .nl)]),so (.store 3 (.t 8) (.t 36)),mv 9 37,mv 10 38])
 (.seq
 (.seq
 (.reg [mv 39 9,rg 40 (.bin .neq (.t 39) (.c (.i .i64 0)))])
 (.cond (.t 40)
 (.seq
 (.reg [rg 41 (.bsl 3 [(.b false),(.sl [] .nl),(.sl [] .nl)] 0 []),mv 42 9,mv 43 6,mv 44 10,rg 45 (.bin .add (.t 43) (.t 44)),mv 2 41,mv 3 42,mv 4 45])
 (.pre (.norm false [2,3,4]) .ret))
 .skip))
 (.seq
 (.reg [mv 46 5,rg 47 (.load (some 3) (.t 8)),rg 48 (.bsl 3 [(.b false),(.sl [] .nl),(.sl [] .nl)] 1 [(0,(.t 47))]),rg 49 (.app 3 (.t 46) (.t 48)),mv 5 49])
 (.reg [mv 50 7,rg 51 (.bin .add (.t 50) (.c (.i .i64 1))),mv 6 51]))))))
 (.reg [mv 18 7,rg 19 (.bin .add (.t 18) (.c (.i .i64 1))),mv 7 19])))
 (.norm false [0,5,6,7]))
def b285:AX:=
 (.seq
 (.reg [rg 2 (.mov (.c (.sl [] .nl))),rg 3 (.mov (.c (.i .i64 0))),rg 4 (.mov (.c (.i .i64 0)))])
 (.seq
 (.note (.reg [rg 5 (.mov (.c (.sl [] .nl)))]) (.nil 5 3))
 (.seq
 (.seq
 (.reg [mv 11 0,rg 12 (.bin .eql (.t 11) (.c (.s [])))])
 (.cond (.t 12)
 (.seq
 (.reg [mv 13 5,mv 2 13,rg 3 (.mov (.c (.i .i64 0))),rg 4 (.mov (.c (.i .i64 0)))])
 (.pre (.norm false [2,3,4]) .ret))
 .skip))
 (.seq
 (.reg [rg 6 (.mov (.c (.i .i64 0)))])
 (.seq
 (.seq
 (.reg [rg 7 (.mov (.c (.i .i64 0)))])
 (.lp 0 (.norm false [0,5,6,7]) l285_0 (.norm false [5])))
 (.seq
 (.reg [mv 52 5,mv 2 52,rg 3 (.mov (.c (.i .i64 0))),rg 4 (.mov (.c (.i .i64 0)))])
 (.pre (.norm false [2,3,4]) .ret)))))))
def row285:AFx:=⟨1,53,[.t 2,.t 3,.t 4],b285,none,false⟩
class Zbn (T:Tbl):Prop where
 h285:T 285=some row285
section
variable{T:Tbl}[Zbn T]{d:Option Nat}{st:St}{xs:List AV}{ps:List Opd}{e:Env}{h:Heap}{ol:List Heap}
@[simp] theorem x285:Zd (orc T) T 285 xs d st=cP T 285 false xs d st:=zaa Zbn.h285
end
end Go.Ab
end
section
namespace Go.Ab
def b245:AX:=
 (.seq
 (.reg [rg 1 (.xop (.box 3) [(.t 0)]),rg 2 (.mov (.c (.i .i64 0)))])
 (.seq
 (.drawT [rg 3 (.fad 1 (.t 1)),rg 4 (.load none (.t 3)),rg 5 (.call 95 [(.t 4)]),rg 6 (.fad 2 (.t 1)),rg 7 (.load none (.t 6))]
 [rg 8 (.call 95 [(.t 7)]),rg 9 (.bin .add (.t 5) (.t 8)),mv 2 9])
 (.pre (.norm false [2]) .ret)))
def row245:AFx:=⟨1,10,[.t 2],b245,none,false⟩
class Zei (T:Tbl):Prop where
 h245:T 245=some row245
section
variable{T:Tbl}[Zei T]{d:Option Nat}{st:St}{xs:List AV}{ps:List Opd}{e:Env}{h:Heap}{ol:List Heap}
@[simp] theorem x245:Zd (orc T) T 245 xs d st=cP T 245 false xs d st:=zaa Zei.h245
end
end Go.Ab
end
section
namespace Go.Ab
class Zlc (T:Tbl):Prop where
end Go.Ab
end
section
namespace Go.Ab
class Zf0 (T:Tbl):Prop where
end Go.Ab
end