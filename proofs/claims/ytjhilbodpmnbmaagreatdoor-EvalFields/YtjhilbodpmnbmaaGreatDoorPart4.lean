/-
  A calculus of values, boxes and code, and what functions of the program compute, proved in it.
  Conditions: none beyond those that the theorems state. (Part 4.)
-/
import Derived.Test.YtjhilbodpmnbmaaGreatDoorPart3

set_option linter.unusedSectionVars false
set_option linter.unusedVariables false
set_option linter.unusedSimpArgs false
set_option linter.unnecessarySimpa false

namespace Go.Ab
theorem zzf{vA vA' t p V x r vb vm T:Nat}(h0:vA=t+p*V)(h1:vA'=t+p*r)(hV:V=vb*x+r)(hT:T=vA+p*4294967296*(vm*vb)) :
  T=vA'+p*((x+4294967296*vm)*vb):=by grind
theorem zv0{V b x Bo vm p:Nat}(hb:0<b)(h1:V/b≤x)(h2:x≤V/b+1)(_hp:V<p)(hm:vm<p)(hBo:Bo≤1)(h:vm+x*b=V+p*Bo) :
  (Bo=0→x=V/b∧vm=V%b)∧(Bo=1→x=V/b+1∧vm+b=V%b+p):=by
 have hd:=Ybd V b;have hmod:=Ya5 V hb;rw[Yai]at hd;constructor
 ·intro h0;subst h0;rw[Yah,Yt]at h;have hx:x=V/b:=by
   have:x*b≤V:=by omega
   have:=(Ycg hb).2 this;omega
  subst hx;exact⟨rfl,by omega⟩
 ·intro h0;subst h0;rw[Ycq]at h;have hx:x=V/b+1:=by
   rcases Yp (V/b) x with h3 | h3
   ·omega
   ·have h4:x=V/b:=by omega
    subst h4;omega
  subst hx;rw[Ybp,Yc2]at h;exact⟨rfl,by omega⟩
theorem zv1{vm b r p D vm':Nat}(_hr:r<p)(h:vm+b=r+p)(hm:vm'<p)(hD:D≤1)(hg:vm'+p*D=vm+b):vm'=r:=by
 rcases Yat D with h0 | h0
 ·subst h0;omega
 ·have:D=1:=by omega
  subst this;omega
theorem zmw{α:Type}{A:List α}{i k:Nat}(h:i=k)(hi:i<A.length)(hk:k<A.length):A[i]'hi=A[k]'hk:=by subst h;rfl
theorem zk1(A:List UInt32)(j n:Nat):val (A.drop j)=val ((A.drop j).take n)+4294967296^((A.drop j).take n).length*val (A.drop (j+n)):=by
 conv=>lhs;rw[←Yao n (A.drop j),zah]
 rw[Ydy]
theorem zsd{q x:Nat}(h:x=q+1)(hx:x<4294967296):Zf4 x 1=q:=by unfold Zf4;omega
theorem zv2{A m1:List UInt32}{j n:Nat}(hm1:m1.length=n+1)(hj:j+n<A.length) :
  (A.take j++(m1++A.drop (j+(n+1)))).take j=A.take j∧(A.take j++(m1++A.drop (j+(n+1)))).drop (j+(n+1))=A.drop (j+(n+1)) ∧
  ((A.take j++(m1++A.drop (j+(n+1)))).drop j).take (n+1)=m1∧(A.take j++(m1++A.drop (j+(n+1)))).length=A.length:=by
 have htj:(A.take j).length=j:=by simp;omega
 refine⟨?_,?_,?_,?_⟩
 ·rw[Yb4 (by omega),Yb (by omega)]
 ·rw[←Ydy,Ybh (by omega),Yak (l:=A.take j) (by omega),Ya8,Ybh (by omega),Yak (by omega),Ya8]
 ·rw[Ybh (by omega),Yak (l:=A.take j) (by omega),Ya8,Yb4 (by omega),Yb (by omega)]
 ·simp[hm1];omega
theorem zv3{D:List UInt32}{n:Nat}(h:n+2<D.length):val (D.take (n+3))=(((D[n+2]'h).toNat*4294967296+(D[n+1]'(by omega)).toNat)*4294967296+(D[n]'(by omega)).toNat)*4294967296^n+val (D.take n):=by
 rw[zaf (Ya h),zaf (Ya (show n+1<D.length by omega)),zaf (Ya (show n<D.length by omega)),Yy 4294967296 (n+1),Yy];generalize 4294967296^n=p
 grind
theorem z3a{D:List UInt32}{n:Nat}(h:n+1<D.length):val (D.take (n+2))=((D[n+1]'h).toNat*4294967296+(D[n]'(by omega)).toNat)*4294967296^n+val (D.take n):=by
 rw[zaf (Ya h),zaf (Ya (show n<D.length by omega)),Yy];generalize 4294967296^n=p
 grind
section
variable{T:Tbl}[Zp T][Zq T]
theorem zse(A b:List UInt32)(j x:Nat)(hx:x<4294967296)(hj:j+b.length<A.length)(hl:A.length≤1000000) :
  ∃(B:Nat) (m:List UInt32),B≤1∧m.length=b.length+1∧val m+x*val b=val ((A.drop j).take (b.length+1))+4294967296^(b.length+1)*B ∧
   Z6 T 120 [.bs (.bor 0) 0 1 0 A.length,.i .i64 j,.sl (Za b) .an,u32 x] [(.bor 0,⟨0,.own,1,Za A⟩)] =
    some (.b (decide (0<B)),[(.bor 0,⟨0,.own,1,Za (A.take j++(m++A.drop (j+(b.length+1))))⟩)]):=by
 have h1:(A.take j).length=j:=by simp;omega
 have h2:(A.drop j).length=A.length-j:=by simp
 obtain⟨B,m,hB,hm,hv,hc⟩:=zwa (T:=T) (A.take j) (A.drop j) b x hx (by omega) (by omega);rw[h1,h2,show j+(A.length-j)=A.length by omega,Yao,Ydy]at hc;exact⟨B,m,hB,hm,hv,hc⟩
end
section
variable{T:Tbl}[Zp T][Zq T]
theorem zsf(A b:List UInt32)(j:Nat)(hj:j+b.length<A.length)(hl:A.length≤1000000) :
  ∃(D:Nat) (m:List UInt32),D≤1∧m.length=b.length+1∧val m+4294967296^(b.length+1)*D=val ((A.drop j).take (b.length+1))+val b ∧
   Z6 T 121 [.bs (.bor 0) 0 1 0 A.length,.i .i64 j,.sl (Za b) .an] [(.bor 0,⟨0,.own,1,Za A⟩)] =
    some (.tup [],[(.bor 0,⟨0,.own,1,Za (A.take j++(m++A.drop (j+(b.length+1))))⟩)]):=by
 have h1:(A.take j).length=j:=by simp;omega
 have h2:(A.drop j).length=A.length-j:=by simp
 obtain⟨D,m,hD,hm,hv,hc⟩:=zwb (T:=T) (A.take j) (A.drop j) b (by omega) (by omega);rw[h1,h2,show j+(A.length-j)=A.length by omega,Yao,Ydy]at hc;exact⟨D,m,hD,hm,hv,hc⟩
end
section
variable{T:Tbl}[Zp T][Z3 T][Z0 T][Zq T]
def Zi9(b:List UInt32)(LA LQ:Nat)(y:Nat×List UInt32×List UInt32):St:=
 ⟨[(0,.bs (.bor 0) 0 1 0 LA),(1,.sl (Za b) .an),(5,.i .i64 b.length),(6,.bs (.loc 15) 3 1 0 LQ),(7,.i .i64 ((y.1:Int)-1))],
  [(.bor 0,⟨0,.own,1,Za y.2.1⟩),(.loc 15,⟨3,.own,1,Za (List.replicate y.1 0++y.2.2)⟩)],5⟩
end
section
variable{T:Tbl}[Zp T][Zq T]
set_option maxHeartbeats 2000000 in
theorem z3b(A0 b:List UInt32)(LQ nb:Nat)(hnb:b.length=nb+2)(hb1:0<(b[nb+1]'(by omega)).toNat)(hl:A0.length≤1000000)(hA0:A0.length=LQ+b.length):∀y:Nat×List UInt32×List UInt32,
  (y.1≤LQ∧y.2.1.length=A0.length∧y.2.2.length=LQ-y.1∧val (y.2.1.drop y.1)<val b∧val A0=val y.2.1+4294967296^y.1*(val y.2.2*val b)) →
  ∃r,(∃Q A:List UInt32,r=(Ex.n,(⟨[(6,.bs (.loc 15) 3 1 0 LQ)],[(.bor 0,⟨0,.own,1,Za A⟩),(.loc 15,⟨3,.own,1,Za Q⟩)],5⟩:St)) ∧
   Q.length=LQ∧A.length=A0.length∧val Q=val A0/val b∧val A=val A0%val b)∧Ze T 1 0 (.norm false [6]) l93_0 (Zi9 b A0.length LQ y)=some r:=by
 refine zam _ _ (fun y=>y.1) _ ?_
 rintro⟨k,A,m⟩ ⟨hk,hA,hm,hlt,hv⟩
 simp only at hk hA hm hlt hv;have hbp:0<val b:=by omega
 cases k with
 | zero=>
  right;rw[Yc1,Yc2]at hv;rw[Yae]at hlt;refine⟨_,⟨m,A,rfl,by omega,hA,?_,?_⟩,?_,?_⟩
  ·rw[hv,Nat.add_mul_div_right _ _ hbp,Ybc hlt,Yax]
  ·rw[hv,Yel,Yi hlt]
  ·simp -implicitDefEqProofs[l93_0,Zi9]
  ·simp -implicitDefEqProofs[l93_0,Zi9]
 | succ j=>
  left
  -- the window
  have hD:(A.drop j).length=A.length-j:=by simp
  have hDn:nb+2<(A.drop j).length:=by omega
  have hVlt:val (A.drop j)<4294967296*val b:=by
   have:=Yd (show j<A.length by omega);rw[this,zai];have:=zaj (A[j]'(by omega));omega
  have hbB:=za0 b;rw[hnb]at hbB;have hsplit:=zk1 A j (nb+3);have hlen3:((A.drop j).take (nb+3)).length=nb+3:=by simp;omega
  rw[hlen3]at hsplit;have hz:val (A.drop (j+(nb+3)))=0:=by
   rcases Yat (val (A.drop (j+(nb+3)))) with h | h
   ·exact h
   ·exfalso;have h1:=Yaw (4294967296^(nb+3)) h;rw[Yy 4294967296 (nb+2)]at h1 hsplit;generalize 4294967296^(nb+2)=p at *
    generalize p*4294967296*val (A.drop (j+(nb+3)))=u at *
    omega
  rw[hz,Yah,Yt]at hsplit;have h3:=zv3 hDn;have h2:=z3a (D:=b) (n:=nb) (by omega);rw[za9 (a:=b) (i:=nb+2) (by omega)]at h2;have hv0:=za0 ((A.drop j).take nb);have hb0:=za0 (b.take nb);rw[show ((A.drop j).take nb).length=nb by simp;omega]at hv0;rw[show (b.take nb).length=nb by simp;omega]at hb0;obtain⟨V,hV⟩:∃V,V=val (A.drop j):=⟨_,rfl⟩;rw[←hV]at hsplit hVlt;rw[←hsplit]at h3;have hg:=zxj (V:=V) (b:=val b) h3 hv0 h2 hb0 (by omega) hVlt;obtain⟨p0,hp0⟩:∃p,p=j+b.length:=⟨_,rfl⟩;obtain⟨p1,hp1⟩:∃p,p=j+(nb+1):=⟨_,rfl⟩;obtain⟨p2,hp2⟩:∃p,p=j+nb:=⟨_,rfl⟩;obtain⟨q1,hq1⟩:∃p,p=nb+1:=⟨_,rfl⟩;have c1:p0<A.length:=by omega
  have c2:p1<A.length:=by omega
  have c3:p2<A.length:=by omega
  have c4:q1<b.length:=by omega
  have c5:nb<b.length:=by omega
  have e1:(A.drop j)[nb+2]'hDn=A[p0]'c1:=Yex.trans (zmw (by omega) _ _);have e2:(A.drop j)[nb+1]'(by omega)=A[p1]'c2:=Yex.trans (zmw (by omega) _ _);have e3:(A.drop j)[nb]'(by omega)=A[p2]'c3:=Yex.trans (zmw (by omega) _ _);have e4:b[nb+1]'(by omega)=b[q1]'c4:=zmw (by omega) _ _;rw[e1,e2,e3,e4]at hg;rw[e4]at hb1;have hgs:=zr6 (T:=T) (A[p0]'c1).toNat (A[p1]'c2).toNat (A[p2]'c3).toNat (b[q1]'c4).toNat (b[nb]'c5).toNat (zaj _) (zaj _) (zaj _) (zaj _) (zaj _) hb1;obtain⟨x,hxd⟩:∃x,x=min 4294967295 ((((A[p0]'c1).toNat*4294967296+(A[p1]'c2).toNat)*4294967296+(A[p2]'c3).toNat)/((b[q1]'c4).toNat*4294967296+(b[nb]'c5).toNat)):=⟨_,rfl⟩;rw[←hxd]at hg hgs;have hx:x<4294967296:=by rw[hxd];exact Ycf (Yfa _ _) (by decide)
  clear hxd;obtain⟨Bo,m1,hBo,hm1,hvm1,hct⟩:=zse (T:=T) A b j x hx (by omega) (by omega);rw[hnb,show nb+2+1=nb+3 from rfl,←hsplit]at hvm1;have hm1l:=za0 m1;rw[hm1,hnb,show nb+2+1=nb+3 from rfl]at hm1l;have hVp:V<4294967296^(nb+3):=by
   rw[Yy 4294967296 (nb+2)];generalize 4294967296^(nb+2)=p at *
   omega
  have hpk:=zv0 hbp hg.1 hg.2 hVp hm1l hBo hvm1;have hql:V/val b<4294967296:=Ybe (by rw[Yai];exact hVlt);have hzb:val (A.drop (j+(b.length+1)))=0:=by rw[hnb];exact hz
  have htj:(A.take j).length=j:=by simp;omega
  have fin:∀m2:List UInt32,m2.length=b.length+1→val m2=V%val b →
    (A.take j++(m2++A.drop (j+(b.length+1)))).length=A0.length∧val ((A.take j++(m2++A.drop (j+(b.length+1)))).drop j)<val b ∧
    val A0=val (A.take j++(m2++A.drop (j+(b.length+1))))+4294967296^j*(val (w32 (V/val b)::m)*val b):=by
   intro m2 hm2 hvm2;refine⟨by simp[hm2];omega,?_,?_⟩
   ·rw[Ybh (by omega),Yak (by omega),Ya8,zah,hzb,Yah,Yt,hvm2];exact Ya5 _ hbp
   ·have t1:val A=val (A.take j)+4294967296^j*V:=by rw[hV];exact zni A j (by omega)
    have t2:val (A.take j++(m2++A.drop (j+(b.length+1))))=val (A.take j)+4294967296^j*(V%val b):=by
     rw[zah,zah,hzb,Yah,Yt,hvm2,htj]
    rw[zai,zag hql];exact zzf t1 t2 (Ybd V (val b)).symm hv
  clear hv hvm1 hsplit h3 h2 hg hbB hVlt hlt hzb hz hv0 hb0 hm1l hVp;have hw1:IntKind.wrap .i64 ((j:Int)-1)=(j:Int)-1:=zac _ (by omega);have hw2:IntKind.wrap .i64 ((j:Int)+b.length)=((p0:Nat):Int):=by rw[zac _ (by omega)];omega
  have hw3:IntKind.wrap .i64 ((p0:Int)-1)=((p1:Nat):Int):=by rw[zac _ (by omega)];omega
  have hw4:IntKind.wrap .i64 ((p0:Int)-2)=((p2:Nat):Int):=by rw[zac _ (by omega)];omega
  have hw5:IntKind.wrap .i64 ((b.length:Int)-1)=((q1:Nat):Int):=by rw[zac _ (by omega)];omega
  have hw6:IntKind.wrap .i64 ((b.length:Int)-2)=((nb:Nat):Int):=by rw[zac _ (by omega)];omega
  have hj1:j<LQ:=by omega
  rw[hA]at hct;have hml:(w32 (V/val b)::m).length=LQ-j:=by simp[hm];omega
  have hjb:j+b.length<A.length:=by omega
  have hnb3:nb+3=b.length+1:=by omega
  have d1:p0<A0.length:=by omega
  have d2:p1<A0.length:=by omega
  have d3:p2<A0.length:=by omega
  rcases Yat Bo with h0 | h0
  ·obtain⟨hxq,hvm⟩:=hpk.1 h0;subst h0;subst hxq;have hset:=zk2 (m:=m) (j:=j) (w32 (V/val b));obtain⟨f1,f2,f3⟩:=fin m1 hm1 hvm;refine⟨(j,A.take j++(m1++A.drop (j+(b.length+1))),w32 (V/val b)::m),⟨Yb8 hj1,f1,hml,f2,f3⟩,Y6 j,?_⟩;simp -implicitDefEqProofs[l93_0,Zi9,hw1,hw2,hw3,hw4,hw5,hw6,c4,c5,d1,d2,d3,hA,hj1,hgs,hct,hset,zk3,zba _ _ _ hx]
  ·have h1:Bo=1:=by omega
   obtain⟨hxq,hvm⟩:=hpk.2 h1;subst h1;have hset:=zk2 (m:=m) (j:=j) (w32 (V/val b));obtain⟨t1,t2,t3,t4⟩:=zv2 (A:=A) hm1 hjb;rw[hA]at t4;obtain⟨D,m2,hD,hm2,hvm2,hcg⟩:=zsf (T:=T) (A.take j++(m1++A.drop (j+(b.length+1)))) b j (by rw[t4,←hA];exact hjb) (by rw[t4];exact hl);rw[t1,t2,t4]at hcg;rw[t3]at hvm2;have hm2l:=za0 m2;rw[hm2]at hm2l;have hVb:=Ya5 V hbp;have hbq:val b<4294967296^(b.length+1):=Y1 (za0 b) (Y4 (by decide) (Ybw _));rw[hnb3]at hvm;have hv2:=zv1 (Nat.lt_trans hVb hbq) hvm hm2l hD hvm2;have hsx:=zsd hxq hx;obtain⟨f1,f2,f3⟩:=fin m2 hm2 hv2;refine⟨(j,A.take j++(m2++A.drop (j+(b.length+1))),w32 (V/val b)::m),⟨Yb8 hj1,f1,hml,f2,f3⟩,Y6 j,?_⟩;simp -implicitDefEqProofs[l93_0,Zi9,hw1,hw2,hw3,hw4,hw5,hw6,c4,c5,d1,d2,d3,hA,hj1,hgs,hct,hsx,hcg,hset,zk3,zba _ _ _ hql]
end
section
variable{T:Tbl}[Zp T][Zq T]
theorem zv4(A b:List UInt32)(LQ nb:Nat)(hnb:b.length=nb+2)(hb1:0<(b[nb+1]'(by omega)).toNat)(hl:A.length≤1000000)(hA:A.length=LQ+b.length)(hlt:val (A.drop LQ)<val b) :
  ∃Q R:List UInt32,Q.length=LQ∧R.length=A.length∧val Q=val A/val b∧val R=val A%val b ∧
   Z6 T 93 [.bs (.bor 0) 0 1 0 A.length,.sl (Za b) .an] [(.bor 0,⟨0,.own,1,Za A⟩)]=some (.bs (.loc 15) 3 1 0 LQ,[(.bor 0,⟨0,.own,1,Za R⟩),(.loc 15,⟨3,.own,1,Za Q⟩)]):=by
 obtain⟨_,⟨Q,R,rfl,hQ,hR,hq,hr⟩,hlp⟩:=z3b (T:=T) A b LQ nb hnb hb1 hl hA (LQ,A,[]) ⟨Yg _,rfl,by simp,hlt,by simp⟩;have hw:IntKind.wrap .i64 ((A.length:Int)-b.length)=(LQ:Int):=by rw[zac _ (by omega)];omega
 have hw1:IntKind.wrap .i64 ((LQ:Int)-1)=(LQ:Int)-1:=zac _ (by omega);have h1:(LQ:Int)≤4294967296:=by omega
 refine⟨Q,R,hQ,hR,hq,hr,?_⟩;unfold Zi9 at hlp;simp at hlp;rw[zao Zq.h93 rfl,b93];simp -implicitDefEqProofs[hw,hw1,h1,hlp]
end
def b2071:AX:=
 (.seq
 (.reg [rg 2 (.mov (.c (.sl [] .nl)))])
 (.seq
 (.reg [mv 3 0,rg 4 (.call 86 [(.t 3)]),rg 5 (.call 2106 [(.t 4),(.c (.i .i64 0))]),mv 2 5])
 (.pre (.norm false [2]) .ret)))
def l2092_0:AX:=
 (.note
 (.seq
 (.reg [rg 27 (.bin .lss (.t 26) (.t 25))])
 (.seq
 (.cond (.t 27)
 .skip
 (.exit 0))
 (.seq
 (.block 1
 (.seq
 (.reg [mv 28 26,rg 29 (.iad 1 (.t 24) (.t 26)),rg 30 (.load none (.t 29)),mv 8 28,mv 9 30])
 (.seq
 (.reg [mv 31 9,rg 32 (.conv .u64 (.t 31)),mv 33 6,rg 34 (.bin .shl (.t 32) (.t 33)),mv 10 34])
 (.seq
 (.reg [mv 35 7,mv 36 5,mv 37 8,rg 38 (.bin .add (.t 36) (.t 37)),rg 39 (.iad 1 (.t 35) (.t 38)),rg 40 (.load none (.t 39)),mv 41 10,rg 42 (.conv .u32 (.t 41)),rg 43 (.bin .or (.t 40) (.t 42)),rg 44 (.iad 1 (.t 35) (.t 38)),so (.store 1 (.t 44) (.t 43))])
 (.reg [mv 45 7,mv 46 5,mv 47 8,rg 48 (.bin .add (.t 46) (.t 47)),rg 49 (.bin .add (.t 48) (.c (.i .i64 1))),mv 50 10,rg 51 (.bin .shr (.t 50) (.c (u64 32))),rg 52 (.conv .u32 (.t 51)),rg 53 (.iad 1 (.t 45) (.t 49)),so (.store 1 (.t 53) (.t 52))])))))
 (.reg [rg 54 (.bin .add (.t 26) (.c (.i .i64 1))),mv 26 54]))))
 (.norm false [5,6,7,24,25,26]))
def b2092:AX:=
 (.seq
 (.reg [rg 4 (.mov (.c (.sl [] .nl)))])
 (.seq
 (.reg [mv 11 1,rg 12 (.mm true [(.t 11),(.c (.i .i64 0))]),rg 13 (.mm false [(.t 12),(.c (.i .i64 4096))]),mv 1 13])
 (.seq
 (.reg [mv 14 1,rg 15 (.bin .quo (.t 14) (.c (.i .i64 32))),mv 16 1,rg 17 (.bin .rem (.t 16) (.c (.i .i64 32))),mv 5 15,mv 6 17])
 (.seq
 (.reg [mv 18 5,mv 19 0,rg 20 (.len (.t 19)),rg 21 (.bin .add (.t 18) (.t 20)),rg 22 (.bin .add (.t 21) (.c (.i .i64 1))),rg 23 (.mks 1 [(u32 0)] (.t 22) (.t 22)),mv 7 23])
 (.seq
 (.seq
 (.reg [mv 24 0,rg 25 (.len (.t 24)),rg 26 (.mov (.c (.i .i64 0)))])
 (.lp 0 (.norm false [5,6,7,24,25,26]) l2092_0 (.norm false [7])))
 (.seq
 (.reg [mv 55 7,rg 56 (.call 2071 [(.t 55)]),mv 4 56])
 (.pre (.norm false [4]) .ret)))))))
def b62:AX:=
 (.seq
 (.reg [rg 4 (.mov (.c (.sl [] .nl))),rg 5 (.mov (.c (.sl [] .nl))),rg 6 (.mov (.c (.b false)))])
 (.seq
 (.reg [mv 12 1,rg 13 (.call 71 [(.t 12)]),mv 1 13])
 (.seq
 (.block 0
 (.seq
 (.reg [mv 15 1,rg 16 (.len (.t 15)),rg 17 (.bin .eql (.t 16) (.c (.i .i64 0))),mv 14 17])
 (.cond (.t 14)
 (.seq
 (.reg [rg 4 (.mov (.c (.sl [] .nl))),rg 5 (.mov (.c (.sl [] .nl))),rg 6 (.mov (.c (.b false)))])
 (.pre (.norm false [4,5,6]) .ret))
 (.seq
 (.reg [mv 19 0,mv 20 1,rg 21 (.call 87 [(.t 19),(.t 20)]),rg 22 (.bin .lss (.t 21) (.c (.i .i64 0))),mv 18 22])
 (.cond (.t 18)
 (.seq
 (.reg [mv 23 0,rg 24 (.call 71 [(.t 23)]),rg 4 (.mov (.c (.sl [] .nl))),mv 5 24,rg 6 (.mov (.c (.b true)))])
 (.pre (.norm false [4,5,6]) .ret))
 (.seq
 (.reg [mv 26 1,rg 27 (.len (.t 26)),rg 28 (.bin .eql (.t 27) (.c (.i .i64 1))),mv 25 28])
 (.cond (.t 25)
 (.seq
 (.reg [mv 30 0,mv 31 1,rg 32 (.iad 1 (.t 31) (.c (.i .i64 0))),rg 33 (.load none (.t 32)),rg 34 (.call 90 [(.t 30),(.t 33)]),mv 29 34,rg 35 (.ext (.t 29) 0),rg 36 (.ext (.t 29) 1),rg 37 (.ext (.t 29) 2),mv 7 35,mv 8 36,mv 9 37])
 (.seq
 (.reg [mv 38 7,mv 39 8,rg 40 (.conv .u64 (.t 39)),rg 41 (.call 72 [(.t 40)]),mv 4 38,mv 5 41,rg 6 (.mov (.c (.b true)))])
 (.pre (.norm false [4,5,6]) .ret)))
 .skip)))))))
 (.seq
 (.reg [mv 42 1,mv 43 1,rg 44 (.len (.t 43)),rg 45 (.bin .sub (.t 44) (.c (.i .i64 1))),rg 46 (.iad 1 (.t 42) (.t 45)),rg 47 (.load none (.t 46)),rg 48 (.call 91 [(.t 47)]),rg 49 (.bin .sub (.c (.i .i64 32)) (.t 48)),mv 10 49])
 (.seq
 (.reg [mv 50 0,mv 51 10,rg 52 (.call 2092 [(.t 50),(.t 51)]),rg 53 (.bsl 1 [(u32 0)] 1 [(0,(.c (u32 0)))]),rg 54 (.app 1 (.t 52) (.t 53)),mv 11 54])
 (.seq
 (.reg [mv 55 11,mv 56 1,mv 57 10,rg 58 (.call 2092 [(.t 56),(.t 57)]),rg 59 (.call 93 [(.t 55),(.t 58)]),mv 4 59])
 (.seq
 (.reg [mv 60 4,rg 61 (.call 71 [(.t 60)]),mv 62 11,mv 63 10,rg 64 (.call 94 [(.t 62),(.t 63)]),mv 4 61,mv 5 64,rg 6 (.mov (.c (.b true)))])
 (.pre (.norm false [4,5,6]) .ret))))))))
def row2071:AFx:=⟨1,6,[.t 2],b2071,(some [false]),false⟩
def row2092:AFx:=⟨2,57,[.t 4],b2092,(some [false,false]),false⟩
def row62:AFx:=⟨2,65,[.t 4,.t 5,.t 6],b62,none,false⟩
class Zu (T:Tbl):Prop where
 h2071:T 2071=some row2071
 h2092:T 2092=some row2092
 h62:T 62=some row62
section
variable{T:Tbl}[Zu T]{d:Option Nat}{st:St}
@[simp] theorem x2071(xs:List AV):Zc (orc T) T 2071 xs d st=bL (Zdm st.heap [false] xs) fun ys=>Zc8 ys (Zg (Zak [false] xs) st.heap) (reach (Zg (Zak [false] xs) st.heap) 40 (Zb1 [false] xs) []) T 2071 false d st:=zap Zu.h2071
@[simp] theorem x2092(xs:List AV):Zc (orc T) T 2092 xs d st=bL (Zdm st.heap [false,false] xs) fun ys=>Zc8 ys (Zg (Zak [false,false] xs) st.heap) (reach (Zg (Zak [false,false] xs) st.heap) 40 (Zb1 [false,false] xs) []) T 2092 false d st:=zap Zu.h2092
@[simp] theorem x62(xs:List AV):Zc (orc T) T 62 xs d st=cP T 62 false xs d st:=zaa Zu.h62
end
theorem z3g(x:Nat):x<2^Zao x:=by
 unfold Zao;split
 ·subst x;decide
 ·exact Ye4
theorem zwc{x:Nat}(h:x<4294967296):Zao x≤32:=by
 unfold Zao;split
 ·omega
 ·rename_i h0;have:=(Ye1 h0 (k:=32)).2 (by simpa using h);omega
theorem z1a{n k:Nat}(h:(ofN n).length=k+1):4294967296^k≤n:=by
 rcases Yp n (4294967296^k) with h1 | h1
 ·have:=zas h1;omega
 ·exact h1
theorem z82{b:List UInt32}{nb:Nat}(h:b.length=nb+2)(hb:b=ofN (val b)) :
  (ofN (val b*2^(32-Zao (b[nb+1]'(by omega)).toNat))).length=nb+2:=by
 have hl:=zwc (zaj (b[nb+1]'(by omega)));have hs:=z3g (b[nb+1]'(by omega)).toNat;have h1:val b=val (b.take (nb+1))+4294967296^(nb+1)*(b[nb+1]'(by omega)).toNat:=by
  have:=zaf (Ya (show nb+1<b.length by omega))
  rwa [za9 (by omega)]at this
 have h2:=za0 (b.take (nb+1));rw[show (b.take (nb+1)).length=nb+1 by simp;omega]at h2;generalize (b[nb+1]'(by omega)).toNat=t at *
 refine Nat.le_antisymm (zas ?_) ?_
 ·have h3:val b<4294967296^(nb+1)*2^Zao t:=by
   have:4294967296^(nb+1)*(t+1)≤4294967296^(nb+1)*2^Zao t:=Yaw _ hs;rw[Yu,Ycq]at this;omega
  have h4:2^Zao t*2^(32-Zao t)=4294967296:=by
   rw[←Ybj,show Zao t+(32-Zao t)=32 by omega]
  have h5:=Yej h3 (Ya4 (n:=32-Zao t) (show 0<2 by decide));rw[Yz,h4,←Yy]at h5;exact h5
 ·have h3:val b≤val b*2^(32-Zao t):=Ycm _ (Ya4 (by decide));have:=zaq h3;rw[←hb]at this;omega
theorem z3h{b:List UInt32}{nb:Nat}(h:b.length=nb+2)(hb:b=ofN (val b)):0<(b[nb+1]'(by omega)).toNat:=by
 have h1:val b=val (b.take (nb+1))+4294967296^(nb+1)*(b[nb+1]'(by omega)).toNat:=by
  have:=zaf (Ya (show nb+1<b.length by omega))
  rwa [za9 (by omega)]at this
 have h2:=za0 (b.take (nb+1));rw[show (b.take (nb+1)).length=nb+1 by simp;omega]at h2;have h3:4294967296^(nb+1)≤val b:=z1a (by rw[←hb];omega);rcases Yat (b[nb+1]'(by omega)).toNat with h0 | h0
 ·rw[h0,Yah]at h1;omega
 ·exact h0
theorem zh2(l:List UInt32):val (l++[0])=val l:=by rw[zah];simp
theorem z83{A b:List UInt32}{nb L:Nat}(hA:(A++[0]).length=L+b.length)(hb:b.length=nb+2)(hbo:b=ofN (val b)):val ((A++[0]).drop L)<val b:=by
 have hl:L≤A.length:=by simp at hA;omega
 rw[Ybh hl,zh2];have h1:=za0 (A.drop L);have h2:(A.drop L).length=nb+1:=by simp at hA ⊢;omega
 rw[h2]at h1;exact Y1 h1 (z1a (by rw[←hbo];omega))
section
variable{T:Tbl}[Zp T][Zu T]
theorem zm2(a:List UInt32)(hl:a.length≤1000000):Z6 T 2071 [.sl (Za a) .an] [] =
  some (.bs (.fld (.loc 5) 10) 1 1 0 (ofN (val a)).length,[(.fld (.loc 5) 10,⟨1,.own,1,Za (ofN (val a))⟩)]):=by
 have h1:=zad a;have h2:=zci (T:=T) (ofN (val a)) 0 (by omega);simp only[Yr,Yt,Yeh,Ya2]at h2;rw[zao Zu.h2071 rfl,b2071];simp -implicitDefEqProofs[zbo a (by omega),h2]
end
section
variable{T:Tbl}[Zp T][Zu T]
theorem zh3(a:List UInt32)(n:Nat)(hn:n≤4096)(hl:a.length≤100000):Z6 T 2092 [.sl (Za a) .an,.i .i64 n] [] =
  some (.bs (.fld (.fld (.loc 56) 0) 6010) 1 1 0 (ofN (val a*2^n)).length,[(.fld (.fld (.loc 56) 0) 6010,⟨1,.own,1,Za (ofN (val a*2^n))⟩)]):=by
 obtain⟨_,⟨c,m,rfl,hm,hc,hv⟩,hr⟩:=z38 (T:=T) (List.replicate (n/32) 0) a (n%32) (Ya5 _ (by decide)) (by simp;omega) (0,0,[]) ⟨Yq _,Ya4 (by decide),rfl,by simp⟩;have hc32:c<4294967296:=Y1 hc (by
  have:2^(n%32)≤2^32:=Y4 (by decide) (by omega);simpa using this)
 have hval:val (List.replicate (n/32) 0++(m++[w32 c]))=val a*2^n:=by
  rw[zah,zbg,Yb2,zah,hm];simp only[zai,za6,Yah,Yt,zag hc32,Yax];rw[hv,znh,←Yz,←Ybj,show 32*(n/32)+n%32=n by omega,Yai]
 have hlen:(List.replicate (n/32) 0++(m++[w32 c])).length=n/32+a.length+1:=by simp[hm];omega
 have hnm:=zm2 (T:=T) (List.replicate (n/32) 0++(m++[w32 c])) (by omega);rw[hval]at hnm;rw[show l92_0=l2092_0 from rfl]at hr;unfold Zks at hr;generalize List.replicate (n/32) 0++(m++[w32 c])=Q at *
 simp at hr;have hz:List.replicate (n/32) (0:UInt32)++w32 0::List.replicate a.length 0=List.replicate (n/32+a.length+1) 0:=by
  have:w32 0=0:=rfl;rw[this,←Ycr,List.replicate_append_replicate,Yal]
 rw[hz]at hr;have hn2:¬ (4096:Int)<(n:Int):=by omega
 have hq:(n:Int).tdiv 32=(n:Int)/32:=Yc9 (by omega);have hm2:(n:Int).tmod 32=(n:Int)%32:=Yda (by omega);have w1:IntKind.wrap .i64 ((n:Int)/32)=(n:Int)/32:=zac (n/32) (by omega);have w2:IntKind.wrap .i64 ((n:Int)/32+a.length)=(n:Int)/32+a.length:=zac _ (by omega);have w3:IntKind.wrap .i64 ((n:Int)/32+a.length+1)=(n:Int)/32+a.length+1:=zac _ (by omega);have p1:(0:Int)≤(n:Int)/32+a.length+1:=by omega
 have p2:(n:Int)/32+a.length+1≤4294967296:=by omega
 have p3:((n:Int)/32+a.length+1).toNat=n/32+a.length+1:=by omega
 have htk:List.take (n/32+a.length+1) Q=Q:=Yb (by omega);rw[zao Zu.h2092 rfl,b2092];simp -implicitDefEqProofs[hn2,hq,hm2,w1,w2,w3,p1,p2,p3,hr,hnm,htk,hlen]
end
section
variable{T:Tbl}[Zp T][Z3 T][Z0 T][Zq T][Zu T]
theorem zfq(a b:List UInt32)(ha:a.length≤90000)(hb:b.length≤90000):Zb T 62 [.sl (Za a) .an,.sl (Za b) .an] =
  some (if val b=0 then .tup [.sl [] .an,.sl [] .an,.b false] else .tup [.sl (Za (ofN (val a/val b))) .an,.sl (Za (ofN (val a%val b))) .an,.b true]):=by
 have hnb:=zbj (T:=T) b (by omega);have hna:=zbj (T:=T) a (by omega);have hlb:=zad b;have hla:=zad a;have hcmp:=zo1 (T:=T) a (ofN (val b)) (by omega) (by omega);rw[zae]at hcmp;rw[zab Zu.h62 rfl,b62];by_cases h0:val b=0
 ·rw[h0]at hnb;simp -implicitDefEqProofs[hnb,h0]
 ·have h0':ofN (val b)≠[]:=fun h=>h0 (zau.1 h);have hl0:(ofN (val b)).length≠0:=fun h=>h0' (Yav h);by_cases hlt:val a<val b
  ·have hd:=Ybc hlt;have hm:=Yi hlt;simp -implicitDefEqProofs[hnb,h0,hl0,hcmp,zct,hlt,hna,hd,hm]
  ·rcases Yp 1 (ofN (val b)).length with h1 | h1
   ·obtain⟨b',hb'⟩:∃b',b'=ofN (val b):=⟨_,rfl⟩;have hvb:val b'=val b:=by rw[hb',zae]
    have hbo:b'=ofN (val b'):=by rw[hvb,hb']
    rw[←hb']at hnb hcmp hl0 h1 hlb;obtain⟨nb,hnbl⟩:∃nb,b'.length=nb+2:=⟨b'.length-2,by omega⟩;have hll:=zqm (T:=T) (b'[nb+1]'(by omega));have hbl:=zwc (zaj (b'[nb+1]'(by omega)));have hup:=z82 hnbl hbo;obtain⟨s,hs⟩:∃s,s=32-Zao (b'[nb+1]'(by omega)).toNat:=⟨_,rfl⟩;obtain⟨l,hll2⟩:∃l,l=Zao (b'[nb+1]'(by omega)).toNat:=⟨_,rfl⟩;rw[←hs]at hup;rw[←hll2]at hll hs hbl;obtain⟨B,hB⟩:∃B,B=ofN (val b'*2^s):=⟨_,rfl⟩;obtain⟨A,hA⟩:∃A,A=ofN (val a*2^s):=⟨_,rfl⟩;have hua:=zh3 (T:=T) a s (by omega) (by omega);have hub:=zh3 (T:=T) b' s (by omega) (by omega);rw[←hA]at hua;rw[←hB]at hub hup;have hBo:B=ofN (val B):=by rw[hB,zae]
    have hvA:val A=val a*2^s:=by rw[hA,zae]
    have hvB:val B=val b'*2^s:=by rw[hB,zae]
    have hAB:B.length≤A.length:=by
     rw[hA,hB];exact zaq (Yaf _ (by omega))
    have hAl:A.length≤a.length+1:=by
     rw[hA];refine zas ?_;have h2:2^s≤2^32:=Y4 (by decide) (by omega);rw[Yy];exact Ycf (Yaw _ h2) (Yej (za0 a) (by decide))
    have hpos:=z3h (hup) hBo;obtain⟨Q,R,hQ,hR,hvQ,hvR,hlong⟩:=zv4 (T:=T) (A++[0]) B (A.length+1-B.length) nb hup hpos (by simp;omega) (by simp;omega) (z83 (by simp;omega) hup hBo);rw[zh2,hvA,hvB,hvb,Nat.mul_div_mul_right _ _ (Ya4 (by decide))]at hvQ;rw[zh2,hvA,hvB,hvb,Nat.mul_mod_mul_right]at hvR;have hnq:=zbj (T:=T) Q (by omega);have hAl1:(A++[(0:UInt32)]).length=A.length+1:=by simp
    rw[hAl1]at hlong hR;have hdn:=zxf (T:=T) R s (by omega) (by omega);rw[hvR,Nat.mul_div_cancel _ (Ya4 (by decide))]at hdn;rw[hvQ]at hnq;obtain⟨q1,hq1⟩:∃p,p=nb+1:=⟨_,rfl⟩;have c1:q1<b'.length:=by omega
    have hwt:b'[nb+1]'(by omega)=b'[q1]'c1:=zmw (by omega) _ _;rw[hwt]at hll;have w1:IntKind.wrap .i64 ((b'.length:Int)-1)=(q1:Int):=by rw[zac _ (by omega)];omega
    have w2:IntKind.wrap .i64 (32-(l:Int))=(s:Int):=by rw[zac _ (by omega)];omega
    have c3:A.length≤4294967295:=by omega
    have c4:w32 0=0:=rfl;have c5:A.length+1≤A.length+1-B.length+B.length:=by omega
    have c2:¬ ((b'.length:Int)=1):=by omega
    have t1:List.take (A.length+1) R=R:=Yb (by omega);have t2:List.take (A.length+1-B.length) Q=Q:=Yb (by omega);simp -implicitDefEqProofs[hnb,h0,hl0,hcmp,zct,hlt,w1,w2,c1,c2,c3,c4,c5,hll,hua,hub,hlong,hnq,hdn,t1,t2,hQ,hR]
   ·have hl1:(ofN (val b)).length=1:=by omega
    obtain⟨w,hw⟩:=Ybv.1 hl1;have hvb:val b=w.toNat:=by
     have:=zae (val b);rw[hw]at this;simp at this;omega
    have hwl:=zaj w;have hwd:=zmz (T:=T) a (val b) (by omega) (by omega) (by omega);have hof:=zh0 (T:=T) (val a%val b) (by have:=Ya5 (val a) (show 0<val b by omega);omega);have m1:val a%val b%18446744073709551616=val a%val b:=Yi (by have:=Ya5 (val a) (show 0<val b by omega);omega);rw[hw]at hnb hcmp;rw[←hvb]at hwl;simp -implicitDefEqProofs[hnb,h0,hcmp,zct,hlt,hwd,←hvb,hof,m1]
end
def Ziv(n:Nat):List UInt8:=if h:n<10 then [UInt8.ofNat (48+n)] else UInt8.ofNat (48+n%10)::Ziv (n/10)
termination_by n
decreasing_by omega
def Zbd(n:Nat):List UInt8:=(Ziv n).reverse
def Zff:List AV→Option UInt32
 | [.i .u32 n]=>if 0≤n∧n<4294967296 then some (w32 n.toNat) else none
 | _=>none
def prim68:List AV→Option AV
 | [.sl els .an]=>if els.length≤1000 then (els.mapM Zff).map fun l=>.s (Zbd (val l)) else none
 | _=>none
theorem zte(l:List UInt32):(Za l).mapM Zff=some l:=by
 induction l with
 | nil=>rfl
 | cons x l ih=>
  have hx:=zaj x;have h1:Zff [u32 x.toNat]=some x:=by
   unfold Zff u32;simp only;rw[if_pos ⟨by omega,by omega⟩];simp
  have e:Za (x::l)=[u32 x.toNat]::Za l:=rfl;rw[e,Yb0,h1,ih]
  rfl
theorem zxk(a:List UInt32)(h:a.length≤1000):prim68 [.sl (Za a) .an]=some (.s (Zbd (val a))):=by
 unfold prim68;simp only[zhu,h,if_true,zte,Yb1]
def Zl0:Nat→List UInt8→Int
 | _,[]=>-1
 | k,c::r=>if c.toNat<48∨57<c.toNat∨k=60 then k else Zl0 (k+1) r
def Ziw(l:List UInt8):Int:=if l=[] then 0 else Zl0 0 l
def rd(l:List UInt8):Nat:=l.foldl (fun n c=>n*10+(c.toNat-48)) 0
theorem zka{n:Nat}(h:n<10):Ziv n=[UInt8.ofNat (48+n)]:=by rw[Ziv,dif_pos h]
theorem zqv{n:Nat}(h:¬ n<10):Ziv n=UInt8.ofNat (48+n%10)::Ziv (n/10):=by rw[Ziv,dif_neg h]
theorem ze5{n:Nat}(h:n<10):Zbd n=[UInt8.ofNat (48+n)]:=by rw[Zbd,zka h];rfl
theorem znl{n:Nat}(h:¬ n<10):Zbd n=Zbd (n/10)++[UInt8.ofNat (48+n%10)]:=by rw[Zbd,zqv h];simp[Zbd]
def txN(n:Nat)(s:List UInt8):List UInt8:=if n=0∧s≠[] then s else Zbd n++s
theorem z0h(n:Nat)(s:List UInt8)(h:n≠0∨s=[]):txN (n/10) (UInt8.ofNat (48+n%10)::s)=txN n s:=by
 have h1:¬ (n=0∧s≠[]):=by rintro⟨rfl,h2⟩;rcases h with h | h;exact h rfl;exact h2 h
 unfold txN;rw[if_neg h1];by_cases hn:n<10
 ·have e1:n/10=0:=by omega
  have e2:n%10=n:=by omega
  rw[if_pos ⟨e1,by simp⟩,ze5 hn,e2]
  rfl
 ·have e1:¬ (n/10=0∧UInt8.ofNat (48+n%10)::s≠[]):=by omega
  rw[if_neg e1,znl hn];simp
theorem z0i(d:Nat)(h:d<10):(([48,49,50,51,52,53,54,55,56,57]:List UInt8).take (d+1)).drop d=[UInt8.ofNat (48+d)]:=by
 have:∀d,d<10→(([48,49,50,51,52,53,54,55,56,57]:List UInt8).take (d+1)).drop d=[UInt8.ofNat (48+d)]:=by decide
 exact this d h
def Zdc:Nat→Nat→List UInt8
 | 0,_=>[]
 | k+1,x=>Zdc k (x/10)++[UInt8.ofNat (48+x%10)]
def u8c(l:List UInt8):List AV:=l.map fun b=>u8 b.toNat
@[simp] theorem z59(l:List UInt8):(u8c l).length=l.length:=by simp[u8c]
@[simp] theorem zakc(l:List UInt8):(u8c l).flatMap rfC=[]:=by induction l with | nil=>rfl | cons x l ih=>simp[u8c]
@[simp] theorem zaho{σn:BId→BId}{σg:Nat→Nat}(l:List UInt8):(u8c l).map (fun c=>rlC σn σg (wkA c))=u8c l:=by induction l with | nil=>rfl | cons x l ih=>simp[u8c]
@[simp] theorem z0j(l:List UInt8):(u8c l).all pureC=true:=by induction l with | nil=>rfl | cons x l ih=>simp[u8c]
@[simp] theorem z9j(l:List UInt8):(∀x,x∈u8c l→pureC x=true)=True:=by
 have:=z0j l;rw[Yo]at this;simpa using this
theorem z4f{l:List UInt8}{j d:Nat}(h:d<256)(hj:j<l.length):(u8c l).take j++u8 d::(u8c l).drop (j+1)=u8c (l.set j (UInt8.ofNat d)):=by
 rw[Ydk,if_pos hj];simp[u8c,List.map_take,List.map_drop,Yi h]
theorem ze6:∀k x,(Zdc k x).length=k
 | 0,_=>rfl
 | k+1,x=>by simp[Zdc,ze6 k]
theorem zij(x:Nat):Zdc 0 x=[]:=rfl
theorem zd9(k x:Nat):Zdc (k+1) x=Zdc k (x/10)++[UInt8.ofNat (48+x%10)]:=rfl
theorem z0k{m:List UInt8}{j:Nat}(w:UInt8):(List.replicate (j+1) 0++m).set j w=List.replicate j 0++w::m:=by
 rw[List.set_append_left j w (by simp),Yd7,Yar j w (by simp)];simp
theorem z0l(m:List UInt8):((u8c m).map fun c=>[c]).mapM Zdo=some m:=by
 induction m with
 | nil=>rfl
 | cons b m ih=>
  have e:((u8c (b::m)).map fun c=>[c])=[u8 b.toNat]::((u8c m).map fun c=>[c]):=rfl;rw[e,Yb0,ih];simp[Zdo,u8]
def l101_0:AX:=
 (.note
 (.seq
 (.seq
 (.reg [mv 5 4,rg 6 (.bin .geq (.t 5) (.c (.i .i64 0)))])
 (.cond (.t 6)
 .skip
 (.exit 0)))
 (.seq
 (.block 1
 (.seq
 (.reg [mv 9 4,mv 10 0,rg 11 (.bin .rem (.t 10) (.c (u32 10))),rg 12 (.bin .add (.c (u32 48)) (.t 11)),rg 13 (.conv .u8 (.t 12)),rg 14 (.iaa 1 9 (.t 3) (.t 9)),so (.store 1 (.t 14) (.t 13))])
 (.reg [mv 15 0,rg 16 (.bin .quo (.t 15) (.c (u32 10))),mv 0 16])))
 (.reg [mv 7 4,rg 8 (.bin .sub (.t 7) (.c (.i .i64 1))),mv 4 8])))
 (.norm false [0,3,4]))
def b101:AX:=
 (.seq
 (.reg [rg 2 (.mov (.c (.s [])))])
 (.seq
 (.reg [rg 3 (.alloc [(u8 0),(u8 0),(u8 0),(u8 0),(u8 0),(u8 0),(u8 0),(u8 0),(u8 0)])])
 (.seq
 (.seq
 (.reg [rg 4 (.mov (.c (.i .i64 8)))])
 (.lp 0 (.norm false [0,3,4]) l101_0 (.norm false [3])))
 (.seq
 (.reg [rg 17 (.xop (.arsl 9) [(.t 3)]),rg 18 (.xop .bstr [(.t 17)]),mv 2 18])
 (.pre (.norm false [2]) .ret)))))
def row101:AFx:=⟨1,19,[.t 2],b101,none,false⟩
class Zcg (T:Tbl):Prop where
 h101:T 101=some row101
section
variable{T:Tbl}[Zcg T]{d:Option Nat}{st:St}
@[simp] theorem x101(xs:List AV):Zc (orc T) T 101 xs d st=cP T 101 false xs d st:=zaa Zcg.h101
end
def row68:AFx:=⟨0,0,[],.prim prim68,none,false⟩
class Zay (T:Tbl):Prop where
 h68:T 68=some row68
section
variable{T:Tbl}[Zay T]{d:Option Nat}{st:St}
@[simp] theorem x68(xs:List AV):Zc (orc T) T 68 xs d st=cP T 68 false xs d st:=zaa Zay.h68
theorem p68(xs:List AV):Zb T 68 xs=prim68 xs:=zjk Zay.h68
end
def b103:AX:=
 (.seq
 (.reg [rg 4 (.mov (.c (.s [])))])
 (.seq
 (.seq
 (.reg [mv 7 0,rg 8 (.bin .eql (.t 7) (.c (.s []))),mv 9 8,gd 10 9 false (.mov (.t 1)),gd 11 9 false (.bin .eql (.t 10) (.c (.s []))),rg 12 (.pick (.t 9) (.c (.b true)) (.t 11))])
 (.cond (.t 12)
 (.seq
 (.reg [mv 13 0,mv 4 13])
 (.pre (.norm false [4]) .ret))
 .skip))
 (.seq
 (.seq
 (.reg [mv 14 1,rg 15 (.lens (.t 14)),rg 16 (.bin .eql (.t 15) (.c (.i .i64 1))),mv 17 16,gd 18 17 true (.mov (.t 1)),gd 19 17 true (.ixs (.t 18) (.c (.i .i64 0))),gd 20 17 true (.bin .lss (.t 19) (.c (u8 128))),rg 21 (.pick (.t 17) (.t 20) (.c (.b false)))])
 (.cond (.t 21)
 (.seq
 (.reg [mv 22 0,mv 23 1,rg 24 (.ixs (.t 23) (.c (.i .i64 0))),rg 25 (.call 125 [(.t 22),(.t 24)]),mv 4 25])
 (.pre (.norm false [4]) .ret))
 .skip))
 (.seq
 (.seq
 (.reg [mv 27 1,rg 28 (.call 126 [(.t 27)]),mv 26 28,rg 29 (.ext (.t 26) 0),rg 30 (.ext (.t 26) 1),rg 5 (.alloc [(.b false),(.b false),(.b false),(.b false),(.b false),(.b false),(.b false),(.b false),(.b false),(.b false),(.b false),(.b false),(.b false),(.b false),(.b false),(.b false),(.b false),(.b false),(.b false),(.b false),(.b false),(.b false),(.b false),(.b false),(.b false),(.b false),(.b false),(.b false),(.b false),(.b false),(.b false),(.b false),(.b false),(.b false),(.b false),(.b false),(.b false),(.b false),(.b false),(.b false),(.b false),(.b false),(.b false),(.b false),(.b false),(.b false),(.b false),(.b false),(.b false),(.b false),(.b false),(.b false),(.b false),(.b false),(.b false),(.b false),(.b false),(.b false),(.b false),(.b false),(.b false),(.b false),(.b false),(.b false),(.b false),(.b false),(.b false),(.b false),(.b false),(.b false),(.b false),(.b false),(.b false),(.b false),(.b false),(.b false),(.b false),(.b false),(.b false),(.b false),(.b false),(.b false),(.b false),(.b false),(.b false),(.b false),(.b false),(.b false),(.b false),(.b false),(.b false),(.b false),(.b false),(.b false),(.b false),(.b false),(.b false),(.b false),(.b false),(.b false),(.b false),(.b false),(.b false),(.b false),(.b false),(.b false),(.b false),(.b false),(.b false),(.b false),(.b false),(.b false),(.b false),(.b false),(.b false),(.b false),(.b false),(.b false),(.b false),(.b false),(.b false),(.b false),(.b false),(.b false),(.b false),(.b false),(.b false),(.b false),(.b false),(.b false),(.b false),(.b false),(.b false),(.b false),(.b false),(.b false),(.b false),(.b false),(.b false),(.b false),(.b false),(.b false),(.b false),(.b false),(.b false),(.b false),(.b false),(.b false),(.b false),(.b false),(.b false),(.b false),(.b false),(.b false),(.b false),(.b false),(.b false),(.b false),(.b false),(.b false),(.b false),(.b false),(.b false),(.b false),(.b false),(.b false),(.b false),(.b false),(.b false),(.b false),(.b false),(.b false),(.b false),(.b false),(.b false),(.b false),(.b false),(.b false),(.b false),(.b false),(.b false),(.b false),(.b false),(.b false),(.b false),(.b false),(.b false),(.b false),(.b false),(.b false),(.b false),(.b false),(.b false),(.b false),(.b false),(.b false),(.b false),(.b false),(.b false),(.b false),(.b false),(.b false),(.b false),(.b false),(.b false),(.b false),(.b false),(.b false),(.b false),(.b false),(.b false),(.b false),(.b false),(.b false),(.b false),(.b false),(.b false),(.b false),(.b false),(.b false),(.b false),(.b false),(.b false),(.b false),(.b false),(.b false),(.b false),(.b false),(.b false),(.b false),(.b false),(.b false),(.b false),(.b false),(.b false),(.b false),(.b false),(.b false),(.b false),(.b false),(.b false),(.b false),(.b false),(.b false),(.b false),(.b false),(.b false),(.b false),(.b false),(.b false),(.b false),(.b false),(.b false),(.b false),(.b false),(.b false)]),so (.store 256 (.t 5) (.t 29)),mv 6 30])
 (.seq
 (.reg [mv 31 6])
 (.cond (.t 31)
 (.seq
 (.reg [mv 32 0,rg 33 (.call 127 [(.t 32),(.t 5)]),mv 4 33])
 (.pre (.norm false [4]) .ret))
 .skip)))
 (.seq
 (.reg [mv 34 0,mv 35 1,rg 36 (.call 128 [(.t 34),(.t 35)]),mv 4 36])
 (.pre (.norm false [4]) .ret))))))
def l125_0:AX:=
 (.note
 (.seq
 (.seq
 (.reg [mv 5 0,rg 6 (.lens (.t 5)),rg 7 (.bin .gtr (.t 6) (.c (.i .i64 0))),mv 8 7,gd 9 8 true (.mov (.t 0)),gd 10 8 true (.ixs (.t 9) (.c (.i .i64 0))),gd 11 8 true (.mov (.t 1)),gd 12 8 true (.bin .eql (.t 10) (.t 11)),rg 13 (.pick (.t 8) (.t 12) (.c (.b false)))])
 (.cond (.t 13)
 .skip
 (.exit 0)))
 (.block 1
 (.reg [mv 14 0,rg 15 (.slstr (.t 14) (some (.c (.i .i64 1))) none),mv 0 15])))
 (.norm false [0,1]))
def b125:AX:=
 (.seq
 (.reg [rg 4 (.mov (.c (.s [])))])
 (.seq
 (.lp 0 (.norm false [0,1]) l125_0 (.norm false [0]))
 (.seq
 (.reg [mv 16 0,mv 4 16])
 (.pre (.norm false [4]) .ret))))
def row103:AFx:=⟨2,37,[.t 4],b103,none,false⟩
def row125:AFx:=⟨2,17,[.t 4],b125,none,false⟩
class Zhk (T:Tbl):Prop where
 h103:T 103=some row103
 h125:T 125=some row125
section
variable{T:Tbl}[Zhk T]{d:Option Nat}{st:St}
@[simp] theorem x125(xs:List AV):Zc (orc T) T 125 xs d st=cP T 125 false xs d st:=zaa Zhk.h125
end
section
variable{T:Tbl}
theorem zvg(x0:Nat)(_hx0:x0<4294967296):∀y:Nat×Nat×List UInt8,(y.1≤9∧y.2.1<4294967296∧y.2.2.length=9-y.1∧Zdc y.1 y.2.1++y.2.2=Zdc 9 x0) →
  Ze T 0 0 (.norm false [3]) l101_0 ⟨[(0,u32 y.2.1),(3,.ptr (.loc 3) 1 9 0 0),(4,.i .i64 ((y.1:Int)-1))],[(.loc 3,⟨1,.str,9,[u8c (List.replicate y.1 0++y.2.2)]⟩)],3⟩ =
   some (.n,⟨[(3,.ptr (.loc 3) 1 9 0 0)],[(.loc 3,⟨1,.str,9,[u8c (Zdc 9 x0)]⟩)],3⟩):=by
 refine zaw (fun y:Nat×Nat×List UInt8=>⟨[(0,u32 y.2.1),(3,.ptr (.loc 3) 1 9 0 0),(4,.i .i64 ((y.1:Int)-1))],[(.loc 3,⟨1,.str,9,[u8c (List.replicate y.1 0++y.2.2)]⟩)],3⟩) _ (fun y=>y.1) _ ?_
 rintro⟨k,x,m⟩ ⟨hk,hx,hm,hd⟩
 simp only at hk hx hm hd;cases k with
 | zero=>
  right;have hd:m=Zdc 9 x0:=by simpa only[zij,Ya8]using hd
  subst hd;generalize Zdc 9 x0=m;constructor<;>simp -implicitDefEqProofs[l101_0]
 | succ j=>
  left;have hw:IntKind.wrap .i64 ((j:Int)-1)=(j:Int)-1:=zac _ (by omega);have h1:(j:Int)<9:=by omega
  have h2:j≤8:=by omega
  have hd1:48+x%10<256:=by omega
  have hs:=(z4f (l:=List.replicate (j+1) 0++m) (j:=j) hd1 (by simp;omega)).trans (congrArg u8c (z0k (j:=j) (m:=m) (UInt8.ofNat (48+x%10))));have m1:(48+x%10)%4294967296=48+x%10:=Yi (by omega);have m2:(48+x%10)%256=48+x%10:=Yi (by omega);have m3:x/10%4294967296=x/10:=Yi (by omega);have hlen:j+1+m.length=9:=by omega
  refine⟨(j,x/10,UInt8.ofNat (48+x%10)::m),⟨by simp only;omega,by simp only;omega,by simp;omega,?_⟩,Y6 j,?_,rfl⟩
  ·simp only;rw[←hd,zd9,Y7]
   rfl
  ·simp -implicitDefEqProofs[l101_0,hw,h1,h2,hs,m1,m2,m3,hlen]
end
section
variable{T:Tbl}[Zcg T]
theorem zoq(x:Nat)(hx:x<4294967296):Zb T 101 [u32 x]=some (.s (Zdc 9 x)):=by
 have h:=zvg (T:=T) x hx (9,x,[]) ⟨Yg _,hx,rfl,by simp⟩;have e:u8c (List.replicate 9 0++[])=[u8 0,u8 0,u8 0,u8 0,u8 0,u8 0,u8 0,u8 0,u8 0]:=rfl;simp only[e]at h;rw[zab Zcg.h101 rfl,b101];have h8:IntKind.wrap .i64 8=8:=by decide
 have hl9:=ze6 9 x;generalize hm:Zdc 9 x=m at *
 have t9:List.take 9 ((u8c m).map fun c=>[c])=(u8c m).map fun c=>[c]:=Yb (by simp[hl9]);have hr:=z0l m;simp at h;simp -implicitDefEqProofs[h,hr,hl9,t9]
end
section
variable{T:Tbl}[Zp T][Z0 T][Zcg T]
def Zn6(l:List UInt8)(o:List UInt32)(i0 k:Nat):St:=
 ⟨[(0,.s l),(3,.ptr (.loc 3) 1 4 0 0),(5,.sl (Za o) .an),(6,.i .i64 (i0+k:Nat)),(7,u32 (rd ((l.drop i0).take k))),(8,u32 (10^k)),(9,.i .i64 k)],[(.loc 3,⟨1,.str,4,[[.i .i64 0,.i .i64 0,.i .i64 0,.i .i64 0]]⟩)],3⟩
end
def sg(n:Bool)(k:Nat):Int:=if n then -(k:Int) else k
def wv(n:Bool)(a:List UInt32):Int:=sg n (val a)
abbrev wh(n:Bool)(a:List UInt32):AV:=.agg [.b n,.sl (Za a) .an]
abbrev ez(z:Int):AV:=wh (decide (z<0)) (ofN z.natAbs)
def sgI(z:Int):Int:=if z<0 then -1 else if z=0 then 0 else 1
theorem zqw(n:Bool)(k:Nat):decide (sg n k<0)=(n&&decide (k≠0)):=by
 cases n
 ·simp[sg]
 ·by_cases h:k=0<;>simp[sg,h];omega
theorem zqx(n:Bool)(k:Nat):(sg n k).natAbs=k:=by cases n<;>simp[sg]
@[simp] theorem zfw(z:Int):wv (decide (z<0)) (ofN z.natAbs)=z:=by
 unfold wv;rw[zae];by_cases h:z<0
 ·simp[sg,h];omega
 ·simp[sg,h];omega
theorem z9k(n:Bool)(a:List UInt32):(wv n a).natAbs=val a:=zqx n _
theorem zxl(n:Bool)(k:Nat):ez (sg n k)=wh (n&&decide (k≠0)) (ofN k):=by
 unfold ez;rw[zqw,zqx]
theorem zik(n:Bool)(x y:Nat):sg n (x+y)=sg n x+sg n y:=by cases n<;>simp[sg]<;>omega
theorem znm{n m:Bool}(h:n≠m){x y:Nat}(hxy:x<y):sg m (y-x)=sg n x+sg m y:=by
 cases n<;>cases m<;>simp[sg]at h ⊢<;>omega
theorem znn{n m:Bool}(h:n≠m){x y:Nat}(hxy:¬ x<y):sg n (x-y)=sg n x+sg m y:=by
 cases n<;>cases m<;>simp[sg]at h ⊢<;>omega
theorem z1f(n:Bool)(x:Nat):sg (!n) x=- sg n x:=by cases n<;>simp[sg]
theorem zno(n m:Bool)(x y:Nat):sg (n != m) (x*y)=sg n x*sg m y:=by cases n<;>cases m<;>simp[sg,Int.mul_neg,Yfj]
theorem z1g(n:Bool)(x:Nat):sgI (sg n x)=if x=0 then 0 else if n then -1 else 1:=by
 unfold sgI;cases n<;>simp[sg]<;>split<;>(try split)<;>omega
def Zk4(z:Int):List UInt8:=if z<0 then 45::Zbd z.natAbs else Zbd z.natAbs
theorem zb3{x y:Int}{L:Nat}(hx:(ofN x.natAbs).length≤L)(hy:(ofN y.natAbs).length≤L):(ofN (x+y).natAbs).length≤L+1:=by
 refine zas ?_;have h1:=za0 (ofN x.natAbs);have h2:=za0 (ofN y.natAbs);rw[zae]at h1 h2;have h3:4294967296^(ofN x.natAbs).length≤4294967296^L:=Y4 (by decide) hx;have h4:4294967296^(ofN y.natAbs).length≤4294967296^L:=Y4 (by decide) hy;rw[Yy];generalize 4294967296^L=p at *
 omega
theorem zil(x:Int):ofN (-x).natAbs=ofN x.natAbs:=by rw[Yff]
theorem za3{x y:Int}{L M:Nat}(hx:(ofN x.natAbs).length≤L)(hy:(ofN y.natAbs).length≤M):(ofN (x*y).natAbs).length≤L+M:=by
 refine zas ?_;have h1:=za0 (ofN x.natAbs);have h2:=za0 (ofN y.natAbs);rw[zae]at h1 h2;rw[Yes,Ybj];exact Nat.mul_lt_mul'' (Y1 h1 (Y4 (by decide) hx)) (Y1 h2 (Y4 (by decide) hy))
theorem zbs(n:Bool)(a:List UInt32):(ofN (wv n a).natAbs).length≤a.length:=by rw[z9k];exact zad a
def Zk5(l:List UInt8):Int:=sg (l.head? = some 45) (rd (if l.head? = some 45 then l.tail else l))
def Zke(l:List UInt8):Int:=Ziw (if l.head? = some 45 then l.tail else l)
def minus(l:List UInt8):Int:=if l.head? = some 45 then 1 else 0
def b55:AX:=
 (.seq
 (.reg [rg 4 (.alloc [(.b false),(.sl [] .nl)])])
 (.seq
 (.reg [mv 5 0,mv 6 5,gd 7 6 true (.mov (.t 1)),gd 8 6 true (.len (.t 7)),gd 9 6 true (.bin .gtr (.t 8) (.c (.i .i64 0))),rg 10 (.pick (.t 6) (.t 9) (.c (.b false))),mv 11 1,rg 12 (.build [(.b false),(.sl [] .nl)] [(0,1,(.t 10)),(1,1,(.t 11))]),so (.store 2 (.t 4) (.t 12))])
 (.pre (.norm false [4]) .ret)))
def b38:AX:=
 (.seq
 (.reg [rg 1 (.xop (.box 2) [(.t 0)]),rg 2 (.alloc [(.b false),(.sl [] .nl)])])
 (.seq
 (.drawT [rg 3 (.fad 0 (.t 1)),rg 4 (.load none (.t 3)),rg 5 (.fad 1 (.t 1)),rg 6 (.load none (.t 5)),rg 7 (.call 71 [(.t 6)])]
 [rg 8 (.call 55 [(.t 4),(.t 7)]),so (.store 2 (.t 2) (.t 8))])
 (.pre (.norm false [2]) .ret)))
def b40:AX:=
 (.seq
 (.reg [rg 1 (.xop (.box 2) [(.t 0)]),rg 2 (.alloc [(.b false),(.sl [] .nl)])])
 (.seq
 (.drawT [rg 3 (.fad 0 (.t 1)),rg 4 (.load none (.t 3)),rg 5 (.un .not (.t 4)),rg 6 (.fad 1 (.t 1)),rg 7 (.load none (.t 6)),rg 8 (.call 71 [(.t 7)])]
 [rg 9 (.call 55 [(.t 5),(.t 8)]),so (.store 2 (.t 2) (.t 9))])
 (.pre (.norm false [2]) .ret)))
def b23:AX:=
 (.seq
 (.reg [rg 2 (.xop (.box 2) [(.t 0)]),rg 3 (.xop (.box 2) [(.t 1)]),rg 4 (.alloc [(.b false),(.sl [] .nl)])])
 (.seq
 (.seq
 (.reg [rg 7 (.fad 0 (.t 2)),rg 8 (.load none (.t 7)),rg 9 (.fad 0 (.t 3)),rg 10 (.load none (.t 9)),rg 11 (.eqb false (.t 8) (.t 10))])
 (.cond (.t 11)
 (.seq
 (.drawT [rg 12 (.fad 0 (.t 2)),rg 13 (.load none (.t 12)),rg 14 (.fad 1 (.t 2)),rg 15 (.load none (.t 14)),rg 16 (.fad 1 (.t 3)),rg 17 (.load none (.t 16)),rg 18 (.bsl 1 [(.sl [] .nl)] 2 [(0,(.t 15)),(1,(.t 17))]),rg 19 (.call 56 [(.t 18)])]
 [rg 20 (.call 55 [(.t 13),(.t 19)]),so (.store 2 (.t 4) (.t 20))])
 (.pre (.norm false [4]) .ret))
 .skip))
 (.seq
 (.reg [rg 22 (.fad 1 (.t 2)),rg 23 (.load none (.t 22)),rg 24 (.fad 1 (.t 3)),rg 25 (.load none (.t 24)),rg 26 (.call 57 [(.t 23),(.t 25)]),mv 21 26,rg 27 (.ext (.t 21) 0),rg 28 (.ext (.t 21) 1),mv 5 27,mv 6 28])
 (.seq
 (.seq
 (.reg [mv 29 6,rg 30 (.bin .lss (.t 29) (.c (.i .i64 0)))])
 (.cond (.t 30)
 (.seq
 (.reg [rg 31 (.fad 0 (.t 3)),rg 32 (.load none (.t 31)),mv 33 5,rg 34 (.call 55 [(.t 32),(.t 33)]),so (.store 2 (.t 4) (.t 34))])
 (.pre (.norm false [4]) .ret))
 .skip))
 (.seq
 (.reg [rg 35 (.fad 0 (.t 2)),rg 36 (.load none (.t 35)),mv 37 5,rg 38 (.call 55 [(.t 36),(.t 37)]),so (.store 2 (.t 4) (.t 38))])
 (.pre (.norm false [4]) .ret))))))
def b25:AX:=
 (.seq
 (.reg [rg 2 (.xop (.box 2) [(.t 0)]),rg 3 (.xop (.box 2) [(.t 1)]),rg 4 (.alloc [(.b false),(.sl [] .nl)])])
 (.seq
 (.drawT [rg 5 (.load (some 2) (.t 2)),rg 6 (.load (some 2) (.t 3)),rg 7 (.call 40 [(.t 6)])]
 [rg 8 (.call 23 [(.t 5),(.t 7)]),so (.store 2 (.t 4) (.t 8))])
 (.pre (.norm false [4]) .ret)))
def b27:AX:=
 (.seq
 (.reg [rg 2 (.xop (.box 2) [(.t 0)]),rg 3 (.xop (.box 2) [(.t 1)]),rg 4 (.alloc [(.b false),(.sl [] .nl)])])
 (.seq
 (.drawT [rg 5 (.fad 0 (.t 2)),rg 6 (.load none (.t 5)),rg 7 (.fad 0 (.t 3)),rg 8 (.load none (.t 7)),rg 9 (.eqb true (.t 6) (.t 8)),rg 10 (.fad 1 (.t 2)),rg 11 (.load none (.t 10)),rg 12 (.fad 1 (.t 3)),rg 13 (.load none (.t 12)),rg 14 (.call 60 [(.t 11),(.t 13)])]
 [rg 15 (.call 55 [(.t 9),(.t 14)]),so (.store 2 (.t 4) (.t 15))])
 (.pre (.norm false [4]) .ret)))
def b37:AX:=
 (.seq
 (.reg [rg 1 (.xop (.box 2) [(.t 0)]),rg 2 (.mov (.c (.i .i64 0)))])
 (.seq
 (.block 0
 (.seq
 (.reg [rg 4 (.fad 1 (.t 1)),rg 5 (.load none (.t 4)),rg 6 (.call 70 [(.t 5)]),mv 3 6])
 (.cond (.t 3)
 (.seq
 (.reg [rg 2 (.mov (.c (.i .i64 0)))])
 (.pre (.norm false [2]) .ret))
 (.seq
 (.reg [rg 8 (.fad 0 (.t 1)),rg 9 (.load none (.t 8)),mv 7 9])
 (.cond (.t 7)
 (.seq
 (.reg [rg 2 (.mov (.c (.i .i64 (-1))))])
 (.pre (.norm false [2]) .ret))
 .skip)))))
 (.seq
 (.reg [rg 2 (.mov (.c (.i .i64 1)))])
 (.pre (.norm false [2]) .ret))))
def b41:AX:=
 (.seq
 (.reg [rg 2 (.alloc [(.b false),(.sl [] .nl)])])
 (.seq
 (.seq
 (.reg [mv 3 0,rg 4 (.bin .lss (.t 3) (.c (.i .i64 0)))])
 (.cond (.t 4)
 (.seq
 (.reg [mv 5 0,rg 6 (.conv .u64 (.t 5)),rg 7 (.un .neg (.t 6)),rg 8 (.call 72 [(.t 7)]),rg 9 (.call 55 [(.c (.b true)),(.t 8)]),so (.store 2 (.t 2) (.t 9))])
 (.pre (.norm false [2]) .ret))
 .skip))
 (.seq
 (.reg [mv 10 0,rg 11 (.conv .u64 (.t 10)),rg 12 (.call 72 [(.t 11)]),rg 13 (.call 55 [(.c (.b false)),(.t 12)]),so (.store 2 (.t 2) (.t 13))])
 (.pre (.norm false [2]) .ret))))
def b36:AX:=
 (.seq
 (.reg [rg 2 (.xop (.box 2) [(.t 0)]),rg 3 (.xop (.box 2) [(.t 1)]),rg 4 (.mov (.c (.i .i64 0)))])
 (.seq
 (.reg [rg 5 (.load (some 2) (.t 2)),rg 6 (.load (some 2) (.t 3)),rg 7 (.call 25 [(.t 5),(.t 6)]),rg 8 (.call 37 [(.t 7)]),mv 4 8])
 (.pre (.norm false [4]) .ret)))
def row55:AFx:=⟨2,13,[.cell 4 (some 2)],b55,none,false⟩
def row38:AFx:=⟨1,9,[.cell 2 (some 2)],b38,none,false⟩
def row40:AFx:=⟨1,10,[.cell 2 (some 2)],b40,none,false⟩
def row23:AFx:=⟨2,39,[.cell 4 (some 2)],b23,none,false⟩
def row25:AFx:=⟨2,9,[.cell 4 (some 2)],b25,none,false⟩
def row27:AFx:=⟨2,16,[.cell 4 (some 2)],b27,none,false⟩
def row37:AFx:=⟨1,10,[.t 2],b37,none,false⟩
def row41:AFx:=⟨1,14,[.cell 2 (some 2)],b41,none,false⟩
def row36:AFx:=⟨2,9,[.t 4],b36,none,false⟩
class Zl (T:Tbl):Prop where
 h55:T 55=some row55
 h38:T 38=some row38
 h40:T 40=some row40
 h23:T 23=some row23
 h25:T 25=some row25
 h27:T 27=some row27
 h37:T 37=some row37
 h41:T 41=some row41
 h36:T 36=some row36
section
variable{T:Tbl}[Zl T]{d:Option Nat}{st:St}
@[simp] theorem x55(xs:List AV):Zc (orc T) T 55 xs d st=cP T 55 false xs d st:=zaa Zl.h55
@[simp] theorem x38(xs:List AV):Zc (orc T) T 38 xs d st=cP T 38 false xs d st:=zaa Zl.h38
@[simp] theorem x40(xs:List AV):Zc (orc T) T 40 xs d st=cP T 40 false xs d st:=zaa Zl.h40
@[simp] theorem y40{e:Env}{h:Heap}{older:List Heap}(args:List Opd):opD (orc T) T (.call 40 args) e h older=dR (Zb T 40 ((args.map (ev e.get)).map (wkIf false))) (args.map (ev e.get)):=zal Zl.h40
@[simp] theorem x23(xs:List AV):Zc (orc T) T 23 xs d st=cP T 23 false xs d st:=zaa Zl.h23
@[simp] theorem y23{e:Env}{h:Heap}{older:List Heap}(args:List Opd):opD (orc T) T (.call 23 args) e h older=dR (Zb T 23 ((args.map (ev e.get)).map (wkIf false))) (args.map (ev e.get)):=zal Zl.h23
@[simp] theorem x25(xs:List AV):Zc (orc T) T 25 xs d st=cP T 25 false xs d st:=zaa Zl.h25
@[simp] theorem y25{e:Env}{h:Heap}{older:List Heap}(args:List Opd):opD (orc T) T (.call 25 args) e h older=dR (Zb T 25 ((args.map (ev e.get)).map (wkIf false))) (args.map (ev e.get)):=zal Zl.h25
@[simp] theorem x27(xs:List AV):Zc (orc T) T 27 xs d st=cP T 27 false xs d st:=zaa Zl.h27
@[simp] theorem x37(xs:List AV):Zc (orc T) T 37 xs d st=cP T 37 false xs d st:=zaa Zl.h37
@[simp] theorem x41(xs:List AV):Zc (orc T) T 41 xs d st=cP T 41 false xs d st:=zaa Zl.h41
@[simp] theorem x36(xs:List AV):Zc (orc T) T 36 xs d st=cP T 36 false xs d st:=zaa Zl.h36
end
def l198_0:AX:=
 (.note
 (.seq
 (.seq
 (.reg [mv 5 1,rg 6 (.bin .neq (.t 5) (.c (u64 0)))])
 (.cond (.t 6)
 .skip
 (.exit 0)))
 (.block 1
 (.drawT [mv 7 1,mv 8 0,mv 9 1,rg 10 (.bin .rem (.t 8) (.t 9)),mv 0 7]
 [mv 1 10])))
 (.norm false [0,1]))
def b198:AX:=
 (.seq
 (.reg [rg 4 (.mov (.c (u64 0)))])
 (.seq
 (.lp 0 (.norm false [0,1]) l198_0 (.norm false [0]))
 (.seq
 (.reg [mv 11 0,mv 4 11])
 (.pre (.norm false [4]) .ret))))
def l199_0:AX:=
 (.note
 (.seq
 (.seq
 (.reg [mv 19 1,rg 20 (.len (.t 19)),rg 21 (.bin .gtr (.t 20) (.c (.i .i64 2)))])
 (.cond (.t 21)
 .skip
 (.exit 0)))
 (.block 1
 (.seq
 (.reg [mv 23 0,mv 24 1,rg 25 (.call 62 [(.t 23),(.t 24)]),mv 22 25,rg 26 (.ext (.t 22) 0),rg 27 (.ext (.t 22) 1),rg 28 (.ext (.t 22) 2),mv 5 26,mv 6 27,mv 7 28])
 (.reg [mv 29 1,mv 30 6,mv 0 29,mv 1 30]))))
 (.norm false [0,1]))
def b199:AX:=
 (.seq
 (.reg [rg 4 (.mov (.c (.sl [] .nl)))])
 (.seq
 (.reg [mv 15 0,rg 16 (.call 71 [(.t 15)]),mv 17 1,rg 18 (.call 71 [(.t 17)]),mv 0 16,mv 1 18])
 (.seq
 (.lp 0 (.norm false [0,1]) l199_0 (.norm false [0,1]))
 (.seq
 (.seq
 (.reg [mv 31 1,rg 32 (.len (.t 31)),rg 33 (.bin .eql (.t 32) (.c (.i .i64 0)))])
 (.cond (.t 33)
 (.seq
 (.reg [mv 34 0,mv 4 34])
 (.pre (.norm false [4]) .ret))
 .skip))
 (.seq
 (.reg [mv 36 0,mv 37 1,rg 38 (.call 62 [(.t 36),(.t 37)]),mv 35 38,rg 39 (.ext (.t 35) 0),rg 40 (.ext (.t 35) 1),rg 41 (.ext (.t 35) 2),mv 8 39,mv 9 40,mv 10 41])
 (.seq
 (.reg [mv 43 1,rg 44 (.call 73 [(.t 43)]),mv 42 44,rg 45 (.ext (.t 42) 0),rg 46 (.ext (.t 42) 1),mv 11 45,mv 12 46])
 (.seq
 (.reg [mv 48 9,rg 49 (.call 73 [(.t 48)]),mv 47 49,rg 50 (.ext (.t 47) 0),rg 51 (.ext (.t 47) 1),mv 13 50,mv 14 51])
 (.seq
 (.reg [mv 52 11,mv 53 13,rg 54 (.call 198 [(.t 52),(.t 53)]),rg 55 (.call 72 [(.t 54)]),mv 4 55])
 (.pre (.norm false [4]) .ret)))))))))
def b200:AX:=
 (.seq
 (.reg [rg 2 (.mov (.c (.b false)))])
 (.seq
 (.reg [mv 3 0,rg 4 (.len (.t 3)),rg 5 (.bin .eql (.t 4) (.c (.i .i64 1))),mv 6 5,gd 7 6 true (.mov (.t 0)),gd 8 6 true (.iad 1 (.t 7) (.c (.i .i64 0))),gd 9 6 true (.load none (.t 8)),gd 10 6 true (.bin .eql (.t 9) (.c (u32 1))),rg 11 (.pick (.t 6) (.t 10) (.c (.b false))),mv 2 11])
 (.pre (.norm false [2]) .ret)))
def b201:AX:=
 (.seq
 (.reg [rg 4 (.mov (.c (.sl [] .nl))),rg 5 (.mov (.c (.sl [] .nl)))])
 (.seq
 (.reg [mv 7 0,mv 8 1,rg 9 (.call 199 [(.t 7),(.t 8)]),mv 6 9])
 (.seq
 (.block 0
 (.seq
 (.reg [mv 11 6,rg 12 (.len (.t 11)),rg 13 (.bin .eql (.t 12) (.c (.i .i64 0))),mv 10 13])
 (.cond (.t 10)
 (.seq
 (.reg [rg 4 (.mov (.c (.sl [] .nl))),rg 5 (.mov (.c (.sl [] .nl)))])
 (.pre (.norm false [4,5]) .ret))
 (.seq
 (.reg [mv 15 6,rg 16 (.call 200 [(.t 15)]),mv 14 16])
 (.cond (.t 14)
 (.seq
 (.reg [mv 17 0,rg 18 (.call 71 [(.t 17)]),mv 19 1,rg 20 (.call 71 [(.t 19)]),mv 4 18,mv 5 20])
 (.pre (.norm false [4,5]) .ret))
 .skip)))))
 (.seq
 (.reg [mv 22 0,mv 23 6,rg 24 (.call 62 [(.t 22),(.t 23)]),mv 21 24,rg 25 (.ext (.t 21) 0),rg 26 (.ext (.t 21) 1),rg 27 (.ext (.t 21) 2),mv 4 25])
 (.seq
 (.reg [mv 29 1,mv 30 6,rg 31 (.call 62 [(.t 29),(.t 30)]),mv 28 31,rg 32 (.ext (.t 28) 0),rg 33 (.ext (.t 28) 1),rg 34 (.ext (.t 28) 2),mv 5 32])
 (.seq
 (.reg [mv 35 4,mv 36 5,mv 4 35,mv 5 36])
 (.pre (.norm false [4,5]) .ret)))))))
def row198:AFx:=⟨2,12,[.t 4],b198,none,false⟩
def row199:AFx:=⟨2,56,[.t 4],b199,none,false⟩
def row200:AFx:=⟨1,12,[.t 2],b200,none,false⟩
def row201:AFx:=⟨2,37,[.t 4,.t 5],b201,none,false⟩
class Zo (T:Tbl):Prop where
 h198:T 198=some row198
 h199:T 199=some row199
 h200:T 200=some row200
 h201:T 201=some row201
section
variable{T:Tbl}[Zo T]{d:Option Nat}{st:St}{xs:List AV}{ps:List Opd}{e:Env}{h:Heap}{ol:List Heap}
@[simp] theorem x198:Zc (orc T) T 198 xs d st=cP T 198 false xs d st:=zaa Zo.h198
@[simp] theorem x199:Zc (orc T) T 199 xs d st=cP T 199 false xs d st:=zaa Zo.h199
@[simp] theorem x200:Zc (orc T) T 200 xs d st=cP T 200 false xs d st:=zaa Zo.h200
@[simp] theorem x201:Zc (orc T) T 201 xs d st=cP T 201 false xs d st:=zaa Zo.h201
end
def b202:AX:=
 (.seq
 (.reg [rg 2 (.xop (.box 2) [(.t 0)]),rg 4 (.alloc [(.b false),(.sl [] .nl),(.sl [] .nl)])])
 (.seq
 (.reg [rg 8 (.fad 1 (.t 2)),rg 9 (.load none (.t 8)),mv 10 1,rg 11 (.call 201 [(.t 9),(.t 10)]),mv 7 11,rg 12 (.ext (.t 7) 0),rg 13 (.ext (.t 7) 1),mv 5 12,mv 6 13])
 (.seq
 (.reg [rg 14 (.fad 0 (.t 2)),rg 15 (.load none (.t 14)),mv 16 5,rg 17 (.build [(.b false),(.sl [] .nl)] [(0,1,(.t 15)),(1,1,(.t 16))]),rg 18 (.call 38 [(.t 17)]),mv 19 6,rg 20 (.build [(.b false),(.sl [] .nl),(.sl [] .nl)] [(0,2,(.t 18)),(2,1,(.t 19))]),so (.store 3 (.t 4) (.t 20))])
 (.pre (.norm false [4]) .ret))))
def b203:AX:=
 (.seq
 (.reg [rg 1 (.xop (.box 3) [(.t 0)]),rg 2 (.alloc [(.b false),(.sl [] .nl)]),rg 3 (.mov (.c (.sl [] .nl)))])
 (.seq
 (.seq
 (.reg [rg 4 (.fad 2 (.t 1)),rg 5 (.load none (.t 4)),rg 6 (.call 70 [(.t 5)])])
 (.cond (.t 6)
 (.seq
 (.reg [rg 7 (.build [(.b false),(.sl [] .nl)] []),rg 8 (.call 72 [(.c (u64 1))]),so (.store 2 (.t 2) (.t 7)),mv 3 8])
 (.pre (.norm false [2,3]) .ret))
 .skip))
 (.seq
 (.draw [⟨rg 9 (.fad 0 (.t 1)),0,0⟩,⟨rg 10 (.load (some 2) (.t 9)),0,0⟩,⟨rg 11 (.fad 2 (.t 1)),0,1⟩,⟨rg 12 (.load none (.t 11)),0,1⟩,⟨so (.store 2 (.t 2) (.t 10)),0,1⟩,⟨mv 3 12,1,1⟩])
 (.pre (.norm false [2,3]) .ret))))
def b205:AX:=
 (.seq
 (.reg [rg 2 (.alloc [(.b false),(.sl [] .nl),(.sl [] .nl)])])
 (.seq
 (.reg [mv 3 0,rg 4 (.call 41 [(.t 3)]),rg 5 (.call 72 [(.c (u64 1))]),rg 6 (.build [(.b false),(.sl [] .nl),(.sl [] .nl)] [(0,2,(.t 4)),(2,1,(.t 5))]),so (.store 3 (.t 2) (.t 6))])
 (.pre (.norm false [2]) .ret)))
def b207:AX:=
 (.seq
 (.reg [rg 1 (.xop (.box 3) [(.t 0)]),rg 2 (.alloc [(.b false),(.sl [] .nl),(.sl [] .nl)])])
 (.seq
 (.reg [rg 3 (.load (some 3) (.t 1)),rg 4 (.call 203 [(.t 3)]),rg 5 (.ext (.t 4) 0),rg 6 (.ext (.t 4) 1),rg 7 (.call 202 [(.t 5),(.t 6)]),so (.store 3 (.t 2) (.t 7))])
 (.pre (.norm false [2]) .ret)))
def b209:AX:=
 (.seq
 (.reg [rg 1 (.xop (.box 3) [(.t 0)]),rg 2 (.mov (.c (.i .i64 0)))])
 (.seq
 (.reg [rg 6 (.load (some 3) (.t 1)),rg 7 (.call 203 [(.t 6)]),mv 5 7,rg 8 (.ext (.t 5) 0),rg 9 (.ext (.t 5) 1),rg 3 (.alloc [(.b false),(.sl [] .nl)]),so (.store 2 (.t 3) (.t 8)),mv 4 9])
 (.seq
 (.reg [rg 10 (.load (some 2) (.t 3)),rg 11 (.call 37 [(.t 10)]),mv 2 11])
 (.pre (.norm false [2]) .ret))))
def b210:AX:=
 (.seq
 (.reg [rg 2 (.xop (.box 2) [(.t 0)]),rg 4 (.alloc [(.b false),(.sl [] .nl)])])
 (.seq
 (.reg [rg 5 (.load (some 2) (.t 2)),mv 6 1,rg 7 (.build [(.b false),(.sl [] .nl)] [(1,1,(.t 6))]),rg 8 (.call 27 [(.t 5),(.t 7)]),so (.store 2 (.t 4) (.t 8))])
 (.pre (.norm false [4]) .ret)))
def b211:AX:=
 (.seq
 (.reg [rg 2 (.xop (.box 3) [(.t 0)]),rg 3 (.xop (.box 3) [(.t 1)]),rg 4 (.mov (.c (.i .i64 0)))])
 (.seq
 (.reg [rg 10 (.load (some 3) (.t 2)),rg 11 (.call 203 [(.t 10)]),mv 9 11,rg 12 (.ext (.t 9) 0),rg 13 (.ext (.t 9) 1),rg 5 (.alloc [(.b false),(.sl [] .nl)]),so (.store 2 (.t 5) (.t 12)),mv 6 13])
 (.seq
 (.reg [rg 15 (.load (some 3) (.t 3)),rg 16 (.call 203 [(.t 15)]),mv 14 16,rg 17 (.ext (.t 14) 0),rg 18 (.ext (.t 14) 1),rg 7 (.alloc [(.b false),(.sl [] .nl)]),so (.store 2 (.t 7) (.t 17)),mv 8 18])
 (.seq
 (.drawT [rg 19 (.load (some 2) (.t 5)),mv 20 8,rg 21 (.call 210 [(.t 19),(.t 20)]),rg 22 (.load (some 2) (.t 7)),mv 23 6]
 [rg 24 (.call 210 [(.t 22),(.t 23)]),rg 25 (.call 36 [(.t 21),(.t 24)]),mv 4 25])
 (.pre (.norm false [4]) .ret)))))
def b212:AX:=
 (.seq
 (.reg [rg 2 (.xop (.box 3) [(.t 0)]),rg 3 (.xop (.box 3) [(.t 1)]),rg 4 (.mov (.c (.b false)))])
 (.seq
 (.reg [rg 5 (.load (some 3) (.t 2)),rg 6 (.load (some 3) (.t 3)),rg 7 (.call 211 [(.t 5),(.t 6)]),rg 8 (.bin .eql (.t 7) (.c (.i .i64 0))),mv 4 8])
 (.pre (.norm false [4]) .ret)))
def b213:AX:=
 (.seq
 (.reg [rg 1 (.xop (.box 3) [(.t 0)]),rg 2 (.alloc [(.b false),(.sl [] .nl),(.sl [] .nl)])])
 (.seq
 (.reg [rg 4 (.load (some 3) (.t 1)),rg 5 (.call 207 [(.t 4)]),rg 3 (.alloc [(.b false),(.sl [] .nl),(.sl [] .nl)]),so (.store 3 (.t 3) (.t 5))])
 (.seq
 (.reg [rg 6 (.fad 0 (.t 3)),rg 7 (.load (some 2) (.t 6)),rg 8 (.call 40 [(.t 7)]),rg 9 (.fad 0 (.t 3)),so (.store 2 (.t 9) (.t 8))])
 (.seq
 (.reg [rg 10 (.load (some 3) (.t 3)),so (.store 3 (.t 2) (.t 10))])
 (.pre (.norm false [2]) .ret)))))
def b215:AX:=
 (.seq
 (.reg [rg 2 (.xop (.box 3) [(.t 0)]),rg 3 (.xop (.box 3) [(.t 1)]),rg 4 (.alloc [(.b false),(.sl [] .nl),(.sl [] .nl)])])
 (.seq
 (.reg [rg 10 (.load (some 3) (.t 2)),rg 11 (.call 203 [(.t 10)]),mv 9 11,rg 12 (.ext (.t 9) 0),rg 13 (.ext (.t 9) 1),rg 5 (.alloc [(.b false),(.sl [] .nl)]),so (.store 2 (.t 5) (.t 12)),mv 6 13])
 (.seq
 (.reg [rg 15 (.load (some 3) (.t 3)),rg 16 (.call 203 [(.t 15)]),mv 14 16,rg 17 (.ext (.t 14) 0),rg 18 (.ext (.t 14) 1),rg 7 (.alloc [(.b false),(.sl [] .nl)]),so (.store 2 (.t 7) (.t 17)),mv 8 18])
 (.seq
 (.drawT [rg 19 (.load (some 2) (.t 5)),mv 20 8,rg 21 (.call 210 [(.t 19),(.t 20)]),rg 22 (.load (some 2) (.t 7)),mv 23 6,rg 24 (.call 210 [(.t 22),(.t 23)]),rg 25 (.call 23 [(.t 21),(.t 24)]),mv 26 6,mv 27 8]
 [rg 28 (.call 60 [(.t 26),(.t 27)]),rg 29 (.call 202 [(.t 25),(.t 28)]),so (.store 3 (.t 4) (.t 29))])
 (.pre (.norm false [4]) .ret)))))
def b216:AX:=
 (.seq
 (.reg [rg 2 (.xop (.box 3) [(.t 0)]),rg 3 (.xop (.box 3) [(.t 1)]),rg 4 (.alloc [(.b false),(.sl [] .nl),(.sl [] .nl)])])
 (.seq
 (.reg [rg 10 (.load (some 3) (.t 2)),rg 11 (.call 203 [(.t 10)]),mv 9 11,rg 12 (.ext (.t 9) 0),rg 13 (.ext (.t 9) 1),rg 5 (.alloc [(.b false),(.sl [] .nl)]),so (.store 2 (.t 5) (.t 12)),mv 6 13])
 (.seq
 (.reg [rg 15 (.load (some 3) (.t 3)),rg 16 (.call 203 [(.t 15)]),mv 14 16,rg 17 (.ext (.t 14) 0),rg 18 (.ext (.t 14) 1),rg 7 (.alloc [(.b false),(.sl [] .nl)]),so (.store 2 (.t 7) (.t 17)),mv 8 18])
 (.seq
 (.drawT [rg 19 (.load (some 2) (.t 5)),mv 20 8,rg 21 (.call 210 [(.t 19),(.t 20)]),rg 22 (.load (some 2) (.t 7)),mv 23 6,rg 24 (.call 210 [(.t 22),(.t 23)]),rg 25 (.call 25 [(.t 21),(.t 24)]),mv 26 6,mv 27 8]
 [rg 28 (.call 60 [(.t 26),(.t 27)]),rg 29 (.call 202 [(.t 25),(.t 28)]),so (.store 3 (.t 4) (.t 29))])
 (.pre (.norm false [4]) .ret)))))
def b217:AX:=
 (.seq
 (.reg [rg 2 (.xop (.box 3) [(.t 0)]),rg 3 (.xop (.box 3) [(.t 1)]),rg 4 (.alloc [(.b false),(.sl [] .nl),(.sl [] .nl)])])
 (.seq
 (.reg [rg 10 (.load (some 3) (.t 2)),rg 11 (.call 203 [(.t 10)]),mv 9 11,rg 12 (.ext (.t 9) 0),rg 13 (.ext (.t 9) 1),rg 5 (.alloc [(.b false),(.sl [] .nl)]),so (.store 2 (.t 5) (.t 12)),mv 6 13])
 (.seq
 (.reg [rg 15 (.load (some 3) (.t 3)),rg 16 (.call 203 [(.t 15)]),mv 14 16,rg 17 (.ext (.t 14) 0),rg 18 (.ext (.t 14) 1),rg 7 (.alloc [(.b false),(.sl [] .nl)]),so (.store 2 (.t 7) (.t 17)),mv 8 18])
 (.seq
 (.reg [rg 19 (.load (some 2) (.t 5)),rg 20 (.load (some 2) (.t 7)),rg 21 (.call 27 [(.t 19),(.t 20)]),mv 22 6,mv 23 8,rg 24 (.call 60 [(.t 22),(.t 23)]),rg 25 (.call 202 [(.t 21),(.t 24)]),so (.store 3 (.t 4) (.t 25))])
 (.pre (.norm false [4]) .ret)))))
def b218:AX:=
 (.seq
 (.reg [rg 2 (.xop (.box 3) [(.t 0)]),rg 3 (.xop (.box 3) [(.t 1)]),rg 4 (.alloc [(.b false),(.sl [] .nl),(.sl [] .nl)]),rg 5 (.mov (.c (.b false)))])
 (.seq
 (.reg [rg 12 (.load (some 3) (.t 2)),rg 13 (.call 203 [(.t 12)]),mv 11 13,rg 14 (.ext (.t 11) 0),rg 15 (.ext (.t 11) 1),rg 6 (.alloc [(.b false),(.sl [] .nl)]),so (.store 2 (.t 6) (.t 14)),mv 7 15])
 (.seq
 (.reg [rg 17 (.load (some 3) (.t 3)),rg 18 (.call 203 [(.t 17)]),mv 16 18,rg 19 (.ext (.t 16) 0),rg 20 (.ext (.t 16) 1),rg 8 (.alloc [(.b false),(.sl [] .nl)]),so (.store 2 (.t 8) (.t 19)),mv 9 20])
 (.seq
 (.seq
 (.reg [rg 21 (.load (some 2) (.t 8)),rg 22 (.call 37 [(.t 21)]),rg 23 (.bin .eql (.t 22) (.c (.i .i64 0)))])
 (.cond (.t 23)
 (.seq
 (.reg [rg 24 (.call 205 [(.c (.i .i64 0))]),so (.store 3 (.t 4) (.t 24)),rg 5 (.mov (.c (.b false)))])
 (.pre (.norm false [4,5]) .ret))
 .skip))
 (.seq
 (.reg [rg 25 (.load (some 2) (.t 6)),mv 26 9,rg 27 (.call 210 [(.t 25),(.t 26)]),rg 10 (.alloc [(.b false),(.sl [] .nl)]),so (.store 2 (.t 10) (.t 27))])
 (.seq
 (.reg [rg 28 (.fad 0 (.t 10)),rg 29 (.load none (.t 28)),rg 30 (.fad 0 (.t 8)),rg 31 (.load none (.t 30)),rg 32 (.eqb true (.t 29) (.t 31)),rg 33 (.fad 0 (.t 10)),so (.store 1 (.t 33) (.t 32))])
 (.seq
 (.drawT [rg 34 (.load (some 2) (.t 10)),mv 35 7,rg 36 (.fad 1 (.t 8)),rg 37 (.load none (.t 36)),rg 38 (.call 60 [(.t 35),(.t 37)])]
 [rg 39 (.call 202 [(.t 34),(.t 38)]),so (.store 3 (.t 4) (.t 39)),rg 5 (.mov (.c (.b true)))])
 (.pre (.norm false [4,5]) .ret))))))))
def row202:AFx:=⟨2,21,[.cell 4 (some 3)],b202,none,false⟩
def row203:AFx:=⟨1,13,[.cell 2 (some 2),.t 3],b203,none,false⟩
def row205:AFx:=⟨1,7,[.cell 2 (some 3)],b205,none,false⟩
def row207:AFx:=⟨1,8,[.cell 2 (some 3)],b207,none,false⟩
def row209:AFx:=⟨1,12,[.t 2],b209,none,false⟩
def row210:AFx:=⟨2,9,[.cell 4 (some 2)],b210,none,false⟩
def row211:AFx:=⟨2,26,[.t 4],b211,none,false⟩
def row212:AFx:=⟨2,9,[.t 4],b212,none,false⟩
def row213:AFx:=⟨1,11,[.cell 2 (some 3)],b213,none,false⟩
def row215:AFx:=⟨2,30,[.cell 4 (some 3)],b215,none,false⟩
def row216:AFx:=⟨2,30,[.cell 4 (some 3)],b216,none,false⟩
def row217:AFx:=⟨2,26,[.cell 4 (some 3)],b217,none,false⟩
def row218:AFx:=⟨2,40,[.cell 4 (some 3),.t 5],b218,none,false⟩
class Zr (T:Tbl):Prop where
 h202:T 202=some row202
 h203:T 203=some row203
 h205:T 205=some row205
 h207:T 207=some row207
 h209:T 209=some row209
 h210:T 210=some row210
 h211:T 211=some row211
 h212:T 212=some row212
 h213:T 213=some row213
 h215:T 215=some row215
 h216:T 216=some row216
 h217:T 217=some row217
 h218:T 218=some row218
section
variable{T:Tbl}[Zr T]{d:Option Nat}{st:St}{xs:List AV}{ps:List Opd}{e:Env}{h:Heap}{ol:List Heap}
@[simp] theorem x202:Zc (orc T) T 202 xs d st=cP T 202 false xs d st:=zaa Zr.h202
@[simp] theorem x203:Zc (orc T) T 203 xs d st=cP T 203 false xs d st:=zaa Zr.h203
@[simp] theorem x205:Zc (orc T) T 205 xs d st=cP T 205 false xs d st:=zaa Zr.h205
@[simp] theorem y205:opD (orc T) T (.call 205 ps) e h ol=dP T 205 false ps e:=zal Zr.h205
@[simp] theorem x207:Zc (orc T) T 207 xs d st=cP T 207 false xs d st:=zaa Zr.h207
@[simp] theorem y207:opD (orc T) T (.call 207 ps) e h ol=dP T 207 false ps e:=zal Zr.h207
@[simp] theorem x209:Zc (orc T) T 209 xs d st=cP T 209 false xs d st:=zaa Zr.h209
@[simp] theorem x210:Zc (orc T) T 210 xs d st=cP T 210 false xs d st:=zaa Zr.h210
@[simp] theorem y210:opD (orc T) T (.call 210 ps) e h ol=dP T 210 false ps e:=zal Zr.h210
@[simp] theorem x211:Zc (orc T) T 211 xs d st=cP T 211 false xs d st:=zaa Zr.h211
@[simp] theorem x212:Zc (orc T) T 212 xs d st=cP T 212 false xs d st:=zaa Zr.h212
@[simp] theorem x213:Zc (orc T) T 213 xs d st=cP T 213 false xs d st:=zaa Zr.h213
@[simp] theorem x215:Zc (orc T) T 215 xs d st=cP T 215 false xs d st:=zaa Zr.h215
@[simp] theorem x216:Zc (orc T) T 216 xs d st=cP T 216 false xs d st:=zaa Zr.h216
@[simp] theorem x217:Zc (orc T) T 217 xs d st=cP T 217 false xs d st:=zaa Zr.h217
@[simp] theorem x218:Zc (orc T) T 218 xs d st=cP T 218 false xs d st:=zaa Zr.h218
end
def b204:AX:=
 (.seq
 (.reg [rg 2 (.xop (.box 2) [(.t 0)]),rg 4 (.alloc [(.b false),(.sl [] .nl),(.sl [] .nl)]),rg 5 (.mov (.c (.b false)))])
 (.seq
 (.seq
 (.reg [mv 6 1,rg 7 (.call 70 [(.t 6)])])
 (.cond (.t 7)
 (.seq
 (.reg [rg 8 (.call 205 [(.c (.i .i64 0))]),so (.store 3 (.t 4) (.t 8)),rg 5 (.mov (.c (.b false)))])
 (.pre (.norm false [4,5]) .ret))
 .skip))
 (.seq
 (.reg [rg 9 (.load (some 2) (.t 2)),mv 10 1,rg 11 (.call 202 [(.t 9),(.t 10)]),so (.store 3 (.t 4) (.t 11)),rg 5 (.mov (.c (.b true)))])
 (.pre (.norm false [4,5]) .ret))))
def row204:AFx:=⟨2,12,[.cell 4 (some 3),.t 5],b204,none,false⟩
class Zbj (T:Tbl):Prop where
 h204:T 204=some row204
section
variable{T:Tbl}[Zbj T]{d:Option Nat}{st:St}{xs:List AV}{ps:List Opd}{e:Env}{h:Heap}{ol:List Heap}
@[simp] theorem x204:Zc (orc T) T 204 xs d st=cP T 204 false xs d st:=zaa Zbj.h204
end
def l219_0:AX:=
 (.note
 (.seq
 (.reg [rg 9 (.bin .lss (.t 8) (.t 7))])
 (.seq
 (.cond (.t 9)
 .skip
 (.exit 0))
 (.seq
 (.block 1
 (.reg [mv 10 5,mv 11 0,rg 12 (.call 60 [(.t 10),(.t 11)]),mv 5 12]))
 (.reg [rg 13 (.bin .add (.t 8) (.c (.i .i64 1))),mv 8 13]))))
 (.norm false [0,5,7,8]))
def b219:AX:=
 (.seq
 (.reg [rg 4 (.mov (.c (.sl [] .nl)))])
 (.seq
 (.reg [rg 6 (.call 72 [(.c (u64 1))]),mv 5 6])
 (.seq
 (.seq
 (.reg [mv 7 1,rg 8 (.mov (.c (.i .i64 0)))])
 (.lp 0 (.norm false [0,5,7,8]) l219_0 (.norm false [5])))
 (.seq
 (.reg [mv 14 5,mv 4 14])
 (.pre (.norm false [4]) .ret)))))
def b220:AX:=
 (.seq
 (.reg [rg 2 (.xop (.box 3) [(.t 0)]),rg 4 (.alloc [(.b false),(.sl [] .nl),(.sl [] .nl)]),rg 5 (.mov (.c (.b false)))])
 (.seq
 (.seq
 (.reg [mv 10 1,rg 11 (.bin .lss (.t 10) (.c (.i .i64 (-8)))),mv 12 11,gd 13 12 false (.mov (.t 1)),gd 14 12 false (.bin .gtr (.t 13) (.c (.i .i64 8))),rg 15 (.pick (.t 12) (.c (.b true)) (.t 14)),mv 16 15,gd 17 16 false (.mov (.t 1)),gd 18 16 false (.bin .lss (.t 17) (.c (.i .i64 0))),gd 19 16 false (.mov (.t 18)),gd 20 19 true (.load (some 3) (.t 2)),gd 21 19 true (.call 209 [(.t 20)]),gd 22 19 true (.bin .eql (.t 21) (.c (.i .i64 0))),gd 23 16 false (.pick (.t 19) (.t 22) (.c (.b false))),rg 24 (.pick (.t 16) (.c (.b true)) (.t 23))])
 (.cond (.t 24)
 (.seq
 (.reg [rg 25 (.call 205 [(.c (.i .i64 0))]),so (.store 3 (.t 4) (.t 25)),rg 5 (.mov (.c (.b false)))])
 (.pre (.norm false [4,5]) .ret))
 .skip))
 (.seq
 (.reg [rg 26 (.load (some 3) (.t 2)),rg 27 (.call 207 [(.t 26)]),rg 6 (.alloc [(.b false),(.sl [] .nl),(.sl [] .nl)]),so (.store 3 (.t 6) (.t 27))])
 (.seq
 (.reg [mv 28 1,mv 29 1,rg 30 (.un .neg (.t 29)),rg 31 (.mm true [(.t 28),(.t 30)]),mv 7 31])
 (.seq
 (.drawT [rg 32 (.fad 0 (.t 6)),rg 33 (.fad 1 (.t 32)),rg 34 (.load none (.t 33)),mv 35 7,rg 36 (.call 219 [(.t 34),(.t 35)]),rg 37 (.fad 2 (.t 6)),rg 38 (.load none (.t 37)),mv 39 7]
 [rg 40 (.call 219 [(.t 38),(.t 39)]),mv 8 36,mv 9 40])
 (.seq
 (.seq
 (.reg [mv 41 1,rg 42 (.bin .lss (.t 41) (.c (.i .i64 0)))])
 (.cond (.t 42)
 (.reg [mv 43 9,mv 44 8,mv 8 43,mv 9 44])
 .skip))
 (.seq
 (.reg [rg 45 (.fad 0 (.t 6)),rg 46 (.fad 0 (.t 45)),rg 47 (.load none (.t 46)),mv 48 47,gd 49 48 true (.mov (.t 7)),gd 50 48 true (.bin .rem (.t 49) (.c (.i .i64 2))),gd 51 48 true (.bin .eql (.t 50) (.c (.i .i64 1))),rg 52 (.pick (.t 48) (.t 51) (.c (.b false))),mv 53 8,rg 54 (.build [(.b false),(.sl [] .nl)] [(0,1,(.t 52)),(1,1,(.t 53))]),rg 55 (.call 38 [(.t 54)]),mv 56 9,rg 57 (.build [(.b false),(.sl [] .nl),(.sl [] .nl)] [(0,2,(.t 55)),(2,1,(.t 56))]),so (.store 3 (.t 4) (.t 57)),rg 5 (.mov (.c (.b true)))])
 (.pre (.norm false [4,5]) .ret))))))))
def row219:AFx:=⟨2,15,[.t 4],b219,none,false⟩
def row220:AFx:=⟨2,58,[.cell 4 (some 3),.t 5],b220,none,false⟩
class Zam (T:Tbl):Prop where
 h219:T 219=some row219
 h220:T 220=some row220
section
variable{T:Tbl}[Zam T]{d:Option Nat}{st:St}{xs:List AV}{ps:List Opd}{e:Env}{h:Heap}{ol:List Heap}
@[simp] theorem x219:Zc (orc T) T 219 xs d st=cP T 219 false xs d st:=zaa Zam.h219
@[simp] theorem y219:opD (orc T) T (.call 219 ps) e h ol=dP T 219 false ps e:=zal Zam.h219
@[simp] theorem x220:Zc (orc T) T 220 xs d st=cP T 220 false xs d st:=zaa Zam.h220
end
def b223:AX:=
 (.seq
 (.reg [rg 1 (.xop (.box 3) [(.t 0)]),rg 2 (.mov (.c (.i .i64 0)))])
 (.seq
 (.drawT [rg 3 (.fad 0 (.t 1)),rg 4 (.fad 1 (.t 3)),rg 5 (.load none (.t 4)),rg 6 (.call 356 [(.t 5)]),rg 7 (.fad 2 (.t 1)),rg 8 (.load none (.t 7))]
 [rg 9 (.call 356 [(.t 8)]),rg 10 (.bin .add (.t 6) (.t 9)),mv 2 10])
 (.pre (.norm false [2]) .ret)))
def row223:AFx:=⟨1,11,[.t 2],b223,none,false⟩
class Za6 (T:Tbl):Prop where
 h223:T 223=some row223
section
variable{T:Tbl}[Za6 T]{d:Option Nat}{st:St}{xs:List AV}{ps:List Opd}{e:Env}{h:Heap}{ol:List Heap}
@[simp] theorem x223:Zc (orc T) T 223 xs d st=cP T 223 false xs d st:=zaa Za6.h223
end
def b356:AX:=
 (.seq
 (.reg [rg 2 (.mov (.c (.i .i64 0)))])
 (.seq
 (.reg [mv 4 0,rg 5 (.call 71 [(.t 4)]),mv 0 5])
 (.seq
 (.reg [mv 6 0,rg 7 (.len (.t 6)),mv 3 7])
 (.seq
 (.seq
 (.reg [mv 8 3,rg 9 (.bin .eql (.t 8) (.c (.i .i64 0)))])
 (.cond (.t 9)
 (.seq
 (.reg [rg 2 (.mov (.c (.i .i64 0)))])
 (.pre (.norm false [2]) .ret))
 .skip))
 (.seq
 (.reg [mv 10 3,rg 11 (.bin .sub (.t 10) (.c (.i .i64 1))),rg 12 (.bin .mul (.c (.i .i64 32)) (.t 11)),mv 13 0,mv 14 3,rg 15 (.bin .sub (.t 14) (.c (.i .i64 1))),rg 16 (.iad 1 (.t 13) (.t 15)),rg 17 (.load none (.t 16)),rg 18 (.call 91 [(.t 17)]),rg 19 (.bin .add (.t 12) (.t 18)),mv 2 19])
 (.pre (.norm false [2]) .ret))))))
def row356:AFx:=⟨1,20,[.t 2],b356,none,false⟩
class Zcz (T:Tbl):Prop where
 h356:T 356=some row356
section
variable{T:Tbl}[Zcz T]{d:Option Nat}{st:St}{xs:List AV}{ps:List Opd}{e:Env}{h:Heap}{ol:List Heap}
@[simp] theorem x356:Zc (orc T) T 356 xs d st=cP T 356 false xs d st:=zaa Zcz.h356
@[simp] theorem y356:opD (orc T) T (.call 356 ps) e h ol=dP T 356 false ps e:=zal Zcz.h356
end
def l43_0:AX:=
 (.note
 (.seq
 (.seq
 (.reg [mv 6 3,rg 7 (.bin .gtr (.t 6) (.c (.i .i64 0))),mv 8 7,gd 9 8 true (.mov (.t 0)),gd 10 8 true (.mov (.t 3)),gd 11 8 true (.bin .sub (.t 10) (.c (.i .i64 1))),gd 12 8 true (.iad 1 (.t 9) (.t 11)),gd 13 8 true (.load none (.t 12)),gd 14 8 true (.bin .eql (.t 13) (.c (u32 0))),rg 15 (.pick (.t 8) (.t 14) (.c (.b false)))])
 (.cond (.t 15)
 .skip
 (.exit 0)))
 (.block 1
 (.reg [mv 16 3,rg 17 (.bin .sub (.t 16) (.c (.i .i64 1))),mv 3 17])))
 (.norm false [0,3]))
def b43:AX:=
 (.seq
 (.reg [rg 2 (.mov (.c (.sl [] .nl)))])
 (.seq
 (.reg [mv 4 0,rg 5 (.len (.t 4)),mv 3 5])
 (.seq
 (.lp 0 (.norm false [0,3]) l43_0 (.norm false [0,3]))
 (.seq
 (.reg [rg 18 (.bsl 1 [(u32 0)] 0 []),mv 19 0,mv 20 3,rg 21 (.slc 1 (.t 19) none (some (.t 20)) none),rg 22 (.app 1 (.t 18) (.t 21)),mv 2 22])
 (.pre (.norm false [2]) .ret)))))
def b84:AX:=
 (.seq
 (.reg [rg 4 (.mov (.c (u32 0)))])
 (.seq
 (.seq
 (.reg [mv 5 1,mv 6 0,rg 7 (.len (.t 6)),rg 8 (.bin .lss (.t 5) (.t 7))])
 (.cond (.t 8)
 (.seq
 (.reg [mv 9 0,mv 10 1,rg 11 (.iad 1 (.t 9) (.t 10)),rg 12 (.load none (.t 11)),mv 4 12])
 (.pre (.norm false [4]) .ret))
 .skip))
 (.seq
 (.reg [rg 4 (.mov (.c (u32 0)))])
 (.pre (.norm false [4]) .ret))))
def l52_0:AX:=
 (.note
 (.seq
 (.seq
 (.reg [mv 14 5,rg 15 (.bin .geq (.t 14) (.c (.i .i64 0)))])
 (.cond (.t 15)
 .skip
 (.exit 0)))
 (.seq
 (.block 1
 (.seq
 (.reg [mv 18 0,mv 19 5,rg 20 (.call 84 [(.t 18),(.t 19)]),mv 6 20])
 (.seq
 (.reg [mv 21 1,mv 22 5,rg 23 (.call 84 [(.t 21),(.t 22)]),mv 7 23])
 (.seq
 (.seq
 (.reg [mv 24 6,mv 25 7,rg 26 (.bin .lss (.t 24) (.t 25))])
 (.cond (.t 26)
 (.seq
 (.reg [rg 4 (.mov (.c (.i .i64 (-1))))])
 (.pre (.norm false [4]) .ret))
 .skip))
 (.seq
 (.reg [mv 27 6,mv 28 7,rg 29 (.bin .gtr (.t 27) (.t 28))])
 (.cond (.t 29)
 (.seq
 (.reg [rg 4 (.mov (.c (.i .i64 1)))])
 (.pre (.norm false [4]) .ret))
 .skip))))))
 (.reg [mv 16 5,rg 17 (.bin .sub (.t 16) (.c (.i .i64 1))),mv 5 17])))
 (.norm false [0,1,5]))
def b52:AX:=
 (.seq
 (.reg [rg 4 (.mov (.c (.i .i64 0)))])
 (.seq
 (.seq
 (.reg [mv 8 0,rg 9 (.len (.t 8)),mv 10 1,rg 11 (.len (.t 10)),rg 12 (.mm true [(.t 9),(.t 11)]),rg 13 (.bin .sub (.t 12) (.c (.i .i64 1))),mv 5 13])
 (.lp 0 (.norm false [0,1,5]) l52_0 (.norm false [])))
 (.seq
 (.reg [rg 4 (.mov (.c (.i .i64 0)))])
 (.pre (.norm false [4]) .ret))))
def l54_0:AX:=
 (.note
 (.seq
 (.seq
 (.reg [mv 11 5,mv 12 0,rg 13 (.len (.t 12)),rg 14 (.bin .lss (.t 11) (.t 13))])
 (.cond (.t 14)
 .skip
 (.exit 0)))
 (.seq
 (.block 1
 (.seq
 (.drawT [mv 17 0,mv 18 5,rg 19 (.iad 1 (.t 17) (.t 18)),rg 20 (.load none (.t 19)),mv 21 1,mv 22 5,rg 23 (.iad 1 (.t 21) (.t 22)),rg 24 (.load none (.t 23))]
 [rg 25 (.bin .neq (.t 20) (.t 24))])
 (.cond (.t 25)
 (.seq
 (.reg [rg 4 (.mov (.c (.b false)))])
 (.pre (.norm false [4]) .ret))
 .skip)))
 (.reg [mv 15 5,rg 16 (.bin .add (.t 15) (.c (.i .i64 1))),mv 5 16])))
 (.norm false [0,1,5]))
def b54:AX:=
 (.seq
 (.reg [rg 4 (.mov (.c (.b false)))])
 (.seq
 (.seq
 (.reg [mv 6 0,rg 7 (.len (.t 6)),mv 8 1,rg 9 (.len (.t 8)),rg 10 (.bin .neq (.t 7) (.t 9))])
 (.cond (.t 10)
 (.seq
 (.reg [rg 4 (.mov (.c (.b false)))])
 (.pre (.norm false [4]) .ret))
 .skip))
 (.seq
 (.seq
 (.reg [rg 5 (.mov (.c (.i .i64 0)))])
 (.lp 0 (.norm false [0,1,5]) l54_0 (.norm false [])))
 (.seq
 (.reg [rg 4 (.mov (.c (.b true)))])
 (.pre (.norm false [4]) .ret)))))
def l58_0:AX:=
 (.note
 (.seq
 (.seq
 (.reg [mv 17 8,mv 18 5,rg 19 (.bin .lss (.t 17) (.t 18))])
 (.cond (.t 19)
 .skip
 (.exit 0)))
 (.seq
 (.block 1
 (.seq
 (.reg [mv 22 7,mv 23 0,mv 24 8,rg 25 (.call 84 [(.t 23),(.t 24)]),rg 26 (.conv .u64 (.t 25)),mv 27 1,mv 28 8,rg 29 (.call 84 [(.t 27),(.t 28)]),rg 30 (.conv .u64 (.t 29)),rg 31 (.bin .add (.t 26) (.t 30)),rg 32 (.bin .add (.t 22) (.t 31)),mv 7 32])
 (.seq
 (.reg [mv 33 6,mv 34 8,mv 35 7,rg 36 (.bin .rem (.t 35) (.c (u64 4294967296))),rg 37 (.conv .u32 (.t 36)),rg 38 (.iad 1 (.t 33) (.t 34)),so (.store 1 (.t 38) (.t 37))])
 (.reg [mv 39 7,rg 40 (.bin .quo (.t 39) (.c (u64 4294967296))),mv 7 40]))))
 (.reg [mv 20 8,rg 21 (.bin .add (.t 20) (.c (.i .i64 1))),mv 8 21])))
 (.norm false [0,1,5,6,7,8]))
def b58:AX:=
 (.seq
 (.reg [rg 4 (.mov (.c (.sl [] .nl)))])
 (.seq
 (.reg [mv 9 0,rg 10 (.len (.t 9)),mv 11 1,rg 12 (.len (.t 11)),rg 13 (.mm true [(.t 10),(.t 12)]),rg 14 (.bin .add (.t 13) (.c (.i .i64 1))),mv 5 14])
 (.seq
 (.reg [mv 15 5,rg 16 (.mks 1 [(u32 0)] (.t 15) (.t 15)),mv 6 16])
 (.seq
 (.reg [rg 7 (.mov (.c (u64 0)))])
 (.seq
 (.seq
 (.reg [rg 8 (.mov (.c (.i .i64 0)))])
 (.lp 0 (.norm false [0,1,5,6,7,8]) l58_0 (.norm false [6])))
 (.seq
 (.reg [mv 41 6,rg 42 (.call 43 [(.t 41)]),mv 4 42])
 (.pre (.norm false [4]) .ret)))))))
def l59_0:AX:=
 (.note
 (.seq
 (.seq
 (.reg [mv 18 8,mv 19 5,rg 20 (.bin .lss (.t 18) (.t 19))])
 (.cond (.t 20)
 .skip
 (.exit 0)))
 (.seq
 (.block 1
 (.seq
 (.reg [mv 23 0,mv 24 8,rg 25 (.call 84 [(.t 23),(.t 24)]),rg 26 (.conv .u64 (.t 25)),mv 9 26])
 (.seq
 (.reg [mv 27 1,mv 28 8,rg 29 (.call 84 [(.t 27),(.t 28)]),rg 30 (.conv .u64 (.t 29)),mv 31 7,rg 32 (.bin .add (.t 30) (.t 31)),mv 10 32])
 (.seq
 (.reg [rg 7 (.mov (.c (u64 0)))])
 (.seq
 (.seq
 (.reg [mv 33 9,mv 34 10,rg 35 (.bin .lss (.t 33) (.t 34))])
 (.cond (.t 35)
 (.seq
 (.reg [mv 36 9,rg 37 (.bin .add (.t 36) (.c (u64 4294967296))),mv 9 37])
 (.reg [rg 7 (.mov (.c (u64 1)))]))
 .skip))
 (.reg [mv 38 6,mv 39 8,mv 40 9,mv 41 10,rg 42 (.bin .sub (.t 40) (.t 41)),rg 43 (.conv .u32 (.t 42)),rg 44 (.iad 1 (.t 38) (.t 39)),so (.store 1 (.t 44) (.t 43))]))))))
 (.reg [mv 21 8,rg 22 (.bin .add (.t 21) (.c (.i .i64 1))),mv 8 22])))
 (.norm false [0,1,5,6,7,8]))
def b59:AX:=
 (.seq
 (.reg [rg 4 (.mov (.c (.sl [] .nl)))])
 (.seq
 (.reg [mv 11 0,rg 12 (.len (.t 11)),mv 13 1,rg 14 (.len (.t 13)),rg 15 (.mm true [(.t 12),(.t 14)]),mv 5 15])
 (.seq
 (.reg [mv 16 5,rg 17 (.mks 1 [(u32 0)] (.t 16) (.t 16)),mv 6 17])
 (.seq
 (.reg [rg 7 (.mov (.c (u64 0)))])
 (.seq
 (.seq
 (.reg [rg 8 (.mov (.c (.i .i64 0)))])
 (.lp 0 (.norm false [0,1,5,6,7,8]) l59_0 (.norm false [6])))
 (.seq
 (.reg [mv 45 6,rg 46 (.call 43 [(.t 45)]),mv 4 46])
 (.pre (.norm false [4]) .ret)))))))
def row43:AFx:=⟨1,23,[.t 2],b43,none,false⟩
def row84:AFx:=⟨2,13,[.t 4],b84,none,false⟩
def row52:AFx:=⟨2,30,[.t 4],b52,none,false⟩
def row54:AFx:=⟨2,26,[.t 4],b54,none,false⟩
def row58:AFx:=⟨2,43,[.t 4],b58,none,false⟩
def row59:AFx:=⟨2,47,[.t 4],b59,none,false⟩
class Zx (T:Tbl):Prop where
 h43:T 43=some row43
 h84:T 84=some row84
 h52:T 52=some row52
 h54:T 54=some row54
 h58:T 58=some row58
 h59:T 59=some row59
section
variable{T:Tbl}[Zx T]{d:Option Nat}{st:St}
@[simp] theorem x43(xs:List AV):Zc (orc T) T 43 xs d st=cP T 43 false xs d st:=zaa Zx.h43
@[simp] theorem y43{e:Env}{h:Heap}{older:List Heap}(args:List Opd):opD (orc T) T (.call 43 args) e h older=dR (Zb T 43 ((args.map (ev e.get)).map (wkIf false))) (args.map (ev e.get)):=zal Zx.h43
@[simp] theorem x84(xs:List AV):Zc (orc T) T 84 xs d st=cP T 84 false xs d st:=zaa Zx.h84
@[simp] theorem x52(xs:List AV):Zc (orc T) T 52 xs d st=cP T 52 false xs d st:=zaa Zx.h52
@[simp] theorem x54(xs:List AV):Zc (orc T) T 54 xs d st=cP T 54 false xs d st:=zaa Zx.h54
@[simp] theorem x58(xs:List AV):Zc (orc T) T 58 xs d st=cP T 58 false xs d st:=zaa Zx.h58
@[simp] theorem y58{e:Env}{h:Heap}{older:List Heap}(args:List Opd):opD (orc T) T (.call 58 args) e h older=dR (Zb T 58 ((args.map (ev e.get)).map (wkIf false))) (args.map (ev e.get)):=zal Zx.h58
@[simp] theorem y59{e:Env}{h:Heap}{older:List Heap}(args:List Opd):opD (orc T) T (.call 59 args) e h older=dR (Zb T 59 ((args.map (ev e.get)).map (wkIf false))) (args.map (ev e.get)):=zal Zx.h59
end
section
variable{T:Tbl}
theorem zd7(a:List UInt32)(hl:a.length<9223372036854775808){n:Nat}(hn:n≤a.length)(h0:∀(i:Nat) (x:UInt32),n≤i→a[i]? = some x→x.toNat=0)(h1:∀x:UInt32,0<n→a[n-1]? = some x→x.toNat≠0) :
  ∀m:Nat,(n≤m∧m≤a.length)→Ze T 0 0 (.norm false [0,3]) l43_0 ⟨[(0,.sl (Za a) .an),(3,.i .i64 (m:Int))],[],2⟩=some (.n,⟨[(0,.sl (Za a) .an),(3,.i .i64 (n:Int))],[],2⟩):=by
 refine zaw (fun m:Nat=>⟨[(0,.sl (Za a) .an),(3,.i .i64 (m:Int))],[],2⟩) _ (fun m=>m) _ ?_
 rintro m ⟨hm,hma⟩
 by_cases h2:m=0
 ·right;subst h2;have:n=0:=by omega
  subst this;constructor<;>simp[l43_0]
 ·have hw:IntKind.wrap .i64 ((m:Int)-1)=((m-1:Nat):Int):=by rw[zac _ (by omega)];omega
  have hm1:m-1<a.length:=by omega
  have hg:a[m-1]? = some (a[m-1]'hm1):=Ya hm1;have hpos:0<m:=by omega
  by_cases h3:m=n
  ·right;subst h3;have hx:=h1 _ hpos hg;constructor<;>simp[l43_0,hpos,hw,hm1,hx]
  ·left;refine⟨m-1,⟨by omega,by omega⟩,by show m-1<m;omega,?_,rfl⟩;have hx:=h0 (m-1) _ (by omega) hg;simp[l43_0,hpos,hw,hm1,hx]
end
section
variable{T:Tbl}[Zx T]
theorem zbc(a:List UInt32)(hl:a.length≤1000000):Zb T 43 [.sl (Za a) .an]=some (.sl (Za (ofN (val a))) .an):=by
 obtain⟨n,h1,h2,h3,h4⟩:=zep a;have hr:=zd7 (T:=T) a (by omega) h1 h3 h4 a.length ⟨h1,Yg _⟩;have hlen:(ofN (val a)).length=n:=by rw[←h2];simp;omega
 have hb:n≤4294967296:=by omega
 have hb2:(ofN (val a)).length≤4294967296:=by omega
 rw[zab Zx.h43 rfl,b43];simp[hr,h1,h2,hlen,hb];rw[Yb (by omega)]
def atW(a:List UInt32)(i:Nat):Nat:=(a[i]?.map UInt32.toNat).getD 0
theorem zh4(a:List UInt32)(i:Nat):atW a i<4294967296:=by
 unfold atW;cases a[i]? with
 | none=>decide
 | some x=>exact zaj x
theorem zbe(a:List UInt32)(i:Nat):val (a.take (i+1))=val (a.take i)+4294967296^i*atW a i:=by
 unfold atW;cases h:a[i]? with
 | some x=>exact zaf h
 | none=>
  have:a.length≤i:=by
   rcases Yp i a.length with h1 | h1
   ·rw[Ya h1]at h;cases h
   ·exact h1
  rw[za9 (by omega),za9 this];simp
theorem zc0(a:List UInt32)(i:Nat)(_hl:a.length≤1000000):Zb T 84 [.sl (Za a) .an,.i .i64 i]=some (u32 (atW a i)):=by
 rw[zab Zx.h84 rfl,b84];unfold atW;by_cases h:i<a.length
 ·have hg:a[i]? = some (a[i]'h):=Ya h;simp[h]
 ·have hg:a[i]? = none:=Yap (by omega);simp[h]
theorem zi2(a b:List UInt32)(hl:a.length≤1000000)(hl2:b.length≤1000000):∀m:Nat,m≤1000000 →
  Ze T 0 0 (.norm false []) l52_0 ⟨[(0,.sl (Za a) .an),(1,.sl (Za b) .an),(5,.i .i64 ((m:Int)-1))],[],2⟩ =
   if val (a.take m)<val (b.take m) then some (.r,⟨[(4,.i .i64 (-1))],[],2⟩) else if val (b.take m)<val (a.take m) then some (.r,⟨[(4,.i .i64 1)],[],2⟩) else some (.n,⟨[],[],2⟩):=by
 refine zaw (fun m:Nat=>⟨[(0,.sl (Za a) .an),(1,.sl (Za b) .an),(5,.i .i64 ((m:Int)-1))],[],2⟩) _ (fun m=>m) _ ?_;intro m hm;cases m with
 | zero=>
  right;constructor<;>simp[l52_0]
 | succ i=>
  have hw:IntKind.wrap .i64 ((i:Int)-1)=(i:Int)-1:=zac _ (by omega);have ca:=zc0 (T:=T) a i hl;have cb:=zc0 (T:=T) b i hl2;have e1:=zbe a i;have e2:=zbe b i;have b1:=za0 (a.take i);have b2:=za0 (b.take i);have p1:4294967296^(a.take i).length≤4294967296^i:=Y4 (by decide) (by simp;omega);have p2:4294967296^(b.take i).length≤4294967296^i:=Y4 (by decide) (by simp;omega);rcases Yby (atW a i) (atW b i) with h1 | h1 | h1
  ·right;have h3:=Yaw (4294967296^i) (show atW a i+1≤atW b i from h1);rw[Yu]at h3;have h2:val (a.take (i+1))<val (b.take (i+1)):=by omega
   constructor<;>simp[l52_0,ca,cb,h1,h2]
  ·left;refine⟨i,by omega,Y6 i,?_,?_⟩
   ·simp[l52_0,ca,cb,h1,hw]
   ·rw[e1,e2,h1];have e3:(val (a.take i)+4294967296^i*atW b i<val (b.take i)+4294967296^i*atW b i)=(val (a.take i)<val (b.take i)):=by
     apply propext;omega
    have e4:(val (b.take i)+4294967296^i*atW b i<val (a.take i)+4294967296^i*atW b i)=(val (b.take i)<val (a.take i)):=by
     apply propext;omega
    simp only[e3,e4]
  ·right;have h3:=Yaw (4294967296^i) (show atW b i+1≤atW a i from h1);rw[Yu]at h3;have h2:val (b.take (i+1))<val (a.take (i+1)):=by omega
   have h4:¬ val (a.take (i+1))<val (b.take (i+1)):=by omega
   have h5:¬ atW a i<atW b i:=by omega
   constructor<;>simp[l52_0,ca,cb,h1,h2,h4,h5]
theorem zd8(a b:List UInt32)(ha:a.length≤1000000)(hb:b.length≤1000000):Zb T 52 [.sl (Za a) .an,.sl (Za b) .an]=some (.i .i64 (Zd4 (val a) (val b))):=by
 have hc:=zi2 (T:=T) a b ha hb (max a.length b.length) (by omega);rw[Yb (by omega),Yb (by omega)]at hc;have e:(if (a.length:Int)<b.length then (b.length:Int) else a.length)=((max a.length b.length:Nat):Int):=by split<;>omega
 have hw:IntKind.wrap .i64 (((max a.length b.length:Nat):Int)-1)=((max a.length b.length:Nat):Int)-1:=zac _ (by omega);rw[zab Zx.h52 rfl,b52];simp at e hw hc;simp[e,hw,hc,Zd4]
 repeat' split
 all_goals simp
end
section
variable{T:Tbl}
theorem zh5(a b:List UInt32)(hab:a.length=b.length)(hl:a.length≤1000000):∀i:Nat,i≤a.length →
  Ze T 0 0 (.norm false []) l54_0 ⟨[(0,.sl (Za a) .an),(1,.sl (Za b) .an),(5,.i .i64 i)],[],2⟩=if a.drop i=b.drop i then some (.n,⟨[],[],2⟩) else some (.r,⟨[(4,.b false)],[],2⟩):=by
 refine zaw (fun i:Nat=>⟨[(0,.sl (Za a) .an),(1,.sl (Za b) .an),(5,.i .i64 i)],[],2⟩) _ (fun i=>a.length-i) _ ?_;intro i hi;by_cases h0:i<a.length
 ·have h1:i<b.length:=by omega
  have ha:a[i]? = some (a[i]'h0):=Ya h0;have hb:b[i]? = some (b[i]'h1):=Ya h1;have hw:IntKind.wrap .i64 ((i:Int)+1)=((i+1:Nat):Int):=zac _ (by omega);have hda:a.drop i=a[i]'h0::a.drop (i+1):=Yd h0;have hdb:b.drop i=b[i]'h1::b.drop (i+1):=Yd h1;by_cases h2:a[i]'h0=b[i]'h1
  ·left;refine⟨i+1,h0,by show a.length-(i+1)<a.length-i;omega,?_,?_⟩
   ·simp[l54_0,h0,h1,h2,hw]
   ·rw[hda,hdb,h2];simp only[List.cons.injEq,true_and]
  ·right;have h3:¬ (a[i]'h0).toNat=(b[i]'h1).toNat:=fun h=>h2 (UInt32.toNat_inj.1 h);have h4:¬ a.drop i=b.drop i:=by rw[hda,hdb];intro h;exact h2 (List.cons.inj h).1
   constructor<;>simp[l54_0,h0,h1,h3,h4]
 ·right;have h4:a.drop i=b.drop i:=by rw[Yak (by omega),Yak (by omega)]
  have h5:¬ (i:Int)<a.length:=by omega
  constructor<;>simp[l54_0,h4,h5]
end
section
variable{T:Tbl}[Zx T]
theorem zgb(a b:List UInt32)(ha:a.length≤1000000):Zb T 54 [.sl (Za a) .an,.sl (Za b) .an]=some (.b (decide (a=b))):=by
 rw[zab Zx.h54 rfl,b54];by_cases h:a.length=b.length
 ·have hc:=zh5 (T:=T) a b h ha 0 (Yq _);simp at hc;have h2:(a.length:Int)=b.length:=by omega
  by_cases h3:a=b
  ·subst h3;simp at hc;simp[hc]
  ·rw[if_neg h3]at hc;simp[h,hc,h3]
 ·have h3:¬ a=b:=fun he=>h (by rw[he]);have h2:¬ (a.length:Int)=b.length:=by omega
  simp[h2,h3]
def Zhw(a b:List UInt32)(n:Nat)(y:Nat×Nat×List UInt32):St:=
 ⟨[(0,.sl (Za a) .an),(1,.sl (Za b) .an),(5,.i .i64 n),(6,.bs (.loc 16) 1 1 0 n),(7,u64 y.2.1),(8,.i .i64 y.1)],[(.loc 16,⟨1,.own,1,Za y.2.2⟩)],3⟩
theorem zi3(a b:List UInt32)(n:Nat)(ha:a.length≤1000000)(hb:b.length≤1000000)(hn:n≤1000001):∀y:Nat×Nat×List UInt32,
  (y.1≤n∧y.2.1≤1∧y.2.2.length=n∧val (y.2.2.take y.1)+4294967296^y.1*y.2.1=val (a.take y.1)+val (b.take y.1)) →
  ∃r,(∃(c:Nat) (out:List UInt32),r=(Ex.n,(⟨[(6,.bs (.loc 16) 1 1 0 n)],[(.loc 16,⟨1,.own,1,Za out⟩)],3⟩:St)) ∧
   out.length=n∧c≤1∧val out+4294967296^n*c=val (a.take n)+val (b.take n))∧Ze T 0 0 (.norm false [6]) l58_0 (Zhw a b n y)=some r:=by
 refine zam _ _ (fun y=>n-y.1) _ ?_
 rintro⟨i,c,out⟩ ⟨hi,hc,ho,hv⟩
 simp only at hi hc ho hv;by_cases h0:i<n
 ·left;have hoi:i<out.length:=by omega
  have hog:out[i]? = some (out[i]'hoi):=Ya hoi;have hw:IntKind.wrap .i64 ((i:Int)+1)=((i+1:Nat):Int):=zac _ (by omega);have ca:=zc0 (T:=T) a i ha;have cb:=zc0 (T:=T) b i hb;have la:=zh4 a i;have lb:=zh4 b i;have e1:=zbe a i;have e2:=zbe b i;have m1:atW a i%18446744073709551616=atW a i:=Yi (by omega);have m2:atW b i%18446744073709551616=atW b i:=Yi (by omega);have m3:(c+(atW a i+atW b i))%18446744073709551616=c+(atW a i+atW b i):=Yi (by omega);have m4:(c+(atW a i+atW b i))/4294967296%18446744073709551616=(c+(atW a i+atW b i))/4294967296:=Yi (by omega);refine⟨(i+1,(c+(atW a i+atW b i))/4294967296,out.set i (w32 (c+(atW a i+atW b i)))),⟨h0,by simp only;omega,by simp[ho],?_⟩,by simp only;omega,?_⟩
  ·simp only;rw[zbn _ hoi,e1,e2,zb0,Yy];generalize 4294967296^i=p at *
   generalize atW a i=x at *
   generalize atW b i=z at *
   have e:=Ybd (c+(x+z)) 4294967296;have e2:p*((c+(x+z))%4294967296)+p*4294967296*((c+(x+z))/4294967296)=p*(c+(x+z)):=by
    conv=>rhs;rw[←e]
    rw[Yu,Yz];omega
   rw[Yu,Yu]at e2;omega
  ·simp[l58_0,Zhw,h0,ca,cb,m1,m2,m3,m4,hog,hw]
 ·right;have:i=n:=by omega
  subst this;rw[Yb (by omega)]at hv;refine⟨_,⟨c,out,rfl,ho,hc,hv⟩,?_,?_⟩<;>simp[l58_0,Zhw]
theorem zwd{p q r x y z c:Nat}(h1:x+p*4294967296*c=y+z)(h2:c≤1)(h3:y<q)(h4:z<r)(h5:q≤p)(h6:r≤p):x=y+z:=by
 rcases(show c=0∨c=1 by omega) with h | h
 ·subst h;rw[Yah,Yt]at h1;exact h1
 ·subst h;rw[Ycq]at h1;omega
theorem zm3(a b:List UInt32)(ha:a.length≤100000)(hb:b.length≤100000):Zb T 58 [.sl (Za a) .an,.sl (Za b) .an]=some (.sl (Za (ofN (val a+val b))) .an):=by
 obtain⟨n,hn⟩:∃n,n=max a.length b.length:=⟨_,rfl⟩;obtain⟨_,⟨c,out,rfl,ho,hc,hv⟩,hr⟩:=zi3 (T:=T) a b (n+1) (by omega) (by omega) (by omega) (0,0,List.replicate (n+1) 0) ⟨Yq _,Yq _,by simp,by simp⟩;unfold Zhw at hr;simp at hr;rw[Yb (by omega),Yb (by omega)]at hv;have e:(if a.length<b.length then (b.length:Int) else a.length)=(n:Int):=by split<;>omega
 have hw:IntKind.wrap .i64 ((n:Int)+1)=((n:Int)+1):=zac _ (by omega);have hn1:(0:Int)≤(n:Int)+1:=by omega
 have hn2:(n:Int)+1≤4294967296:=by omega
 have hn3:((n:Int)+1).toNat=n+1:=by omega
 have l1:=za0 a;have l2:=za0 b;have p1:4294967296^a.length≤4294967296^n:=Y4 (by decide) (by omega);have p2:4294967296^b.length≤4294967296^n:=Y4 (by decide) (by omega);have hval:val out=val a+val b:=by
  rw[Yy]at hv;exact zwd hv hc l1 l2 p1 p2
 have hnm:=zbc (T:=T) out (by omega);rw[hval]at hnm;have htk:List.take (n+1) out=out:=Yb (by omega);rw[zab Zx.h58 rfl,b58];simp[e,hw,hn1,hn2,hn3,hr,ho,htk,hnm]
def Zgw(a b:List UInt32)(n:Nat)(y:Nat×Nat×List UInt32):St:=
 ⟨[(0,.sl (Za a) .an),(1,.sl (Za b) .an),(5,.i .i64 n),(6,.bs (.loc 17) 1 1 0 n),(7,u64 y.2.1),(8,.i .i64 y.1)],[(.loc 17,⟨1,.own,1,Za y.2.2⟩)],3⟩
theorem zi4(a b:List UInt32)(n:Nat)(ha:a.length≤1000000)(hb:b.length≤1000000)(hn:n≤1000001):∀y:Nat×Nat×List UInt32,
  (y.1≤n∧y.2.1≤1∧y.2.2.length=n∧val (y.2.2.take y.1)+val (b.take y.1)=val (a.take y.1)+4294967296^y.1*y.2.1) →
  ∃r,(∃(c:Nat) (out:List UInt32),r=(Ex.n,(⟨[(6,.bs (.loc 17) 1 1 0 n)],[(.loc 17,⟨1,.own,1,Za out⟩)],3⟩:St)) ∧
   out.length=n∧c≤1∧val out+val (b.take n)=val (a.take n)+4294967296^n*c)∧Ze T 0 0 (.norm false [6]) l59_0 (Zgw a b n y)=some r:=by
 refine zam _ _ (fun y=>n-y.1) _ ?_
 rintro⟨i,c,out⟩ ⟨hi,hc,ho,hv⟩
 simp only at hi hc ho hv;by_cases h0:i<n
 ·left;have hoi:i<out.length:=by omega
  have hog:out[i]? = some (out[i]'hoi):=Ya hoi;have hw:IntKind.wrap .i64 ((i:Int)+1)=((i+1:Nat):Int):=zac _ (by omega);have ca:=zc0 (T:=T) a i ha;have cb:=zc0 (T:=T) b i hb;have la:=zh4 a i;have lb:=zh4 b i;have e1:=zbe a i;have e2:=zbe b i;have m1:atW a i%18446744073709551616=atW a i:=Yi (by omega);have m2:atW b i%18446744073709551616=atW b i:=Yi (by omega);have m3:(atW b i+c)%18446744073709551616=atW b i+c:=Yi (by omega);have m4:(atW a i+4294967296)%18446744073709551616=atW a i+4294967296:=Yi (by omega);have fin:∀s d:Nat,d≤1→s<4294967296→s+(atW b i+c)=atW a i+4294967296*d →
    val ((out.set i (w32 s)).take (i+1))+val (b.take (i+1))=val (a.take (i+1))+4294967296^(i+1)*d:=by
   intro s d hd hs h;rw[zbn _ hoi,e1,e2,zag hs,Yy];generalize 4294967296^i=p at *
   have e3:p*s+p*(atW b i+c)=p*atW a i+p*4294967296*d:=by rw[←Yu,h,Yu,Yz]
   rw[Yu]at e3;omega
  by_cases h1:atW a i<atW b i+c
  ·have hs:Zdd (atW a i+4294967296) (atW b i+c)=atW a i+4294967296-(atW b i+c):=zeh (by omega) (by omega);have m5:(atW a i+4294967296-(atW b i+c))%4294967296=atW a i+4294967296-(atW b i+c):=Yi (by omega);refine⟨(i+1,1,out.set i (w32 (atW a i+4294967296-(atW b i+c)))),⟨h0,Yg _,by simp[ho],fin _ 1 (by omega) (by omega) (by omega)⟩,by simp only;omega,?_⟩;simp[l59_0,Zgw,h0,ca,cb,m1,m2,m3,m4,h1,hs,hog,hw]
  ·have hs:Zdd (atW a i) (atW b i+c)=atW a i-(atW b i+c):=zeh (by omega) (by omega);refine⟨(i+1,0,out.set i (w32 (atW a i-(atW b i+c)))),⟨h0,Yq _,by simp[ho],fin _ 0 (by omega) (by omega) (by omega)⟩,by simp only;omega,?_⟩;simp[l59_0,Zgw,h0,ca,cb,m1,m2,m3,h1,hs,hog,hw]
 ·right;have:i=n:=by omega
  subst this;rw[Yb (by omega)]at hv;refine⟨_,⟨c,out,rfl,ho,hc,hv⟩,?_,?_⟩<;>simp[l59_0,Zgw]
theorem zm4(a b:List UInt32)(ha:a.length≤100000)(hb:b.length≤100000)(hab:val b≤val a):Zb T 59 [.sl (Za a) .an,.sl (Za b) .an]=some (.sl (Za (ofN (val a-val b))) .an):=by
 obtain⟨n,hn⟩:∃n,n=max a.length b.length:=⟨_,rfl⟩;obtain⟨_,⟨c,out,rfl,ho,hc,hv⟩,hr⟩:=zi4 (T:=T) a b n (by omega) (by omega) (by omega) (0,0,List.replicate n 0) ⟨Yq _,Yq _,by simp,by simp⟩;unfold Zgw at hr;simp at hr;rw[Yb (by omega),Yb (by omega)]at hv;have e:(if a.length<b.length then (b.length:Int) else a.length)=(n:Int):=by split<;>omega
 have hn2:(n:Int)≤4294967296:=by omega
 have hlo:=za0 out;rw[ho]at hlo;have hval:val out=val a-val b:=by
  rcases Yat c with h1 | h1
  ·subst h1;omega
  ·have:c=1:=by omega
   subst this;omega
 have hnm:=zbc (T:=T) out (by omega);rw[hval]at hnm;have htk:List.take n out=out:=Yb (by omega);rw[zab Zx.h59 rfl,b59];simp[e,hn2,hr,ho,htk,hnm]
end
def l61_0:AX:=
 (.note
 (.seq
 (.seq
 (.reg [mv 21 8,mv 22 1,rg 23 (.len (.t 22)),rg 24 (.bin .lss (.t 21) (.t 23))])
 (.cond (.t 24)
 .skip
 (.exit 2)))
 (.seq
 (.block 3
 (.seq
 (.drawT [mv 27 7,mv 28 0,mv 29 6,rg 30 (.iad 1 (.t 28) (.t 29)),rg 31 (.load none (.t 30)),rg 32 (.conv .u64 (.t 31)),mv 33 1,mv 34 8,rg 35 (.iad 1 (.t 33) (.t 34)),rg 36 (.load none (.t 35)),rg 37 (.conv .u64 (.t 36)),rg 38 (.bin .mul (.t 32) (.t 37)),mv 39 5,mv 40 6,mv 41 8,rg 42 (.bin .add (.t 40) (.t 41)),rg 43 (.iad 1 (.t 39) (.t 42)),rg 44 (.load none (.t 43)),rg 45 (.conv .u64 (.t 44)),rg 46 (.bin .add (.t 38) (.t 45))]
 [rg 47 (.bin .add (.t 27) (.t 46)),mv 7 47])
 (.seq
 (.reg [mv 48 5,mv 49 6,mv 50 8,rg 51 (.bin .add (.t 49) (.t 50)),mv 52 7,rg 53 (.bin .rem (.t 52) (.c (u64 4294967296))),rg 54 (.conv .u32 (.t 53)),rg 55 (.iad 1 (.t 48) (.t 51)),so (.store 1 (.t 55) (.t 54))])
 (.reg [mv 56 7,rg 57 (.bin .quo (.t 56) (.c (u64 4294967296))),mv 7 57]))))
 (.reg [mv 25 8,rg 26 (.bin .add (.t 25) (.c (.i .i64 1))),mv 8 26])))
 (.norm false [0,1,5,6,7,8]))
def l61_1:AX:=
 (.note
 (.seq
 (.seq
 (.reg [mv 15 6,mv 16 0,rg 17 (.len (.t 16)),rg 18 (.bin .lss (.t 15) (.t 17))])
 (.cond (.t 18)
 .skip
 (.exit 0)))
 (.seq
 (.block 1
 (.seq
 (.reg [rg 7 (.mov (.c (u64 0)))])
 (.seq
 (.seq
 (.reg [rg 8 (.mov (.c (.i .i64 0)))])
 (.lp 2 (.norm false [0,1,5,6,7,8]) l61_0 (.norm false [0,1,5,6,7])))
 (.reg [mv 58 5,mv 59 6,mv 60 1,rg 61 (.len (.t 60)),rg 62 (.bin .add (.t 59) (.t 61)),mv 63 7,rg 64 (.conv .u32 (.t 63)),rg 65 (.iad 1 (.t 58) (.t 62)),so (.store 1 (.t 65) (.t 64))]))))
 (.reg [mv 19 6,rg 20 (.bin .add (.t 19) (.c (.i .i64 1))),mv 6 20])))
 (.norm false [0,1,5,6]))
def b61:AX:=
 (.seq
 (.reg [rg 4 (.mov (.c (.sl [] .nl)))])
 (.seq
 (.reg [mv 9 0,rg 10 (.len (.t 9)),mv 11 1,rg 12 (.len (.t 11)),rg 13 (.bin .add (.t 10) (.t 12)),rg 14 (.mks 1 [(u32 0)] (.t 13) (.t 13)),mv 5 14])
 (.seq
 (.seq
 (.reg [rg 6 (.mov (.c (.i .i64 0)))])
 (.lp 0 (.norm false [0,1,5,6]) l61_1 (.norm false [5])))
 (.seq
 (.reg [mv 66 5,rg 67 (.call 43 [(.t 66)]),mv 4 67])
 (.pre (.norm false [4]) .ret)))))
def row61:AFx:=⟨2,68,[.t 4],b61,none,false⟩
class Zab (T:Tbl):Prop extends Zx T where
 h61:T 61=some row61
section
variable{T:Tbl}[Zab T]{d:Option Nat}{st:St}
@[simp] theorem x61(xs:List AV):Zc (orc T) T 61 xs d st=cP T 61 false xs d st:=zaa Zab.h61
@[simp] theorem y61{e:Env}{h:Heap}{older:List Heap}(args:List Opd):opD (orc T) T (.call 61 args) e h older=dR (Zb T 61 ((args.map (ev e.get)).map (wkIf false))) (args.map (ev e.get)):=zal Zab.h61
end
section
variable{T:Tbl}[Zab T]
theorem zwe{p m w c c' s x y t v:Nat}(h:m+p*c=s+x*t)(e:w+4294967296*c'=x*y+v+c):(m+p*w)+p*4294967296*c'=(s+p*v)+x*(t+p*y):=
 zqo (k:=0) h e
def Zi1(P S a b:List UInt32)(y:Nat×Nat×List UInt32):St:=
 ⟨[(0,.sl (Za a) .an),(1,.sl (Za b) .an),(5,.bs (.loc 14) 1 1 0 (P.length+S.length)),(6,.i .i64 P.length),(7,u64 y.2.1),(8,.i .i64 y.1)],[(.loc 14,⟨1,.own,1,Za (P++(y.2.2++S.drop y.1))⟩)],3⟩
end
section
variable{T:Tbl}
theorem zzq(P S a b:List UInt32)(x:UInt32)(hxa:a[P.length]? = some x)(hS:b.length<S.length)(hl:P.length+S.length≤1000000):∀y:Nat×Nat×List UInt32,
  (y.1≤b.length∧y.2.1<4294967296∧y.2.2.length=y.1∧val y.2.2+4294967296^y.1*y.2.1=val (S.take y.1)+x.toNat*val (b.take y.1)) →
  ∃r,(∃(c:Nat) (m:List UInt32),r=(Ex.n,(⟨[(0,.sl (Za a) .an),(1,.sl (Za b) .an),(5,.bs (.loc 14) 1 1 0 (P.length+S.length)),(6,.i .i64 P.length),(7,u64 c)],[(.loc 14,⟨1,.own,1,Za (P++(m++S.drop b.length))⟩)],3⟩:St)) ∧
   m.length=b.length∧c<4294967296∧val m+4294967296^b.length*c=val (S.take b.length)+x.toNat*val b)∧Ze T 0 2 (.norm false [0,1,5,6,7]) l61_0 (Zi1 P S a b y)=some r:=by
 refine zam _ _ (fun y=>b.length-y.1) _ ?_
 rintro⟨i,c,m⟩ ⟨hi,hc,hm,hv⟩
 simp only at hi hc hm hv;have hPa:P.length<a.length:=by
  rcases Yp P.length a.length with h | h
  ·exact h
  ·rw[Yap h]at hxa;cases hxa
 obtain rfl:a[P.length]'hPa=x:=by rw[Ya hPa]at hxa;cases hxa;rfl
 generalize hX:a[P.length]'hPa=x at hv ⊢;by_cases h0:i<b.length
 ·left;have hb:b[i]? = some (b[i]'h0):=Ya h0;have hiS:i<S.length:=by omega
  have hs:S[i]? = some (S[i]'hiS):=Ya hiS;have hg:=zc4 (P:=P) hm hiS;have hw:IntKind.wrap .i64 ((i:Int)+1)=((i+1:Nat):Int):=zac _ (by omega);have hw2:IntKind.wrap .i64 ((P.length:Int)+i)=((P.length+i:Nat):Int):=zac _ (by omega);have hlb:=zaj (b[i]'h0);have hls:=zaj (S[i]'hiS);have hmul:=zhy (zaj x) hlb;have hset:=zcu (P:=P) (w32 (c+(x.toNat*(b[i]'h0).toNat+(S[i]'hiS).toNat))) hm hiS;have m1:x.toNat*(b[i]'h0).toNat%18446744073709551616=x.toNat*(b[i]'h0).toNat:=Yi (by omega);have m2:(x.toNat*(b[i]'h0).toNat+(S[i]'hiS).toNat)%18446744073709551616=x.toNat*(b[i]'h0).toNat+(S[i]'hiS).toNat:=Yi (by omega);have m3:(c+(x.toNat*(b[i]'h0).toNat+(S[i]'hiS).toNat))%18446744073709551616=c+(x.toNat*(b[i]'h0).toNat+(S[i]'hiS).toNat):=Yi (by omega);have m4:(c+(x.toNat*(b[i]'h0).toNat+(S[i]'hiS).toNat))/4294967296%18446744073709551616=(c+(x.toNat*(b[i]'h0).toNat+(S[i]'hiS).toNat))/4294967296:=Yi (by omega);refine⟨(i+1,(c+(x.toNat*(b[i]'h0).toNat+(S[i]'hiS).toNat))/4294967296,m++[w32 (c+(x.toNat*(b[i]'h0).toNat+(S[i]'hiS).toNat))]),⟨h0,by simp only;omega,by simp[hm],?_⟩,by simp only;omega,?_⟩
  ·simp only;rw[zah,zaf hb,zaf hs,Yy,hm];simp only[zai,za6,Yah,Yt,zb0];exact zwe hv (by have:=Ybd (c+(x.toNat*(b[i]'h0).toNat+(S[i]'hiS).toNat)) 4294967296;omega)
  ·simp at hg hset;simp -implicitDefEqProofs[l61_0,Zi1,h0,hw,hw2,hiS,hg,hset,hPa,hX,m1,m2,m3,m4]
 ·right;have hib:i=b.length:=by omega
  have hv':val m+4294967296^b.length*c=val (S.take b.length)+x.toNat*val b:=by
   rw[hib,Yb (Yg b.length)]at hv;exact hv
  refine⟨(Ex.n,⟨[(0,.sl (Za a) .an),(1,.sl (Za b) .an),(5,.bs (.loc 14) 1 1 0 (P.length+S.length)),(6,.i .i64 P.length),(7,u64 c)],[(.loc 14,⟨1,.own,1,Za (P++(m++S.drop i))⟩)],3⟩),⟨c,m,by rw[hib],by rw[hm,hib],hc,hv'⟩,?_,?_⟩<;>simp -implicitDefEqProofs[l61_0,Zi1,h0]
end
section
variable{T:Tbl}[Zab T]
def Zhx(a b:List UInt32)(y:Nat×List UInt32):St:=
 ⟨[(0,.sl (Za a) .an),(1,.sl (Za b) .an),(5,.bs (.loc 14) 1 1 0 (a.length+b.length)),(6,.i .i64 y.1)],[(.loc 14,⟨1,.own,1,Za (y.2++List.replicate (a.length-y.1) 0)⟩)],3⟩
end
section
variable{T:Tbl}
theorem zwf(a b:List UInt32)(ha:a.length≤100000)(hb:b.length≤100000):∀y:Nat×List UInt32,
  (y.1≤a.length∧y.2.length=b.length+y.1∧val y.2=val (a.take y.1)*val b) →
  ∃r,(∃out:List UInt32,r=(Ex.n,(⟨[(5,.bs (.loc 14) 1 1 0 (a.length+b.length))],[(.loc 14,⟨1,.own,1,Za out⟩)],3⟩:St))∧out.length=a.length+b.length∧val out=val a*val b) ∧
   Ze T 0 0 (.norm false [5]) l61_1 (Zhx a b y)=some r:=by
 refine zam _ _ (fun y=>a.length-y.1) _ ?_
 rintro⟨i,X⟩ ⟨hi,hX,hv⟩
 simp only at hi hX hv;by_cases h0:i<a.length
 ·left;have hag:a[i]? = some (a[i]'h0):=Ya h0;have hw:IntKind.wrap .i64 ((i:Int)+1)=((i+1:Nat):Int):=zac _ (by omega);have e2:(X.take i).length=i:=by simp;omega
  have e3:(X.drop i++List.replicate (a.length-i) 0).length=a.length+b.length-i:=by simp;omega
  obtain⟨_,⟨c,m,rfl,hm,hc,hvm⟩,hr⟩:=zzq (T:=T) (X.take i) (X.drop i++List.replicate (a.length-i) 0) a b (a[i]'h0) (by rw[e2];exact hag) (by simp;omega) (by simp;omega) (0,0,[]) ⟨Yq _,Nat.zero_lt_succ _,rfl,by simp⟩;have e1:X.take i++(X.drop i++List.replicate (a.length-i) 0)=X++List.replicate (a.length-i) 0:=by rw[←Y7,Yao]
  have e4:i+(a.length+b.length-i)=a.length+b.length:=by omega
  have e6:(X.drop i++List.replicate (a.length-i) 0).take b.length=X.drop i:=by
   rw[Yb4 (by simp;omega),Yb (by simp;omega)]
  have hSl:b.length<(X.drop i++List.replicate (a.length-i) 0).length:=by simp;omega
  have hg:=zc4 (P:=X.take i) (m:=m) hm hSl;have hset:=zcu (P:=X.take i) (m:=m) (w32 c) hm hSl;have e5:(X.drop i++List.replicate (a.length-i) 0).drop (b.length+1)=List.replicate (a.length-(i+1)) 0:=by
   rw[List.drop_append,Yak (by simp;omega),List.drop_replicate];simp only[Ya8,Ybg];congr 1;omega
  unfold Zi1 at hr;simp only[Ya8,Yae]at hr;rw[e1,e2,e3,e4]at hr;rw[e2]at hg hset;rw[e5]at hset;rw[e6]at hvm;generalize hQ:X.take i++(m++(X.drop i++List.replicate (a.length-i) 0).drop b.length)=Q at hr hg hset;have hw2:IntKind.wrap .i64 ((i:Int)+b.length)=((i+b.length:Nat):Int):=zac _ (by omega);have hlt:((i:Int)+b.length)<(a.length:Int)+b.length:=by omega
  simp at hr hg hset;refine⟨(i+1,X.take i++(m++[w32 c])),⟨h0,by simp only[Yk,e2,hm,Ybo];omega,?_⟩,by simp only;omega,?_⟩
  ·simp only;have e7:=zah (X.take i) (X.drop i);rw[Yao,e2]at e7;rw[zah,e2,zah,hm];simp only[zai,za6,Yah,Yt,zag hc];rw[hvm,zaf hag,Ybp,←hv,e7,Yu];rw[Yz];omega
  ·simp -implicitDefEqProofs[l61_1,Zhx,h0,hw,hr,hw2,hlt,hg,hset]
 ·right;have:i=a.length:=by omega
  subst this;rw[Yb (Yg _)]at hv;refine⟨_,⟨X++List.replicate (a.length-a.length) 0,rfl,by simp;omega,by simp[hv]⟩,?_,?_⟩<;>simp -implicitDefEqProofs[l61_1,Zhx]
end
section
variable{T:Tbl}[Zab T]
theorem zcf(a b:List UInt32)(ha:a.length≤100000)(hb:b.length≤100000):Zb T 61 [.sl (Za a) .an,.sl (Za b) .an]=some (.sl (Za (ofN (val a*val b))) .an):=by
 obtain⟨_,⟨out,rfl,ho,hv⟩,hr⟩:=zwf (T:=T) a b ha hb (0,List.replicate b.length 0) ⟨Yq _,by simp,by simp[zbg]⟩;unfold Zhx at hr;simp at hr;have hw1:IntKind.wrap .i64 ((a.length:Int)+b.length)=(a.length:Int)+b.length:=zac _ (by omega);have hle:(a.length:Int)+b.length≤4294967296:=by omega
 have hn:=zbc (T:=T) out (by omega);rw[hv]at hn;have htk:List.take (a.length+b.length) out=out:=Yb (by omega);have he:b.length+a.length=a.length+b.length:=by omega
 rw[he]at hr;rw[zab Zab.h61 rfl,b61];simp -implicitDefEqProofs[hw1,hle,hr,ho,htk,hn]
end
def l122_0:AX:=
 (.note
 (.seq
 (.seq
 (.reg [mv 21 6,mv 22 1,rg 23 (.bin .rem (.t 22) (.c (.i .i64 32))),rg 24 (.bin .lss (.t 21) (.t 23))])
 (.cond (.t 24)
 .skip
 (.exit 0)))
 (.seq
 (.block 1
 (.reg [mv 27 5,rg 28 (.bin .quo (.t 27) (.c (u32 2))),mv 5 28]))
 (.reg [mv 25 6,rg 26 (.bin .add (.t 25) (.c (.i .i64 1))),mv 6 26])))
 (.norm false [1,5,6]))
def b122:AX:=
 (.seq
 (.reg [rg 4 (.mov (.c (.b false)))])
 (.seq
 (.seq
 (.reg [mv 7 1,rg 8 (.bin .lss (.t 7) (.c (.i .i64 0))),mv 9 8,gd 10 9 false (.mov (.t 1)),gd 11 9 false (.bin .quo (.t 10) (.c (.i .i64 32))),gd 12 9 false (.mov (.t 0)),gd 13 9 false (.len (.t 12)),gd 14 9 false (.bin .geq (.t 11) (.t 13)),rg 15 (.pick (.t 9) (.c (.b true)) (.t 14))])
 (.cond (.t 15)
 (.seq
 (.reg [rg 4 (.mov (.c (.b false)))])
 (.pre (.norm false [4]) .ret))
 .skip))
 (.seq
 (.reg [mv 16 0,mv 17 1,rg 18 (.bin .quo (.t 17) (.c (.i .i64 32))),rg 19 (.iad 1 (.t 16) (.t 18)),rg 20 (.load none (.t 19)),mv 5 20])
 (.seq
 (.seq
 (.reg [rg 6 (.mov (.c (.i .i64 0)))])
 (.lp 0 (.norm false [1,5,6]) l122_0 (.norm false [5])))
 (.seq
 (.reg [mv 29 5,rg 30 (.bin .rem (.t 29) (.c (u32 2))),rg 31 (.bin .eql (.t 30) (.c (u32 1))),mv 4 31])
 (.pre (.norm false [4]) .ret))))))
def l95_0:AX:=
 (.note
 (.seq
 (.seq
 (.reg [mv 7 3,rg 8 (.bin .gtr (.t 7) (.c (.i .i64 0))),mv 9 8,gd 10 9 true (.mov (.t 0)),gd 11 9 true (.mov (.t 3)),gd 12 9 true (.bin .sub (.t 11) (.c (.i .i64 1))),gd 13 9 true (.call 122 [(.t 10),(.t 12)]),gd 14 9 true (.un .not (.t 13)),rg 15 (.pick (.t 9) (.t 14) (.c (.b false)))])
 (.cond (.t 15)
 .skip
 (.exit 0)))
 (.block 1
 (.reg [mv 16 3,rg 17 (.bin .sub (.t 16) (.c (.i .i64 1))),mv 3 17])))
 (.norm false [0,3]))
def b95:AX:=
 (.seq
 (.reg [rg 2 (.mov (.c (.i .i64 0)))])
 (.seq
 (.reg [mv 4 0,rg 5 (.len (.t 4)),rg 6 (.bin .mul (.c (.i .i64 32)) (.t 5)),mv 3 6])
 (.seq
 (.lp 0 (.norm false [0,3]) l95_0 (.norm false [3]))
 (.seq
 (.reg [mv 18 3,mv 2 18])
 (.pre (.norm false [2]) .ret)))))
def l96_0:AX:=
 (.note
 (.seq
 (.seq
 (.reg [mv 8 5,mv 9 0,rg 10 (.len (.t 9)),rg 11 (.bin .lss (.t 8) (.t 10))])
 (.cond (.t 11)
 .skip
 (.exit 0)))
 (.seq
 (.block 1
 (.seq
 (.reg [mv 14 0,mv 15 5,rg 16 (.iad 1 (.t 14) (.t 15)),rg 17 (.load none (.t 16)),rg 18 (.bin .quo (.t 17) (.c (u32 2147483648))),mv 6 18])
 (.seq
 (.reg [mv 19 0,mv 20 5,mv 21 0,mv 22 5,rg 23 (.iad 1 (.t 21) (.t 22)),rg 24 (.load none (.t 23)),rg 25 (.bin .mul (.t 24) (.c (u32 2))),mv 26 4,rg 27 (.bin .add (.t 25) (.t 26)),rg 28 (.iad 1 (.t 19) (.t 20)),so (.store 1 (.t 28) (.t 27))])
 (.reg [mv 29 6,mv 4 29]))))
 (.reg [mv 12 5,rg 13 (.bin .add (.t 12) (.c (.i .i64 1))),mv 5 13])))
 (.norm false [0,4,5]))
def b96:AX:=
 (.seq
 (.reg [rg 4 (.mov (.c (u32 0)))])
 (.seq
 (.seq
 (.reg [mv 7 1])
 (.cond (.t 7)
 (.reg [rg 4 (.mov (.c (u32 1)))])
 .skip))
 (.seq
 (.reg [rg 5 (.mov (.c (.i .i64 0)))])
 (.lp 0 (.norm false [0,4,5]) l96_0 (.norm false [])))))
def l97_0:AX:=
 (.note
 (.seq
 (.seq
 (.reg [mv 8 5,mv 9 0,rg 10 (.len (.t 9)),rg 11 (.bin .lss (.t 8) (.t 10))])
 (.cond (.t 11)
 .skip
 (.exit 0)))
 (.seq
 (.block 1
 (.seq
 (.reg [mv 14 0,mv 15 5,rg 16 (.iad 1 (.t 14) (.t 15)),rg 17 (.load none (.t 16)),rg 18 (.conv .u64 (.t 17)),mv 6 18])
 (.seq
 (.reg [mv 19 1,mv 20 5,rg 21 (.call 84 [(.t 19),(.t 20)]),rg 22 (.conv .u64 (.t 21)),mv 23 4,rg 24 (.bin .add (.t 22) (.t 23)),mv 7 24])
 (.seq
 (.reg [rg 4 (.mov (.c (u64 0)))])
 (.seq
 (.seq
 (.reg [mv 25 6,mv 26 7,rg 27 (.bin .lss (.t 25) (.t 26))])
 (.cond (.t 27)
 (.seq
 (.reg [mv 28 6,rg 29 (.bin .add (.t 28) (.c (u64 4294967296))),mv 6 29])
 (.reg [rg 4 (.mov (.c (u64 1)))]))
 .skip))
 (.reg [mv 30 0,mv 31 5,mv 32 6,mv 33 7,rg 34 (.bin .sub (.t 32) (.t 33)),rg 35 (.conv .u32 (.t 34)),rg 36 (.iad 1 (.t 30) (.t 31)),so (.store 1 (.t 36) (.t 35))]))))))
 (.reg [mv 12 5,rg 13 (.bin .add (.t 12) (.c (.i .i64 1))),mv 5 13])))
 (.norm false [0,1,4,5]))
def b97:AX:=
 (.seq
 (.reg [rg 4 (.mov (.c (u64 0)))])
 (.seq
 (.reg [rg 5 (.mov (.c (.i .i64 0)))])
 (.lp 0 (.norm false [0,1,4,5]) l97_0 (.norm false []))))
def l63_0:AX:=
 (.note
 (.seq
 (.seq
 (.reg [mv 19 8,rg 20 (.bin .geq (.t 19) (.c (.i .i64 0)))])
 (.cond (.t 20)
 .skip
 (.exit 0)))
 (.seq
 (.block 1
 (.seq
 (.drawT [mv 23 7,mv 24 0,mv 25 8,rg 26 (.bin .quo (.t 25) (.c (.i .i64 32))),rg 27 (.iad 1 (.t 24) (.t 26)),rg 28 (.load none (.t 27)),mv 29 8,rg 30 (.bin .rem (.t 29) (.c (.i .i64 32))),rg 31 (.bin .shl (.c (u32 1)) (.t 30)),rg 32 (.bin .quo (.t 28) (.t 31)),rg 33 (.bin .rem (.t 32) (.c (u32 2))),rg 34 (.bin .eql (.t 33) (.c (u32 1)))]
 [rg 35 (.call 96 [(.t 23),(.t 34)])])
 (.seq
 (.reg [mv 36 6,rg 37 (.call 96 [(.t 36),(.c (.b false))])])
 (.seq
 (.reg [mv 38 7,mv 39 1,rg 40 (.call 52 [(.t 38),(.t 39)]),rg 41 (.bin .geq (.t 40) (.c (.i .i64 0)))])
 (.cond (.t 41)
 (.seq
 (.reg [mv 42 7,mv 43 1,rg 44 (.call 97 [(.t 42),(.t 43)])])
 (.reg [mv 45 6,rg 46 (.iad 1 (.t 45) (.c (.i .i64 0))),rg 47 (.load none (.t 46)),rg 48 (.bin .add (.t 47) (.c (u32 1))),rg 49 (.iad 1 (.t 45) (.c (.i .i64 0))),so (.store 1 (.t 49) (.t 48))]))
 .skip)))))
 (.reg [mv 21 8,rg 22 (.bin .sub (.t 21) (.c (.i .i64 1))),mv 8 22])))
 (.norm false [0,1,6,7,8]))
def b63:AX:=
 (.seq
 (.reg [rg 4 (.mov (.c (.sl [] .nl))),rg 5 (.mov (.c (.sl [] .nl)))])
 (.seq
 (.reg [mv 9 0,rg 10 (.len (.t 9)),rg 11 (.mks 1 [(u32 0)] (.t 10) (.t 10)),mv 6 11])
 (.seq
 (.reg [mv 12 1,rg 13 (.len (.t 12)),rg 14 (.bin .add (.t 13) (.c (.i .i64 1))),rg 15 (.mks 1 [(u32 0)] (.t 14) (.t 14)),mv 7 15])
 (.seq
 (.seq
 (.reg [mv 16 0,rg 17 (.call 95 [(.t 16)]),rg 18 (.bin .sub (.t 17) (.c (.i .i64 1))),mv 8 18])
 (.lp 0 (.norm false [0,1,6,7,8]) l63_0 (.norm false [6,7])))
 (.seq
 (.reg [mv 50 6,rg 51 (.call 43 [(.t 50)]),mv 52 7,rg 53 (.call 43 [(.t 52)]),mv 4 51,mv 5 53])
 (.pre (.norm false [4,5]) .ret))))))
def row122:AFx:=⟨2,32,[.t 4],b122,none,false⟩
def row95:AFx:=⟨1,19,[.t 2],b95,none,false⟩
def row96:AFx:=⟨2,30,[],b96,(some [true,false]),false⟩
def row97:AFx:=⟨2,37,[],b97,(some [true,false]),false⟩
def row63:AFx:=⟨2,54,[.t 4,.t 5],b63,none,false⟩
class Zw (T:Tbl):Prop extends Zab T where
 h122:T 122=some row122
 h95:T 95=some row95
 h96:T 96=some row96
 h97:T 97=some row97
 h63:T 63=some row63
section
variable{T:Tbl}[Zw T]{d:Option Nat}{st:St}
@[simp] theorem x122(xs:List AV):Zc (orc T) T 122 xs d st=cP T 122 false xs d st:=zaa Zw.h122
@[simp] theorem x95(xs:List AV):Zc (orc T) T 95 xs d st=cP T 95 false xs d st:=zaa Zw.h95
@[simp] theorem y95{e:Env}{h:Heap}{older:List Heap}(args:List Opd):opD (orc T) T (.call 95 args) e h older=dR (Zb T 95 ((args.map (ev e.get)).map (wkIf false))) (args.map (ev e.get)):=zal Zw.h95
@[simp] theorem x96(xs:List AV):Zc (orc T) T 96 xs d st=bL (Zdm st.heap [true,false] xs) fun ys=>Zc8 ys (Zg (Zak [true,false] xs) st.heap) (reach (Zg (Zak [true,false] xs) st.heap) 40 (Zb1 [true,false] xs) []) T 96 false d st:=zap Zw.h96
@[simp] theorem x97(xs:List AV):Zc (orc T) T 97 xs d st=bL (Zdm st.heap [true,false] xs) fun ys=>Zc8 ys (Zg (Zak [true,false] xs) st.heap) (reach (Zg (Zak [true,false] xs) st.heap) 40 (Zb1 [true,false] xs) []) T 97 false d st:=zap Zw.h97
@[simp] theorem x63(xs:List AV):Zc (orc T) T 63 xs d st=cP T 63 false xs d st:=zaa Zw.h63
end
def l224_0:AX:=
 (.note
 (.seq
 (.seq
 (.reg [mv 6 0,rg 7 (.bin .rem (.t 6) (.c (u32 2))),rg 8 (.bin .eql (.t 7) (.c (u32 0)))])
 (.cond (.t 8)
 .skip
 (.exit 0)))
 (.block 1
 (.seq
 (.reg [mv 9 0,rg 10 (.bin .quo (.t 9) (.c (u32 2))),mv 0 10])
 (.reg [mv 11 3,rg 12 (.bin .add (.t 11) (.c (.i .i64 1))),mv 3 12]))))
 (.norm false [0,3]))
def b224:AX:=
 (.seq
 (.reg [rg 2 (.mov (.c (.i .i64 0)))])
 (.seq
 (.seq
 (.reg [mv 4 0,rg 5 (.bin .eql (.t 4) (.c (u32 0)))])
 (.cond (.t 5)
 (.seq
 (.reg [rg 2 (.mov (.c (.i .i64 32)))])
 (.pre (.norm false [2]) .ret))
 .skip))
 (.seq
 (.reg [rg 3 (.mov (.c (.i .i64 0)))])
 (.seq
 (.lp 0 (.norm false [0,3]) l224_0 (.norm false [3]))
 (.seq
 (.reg [mv 13 3,mv 2 13])
 (.pre (.norm false [2]) .ret))))))
def l225_0:AX:=
 (.note
 (.seq
 (.seq
 (.reg [mv 7 5,mv 8 0,rg 9 (.len (.t 8)),rg 10 (.bin .lss (.t 7) (.t 9))])
 (.cond (.t 10)
 .skip
 (.exit 0)))
 (.seq
 (.block 1
 (.seq
 (.reg [rg 6 (.mov (.c (u64 0)))])
 (.seq
 (.seq
 (.reg [mv 13 5,rg 14 (.bin .add (.t 13) (.c (.i .i64 1))),mv 15 0,rg 16 (.len (.t 15)),rg 17 (.bin .lss (.t 14) (.t 16))])
 (.cond (.t 17)
 (.reg [mv 18 0,mv 19 5,rg 20 (.bin .add (.t 19) (.c (.i .i64 1))),rg 21 (.iad 1 (.t 18) (.t 20)),rg 22 (.load none (.t 21)),rg 23 (.conv .u64 (.t 22)),mv 6 23])
 .skip))
 (.reg [mv 24 0,mv 25 5,mv 26 6,rg 27 (.bin .mul (.t 26) (.c (u64 4294967296))),mv 28 0,mv 29 5,rg 30 (.iad 1 (.t 28) (.t 29)),rg 31 (.load none (.t 30)),rg 32 (.conv .u64 (.t 31)),rg 33 (.bin .add (.t 27) (.t 32)),mv 34 1,rg 35 (.bin .shr (.t 33) (.t 34)),rg 36 (.conv .u32 (.t 35)),rg 37 (.iad 1 (.t 24) (.t 25)),so (.store 1 (.t 37) (.t 36))]))))
 (.reg [mv 11 5,rg 12 (.bin .add (.t 11) (.c (.i .i64 1))),mv 5 12])))
 (.norm false [0,1,5]))
def l225_1:AX:=
 (.note
 (.seq
 (.seq
 (.reg [mv 38 0,rg 39 (.len (.t 38)),rg 40 (.bin .gtr (.t 39) (.c (.i .i64 0))),mv 41 40,gd 42 41 true (.mov (.t 0)),gd 43 41 true (.mov (.t 0)),gd 44 41 true (.len (.t 43)),gd 45 41 true (.bin .sub (.t 44) (.c (.i .i64 1))),gd 46 41 true (.iad 1 (.t 42) (.t 45)),gd 47 41 true (.load none (.t 46)),gd 48 41 true (.bin .eql (.t 47) (.c (u32 0))),rg 49 (.pick (.t 41) (.t 48) (.c (.b false)))])
 (.cond (.t 49)
 .skip
 (.exit 2)))
 (.block 3
 (.reg [mv 50 0,mv 51 0,rg 52 (.len (.t 51)),rg 53 (.bin .sub (.t 52) (.c (.i .i64 1))),rg 54 (.slc 1 (.t 50) none (some (.t 53)) none),mv 0 54])))
 (.norm false [0]))
def b225:AX:=
 (.seq
 (.reg [rg 4 (.mov (.c (.sl [] .nl)))])
 (.seq
 (.seq
 (.reg [rg 5 (.mov (.c (.i .i64 0)))])
 (.lp 0 (.norm false [0,1,5]) l225_0 (.norm false [0])))
 (.seq
 (.lp 2 (.norm false [0]) l225_1 (.norm false [0]))
 (.seq
 (.reg [mv 55 0,mv 4 55])
 (.pre (.norm false [4]) .ret)))))
def l226_0:AX:=
 (.note
 (.seq
 (.seq
 (.reg [mv 6 0,rg 7 (.iad 1 (.t 6) (.c (.i .i64 0))),rg 8 (.load none (.t 7)),rg 9 (.bin .eql (.t 8) (.c (u32 0)))])
 (.cond (.t 9)
 .skip
 (.exit 0)))
 (.block 1
 (.seq
 (.reg [mv 10 0,rg 11 (.slc 1 (.t 10) (some (.c (.i .i64 1))) none none),mv 0 11])
 (.reg [mv 12 4,rg 13 (.bin .add (.t 12) (.c (.i .i64 32))),mv 4 13]))))
 (.norm false [0,4]))
def b226:AX:=
 (.seq
 (.reg [rg 2 (.mov (.c (.sl [] .nl))),rg 3 (.mov (.c (.i .i64 0)))])
 (.seq
 (.reg [rg 4 (.mov (.c (.i .i64 0)))])
 (.seq
 (.lp 0 (.norm false [0,4]) l226_0 (.norm false [0,4]))
 (.seq
 (.reg [mv 14 0,rg 15 (.iad 1 (.t 14) (.c (.i .i64 0))),rg 16 (.load none (.t 15)),rg 17 (.call 224 [(.t 16)]),mv 5 17])
 (.seq
 (.reg [mv 18 0,mv 19 5,rg 20 (.call 225 [(.t 18),(.t 19)]),mv 21 4,mv 22 5,rg 23 (.bin .add (.t 21) (.t 22)),mv 2 20,mv 3 23])
 (.pre (.norm false [2,3]) .ret))))))
def b227:AX:=
 (.seq
 (.reg [rg 4 (.mov (.c (.sl [] .nl)))])
 (.seq
 (.reg [mv 6 1,rg 7 (.bin .quo (.t 6) (.c (.i .i64 32))),rg 8 (.mks 1 [(u32 0)] (.t 7) (.t 7)),mv 9 0,rg 10 (.app 1 (.t 8) (.t 9)),mv 5 10])
 (.seq
 (.reg [mv 11 5,mv 12 1,rg 13 (.bin .rem (.t 12) (.c (.i .i64 32))),rg 14 (.bin .shl (.c (u32 1)) (.t 13)),rg 15 (.bsl 1 [(u32 0)] 1 [(0,(.t 14))]),rg 16 (.call 61 [(.t 11),(.t 15)]),mv 4 16])
 (.pre (.norm false [4]) .ret))))
def l228_0:AX:=
 (.note
 (.block 1
 (.seq
 (.reg [mv 33 5,mv 34 6,rg 35 (.call 52 [(.t 33),(.t 34)]),mv 9 35])
 (.seq
 (.seq
 (.reg [mv 36 9,rg 37 (.bin .eql (.t 36) (.c (.i .i64 0)))])
 (.cond (.t 37)
 (.exit 0)
 .skip))
 (.seq
 (.seq
 (.reg [mv 38 9,rg 39 (.bin .lss (.t 38) (.c (.i .i64 0)))])
 (.cond (.t 39)
 (.seq
 (.reg [mv 40 5,mv 10 40])
 (.seq
 (.reg [mv 41 6,mv 5 41])
 (.reg [mv 42 10,mv 6 42])))
 .skip))
 (.seq
 (.reg [mv 43 5,mv 44 6,rg 45 (.call 2097 [(.t 43),(.t 44)])])
 (.reg [mv 47 5,rg 48 (.call 226 [(.t 47)]),mv 46 48,rg 49 (.ext (.t 46) 0),rg 50 (.ext (.t 46) 1),mv 5 49]))))))
 (.norm false [5,6,7,8]))
def b228:AX:=
 (.seq
 (.reg [rg 4 (.mov (.c (.sl [] .nl)))])
 (.seq
 (.reg [mv 11 0,rg 12 (.call 2043 [(.t 11)]),mv 5 12])
 (.seq
 (.reg [mv 13 1,rg 14 (.call 2043 [(.t 13)]),mv 6 14])
 (.seq
 (.seq
 (.reg [mv 15 5,rg 16 (.len (.t 15)),rg 17 (.bin .eql (.t 16) (.c (.i .i64 0)))])
 (.cond (.t 17)
 (.seq
 (.reg [mv 18 6,mv 4 18])
 (.pre (.norm false [4]) .ret))
 .skip))
 (.seq
 (.seq
 (.reg [mv 19 6,rg 20 (.len (.t 19)),rg 21 (.bin .eql (.t 20) (.c (.i .i64 0)))])
 (.cond (.t 21)
 (.seq
 (.reg [mv 22 5,mv 4 22])
 (.pre (.norm false [4]) .ret))
 .skip))
 (.seq
 (.reg [mv 24 5,rg 25 (.call 226 [(.t 24)]),mv 23 25,rg 26 (.ext (.t 23) 0),rg 27 (.ext (.t 23) 1),mv 5 26,mv 7 27])
 (.seq
 (.reg [mv 29 6,rg 30 (.call 226 [(.t 29)]),mv 28 30,rg 31 (.ext (.t 28) 0),rg 32 (.ext (.t 28) 1),mv 6 31,mv 8 32])
 (.seq
 (.lp 0 (.norm false [5,6,7,8]) l228_0 (.norm false [5,7,8]))
 (.seq
 (.reg [mv 51 5,mv 52 7,mv 53 8,rg 54 (.mm false [(.t 52),(.t 53)]),rg 55 (.call 227 [(.t 51),(.t 54)]),mv 4 55])
 (.pre (.norm false [4]) .ret))))))))))
def b229:AX:=
 (.seq
 (.reg [rg 2 (.mov (.c (.b false)))])
 (.seq
 (.reg [mv 3 0,rg 4 (.len (.t 3)),rg 5 (.bin .eql (.t 4) (.c (.i .i64 1))),mv 6 5,gd 7 6 true (.mov (.t 0)),gd 8 6 true (.iad 1 (.t 7) (.c (.i .i64 0))),gd 9 6 true (.load none (.t 8)),gd 10 6 true (.bin .eql (.t 9) (.c (u32 1))),rg 11 (.pick (.t 6) (.t 10) (.c (.b false))),mv 2 11])
 (.pre (.norm false [2]) .ret)))
def b230:AX:=
 (.seq
 (.reg [rg 4 (.mov (.c (.sl [] .nl)))])
 (.seq
 (.seq
 (.reg [mv 7 1,rg 8 (.call 229 [(.t 7)])])
 (.cond (.t 8)
 (.seq
 (.reg [mv 9 0,rg 10 (.call 43 [(.t 9)]),mv 4 10])
 (.pre (.norm false [4]) .ret))
 .skip))
 (.seq
 (.reg [mv 12 0,mv 13 1,rg 14 (.call 63 [(.t 12),(.t 13)]),mv 11 14,rg 15 (.ext (.t 11) 0),rg 16 (.ext (.t 11) 1),mv 5 15,mv 6 16])
 (.seq
 (.reg [mv 17 5,mv 4 17])
 (.pre (.norm false [4]) .ret)))))
def l2097_0:AX:=
 (.note
 (.seq
 (.seq
 (.reg [mv 8 5,mv 9 0,rg 10 (.len (.t 9)),rg 11 (.bin .lss (.t 8) (.t 10))])
 (.cond (.t 11)
 .skip
 (.exit 0)))
 (.seq
 (.block 1
 (.seq
 (.reg [mv 14 0,mv 15 5,rg 16 (.iad 1 (.t 14) (.t 15)),rg 17 (.load none (.t 16)),rg 18 (.conv .u64 (.t 17)),mv 6 18])
 (.seq
 (.reg [mv 19 1,mv 20 5,rg 21 (.call 84 [(.t 19),(.t 20)]),rg 22 (.conv .u64 (.t 21)),mv 23 4,rg 24 (.bin .add (.t 22) (.t 23)),mv 7 24])
 (.seq
 (.reg [rg 4 (.mov (.c (u64 0)))])
 (.seq
 (.seq
 (.reg [mv 25 6,mv 26 7,rg 27 (.bin .lss (.t 25) (.t 26))])
 (.cond (.t 27)
 (.seq
 (.reg [mv 28 6,rg 29 (.bin .add (.t 28) (.c (u64 4294967296))),mv 6 29])
 (.reg [rg 4 (.mov (.c (u64 1)))]))
 .skip))
 (.reg [mv 30 0,mv 31 5,mv 32 6,mv 33 7,rg 34 (.bin .sub (.t 32) (.t 33)),rg 35 (.conv .u32 (.t 34)),rg 36 (.iad 1 (.t 30) (.t 31)),so (.store 1 (.t 36) (.t 35))]))))))
 (.reg [mv 12 5,rg 13 (.bin .add (.t 12) (.c (.i .i64 1))),mv 5 13])))
 (.norm false [0,1,4,5]))
def b2097:AX:=
 (.seq
 (.reg [rg 4 (.mov (.c (u64 0)))])
 (.seq
 (.reg [rg 5 (.mov (.c (.i .i64 0)))])
 (.lp 0 (.norm false [0,1,4,5]) l2097_0 (.norm false []))))
def row224:AFx:=⟨1,14,[.t 2],b224,none,false⟩
def row225:AFx:=⟨2,56,[.t 4],b225,(some [true,false]),false⟩
def row226:AFx:=⟨1,24,[.t 2,.t 3],b226,(some [true]),false⟩
def row227:AFx:=⟨2,17,[.t 4],b227,none,false⟩
def row228:AFx:=⟨2,56,[.t 4],b228,none,false⟩
def row229:AFx:=⟨1,12,[.t 2],b229,none,false⟩
def row230:AFx:=⟨2,18,[.t 4],b230,none,false⟩
def row2097:AFx:=⟨2,37,[],b2097,(some [true,true]),false⟩
class Z5 (T:Tbl):Prop where
 h224:T 224=some row224
 h225:T 225=some row225
 h226:T 226=some row226
 h227:T 227=some row227
 h228:T 228=some row228
 h229:T 229=some row229
 h230:T 230=some row230
 h2097:T 2097=some row2097
section
variable{T:Tbl}[Z5 T]{d:Option Nat}{st:St}{xs:List AV}{ps:List Opd}{e:Env}{h:Heap}{ol:List Heap}
@[simp] theorem x224:Zc (orc T) T 224 xs d st=cP T 224 false xs d st:=zaa Z5.h224
@[simp] theorem x225:Zc (orc T) T 225 xs d st=cL T 225 false [true,false] xs d st:=zap Z5.h225
@[simp] theorem x226:Zc (orc T) T 226 xs d st=cL T 226 false [true] xs d st:=zap Z5.h226
@[simp] theorem x227:Zc (orc T) T 227 xs d st=cP T 227 false xs d st:=zaa Z5.h227
@[simp] theorem x228:Zc (orc T) T 228 xs d st=cP T 228 false xs d st:=zaa Z5.h228
@[simp] theorem x229:Zc (orc T) T 229 xs d st=cP T 229 false xs d st:=zaa Z5.h229
@[simp] theorem x230:Zc (orc T) T 230 xs d st=cP T 230 false xs d st:=zaa Z5.h230
@[simp] theorem x2097:Zc (orc T) T 2097 xs d st=cL T 2097 false [true,true] xs d st:=zap Z5.h2097
end
section
variable{T:Tbl}[Zw T]
def Zkp(a:List UInt32)(y:Nat×Nat×List UInt32):St:=
 ⟨[(0,.bs (.bor 0) 0 1 0 a.length),(4,u32 y.2.1),(5,.i .i64 y.1)],[(.bor 0,⟨0,.own,1,Za (y.2.2++a.drop y.1)⟩)],4⟩
theorem z3i{p m c c' w s x k:Nat}(h:m+p*c=2*s+k)(e:w+4294967296*c'=2*x+c):(m+p*w)+p*4294967296*c'=2*(s+p*x)+k:=by
 have e2:p*w+p*4294967296*c'=p*(2*x)+p*c:=by rw[Yz,←Yu,e,Yu]
 have e3:p*(2*x)=2*(p*x):=by rw[←Yz,Yai p 2,Yz]
 omega
end
section
variable{T:Tbl}
theorem z3j(a:List UInt32)(c0:Nat)(hl:a.length≤1000000):∀y:Nat×Nat×List UInt32,
  (y.1≤a.length∧y.2.1≤1∧y.2.2.length=y.1∧val y.2.2+4294967296^y.1*y.2.1=2*val (a.take y.1)+c0) →
  ∃r,(∃(c:Nat) (m:List UInt32),r=(Ex.n,(⟨[],[(.bor 0,⟨0,.own,1,Za m⟩)],4⟩:St)) ∧
   m.length=a.length∧c≤1∧val m+4294967296^a.length*c=2*val a+c0)∧Ze T 1 0 (.norm false []) l96_0 (Zkp a y)=some r:=by
 refine zam _ _ (fun y=>a.length-y.1) _ ?_
 rintro⟨i,c,m⟩ ⟨hi,hc,hm,hv⟩
 simp only at hi hc hm hv;by_cases h0:i<a.length
 ·left;have ha:a[i]? = some (a[i]'h0):=Ya h0;have hg:=zc4 (P:=[]) hm h0;have hw:IntKind.wrap .i64 ((i:Int)+1)=((i+1:Nat):Int):=zac _ (by omega);have hlx:=zaj (a[i]'h0);have hset:=zcu (P:=[]) (w32 ((a[i]'h0).toNat*2%4294967296+c)) hm h0;simp at hg hset;have m1:((a[i]'h0).toNat*2%4294967296+c)%4294967296=(a[i]'h0).toNat*2%4294967296+c:=Yi (by omega);have m2:(a[i]'h0).toNat/2147483648<4294967296:=by omega
  have m3:(a[i]'h0).toNat*2%4294967296+c<4294967296:=by omega
  refine⟨(i+1,(a[i]'h0).toNat/2147483648,m++[w32 ((a[i]'h0).toNat*2%4294967296+c)]),⟨h0,by simp only;omega,by simp[hm],?_⟩,by simp only;omega,?_⟩
  ·simp only;rw[zah,zaf ha,Yy,hm];simp only[zai,za6,Yah,Yt,zb0];exact z3i hv (by omega)
  ·simp -implicitDefEqProofs[l96_0,Zkp,h0,hw,hg,hset,m1,m2,zba _ _ _ m3]
 ·right;have:i=a.length:=by omega
  subst this;rw[Yb (Yg a.length)]at hv;refine⟨_,⟨c,m,rfl,hm,hc,hv⟩,?_,?_⟩<;>simp -implicitDefEqProofs[l96_0,Zkp]
end
section
variable{T:Tbl}[Zw T]
theorem zgp(a:List UInt32)(v:Bool)(hl:a.length≤1000000) :
  ∃(c:Nat) (m:List UInt32),m.length=a.length∧c≤1∧val m+4294967296^a.length*c=2*val a+(if v then 1 else 0) ∧
   Z6 T 96 [.bs (.bor 0) 0 1 0 a.length,.b v] [(.bor 0,⟨0,.own,1,Za a⟩)]=some (.tup [],[(.bor 0,⟨0,.own,1,Za m⟩)]):=by
 obtain⟨_,⟨c,m,rfl,hm,hc,hv⟩,hr⟩:=z3j (T:=T) a (if v then 1 else 0) hl (0,(if v then 1 else 0),[]) ⟨Yq _,by cases v<;>simp,rfl,by cases v<;>simp⟩;refine⟨c,m,hm,hc,hv,?_⟩;unfold Zkp at hr;simp at hr;rw[zao Zw.h96 rfl,b96];cases v
 ·simp at hr;simp -implicitDefEqProofs[hr]
 ·simp at hr;simp -implicitDefEqProofs[hr]
def Zj2(a b:List UInt32)(y:Nat×Nat×List UInt32):St:=
 ⟨[(0,.bs (.bor 0) 0 1 0 a.length),(1,.sl (Za b) .an),(4,u64 y.2.1),(5,.i .i64 y.1)],[(.bor 0,⟨0,.own,1,Za (y.2.2++a.drop y.1)⟩)],4⟩
theorem z3k(a b:List UInt32)(hl:a.length≤1000000)(hb:b.length≤1000000):∀y:Nat×Nat×List UInt32,
  (y.1≤a.length∧y.2.1≤1∧y.2.2.length=y.1∧val y.2.2+val (b.take y.1)=val (a.take y.1)+4294967296^y.1*y.2.1) →
  ∃r,(∃(c:Nat) (m:List UInt32),r=(Ex.n,(⟨[],[(.bor 0,⟨0,.own,1,Za m⟩)],4⟩:St)) ∧
   m.length=a.length∧c≤1∧val m+val (b.take a.length)=val a+4294967296^a.length*c)∧Ze T 1 0 (.norm false []) l97_0 (Zj2 a b y)=some r:=by
 refine zam _ _ (fun y=>a.length-y.1) _ ?_
 rintro⟨i,c,m⟩ ⟨hi,hc,hm,hv⟩
 simp only at hi hc hm hv;by_cases h0:i<a.length
 ·left;have ha:a[i]? = some (a[i]'h0):=Ya h0;have hg:=zc4 (P:=[]) hm h0;have hw:IntKind.wrap .i64 ((i:Int)+1)=((i+1:Nat):Int):=zac _ (by omega);have cb:=zc0 (T:=T) b i hb;have la:=zaj (a[i]'h0);have lb:=zh4 b i;have e1:=zaf ha;have e2:=zbe b i;simp at hg;have m1:(a[i]'h0).toNat%18446744073709551616=(a[i]'h0).toNat:=Yi (by omega);have m2:atW b i%18446744073709551616=atW b i:=Yi (by omega);have m3:(atW b i+c)%18446744073709551616=atW b i+c:=Yi (by omega);have m4:((a[i]'h0).toNat+4294967296)%18446744073709551616=(a[i]'h0).toNat+4294967296:=Yi (by omega);have fin:∀s d:Nat,d≤1→s<4294967296→s+(atW b i+c)=(a[i]'h0).toNat+4294967296*d →
    val (m++[w32 s])+val (b.take (i+1))=val (a.take (i+1))+4294967296^(i+1)*d:=by
   intro s d hd hs h;rw[zah,hm,e1,e2,Yy];simp only[zai,za6,Yah,Yt,zag hs];generalize 4294967296^i=p at *
   have e3:p*s+p*(atW b i+c)=p*(a[i]'h0).toNat+p*4294967296*d:=by rw[←Yu,h,Yu,Yz]
   rw[Yu]at e3;omega
  by_cases h1:(a[i]'h0).toNat<atW b i+c
  ·have hs:Zdd ((a[i]'h0).toNat+4294967296) (atW b i+c)=(a[i]'h0).toNat+4294967296-(atW b i+c):=zeh (by omega) (by omega);have m5:(a[i]'h0).toNat+4294967296-(atW b i+c)<4294967296:=by omega
   have hset:=zcu (P:=[]) (w32 ((a[i]'h0).toNat+4294967296-(atW b i+c))) hm h0;simp at hset;refine⟨(i+1,1,m++[w32 ((a[i]'h0).toNat+4294967296-(atW b i+c))]),⟨h0,Yg _,by simp[hm],fin _ 1 (by omega) (by omega) (by omega)⟩,by simp only;omega,?_⟩;simp -implicitDefEqProofs[l97_0,Zj2,h0,cb,m1,m2,m3,m4,h1,hs,hg,hw,hset]
  ·have hs:Zdd (a[i]'h0).toNat (atW b i+c)=(a[i]'h0).toNat-(atW b i+c):=zeh (by omega) (by omega);have m5:(a[i]'h0).toNat-(atW b i+c)<4294967296:=by omega
   have hset:=zcu (P:=[]) (w32 ((a[i]'h0).toNat-(atW b i+c))) hm h0;simp at hset;refine⟨(i+1,0,m++[w32 ((a[i]'h0).toNat-(atW b i+c))]),⟨h0,Yq _,by simp[hm],fin _ 0 (by omega) (by omega) (by omega)⟩,by simp only;omega,?_⟩;simp -implicitDefEqProofs[l97_0,Zj2,h0,cb,m1,m2,m3,h1,hs,hg,hw,hset]
 ·right;have:i=a.length:=by omega
  subst this;rw[Yb (Yg a.length)]at hv;refine⟨_,⟨c,m,rfl,hm,hc,hv⟩,?_,?_⟩<;>simp -implicitDefEqProofs[l97_0,Zj2]
theorem zsi(a b:List UInt32)(hl:a.length≤1000000)(hb:b.length≤a.length)(hab:val b≤val a) :
  ∃m:List UInt32,m.length=a.length∧val m=val a-val b ∧
   Z6 T 97 [.bs (.bor 0) 0 1 0 a.length,.sl (Za b) .an] [(.bor 0,⟨0,.own,1,Za a⟩)]=some (.tup [],[(.bor 0,⟨0,.own,1,Za m⟩)]):=by
 obtain⟨_,⟨c,m,rfl,hm,hc,hv⟩,hr⟩:=z3k (T:=T) a b hl (by omega) (0,0,[]) ⟨Yq _,Yq _,rfl,by simp⟩;rw[Yb hb]at hv;have hlo:=za0 m;rw[hm]at hlo;have hval:val m=val a-val b:=by
  rcases Yat c with h1 | h1
  ·subst h1;omega
  ·have:c=1:=by omega
   subst this;omega
 refine⟨m,hm,hval,?_⟩;unfold Zj2 at hr;simp at hr;rw[zao Zw.h97 rfl,b97];simp -implicitDefEqProofs[hr]
def Zkq(x i:Nat)(y:Nat):St:=⟨[(1,.i .i64 i),(5,u32 (x/2^y)),(6,.i .i64 y)],[],2⟩
end
section
variable{T:Tbl}
theorem z3l(x i:Nat)(_hi:i≤100000000)(hx:x<4294967296):∀y:Nat,y≤i%32 →
  ∃r,(r=(Ex.n,(⟨[(5,u32 (x/2^(i%32)))],[],2⟩:St)))∧Ze T 0 0 (.norm false [5]) l122_0 (Zkq x i y)=some r:=by
 refine zam _ _ (fun y=>i%32-y) _ ?_;intro j hj;have hm:((i:Int).tmod 32)=((i%32:Nat):Int):=rfl;have hlt:x/2^j<4294967296:=Ycf (Ybr _ _) hx;by_cases h0:j<i%32
 ·left;have hw:IntKind.wrap .i64 ((j:Int)+1)=((j+1:Nat):Int):=zac _ (by omega);have hd:x/2^j/2=x/2^(j+1):=by rw[Ybf,Yy]
  have hd2:x/2^(j+1)%4294967296=x/2^(j+1):=Yi (Ycf (Ybr _ _) hx);refine⟨j+1,h0,by omega,?_⟩;have hj2:(j:Int)<(i:Int)%32:=by omega
  simp -implicitDefEqProofs[l122_0,Zkq,hm,hw,hd,hd2,hj2]
 ·right;have:j=i%32:=by omega
  subst this;refine⟨_,rfl,?_,?_⟩<;>simp -implicitDefEqProofs[l122_0,Zkq,hm]
end
section
variable{T:Tbl}[Zw T]
theorem zm5(a:List UInt32)(i:Nat)(hl:a.length≤1000000)(hi:i<32*a.length) :
  Zb T 122 [.sl (Za a) .an,.i .i64 i]=some (.b (decide (val a/2^i%2=1))):=by
 have h1:i/32<a.length:=by omega
 have ha:a[i/32]? = some (a[i/32]'h1):=Ya h1;obtain⟨_,rfl,hr⟩:=z3l (T:=T) (a[i/32]'h1).toNat i (by omega) (zaj _) 0 (Yq _);unfold Zkq at hr;simp at hr;have hq:IntKind.wrap .i64 ((i:Int)/32)=(i:Int)/32:=zac (i/32) (by omega);have hq1:((i:Int)/32).toNat=i/32:=by omega
 have hq2:(0:Int)≤(i:Int)/32:=by omega
 have hq3:(i:Int)/32<(a.length:Int):=by omega
 have hq4:¬ (a.length:Int)≤(i:Int)/32:=by omega
 have hb:=zxi ha;have hlt:(a[i/32]'h1).toNat/2^(i%32)<4294967296:=Ycf (Ybr _ _) (zaj _);rw[zab Zw.h122 rfl,b122];simp -implicitDefEqProofs[hr,hq,hq1,hq2,hq3,hq4,h1,hb]
def Zgx(a:List UInt32)(y:Nat):St:=⟨[(0,.sl (Za a) .an),(3,.i .i64 y)],[],2⟩
theorem z3m(a:List UInt32)(hl:a.length≤1000000):∀y:Nat,(y≤32*a.length∧val a<2^y) →
  ∃r,(∃n:Nat,r=(Ex.n,(⟨[(3,.i .i64 n)],[],2⟩:St))∧n≤32*a.length∧val a<2^n)∧Ze T 0 0 (.norm false [3]) l95_0 (Zgx a y)=some r:=by
 refine zam _ _ (fun y=>y) _ ?_
 rintro k ⟨hk,hv⟩
 by_cases h0:k=0
 ·right;subst h0;refine⟨_,⟨0,rfl,Yq _,hv⟩,?_,?_⟩<;>simp -implicitDefEqProofs[l95_0,Zgx]
 ·obtain⟨j,rfl⟩:∃j,k=j+1:=⟨k-1,by omega⟩;have hw:IntKind.wrap .i64 (j:Int)=(j:Int):=zac _ (by omega);have hh:=zm5 (T:=T) a j hl (by omega);have hp:(0:Int)<(j:Int)+1:=by omega
  by_cases h1:val a/2^j%2=1
  ·right;refine⟨_,⟨j+1,rfl,hk,hv⟩,?_,?_⟩<;>simp -implicitDefEqProofs[l95_0,Zgx,hw,hh,hp,h1]
  ·left;refine⟨j,⟨by omega,znj hv (by generalize val a/2^j=q at *;omega)⟩,by omega,?_⟩;simp -implicitDefEqProofs[l95_0,Zgx,hw,hh,hp,h1]
theorem zwg(a:List UInt32)(hl:a.length≤1000000):∃n:Nat,n≤32*a.length∧val a<2^n∧Zb T 95 [.sl (Za a) .an]=some (.i .i64 n):=by
 obtain⟨_,⟨n,rfl,hn,hv⟩,hr⟩:=z3m (T:=T) a hl (32*a.length) ⟨Yg _,by rw[←znh];exact za0 a⟩;refine⟨n,hn,hv,?_⟩;unfold Zgx at hr;simp at hr;have hw:IntKind.wrap .i64 (32*(a.length:Int))=32*(a.length:Int):=by
  have:=zac (32*a.length) (by omega);simpa using this
 rw[zab Zw.h95 rfl,b95];simp -implicitDefEqProofs[hr,hw]
end
section
variable{T:Tbl}[Zw T]
theorem zzr(n:Nat)(h:n<32):Z8 .shl (u32 1) (.i .i64 (n:Int))=some (u32 (2^n)):=by
 have h1:¬ (n:Int)<0:=by omega
 have h2:2^n<4294967296:=by
  have:2^n<2^32:=Nat.pow_lt_pow_right (by decide) h;simpa using this
 have h3:min n IntKind.u32.bits=n:=by
  have:IntKind.u32.bits=32:=rfl;rw[this];omega
 have h4:((1:Nat):Int)*2^n=((2^n:Nat):Int):=by simp
 unfold u32;simp only[Z8,if_neg h1,Ybx,h3,h4,zdm,Yi h2]
theorem z84{v b Q L:Nat}(hb:0<b)(hq:Q=v/2/b)(hr:L=v/2%b) :
  (b≤2*L+v%2→v/b=2*Q+1∧v%b=2*L+v%2-b)∧(2*L+v%2<b→v/b=2*Q∧v%b=2*L+v%2):=by
 have h1:=Ybd (v/2) b;have h2:L<b:=by rw[hr];exact Ya5 _ hb
 rw[←hq,←hr]at h1;have h3:v=b*(2*Q)+(2*L+v%2):=by
  rw[←Yz,Yai b 2,Yz];omega
 have ht:v%2<2:=Ya5 _ (by decide);clear h1 hq hr;generalize v%2=t at *
 rw[h3];constructor
 ·intro h;have e:b*(2*Q)+(2*L+t)=(2*L+t-b)+b*(2*Q+1):=by rw[Yu,Ycq];omega
  rw[e,Yb6 _ _ hb,Ydd,Ybc (by omega),Yi (by omega)];omega
 ·intro h;rw[Ya6,Yb6 _ _ hb,Ydd,Ybc h,Yi h];omega
theorem z3n{a:List UInt32}{x:UInt32}(h:a[0]? = some x)(hx:x.toNat+1<4294967296):val (a.set 0 (w32 (x.toNat+1)))=val a+1:=by
 cases a with
 | nil=>cases h
 | cons y l=>
  cases h;simp only[Ycw,zai,zag hx];omega
def Zin(a b:List UInt32)(y:Nat×List UInt32×List UInt32):St:=
 ⟨[(0,.sl (Za a) .an),(1,.sl (Za b) .an),(6,.bs (.loc 11) 1 1 0 a.length),(7,.bs (.loc 15) 2 1 0 (b.length+1)),(8,.i .i64 ((y.1:Int)-1))],[(.loc 11,⟨1,.own,1,Za y.2.1⟩),(.loc 15,⟨2,.own,1,Za y.2.2⟩)],4⟩
theorem z3o(a b:List UInt32)(ha:a.length≤100000)(hb:b.length≤100000)(h0b:0<val b):∀y:Nat×List UInt32×List UInt32,
  (y.1≤32*a.length∧y.2.1.length=a.length∧y.2.2.length=b.length+1∧val y.2.1=val a/2^y.1/val b∧val y.2.2=val a/2^y.1%val b) →
  ∃r,(∃Q L:List UInt32,r=(Ex.n,(⟨[(6,.bs (.loc 11) 1 1 0 a.length),(7,.bs (.loc 15) 2 1 0 (b.length+1))],[(.loc 11,⟨1,.own,1,Za Q⟩),(.loc 15,⟨2,.own,1,Za L⟩)],4⟩:St)) ∧
   Q.length=a.length∧L.length=b.length+1∧val Q=val a/val b∧val L=val a%val b)∧Ze T 0 0 (.norm false [6,7]) l63_0 (Zin a b y)=some r:=by
 refine zam _ _ (fun y=>y.1) _ ?_
 rintro⟨k,Q,L⟩ ⟨hk,hQ,hL,hq,hr⟩
 simp only at hk hQ hL hq hr;cases k with
 | zero=>
  right;rw[Yc1,Nat.div_one]at hq hr;refine⟨_,⟨Q,L,rfl,hQ,hL,hq,hr⟩,?_,?_⟩<;>simp -implicitDefEqProofs[l63_0,Zin]
 | succ j=>
  left;have h1:j/32<a.length:=by omega
  have hag:a[j/32]? = some (a[j/32]'h1):=Ya h1;have hbit:=zxi hag;have hw:IntKind.wrap .i64 ((j:Int)-1)=(j:Int)-1:=zac _ (by omega);have hsh:Z8 .shl (u32 1) (.i .i64 ((j:Int)%32))=some (u32 (2^(j%32))):=zzr (j%32) (Ya5 _ (by decide));have hm:((j:Int).tmod 32)=((j%32:Nat):Int):=rfl;have hj0:IntKind.wrap .i64 ((j:Int)/32)=(j:Int)/32:=zac (j/32) (by omega);have hj1:((j:Int)/32).toNat=j/32:=by omega
  have hj2:(0:Int)≤(j:Int)/32:=by omega
  have hj3:(j:Int)/32<(a.length:Int):=by omega
  have hxl:=zaj (a[j/32]'h1);obtain⟨cL,L2,hL2,hcL,hvL,hrL⟩:=zgp (T:=T) L (decide ((a[j/32]'h1).toNat/2^(j%32)%2=1)) (by omega);obtain⟨cQ,Q2,hQ2,hcQ,hvQ,hrQ⟩:=zgp (T:=T) Q false (by omega);have hcmp:=zd8 (T:=T) L2 b (by omega) (by omega);have hpq:(2^(j%32))≠0:=Nat.ne_of_gt (Ya4 (by decide));rw[hL]at hrL;rw[hQ]at hrQ;rw[hL]at hL2;rw[hQ]at hQ2;have htL:List.take (b.length+1) L2=L2:=Yb (by omega);have hres:∃Q3 L3:List UInt32,Q3.length=a.length∧L3.length=b.length+1∧val Q3=val a/2^j/val b∧val L3=val a/2^j%val b ∧
    (evX (orc T) T 0 l63_0 (Zin a b (j+1,Q,L))=some (Ex.n,Zin a b (j,Q3,L3))):=by
   have hvb:=za0 b;have hva:=za0 a;have hLb:val L<val b:=by rw[hr];exact Ya5 _ h0b
   have hv2:val a/2^(j+1)=val a/2^j/2:=by rw[Yy,Ybf]
   rw[hv2]at hq hr;have hlaw:=z84 h0b hq hr;have hva2:val a/2^j≤val a:=Ybr _ _;have hq2:2*val Q≤val a/2^j:=by
    have h2:val a/2^j/2/val b≤val a/2^j/2:=Ybr _ _;omega
   have hL0:val L2=2*val L+val a/2^j%2:=by
    have hb2:(if decide ((a[j/32]'h1).toNat/2^(j%32)%2=1)=true then 1 else 0)=val a/2^j%2:=by
     rw[hbit];simp only[decide_eq_true_eq];split<;>omega
    rw[hb2,hL,Yy]at hvL;have ht:val a/2^j%2<2:=Ya5 _ (by decide);generalize val a/2^j%2=t at *
    generalize 4294967296^b.length=p at *
    rcases Yat cL with h | h
    ·rw[h,Yah,Yt]at hvL;exact hvL
    ·have:=Yaw (p*4294967296) h;generalize p*4294967296*cL=u at *
     omega
   have hQ0:val Q2=2*val Q:=by
    rw[hQ]at hvQ;simp at hvQ;generalize 4294967296^a.length=p at *
    rcases Yat cQ with h | h
    ·rw[h,Yah,Yt]at hvQ;exact hvQ
    ·have:=Yaw p h;generalize p*cQ=u at *
     omega
   rw[←hL0]at hlaw;by_cases hle:val b≤val L2
   ·have hc:(0:Int)≤Zd4 (val L2) (val b):=by
     unfold Zd4;split
     ·omega
     ·split<;>omega
    obtain⟨L3,hL3,hvL3,hrL3⟩:=zsi (T:=T) L2 b (by omega) (by omega) hle;rw[hL2]at hrL3 hL3;have h0Q:0<Q2.length:=by omega
    have hQg:Q2[0]? = some (Q2[0]'h0Q):=Ya h0Q;have hev:(Q2[0]'h0Q).toNat+1<4294967296:=by
     have:=zaj (Q2[0]'h0Q);have hc:val Q2=(Q2[0]'h0Q).toNat+4294967296*val (Q2.drop 1):=by
      conv=>lhs;rw[←Yae (l:=Q2),Yd h0Q,zai]
     omega
    have h0a:0<a.length:=by omega
    have hQg':=hQg;have hev':=hev;generalize hqq:(Q2[0]'h0Q).toNat=qq at hev';refine⟨Q2.set 0 (w32 ((Q2[0]'h0Q).toNat+1)),L3,by simp[hQ2],hL3,by rw[z3n hQg hev,hQ0,(hlaw.1 hle).1],by rw[hvL3,(hlaw.1 hle).2],?_⟩;simp -implicitDefEqProofs[l63_0,Zin,hw,hsh,hm,hj0,hj1,hj2,hj3,h1,hrL,hrQ,hL2,htL,hcmp,hc,hrL3,hQ2,h0a]
   ·have hc:¬ (0:Int)≤Zd4 (val L2) (val b):=by unfold Zd4;rw[if_pos (by omega)];decide
    have hlt:val L2<val b:=by omega
    refine⟨Q2,L2,hQ2,hL2,by rw[hQ0,(hlaw.2 hlt).1],by rw[(hlaw.2 hlt).2],?_⟩;simp -implicitDefEqProofs[l63_0,Zin,hw,hsh,hm,hj0,hj1,hj2,hj3,h1,hrL,hrQ,hL2,htL,hcmp,hc]
  obtain⟨Q3,L3,e1,e2,e3,e4,e5⟩:=hres;exact⟨(j,Q3,L3),⟨by simp only;omega,e1,e2,e3,e4⟩,Y6 j,e5⟩
theorem zwh(a b:List UInt32)(ha:a.length≤100000)(hb:b.length≤100000)(h0b:0<val b) :
  Zb T 63 [.sl (Za a) .an,.sl (Za b) .an]=some (.tup [.sl (Za (ofN (val a/val b))) .an,.sl (Za (ofN (val a%val b))) .an]):=by
 obtain⟨n,hn,hvn,hln⟩:=zwg (T:=T) a (by omega);have hd0:val a/2^n=0:=Ybc hvn;obtain⟨_,⟨Q,L,rfl,hQ,hL,hq,hr⟩,hlp⟩:=z3o (T:=T) a b ha hb h0b (n,List.replicate a.length 0,List.replicate (b.length+1) 0)
  ⟨hn,by simp,by simp,by simp[zbg,hd0],by simp only[hd0,Nat.zero_mod];exact zbg _⟩
 have hw:IntKind.wrap .i64 ((n:Int)-1)=(n:Int)-1:=zac _ (by omega);have hw2:IntKind.wrap .i64 ((b.length:Int)+1)=((b.length+1:Nat):Int):=zac _ (by omega);have h1:(a.length:Int)≤4294967296:=by omega
 have h2:(b.length:Int)+1≤4294967296:=by omega
 have hn1:=zbc (T:=T) Q (by omega);have hn2:=zbc (T:=T) L (by omega);have t1:List.take a.length Q=Q:=Yb (by omega);have t2:List.take (b.length+1) L=L:=Yb (by omega);unfold Zin at hlp;simp at hlp;rw[zab Zw.h63 rfl,b63];simp -implicitDefEqProofs[hln,hw,hw2,h1,h2,hlp,hQ,hL,t1,t2,hn1,hn2,hq,hr]
end
def l2043_0:AX:=
 (.note
 (.seq
 (.seq
 (.reg [mv 6 3,rg 7 (.bin .gtr (.t 6) (.c (.i .i64 0))),mv 8 7,gd 9 8 true (.mov (.t 0)),gd 10 8 true (.mov (.t 3)),gd 11 8 true (.bin .sub (.t 10) (.c (.i .i64 1))),gd 12 8 true (.iad 1 (.t 9) (.t 11)),gd 13 8 true (.load none (.t 12)),gd 14 8 true (.bin .eql (.t 13) (.c (u32 0))),rg 15 (.pick (.t 8) (.t 14) (.c (.b false)))])
 (.cond (.t 15)
 .skip
 (.exit 0)))
 (.block 1
 (.reg [mv 16 3,rg 17 (.bin .sub (.t 16) (.c (.i .i64 1))),mv 3 17])))
 (.norm false [0,3]))
def b2043:AX:=
 (.seq
 (.reg [rg 2 (.mov (.c (.sl [] .nl)))])
 (.seq
 (.reg [mv 4 0,rg 5 (.len (.t 4)),mv 3 5])
 (.seq
 (.lp 0 (.norm false [0,3]) l2043_0 (.norm false [0,3]))
 (.seq
 (.reg [rg 18 (.bsl 1 [(u32 0)] 0 []),mv 19 0,mv 20 3,rg 21 (.slc 1 (.t 19) none (some (.t 20)) none),rg 22 (.app 1 (.t 18) (.t 21)),mv 2 22])
 (.pre (.norm false [2]) .ret)))))
def l105_0:AX:=
 (.note
 (.seq
 (.seq
 (.reg [mv 8 4,rg 9 (.bin .geq (.t 8) (.c (.i .i64 0)))])
 (.cond (.t 9)
 .skip
 (.exit 0)))
 (.seq
 (.block 1
 (.seq
 (.reg [mv 12 3,rg 13 (.bin .mul (.t 12) (.c (u64 4294967296))),mv 14 0,mv 15 4,rg 16 (.iad 1 (.t 14) (.t 15)),rg 17 (.load none (.t 16)),rg 18 (.conv .u64 (.t 17)),rg 19 (.bin .add (.t 13) (.t 18)),mv 3 19])
 (.seq
 (.reg [mv 20 0,mv 21 4,mv 22 3,rg 23 (.bin .quo (.t 22) (.c (u64 10))),rg 24 (.conv .u32 (.t 23)),rg 25 (.iad 1 (.t 20) (.t 21)),so (.store 1 (.t 25) (.t 24))])
 (.reg [mv 26 3,rg 27 (.bin .rem (.t 26) (.c (u64 10))),mv 3 27]))))
 (.reg [mv 10 4,rg 11 (.bin .sub (.t 10) (.c (.i .i64 1))),mv 4 11])))
 (.norm false [0,3,4]))
def b105:AX:=
 (.seq
 (.reg [rg 2 (.mov (.c (u64 0)))])
 (.seq
 (.reg [rg 3 (.mov (.c (u64 0)))])
 (.seq
 (.seq
 (.reg [mv 5 0,rg 6 (.len (.t 5)),rg 7 (.bin .sub (.t 6) (.c (.i .i64 1))),mv 4 7])
 (.lp 0 (.norm false [0,3,4]) l105_0 (.norm false [3])))
 (.seq
 (.reg [mv 28 3,mv 2 28])
 (.pre (.norm false [2]) .ret)))))
def l69_0:AX:=
 (.note
 (.seq
 (.seq
 (.reg [mv 8 3,rg 9 (.len (.t 8)),rg 10 (.bin .gtr (.t 9) (.c (.i .i64 0))),mv 11 10,gd 12 11 false (.mov (.t 4)),gd 13 11 false (.bin .eql (.t 12) (.c (.s []))),rg 14 (.pick (.t 11) (.c (.b true)) (.t 13))])
 (.cond (.t 14)
 .skip
 (.exit 0)))
 (.block 1
 (.seq
 (.reg [mv 15 3,rg 16 (.call 105 [(.t 15)]),mv 5 16])
 (.seq
 (.reg [mv 17 5,mv 18 5,rg 19 (.bin .add (.t 18) (.c (u64 1))),rg 20 (.slstr (.c (.s [48,49,50,51,52,53,54,55,56,57])) (some (.t 17)) (some (.t 19))),mv 21 4,rg 22 (.bin .add (.t 20) (.t 21)),mv 4 22])
 (.reg [mv 23 3,rg 24 (.call 2043 [(.t 23)]),mv 3 24])))))
 (.norm false [3,4]))
def b69:AX:=
 (.seq
 (.reg [rg 2 (.mov (.c (.s [])))])
 (.seq
 (.reg [mv 6 0,rg 7 (.call 2043 [(.t 6)]),mv 3 7])
 (.seq
 (.reg [rg 4 (.mov (.c (.s [])))])
 (.seq
 (.lp 0 (.norm false [3,4]) l69_0 (.norm false [4]))
 (.seq
 (.reg [mv 25 4,mv 2 25])
 (.pre (.norm false [2]) .ret))))))
def row2043:AFx:=⟨1,23,[.t 2],b2043,(some [false]),false⟩
def row105:AFx:=⟨1,29,[.t 2],b105,(some [true]),false⟩
def row69:AFx:=⟨1,26,[.t 2],b69,none,false⟩
class Z9 (T:Tbl):Prop extends Zw T where
 h2043:T 2043=some row2043
 h105:T 105=some row105
 h69:T 69=some row69
section
variable{T:Tbl}[Z9 T]{d:Option Nat}{st:St}
@[simp] theorem x2043(xs:List AV):Zc (orc T) T 2043 xs d st=bL (Zdm st.heap [false] xs) fun ys=>Zc8 ys (Zg (Zak [false] xs) st.heap) (reach (Zg (Zak [false] xs) st.heap) 40 (Zb1 [false] xs) []) T 2043 false d st:=zap Z9.h2043
@[simp] theorem x105(xs:List AV):Zc (orc T) T 105 xs d st=bL (Zdm st.heap [true] xs) fun ys=>Zc8 ys (Zg (Zak [true] xs) st.heap) (reach (Zg (Zak [true] xs) st.heap) 40 (Zb1 [true] xs) []) T 105 false d st:=zap Z9.h105
@[simp] theorem x69(xs:List AV):Zc (orc T) T 69 xs d st=cP T 69 false xs d st:=zaa Z9.h69
end
theorem zzv{left w:Nat}(h:left<10)(hw:w<4294967296):(left*4294967296+w)/10<4294967296∧(left*4294967296+w)%10<10:=by omega
section
variable{T:Tbl}[Z9 T]
theorem zcb(a:List UInt32)(hl:a.length≤1000000):Z6 T 2043 [.sl (Za a) .an] [] =
  some (.bs (.loc 22) 1 1 0 (ofN (val a)).length,[(.loc 22,⟨1,.own,1,Za (ofN (val a))⟩)]):=by
 obtain⟨n,h1,h2,h3,h4⟩:=zep a;have hr:=zd7 (T:=T) a (by omega) h1 h3 h4 a.length ⟨h1,Yg _⟩;rw[show l43_0=l2043_0 from rfl]at hr;have hlen:(ofN (val a)).length=n:=by rw[←h2];simp;omega
 have hb:n≤4294967296:=by omega
 rw[zao Z9.h2043 rfl,b2043];simp -implicitDefEqProofs[hr,h1,h2,hb,hlen]
def Zi2(N:Nat)(y:Nat×Nat×List UInt32)(P:List UInt32):St:=
 ⟨[(0,.bs (.bor 0) 0 1 0 N),(3,u64 y.2.1),(4,.i .i64 ((y.1:Int)-1))],[(.bor 0,⟨0,.own,1,Za (P.take y.1++y.2.2)⟩)],4⟩
end
section
variable{T:Tbl}
theorem zzw(a:List UInt32)(hl:a.length≤1000000):∀y:Nat×Nat×List UInt32,
  (y.1≤a.length∧y.2.1<10∧y.2.2.length=a.length-y.1∧val (a.drop y.1)=10*val y.2.2+y.2.1) →
  ∃r,(∃(c:Nat) (m:List UInt32),r=(Ex.n,(⟨[(3,u64 c)],[(.bor 0,⟨0,.own,1,Za m⟩)],4⟩:St))∧c<10∧m.length=a.length∧val a=10*val m+c) ∧
   Ze T 1 0 (.norm false [3]) l105_0 (Zi2 a.length y a)=some r:=by
 refine zam _ _ (fun y=>y.1) _ ?_
 rintro⟨k,c,m⟩ ⟨hk,hc,hm,hv⟩
 simp only at hk hc hm hv;cases k with
 | zero=>
  right;rw[Yae]at hv;refine⟨_,⟨c,m,rfl,hc,by omega,hv⟩,?_,?_⟩<;>simp -implicitDefEqProofs[l105_0,Zi2]
 | succ j=>
  left;have hja:j<a.length:=by omega
  have hy:=zaj (a[j]'hja);have hd:=Yd hja;have hw:IntKind.wrap .i64 ((j:Int)-1)=(j:Int)-1:=zac _ (by omega);have ht:a.take (j+1)=a.take j++[a[j]'hja]:=Ys hja;have hg:(a.take (j+1)++m)[j]? = some (a[j]'hja):=by
   rw[ht,Y7,Yh (by simp;omega)];simp[Ya9 (Yb8 hja)]
  have hset:∀w,(a.take (j+1)++m).set j w=a.take j++w::m:=by
   intro w;rw[ht,Y7,Yar _ _ (by simp;omega)];simp[Ya9 (Yb8 hja)]
  have hlen:(a.take (j+1)++m).length=a.length:=by simp;omega
  obtain⟨s1,s2⟩:=zzv hc hy;refine⟨(j,(c*4294967296+(a[j]'hja).toNat)%10,w32 ((c*4294967296+(a[j]'hja).toNat)/10)::m),⟨by simp only;omega,s2,by simp[hm];omega,?_⟩,Y6 j,?_⟩
  ·simp only;rw[hd,zai,hv,zai,zag s1];generalize (a[j]'hja).toNat=w at *
   omega
  ·have m1:c*4294967296%18446744073709551616=c*4294967296:=Yi (by omega);have m2:(a[j]'hja).toNat%18446744073709551616=(a[j]'hja).toNat:=Yi (by omega);have m3:(c*4294967296+(a[j]'hja).toNat)%18446744073709551616=c*4294967296+(a[j]'hja).toNat:=Yi (by omega);have m4:(c*4294967296+(a[j]'hja).toNat)/10%18446744073709551616=(c*4294967296+(a[j]'hja).toNat)/10:=Yi (by omega);have m5:(c*4294967296+(a[j]'hja).toNat)/10%4294967296=(c*4294967296+(a[j]'hja).toNat)/10:=Yi (by omega);simp -implicitDefEqProofs[l105_0,Zi2,hja,hw,hg,hset,m1,m2,m3,m4,m5,zba _ _ _ s1]
end
section
variable{T:Tbl}[Z9 T]
theorem zwj(a:List UInt32)(hl:a.length≤1000000):∃m:List UInt32,m.length=a.length∧val m=val a/10 ∧
  Z6 T 105 [.bs (.bor 0) 0 1 0 a.length] [(.bor 0,⟨0,.own,1,Za a⟩)]=some (u64 (val a%10),[(.bor 0,⟨0,.own,1,Za m⟩)]):=by
 obtain⟨_,⟨c,m,rfl,hc,hm,hv⟩,hr⟩:=zzw (T:=T) a hl (a.length,0,[]) ⟨Yg _,(by decide:0<10),by simp,by simp⟩;have e1:val a%10=c:=by omega
 have hw:IntKind.wrap .i64 ((a.length:Int)-1)=(a.length:Int)-1:=zac _ (by omega);refine⟨m,hm,by omega,?_⟩;unfold Zi2 at hr;simp at hr;rw[e1,zao Z9.h105 rfl,b105];simp -implicitDefEqProofs[hw,hr]
def Zic(b:BId)(x:List UInt32)(s:List UInt8):St:=⟨[(3,.bs b 1 1 0 x.length),(4,.s s)],[(b,⟨1,.own,1,Za x⟩)],3⟩
theorem z3t(K:Nat)(hK:1≤K∧K≤100000)(res:List UInt8):∀y:BId×Nat×List UInt8,((y.1=.fld (.loc 7) 22∨y.1=.fld (.loc 24) 22)∧(ofN y.2.1).length≤1000∧y.2.2.length≤K∧y.2.1<10^(K-y.2.2.length)∧txN y.2.1 y.2.2=res) →
  Ze T 0 0 (.norm false [4]) l69_0 (Zic y.1 (ofN y.2.1) y.2.2)=some (.n,⟨[(4,.s res)],[],2⟩):=by
 refine zaw (fun y:BId×Nat×List UInt8=>Zic y.1 (ofN y.2.1) y.2.2) _ (fun y=>y.2.1+if y.2.2=[] then 1 else 0) _ ?_
 rintro⟨b,n,s⟩ ⟨hb,hl,hs,hn,hres⟩
 simp only at hb hl hs hn hres;by_cases h0:n=0∧s≠[]
 ·right;obtain⟨rfl,hs0⟩:=h0;have hr:res=s:=by rw[←hres];unfold txN;rw[if_pos ⟨rfl,hs0⟩]
  subst hr;constructor<;>simp -implicitDefEqProofs[l69_0,Zic,hs0]
 ·left;have hor:n=0→s=[]:=fun h=>Classical.byContradiction fun h2=>h0 ⟨h,h2⟩;obtain⟨m,hm,hvm,hten⟩:=zwj (T:=T) (ofN n) (by omega);rw[zae]at hvm hten;have hno:=zcb (T:=T) m (by omega);rw[hvm]at hno;have hd10:n%10<10:=Ya5 _ (by decide);have hdig:=z0i (n%10) hd10;have hstep:=z0h n s ((Yat n).elim (fun h=>.inr (hor h)) (fun h=>.inl (by omega)));have hol:(ofN (n/10)).length≤(ofN n).length:=zaq (Ybr _ _);have hk1:s.length<K:=by
   rcases Yp s.length K with h | h
   ·exact h
   ·rw[show K-s.length=0 by omega,Yc1]at hn;rw[hor (by omega)]at h;simp at h;omega
  have hk2:n/10<10^(K-(s.length+1)):=by
   refine Ybe ?_;rw[Yai,←Yy,show (K-(s.length+1)).succ=K-s.length by omega];exact hn
  have hgo:¬ 0<(ofN n).length→s=[]:=by
   intro h;exact hor (zau.1 (Yav (by omega)))
  obtain⟨d,hd⟩:∃d,d=n%10:=⟨_,rfl⟩;obtain⟨q,hq⟩:∃q,q=n/10:=⟨_,rfl⟩;rw[←hd]at hten hd10 hdig hstep;rw[←hq]at hno hstep hol hk2;refine⟨(.fld (.loc 24) 22,q,UInt8.ofNat (48+d)::s),⟨.inr rfl,by simp only;omega,by simp only[Yc];omega,hk2,hstep.trans hres⟩,?_,?_,rfl⟩
  ·simp only[reduceCtorEq,if_false];rcases Yat n with h1 | h1
   ·rw[if_pos (hor h1)];omega
   ·split<;>omega
  ·have m1:(d+1)%18446744073709551616=d+1:=Yi (by omega);have m2:(d:Int)+1≤10:=by omega
   have m3:1+s.length≤9223372036854775807:=by omega
   have m4:List.take (ofN n).length m=m:=Yb (by omega);simp at hdig;clear hd hq hn hk2 hvm;rcases hb with rfl | rfl<;>by_cases hl0:0<(ofN n).length
   ·simp -implicitDefEqProofs[l69_0,Zic,hten,hno,hdig,m1,m2,m3,m4,hm,hl0]
   ·have:=hgo hl0;subst this;simp -implicitDefEqProofs[l69_0,Zic,hten,hno,hdig,m1,m2,m4,hm,hl0]
   ·simp -implicitDefEqProofs[l69_0,Zic,hten,hno,hdig,m1,m2,m3,m4,hm,hl0]
   ·have:=hgo hl0;subst this;simp -implicitDefEqProofs[l69_0,Zic,hten,hno,hdig,m1,m2,m4,hm,hl0]
theorem zsn(a:List UInt32)(hl:a.length≤1000):Zb T 69 [.sl (Za a) .an]=some (.s (Zbd (val a))):=by
 have hno:=zcb (T:=T) a (by omega);have hla:=zad a;obtain⟨K,hK⟩:∃K,K=10000:=⟨_,rfl⟩;have hv:val a<10^(K-0):=by
  have h1:=za0 a;have h2:4294967296^a.length≤(10^10)^a.length:=Nat.pow_le_pow_left (by decide) _;rw[←Yei]at h2;have h3:10^(10*a.length)≤10^(K-0):=Y4 (by decide) (by omega);exact Y1 h1 (Yf h2 h3)
 have h:=z3t (T:=T) K ⟨by omega,by omega⟩ (Zbd (val a)) (.fld (.loc 7) 22,val a,[]) ⟨.inl rfl,by simp only;omega,Yq _,hv,by unfold txN;simp⟩;unfold Zic at h;simp at h;rw[zab Z9.h69 rfl,b69];simp -implicitDefEqProofs[hno,h]
end
def b39:AX:=
 (.seq
 (.reg [rg 1 (.xop (.box 2) [(.t 0)]),rg 2 (.alloc [(.b false),(.sl [] .nl)])])
 (.seq
 (.reg [rg 4 (.fad 1 (.t 1)),rg 5 (.load none (.t 4)),rg 6 (.call 43 [(.t 5)]),mv 3 6])
 (.seq
 (.reg [rg 7 (.fad 0 (.t 1)),rg 8 (.load none (.t 7)),mv 9 8,gd 10 9 true (.mov (.t 3)),gd 11 9 true (.len (.t 10)),gd 12 9 true (.bin .gtr (.t 11) (.c (.i .i64 0))),rg 13 (.pick (.t 9) (.t 12) (.c (.b false))),mv 14 3,rg 15 (.build [(.b false),(.sl [] .nl)] [(0,1,(.t 13)),(1,1,(.t 14))]),so (.store 2 (.t 2) (.t 15))])
 (.pre (.norm false [2]) .ret))))
def b24:AX:=
 (.seq
 (.reg [rg 2 (.xop (.box 2) [(.t 0)]),rg 3 (.xop (.box 2) [(.t 1)]),rg 4 (.alloc [(.b false),(.sl [] .nl)])])
 (.seq
 (.seq
 (.reg [rg 5 (.fad 0 (.t 2)),rg 6 (.load none (.t 5)),rg 7 (.fad 0 (.t 3)),rg 8 (.load none (.t 7)),rg 9 (.eqb false (.t 6) (.t 8))])
 (.cond (.t 9)
 (.seq
 (.drawT [rg 10 (.fad 0 (.t 2)),rg 11 (.load none (.t 10)),rg 12 (.fad 1 (.t 2)),rg 13 (.load none (.t 12)),rg 14 (.fad 1 (.t 3)),rg 15 (.load none (.t 14)),rg 16 (.call 58 [(.t 13),(.t 15)])]
 [rg 17 (.build [(.b false),(.sl [] .nl)] [(0,1,(.t 11)),(1,1,(.t 16))]),rg 18 (.call 39 [(.t 17)]),so (.store 2 (.t 4) (.t 18))])
 (.pre (.norm false [4]) .ret))
 .skip))
 (.seq
 (.seq
 (.reg [rg 19 (.fad 1 (.t 2)),rg 20 (.load none (.t 19)),rg 21 (.fad 1 (.t 3)),rg 22 (.load none (.t 21)),rg 23 (.call 52 [(.t 20),(.t 22)]),rg 24 (.bin .lss (.t 23) (.c (.i .i64 0)))])
 (.cond (.t 24)
 (.seq
 (.drawT [rg 25 (.fad 0 (.t 3)),rg 26 (.load none (.t 25)),rg 27 (.fad 1 (.t 3)),rg 28 (.load none (.t 27)),rg 29 (.fad 1 (.t 2)),rg 30 (.load none (.t 29)),rg 31 (.call 59 [(.t 28),(.t 30)])]
 [rg 32 (.build [(.b false),(.sl [] .nl)] [(0,1,(.t 26)),(1,1,(.t 31))]),rg 33 (.call 39 [(.t 32)]),so (.store 2 (.t 4) (.t 33))])
 (.pre (.norm false [4]) .ret))
 .skip))
 (.seq
 (.drawT [rg 34 (.fad 0 (.t 2)),rg 35 (.load none (.t 34)),rg 36 (.fad 1 (.t 2)),rg 37 (.load none (.t 36)),rg 38 (.fad 1 (.t 3)),rg 39 (.load none (.t 38)),rg 40 (.call 59 [(.t 37),(.t 39)])]
 [rg 41 (.build [(.b false),(.sl [] .nl)] [(0,1,(.t 35)),(1,1,(.t 40))]),rg 42 (.call 39 [(.t 41)]),so (.store 2 (.t 4) (.t 42))])
 (.pre (.norm false [4]) .ret)))))
def row39:AFx:=⟨1,16,[.cell 2 (some 2)],b39,none,false⟩
def row24:AFx:=⟨2,43,[.cell 4 (some 2)],b24,none,false⟩
class Za1 (T:Tbl):Prop extends Z9 T where
 h39:T 39=some row39
 h24:T 24=some row24
section
variable{T:Tbl}[Za1 T]{d:Option Nat}{st:St}
@[simp] theorem x39(xs:List AV):Zc (orc T) T 39 xs d st=cP T 39 false xs d st:=zaa Za1.h39
@[simp] theorem x24(xs:List AV):Zc (orc T) T 24 xs d st=cP T 24 false xs d st:=zaa Za1.h24
end
def b231:AX:=
 (.seq
 (.reg [rg 1 (.xop (.box 3) [(.t 0)]),rg 2 (.alloc [(.b false),(.sl [] .nl),(.sl [] .nl)])])
 (.seq
 (.reg [rg 6 (.fad 2 (.t 1)),rg 7 (.load none (.t 6)),rg 8 (.call 43 [(.t 7)]),mv 3 8])
 (.seq
 (.reg [rg 9 (.fad 1 (.t 1)),rg 10 (.load none (.t 9)),rg 11 (.call 43 [(.t 10)]),mv 4 11])
 (.seq
 (.seq
 (.reg [mv 12 3,rg 13 (.len (.t 12)),rg 14 (.bin .eql (.t 13) (.c (.i .i64 0))),mv 15 14,gd 16 15 false (.mov (.t 4)),gd 17 15 false (.len (.t 16)),gd 18 15 false (.bin .eql (.t 17) (.c (.i .i64 0))),rg 19 (.pick (.t 15) (.c (.b true)) (.t 18))])
 (.cond (.t 19)
 (.seq
 (.reg [rg 20 (.bsl 1 [(u32 0)] 0 []),rg 21 (.bsl 1 [(u32 0)] 1 [(0,(.c (u32 1)))]),rg 22 (.build [(.b false),(.sl [] .nl),(.sl [] .nl)] [(1,1,(.t 20)),(2,1,(.t 21))]),so (.store 3 (.t 2) (.t 22))])
 (.pre (.norm false [2]) .ret))
 .skip))
 (.seq
 (.seq
 (.reg [mv 23 3,rg 24 (.call 229 [(.t 23)]),rg 25 (.un .not (.t 24))])
 (.cond (.t 25)
 (.seq
 (.reg [mv 26 4,mv 27 3,rg 28 (.call 228 [(.t 26),(.t 27)]),mv 5 28])
 (.seq
 (.reg [mv 29 4,mv 30 5,rg 31 (.call 230 [(.t 29),(.t 30)]),mv 4 31])
 (.reg [mv 32 3,mv 33 5,rg 34 (.call 230 [(.t 32),(.t 33)]),mv 3 34])))
 .skip))
 (.seq
 (.reg [rg 35 (.fad 0 (.t 1)),rg 36 (.load none (.t 35)),mv 37 4,mv 38 3,rg 39 (.build [(.b false),(.sl [] .nl),(.sl [] .nl)] [(0,1,(.t 36)),(1,1,(.t 37)),(2,1,(.t 38))]),so (.store 3 (.t 2) (.t 39))])
 (.pre (.norm false [2]) .ret)))))))
def b232:AX:=
 (.seq
 (.reg [rg 2 (.alloc [(.b false),(.sl [] .nl),(.sl [] .nl)])])
 (.seq
 (.seq
 (.reg [mv 3 0,rg 4 (.bin .lss (.t 3) (.c (.i .i64 0)))])
 (.cond (.t 4)
 (.seq
 (.reg [mv 5 0,rg 6 (.bin .add (.t 5) (.c (.i .i64 1))),rg 7 (.un .neg (.t 6)),rg 8 (.conv .u64 (.t 7)),rg 9 (.call 353 [(.t 8)]),rg 10 (.bsl 1 [(u32 0)] 1 [(0,(.c (u32 1)))]),rg 11 (.call 58 [(.t 9),(.t 10)]),rg 12 (.bsl 1 [(u32 0)] 1 [(0,(.c (u32 1)))]),rg 13 (.build [(.b false),(.sl [] .nl),(.sl [] .nl)] [(0,1,(.c (.b true))),(1,1,(.t 11)),(2,1,(.t 12))]),rg 14 (.call 231 [(.t 13)]),so (.store 3 (.t 2) (.t 14))])
 (.pre (.norm false [2]) .ret))
 .skip))
 (.seq
 (.reg [mv 15 0,rg 16 (.conv .u64 (.t 15)),rg 17 (.call 353 [(.t 16)]),rg 18 (.bsl 1 [(u32 0)] 1 [(0,(.c (u32 1)))]),rg 19 (.build [(.b false),(.sl [] .nl),(.sl [] .nl)] [(1,1,(.t 17)),(2,1,(.t 18))]),rg 20 (.call 231 [(.t 19)]),so (.store 3 (.t 2) (.t 20))])
 (.pre (.norm false [2]) .ret))))
def b233:AX:=
 (.seq
 (.reg [rg 2 (.xop (.box 3) [(.t 0)]),rg 3 (.xop (.box 3) [(.t 1)]),rg 4 (.mov (.c (.b false)))])
 (.seq
 (.reg [rg 5 (.fad 0 (.t 2)),rg 6 (.load none (.t 5)),rg 7 (.fad 0 (.t 3)),rg 8 (.load none (.t 7)),rg 9 (.eqb false (.t 6) (.t 8)),mv 10 9,gd 11 10 true (.fad 1 (.t 2)),gd 12 10 true (.load none (.t 11)),gd 13 10 true (.fad 1 (.t 3)),gd 14 10 true (.load none (.t 13)),gd 15 10 true (.call 54 [(.t 12),(.t 14)]),rg 16 (.pick (.t 10) (.t 15) (.c (.b false))),mv 17 16,gd 18 17 true (.fad 2 (.t 2)),gd 19 17 true (.load none (.t 18)),gd 20 17 true (.fad 2 (.t 3)),gd 21 17 true (.load none (.t 20)),gd 22 17 true (.call 54 [(.t 19),(.t 21)]),rg 23 (.pick (.t 17) (.t 22) (.c (.b false))),mv 4 23])
 (.pre (.norm false [4]) .ret)))
def b235:AX:=
 (.seq
 (.reg [rg 1 (.xop (.box 3) [(.t 0)]),rg 2 (.mov (.c (.b false)))])
 (.seq
 (.reg [rg 3 (.fad 1 (.t 1)),rg 4 (.load none (.t 3)),rg 5 (.len (.t 4)),rg 6 (.bin .eql (.t 5) (.c (.i .i64 0))),mv 2 6])
 (.pre (.norm false [2]) .ret)))
def b237:AX:=
 (.seq
 (.reg [rg 1 (.xop (.box 3) [(.t 0)]),rg 2 (.alloc [(.b false),(.sl [] .nl),(.sl [] .nl)])])
 (.seq
 (.reg [rg 3 (.fad 0 (.t 1)),rg 4 (.load none (.t 3)),rg 5 (.un .not (.t 4)),rg 6 (.fad 1 (.t 1)),rg 7 (.load none (.t 6)),rg 8 (.fad 2 (.t 1)),rg 9 (.load none (.t 8)),rg 10 (.build [(.b false),(.sl [] .nl),(.sl [] .nl)] [(0,1,(.t 5)),(1,1,(.t 7)),(2,1,(.t 9))]),rg 11 (.call 231 [(.t 10)]),so (.store 3 (.t 2) (.t 11))])
 (.pre (.norm false [2]) .ret)))
def b239:AX:=
 (.seq
 (.reg [rg 2 (.xop (.box 3) [(.t 0)]),rg 3 (.xop (.box 3) [(.t 1)]),rg 4 (.alloc [(.b false),(.sl [] .nl),(.sl [] .nl)])])
 (.seq
 (.draw [⟨rg 8 (.fad 0 (.t 2)),0,1⟩,⟨rg 9 (.load none (.t 8)),0,1⟩,⟨rg 10 (.fad 1 (.t 2)),0,1⟩,⟨rg 11 (.load none (.t 10)),0,1⟩,⟨rg 12 (.fad 2 (.t 3)),0,1⟩,⟨rg 13 (.load none (.t 12)),0,1⟩,⟨rg 14 (.call 61 [(.t 11),(.t 13)]),0,1⟩,⟨rg 15 (.build [(.b false),(.sl [] .nl)] [(0,1,(.t 9)),(1,1,(.t 14))]),0,1⟩,⟨rg 5 (.alloc [(.b false),(.sl [] .nl)]),0,1⟩,⟨so (.store 2 (.t 5) (.t 15)),1,2⟩])
 (.seq
 (.draw [⟨rg 16 (.fad 0 (.t 3)),0,1⟩,⟨rg 17 (.load none (.t 16)),0,1⟩,⟨rg 18 (.fad 1 (.t 3)),0,1⟩,⟨rg 19 (.load none (.t 18)),0,1⟩,⟨rg 20 (.fad 2 (.t 2)),0,1⟩,⟨rg 21 (.load none (.t 20)),0,1⟩,⟨rg 22 (.call 61 [(.t 19),(.t 21)]),0,1⟩,⟨rg 23 (.build [(.b false),(.sl [] .nl)] [(0,1,(.t 17)),(1,1,(.t 22))]),0,1⟩,⟨rg 6 (.alloc [(.b false),(.sl [] .nl)]),0,1⟩,⟨so (.store 2 (.t 6) (.t 23)),1,2⟩])
 (.seq
 (.reg [rg 24 (.load (some 2) (.t 5)),rg 25 (.load (some 2) (.t 6)),rg 26 (.call 24 [(.t 24),(.t 25)]),rg 7 (.alloc [(.b false),(.sl [] .nl)]),so (.store 2 (.t 7) (.t 26))])
 (.seq
 (.drawT [rg 27 (.fad 0 (.t 7)),rg 28 (.load none (.t 27)),rg 29 (.fad 1 (.t 7)),rg 30 (.load none (.t 29)),rg 31 (.fad 2 (.t 2)),rg 32 (.load none (.t 31)),rg 33 (.fad 2 (.t 3)),rg 34 (.load none (.t 33)),rg 35 (.call 61 [(.t 32),(.t 34)])]
 [rg 36 (.build [(.b false),(.sl [] .nl),(.sl [] .nl)] [(0,1,(.t 28)),(1,1,(.t 30)),(2,1,(.t 35))]),rg 37 (.call 231 [(.t 36)]),so (.store 3 (.t 4) (.t 37))])
 (.pre (.norm false [4]) .ret))))))
def b240:AX:=
 (.seq
 (.reg [rg 2 (.xop (.box 3) [(.t 0)]),rg 3 (.xop (.box 3) [(.t 1)]),rg 4 (.alloc [(.b false),(.sl [] .nl),(.sl [] .nl)])])
 (.seq
 (.drawT [rg 5 (.load (some 3) (.t 2)),rg 6 (.load (some 3) (.t 3)),rg 7 (.call 237 [(.t 6)])]
 [rg 8 (.call 239 [(.t 5),(.t 7)]),so (.store 3 (.t 4) (.t 8))])
 (.pre (.norm false [4]) .ret)))
def b241:AX:=
 (.seq
 (.reg [rg 2 (.xop (.box 3) [(.t 0)]),rg 3 (.xop (.box 3) [(.t 1)]),rg 4 (.alloc [(.b false),(.sl [] .nl),(.sl [] .nl)])])
 (.seq
 (.drawT [rg 5 (.fad 0 (.t 2)),rg 6 (.load none (.t 5)),rg 7 (.fad 0 (.t 3)),rg 8 (.load none (.t 7)),rg 9 (.eqb true (.t 6) (.t 8)),rg 10 (.fad 1 (.t 2)),rg 11 (.load none (.t 10)),rg 12 (.fad 1 (.t 3)),rg 13 (.load none (.t 12)),rg 14 (.call 61 [(.t 11),(.t 13)]),rg 15 (.fad 2 (.t 2)),rg 16 (.load none (.t 15)),rg 17 (.fad 2 (.t 3)),rg 18 (.load none (.t 17)),rg 19 (.call 61 [(.t 16),(.t 18)])]
 [rg 20 (.build [(.b false),(.sl [] .nl),(.sl [] .nl)] [(0,1,(.t 9)),(1,1,(.t 14)),(2,1,(.t 19))]),rg 21 (.call 231 [(.t 20)]),so (.store 3 (.t 4) (.t 21))])
 (.pre (.norm false [4]) .ret)))
def b242:AX:=
 (.seq
 (.reg [rg 2 (.xop (.box 3) [(.t 0)]),rg 3 (.xop (.box 3) [(.t 1)]),rg 4 (.alloc [(.b false),(.sl [] .nl),(.sl [] .nl)])])
 (.seq
 (.drawT [rg 5 (.fad 0 (.t 2)),rg 6 (.load none (.t 5)),rg 7 (.fad 0 (.t 3)),rg 8 (.load none (.t 7)),rg 9 (.eqb true (.t 6) (.t 8)),rg 10 (.fad 1 (.t 2)),rg 11 (.load none (.t 10)),rg 12 (.fad 2 (.t 3)),rg 13 (.load none (.t 12)),rg 14 (.call 61 [(.t 11),(.t 13)]),rg 15 (.fad 2 (.t 2)),rg 16 (.load none (.t 15)),rg 17 (.fad 1 (.t 3)),rg 18 (.load none (.t 17)),rg 19 (.call 61 [(.t 16),(.t 18)])]
 [rg 20 (.build [(.b false),(.sl [] .nl),(.sl [] .nl)] [(0,1,(.t 9)),(1,1,(.t 14)),(2,1,(.t 19))]),rg 21 (.call 231 [(.t 20)]),so (.store 3 (.t 4) (.t 21))])
 (.pre (.norm false [4]) .ret)))
def b247:AX:=
 (.seq
 (.reg [rg 2 (.xop (.box 3) [(.t 0)]),rg 4 (.mov (.c (.b false)))])
 (.seq
 (.reg [rg 5 (.fad 1 (.t 2)),rg 6 (.load none (.t 5)),rg 7 (.len (.t 6)),mv 8 1,rg 9 (.bin .gtr (.t 7) (.t 8)),mv 10 9,gd 11 10 false (.fad 2 (.t 2)),gd 12 10 false (.load none (.t 11)),gd 13 10 false (.len (.t 12)),gd 14 10 false (.mov (.t 1)),gd 15 10 false (.bin .gtr (.t 13) (.t 14)),rg 16 (.pick (.t 10) (.c (.b true)) (.t 15)),mv 4 16])
 (.pre (.norm false [4]) .ret)))
def b353:AX:=
 (.seq
 (.reg [rg 2 (.mov (.c (.sl [] .nl)))])
 (.seq
 (.reg [mv 3 0,rg 4 (.bin .rem (.t 3) (.c (u64 4294967296))),rg 5 (.conv .u32 (.t 4)),mv 6 0,rg 7 (.bin .quo (.t 6) (.c (u64 4294967296))),rg 8 (.conv .u32 (.t 7)),rg 9 (.bsl 1 [(u32 0)] 2 [(0,(.t 5)),(1,(.t 8))]),rg 10 (.call 43 [(.t 9)]),mv 2 10])
 (.pre (.norm false [2]) .ret)))
def row231:AFx:=⟨1,40,[.cell 2 (some 3)],b231,none,false⟩
def row232:AFx:=⟨1,21,[.cell 2 (some 3)],b232,none,false⟩
def row233:AFx:=⟨2,24,[.t 4],b233,none,false⟩
def row235:AFx:=⟨1,7,[.t 2],b235,none,false⟩
def row237:AFx:=⟨1,12,[.cell 2 (some 3)],b237,none,false⟩
def row239:AFx:=⟨2,38,[.cell 4 (some 3)],b239,none,false⟩
def row240:AFx:=⟨2,9,[.cell 4 (some 3)],b240,none,false⟩
def row241:AFx:=⟨2,22,[.cell 4 (some 3)],b241,none,false⟩
def row242:AFx:=⟨2,22,[.cell 4 (some 3)],b242,none,false⟩
def row247:AFx:=⟨2,17,[.t 4],b247,none,false⟩
def row353:AFx:=⟨1,11,[.t 2],b353,none,false⟩
class Zv (T:Tbl):Prop where
 h231:T 231=some row231
 h232:T 232=some row232
 h233:T 233=some row233
 h235:T 235=some row235
 h237:T 237=some row237
 h239:T 239=some row239
 h240:T 240=some row240
 h241:T 241=some row241
 h242:T 242=some row242
 h247:T 247=some row247
 h353:T 353=some row353
section
variable{T:Tbl}[Zv T]{d:Option Nat}{st:St}{xs:List AV}{ps:List Opd}{e:Env}{h:Heap}{ol:List Heap}
@[simp] theorem x231:Zc (orc T) T 231 xs d st=cP T 231 false xs d st:=zaa Zv.h231
@[simp] theorem y231:opD (orc T) T (.call 231 ps) e h ol=dP T 231 false ps e:=zal Zv.h231
@[simp] theorem x232:Zc (orc T) T 232 xs d st=cP T 232 false xs d st:=zaa Zv.h232
@[simp] theorem x233:Zc (orc T) T 233 xs d st=cP T 233 false xs d st:=zaa Zv.h233
@[simp] theorem x235:Zc (orc T) T 235 xs d st=cP T 235 false xs d st:=zaa Zv.h235
@[simp] theorem x237:Zc (orc T) T 237 xs d st=cP T 237 false xs d st:=zaa Zv.h237
@[simp] theorem y237:opD (orc T) T (.call 237 ps) e h ol=dP T 237 false ps e:=zal Zv.h237
@[simp] theorem x239:Zc (orc T) T 239 xs d st=cP T 239 false xs d st:=zaa Zv.h239
@[simp] theorem x240:Zc (orc T) T 240 xs d st=cP T 240 false xs d st:=zaa Zv.h240
@[simp] theorem x241:Zc (orc T) T 241 xs d st=cP T 241 false xs d st:=zaa Zv.h241
@[simp] theorem x242:Zc (orc T) T 242 xs d st=cP T 242 false xs d st:=zaa Zv.h242
@[simp] theorem x247:Zc (orc T) T 247 xs d st=cP T 247 false xs d st:=zaa Zv.h247
@[simp] theorem x353:Zc (orc T) T 353 xs d st=cP T 353 false xs d st:=zaa Zv.h353
end
def l278_0:AX:=
 (.note
 (.seq
 (.seq
 (.reg [mv 5 4,mv 6 0,rg 7 (.len (.t 6)),rg 8 (.bin .lss (.t 5) (.t 7))])
 (.cond (.t 8)
 .skip
 (.exit 0)))
 (.seq
 (.block 1
 (.reg [mv 11 3,mv 12 0,mv 13 4,rg 14 (.iad 3 (.t 12) (.t 13)),rg 15 (.load (some 3) (.t 14)),rg 16 (.call 231 [(.t 15)]),rg 17 (.bsl 3 [(.b false),(.sl [] .nl),(.sl [] .nl)] 1 [(0,(.t 16))]),rg 18 (.app 3 (.t 11) (.t 17)),mv 3 18]))
 (.reg [mv 9 4,rg 10 (.bin .add (.t 9) (.c (.i .i64 1))),mv 4 10])))
 (.norm false [0,3,4]))
def b278:AX:=
 (.seq
 (.reg [rg 2 (.mov (.c (.sl [] .nl)))])
 (.seq
 (.note (.reg [rg 3 (.mov (.c (.sl [] .nl)))]) (.nil 3 3))
 (.seq
 (.seq
 (.reg [rg 4 (.mov (.c (.i .i64 0)))])
 (.lp 0 (.norm false [0,3,4]) l278_0 (.norm false [3])))
 (.seq
 (.reg [mv 19 3,mv 2 19])
 (.pre (.norm false [2]) .ret)))))
def l279_0:AX:=
 (.note
 (.seq
 (.seq
 (.reg [mv 11 5,mv 12 0,rg 13 (.len (.t 12)),rg 14 (.bin .lss (.t 11) (.t 13))])
 (.cond (.t 14)
 .skip
 (.exit 0)))
 (.seq
 (.block 1
 (.seq
 (.drawT [mv 17 0,mv 18 5,rg 19 (.iad 3 (.t 17) (.t 18)),rg 20 (.load (some 3) (.t 19)),mv 21 1,mv 22 5,rg 23 (.iad 3 (.t 21) (.t 22)),rg 24 (.load (some 3) (.t 23))]
 [rg 25 (.call 233 [(.t 20),(.t 24)]),rg 26 (.un .not (.t 25))])
 (.cond (.t 26)
 (.seq
 (.reg [rg 4 (.mov (.c (.b false)))])
 (.pre (.norm false [4]) .ret))
 .skip)))
 (.reg [mv 15 5,rg 16 (.bin .add (.t 15) (.c (.i .i64 1))),mv 5 16])))
 (.norm false [0,1,5]))
def b279:AX:=
 (.seq
 (.reg [rg 4 (.mov (.c (.b false)))])
 (.seq
 (.seq
 (.reg [mv 6 0,rg 7 (.len (.t 6)),mv 8 1,rg 9 (.len (.t 8)),rg 10 (.bin .neq (.t 7) (.t 9))])
 (.cond (.t 10)
 (.seq
 (.reg [rg 4 (.mov (.c (.b false)))])
 (.pre (.norm false [4]) .ret))
 .skip))
 (.seq
 (.seq
 (.reg [rg 5 (.mov (.c (.i .i64 0)))])
 (.lp 0 (.norm false [0,1,5]) l279_0 (.norm false [])))
 (.seq
 (.reg [rg 4 (.mov (.c (.b true)))])
 (.pre (.norm false [4]) .ret)))))
def l286_0:AX:=
 (.note
 (.seq
 (.seq
 (.reg [mv 8 7,mv 9 0,rg 10 (.len (.t 9)),rg 11 (.bin .lss (.t 8) (.t 10)),mv 12 11,gd 13 12 true (.mov (.t 7)),gd 14 12 true (.mov (.t 1)),gd 15 12 true (.bin .lss (.t 13) (.t 14)),rg 16 (.pick (.t 12) (.t 15) (.c (.b false)))])
 (.cond (.t 16)
 .skip
 (.exit 0)))
 (.seq
 (.block 1
 (.seq
 (.reg [mv 19 0,mv 20 7,rg 21 (.iad 3 (.t 19) (.t 20)),rg 22 (.load (some 3) (.t 21)),mv 23 2,rg 24 (.call 247 [(.t 22),(.t 23)])])
 (.cond (.t 24)
 (.seq
 (.reg [rg 6 (.mov (.c (.b true)))])
 (.pre (.norm false [6]) .ret))
 .skip)))
 (.reg [mv 17 7,rg 18 (.bin .add (.t 17) (.c (.i .i64 1))),mv 7 18])))
 (.norm false [0,1,2,7]))
def b286:AX:=
 (.seq
 (.reg [rg 6 (.mov (.c (.b false)))])
 (.seq
 (.seq
 (.reg [rg 7 (.mov (.c (.i .i64 0)))])
 (.lp 0 (.norm false [0,1,2,7]) l286_0 (.norm false [0,1])))
 (.seq
 (.reg [mv 25 0,rg 26 (.len (.t 25)),mv 27 1,rg 28 (.bin .gtr (.t 26) (.t 27)),mv 6 28])
 (.pre (.norm false [6]) .ret))))
def row278:AFx:=⟨1,20,[.t 2],b278,none,false⟩
def row279:AFx:=⟨2,27,[.t 4],b279,none,false⟩
def row286:AFx:=⟨3,29,[.t 6],b286,none,false⟩
class Zas (T:Tbl):Prop where
 h278:T 278=some row278
 h279:T 279=some row279
 h286:T 286=some row286
section
variable{T:Tbl}[Zas T]{d:Option Nat}{st:St}{xs:List AV}{ps:List Opd}{e:Env}{h:Heap}{ol:List Heap}
@[simp] theorem x278:Zc (orc T) T 278 xs d st=cP T 278 false xs d st:=zaa Zas.h278
@[simp] theorem y278:opD (orc T) T (.call 278 ps) e h ol=dP T 278 false ps e:=zal Zas.h278
@[simp] theorem x279:Zc (orc T) T 279 xs d st=cP T 279 false xs d st:=zaa Zas.h279
@[simp] theorem x286:Zc (orc T) T 286 xs d st=cP T 286 false xs d st:=zaa Zas.h286
end
def b248:AX:=
 (.seq
 (.reg [rg 1 (.xop (.box 3) [(.t 0)]),rg 2 (.alloc [(.b false),(.sl [] .nl),(.sl [] .nl)])])
 (.seq
 (.reg [rg 3 (.fad 0 (.t 1)),rg 4 (.load none (.t 3)),rg 5 (.fad 1 (.t 1)),rg 6 (.load none (.t 5)),rg 7 (.build [(.b false),(.sl [] .nl)] [(0,1,(.t 4)),(1,1,(.t 6))]),rg 8 (.fad 2 (.t 1)),rg 9 (.load none (.t 8)),rg 10 (.build [(.b false),(.sl [] .nl),(.sl [] .nl)] [(0,2,(.t 7)),(2,1,(.t 9))]),so (.store 3 (.t 2) (.t 10))])
 (.pre (.norm false [2]) .ret)))
def b249:AX:=
 (.seq
 (.reg [rg 1 (.xop (.box 3) [(.t 0)]),rg 2 (.alloc [(.b false),(.sl [] .nl),(.sl [] .nl)])])
 (.seq
 (.reg [rg 3 (.fad 0 (.t 1)),rg 4 (.fad 0 (.t 3)),rg 5 (.load none (.t 4)),rg 6 (.fad 0 (.t 1)),rg 7 (.fad 1 (.t 6)),rg 8 (.load none (.t 7)),rg 9 (.fad 2 (.t 1)),rg 10 (.load none (.t 9)),rg 11 (.build [(.b false),(.sl [] .nl),(.sl [] .nl)] [(0,1,(.t 5)),(1,1,(.t 8)),(2,1,(.t 10))]),so (.store 3 (.t 2) (.t 11))])
 (.pre (.norm false [2]) .ret)))
def row248:AFx:=⟨1,11,[.cell 2 (some 3)],b248,none,false⟩
def row249:AFx:=⟨1,12,[.cell 2 (some 3)],b249,none,false⟩
class Zcy (T:Tbl):Prop where
 h248:T 248=some row248
 h249:T 249=some row249
section
variable{T:Tbl}[Zcy T]{d:Option Nat}{st:St}{xs:List AV}{ps:List Opd}{e:Env}{h:Heap}{ol:List Heap}
@[simp] theorem x248:Zc (orc T) T 248 xs d st=cP T 248 false xs d st:=zaa Zcy.h248
@[simp] theorem y248:opD (orc T) T (.call 248 ps) e h ol=dP T 248 false ps e:=zal Zcy.h248
@[simp] theorem x249:Zc (orc T) T 249 xs d st=cP T 249 false xs d st:=zaa Zcy.h249
end
def l287_0:AX:=
 (.note
 (.seq
 (.seq
 (.reg [mv 5 4,mv 6 0,rg 7 (.len (.t 6)),rg 8 (.bin .lss (.t 5) (.t 7))])
 (.cond (.t 8)
 .skip
 (.exit 0)))
 (.seq
 (.block 1
 (.reg [mv 11 3,mv 12 0,mv 13 4,rg 14 (.iad 3 (.t 12) (.t 13)),rg 15 (.load (some 3) (.t 14)),rg 16 (.call 248 [(.t 15)]),rg 17 (.bsl 3 [(.b false),(.sl [] .nl),(.sl [] .nl)] 1 [(0,(.t 16))]),rg 18 (.app 3 (.t 11) (.t 17)),mv 3 18]))
 (.reg [mv 9 4,rg 10 (.bin .add (.t 9) (.c (.i .i64 1))),mv 4 10])))
 (.norm false [0,3,4]))
def b287:AX:=
 (.seq
 (.reg [rg 2 (.mov (.c (.sl [] .nl)))])
 (.seq
 (.note (.reg [rg 3 (.mov (.c (.sl [] .nl)))]) (.nil 3 3))
 (.seq
 (.seq
 (.reg [rg 4 (.mov (.c (.i .i64 0)))])
 (.lp 0 (.norm false [0,3,4]) l287_0 (.norm false [3])))
 (.seq
 (.reg [mv 19 3,mv 2 19])
 (.pre (.norm false [2]) .ret)))))
def l288_0:AX:=
 (.note
 (.seq
 (.seq
 (.reg [mv 5 4,mv 6 0,rg 7 (.len (.t 6)),rg 8 (.bin .lss (.t 5) (.t 7))])
 (.cond (.t 8)
 .skip
 (.exit 0)))
 (.seq
 (.block 1
 (.reg [mv 11 3,mv 12 0,mv 13 4,rg 14 (.iad 3 (.t 12) (.t 13)),rg 15 (.load (some 3) (.t 14)),rg 16 (.call 249 [(.t 15)]),rg 17 (.bsl 3 [(.b false),(.sl [] .nl),(.sl [] .nl)] 1 [(0,(.t 16))]),rg 18 (.app 3 (.t 11) (.t 17)),mv 3 18]))
 (.reg [mv 9 4,rg 10 (.bin .add (.t 9) (.c (.i .i64 1))),mv 4 10])))
 (.norm false [0,3,4]))
def b288:AX:=
 (.seq
 (.reg [rg 2 (.mov (.c (.sl [] .nl)))])
 (.seq
 (.note (.reg [rg 3 (.mov (.c (.sl [] .nl)))]) (.nil 3 3))
 (.seq
 (.seq
 (.reg [rg 4 (.mov (.c (.i .i64 0)))])
 (.lp 0 (.norm false [0,3,4]) l288_0 (.norm false [3])))
 (.seq
 (.reg [mv 19 3,mv 2 19])
 (.pre (.norm false [2]) .ret)))))
def b289:AX:=
 (.seq
 (.reg [rg 4 (.mov (.c (.b false)))])
 (.seq
 (.reg [mv 5 0,rg 6 (.call 288 [(.t 5)]),mv 7 1,rg 8 (.call 279 [(.t 6),(.t 7)]),mv 4 8])
 (.pre (.norm false [4]) .ret)))
def row287:AFx:=⟨1,20,[.t 2],b287,none,false⟩
def row288:AFx:=⟨1,20,[.t 2],b288,none,false⟩
def row289:AFx:=⟨2,9,[.t 4],b289,none,false⟩
class Zch (T:Tbl):Prop where
 h287:T 287=some row287
 h288:T 288=some row288
 h289:T 289=some row289
section
variable{T:Tbl}[Zch T]{d:Option Nat}{st:St}{xs:List AV}{ps:List Opd}{e:Env}{h:Heap}{ol:List Heap}
@[simp] theorem x287:Zc (orc T) T 287 xs d st=cP T 287 false xs d st:=zaa Zch.h287
@[simp] theorem y287:opD (orc T) T (.call 287 ps) e h ol=dP T 287 false ps e:=zal Zch.h287
@[simp] theorem x288:Zc (orc T) T 288 xs d st=cP T 288 false xs d st:=zaa Zch.h288
@[simp] theorem x289:Zc (orc T) T 289 xs d st=cP T 289 false xs d st:=zaa Zch.h289
end
class Zcd (T:Tbl):Prop where
def b406:AX:=
 (.seq
 (.reg [rg 2 (.mov (.c (.raw (.pointer none))))])
 (.seq
 (.reg [mv 3 0,rg 4 (.mm true [(.t 3),(.c (.i .i64 0))]),rg 5 (.mm false [(.t 4),(.c (.i .i64 4096))]),rg 6 (.build [(.i .i64 0),(.i .i64 0),(.i .i64 0)] [(2,1,(.t 5))]),rg 7 (.xop (.box 3) [(.t 6)]),mv 2 7])
 (.pre (.norm false [2]) .ret)))
def b411:AX:=
 (.seq
 (.reg [rg 3 (.xop (.box 3) [(.t 1)]),rg 4 (.mov (.c (.b false)))])
 (.seq
 (.reg [rg 6 (.load (some 3) (.t 3)),rg 7 (.call 223 [(.t 6)]),mv 5 7])
 (.seq
 (.reg [mv 8 0,rg 9 (.nilc (.t 8)),rg 10 (.fad 0 (.t 9)),mv 11 5,rg 12 (.call 426 [(.t 10),(.t 11)])])
 (.seq
 (.reg [mv 13 5,mv 14 0,rg 15 (.nilc (.t 14)),rg 16 (.fad 2 (.t 15)),rg 17 (.load none (.t 16)),rg 18 (.bin .leq (.t 13) (.t 17)),mv 4 18])
 (.pre (.norm false [4]) .ret)))))
def b426:AX:=
 (.seq
 (.reg [mv 4 0,rg 5 (.nilc (.t 4)),rg 6 (.fad 0 (.t 5)),rg 7 (.load none (.t 6)),rg 8 (.bin .add (.t 7) (.c (.i .i64 1))),rg 9 (.nilc (.t 4)),rg 10 (.fad 0 (.t 9)),so (.store 1 (.t 10) (.t 8))])
 (.reg [mv 11 0,mv 12 0,rg 13 (.nilc (.t 12)),rg 14 (.fad 1 (.t 13)),rg 15 (.load none (.t 14)),mv 16 1,rg 17 (.mm true [(.t 15),(.t 16)]),rg 18 (.nilc (.t 11)),rg 19 (.fad 1 (.t 18)),so (.store 1 (.t 19) (.t 17))]))
def row406:AFx:=⟨1,8,[.t 2],b406,(some [false]),false⟩
def row411:AFx:=⟨2,19,[.t 4],b411,(some [true,false]),false⟩
def row426:AFx:=⟨2,20,[],b426,(some [true,false]),false⟩
class Zar (T:Tbl):Prop where
 h406:T 406=some row406
 h411:T 411=some row411
 h426:T 426=some row426
section
variable{T:Tbl}[Zar T]{d:Option Nat}{st:St}{xs:List AV}{ps:List Opd}{e:Env}{h:Heap}{ol:List Heap}
@[simp] theorem x406:Zc (orc T) T 406 xs d st=cL T 406 false [false] xs d st:=zap Zar.h406
@[simp] theorem x411:Zc (orc T) T 411 xs d st=cL T 411 false [true,false] xs d st:=zap Zar.h411
@[simp] theorem x426:Zc (orc T) T 426 xs d st=cL T 426 false [true,false] xs d st:=zap Zar.h426
end
def b405:AX:=
 (.seq
 (.reg [rg 1 (.xop (.box 5) [(.t 0)]),rg 2 (.alloc [(.b false),(.sl [] .nl),(.sl [] .nl),(.sl [] .nl),(.sl [] .nl)])])
 (.seq
 (.drawT [rg 3 (.fad 0 (.t 1)),rg 4 (.load (some 3) (.t 3)),rg 5 (.call 207 [(.t 4)]),rg 6 (.fad 3 (.t 1)),rg 7 (.load none (.t 6)),rg 8 (.call 420 [(.t 7)]),rg 9 (.fad 4 (.t 1)),rg 10 (.load none (.t 9))]
 [rg 11 (.call 420 [(.t 10)]),rg 12 (.build [(.b false),(.sl [] .nl),(.sl [] .nl),(.sl [] .nl),(.sl [] .nl)] [(0,3,(.t 5)),(3,1,(.t 8)),(4,1,(.t 11))]),so (.store 5 (.t 2) (.t 12))])
 (.pre (.norm false [2]) .ret)))
def l420_0:AX:=
 (.note
 (.seq
 (.reg [rg 9 (.bin .lss (.t 8) (.t 7))])
 (.seq
 (.cond (.t 9)
 .skip
 (.exit 0))
 (.seq
 (.block 1
 (.seq
 (.reg [rg 10 (.iad 3 (.t 6) (.t 8)),rg 11 (.load (some 3) (.t 10)),rg 5 (.alloc [(.b false),(.sl [] .nl),(.sl [] .nl)]),so (.store 3 (.t 5) (.t 11))])
 (.reg [mv 12 3,rg 13 (.load (some 3) (.t 5)),rg 14 (.call 207 [(.t 13)]),rg 15 (.bsl 3 [(.b false),(.sl [] .nl),(.sl [] .nl)] 1 [(0,(.t 14))]),rg 16 (.app 3 (.t 12) (.t 15)),mv 3 16])))
 (.reg [rg 17 (.bin .add (.t 8) (.c (.i .i64 1))),mv 8 17]))))
 (.norm false [3,6,7,8]))
def b420:AX:=
 (.seq
 (.reg [rg 2 (.mov (.c (.sl [] .nl)))])
 (.seq
 (.note (.reg [rg 3 (.mov (.c (.sl [] .nl)))]) (.nil 3 3))
 (.seq
 (.seq
 (.reg [mv 6 0,rg 7 (.len (.t 6)),rg 8 (.mov (.c (.i .i64 0)))])
 (.lp 0 (.norm false [3,6,7,8]) l420_0 (.norm false [3])))
 (.seq
 (.reg [mv 18 3,mv 2 18])
 (.pre (.norm false [2]) .ret)))))
def row405:AFx:=⟨1,13,[.cell 2 (some 5)],b405,none,false⟩
def row420:AFx:=⟨1,19,[.t 2],b420,none,false⟩
class Zbv (T:Tbl):Prop where
 h405:T 405=some row405
 h420:T 420=some row420
section
variable{T:Tbl}[Zbv T]{d:Option Nat}{st:St}{xs:List AV}{ps:List Opd}{e:Env}{h:Heap}{ol:List Heap}
@[simp] theorem x405:Zc (orc T) T 405 xs d st=cP T 405 false xs d st:=zaa Zbv.h405
@[simp] theorem x420:Zc (orc T) T 420 xs d st=cP T 420 false xs d st:=zaa Zbv.h420
@[simp] theorem y420:opD (orc T) T (.call 420 ps) e h ol=dP T 420 false ps e:=zal Zbv.h420
end
def b490:AX:=
 (.seq
 (.reg [rg 2 (.alloc [(.b false),(.sl [] .nl),(.sl [] .nl)])])
 (.seq
 (.reg [mv 5 0,rg 6 (.nilc (.t 5)),rg 7 (.fad 8 (.t 6)),rg 8 (.load none (.t 7)),rg 9 (.len (.t 8)),rg 10 (.bin .sub (.t 9) (.c (.i .i64 1))),mv 3 10])
 (.seq
 (.reg [mv 11 0,rg 12 (.nilc (.t 11)),rg 13 (.fad 8 (.t 12)),rg 14 (.load none (.t 13)),mv 15 3,rg 16 (.iad 3 (.t 14) (.t 15)),rg 17 (.load (some 3) (.t 16)),rg 4 (.alloc [(.b false),(.sl [] .nl),(.sl [] .nl)]),so (.store 3 (.t 4) (.t 17))])
 (.seq
 (.reg [mv 18 0,mv 19 0,rg 20 (.nilc (.t 19)),rg 21 (.fad 8 (.t 20)),rg 22 (.load none (.t 21)),mv 23 3,rg 24 (.slc 3 (.t 22) none (some (.t 23)) none),rg 25 (.nilc (.t 18)),rg 26 (.fad 8 (.t 25)),so (.store 1 (.t 26) (.t 24))])
 (.seq
 (.reg [rg 27 (.load (some 3) (.t 4)),so (.store 3 (.t 2) (.t 27))])
 (.pre (.norm false [2]) .ret))))))
def b489:AX:=
 (.seq
 (.reg [rg 3 (.xop (.box 3) [(.t 1)]),rg 4 (.alloc [(.b false),(.sl [] .nl),(.sl [] .nl)])])
 (.seq
 (.seq
 (.reg [rg 7 (.fad 0 (.t 3)),rg 8 (.load none (.t 7))])
 (.block 0
 (.seq
 (.reg [rg 10 (.bin .eql (.t 8) (.c (.i .i64 1))),mv 9 10])
 (.cond (.t 9)
 (.seq
 (.reg [rg 12 (.fad 2 (.t 3)),rg 13 (.load none (.t 12)),rg 14 (.build [(.b false),(.sl [] .nl)] [(1,1,(.t 13))]),rg 15 (.bsl 1 [(u32 0)] 1 [(0,(.c (u32 1)))]),rg 16 (.call 204 [(.t 14),(.t 15)]),mv 11 16,rg 17 (.ext (.t 11) 0),rg 18 (.ext (.t 11) 1),rg 5 (.alloc [(.b false),(.sl [] .nl),(.sl [] .nl)]),so (.store 3 (.t 5) (.t 17)),mv 6 18])
 (.seq
 (.reg [rg 19 (.load (some 3) (.t 5)),so (.store 3 (.t 4) (.t 19))])
 (.pre (.norm false [4]) .ret)))
 (.seq
 (.reg [rg 21 (.bin .eql (.t 8) (.c (.i .i64 3))),mv 20 21])
 (.cond (.t 20)
 (.seq
 (.drawT [mv 22 0,rg 23 (.nilc (.t 22)),rg 24 (.fad 0 (.t 23)),rg 25 (.fad 3 (.t 24)),rg 26 (.load none (.t 25)),rg 27 (.fad 1 (.t 3)),rg 28 (.load none (.t 27))]
 [rg 29 (.iad 3 (.t 26) (.t 28)),rg 30 (.load (some 3) (.t 29)),so (.store 3 (.t 4) (.t 30))])
 (.pre (.norm false [4]) .ret))
 (.seq
 (.reg [rg 32 (.bin .eql (.t 8) (.c (.i .i64 4))),mv 31 32])
 (.cond (.t 31)
 (.seq
 (.drawT [mv 33 0,rg 34 (.nilc (.t 33)),rg 35 (.fad 0 (.t 34)),rg 36 (.fad 4 (.t 35)),rg 37 (.load none (.t 36)),rg 38 (.fad 1 (.t 3)),rg 39 (.load none (.t 38))]
 [rg 40 (.iad 3 (.t 37) (.t 39)),rg 41 (.load (some 3) (.t 40)),so (.store 3 (.t 4) (.t 41))])
 (.pre (.norm false [4]) .ret))
 (.seq
 (.reg [rg 43 (.bin .eql (.t 8) (.c (.i .i64 5))),mv 42 43])
 (.cond (.t 42)
 (.seq
 (.drawT [mv 44 0,rg 45 (.nilc (.t 44)),rg 46 (.fad 5 (.t 45)),rg 47 (.load none (.t 46)),rg 48 (.fad 1 (.t 3)),rg 49 (.load none (.t 48))]
 [rg 50 (.iad 3 (.t 47) (.t 49)),rg 51 (.load (some 3) (.t 50)),so (.store 3 (.t 4) (.t 51))])
 (.pre (.norm false [4]) .ret))
 .skip))))))))))
 (.seq
 (.reg [mv 52 0,rg 53 (.nilc (.t 52)),rg 54 (.fad 0 (.t 53)),rg 55 (.fad 0 (.t 54)),rg 56 (.load (some 3) (.t 55)),so (.store 3 (.t 4) (.t 56))])
 (.pre (.norm false [4]) .ret))))
def b484:AX:=
 (.seq
 (.reg [rg 3 (.xop (.box 3) [(.t 1)]),rg 4 (.alloc [(.b false),(.sl [] .nl),(.sl [] .nl)]),rg 5 (.mov (.c (.b false)))])
 (.seq
 (.seq
 (.reg [rg 9 (.fad 0 (.t 3)),rg 10 (.load none (.t 9)),rg 11 (.call 76 [(.t 10)])])
 (.block 0
 (.seq
 (.reg [rg 13 (.bin .eql (.t 11) (.c (.i .i64 0))),mv 12 13])
 (.cond (.t 12)
 (.seq
 (.reg [mv 14 0,rg 15 (.load (some 3) (.t 3)),rg 16 (.call 489 [(.t 14),(.t 15)]),so (.store 3 (.t 4) (.t 16)),rg 5 (.mov (.c (.b true)))])
 (.pre (.norm false [4,5]) .ret))
 (.seq
 (.reg [rg 18 (.bin .eql (.t 11) (.c (.i .i64 1))),mv 17 18])
 (.cond (.t 17)
 (.seq
 (.reg [mv 19 0,rg 20 (.call 490 [(.t 19)]),rg 6 (.alloc [(.b false),(.sl [] .nl),(.sl [] .nl)]),so (.store 3 (.t 6) (.t 20))])
 (.seq
 (.seq
 (.reg [rg 21 (.fad 0 (.t 3)),rg 22 (.load none (.t 21)),rg 23 (.bin .eql (.t 22) (.c (.i .i64 6)))])
 (.cond (.t 23)
 (.seq
 (.reg [rg 24 (.load (some 3) (.t 6)),rg 25 (.call 213 [(.t 24)]),so (.store 3 (.t 4) (.t 25)),rg 5 (.mov (.c (.b true)))])
 (.pre (.norm false [4,5]) .ret))
 .skip))
 (.seq
 (.reg [rg 26 (.load (some 3) (.t 6)),rg 27 (.fad 1 (.t 3)),rg 28 (.load none (.t 27)),rg 29 (.call 220 [(.t 26),(.t 28)]),rg 30 (.ext (.t 29) 0),rg 31 (.ext (.t 29) 1),so (.store 3 (.t 4) (.t 30)),mv 5 31])
 (.pre (.norm false [4,5]) .ret))))
 .skip))))))
 (.seq
 (.reg [mv 32 0,rg 33 (.call 490 [(.t 32)]),rg 7 (.alloc [(.b false),(.sl [] .nl),(.sl [] .nl)]),so (.store 3 (.t 7) (.t 33))])
 (.seq
 (.reg [mv 34 0,rg 35 (.call 490 [(.t 34)]),rg 8 (.alloc [(.b false),(.sl [] .nl),(.sl [] .nl)]),so (.store 3 (.t 8) (.t 35))])
 (.seq
 (.seq
 (.reg [rg 36 (.fad 0 (.t 3)),rg 37 (.load none (.t 36))])
 (.block 1
 (.seq
 (.reg [rg 39 (.bin .eql (.t 37) (.c (.i .i64 7))),mv 38 39])
 (.cond (.t 38)
 (.seq
 (.reg [rg 40 (.load (some 3) (.t 8)),rg 41 (.load (some 3) (.t 7)),rg 42 (.call 215 [(.t 40),(.t 41)]),so (.store 3 (.t 4) (.t 42)),rg 5 (.mov (.c (.b true)))])
 (.pre (.norm false [4,5]) .ret))
 (.seq
 (.reg [rg 44 (.bin .eql (.t 37) (.c (.i .i64 8))),mv 43 44])
 (.cond (.t 43)
 (.seq
 (.reg [rg 45 (.load (some 3) (.t 8)),rg 46 (.load (some 3) (.t 7)),rg 47 (.call 216 [(.t 45),(.t 46)]),so (.store 3 (.t 4) (.t 47)),rg 5 (.mov (.c (.b true)))])
 (.pre (.norm false [4,5]) .ret))
 (.seq
 (.reg [rg 49 (.bin .eql (.t 37) (.c (.i .i64 9))),mv 48 49])
 (.cond (.t 48)
 (.seq
 (.reg [rg 50 (.load (some 3) (.t 8)),rg 51 (.load (some 3) (.t 7)),rg 52 (.call 217 [(.t 50),(.t 51)]),so (.store 3 (.t 4) (.t 52)),rg 5 (.mov (.c (.b true)))])
 (.pre (.norm false [4,5]) .ret))
 .skip))))))))
 (.seq
 (.reg [rg 53 (.load (some 3) (.t 8)),rg 54 (.load (some 3) (.t 7)),rg 55 (.call 218 [(.t 53),(.t 54)]),rg 56 (.ext (.t 55) 0),rg 57 (.ext (.t 55) 1),so (.store 3 (.t 4) (.t 56)),mv 5 57])
 (.pre (.norm false [4,5]) .ret)))))))
def l473_0:AX:=
 (.note
 (.seq
 (.reg [rg 21 (.bin .lss (.t 20) (.t 19))])
 (.seq
 (.cond (.t 21)
 .skip
 (.exit 0))
 (.seq
 (.block 1
 (.seq
 (.reg [rg 22 (.iad 3 (.t 18) (.t 20)),rg 23 (.load (some 3) (.t 22)),rg 7 (.alloc [(.i .i64 0),(.i .i64 0),(.sl [] .nl)]),so (.store 3 (.t 7) (.t 23))])
 (.seq
 (.reg [mv 25 0,rg 26 (.load (some 3) (.t 7)),rg 27 (.call 484 [(.t 25),(.t 26)]),mv 24 27,rg 28 (.ext (.t 24) 0),rg 29 (.ext (.t 24) 1),rg 8 (.alloc [(.b false),(.sl [] .nl),(.sl [] .nl)]),so (.store 3 (.t 8) (.t 28)),mv 9 29])
 (.seq
 (.block 2
 (.seq
 (.reg [mv 31 9,rg 32 (.un .not (.t 31)),mv 30 32])
 (.cond (.t 30)
 (.seq
 (.draw [⟨rg 33 (.call 205 [(.c (.i .i64 0))]),0,0⟩,⟨mv 34 0,0,1⟩,⟨rg 35 (.nilc (.t 34)),0,1⟩,⟨rg 36 (.fad 7 (.t 35)),0,1⟩,⟨rg 37 (.load none (.t 36)),0,1⟩,⟨rg 38 (.build [(.i .i64 0),(.i .i64 0),(.i .i64 0),(.i .i64 0)] [(0,1,(.c (.i .i64 3))),(3,1,(.t 37))]),0,1⟩,⟨so (.store 3 (.t 4) (.t 33)),0,1⟩,⟨so (.store 4 (.t 5) (.t 38)),1,2⟩])
 (.pre (.norm false [4,5]) .ret))
 (.seq
 (.drawT [mv 40 0,rg 41 (.nilc (.t 40)),rg 42 (.fad 6 (.t 41)),rg 43 (.load none (.t 42)),rg 44 (.load (some 3) (.t 8))]
 [rg 45 (.call 411 [(.t 43),(.t 44)]),rg 46 (.un .not (.t 45)),mv 39 46])
 (.cond (.t 39)
 (.seq
 (.draw [⟨rg 47 (.call 205 [(.c (.i .i64 0))]),0,0⟩,⟨mv 48 0,0,1⟩,⟨rg 49 (.nilc (.t 48)),0,1⟩,⟨rg 50 (.fad 7 (.t 49)),0,1⟩,⟨rg 51 (.load none (.t 50)),0,1⟩,⟨rg 52 (.build [(.i .i64 0),(.i .i64 0),(.i .i64 0),(.i .i64 0)] [(0,1,(.c (.i .i64 6))),(3,1,(.t 51))]),0,1⟩,⟨so (.store 3 (.t 4) (.t 47)),0,1⟩,⟨so (.store 4 (.t 5) (.t 52)),1,2⟩])
 (.pre (.norm false [4,5]) .ret))
 .skip)))))
 (.seq
 (.reg [mv 53 0,rg 54 (.nilc (.t 53)),rg 55 (.fad 7 (.t 54)),rg 56 (.load none (.t 55)),rg 57 (.bin .add (.t 56) (.c (.i .i64 1))),rg 58 (.nilc (.t 53)),rg 59 (.fad 7 (.t 58)),so (.store 1 (.t 59) (.t 57))])
 (.draw [⟨mv 60 0,0,1⟩,⟨mv 61 0,0,0⟩,⟨rg 62 (.nilc (.t 61)),0,0⟩,⟨rg 63 (.fad 8 (.t 62)),0,0⟩,⟨rg 64 (.load none (.t 63)),0,0⟩,⟨rg 65 (.load (some 3) (.t 8)),0,0⟩,⟨rg 66 (.bsl 3 [(.b false),(.sl [] .nl),(.sl [] .nl)] 1 [(0,(.t 65))]),0,0⟩,⟨rg 67 (.app 3 (.t 64) (.t 66)),0,1⟩,⟨rg 68 (.nilc (.t 60)),1,1⟩,⟨rg 69 (.fad 8 (.t 68)),1,1⟩,⟨so (.store 1 (.t 69) (.t 67)),1,2⟩]))))))
 (.reg [rg 70 (.bin .add (.t 20) (.c (.i .i64 1))),mv 20 70]))))
 (.norm false [0,4,5,18,19,20]))
def b473:AX:=
 (.seq
 (.reg [rg 4 (.alloc [(.b false),(.sl [] .nl),(.sl [] .nl)]),rg 5 (.alloc [(.i .i64 0),(.i .i64 0),(.i .i64 0),(.i .i64 0)])])
 (.seq
 (.reg [mv 10 0,mv 11 0,rg 12 (.nilc (.t 11)),rg 13 (.fad 8 (.t 12)),rg 14 (.load none (.t 13)),rg 15 (.slc 3 (.t 14) none (some (.c (.i .i64 0))) none),rg 16 (.nilc (.t 10)),rg 17 (.fad 8 (.t 16)),so (.store 1 (.t 17) (.t 15))])
 (.seq
 (.seq
 (.reg [mv 18 1,rg 19 (.len (.t 18)),rg 20 (.mov (.c (.i .i64 0)))])
 (.lp 0 (.norm false [0,4,5,18,19,20]) l473_0 (.norm false [0,4,5])))
 (.seq
 (.reg [mv 71 0,rg 72 (.nilc (.t 71)),rg 73 (.fad 8 (.t 72)),rg 74 (.load none (.t 73)),rg 75 (.iad 3 (.t 74) (.c (.i .i64 0))),rg 76 (.load (some 3) (.t 75)),rg 77 (.build [(.i .i64 0),(.i .i64 0),(.i .i64 0),(.i .i64 0)] []),so (.store 3 (.t 4) (.t 76)),so (.store 4 (.t 5) (.t 77))])
 (.pre (.norm false [4,5]) .ret)))))
def b462:AX:=
 (.seq
 (.reg [rg 5 (.xop (.box 5) [(.t 1)]),rg 8 (.alloc [(.b false),(.sl [] .nl),(.sl [] .nl)]),rg 9 (.alloc [(.i .i64 0),(.i .i64 0),(.i .i64 0),(.i .i64 0)])])
 (.seq
 (.seq
 (.reg [mv 12 0,rg 13 (.fad 3 (.t 5)),rg 14 (.load none (.t 13)),rg 15 (.len (.t 14)),rg 16 (.fad 4 (.t 5)),rg 17 (.load none (.t 16)),rg 18 (.len (.t 17)),mv 19 2,rg 20 (.len (.t 19)),rg 21 (.call 46 [(.t 12),(.t 15),(.t 18),(.t 20)]),mv 10 21])
 (.seq
 (.reg [mv 22 10,rg 23 (.bin .geq (.t 22) (.c (.i .i64 0)))])
 (.cond (.t 23)
 (.seq
 (.reg [rg 24 (.call 205 [(.c (.i .i64 0))]),mv 25 10,rg 26 (.build [(.i .i64 0),(.i .i64 0),(.i .i64 0),(.i .i64 0)] [(0,1,(.c (.i .i64 2))),(3,1,(.t 25))]),so (.store 3 (.t 8) (.t 24)),so (.store 4 (.t 9) (.t 26))])
 (.pre (.norm false [8,9]) .ret))
 .skip)))
 (.seq
 (.reg [rg 27 (.load (some 5) (.t 5)),rg 28 (.call 405 [(.t 27)]),mv 29 2,rg 30 (.call 420 [(.t 29)]),mv 31 3,rg 32 (.call 406 [(.t 31)]),rg 33 (.build [(.b false),(.sl [] .nl),(.sl [] .nl),(.sl [] .nl),(.sl [] .nl),(.sl [] .nl),(.raw (.pointer none)),(.i .i64 0),(.sl [] .nl)] [(0,5,(.t 28)),(5,1,(.t 30)),(6,1,(.t 32))]),rg 34 (.xop (.box 9) [(.t 33)]),mv 11 34])
 (.seq
 (.pre (.fld 11 0 8 3) (.reg [mv 35 11,mv 36 0,rg 37 (.call 473 [(.t 35),(.t 36)]),rg 38 (.ext (.t 37) 0),rg 39 (.ext (.t 37) 1),so (.store 3 (.t 8) (.t 38)),so (.store 4 (.t 9) (.t 39))]))
 (.pre (.norm false [8,9]) .ret)))))
def l467_0:AX:=
 (.note
 (.seq
 (.reg [rg 41 (.bin .lss (.t 40) (.t 39))])
 (.seq
 (.cond (.t 41)
 .skip
 (.exit 0))
 (.seq
 (.block 1
 (.seq
 (.reg [rg 42 (.iad 2 (.t 38) (.t 40)),rg 43 (.load (some 2) (.t 42)),rg 11 (.alloc [(.s []),(.sl [] .nl)]),so (.store 2 (.t 11) (.t 43))])
 (.seq
 (.reg [mv 45 9,rg 46 (.fad 1 (.t 11)),rg 47 (.load none (.t 46)),rg 48 (.call 473 [(.t 45),(.t 47)]),mv 44 48,rg 49 (.ext (.t 44) 0),rg 50 (.ext (.t 44) 1),rg 12 (.alloc [(.b false),(.sl [] .nl),(.sl [] .nl)]),rg 13 (.alloc [(.i .i64 0),(.i .i64 0),(.i .i64 0),(.i .i64 0)]),so (.store 3 (.t 12) (.t 49)),so (.store 4 (.t 13) (.t 50))])
 (.seq
 (.seq
 (.reg [rg 51 (.load (some 4) (.t 13)),rg 52 (.build [(.i .i64 0),(.i .i64 0),(.i .i64 0),(.i .i64 0)] []),rg 53 (.eqs true [(0,.int),(1,.int),(2,.int),(3,.int)] (.t 51) (.t 52))])
 (.cond (.t 53)
 (.seq
 (.drawT [rg 54 (.load (some 4) (.t 13)),rg 6 (.mov (.c (.sl [] .nl)))]
 [so (.store 4 (.t 7) (.t 54))])
 (.pre (.norm false [6,7]) .ret))
 .skip))
 (.draw [⟨mv 55 9,0,1⟩,⟨mv 56 9,0,0⟩,⟨rg 57 (.nilc (.t 56)),0,0⟩,⟨rg 58 (.fad 5 (.t 57)),0,0⟩,⟨rg 59 (.load none (.t 58)),0,0⟩,⟨rg 60 (.load (some 3) (.t 12)),0,0⟩,⟨rg 61 (.bsl 3 [(.b false),(.sl [] .nl),(.sl [] .nl)] 1 [(0,(.t 60))]),0,0⟩,⟨rg 62 (.app 3 (.t 59) (.t 61)),0,1⟩,⟨rg 63 (.nilc (.t 55)),1,1⟩,⟨rg 64 (.fad 5 (.t 63)),1,1⟩,⟨so (.store 1 (.t 64) (.t 62)),1,2⟩])))))
 (.reg [rg 65 (.bin .add (.t 40) (.c (.i .i64 1))),mv 40 65]))))
 (.norm false [3,7,9,38,39,40]))
def l467_1:AX:=
 (.note
 (.seq
 (.reg [rg 70 (.bin .lss (.t 69) (.t 68))])
 (.seq
 (.cond (.t 70)
 .skip
 (.exit 2))
 (.seq
 (.block 3
 (.seq
 (.reg [rg 71 (.iad 1 (.t 67) (.t 69)),rg 72 (.load none (.t 71)),mv 16 72])
 (.seq
 (.reg [mv 74 9,mv 75 16,rg 76 (.call 473 [(.t 74),(.t 75)]),mv 73 76,rg 77 (.ext (.t 73) 0),rg 78 (.ext (.t 73) 1),rg 17 (.alloc [(.b false),(.sl [] .nl),(.sl [] .nl)]),rg 18 (.alloc [(.i .i64 0),(.i .i64 0),(.i .i64 0),(.i .i64 0)]),so (.store 3 (.t 17) (.t 77)),so (.store 4 (.t 18) (.t 78))])
 (.seq
 (.seq
 (.reg [rg 79 (.load (some 4) (.t 18)),rg 80 (.build [(.i .i64 0),(.i .i64 0),(.i .i64 0),(.i .i64 0)] []),rg 81 (.eqs true [(0,.int),(1,.int),(2,.int),(3,.int)] (.t 79) (.t 80))])
 (.cond (.t 81)
 (.seq
 (.drawT [rg 82 (.load (some 4) (.t 18)),rg 6 (.mov (.c (.sl [] .nl)))]
 [so (.store 4 (.t 7) (.t 82))])
 (.pre (.norm false [6,7]) .ret))
 .skip))
 (.reg [mv 83 14,rg 84 (.load (some 3) (.t 17)),rg 85 (.bsl 3 [(.b false),(.sl [] .nl),(.sl [] .nl)] 1 [(0,(.t 84))]),rg 86 (.app 3 (.t 83) (.t 85)),mv 14 86])))))
 (.reg [rg 87 (.bin .add (.t 69) (.c (.i .i64 1))),mv 69 87]))))
 (.norm false [7,9,14,67,68,69]))
def b467:AX:=
 (.seq
 (.reg [rg 3 (.xop (.box 2) [(.t 0)]),rg 4 (.xop (.box 5) [(.t 1)]),rg 6 (.mov (.c (.sl [] .nl))),rg 7 (.alloc [(.i .i64 0),(.i .i64 0),(.i .i64 0),(.i .i64 0)])])
 (.seq
 (.seq
 (.reg [rg 19 (.load (some 2) (.t 3)),rg 20 (.fad 3 (.t 4)),rg 21 (.load none (.t 20)),rg 22 (.len (.t 21)),rg 23 (.fad 4 (.t 4)),rg 24 (.load none (.t 23)),rg 25 (.len (.t 24)),rg 26 (.call 477 [(.t 19),(.t 22),(.t 25)]),rg 8 (.alloc [(.i .i64 0),(.i .i64 0),(.i .i64 0),(.i .i64 0)]),so (.store 4 (.t 8) (.t 26))])
 (.seq
 (.reg [rg 27 (.load (some 4) (.t 8)),rg 28 (.build [(.i .i64 0),(.i .i64 0),(.i .i64 0),(.i .i64 0)] []),rg 29 (.eqs true [(0,.int),(1,.int),(2,.int),(3,.int)] (.t 27) (.t 28))])
 (.cond (.t 29)
 (.seq
 (.drawT [rg 30 (.load (some 4) (.t 8)),rg 6 (.mov (.c (.sl [] .nl)))]
 [so (.store 4 (.t 7) (.t 30))])
 (.pre (.norm false [6,7]) .ret))
 .skip)))
 (.seq
 (.reg [rg 31 (.load (some 5) (.t 4)),rg 32 (.call 405 [(.t 31)]),mv 33 2,rg 34 (.call 406 [(.t 33)]),rg 35 (.build [(.b false),(.sl [] .nl),(.sl [] .nl),(.sl [] .nl),(.sl [] .nl),(.sl [] .nl),(.raw (.pointer none)),(.i .i64 0),(.sl [] .nl)] [(0,5,(.t 32)),(6,1,(.t 34))]),rg 36 (.xop (.box 9) [(.t 35)]),mv 9 36])
 (.seq
 (.seq
 (.reg [rg 37 (.fad 0 (.t 3)),rg 38 (.load none (.t 37)),rg 39 (.len (.t 38)),rg 40 (.mov (.c (.i .i64 0)))])
 (.pre (.fld 9 0 5 3) (.pre (.fld 9 0 8 3) (.lp 0 (.norm false [3,7,9,38,39,40]) l467_0 (.norm false [3,7,9])))))
 (.seq
 (.note (.reg [rg 14 (.mov (.c (.sl [] .nl)))]) (.nil 14 3))
 (.seq
 (.seq
 (.reg [rg 66 (.fad 1 (.t 3)),rg 67 (.load none (.t 66)),rg 68 (.len (.t 67)),rg 69 (.mov (.c (.i .i64 0)))])
 (.lp 2 (.norm false [7,9,14,67,68,69]) l467_1 (.norm false [7,14])))
 (.seq
 (.reg [mv 88 14,rg 89 (.build [(.i .i64 0),(.i .i64 0),(.i .i64 0),(.i .i64 0)] []),mv 6 88,so (.store 4 (.t 7) (.t 89))])
 (.pre (.norm false [6,7]) .ret))))))))
def row490:AFx:=⟨1,28,[.cell 2 (some 3)],b490,(some [true]),false⟩
def row489:AFx:=⟨2,57,[.cell 4 (some 3)],b489,(some [true,false]),false⟩
def row484:AFx:=⟨2,58,[.cell 4 (some 3),.t 5],b484,(some [true,false]),false⟩
def row473:AFx:=⟨2,78,[.cell 4 (some 3),.cell 5 (some 4)],b473,(some [true,false]),false⟩
def row462:AFx:=⟨4,40,[.cell 8 (some 3),.cell 9 (some 4)],b462,none,false⟩
def row467:AFx:=⟨3,90,[.t 6,.cell 7 (some 4)],b467,none,false⟩
class Zy (T:Tbl):Prop where
 h490:T 490=some row490
 h489:T 489=some row489
 h484:T 484=some row484
 h473:T 473=some row473
 h462:T 462=some row462
 h467:T 467=some row467
section
variable{T:Tbl}[Zy T]{d:Option Nat}{st:St}{xs:List AV}{ps:List Opd}{e:Env}{h:Heap}{ol:List Heap}
@[simp] theorem x490:Zc (orc T) T 490 xs d st=cL T 490 false [true] xs d st:=zap Zy.h490
@[simp] theorem x489:Zc (orc T) T 489 xs d st=cL T 489 false [true,false] xs d st:=zap Zy.h489
@[simp] theorem x484:Zc (orc T) T 484 xs d st=cL T 484 false [true,false] xs d st:=zap Zy.h484
@[simp] theorem x473:Zc (orc T) T 473 xs d st=cL T 473 false [true,false] xs d st:=zap Zy.h473
@[simp] theorem x462:Zc (orc T) T 462 xs d st=cP T 462 false xs d st:=zaa Zy.h462
@[simp] theorem y467:opD (orc T) T (.call 467 ps) e h ol=dP T 467 false ps e:=zal Zy.h467
end
def b380:AX:=
 (.seq
 (.reg [rg 3 (.xop (.box 5) [(.t 0)]),rg 6 (.mov (.c (.b false)))])
 (.seq
 (.reg [rg 7 (.fad 0 (.t 3)),rg 8 (.load (some 3) (.t 7)),mv 9 2,rg 10 (.call 247 [(.t 8),(.t 9)]),mv 11 10,gd 12 11 false (.fad 3 (.t 3)),gd 13 11 false (.load none (.t 12)),gd 14 11 false (.mov (.t 1)),gd 15 11 false (.mov (.t 2)),gd 16 11 false (.call 286 [(.t 13),(.t 14),(.t 15)]),rg 17 (.pick (.t 11) (.c (.b true)) (.t 16)),mv 18 17,gd 19 18 false (.fad 4 (.t 3)),gd 20 18 false (.load none (.t 19)),gd 21 18 false (.mov (.t 1)),gd 22 18 false (.mov (.t 2)),gd 23 18 false (.call 286 [(.t 20),(.t 21),(.t 22)]),rg 24 (.pick (.t 18) (.c (.b true)) (.t 23)),mv 6 24])
 (.pre (.norm false [6]) .ret)))
def b383:AX:=
 (.seq
 (.reg [rg 1 (.xop (.box 5) [(.t 0)]),rg 2 (.alloc [(.b false),(.sl [] .nl),(.sl [] .nl),(.sl [] .nl),(.sl [] .nl)])])
 (.seq
 (.drawT [rg 3 (.fad 0 (.t 1)),rg 4 (.load (some 3) (.t 3)),rg 5 (.call 248 [(.t 4)]),rg 6 (.fad 3 (.t 1)),rg 7 (.load none (.t 6)),rg 8 (.call 287 [(.t 7)]),rg 9 (.fad 4 (.t 1)),rg 10 (.load none (.t 9))]
 [rg 11 (.call 287 [(.t 10)]),rg 12 (.build [(.b false),(.sl [] .nl),(.sl [] .nl),(.sl [] .nl),(.sl [] .nl)] [(0,3,(.t 5)),(3,1,(.t 8)),(4,1,(.t 11))]),so (.store 5 (.t 2) (.t 12))])
 (.pre (.norm false [2]) .ret)))
def row380:AFx:=⟨3,25,[.t 6],b380,none,false⟩
def row383:AFx:=⟨1,13,[.cell 2 (some 5)],b383,none,false⟩
class Zd2 (T:Tbl):Prop where
 h380:T 380=some row380
 h383:T 383=some row383
section
variable{T:Tbl}[Zd2 T]{d:Option Nat}{st:St}{xs:List AV}{ps:List Opd}{e:Env}{h:Heap}{ol:List Heap}
@[simp] theorem x380:Zc (orc T) T 380 xs d st=cP T 380 false xs d st:=zaa Zd2.h380
@[simp] theorem y383:opD (orc T) T (.call 383 ps) e h ol=dP T 383 false ps e:=zal Zd2.h383
end
def b129:AX:=
 (.seq
 (.reg [rg 2 (.mov (.c (.i .i64 0)))])
 (.seq
 (.reg [mv 3 0,rg 4 (.call 68 [(.t 3)]),rg 5 (.lens (.t 4)),mv 2 5])
 (.pre (.norm false [2]) .ret)))
def row129:AFx:=⟨1,6,[.t 2],b129,none,false⟩
class Zb7 (T:Tbl):Prop where
 h129:T 129=some row129
section
variable{T:Tbl}[Zb7 T]{d:Option Nat}{st:St}{xs:List AV}{ps:List Opd}{e:Env}{h:Heap}{ol:List Heap}
@[simp] theorem x129:Zc (orc T) T 129 xs d st=cP T 129 false xs d st:=zaa Zb7.h129
end
def b76:AX:=
 (.seq
 (.reg [rg 2 (.mov (.c (.i .i64 0)))])
 (.seq
 (.seq
 (.reg [mv 3 0])
 (.block 0
 (.seq
 (.seq
 (.reg [rg 5 (.bin .eql (.t 3) (.c (.i .i64 1))),mv 4 5])
 (.cond (.t 4)
 .skip
 (.seq
 (.reg [rg 6 (.bin .eql (.t 3) (.c (.i .i64 2))),mv 4 6])
 (.cond (.t 4)
 .skip
 (.seq
 (.reg [rg 7 (.bin .eql (.t 3) (.c (.i .i64 3))),mv 4 7])
 (.cond (.t 4)
 .skip
 (.seq
 (.reg [rg 8 (.bin .eql (.t 3) (.c (.i .i64 4))),mv 4 8])
 (.cond (.t 4)
 .skip
 (.reg [rg 9 (.bin .eql (.t 3) (.c (.i .i64 5))),mv 4 9])))))))))
 (.cond (.t 4)
 (.seq
 (.reg [rg 2 (.mov (.c (.i .i64 0)))])
 (.pre (.norm false [2]) .ret))
 (.seq
 (.seq
 (.reg [rg 11 (.bin .eql (.t 3) (.c (.i .i64 6))),mv 10 11])
 (.cond (.t 10)
 .skip
 (.reg [rg 12 (.bin .eql (.t 3) (.c (.i .i64 11))),mv 10 12])))
 (.cond (.t 10)
 (.seq
 (.reg [rg 2 (.mov (.c (.i .i64 1)))])
 (.pre (.norm false [2]) .ret))
 (.seq
 (.seq
 (.reg [rg 14 (.bin .eql (.t 3) (.c (.i .i64 7))),mv 13 14])
 (.cond (.t 13)
 .skip
 (.seq
 (.reg [rg 15 (.bin .eql (.t 3) (.c (.i .i64 8))),mv 13 15])
 (.cond (.t 13)
 .skip
 (.seq
 (.reg [rg 16 (.bin .eql (.t 3) (.c (.i .i64 9))),mv 13 16])
 (.cond (.t 13)
 .skip
 (.reg [rg 17 (.bin .eql (.t 3) (.c (.i .i64 10))),mv 13 17])))))))
 (.cond (.t 13)
 (.seq
 (.reg [rg 2 (.mov (.c (.i .i64 2)))])
 (.pre (.norm false [2]) .ret))
 .skip))))))))
 (.seq
 (.reg [rg 2 (.mov (.c (.i .i64 (-1))))])
 (.pre (.norm false [2]) .ret))))
def l74_0:AX:=
 (.note
 (.seq
 (.reg [rg 10 (.bin .lss (.t 9) (.t 8))])
 (.seq
 (.cond (.t 10)
 .skip
 (.exit 0))
 (.seq
 (.block 1
 (.seq
 (.reg [mv 11 9,rg 12 (.iad 3 (.t 7) (.t 9)),rg 13 (.load (some 3) (.t 12)),rg 5 (.alloc [(.i .i64 0),(.i .i64 0),(.sl [] .nl)]),mv 4 11,so (.store 3 (.t 5) (.t 13))])
 (.seq
 (.reg [rg 14 (.fad 0 (.t 5)),rg 15 (.load none (.t 14)),rg 16 (.call 76 [(.t 15)]),mv 6 16])
 (.seq
 (.seq
 (.reg [mv 17 6,rg 18 (.bin .lss (.t 17) (.c (.i .i64 0))),mv 19 18,gd 20 19 false (.mov (.t 6)),gd 21 19 false (.mov (.t 3)),gd 22 19 false (.bin .gtr (.t 20) (.t 21)),rg 23 (.pick (.t 19) (.c (.b true)) (.t 22))])
 (.cond (.t 23)
 (.seq
 (.reg [mv 24 4,mv 2 24])
 (.pre (.norm false [2]) .ret))
 .skip))
 (.reg [mv 25 3,mv 26 6,rg 27 (.bin .sub (.c (.i .i64 1)) (.t 26)),rg 28 (.bin .add (.t 25) (.t 27)),mv 3 28])))))
 (.reg [rg 29 (.bin .add (.t 9) (.c (.i .i64 1))),mv 9 29]))))
 (.norm false [0,3,7,8,9]))
def b74:AX:=
 (.seq
 (.reg [rg 2 (.mov (.c (.i .i64 0)))])
 (.seq
 (.reg [rg 3 (.mov (.c (.i .i64 0)))])
 (.seq
 (.seq
 (.reg [mv 7 0,rg 8 (.len (.t 7)),rg 9 (.mov (.c (.i .i64 0)))])
 (.lp 0 (.norm false [0,3,7,8,9]) l74_0 (.norm false [0,3])))
 (.seq
 (.seq
 (.reg [mv 30 3,rg 31 (.bin .neq (.t 30) (.c (.i .i64 1)))])
 (.cond (.t 31)
 (.seq
 (.reg [mv 32 0,rg 33 (.len (.t 32)),mv 2 33])
 (.pre (.norm false [2]) .ret))
 .skip))
 (.seq
 (.reg [rg 2 (.mov (.c (.i .i64 (-1))))])
 (.pre (.norm false [2]) .ret))))))
def b44:AX:=
 (.seq
 (.reg [rg 2 (.mov (.c (.b false)))])
 (.seq
 (.reg [mv 3 0,rg 4 (.call 74 [(.t 3)]),rg 5 (.bin .lss (.t 4) (.c (.i .i64 0))),mv 2 5])
 (.pre (.norm false [2]) .ret)))
def b108:AX:=
 (.seq
 (.reg [rg 4 (.mov (.c (.b false)))])
 (.seq
 (.reg [mv 5 0,rg 6 (.bin .geq (.t 5) (.c (.i .i64 0))),mv 7 6,gd 8 7 true (.mov (.t 0)),gd 9 7 true (.mov (.t 1)),gd 10 7 true (.bin .lss (.t 8) (.t 9)),rg 11 (.pick (.t 7) (.t 10) (.c (.b false))),mv 4 11])
 (.pre (.norm false [4]) .ret)))
def b107:AX:=
 (.seq
 (.reg [rg 2 (.mov (.c (.b false)))])
 (.seq
 (.reg [mv 3 0,rg 4 (.call 71 [(.t 3)]),rg 5 (.len (.t 4)),mv 6 0,rg 7 (.len (.t 6)),rg 8 (.bin .eql (.t 5) (.t 7)),mv 9 8,gd 10 9 true (.mov (.t 0)),gd 11 9 true (.call 129 [(.t 10)]),gd 12 9 true (.bin .leq (.t 11) (.c (.i .i64 60))),rg 13 (.pick (.t 9) (.t 12) (.c (.b false))),mv 2 13])
 (.pre (.norm false [2]) .ret)))
def b75:AX:=
 (.seq
 (.reg [rg 4 (.xop (.box 3) [(.t 0)]),rg 8 (.mov (.c (.b false)))])
 (.seq
 (.seq
 (.reg [rg 9 (.fad 0 (.t 4)),rg 10 (.load none (.t 9)),rg 11 (.bin .neq (.t 10) (.c (.i .i64 1))),mv 12 11,gd 13 12 true (.fad 2 (.t 4)),gd 14 12 true (.load none (.t 13)),gd 15 12 true (.len (.t 14)),gd 16 12 true (.bin .gtr (.t 15) (.c (.i .i64 0))),rg 17 (.pick (.t 12) (.t 16) (.c (.b false)))])
 (.cond (.t 17)
 (.seq
 (.reg [rg 8 (.mov (.c (.b false)))])
 (.pre (.norm false [8]) .ret))
 .skip))
 (.seq
 (.seq
 (.reg [rg 18 (.fad 0 (.t 4)),rg 19 (.load none (.t 18))])
 (.block 0
 (.seq
 (.reg [rg 21 (.bin .eql (.t 19) (.c (.i .i64 1))),mv 20 21])
 (.cond (.t 20)
 (.seq
 (.reg [rg 22 (.fad 1 (.t 4)),rg 23 (.load none (.t 22)),rg 24 (.bin .eql (.t 23) (.c (.i .i64 0))),mv 25 24,gd 26 25 true (.fad 2 (.t 4)),gd 27 25 true (.load none (.t 26)),gd 28 25 true (.call 107 [(.t 27)]),rg 29 (.pick (.t 25) (.t 28) (.c (.b false))),mv 8 29])
 (.pre (.norm false [8]) .ret))
 (.seq
 (.reg [rg 31 (.bin .eql (.t 19) (.c (.i .i64 3))),mv 30 31])
 (.cond (.t 30)
 (.seq
 (.reg [rg 32 (.fad 1 (.t 4)),rg 33 (.load none (.t 32)),mv 34 1,rg 35 (.call 108 [(.t 33),(.t 34)]),mv 8 35])
 (.pre (.norm false [8]) .ret))
 (.seq
 (.reg [rg 37 (.bin .eql (.t 19) (.c (.i .i64 4))),mv 36 37])
 (.cond (.t 36)
 (.seq
 (.reg [rg 38 (.fad 1 (.t 4)),rg 39 (.load none (.t 38)),mv 40 2,rg 41 (.call 108 [(.t 39),(.t 40)]),mv 8 41])
 (.pre (.norm false [8]) .ret))
 (.seq
 (.reg [rg 43 (.bin .eql (.t 19) (.c (.i .i64 5))),mv 42 43])
 (.cond (.t 42)
 (.seq
 (.reg [rg 44 (.fad 1 (.t 4)),rg 45 (.load none (.t 44)),mv 46 3,rg 47 (.call 108 [(.t 45),(.t 46)]),mv 8 47])
 (.pre (.norm false [8]) .ret))
 (.seq
 (.reg [rg 49 (.bin .eql (.t 19) (.c (.i .i64 11))),mv 48 49])
 (.cond (.t 48)
 (.seq
 (.reg [rg 50 (.fad 1 (.t 4)),rg 51 (.load none (.t 50)),rg 52 (.bin .geq (.t 51) (.c (.i .i64 (-8)))),mv 53 52,gd 54 53 true (.fad 1 (.t 4)),gd 55 53 true (.load none (.t 54)),gd 56 53 true (.bin .leq (.t 55) (.c (.i .i64 8))),rg 57 (.pick (.t 53) (.t 56) (.c (.b false))),mv 8 57])
 (.pre (.norm false [8]) .ret))
 .skip))))))))))))
 (.seq
 (.reg [rg 58 (.fad 1 (.t 4)),rg 59 (.load none (.t 58)),rg 60 (.bin .eql (.t 59) (.c (.i .i64 0))),mv 61 60,gd 62 61 true (.fad 0 (.t 4)),gd 63 61 true (.load none (.t 62)),gd 64 61 true (.call 76 [(.t 63)]),gd 65 61 true (.bin .geq (.t 64) (.c (.i .i64 0))),rg 66 (.pick (.t 61) (.t 65) (.c (.b false))),mv 8 66])
 (.pre (.norm false [8]) .ret)))))
def l46_0:AX:=
 (.note
 (.seq
 (.reg [rg 17 (.bin .lss (.t 16) (.t 15))])
 (.seq
 (.cond (.t 17)
 .skip
 (.exit 0))
 (.seq
 (.block 1
 (.seq
 (.reg [mv 18 16,rg 19 (.iad 3 (.t 14) (.t 16)),rg 20 (.load (some 3) (.t 19)),rg 11 (.alloc [(.i .i64 0),(.i .i64 0),(.sl [] .nl)]),mv 10 18,so (.store 3 (.t 11) (.t 20))])
 (.seq
 (.reg [mv 21 10,mv 22 9,rg 23 (.bin .eql (.t 21) (.t 22)),mv 24 23,gd 25 24 false (.load (some 3) (.t 11)),gd 26 24 false (.mov (.t 1)),gd 27 24 false (.mov (.t 2)),gd 28 24 false (.mov (.t 3)),gd 29 24 false (.call 75 [(.t 25),(.t 26),(.t 27),(.t 28)]),gd 30 24 false (.un .not (.t 29)),rg 31 (.pick (.t 24) (.c (.b true)) (.t 30))])
 (.cond (.t 31)
 (.seq
 (.reg [mv 32 10,mv 8 32])
 (.pre (.norm false [8]) .ret))
 .skip))))
 (.reg [rg 33 (.bin .add (.t 16) (.c (.i .i64 1))),mv 16 33]))))
 (.norm false [1,2,3,9,14,15,16]))
def b46:AX:=
 (.seq
 (.reg [rg 8 (.mov (.c (.i .i64 0)))])
 (.seq
 (.reg [mv 12 0,rg 13 (.call 74 [(.t 12)]),mv 9 13])
 (.seq
 (.seq
 (.reg [mv 14 0,rg 15 (.len (.t 14)),rg 16 (.mov (.c (.i .i64 0)))])
 (.lp 0 (.norm false [1,2,3,9,14,15,16]) l46_0 (.norm false [9])))
 (.seq
 (.reg [mv 34 9,mv 8 34])
 (.pre (.norm false [8]) .ret)))))
def row76:AFx:=⟨1,18,[.t 2],b76,none,false⟩
def row74:AFx:=⟨1,34,[.t 2],b74,none,false⟩
def row44:AFx:=⟨1,6,[.t 2],b44,none,false⟩
def row108:AFx:=⟨2,12,[.t 4],b108,none,false⟩
def row107:AFx:=⟨1,14,[.t 2],b107,none,false⟩
def row75:AFx:=⟨4,67,[.t 8],b75,none,false⟩
def row46:AFx:=⟨4,35,[.t 8],b46,none,false⟩
class Zaq (T:Tbl):Prop where
 h76:T 76=some row76
 h74:T 74=some row74
 h44:T 44=some row44
 h108:T 108=some row108
 h107:T 107=some row107
 h75:T 75=some row75
 h46:T 46=some row46
section
variable{T:Tbl}[Zaq T]{d:Option Nat}{st:St}{xs:List AV}{ps:List Opd}{e:Env}{h:Heap}{ol:List Heap}
@[simp] theorem x76:Zc (orc T) T 76 xs d st=cP T 76 false xs d st:=zaa Zaq.h76
@[simp] theorem x74:Zc (orc T) T 74 xs d st=cP T 74 false xs d st:=zaa Zaq.h74
@[simp] theorem x44:Zc (orc T) T 44 xs d st=cP T 44 false xs d st:=zaa Zaq.h44
@[simp] theorem x108:Zc (orc T) T 108 xs d st=cP T 108 false xs d st:=zaa Zaq.h108
@[simp] theorem x107:Zc (orc T) T 107 xs d st=cP T 107 false xs d st:=zaa Zaq.h107
@[simp] theorem x75:Zc (orc T) T 75 xs d st=cP T 75 false xs d st:=zaa Zaq.h75
@[simp] theorem x46:Zc (orc T) T 46 xs d st=cP T 46 false xs d st:=zaa Zaq.h46
end
def b113:AX:=
 (.seq
 (.reg [rg 2 (.mov (.c (.i .i64 0)))])
 (.seq
 (.seq
 (.reg [mv 3 0,rg 4 (.bin .geq (.t 3) (.c (.i .i64 1))),mv 5 4,gd 6 5 true (.mov (.t 0)),gd 7 5 true (.bin .leq (.t 6) (.c (.i .i64 5))),rg 8 (.pick (.t 5) (.t 7) (.c (.b false)))])
 (.cond (.t 8)
 (.seq
 (.reg [rg 2 (.mov (.c (.i .i64 0)))])
 (.pre (.norm false [2]) .ret))
 .skip))
 (.seq
 (.seq
 (.reg [mv 9 0,rg 10 (.bin .eql (.t 9) (.c (.i .i64 6))),mv 11 10,gd 12 11 false (.mov (.t 0)),gd 13 11 false (.bin .eql (.t 12) (.c (.i .i64 11))),rg 14 (.pick (.t 11) (.c (.b true)) (.t 13))])
 (.cond (.t 14)
 (.seq
 (.reg [rg 2 (.mov (.c (.i .i64 1)))])
 (.pre (.norm false [2]) .ret))
 .skip))
 (.seq
 (.seq
 (.reg [mv 15 0,rg 16 (.bin .geq (.t 15) (.c (.i .i64 7))),mv 17 16,gd 18 17 true (.mov (.t 0)),gd 19 17 true (.bin .leq (.t 18) (.c (.i .i64 10))),rg 20 (.pick (.t 17) (.t 19) (.c (.b false)))])
 (.cond (.t 20)
 (.seq
 (.reg [rg 2 (.mov (.c (.i .i64 2)))])
 (.pre (.norm false [2]) .ret))
 .skip))
 (.seq
 (.reg [rg 2 (.mov (.c (.i .i64 (-1))))])
 (.pre (.norm false [2]) .ret))))))
def l80_0:AX:=
 (.note
 (.seq
 (.seq
 (.reg [mv 6 4,mv 7 0,rg 8 (.len (.t 7)),rg 9 (.bin .lss (.t 6) (.t 8))])
 (.cond (.t 9)
 .skip
 (.exit 0)))
 (.seq
 (.block 1
 (.seq
 (.reg [mv 12 0,mv 13 4,rg 14 (.iad 3 (.t 12) (.t 13)),rg 15 (.fad 0 (.t 14)),rg 16 (.load none (.t 15)),rg 17 (.call 113 [(.t 16)]),mv 5 17])
 (.seq
 (.seq
 (.reg [mv 18 5,rg 19 (.bin .lss (.t 18) (.c (.i .i64 0))),mv 20 19,gd 21 20 false (.mov (.t 3)),gd 22 20 false (.mov (.t 5)),gd 23 20 false (.bin .lss (.t 21) (.t 22)),rg 24 (.pick (.t 20) (.c (.b true)) (.t 23))])
 (.cond (.t 24)
 (.seq
 (.reg [mv 25 4,mv 2 25])
 (.pre (.norm false [2]) .ret))
 .skip))
 (.reg [mv 26 3,mv 27 5,rg 28 (.bin .sub (.t 26) (.t 27)),rg 29 (.bin .add (.t 28) (.c (.i .i64 1))),mv 3 29]))))
 (.reg [mv 10 4,rg 11 (.bin .add (.t 10) (.c (.i .i64 1))),mv 4 11])))
 (.norm false [0,3,4]))
def b80:AX:=
 (.seq
 (.reg [rg 2 (.mov (.c (.i .i64 0)))])
 (.seq
 (.reg [rg 3 (.mov (.c (.i .i64 0)))])
 (.seq
 (.seq
 (.reg [rg 4 (.mov (.c (.i .i64 0)))])
 (.lp 0 (.norm false [0,3,4]) l80_0 (.norm false [0,3])))
 (.seq
 (.seq
 (.reg [mv 30 3,rg 31 (.bin .eql (.t 30) (.c (.i .i64 1)))])
 (.cond (.t 31)
 (.seq
 (.reg [rg 2 (.mov (.c (.i .i64 (-1))))])
 (.pre (.norm false [2]) .ret))
 .skip))
 (.seq
 (.reg [mv 32 0,rg 33 (.len (.t 32)),mv 2 33])
 (.pre (.norm false [2]) .ret))))))
def l114_0:AX:=
 (.note
 (.seq
 (.seq
 (.reg [mv 18 8,rg 19 (.bin .gtr (.t 18) (.c (.i .i64 0)))])
 (.cond (.t 19)
 .skip
 (.exit 0)))
 (.seq
 (.block 1
 (.seq
 (.reg [mv 23 0,mv 24 7,rg 25 (.bin .sub (.t 24) (.c (.i .i64 1))),rg 26 (.call 114 [(.t 23),(.t 25)]),mv 22 26,rg 27 (.ext (.t 22) 0),rg 28 (.ext (.t 22) 1),mv 9 27,mv 10 28])
 (.seq
 (.reg [mv 29 6,mv 30 9,rg 31 (.mm true [(.t 29),(.t 30)]),mv 6 31])
 (.reg [mv 32 10,mv 7 32]))))
 (.reg [mv 20 8,rg 21 (.bin .sub (.t 20) (.c (.i .i64 1))),mv 8 21])))
 (.norm false [0,6,7,8]))
def b114:AX:=
 (.seq
 (.reg [rg 4 (.mov (.c (.i .i64 0))),rg 5 (.mov (.c (.i .i64 0)))])
 (.seq
 (.reg [rg 6 (.mov (.c (.i .i64 0)))])
 (.seq
 (.reg [mv 11 1,mv 7 11])
 (.seq
 (.seq
 (.reg [mv 12 0,mv 13 1,rg 14 (.iad 3 (.t 12) (.t 13)),rg 15 (.fad 0 (.t 14)),rg 16 (.load none (.t 15)),rg 17 (.call 113 [(.t 16)]),mv 8 17])
 (.lp 0 (.norm false [0,6,7,8]) l114_0 (.norm false [6,7])))
 (.seq
 (.reg [mv 33 6,rg 34 (.bin .add (.t 33) (.c (.i .i64 1))),mv 35 7,mv 4 34,mv 5 35])
 (.pre (.norm false [4,5]) .ret))))))
def l10_0:AX:=
 (.note
 (.seq
 (.seq
 (.reg [mv 8 7,mv 9 0,rg 10 (.len (.t 9)),rg 11 (.bin .lss (.t 8) (.t 10)),mv 12 11,gd 13 12 true (.mov (.t 7)),gd 14 12 true (.mov (.t 1)),gd 15 12 true (.bin .lss (.t 13) (.t 14)),rg 16 (.pick (.t 12) (.t 15) (.c (.b false)))])
 (.cond (.t 16)
 .skip
 (.exit 0)))
 (.seq
 (.block 1
 (.seq
 (.reg [mv 19 0,mv 20 7,rg 21 (.iad 3 (.t 19) (.t 20)),rg 22 (.fad 2 (.t 21)),rg 23 (.load none (.t 22)),rg 24 (.len (.t 23)),mv 25 2,rg 26 (.bin .gtr (.t 24) (.t 25))])
 (.cond (.t 26)
 (.seq
 (.reg [rg 6 (.mov (.c (.b true)))])
 (.pre (.norm false [6]) .ret))
 .skip)))
 (.reg [mv 17 7,rg 18 (.bin .add (.t 17) (.c (.i .i64 1))),mv 7 18])))
 (.norm false [0,1,2,7]))
def b10:AX:=
 (.seq
 (.reg [rg 6 (.mov (.c (.b false)))])
 (.seq
 (.seq
 (.reg [rg 7 (.mov (.c (.i .i64 0)))])
 (.lp 0 (.norm false [0,1,2,7]) l10_0 (.norm false [0,1])))
 (.seq
 (.reg [mv 27 0,rg 28 (.len (.t 27)),mv 29 1,rg 30 (.bin .gtr (.t 28) (.t 29)),mv 6 30])
 (.pre (.norm false [6]) .ret))))
def b79:AX:=
 (.seq
 (.reg [rg 4 (.xop (.box 3) [(.t 0)]),rg 8 (.mov (.c (.b false)))])
 (.seq
 (.seq
 (.reg [rg 9 (.fad 0 (.t 4)),rg 10 (.load none (.t 9)),rg 11 (.bin .eql (.t 10) (.c (.i .i64 1)))])
 (.cond (.t 11)
 (.seq
 (.drawT [rg 12 (.fad 1 (.t 4)),rg 13 (.load none (.t 12)),rg 14 (.bin .eql (.t 13) (.c (.i .i64 0))),mv 15 14,gd 16 15 true (.fad 2 (.t 4)),gd 17 15 true (.load none (.t 16)),gd 18 15 true (.call 43 [(.t 17)]),gd 19 15 true (.fad 2 (.t 4)),gd 20 15 true (.load none (.t 19))]
 [gd 21 15 true (.call 54 [(.t 18),(.t 20)]),rg 22 (.pick (.t 15) (.t 21) (.c (.b false))),mv 23 22,gd 24 23 true (.fad 2 (.t 4)),gd 25 23 true (.load none (.t 24)),gd 26 23 true (.call 69 [(.t 25)]),gd 27 23 true (.lens (.t 26)),gd 28 23 true (.bin .leq (.t 27) (.c (.i .i64 60))),rg 29 (.pick (.t 23) (.t 28) (.c (.b false))),mv 8 29])
 (.pre (.norm false [8]) .ret))
 .skip))
 (.seq
 (.seq
 (.reg [rg 30 (.fad 2 (.t 4)),rg 31 (.load none (.t 30)),rg 32 (.len (.t 31)),rg 33 (.bin .gtr (.t 32) (.c (.i .i64 0))),mv 34 33,gd 35 34 false (.fad 0 (.t 4)),gd 36 34 false (.load none (.t 35)),gd 37 34 false (.bin .lss (.t 36) (.c (.i .i64 1))),rg 38 (.pick (.t 34) (.c (.b true)) (.t 37)),mv 39 38,gd 40 39 false (.fad 0 (.t 4)),gd 41 39 false (.load none (.t 40)),gd 42 39 false (.bin .gtr (.t 41) (.c (.i .i64 11))),rg 43 (.pick (.t 39) (.c (.b true)) (.t 42))])
 (.cond (.t 43)
 (.seq
 (.reg [rg 8 (.mov (.c (.b false)))])
 (.pre (.norm false [8]) .ret))
 .skip))
 (.seq
 (.seq
 (.reg [rg 44 (.fad 0 (.t 4)),rg 45 (.load none (.t 44)),rg 46 (.bin .eql (.t 45) (.c (.i .i64 3)))])
 (.cond (.t 46)
 (.seq
 (.reg [rg 47 (.fad 1 (.t 4)),rg 48 (.load none (.t 47)),rg 49 (.bin .geq (.t 48) (.c (.i .i64 0))),mv 50 49,gd 51 50 true (.fad 1 (.t 4)),gd 52 50 true (.load none (.t 51)),gd 53 50 true (.mov (.t 1)),gd 54 50 true (.bin .lss (.t 52) (.t 53)),rg 55 (.pick (.t 50) (.t 54) (.c (.b false))),mv 8 55])
 (.pre (.norm false [8]) .ret))
 .skip))
 (.seq
 (.seq
 (.reg [rg 56 (.fad 0 (.t 4)),rg 57 (.load none (.t 56)),rg 58 (.bin .eql (.t 57) (.c (.i .i64 4)))])
 (.cond (.t 58)
 (.seq
 (.reg [rg 59 (.fad 1 (.t 4)),rg 60 (.load none (.t 59)),rg 61 (.bin .geq (.t 60) (.c (.i .i64 0))),mv 62 61,gd 63 62 true (.fad 1 (.t 4)),gd 64 62 true (.load none (.t 63)),gd 65 62 true (.mov (.t 2)),gd 66 62 true (.bin .lss (.t 64) (.t 65)),rg 67 (.pick (.t 62) (.t 66) (.c (.b false))),mv 8 67])
 (.pre (.norm false [8]) .ret))
 .skip))
 (.seq
 (.seq
 (.reg [rg 68 (.fad 0 (.t 4)),rg 69 (.load none (.t 68)),rg 70 (.bin .eql (.t 69) (.c (.i .i64 5)))])
 (.cond (.t 70)
 (.seq
 (.reg [rg 71 (.fad 1 (.t 4)),rg 72 (.load none (.t 71)),rg 73 (.bin .geq (.t 72) (.c (.i .i64 0))),mv 74 73,gd 75 74 true (.fad 1 (.t 4)),gd 76 74 true (.load none (.t 75)),gd 77 74 true (.mov (.t 3)),gd 78 74 true (.bin .lss (.t 76) (.t 77)),rg 79 (.pick (.t 74) (.t 78) (.c (.b false))),mv 8 79])
 (.pre (.norm false [8]) .ret))
 .skip))
 (.seq
 (.seq
 (.reg [rg 80 (.fad 0 (.t 4)),rg 81 (.load none (.t 80)),rg 82 (.bin .eql (.t 81) (.c (.i .i64 11)))])
 (.cond (.t 82)
 (.seq
 (.reg [rg 83 (.fad 1 (.t 4)),rg 84 (.load none (.t 83)),rg 85 (.bin .geq (.t 84) (.c (.i .i64 (-8)))),mv 86 85,gd 87 86 true (.fad 1 (.t 4)),gd 88 86 true (.load none (.t 87)),gd 89 86 true (.bin .leq (.t 88) (.c (.i .i64 8))),rg 90 (.pick (.t 86) (.t 89) (.c (.b false))),mv 8 90])
 (.pre (.norm false [8]) .ret))
 .skip))
 (.seq
 (.reg [rg 91 (.fad 1 (.t 4)),rg 92 (.load none (.t 91)),rg 93 (.bin .eql (.t 92) (.c (.i .i64 0))),mv 8 93])
 (.pre (.norm false [8]) .ret)))))))))
def l50_0:AX:=
 (.note
 (.seq
 (.seq
 (.reg [mv 13 10,mv 14 0,rg 15 (.len (.t 14)),rg 16 (.bin .lss (.t 13) (.t 15))])
 (.cond (.t 16)
 .skip
 (.exit 0)))
 (.seq
 (.block 1
 (.seq
 (.reg [mv 19 10,mv 20 9,rg 21 (.bin .eql (.t 19) (.t 20)),mv 22 21,gd 23 22 false (.mov (.t 0)),gd 24 22 false (.mov (.t 10)),gd 25 22 false (.iad 3 (.t 23) (.t 24)),gd 26 22 false (.load (some 3) (.t 25)),gd 27 22 false (.mov (.t 1)),gd 28 22 false (.mov (.t 2)),gd 29 22 false (.mov (.t 3)),gd 30 22 false (.call 79 [(.t 26),(.t 27),(.t 28),(.t 29)]),gd 31 22 false (.un .not (.t 30)),rg 32 (.pick (.t 22) (.c (.b true)) (.t 31))])
 (.cond (.t 32)
 (.seq
 (.reg [mv 33 10,mv 8 33])
 (.pre (.norm false [8]) .ret))
 .skip)))
 (.reg [mv 17 10,rg 18 (.bin .add (.t 17) (.c (.i .i64 1))),mv 10 18])))
 (.norm false [0,1,2,3,9,10]))
def b50:AX:=
 (.seq
 (.reg [rg 8 (.mov (.c (.i .i64 0)))])
 (.seq
 (.reg [mv 11 0,rg 12 (.call 80 [(.t 11)]),mv 9 12])
 (.seq
 (.seq
 (.reg [rg 10 (.mov (.c (.i .i64 0)))])
 (.lp 0 (.norm false [0,1,2,3,9,10]) l50_0 (.norm false [9])))
 (.seq
 (.reg [mv 34 9,mv 8 34])
 (.pre (.norm false [8]) .ret)))))
def row113:AFx:=⟨1,21,[.t 2],b113,none,false⟩
def row80:AFx:=⟨1,34,[.t 2],b80,none,false⟩
def row114:AFx:=⟨2,36,[.t 4,.t 5],b114,none,false⟩
def row10:AFx:=⟨3,31,[.t 6],b10,none,false⟩
def row79:AFx:=⟨4,94,[.t 8],b79,none,false⟩
def row50:AFx:=⟨4,35,[.t 8],b50,none,false⟩
class Zah (T:Tbl):Prop where
 h113:T 113=some row113
 h80:T 80=some row80
 h114:T 114=some row114
 h10:T 10=some row10
 h79:T 79=some row79
 h50:T 50=some row50
section
variable{T:Tbl}[Zah T]{d:Option Nat}{st:St}{xs:List AV}{ps:List Opd}{e:Env}{h:Heap}{ol:List Heap}
@[simp] theorem x113:Zc (orc T) T 113 xs d st=cP T 113 false xs d st:=zaa Zah.h113
@[simp] theorem x80:Zc (orc T) T 80 xs d st=cP T 80 false xs d st:=zaa Zah.h80
@[simp] theorem x114:Zc (orc T) T 114 xs d st=cP T 114 false xs d st:=zaa Zah.h114
@[simp] theorem x10:Zc (orc T) T 10 xs d st=cP T 10 false xs d st:=zaa Zah.h10
@[simp] theorem x79:Zc (orc T) T 79 xs d st=cP T 79 false xs d st:=zaa Zah.h79
@[simp] theorem x50:Zc (orc T) T 50 xs d st=cP T 50 false xs d st:=zaa Zah.h50
end
def l13_0:AX:=
 (.note
 (.seq
 (.seq
 (.reg [mv 5 4,mv 6 0,rg 7 (.len (.t 6)),rg 8 (.bin .lss (.t 5) (.t 7))])
 (.cond (.t 8)
 .skip
 (.exit 0)))
 (.seq
 (.block 1
 (.drawT [mv 11 3,mv 12 0,mv 13 4,rg 14 (.iad 3 (.t 12) (.t 13)),rg 15 (.fad 0 (.t 14)),rg 16 (.load none (.t 15)),mv 17 0,mv 18 4,rg 19 (.iad 3 (.t 17) (.t 18)),rg 20 (.fad 1 (.t 19)),rg 21 (.load none (.t 20)),mv 22 0,mv 23 4,rg 24 (.iad 3 (.t 22) (.t 23)),rg 25 (.fad 2 (.t 24)),rg 26 (.load none (.t 25)),rg 27 (.build [(.i .i64 0),(.i .i64 0),(.sl [] .nl)] [(0,1,(.t 16)),(1,1,(.t 21)),(2,1,(.t 26))]),rg 28 (.bsl 3 [(.i .i64 0),(.i .i64 0),(.sl [] .nl)] 1 [(0,(.t 27))])]
 [rg 29 (.app 3 (.t 11) (.t 28)),mv 3 29]))
 (.reg [mv 9 4,rg 10 (.bin .add (.t 9) (.c (.i .i64 1))),mv 4 10])))
 (.norm false [0,3,4]))
def b13:AX:=
 (.seq
 (.reg [rg 2 (.mov (.c (.sl [] .nl)))])
 (.seq
 (.note (.reg [rg 3 (.mov (.c (.sl [] .nl)))]) (.nil 3 3))
 (.seq
 (.seq
 (.reg [rg 4 (.mov (.c (.i .i64 0)))])
 (.lp 0 (.norm false [0,3,4]) l13_0 (.norm false [3])))
 (.seq
 (.reg [mv 30 3,mv 2 30])
 (.pre (.norm false [2]) .ret)))))
def row13:AFx:=⟨1,31,[.t 2],b13,none,false⟩
class Zd1 (T:Tbl):Prop where
 h13:T 13=some row13
section
variable{T:Tbl}[Zd1 T]{d:Option Nat}{st:St}{xs:List AV}{ps:List Opd}{e:Env}{h:Heap}{ol:List Heap}
@[simp] theorem x13:Zc (orc T) T 13 xs d st=cP T 13 false xs d st:=zaa Zd1.h13
@[simp] theorem y13:opD (orc T) T (.call 13 ps) e h ol=dP T 13 false ps e:=zal Zd1.h13
end
def l483_0:AX:=
 (.note
 (.seq
 (.reg [rg 9 (.bin .lss (.t 8) (.t 7))])
 (.seq
 (.cond (.t 9)
 .skip
 (.exit 0))
 (.seq
 (.block 1
 (.seq
 (.reg [rg 10 (.iad 3 (.t 6) (.t 8)),rg 11 (.load (some 3) (.t 10)),rg 5 (.alloc [(.i .i64 0),(.i .i64 0),(.sl [] .nl)]),so (.store 3 (.t 5) (.t 11))])
 (.drawT [mv 12 3,rg 13 (.fad 0 (.t 5)),rg 14 (.load none (.t 13)),rg 15 (.fad 1 (.t 5)),rg 16 (.load none (.t 15)),rg 17 (.fad 2 (.t 5)),rg 18 (.load none (.t 17)),rg 19 (.app 1 (.c (.sl [] .nl)) (.t 18)),rg 20 (.build [(.i .i64 0),(.i .i64 0),(.sl [] .nl)] [(0,1,(.t 14)),(1,1,(.t 16)),(2,1,(.t 19))]),rg 21 (.bsl 3 [(.i .i64 0),(.i .i64 0),(.sl [] .nl)] 1 [(0,(.t 20))])]
 [rg 22 (.app 3 (.t 12) (.t 21)),mv 3 22])))
 (.reg [rg 23 (.bin .add (.t 8) (.c (.i .i64 1))),mv 8 23]))))
 (.norm false [3,6,7,8]))
def b483:AX:=
 (.seq
 (.reg [rg 2 (.mov (.c (.sl [] .nl)))])
 (.seq
 (.note (.reg [rg 3 (.mov (.c (.sl [] .nl)))]) (.nil 3 3))
 (.seq
 (.seq
 (.reg [mv 6 0,rg 7 (.len (.t 6)),rg 8 (.mov (.c (.i .i64 0)))])
 (.lp 0 (.norm false [3,6,7,8]) l483_0 (.norm false [3])))
 (.seq
 (.reg [mv 24 3,mv 2 24])
 (.pre (.norm false [2]) .ret)))))
def l493_0:AX:=
 (.note
 (.seq
 (.reg [rg 12 (.bin .lss (.t 11) (.t 10))])
 (.seq
 (.cond (.t 12)
 .skip
 (.exit 0))
 (.seq
 (.block 1
 (.seq
 (.reg [rg 13 (.iad 2 (.t 9) (.t 11)),rg 14 (.load (some 2) (.t 13)),rg 5 (.alloc [(.s []),(.sl [] .nl)]),so (.store 2 (.t 5) (.t 14))])
 (.reg [mv 15 3,rg 16 (.fad 1 (.t 5)),rg 17 (.load none (.t 16)),rg 18 (.call 483 [(.t 17)]),rg 19 (.bsl 1 [(.sl [] .nl)] 1 [(0,(.t 18))]),rg 20 (.app 1 (.t 15) (.t 19)),mv 3 20])))
 (.reg [rg 21 (.bin .add (.t 11) (.c (.i .i64 1))),mv 11 21]))))
 (.norm false [1,3,9,10,11]))
def l493_1:AX:=
 (.note
 (.seq
 (.reg [rg 26 (.bin .lss (.t 25) (.t 24))])
 (.seq
 (.cond (.t 26)
 .skip
 (.exit 2))
 (.seq
 (.block 3
 (.seq
 (.reg [rg 27 (.iad 1 (.t 23) (.t 25)),rg 28 (.load none (.t 27)),mv 7 28])
 (.reg [mv 29 3,mv 30 7,rg 31 (.call 483 [(.t 30)]),rg 32 (.bsl 1 [(.sl [] .nl)] 1 [(0,(.t 31))]),rg 33 (.app 1 (.t 29) (.t 32)),mv 3 33])))
 (.reg [rg 34 (.bin .add (.t 25) (.c (.i .i64 1))),mv 25 34]))))
 (.norm false [3,23,24,25]))
def b493:AX:=
 (.seq
 (.reg [rg 1 (.xop (.box 2) [(.t 0)]),rg 2 (.mov (.c (.sl [] .nl)))])
 (.seq
 (.note (.reg [rg 3 (.mov (.c (.sl [] .nl)))]) (.nil 3 1))
 (.seq
 (.seq
 (.reg [rg 8 (.fad 0 (.t 1)),rg 9 (.load none (.t 8)),rg 10 (.len (.t 9)),rg 11 (.mov (.c (.i .i64 0)))])
 (.lp 0 (.norm false [1,3,9,10,11]) l493_0 (.norm false [1,3])))
 (.seq
 (.seq
 (.reg [rg 22 (.fad 1 (.t 1)),rg 23 (.load none (.t 22)),rg 24 (.len (.t 23)),rg 25 (.mov (.c (.i .i64 0)))])
 (.lp 2 (.norm false [3,23,24,25]) l493_1 (.norm false [3])))
 (.seq
 (.reg [mv 35 3,mv 2 35])
 (.pre (.norm false [2]) .ret))))))
def l491_0:AX:=
 (.note
 (.seq
 (.reg [rg 10 (.bin .lss (.t 9) (.t 8))])
 (.seq
 (.cond (.t 10)
 .skip
 (.exit 0))
 (.seq
 (.block 1
 (.seq
 (.reg [rg 11 (.iad 1 (.t 7) (.t 9)),rg 12 (.load none (.t 11)),mv 5 12])
 (.reg [mv 13 3,mv 14 5,rg 15 (.len (.t 14)),rg 16 (.bin .add (.t 13) (.t 15)),mv 3 16])))
 (.reg [rg 17 (.bin .add (.t 9) (.c (.i .i64 1))),mv 9 17]))))
 (.norm false [3,7,8,9]))
def b491:AX:=
 (.seq
 (.reg [rg 1 (.xop (.box 2) [(.t 0)]),rg 2 (.mov (.c (.i .i64 0)))])
 (.seq
 (.reg [rg 3 (.mov (.c (.i .i64 0)))])
 (.seq
 (.seq
 (.reg [rg 6 (.load (some 2) (.t 1)),rg 7 (.call 493 [(.t 6)]),rg 8 (.len (.t 7)),rg 9 (.mov (.c (.i .i64 0)))])
 (.lp 0 (.norm false [3,7,8,9]) l491_0 (.norm false [3])))
 (.seq
 (.reg [mv 18 3,mv 2 18])
 (.pre (.norm false [2]) .ret)))))
def l492_0:AX:=
 (.note
 (.seq
 (.reg [rg 20 (.bin .lss (.t 19) (.t 18))])
 (.seq
 (.cond (.t 20)
 .skip
 (.exit 2))
 (.seq
 (.block 3
 (.seq
 (.reg [mv 21 6,mv 22 3,mv 23 3,rg 24 (.len (.t 23)),rg 25 (.bin .sub (.t 24) (.c (.i .i64 1))),rg 26 (.iad 1 (.t 22) (.t 25)),rg 27 (.load none (.t 26)),rg 28 (.mm true [(.t 21),(.t 27)]),mv 6 28])
 (.reg [mv 29 3,mv 30 3,rg 31 (.len (.t 30)),rg 32 (.bin .sub (.t 31) (.c (.i .i64 1))),rg 33 (.slc 1 (.t 29) none (some (.t 32)) none),mv 3 33])))
 (.reg [rg 34 (.bin .add (.t 19) (.c (.i .i64 1))),mv 19 34]))))
 (.norm false [3,6,10,11,12,18,19]))
def l492_1:AX:=
 (.note
 (.seq
 (.reg [rg 13 (.bin .lss (.t 12) (.t 11))])
 (.seq
 (.cond (.t 13)
 .skip
 (.exit 0))
 (.seq
 (.block 1
 (.seq
 (.reg [rg 14 (.iad 3 (.t 10) (.t 12)),rg 15 (.load (some 3) (.t 14)),rg 5 (.alloc [(.i .i64 0),(.i .i64 0),(.sl [] .nl)]),so (.store 3 (.t 5) (.t 15))])
 (.seq
 (.reg [rg 6 (.mov (.c (.i .i64 0)))])
 (.seq
 (.seq
 (.reg [rg 16 (.fad 0 (.t 5)),rg 17 (.load none (.t 16)),rg 18 (.call 76 [(.t 17)]),rg 19 (.mov (.c (.i .i64 0)))])
 (.lp 2 (.norm false [3,6,10,11,12,18,19]) l492_0 (.norm false [3,6,10,11,12])))
 (.reg [mv 35 3,mv 36 6,rg 37 (.bin .add (.t 36) (.c (.i .i64 1))),rg 38 (.bsl 1 [(.i .i64 0)] 1 [(0,(.t 37))]),rg 39 (.app 1 (.t 35) (.t 38)),mv 3 39])))))
 (.reg [rg 40 (.bin .add (.t 12) (.c (.i .i64 1))),mv 12 40]))))
 (.norm false [3,10,11,12]))
def b492:AX:=
 (.seq
 (.reg [rg 2 (.mov (.c (.i .i64 0)))])
 (.seq
 (.seq
 (.reg [mv 7 0,rg 8 (.call 44 [(.t 7)]),rg 9 (.un .not (.t 8))])
 (.cond (.t 9)
 (.seq
 (.reg [rg 2 (.mov (.c (.i .i64 0)))])
 (.pre (.norm false [2]) .ret))
 .skip))
 (.seq
 (.note (.reg [rg 3 (.mov (.c (.sl [] .nl)))]) (.nil 3 1))
 (.seq
 (.seq
 (.reg [mv 10 0,rg 11 (.len (.t 10)),rg 12 (.mov (.c (.i .i64 0)))])
 (.lp 0 (.norm false [3,10,11,12]) l492_1 (.norm false [3])))
 (.seq
 (.reg [mv 41 3,rg 42 (.iad 1 (.t 41) (.c (.i .i64 0))),rg 43 (.load none (.t 42)),mv 2 43])
 (.pre (.norm false [2]) .ret))))))
def row483:AFx:=⟨1,25,[.t 2],b483,none,false⟩
def row493:AFx:=⟨1,36,[.t 2],b493,none,false⟩
def row491:AFx:=⟨1,19,[.t 2],b491,none,false⟩
def row492:AFx:=⟨1,44,[.t 2],b492,none,false⟩
class Zbo (T:Tbl):Prop where
 h483:T 483=some row483
 h493:T 493=some row493
 h491:T 491=some row491
 h492:T 492=some row492
section
variable{T:Tbl}[Zbo T]{d:Option Nat}{st:St}{xs:List AV}{ps:List Opd}{e:Env}{h:Heap}{ol:List Heap}
@[simp] theorem x483:Zc (orc T) T 483 xs d st=cP T 483 false xs d st:=zaa Zbo.h483
@[simp] theorem x493:Zc (orc T) T 493 xs d st=cP T 493 false xs d st:=zaa Zbo.h493
@[simp] theorem x491:Zc (orc T) T 491 xs d st=cP T 491 false xs d st:=zaa Zbo.h491
@[simp] theorem x492:Zc (orc T) T 492 xs d st=cP T 492 false xs d st:=zaa Zbo.h492
end
def b485:AX:=
 (.seq
 (.reg [rg 3 (.xop (.box 2) [(.t 0)]),rg 6 (.mov (.c (.b false)))])
 (.seq
 (.reg [mv 7 1,rg 8 (.bin .geq (.t 7) (.c (.i .i64 1))),mv 9 8,gd 10 9 true (.mov (.t 1)),gd 11 9 true (.bin .leq (.t 10) (.c (.i .i64 6))),rg 12 (.pick (.t 9) (.t 11) (.c (.b false))),mv 13 12,gd 14 13 true (.mov (.t 2)),gd 15 13 true (.bin .geq (.t 14) (.c (.i .i64 0))),rg 16 (.pick (.t 13) (.t 15) (.c (.b false))),mv 17 16,gd 18 17 true (.mov (.t 2)),gd 19 17 true (.bin .leq (.t 18) (.c (.i .i64 6))),rg 20 (.pick (.t 17) (.t 19) (.c (.b false))),mv 21 20,gd 22 21 true (.fad 1 (.t 3)),gd 23 21 true (.load none (.t 22)),gd 24 21 true (.len (.t 23)),gd 25 21 true (.mov (.t 1)),gd 26 21 true (.bin .eql (.t 24) (.t 25)),rg 27 (.pick (.t 21) (.t 26) (.c (.b false))),mv 28 27,gd 29 28 true (.fad 0 (.t 3)),gd 30 28 true (.load none (.t 29)),gd 31 28 true (.len (.t 30)),gd 32 28 true (.bin .leq (.t 31) (.c (.i .i64 10))),rg 33 (.pick (.t 28) (.t 32) (.c (.b false))),mv 34 33,gd 35 34 true (.load (some 2) (.t 3)),gd 36 34 true (.call 491 [(.t 35)]),gd 37 34 true (.bin .leq (.t 36) (.c (.i .i64 300))),rg 38 (.pick (.t 34) (.t 37) (.c (.b false))),mv 6 38])
 (.pre (.norm false [6]) .ret)))
def b486:AX:=
 (.seq
 (.reg [rg 2 (.mov (.c (.b false)))])
 (.seq
 (.seq
 (.reg [mv 3 0])
 (.block 0
 (.seq
 (.seq
 (.reg [rg 5 (.bin .eql (.t 3) (.c (.s [116]))),mv 4 5])
 (.cond (.t 4)
 .skip
 (.seq
 (.reg [rg 6 (.bin .eql (.t 3) (.c (.s [121]))),mv 4 6])
 (.cond (.t 4)
 .skip
 (.seq
 (.reg [rg 7 (.bin .eql (.t 3) (.c (.s [112]))),mv 4 7])
 (.cond (.t 4)
 .skip
 (.reg [rg 8 (.bin .eql (.t 3) (.c (.s [108,101,116]))),mv 4 8])))))))
 (.cond (.t 4)
 (.seq
 (.reg [rg 2 (.mov (.c (.b false)))])
 (.pre (.norm false [2]) .ret))
 .skip))))
 (.seq
 (.reg [mv 9 0,rg 10 (.build [(.i .i64 0),(.s []),(.i .i64 0)] [(0,1,(.c (.i .i64 2))),(1,1,(.t 9))]),rg 11 (.call 172 [(.t 10)]),mv 2 11])
 (.pre (.norm false [2]) .ret))))
def l487_0:AX:=
 (.note
 (.seq
 (.reg [rg 8 (.bin .lss (.t 7) (.t 6))])
 (.seq
 (.cond (.t 8)
 .skip
 (.exit 0))
 (.seq
 (.block 1
 (.seq
 (.reg [mv 9 7,mv 5 9])
 (.seq
 (.drawT [mv 10 0,mv 11 5,rg 12 (.iad 2 (.t 10) (.t 11)),rg 13 (.fad 0 (.t 12)),rg 14 (.load none (.t 13)),mv 15 0,mv 16 1,rg 17 (.iad 2 (.t 15) (.t 16)),rg 18 (.fad 0 (.t 17)),rg 19 (.load none (.t 18))]
 [rg 20 (.bin .eql (.t 14) (.t 19))])
 (.cond (.t 20)
 (.seq
 (.reg [rg 4 (.mov (.c (.b true)))])
 (.pre (.norm false [4]) .ret))
 .skip))))
 (.reg [rg 21 (.bin .add (.t 7) (.c (.i .i64 1))),mv 7 21]))))
 (.norm false [0,1,6,7]))
def b487:AX:=
 (.seq
 (.reg [rg 4 (.mov (.c (.b false)))])
 (.seq
 (.seq
 (.reg [mv 6 1,rg 7 (.mov (.c (.i .i64 0)))])
 (.lp 0 (.norm false [0,1,6,7]) l487_0 (.norm false [])))
 (.seq
 (.reg [rg 4 (.mov (.c (.b false)))])
 (.pre (.norm false [4]) .ret))))
def b488:AX:=
 (.seq
 (.reg [rg 10 (.alloc [(.i .i64 0),(.i .i64 0),(.i .i64 0),(.i .i64 0)])])
 (.seq
 (.reg [mv 12 0,mv 13 2,mv 14 3,mv 15 4,rg 16 (.call 46 [(.t 12),(.t 13),(.t 14),(.t 15)]),mv 11 16])
 (.seq
 (.seq
 (.reg [mv 17 11,rg 18 (.bin .lss (.t 17) (.c (.i .i64 0))),mv 19 18,gd 20 19 true (.mov (.t 0)),gd 21 19 true (.call 492 [(.t 20)]),gd 22 19 true (.bin .gtr (.t 21) (.c (.i .i64 40))),rg 23 (.pick (.t 19) (.t 22) (.c (.b false)))])
 (.cond (.t 23)
 (.reg [mv 24 0,rg 25 (.len (.t 24)),mv 11 25])
 .skip))
 (.seq
 (.seq
 (.reg [mv 26 11,rg 27 (.bin .lss (.t 26) (.c (.i .i64 0)))])
 (.cond (.t 27)
 (.seq
 (.reg [rg 28 (.build [(.i .i64 0),(.i .i64 0),(.i .i64 0),(.i .i64 0)] []),so (.store 4 (.t 10) (.t 28))])
 (.pre (.norm false [10]) .ret))
 .skip))
 (.seq
 (.reg [mv 29 1,mv 30 11,rg 31 (.build [(.i .i64 0),(.i .i64 0),(.i .i64 0),(.i .i64 0)] [(0,1,(.c (.i .i64 2))),(1,1,(.t 29)),(3,1,(.t 30))]),so (.store 4 (.t 10) (.t 31))])
 (.pre (.norm false [10]) .ret))))))
def l477_0:AX:=
 (.note
 (.seq
 (.reg [rg 23 (.bin .lss (.t 22) (.t 21))])
 (.seq
 (.cond (.t 23)
 .skip
 (.exit 0))
 (.seq
 (.block 1
 (.seq
 (.reg [mv 24 22,rg 25 (.iad 2 (.t 20) (.t 22)),rg 26 (.load (some 2) (.t 25)),rg 8 (.alloc [(.s []),(.sl [] .nl)]),mv 7 24,so (.store 2 (.t 8) (.t 26))])
 (.seq
 (.seq
 (.reg [rg 27 (.fad 0 (.t 8)),rg 28 (.load none (.t 27)),rg 29 (.call 486 [(.t 28)]),rg 30 (.un .not (.t 29)),mv 31 30,gd 32 31 false (.fad 0 (.t 3)),gd 33 31 false (.load none (.t 32)),gd 34 31 false (.mov (.t 7)),gd 35 31 false (.call 487 [(.t 33),(.t 34)]),rg 36 (.pick (.t 31) (.c (.b true)) (.t 35))])
 (.cond (.t 36)
 (.seq
 (.reg [mv 37 7,rg 38 (.bin .add (.t 37) (.c (.i .i64 1))),rg 39 (.build [(.i .i64 0),(.i .i64 0),(.i .i64 0),(.i .i64 0)] [(0,1,(.c (.i .i64 2))),(1,1,(.t 38)),(2,1,(.c (.i .i64 1)))]),so (.store 4 (.t 6) (.t 39))])
 (.pre (.norm false [6]) .ret))
 .skip))
 (.seq
 (.reg [rg 40 (.fad 1 (.t 8)),rg 41 (.load none (.t 40)),mv 42 7,rg 43 (.bin .add (.t 42) (.c (.i .i64 1))),mv 44 1,mv 45 2,mv 46 7,rg 47 (.call 488 [(.t 41),(.t 43),(.t 44),(.t 45),(.t 46)]),rg 9 (.alloc [(.i .i64 0),(.i .i64 0),(.i .i64 0),(.i .i64 0)]),so (.store 4 (.t 9) (.t 47))])
 (.seq
 (.reg [rg 48 (.load (some 4) (.t 9)),rg 49 (.build [(.i .i64 0),(.i .i64 0),(.i .i64 0),(.i .i64 0)] []),rg 50 (.eqs true [(0,.int),(1,.int),(2,.int),(3,.int)] (.t 48) (.t 49))])
 (.cond (.t 50)
 (.seq
 (.reg [rg 51 (.load (some 4) (.t 9)),so (.store 4 (.t 6) (.t 51))])
 (.pre (.norm false [6]) .ret))
 .skip))))))
 (.reg [rg 52 (.bin .add (.t 22) (.c (.i .i64 1))),mv 22 52]))))
 (.norm false [1,2,3,6,20,21,22]))
def l477_1:AX:=
 (.note
 (.seq
 (.reg [rg 57 (.bin .lss (.t 56) (.t 55))])
 (.seq
 (.cond (.t 57)
 .skip
 (.exit 2))
 (.seq
 (.block 3
 (.seq
 (.reg [mv 58 56,rg 59 (.iad 1 (.t 54) (.t 56)),rg 60 (.load none (.t 59)),mv 10 58,mv 11 60])
 (.seq
 (.reg [mv 61 11,rg 62 (.fad 0 (.t 3)),rg 63 (.load none (.t 62)),rg 64 (.len (.t 63)),mv 65 10,rg 66 (.bin .add (.t 64) (.t 65)),rg 67 (.bin .add (.t 66) (.c (.i .i64 1))),mv 68 1,mv 69 2,rg 70 (.fad 0 (.t 3)),rg 71 (.load none (.t 70)),rg 72 (.len (.t 71)),rg 73 (.call 488 [(.t 61),(.t 67),(.t 68),(.t 69),(.t 72)]),rg 12 (.alloc [(.i .i64 0),(.i .i64 0),(.i .i64 0),(.i .i64 0)]),so (.store 4 (.t 12) (.t 73))])
 (.seq
 (.reg [rg 74 (.load (some 4) (.t 12)),rg 75 (.build [(.i .i64 0),(.i .i64 0),(.i .i64 0),(.i .i64 0)] []),rg 76 (.eqs true [(0,.int),(1,.int),(2,.int),(3,.int)] (.t 74) (.t 75))])
 (.cond (.t 76)
 (.seq
 (.reg [rg 77 (.load (some 4) (.t 12)),so (.store 4 (.t 6) (.t 77))])
 (.pre (.norm false [6]) .ret))
 .skip)))))
 (.reg [rg 78 (.bin .add (.t 56) (.c (.i .i64 1))),mv 56 78]))))
 (.norm false [1,2,3,6,54,55,56]))
def b477:AX:=
 (.seq
 (.reg [rg 3 (.xop (.box 2) [(.t 0)]),rg 6 (.alloc [(.i .i64 0),(.i .i64 0),(.i .i64 0),(.i .i64 0)])])
 (.seq
 (.seq
 (.reg [rg 13 (.load (some 2) (.t 3)),mv 14 1,mv 15 2,rg 16 (.call 485 [(.t 13),(.t 14),(.t 15)]),rg 17 (.un .not (.t 16))])
 (.cond (.t 17)
 (.seq
 (.reg [rg 18 (.build [(.i .i64 0),(.i .i64 0),(.i .i64 0),(.i .i64 0)] [(0,1,(.c (.i .i64 2)))]),so (.store 4 (.t 6) (.t 18))])
 (.pre (.norm false [6]) .ret))
 .skip))
 (.seq
 (.seq
 (.reg [rg 19 (.fad 0 (.t 3)),rg 20 (.load none (.t 19)),rg 21 (.len (.t 20)),rg 22 (.mov (.c (.i .i64 0)))])
 (.lp 0 (.norm false [1,2,3,6,20,21,22]) l477_0 (.norm false [1,2,3,6])))
 (.seq
 (.seq
 (.reg [rg 53 (.fad 1 (.t 3)),rg 54 (.load none (.t 53)),rg 55 (.len (.t 54)),rg 56 (.mov (.c (.i .i64 0)))])
 (.lp 2 (.norm false [1,2,3,6,54,55,56]) l477_1 (.norm false [6])))
 (.seq
 (.reg [rg 79 (.build [(.i .i64 0),(.i .i64 0),(.i .i64 0),(.i .i64 0)] []),so (.store 4 (.t 6) (.t 79))])
 (.pre (.norm false [6]) .ret))))))
def row485:AFx:=⟨3,39,[.t 6],b485,none,false⟩
def row486:AFx:=⟨1,12,[.t 2],b486,none,false⟩
def row487:AFx:=⟨2,22,[.t 4],b487,none,false⟩
def row488:AFx:=⟨5,32,[.cell 10 (some 4)],b488,none,false⟩
def row477:AFx:=⟨3,80,[.cell 6 (some 4)],b477,none,false⟩
class Zbi (T:Tbl):Prop where
 h485:T 485=some row485
 h486:T 486=some row486
 h487:T 487=some row487
 h488:T 488=some row488
 h477:T 477=some row477
section
variable{T:Tbl}[Zbi T]{d:Option Nat}{st:St}{xs:List AV}{ps:List Opd}{e:Env}{h:Heap}{ol:List Heap}
@[simp] theorem x485:Zc (orc T) T 485 xs d st=cP T 485 false xs d st:=zaa Zbi.h485
@[simp] theorem x486:Zc (orc T) T 486 xs d st=cP T 486 false xs d st:=zaa Zbi.h486
@[simp] theorem x487:Zc (orc T) T 487 xs d st=cP T 487 false xs d st:=zaa Zbi.h487
@[simp] theorem x488:Zc (orc T) T 488 xs d st=cP T 488 false xs d st:=zaa Zbi.h488
@[simp] theorem x477:Zc (orc T) T 477 xs d st=cP T 477 false xs d st:=zaa Zbi.h477
end
def isD(c:UInt8):Bool:=decide (48≤c.toNat)&&decide (c.toNat≤57)
def isL(c:UInt8):Bool:=decide (97≤c.toNat)&&decide (c.toNat≤122) || decide (65≤c.toNat)&&decide (c.toNat≤90) || decide (c.toNat=95)
def Zgz:List UInt8:=[43,45,42,47,94,40,41,91,93,44,59,61]
def isS(c:UInt8):Bool:=Zgz.contains c
def Zh(c:UInt8):Nat:=if isD c then 1 else if isL c then 2 else if isS c then 3 else 0
def Zan(k:Nat)(c:UInt8):Bool:=decide (k=1)&&isD c || decide (k=2)&&(isL c || isD c)
def Zag(k:Nat):Nat:=if k=1 then 60 else if k=2 then 12 else 1
theorem zc9(k:Nat):1≤Zag k:=by
 unfold Zag;split
 ·omega
 ·split<;>omega
def isB(c:UInt8):Bool:=decide (c=32) || decide (c=9) || decide (c=10) || decide (c=13)
abbrev Wd:=Nat×List UInt8×Nat
def Za2:Bool→List UInt8→Nat
 | _,[]=>0
 | note,c::r=>
  let note':=if c=35 then true else if c=10 then false else note
  if (note' || isB c)=true then 1+Za2 note' r else 0
theorem zq1:∀(note:Bool) (l:List UInt8),Za2 note l≤l.length
 | _,[]=>Yg _
 | note,c::r=>by
  by_cases h:((if c=35 then true else if c=10 then false else note) || isB c)=true
  ·have:=zq1 (if c=35 then true else if c=10 then false else note) r;simp only[Za2,h,if_true,Yc];omega
  ·simp only[Za2,h,if_false,Y8,Yq]
def Z1(k:Nat)(r:List UInt8):Nat:=1+(r.takeWhile (Zan k)).length
def Zc3(l:List UInt8)(i:Nat)(acc:List Wd):Except Nat (List Wd):=
 match l with
 | []=>.ok acc
 | c::r=>
  if Zh c=0 then .error i
  else if Zag (Zh c)<Z1 (Zh c) r then .error (i+Zag (Zh c))
  else Zc3 ((r.drop (Z1 (Zh c) r-1)).drop (Za2 false (r.drop (Z1 (Zh c) r-1)))) (i+Z1 (Zh c) r+Za2 false (r.drop (Z1 (Zh c) r-1)))
   (acc++[(Zh c,(c::r).take (Z1 (Zh c) r),i)])
termination_by l.length
decreasing_by simp;omega
theorem zgk(c:UInt8)(r:List UInt8)(i:Nat)(acc:List Wd):Zc3 (c::r) i acc =
  if Zh c=0 then .error i
  else if Zag (Zh c)<Z1 (Zh c) r then .error (i+Zag (Zh c))
  else Zc3 ((r.drop (Z1 (Zh c) r-1)).drop (Za2 false (r.drop (Z1 (Zh c) r-1)))) (i+Z1 (Zh c) r+Za2 false (r.drop (Z1 (Zh c) r-1)))
   (acc++[(Zh c,(c::r).take (Z1 (Zh c) r),i)]):=by rw[Zc3]
theorem zfz(i:Nat)(acc:List Wd):Zc3 [] i acc=.ok acc:=by rw[Zc3]
def Zcr(c:UInt8)(i:Nat)(acc:List Wd):List Wd:=
 match acc.getLast? with
 | some (k,t,a)=>if a+t.length=i∧Zan k c=true then acc.dropLast++[(k,t++[c],a)] else acc++[(Zh c,[c],i)]
 | none=>acc++[(Zh c,[c],i)]
def Zd8(acc:List Wd):Bool:=
 match acc.getLast? with
 | some (k,t,_)=>decide (k=0) || decide (Zag k<t.length)
 | none=>false
def Zed:List UInt8→Nat→Bool→List Wd→Except Nat (List Wd)
 | [],_,_,acc=>.ok acc
 | c::r,i,note,acc=>
  let note':=if c=35 then true else if c=10 then false else note
  if (note' || isB c)=true then Zed r (i+1) note' acc
  else if Zd8 (Zcr c i acc)=true then .error i
  else Zed r (i+1) note' (Zcr c i acc)
theorem ziq:∀(l:List UInt8) (i:Nat) (note:Bool) (acc:List Wd),Zed l i note acc=Zed (l.drop (Za2 note l)) (i+Za2 note l) false acc
 | [],_,_,_=>rfl
 | c::r,i,note,acc=>by
  by_cases h:((if c=35 then true else if c=10 then false else note) || isB c)=true
  ·have ih:=ziq r (i+1) (if c=35 then true else if c=10 then false else note) acc;simp only[Zed,Za2,h,if_true];rw[ih,Ya6 1,Ycs,Yal i 1,Ya6 1]
  ·have h':=h;simp only[Ya0,not_or,Ydg]at h';obtain⟨h1,h2⟩:=h';have h3:note=false:=by
    by_cases h35:c=35
    ·simp[h35]at h1
    ·by_cases h10:c=10
     ·subst h10;simp[isB]at h2
     ·simpa[h35,h10]using h1
   subst h3;simp only[Za2,h,if_false,Yae,Yt,Y8]
theorem z0o{k:Nat}{c:UInt8}(h:Zan k c=true):(isL c=true∨isD c=true):=by
 simp only[Zan,Ya0,Yv]at h;rcases h with ⟨_,h⟩ | ⟨_,h | h⟩
 ·exact .inr h
 ·exact .inl h
 ·exact .inr h
theorem z9r{c:UInt8}{n:Nat}(h:c.toNat≠n)(hn:n<256):c≠UInt8.ofNat n:=fun e=>h (by rw[e];simp;omega)
theorem zth{c:UInt8}(h:isL c=true∨isD c=true):c≠35∧c≠10∧isB c=false:=by
 have h1:48≤c.toNat:=by
  simp only[isL,isD,Ya0,Yv,decide_eq_true_eq]at h;omega
 have e (n:Nat) (hn:n<48):c≠UInt8.ofNat n:=z9r (by omega) (by omega);refine⟨e 35 (by decide),e 10 (by decide),?_⟩;simp only[isB,Ybs,decide_eq_false_iff_not];exact⟨⟨⟨e 32 (by decide),e 9 (by decide)⟩,e 10 (by decide)⟩,e 13 (by decide)⟩
theorem zq2(k a:Nat)(acc:List Wd)(hk:k≠0):∀(r t:List UInt8),t.length≤Zag k →
  Zed r (a+t.length) false (acc++[(k,t,a)]) =
   if Zag k<t.length+(r.takeWhile (Zan k)).length then .error (a+Zag k)
   else Zed (r.drop (r.takeWhile (Zan k)).length) (a+t.length+(r.takeWhile (Zan k)).length) false (acc++[(k,t++r.takeWhile (Zan k),a)])
 | [],t,ht=>by
  rw[if_neg (by simp;omega)];simp
 | c::r,t,ht=>by
  by_cases hc:Zan k c=true
  ·obtain⟨h1,h2,h3⟩:=zth (z0o hc);rw[Ycd hc];have hs:Zcr c (a+t.length) (acc++[(k,t,a)])=acc++[(k,t++[c],a)]:=by
    simp[Zcr,hc]
   have hb:Zd8 (acc++[(k,t++[c],a)])=decide (Zag k<t.length+1):=by
    simp[Zd8,hk]
   conv=>lhs;unfold Zed
   simp only[h1,h2,h3,if_false,Bool.or_self,Y8,hs,hb,decide_eq_true_eq];by_cases hm:Zag k<t.length+1
   ·have e:Zag k=t.length:=by omega
    rw[if_pos hm,if_pos (by simp;omega),e]
   ·rw[if_neg hm];have ih:=zq2 k a acc hk r (t++[c]) (by simp;omega);simp only[Yk,Ybo,Yc,Yag,Yax]at ih;rw[Yal a,ih];simp only[Yc,Ycs,Y7,Yd1];have e1:t.length+1+(List.takeWhile (Zan k) r).length=t.length+((List.takeWhile (Zan k) r).length+1):=by omega
    have e2:a+(t.length+1)+(List.takeWhile (Zan k) r).length=a+t.length+((List.takeWhile (Zan k) r).length+1):=by omega
    rw[e1,e2]
  ·rw[Yce hc,if_neg (by simp;omega)];simp
theorem zns(l:List UInt8):∀c r,l.drop (Za2 false l)=c::r→c≠35∧isB c=false:=by
 have key:∀(l:List UInt8) (note:Bool) c r,l.drop (Za2 note l)=c::r→c≠35∧isB c=false:=by
  intro l
  induction l with
  | nil=>intro note c r h;simp at h
  | cons x l ih=>
   intro note c r h;by_cases hx:((if x=35 then true else if x=10 then false else note) || isB x)=true
   ·simp only[Za2,hx,if_true]at h;rw[Ya6 1,Ycs]at h;exact ih _ c r h
   ·simp only[Za2,hx,if_false,Y8]at h;simp only[Yae,List.cons.injEq]at h;obtain⟨rfl,rfl⟩:=h;simp only[Ya0,not_or,Ydg]at hx;refine⟨fun e=>?_,hx.2⟩;rw[if_pos e]at hx;cases hx.1
 exact key l false
theorem zxw(p:UInt8→Bool):∀r:List UInt8,r.take (r.takeWhile p).length=r.takeWhile p
 | []=>rfl
 | c::r=>by
  by_cases h:p c=true
  ·rw[Ycd h,Yc,Yef,zxw p r]
  ·rw[Yce h];rfl
theorem zxx(p:UInt8→Bool):∀r:List UInt8,r.drop (r.takeWhile p).length=r.dropWhile p
 | []=>rfl
 | c::r=>by
  by_cases h:p c=true
  ·rw[Ycd h,Yc,Ycs,zxx p r,Yem h]
  ·rw[Yce h,Yen h];rfl
def Zl5(acc:List Wd)(i:Nat)(l:List UInt8):Prop:=∀k t a,acc.getLast? = some (k,t,a)→a+t.length=i→∀c r,l=c::r→Zan k c=false
theorem zxy:∀(n:Nat) (l:List UInt8) (i:Nat) (acc:List Wd),l.length=n→Zl5 acc i l→(∀c r,l=c::r→c≠35∧isB c=false) →
  Zed l i false acc=Zc3 l i acc:=by
 intro n
 induction n using Nat.strongRecOn with
 | _ n ih=>
  intro l i acc hl hf hp;cases l with
  | nil=>unfold Zc3;rfl
  | cons c r=>
   obtain⟨h1,h2⟩:=hp c r rfl;have h3:c≠10:=by intro h;subst h;simp[isB]at h2
   have hs:Zcr c i acc=acc++[(Zh c,[c],i)]:=by
    unfold Zcr;split
    ·rename_i k t a hlast;rw[if_neg]
     rintro⟨h4,h5⟩
     rw[hf k t a hlast h4 c r rfl]at h5;cases h5
    ·rfl
   have hb:Zd8 (acc++[(Zh c,[c],i)])=decide (Zh c=0):=by
    have:=zc9 (Zh c);simp[Zd8];omega
   conv=>lhs;unfold Zed
   conv=>rhs;unfold Zc3
   simp only[h1,h2,h3,if_false,Bool.or_self,Y8,hs,hb,decide_eq_true_eq];by_cases hk:Zh c=0
   ·simp only[hk,if_true]
   ·simp only[hk,if_false];have hmost:=zc9 (Zh c);have hrun:=zq2 (Zh c) i acc hk r [c] (by simpa using hmost);simp only[Ybo,Yc,Yag,Yax,Yd1]at hrun;rw[hrun];unfold Z1;by_cases hm:Zag (Zh c)<1+(List.takeWhile (Zan (Zh c)) r).length
    ·rw[if_pos hm,if_pos hm]
    ·rw[if_neg hm,if_neg hm];simp only[Y9];obtain⟨x,hx⟩:∃x,x=(List.takeWhile (Zan (Zh c)) r).length:=⟨_,rfl⟩;have htk:r.take x=List.takeWhile (Zan (Zh c)) r:=by rw[hx,zxw]
     rw[←hx,ziq,Ya6 1 x,Yef,htk,Yal i 1 x,Ya6 1 x];refine ih _ ?_ _ _ _ rfl ?_ ?_
     ·simp only[Ybg,Yc]at hl ⊢;omega
     ·intro k t a hlast hat c' r' hl';simp only[Yd8,Yds,Yfh,Option.some.injEq,Prod.mk.injEq]at hlast;obtain⟨rfl,rfl,rfl⟩:=hlast;simp only[Yc,←hx]at hat;have h0:Za2 false (r.drop x)=0:=by omega
      rw[h0,Yae]at hl';have:r.drop x=List.dropWhile (Zan (Zh c)) r:=by rw[hx,zxx]
      rw[this]at hl';have:=List.head?_dropWhile_not (Zan (Zh c)) r;rw[hl']at this;simpa using this
     ·exact zns _
theorem zxz(l:List UInt8):Zed l 0 false []=Zc3 (l.drop (Za2 false l)) (Za2 false l) []:=by
 rw[ziq,Yax];exact zxy _ _ _ _ rfl (fun _ _ _ h=>by cases h) (zns l)
def prim187:List AV→Option AV
 | [.i .u8 n]=>if 0≤n∧n<256 then some (.b (isS (UInt8.ofNat n.toNat))) else none
 | _=>none
theorem zti(c:UInt8):prim187 [u8 c.toNat]=some (.b (isS c)):=by
 have:=c.toNat_lt;simp only[prim187,u8];rw[if_pos ⟨by omega,by omega⟩];simp
def prim184:List AV→Option AV
 | [.s l,.s [10]]=>if l.length≤1000000 then some (.tup [.s (l.takeWhile (· != 10)),.s ((l.dropWhile (· != 10)).drop 1),.b (l.contains 10)]) else none
 | _=>none
def textOf:List AV→Option (List UInt8)
 | [.s l]=>if l.length≤10000 then some l else none
 | _=>none
def prim183:List AV→Option AV
 | [.sl els .an,.s sep]=>if els.length≤1000∧sep.length≤100 then (els.mapM textOf).map fun ts=>.s (List.intercalate sep ts) else none
 | _=>none
def Zih(l:List (List UInt8)):List (List AV):=l.map fun s=>[.s s]
class Zcc (T:Tbl):Prop where
def b185:AX:=
 (.seq
 (.reg [rg 2 (.mov (.c (.b false)))])
 (.seq
 (.reg [mv 3 0,rg 4 (.bin .geq (.t 3) (.c (u8 48))),mv 5 4,gd 6 5 true (.mov (.t 0)),gd 7 5 true (.bin .leq (.t 6) (.c (u8 57))),rg 8 (.pick (.t 5) (.t 7) (.c (.b false))),mv 2 8])
 (.pre (.norm false [2]) .ret)))
def b186:AX:=
 (.seq
 (.reg [rg 2 (.mov (.c (.b false)))])
 (.seq
 (.reg [mv 3 0,rg 4 (.bin .geq (.t 3) (.c (u8 97))),mv 5 4,gd 6 5 true (.mov (.t 0)),gd 7 5 true (.bin .leq (.t 6) (.c (u8 122))),rg 8 (.pick (.t 5) (.t 7) (.c (.b false))),mv 9 8,gd 10 9 false (.mov (.t 0)),gd 11 9 false (.bin .geq (.t 10) (.c (u8 65))),gd 12 9 false (.mov (.t 11)),gd 13 12 true (.mov (.t 0)),gd 14 12 true (.bin .leq (.t 13) (.c (u8 90))),gd 15 9 false (.pick (.t 12) (.t 14) (.c (.b false))),rg 16 (.pick (.t 9) (.c (.b true)) (.t 15)),mv 17 16,gd 18 17 false (.mov (.t 0)),gd 19 17 false (.bin .eql (.t 18) (.c (u8 95))),rg 20 (.pick (.t 17) (.c (.b true)) (.t 19)),mv 2 20])
 (.pre (.norm false [2]) .ret)))
def b177:AX:=
 (.seq
 (.reg [rg 2 (.mov (.c (.i .i64 0)))])
 (.seq
 (.block 0
 (.seq
 (.reg [mv 4 0,rg 5 (.call 185 [(.t 4)]),mv 3 5])
 (.cond (.t 3)
 (.seq
 (.reg [rg 2 (.mov (.c (.i .i64 1)))])
 (.pre (.norm false [2]) .ret))
 (.seq
 (.reg [mv 7 0,rg 8 (.call 186 [(.t 7)]),mv 6 8])
 (.cond (.t 6)
 (.seq
 (.reg [rg 2 (.mov (.c (.i .i64 2)))])
 (.pre (.norm false [2]) .ret))
 (.seq
 (.reg [mv 10 0,rg 11 (.call 187 [(.t 10)]),mv 9 11])
 (.cond (.t 9)
 (.seq
 (.reg [rg 2 (.mov (.c (.i .i64 3)))])
 (.pre (.norm false [2]) .ret))
 .skip)))))))
 (.seq
 (.reg [rg 2 (.mov (.c (.i .i64 0)))])
 (.pre (.norm false [2]) .ret))))
def b188:AX:=
 (.seq
 (.reg [rg 4 (.mov (.c (.b false)))])
 (.seq
 (.reg [mv 5 0,rg 6 (.bin .eql (.t 5) (.c (.i .i64 1))),mv 7 6,gd 8 7 true (.mov (.t 1)),gd 9 7 true (.call 185 [(.t 8)]),rg 10 (.pick (.t 7) (.t 9) (.c (.b false))),mv 11 10,gd 12 11 false (.mov (.t 0)),gd 13 11 false (.bin .eql (.t 12) (.c (.i .i64 2))),gd 14 11 false (.mov (.t 13)),gd 15 14 true (.mov (.t 1)),gd 16 14 true (.call 186 [(.t 15)]),gd 17 14 true (.mov (.t 16)),gd 18 17 false (.mov (.t 1)),gd 19 17 false (.call 185 [(.t 18)]),gd 20 14 true (.pick (.t 17) (.c (.b true)) (.t 19)),gd 21 11 false (.pick (.t 14) (.t 20) (.c (.b false))),rg 22 (.pick (.t 11) (.c (.b true)) (.t 21)),mv 4 22])
 (.pre (.norm false [4]) .ret)))
def b179:AX:=
 (.seq
 (.reg [rg 2 (.mov (.c (.i .i64 0)))])
 (.seq
 (.seq
 (.reg [mv 3 0])
 (.block 0
 (.seq
 (.reg [rg 5 (.bin .eql (.t 3) (.c (.i .i64 1))),mv 4 5])
 (.cond (.t 4)
 (.seq
 (.reg [rg 2 (.mov (.c (.i .i64 60)))])
 (.pre (.norm false [2]) .ret))
 (.seq
 (.reg [rg 7 (.bin .eql (.t 3) (.c (.i .i64 2))),mv 6 7])
 (.cond (.t 6)
 (.seq
 (.reg [rg 2 (.mov (.c (.i .i64 12)))])
 (.pre (.norm false [2]) .ret))
 .skip))))))
 (.seq
 (.reg [rg 2 (.mov (.c (.i .i64 1)))])
 (.pre (.norm false [2]) .ret))))
def l178_0:AX:=
 (.note
 (.seq
 (.seq
 (.reg [mv 6 5,mv 7 0,rg 8 (.lens (.t 7)),rg 9 (.bin .lss (.t 6) (.t 8)),mv 10 9,gd 11 10 true (.mov (.t 1)),gd 12 10 true (.mov (.t 0)),gd 13 10 true (.mov (.t 5)),gd 14 10 true (.ixs (.t 12) (.t 13)),gd 15 10 true (.call 188 [(.t 11),(.t 14)]),rg 16 (.pick (.t 10) (.t 15) (.c (.b false)))])
 (.cond (.t 16)
 .skip
 (.exit 0)))
 (.block 1
 (.reg [mv 17 5,rg 18 (.bin .add (.t 17) (.c (.i .i64 1))),mv 5 18])))
 (.norm false [0,1,5]))
def b178:AX:=
 (.seq
 (.reg [rg 4 (.mov (.c (.i .i64 0)))])
 (.seq
 (.reg [rg 5 (.mov (.c (.i .i64 1)))])
 (.seq
 (.lp 0 (.norm false [0,1,5]) l178_0 (.norm false [5]))
 (.seq
 (.reg [mv 19 5,mv 4 19])
 (.pre (.norm false [4]) .ret)))))
def b172:AX:=
 (.seq
 (.reg [rg 1 (.xop (.box 3) [(.t 0)]),rg 2 (.mov (.c (.b false)))])
 (.seq
 (.seq
 (.drawT [rg 3 (.fad 1 (.t 1)),rg 4 (.load none (.t 3)),rg 5 (.bin .eql (.t 4) (.c (.s []))),mv 6 5,gd 7 6 false (.fad 0 (.t 1)),gd 8 6 false (.load none (.t 7)),gd 9 6 false (.bin .eql (.t 8) (.c (.i .i64 0))),rg 10 (.pick (.t 6) (.c (.b true)) (.t 9)),mv 11 10,gd 12 11 false (.fad 1 (.t 1)),gd 13 11 false (.load none (.t 12)),gd 14 11 false (.ixs (.t 13) (.c (.i .i64 0))),gd 15 11 false (.call 177 [(.t 14)]),gd 16 11 false (.fad 0 (.t 1)),gd 17 11 false (.load none (.t 16))]
 [gd 18 11 false (.bin .neq (.t 15) (.t 17)),rg 19 (.pick (.t 11) (.c (.b true)) (.t 18))])
 (.cond (.t 19)
 (.seq
 (.reg [rg 2 (.mov (.c (.b false)))])
 (.pre (.norm false [2]) .ret))
 .skip))
 (.seq
 (.drawT [rg 20 (.fad 1 (.t 1)),rg 21 (.load none (.t 20)),rg 22 (.fad 0 (.t 1)),rg 23 (.load none (.t 22)),rg 24 (.call 178 [(.t 21),(.t 23)]),rg 25 (.fad 1 (.t 1)),rg 26 (.load none (.t 25)),rg 27 (.lens (.t 26)),rg 28 (.bin .eql (.t 24) (.t 27)),mv 29 28,gd 30 29 true (.fad 1 (.t 1)),gd 31 29 true (.load none (.t 30)),gd 32 29 true (.lens (.t 31)),gd 33 29 true (.fad 0 (.t 1)),gd 34 29 true (.load none (.t 33)),gd 35 29 true (.call 179 [(.t 34)])]
 [gd 36 29 true (.bin .leq (.t 32) (.t 35)),rg 37 (.pick (.t 29) (.t 36) (.c (.b false))),mv 2 37])
 (.pre (.norm false [2]) .ret))))
def row185:AFx:=⟨1,9,[.t 2],b185,none,false⟩
def row186:AFx:=⟨1,21,[.t 2],b186,none,false⟩
def row187:AFx:=⟨0,0,[],.prim prim187,none,false⟩
def row177:AFx:=⟨1,12,[.t 2],b177,none,false⟩
def row188:AFx:=⟨2,23,[.t 4],b188,none,false⟩
def row179:AFx:=⟨1,8,[.t 2],b179,none,false⟩
def row178:AFx:=⟨2,20,[.t 4],b178,none,false⟩
def row172:AFx:=⟨1,38,[.t 2],b172,none,false⟩
class Zcu (T:Tbl):Prop where
 h185:T 185=some row185
 h186:T 186=some row186
 h187:T 187=some row187
 h177:T 177=some row177
 h188:T 188=some row188
 h179:T 179=some row179
 h178:T 178=some row178
 h172:T 172=some row172
section
variable{T:Tbl}[Zcu T]{d:Option Nat}{st:St}{xs:List AV}{ps:List Opd}{e:Env}{h:Heap}{ol:List Heap}
@[simp] theorem x185:Zc (orc T) T 185 xs d st=cP T 185 false xs d st:=zaa Zcu.h185
@[simp] theorem x186:Zc (orc T) T 186 xs d st=cP T 186 false xs d st:=zaa Zcu.h186
@[simp] theorem x187:Zc (orc T) T 187 xs d st=cP T 187 false xs d st:=zaa Zcu.h187
theorem p187(xs:List AV):Zb T 187 xs=prim187 xs:=zjk Zcu.h187
@[simp] theorem y177:opD (orc T) T (.call 177 ps) e h ol=dP T 177 false ps e:=zal Zcu.h177
@[simp] theorem x188:Zc (orc T) T 188 xs d st=cP T 188 false xs d st:=zaa Zcu.h188
@[simp] theorem y179:opD (orc T) T (.call 179 ps) e h ol=dP T 179 false ps e:=zal Zcu.h179
@[simp] theorem y178:opD (orc T) T (.call 178 ps) e h ol=dP T 178 false ps e:=zal Zcu.h178
@[simp] theorem x172:Zc (orc T) T 172 xs d st=cP T 172 false xs d st:=zaa Zcu.h172
end
end Go.Ab