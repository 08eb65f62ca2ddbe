/-
  A calculus of values, boxes and code, and what functions of the program compute, proved in it.
  Conditions: none beyond those that the theorems state. (Part 4.)
-/
import Derived.Test.YtjhilbodpmnbmaaGreatDoorPart3

set_option linter.unusedSectionVars false
set_option linter.unusedVariables false
set_option linter.unusedSimpArgs false
set_option linter.unnecessarySimpa false

namespace Go.Ab
theorem zy0{vA vA' t p V x r vb vm T:Nat}(h0:vA=t+p*V)(h1:vA'=t+p*r)(hV:V=vb*x+r)(hT:T=vA+p*4294967296*(vm*vb)) :
  T=vA'+p*((x+4294967296*vm)*vb):=by grind
theorem zvm{V b x Bo vm p:Nat}(hb:0<b)(h1:V/b≤x)(h2:x≤V/b+1)(_hp:V<p)(hm:vm<p)(hBo:Bo≤1)(h:vm+x*b=V+p*Bo) :
  (Bo=0→x=V/b∧vm=V%b)∧(Bo=1→x=V/b+1∧vm+b=V%b+p):=by
 have hd:=Yba V b;have hmod:=Ya3 V hb;rw[Yad]at hd;constructor
 ·intro h0;subst h0;rw[Yac,Yt]at h;have hx:x=V/b:=by
   have:x*b≤V:=by omega
   have:=(Yb9 hb).2 this;omega
  subst hx;exact⟨rfl,by omega⟩
 ·intro h0;subst h0;rw[Ycl]at h;have hx:x=V/b+1:=by
   rcases Yq (V/b) x with h3 | h3
   ·omega
   ·have h4:x=V/b:=by omega
    subst h4;omega
  subst hx;rw[Ya9,Ycn]at h;exact⟨rfl,by omega⟩
theorem zvn{vm b r p D vm':Nat}(_hr:r<p)(h:vm+b=r+p)(hm:vm'<p)(hD:D≤1)(hg:vm'+p*D=vm+b):vm'=r:=by
 rcases Ya0 D with h0 | h0
 ·subst h0;omega
 ·have:D=1:=by omega
  subst this;omega
theorem zmw{α:Type}{A:List α}{i k:Nat}(h:i=k)(hi:i<A.length)(hk:k<A.length):A[i]'hi=A[k]'hk:=by subst h;rfl
theorem zk3(A:List UInt32)(j n:Nat):val (A.drop j)=val ((A.drop j).take n)+4294967296^((A.drop j).take n).length*val (A.drop (j+n)):=by
 conv=>lhs;rw[←Yam n (A.drop j),zaj]
 rw[Ydq]
theorem zr2{q x:Nat}(h:x=q+1)(hx:x<4294967296):Zgj x 1=q:=by unfold Zgj;omega
theorem zvo{A m1:List UInt32}{j n:Nat}(hm1:m1.length=n+1)(hj:j+n<A.length) :
  (A.take j++(m1++A.drop (j+(n+1)))).take j=A.take j∧(A.take j++(m1++A.drop (j+(n+1)))).drop (j+(n+1))=A.drop (j+(n+1)) ∧
  ((A.take j++(m1++A.drop (j+(n+1)))).drop j).take (n+1)=m1∧(A.take j++(m1++A.drop (j+(n+1)))).length=A.length:=by
 have htj:(A.take j).length=j:=by simp;omega
 refine⟨?_,?_,?_,?_⟩
 ·rw[Ybz (by omega),Yb (by omega)]
 ·rw[←Ydq,Ybj (by omega),Yao (l:=A.take j) (by omega),Yae,Ybj (by omega),Yao (by omega),Yae]
 ·rw[Ybj (by omega),Yao (l:=A.take j) (by omega),Yae,Ybz (by omega),Yb (by omega)]
 ·simp[hm1];omega
theorem zvp{D:List UInt32}{n:Nat}(h:n+2<D.length):val (D.take (n+3))=(((D[n+2]'h).toNat*4294967296+(D[n+1]'(by omega)).toNat)*4294967296+(D[n]'(by omega)).toNat)*4294967296^n+val (D.take n):=by
 rw[zaf (Ya h),zaf (Ya (show n+1<D.length by omega)),zaf (Ya (show n<D.length by omega)),Yw 4294967296 (n+1),Yw];generalize 4294967296^n=p
 grind
theorem z26{D:List UInt32}{n:Nat}(h:n+1<D.length):val (D.take (n+2))=((D[n+1]'h).toNat*4294967296+(D[n]'(by omega)).toNat)*4294967296^n+val (D.take n):=by
 rw[zaf (Ya h),zaf (Ya (show n<D.length by omega)),Yw];generalize 4294967296^n=p
 grind
section
variable{T:Tbl}[Zs T][Zt T]
theorem zr3(A b:List UInt32)(j x:Nat)(hx:x<4294967296)(hj:j+b.length<A.length)(hl:A.length≤1000000) :
  ∃(B:Nat) (m:List UInt32),B≤1∧m.length=b.length+1∧val m+x*val b=val ((A.drop j).take (b.length+1))+4294967296^(b.length+1)*B ∧
   Zaa T 120 [.bs (.bor 0) 0 1 0 A.length,.i .i64 j,.sl (Za b) .an,u32 x] [(.bor 0,⟨0,.own,1,Za A⟩)] =
    some (.b (decide (0<B)),[(.bor 0,⟨0,.own,1,Za (A.take j++(m++A.drop (j+(b.length+1))))⟩)]):=by
 have h1:(A.take j).length=j:=by simp;omega
 have h2:(A.drop j).length=A.length-j:=by simp
 obtain⟨B,m,hB,hm,hv,hc⟩:=zv3 (T:=T) (A.take j) (A.drop j) b x hx (by omega) (by omega);rw[h1,h2,show j+(A.length-j)=A.length by omega,Yam,Ydq]at hc;exact⟨B,m,hB,hm,hv,hc⟩
end
section
variable{T:Tbl}[Zs T][Zt T]
theorem zr4(A b:List UInt32)(j:Nat)(hj:j+b.length<A.length)(hl:A.length≤1000000) :
  ∃(D:Nat) (m:List UInt32),D≤1∧m.length=b.length+1∧val m+4294967296^(b.length+1)*D=val ((A.drop j).take (b.length+1))+val b ∧
   Zaa T 121 [.bs (.bor 0) 0 1 0 A.length,.i .i64 j,.sl (Za b) .an] [(.bor 0,⟨0,.own,1,Za A⟩)] =
    some (.tup [],[(.bor 0,⟨0,.own,1,Za (A.take j++(m++A.drop (j+(b.length+1))))⟩)]):=by
 have h1:(A.take j).length=j:=by simp;omega
 have h2:(A.drop j).length=A.length-j:=by simp
 obtain⟨D,m,hD,hm,hv,hc⟩:=zv4 (T:=T) (A.take j) (A.drop j) b (by omega) (by omega);rw[h1,h2,show j+(A.length-j)=A.length by omega,Yam,Ydq]at hc;exact⟨D,m,hD,hm,hv,hc⟩
end
section
variable{T:Tbl}[Zs T][Zx T][Zw T][Zt T]
def Zjq(b:List UInt32)(LA LQ:Nat)(y:Nat×List UInt32×List UInt32):St:=
 ⟨[(0,.bs (.bor 0) 0 1 0 LA),(1,.sl (Za b) .an),(5,.i .i64 b.length),(6,.bs (.loc 15) 3 1 0 LQ),(7,.i .i64 ((y.1:Int)-1))],
  [(.bor 0,⟨0,.own,1,Za y.2.1⟩),(.loc 15,⟨3,.own,1,Za (List.replicate y.1 0++y.2.2)⟩)],5⟩
end
section
variable{T:Tbl}[Zs T][Zt T]
set_option maxHeartbeats 2000000 in
theorem z27(A0 b:List UInt32)(LQ nb:Nat)(hnb:b.length=nb+2)(hb1:0<(b[nb+1]'(by omega)).toNat)(hl:A0.length≤1000000)(hA0:A0.length=LQ+b.length):∀y:Nat×List UInt32×List UInt32,
  (y.1≤LQ∧y.2.1.length=A0.length∧y.2.2.length=LQ-y.1∧val (y.2.1.drop y.1)<val b∧val A0=val y.2.1+4294967296^y.1*(val y.2.2*val b)) →
  ∃r,(∃Q A:List UInt32,r=(Ex.n,(⟨[(6,.bs (.loc 15) 3 1 0 LQ)],[(.bor 0,⟨0,.own,1,Za A⟩),(.loc 15,⟨3,.own,1,Za Q⟩)],5⟩:St)) ∧
   Q.length=LQ∧A.length=A0.length∧val Q=val A0/val b∧val A=val A0%val b)∧Zn T 1 0 (.norm false [6]) l93_0 (Zjq b A0.length LQ y)=some r:=by
 refine zaq _ _ (fun y=>y.1) _ ?_
 rintro⟨k,A,m⟩ ⟨hk,hA,hm,hlt,hv⟩
 simp only at hk hA hm hlt hv;have hbp:0<val b:=by omega
 cases k with
 | zero=>
  right;rw[Yds,Ycn]at hv;rw[Yar]at hlt;refine⟨_,⟨m,A,rfl,by omega,hA,?_,?_⟩,?_,?_⟩
  ·rw[hv,Nat.add_mul_div_right _ _ hbp,Ybc hlt,Yaj]
  ·rw[hv,Yd9,Yi hlt]
  ·simp -implicitDefEqProofs[l93_0,Zjq]
  ·simp -implicitDefEqProofs[l93_0,Zjq]
 | succ j=>
  left
  -- the window
  have hD:(A.drop j).length=A.length-j:=by simp
  have hDn:nb+2<(A.drop j).length:=by omega
  have hVlt:val (A.drop j)<4294967296*val b:=by
   have:=Yf (show j<A.length by omega);rw[this,zan];have:=zam (A[j]'(by omega));omega
  have hbB:=zay b;rw[hnb]at hbB;have hsplit:=zk3 A j (nb+3);have hlen3:((A.drop j).take (nb+3)).length=nb+3:=by simp;omega
  rw[hlen3]at hsplit;have hz:val (A.drop (j+(nb+3)))=0:=by
   rcases Ya0 (val (A.drop (j+(nb+3)))) with h | h
   ·exact h
   ·exfalso;have h1:=Yak (4294967296^(nb+3)) h;rw[Yw 4294967296 (nb+2)]at h1 hsplit;generalize 4294967296^(nb+2)=p at *
    generalize p*4294967296*val (A.drop (j+(nb+3)))=u at *
    omega
  rw[hz,Yac,Yt]at hsplit;have h3:=zvp hDn;have h2:=z26 (D:=b) (n:=nb) (by omega);rw[zba (a:=b) (i:=nb+2) (by omega)]at h2;have hv0:=zay ((A.drop j).take nb);have hb0:=zay (b.take nb);rw[show ((A.drop j).take nb).length=nb by simp;omega]at hv0;rw[show (b.take nb).length=nb by simp;omega]at hb0;obtain⟨V,hV⟩:∃V,V=val (A.drop j):=⟨_,rfl⟩;rw[←hV]at hsplit hVlt;rw[←hsplit]at h3;have hg:=zw9 (V:=V) (b:=val b) h3 hv0 h2 hb0 (by omega) hVlt;obtain⟨p0,hp0⟩:∃p,p=j+b.length:=⟨_,rfl⟩;obtain⟨p1,hp1⟩:∃p,p=j+(nb+1):=⟨_,rfl⟩;obtain⟨p2,hp2⟩:∃p,p=j+nb:=⟨_,rfl⟩;obtain⟨q1,hq1⟩:∃p,p=nb+1:=⟨_,rfl⟩;have c1:p0<A.length:=by omega
  have c2:p1<A.length:=by omega
  have c3:p2<A.length:=by omega
  have c4:q1<b.length:=by omega
  have c5:nb<b.length:=by omega
  have e1:(A.drop j)[nb+2]'hDn=A[p0]'c1:=Yeo.trans (zmw (by omega) _ _);have e2:(A.drop j)[nb+1]'(by omega)=A[p1]'c2:=Yeo.trans (zmw (by omega) _ _);have e3:(A.drop j)[nb]'(by omega)=A[p2]'c3:=Yeo.trans (zmw (by omega) _ _);have e4:b[nb+1]'(by omega)=b[q1]'c4:=zmw (by omega) _ _;rw[e1,e2,e3,e4]at hg;rw[e4]at hb1;have hgs:=zry (T:=T) (A[p0]'c1).toNat (A[p1]'c2).toNat (A[p2]'c3).toNat (b[q1]'c4).toNat (b[nb]'c5).toNat (zam _) (zam _) (zam _) (zam _) (zam _) hb1;obtain⟨x,hxd⟩:∃x,x=min 4294967295 ((((A[p0]'c1).toNat*4294967296+(A[p1]'c2).toNat)*4294967296+(A[p2]'c3).toNat)/((b[q1]'c4).toNat*4294967296+(b[nb]'c5).toNat)):=⟨_,rfl⟩;rw[←hxd]at hg hgs;have hx:x<4294967296:=by rw[hxd];exact Yb8 (Ye4 _ _) (by decide)
  clear hxd;obtain⟨Bo,m1,hBo,hm1,hvm1,hct⟩:=zr3 (T:=T) A b j x hx (by omega) (by omega);rw[hnb,show nb+2+1=nb+3 from rfl,←hsplit]at hvm1;have hm1l:=zay m1;rw[hm1,hnb,show nb+2+1=nb+3 from rfl]at hm1l;have hVp:V<4294967296^(nb+3):=by
   rw[Yw 4294967296 (nb+2)];generalize 4294967296^(nb+2)=p at *
   omega
  have hpk:=zvm hbp hg.1 hg.2 hVp hm1l hBo hvm1;have hql:V/val b<4294967296:=Ybe (by rw[Yad];exact hVlt);have hzb:val (A.drop (j+(b.length+1)))=0:=by rw[hnb];exact hz
  have htj:(A.take j).length=j:=by simp;omega
  have fin:∀m2:List UInt32,m2.length=b.length+1→val m2=V%val b →
    (A.take j++(m2++A.drop (j+(b.length+1)))).length=A0.length∧val ((A.take j++(m2++A.drop (j+(b.length+1)))).drop j)<val b ∧
    val A0=val (A.take j++(m2++A.drop (j+(b.length+1))))+4294967296^j*(val (w32 (V/val b)::m)*val b):=by
   intro m2 hm2 hvm2;refine⟨by simp[hm2];omega,?_,?_⟩
   ·rw[Ybj (by omega),Yao (by omega),Yae,zaj,hzb,Yac,Yt,hvm2];exact Ya3 _ hbp
   ·have t1:val A=val (A.take j)+4294967296^j*V:=by rw[hV];exact zni A j (by omega)
    have t2:val (A.take j++(m2++A.drop (j+(b.length+1))))=val (A.take j)+4294967296^j*(V%val b):=by
     rw[zaj,zaj,hzb,Yac,Yt,hvm2,htj]
    rw[zan,zag hql];exact zy0 t1 t2 (Yba V (val b)).symm hv
  clear hv hvm1 hsplit h3 h2 hg hbB hVlt hlt hzb hz hv0 hb0 hm1l hVp;have hw1:IntKind.wrap .i64 ((j:Int)-1)=(j:Int)-1:=zad _ (by omega);have hw2:IntKind.wrap .i64 ((j:Int)+b.length)=((p0:Nat):Int):=by rw[zad _ (by omega)];omega
  have hw3:IntKind.wrap .i64 ((p0:Int)-1)=((p1:Nat):Int):=by rw[zad _ (by omega)];omega
  have hw4:IntKind.wrap .i64 ((p0:Int)-2)=((p2:Nat):Int):=by rw[zad _ (by omega)];omega
  have hw5:IntKind.wrap .i64 ((b.length:Int)-1)=((q1:Nat):Int):=by rw[zad _ (by omega)];omega
  have hw6:IntKind.wrap .i64 ((b.length:Int)-2)=((nb:Nat):Int):=by rw[zad _ (by omega)];omega
  have hj1:j<LQ:=by omega
  rw[hA]at hct;have hml:(w32 (V/val b)::m).length=LQ-j:=by simp[hm];omega
  have hjb:j+b.length<A.length:=by omega
  have hnb3:nb+3=b.length+1:=by omega
  have d1:p0<A0.length:=by omega
  have d2:p1<A0.length:=by omega
  have d3:p2<A0.length:=by omega
  rcases Ya0 Bo with h0 | h0
  ·obtain⟨hxq,hvm⟩:=hpk.1 h0;subst h0;subst hxq;have hset:=zk6 (m:=m) (j:=j) (w32 (V/val b));obtain⟨f1,f2,f3⟩:=fin m1 hm1 hvm;refine⟨(j,A.take j++(m1++A.drop (j+(b.length+1))),w32 (V/val b)::m),⟨Ycg hj1,f1,hml,f2,f3⟩,Y4 j,?_⟩;simp -implicitDefEqProofs[l93_0,Zjq,hw1,hw2,hw3,hw4,hw5,hw6,c4,c5,d1,d2,d3,hA,hj1,hgs,hct,hset,zk7,zbi _ _ _ hx]
  ·have h1:Bo=1:=by omega
   obtain⟨hxq,hvm⟩:=hpk.2 h1;subst h1;have hset:=zk6 (m:=m) (j:=j) (w32 (V/val b));obtain⟨t1,t2,t3,t4⟩:=zvo (A:=A) hm1 hjb;rw[hA]at t4;obtain⟨D,m2,hD,hm2,hvm2,hcg⟩:=zr4 (T:=T) (A.take j++(m1++A.drop (j+(b.length+1)))) b j (by rw[t4,←hA];exact hjb) (by rw[t4];exact hl);rw[t1,t2,t4]at hcg;rw[t3]at hvm2;have hm2l:=zay m2;rw[hm2]at hm2l;have hVb:=Ya3 V hbp;have hbq:val b<4294967296^(b.length+1):=Yz (zay b) (Y0 (by decide) (Ybu _));rw[hnb3]at hvm;have hv2:=zvn (Nat.lt_trans hVb hbq) hvm hm2l hD hvm2;have hsx:=zr2 hxq hx;obtain⟨f1,f2,f3⟩:=fin m2 hm2 hv2;refine⟨(j,A.take j++(m2++A.drop (j+(b.length+1))),w32 (V/val b)::m),⟨Ycg hj1,f1,hml,f2,f3⟩,Y4 j,?_⟩;simp -implicitDefEqProofs[l93_0,Zjq,hw1,hw2,hw3,hw4,hw5,hw6,c4,c5,d1,d2,d3,hA,hj1,hgs,hct,hsx,hcg,hset,zk7,zbi _ _ _ hql]
end
section
variable{T:Tbl}[Zs T][Zt T]
theorem zvq(A b:List UInt32)(LQ nb:Nat)(hnb:b.length=nb+2)(hb1:0<(b[nb+1]'(by omega)).toNat)(hl:A.length≤1000000)(hA:A.length=LQ+b.length)(hlt:val (A.drop LQ)<val b) :
  ∃Q R:List UInt32,Q.length=LQ∧R.length=A.length∧val Q=val A/val b∧val R=val A%val b ∧
   Zaa T 93 [.bs (.bor 0) 0 1 0 A.length,.sl (Za b) .an] [(.bor 0,⟨0,.own,1,Za A⟩)]=some (.bs (.loc 15) 3 1 0 LQ,[(.bor 0,⟨0,.own,1,Za R⟩),(.loc 15,⟨3,.own,1,Za Q⟩)]):=by
 obtain⟨_,⟨Q,R,rfl,hQ,hR,hq,hr⟩,hlp⟩:=z27 (T:=T) A b LQ nb hnb hb1 hl hA (LQ,A,[]) ⟨Yh _,rfl,by simp,hlt,by simp⟩;have hw:IntKind.wrap .i64 ((A.length:Int)-b.length)=(LQ:Int):=by rw[zad _ (by omega)];omega
 have hw1:IntKind.wrap .i64 ((LQ:Int)-1)=(LQ:Int)-1:=zad _ (by omega);have h1:(LQ:Int)≤4294967296:=by omega
 refine⟨Q,R,hQ,hR,hq,hr,?_⟩;unfold Zjq at hlp;simp at hlp;rw[zah Zt.h93 rfl,b93];simp -implicitDefEqProofs[hw,hw1,h1,hlp]
end
def b2071:AX:=
 (.seq
 (.reg [rg 2 (.mov (.c (.sl [] .nl)))])
 (.seq
 (.reg [mv 3 0,rg 4 (.call 86 [(.t 3)]),rg 5 (.call 2106 [(.t 4),(.c (.i .i64 0))]),mv 2 5])
 (.pre (.norm false [2]) .ret)))
def l2092_0:AX:=
 (.note
 (.seq
 (.reg [rg 27 (.bin .lss (.t 26) (.t 25))])
 (.seq
 (.cond (.t 27)
 .skip
 (.exit 0))
 (.seq
 (.block 1
 (.seq
 (.reg [mv 28 26,rg 29 (.iad 1 (.t 24) (.t 26)),rg 30 (.load none (.t 29)),mv 8 28,mv 9 30])
 (.seq
 (.reg [mv 31 9,rg 32 (.conv .u64 (.t 31)),mv 33 6,rg 34 (.bin .shl (.t 32) (.t 33)),mv 10 34])
 (.seq
 (.reg [mv 35 7,mv 36 5,mv 37 8,rg 38 (.bin .add (.t 36) (.t 37)),rg 39 (.iad 1 (.t 35) (.t 38)),rg 40 (.load none (.t 39)),mv 41 10,rg 42 (.conv .u32 (.t 41)),rg 43 (.bin .or (.t 40) (.t 42)),rg 44 (.iad 1 (.t 35) (.t 38)),so (.store 1 (.t 44) (.t 43))])
 (.reg [mv 45 7,mv 46 5,mv 47 8,rg 48 (.bin .add (.t 46) (.t 47)),rg 49 (.bin .add (.t 48) (.c (.i .i64 1))),mv 50 10,rg 51 (.bin .shr (.t 50) (.c (u64 32))),rg 52 (.conv .u32 (.t 51)),rg 53 (.iad 1 (.t 45) (.t 49)),so (.store 1 (.t 53) (.t 52))])))))
 (.reg [rg 54 (.bin .add (.t 26) (.c (.i .i64 1))),mv 26 54]))))
 (.norm false [5,6,7,24,25,26]))
def b2092:AX:=
 (.seq
 (.reg [rg 4 (.mov (.c (.sl [] .nl)))])
 (.seq
 (.reg [mv 11 1,rg 12 (.mm true [(.t 11),(.c (.i .i64 0))]),rg 13 (.mm false [(.t 12),(.c (.i .i64 4096))]),mv 1 13])
 (.seq
 (.reg [mv 14 1,rg 15 (.bin .quo (.t 14) (.c (.i .i64 32))),mv 16 1,rg 17 (.bin .rem (.t 16) (.c (.i .i64 32))),mv 5 15,mv 6 17])
 (.seq
 (.reg [mv 18 5,mv 19 0,rg 20 (.len (.t 19)),rg 21 (.bin .add (.t 18) (.t 20)),rg 22 (.bin .add (.t 21) (.c (.i .i64 1))),rg 23 (.mks 1 [(u32 0)] (.t 22) (.t 22)),mv 7 23])
 (.seq
 (.seq
 (.reg [mv 24 0,rg 25 (.len (.t 24)),rg 26 (.mov (.c (.i .i64 0)))])
 (.lp 0 (.norm false [5,6,7,24,25,26]) l2092_0 (.norm false [7])))
 (.seq
 (.reg [mv 55 7,rg 56 (.call 2071 [(.t 55)]),mv 4 56])
 (.pre (.norm false [4]) .ret)))))))
def b62:AX:=
 (.seq
 (.reg [rg 4 (.mov (.c (.sl [] .nl))),rg 5 (.mov (.c (.sl [] .nl))),rg 6 (.mov (.c (.b false)))])
 (.seq
 (.reg [mv 12 1,rg 13 (.call 71 [(.t 12)]),mv 1 13])
 (.seq
 (.block 0
 (.seq
 (.reg [mv 15 1,rg 16 (.len (.t 15)),rg 17 (.bin .eql (.t 16) (.c (.i .i64 0))),mv 14 17])
 (.cond (.t 14)
 (.seq
 (.reg [rg 4 (.mov (.c (.sl [] .nl))),rg 5 (.mov (.c (.sl [] .nl))),rg 6 (.mov (.c (.b false)))])
 (.pre (.norm false [4,5,6]) .ret))
 (.seq
 (.reg [mv 19 0,mv 20 1,rg 21 (.call 87 [(.t 19),(.t 20)]),rg 22 (.bin .lss (.t 21) (.c (.i .i64 0))),mv 18 22])
 (.cond (.t 18)
 (.seq
 (.reg [mv 23 0,rg 24 (.call 71 [(.t 23)]),rg 4 (.mov (.c (.sl [] .nl))),mv 5 24,rg 6 (.mov (.c (.b true)))])
 (.pre (.norm false [4,5,6]) .ret))
 (.seq
 (.reg [mv 26 1,rg 27 (.len (.t 26)),rg 28 (.bin .eql (.t 27) (.c (.i .i64 1))),mv 25 28])
 (.cond (.t 25)
 (.seq
 (.reg [mv 30 0,mv 31 1,rg 32 (.iad 1 (.t 31) (.c (.i .i64 0))),rg 33 (.load none (.t 32)),rg 34 (.call 90 [(.t 30),(.t 33)]),mv 29 34,rg 35 (.ext (.t 29) 0),rg 36 (.ext (.t 29) 1),rg 37 (.ext (.t 29) 2),mv 7 35,mv 8 36,mv 9 37])
 (.seq
 (.reg [mv 38 7,mv 39 8,rg 40 (.conv .u64 (.t 39)),rg 41 (.call 72 [(.t 40)]),mv 4 38,mv 5 41,rg 6 (.mov (.c (.b true)))])
 (.pre (.norm false [4,5,6]) .ret)))
 .skip)))))))
 (.seq
 (.reg [mv 42 1,mv 43 1,rg 44 (.len (.t 43)),rg 45 (.bin .sub (.t 44) (.c (.i .i64 1))),rg 46 (.iad 1 (.t 42) (.t 45)),rg 47 (.load none (.t 46)),rg 48 (.call 91 [(.t 47)]),rg 49 (.bin .sub (.c (.i .i64 32)) (.t 48)),mv 10 49])
 (.seq
 (.reg [mv 50 0,mv 51 10,rg 52 (.call 2092 [(.t 50),(.t 51)]),rg 53 (.bsl 1 [(u32 0)] 1 [(0,(.c (u32 0)))]),rg 54 (.app 1 (.t 52) (.t 53)),mv 11 54])
 (.seq
 (.reg [mv 55 11,mv 56 1,mv 57 10,rg 58 (.call 2092 [(.t 56),(.t 57)]),rg 59 (.call 93 [(.t 55),(.t 58)]),mv 4 59])
 (.seq
 (.reg [mv 60 4,rg 61 (.call 71 [(.t 60)]),mv 62 11,mv 63 10,rg 64 (.call 94 [(.t 62),(.t 63)]),mv 4 61,mv 5 64,rg 6 (.mov (.c (.b true)))])
 (.pre (.norm false [4,5,6]) .ret))))))))
def row2071:AFx:=⟨1,6,[.t 2],b2071,(some [false]),false⟩
def row2092:AFx:=⟨2,57,[.t 4],b2092,(some [false,false]),false⟩
def row62:AFx:=⟨2,65,[.t 4,.t 5,.t 6],b62,none,false⟩
class Zv (T:Tbl):Prop where
 h2071:T 2071=some row2071
 h2092:T 2092=some row2092
 h62:T 62=some row62
section
variable{T:Tbl}[Zv T]{d:Option Nat}{st:St}
@[simp] theorem x2071(xs:List AV):Zc (orc T) T 2071 xs d st=bL (Zea st.heap [false] xs) fun ys=>Zdn ys (Zj (Zas [false] xs) st.heap) (reach (Zj (Zas [false] xs) st.heap) 40 (Zcc [false] xs) []) T 2071 false d st:=zal Zv.h2071
@[simp] theorem x2092(xs:List AV):Zc (orc T) T 2092 xs d st=bL (Zea st.heap [false,false] xs) fun ys=>Zdn ys (Zj (Zas [false,false] xs) st.heap) (reach (Zj (Zas [false,false] xs) st.heap) 40 (Zcc [false,false] xs) []) T 2092 false d st:=zal Zv.h2092
@[simp] theorem x62(xs:List AV):Zc (orc T) T 62 xs d st=cP T 62 false xs d st:=zab Zv.h62
end
theorem z3g(x:Nat):x<2^Za1 x:=by
 unfold Za1;split
 ·subst x;decide
 ·exact Yew
theorem zv5{x:Nat}(h:x<4294967296):Za1 x≤32:=by
 unfold Za1;split
 ·omega
 ·rename_i h0;have:=(Yes h0 (k:=32)).2 (by simpa using h);omega
theorem z0v{n k:Nat}(h:(ofN n).length=k+1):4294967296^k≤n:=by
 rcases Yq n (4294967296^k) with h1 | h1
 ·have:=zap h1;omega
 ·exact h1
theorem z9d{b:List UInt32}{nb:Nat}(h:b.length=nb+2)(hb:b=ofN (val b)) :
  (ofN (val b*2^(32-Za1 (b[nb+1]'(by omega)).toNat))).length=nb+2:=by
 have hl:=zv5 (zam (b[nb+1]'(by omega)));have hs:=z3g (b[nb+1]'(by omega)).toNat;have h1:val b=val (b.take (nb+1))+4294967296^(nb+1)*(b[nb+1]'(by omega)).toNat:=by
  have:=zaf (Ya (show nb+1<b.length by omega))
  rwa [zba (by omega)]at this
 have h2:=zay (b.take (nb+1));rw[show (b.take (nb+1)).length=nb+1 by simp;omega]at h2;generalize (b[nb+1]'(by omega)).toNat=t at *
 refine Nat.le_antisymm (zap ?_) ?_
 ·have h3:val b<4294967296^(nb+1)*2^Za1 t:=by
   have:4294967296^(nb+1)*(t+1)≤4294967296^(nb+1)*2^Za1 t:=Yak _ hs;rw[Yu,Ycl]at this;omega
  have h4:2^Za1 t*2^(32-Za1 t)=4294967296:=by
   rw[←Ybk,show Za1 t+(32-Za1 t)=32 by omega]
  have h5:=Yd6 h3 (Ya2 (n:=32-Za1 t) (show 0<2 by decide));rw[Yx,h4,←Yw]at h5;exact h5
 ·have h3:val b≤val b*2^(32-Za1 t):=Yci _ (Ya2 (by decide));have:=zat h3;rw[←hb]at this;omega
theorem z3h{b:List UInt32}{nb:Nat}(h:b.length=nb+2)(hb:b=ofN (val b)):0<(b[nb+1]'(by omega)).toNat:=by
 have h1:val b=val (b.take (nb+1))+4294967296^(nb+1)*(b[nb+1]'(by omega)).toNat:=by
  have:=zaf (Ya (show nb+1<b.length by omega))
  rwa [zba (by omega)]at this
 have h2:=zay (b.take (nb+1));rw[show (b.take (nb+1)).length=nb+1 by simp;omega]at h2;have h3:4294967296^(nb+1)≤val b:=z0v (by rw[←hb];omega);rcases Ya0 (b[nb+1]'(by omega)).toNat with h0 | h0
 ·rw[h0,Yac]at h1;omega
 ·exact h0
theorem zil(l:List UInt32):val (l++[0])=val l:=by rw[zaj];simp
theorem z9e{A b:List UInt32}{nb L:Nat}(hA:(A++[0]).length=L+b.length)(hb:b.length=nb+2)(hbo:b=ofN (val b)):val ((A++[0]).drop L)<val b:=by
 have hl:L≤A.length:=by simp at hA;omega
 rw[Ybj hl,zil];have h1:=zay (A.drop L);have h2:(A.drop L).length=nb+1:=by simp at hA ⊢;omega
 rw[h2]at h1;exact Yz h1 (z0v (by rw[←hbo];omega))
section
variable{T:Tbl}[Zs T][Zv T]
theorem zm3(a:List UInt32)(hl:a.length≤1000000):Zaa T 2071 [.sl (Za a) .an] [] =
  some (.bs (.fld (.loc 5) 10) 1 1 0 (ofN (val a)).length,[(.fld (.loc 5) 10,⟨1,.own,1,Za (ofN (val a))⟩)]):=by
 have h1:=zac a;have h2:=zcn (T:=T) (ofN (val a)) 0 (by omega);simp only[Yo,Yt,Yde,Ybh]at h2;rw[zah Zv.h2071 rfl,b2071];simp -implicitDefEqProofs[zbv a (by omega),h2]
end
section
variable{T:Tbl}[Zs T][Zv T]
theorem zim(a:List UInt32)(n:Nat)(hn:n≤4096)(hl:a.length≤100000):Zaa T 2092 [.sl (Za a) .an,.i .i64 n] [] =
  some (.bs (.fld (.fld (.loc 56) 0) 6010) 1 1 0 (ofN (val a*2^n)).length,[(.fld (.fld (.loc 56) 0) 6010,⟨1,.own,1,Za (ofN (val a*2^n))⟩)]):=by
 obtain⟨_,⟨c,m,rfl,hm,hc,hv⟩,hr⟩:=z34 (T:=T) (List.replicate (n/32) 0) a (n%32) (Ya3 _ (by decide)) (by simp;omega) (0,0,[]) ⟨Yr _,Ya2 (by decide),rfl,by simp⟩;have hc32:c<4294967296:=Yz hc (by
  have:2^(n%32)≤2^32:=Y0 (by decide) (by omega);simpa using this)
 have hval:val (List.replicate (n/32) 0++(m++[w32 c]))=val a*2^n:=by
  rw[zaj,zbk,Ya1,zaj,hm];simp only[zan,za8,Yac,Yt,zag hc32,Yaj];rw[hv,zo9,←Yx,←Ybk,show 32*(n/32)+n%32=n by omega,Yad]
 have hlen:(List.replicate (n/32) 0++(m++[w32 c])).length=n/32+a.length+1:=by simp[hm];omega
 have hnm:=zm3 (T:=T) (List.replicate (n/32) 0++(m++[w32 c])) (by omega);rw[hval]at hnm;rw[show l92_0=l2092_0 from rfl]at hr;unfold Zlj at hr;generalize List.replicate (n/32) 0++(m++[w32 c])=Q at *
 simp at hr;have hz:List.replicate (n/32) (0:UInt32)++w32 0::List.replicate a.length 0=List.replicate (n/32+a.length+1) 0:=by
  have:w32 0=0:=rfl;rw[this,←Yco,List.replicate_append_replicate,Yan]
 rw[hz]at hr;have hn2:¬ (4096:Int)<(n:Int):=by omega
 have hq:(n:Int).tdiv 32=(n:Int)/32:=Yc3 (by omega);have hm2:(n:Int).tmod 32=(n:Int)%32:=Yc4 (by omega);have w1:IntKind.wrap .i64 ((n:Int)/32)=(n:Int)/32:=zad (n/32) (by omega);have w2:IntKind.wrap .i64 ((n:Int)/32+a.length)=(n:Int)/32+a.length:=zad _ (by omega);have w3:IntKind.wrap .i64 ((n:Int)/32+a.length+1)=(n:Int)/32+a.length+1:=zad _ (by omega);have p1:(0:Int)≤(n:Int)/32+a.length+1:=by omega
 have p2:(n:Int)/32+a.length+1≤4294967296:=by omega
 have p3:((n:Int)/32+a.length+1).toNat=n/32+a.length+1:=by omega
 have htk:List.take (n/32+a.length+1) Q=Q:=Yb (by omega);rw[zah Zv.h2092 rfl,b2092];simp -implicitDefEqProofs[hn2,hq,hm2,w1,w2,w3,p1,p2,p3,hr,hnm,htk,hlen]
end
section
variable{T:Tbl}[Zs T][Zx T][Zw T][Zt T][Zv T]
theorem zf8(a b:List UInt32)(ha:a.length≤90000)(hb:b.length≤90000):Zb T 62 [.sl (Za a) .an,.sl (Za b) .an] =
  some (if val b=0 then .tup [.sl [] .an,.sl [] .an,.b false] else .tup [.sl (Za (ofN (val a/val b))) .an,.sl (Za (ofN (val a%val b))) .an,.b true]):=by
 have hnb:=zbw (T:=T) b (by omega);have hna:=zbw (T:=T) a (by omega);have hlb:=zac b;have hla:=zac a;have hcmp:=zgr (T:=T) a (ofN (val b)) (by omega) (by omega);rw[zae]at hcmp;rw[zaa Zv.h62 rfl,b62];by_cases h0:val b=0
 ·rw[h0]at hnb;simp -implicitDefEqProofs[hnb,h0]
 ·have h0':ofN (val b)≠[]:=fun h=>h0 (zau.1 h);have hl0:(ofN (val b)).length≠0:=fun h=>h0' (Yaz h);by_cases hlt:val a<val b
  ·have hd:=Ybc hlt;have hm:=Yi hlt;simp -implicitDefEqProofs[hnb,h0,hl0,hcmp,zc0,hlt,hna,hd,hm]
  ·rcases Yq 1 (ofN (val b)).length with h1 | h1
   ·obtain⟨b',hb'⟩:∃b',b'=ofN (val b):=⟨_,rfl⟩;have hvb:val b'=val b:=by rw[hb',zae]
    have hbo:b'=ofN (val b'):=by rw[hvb,hb']
    rw[←hb']at hnb hcmp hl0 h1 hlb;obtain⟨nb,hnbl⟩:∃nb,b'.length=nb+2:=⟨b'.length-2,by omega⟩;have hll:=zqb (T:=T) (b'[nb+1]'(by omega));have hbl:=zv5 (zam (b'[nb+1]'(by omega)));have hup:=z9d hnbl hbo;obtain⟨s,hs⟩:∃s,s=32-Za1 (b'[nb+1]'(by omega)).toNat:=⟨_,rfl⟩;obtain⟨l,hll2⟩:∃l,l=Za1 (b'[nb+1]'(by omega)).toNat:=⟨_,rfl⟩;rw[←hs]at hup;rw[←hll2]at hll hs hbl;obtain⟨B,hB⟩:∃B,B=ofN (val b'*2^s):=⟨_,rfl⟩;obtain⟨A,hA⟩:∃A,A=ofN (val a*2^s):=⟨_,rfl⟩;have hua:=zim (T:=T) a s (by omega) (by omega);have hub:=zim (T:=T) b' s (by omega) (by omega);rw[←hA]at hua;rw[←hB]at hub hup;have hBo:B=ofN (val B):=by rw[hB,zae]
    have hvA:val A=val a*2^s:=by rw[hA,zae]
    have hvB:val B=val b'*2^s:=by rw[hB,zae]
    have hAB:B.length≤A.length:=by
     rw[hA,hB];exact zat (Yv _ (by omega))
    have hAl:A.length≤a.length+1:=by
     rw[hA];refine zap ?_;have h2:2^s≤2^32:=Y0 (by decide) (by omega);rw[Yw];exact Yb8 (Yak _ h2) (Yd6 (zay a) (by decide))
    have hpos:=z3h (hup) hBo;obtain⟨Q,R,hQ,hR,hvQ,hvR,hlong⟩:=zvq (T:=T) (A++[0]) B (A.length+1-B.length) nb hup hpos (by simp;omega) (by simp;omega) (z9e (by simp;omega) hup hBo);rw[zil,hvA,hvB,hvb,Nat.mul_div_mul_right _ _ (Ya2 (by decide))]at hvQ;rw[zil,hvA,hvB,hvb,Nat.mul_mod_mul_right]at hvR;have hnq:=zbw (T:=T) Q (by omega);have hAl1:(A++[(0:UInt32)]).length=A.length+1:=by simp
    rw[hAl1]at hlong hR;have hdn:=zw4 (T:=T) R s (by omega) (by omega);rw[hvR,Nat.mul_div_cancel _ (Ya2 (by decide))]at hdn;rw[hvQ]at hnq;obtain⟨q1,hq1⟩:∃p,p=nb+1:=⟨_,rfl⟩;have c1:q1<b'.length:=by omega
    have hwt:b'[nb+1]'(by omega)=b'[q1]'c1:=zmw (by omega) _ _;rw[hwt]at hll;have w1:IntKind.wrap .i64 ((b'.length:Int)-1)=(q1:Int):=by rw[zad _ (by omega)];omega
    have w2:IntKind.wrap .i64 (32-(l:Int))=(s:Int):=by rw[zad _ (by omega)];omega
    have c3:A.length≤4294967295:=by omega
    have c4:w32 0=0:=rfl;have c5:A.length+1≤A.length+1-B.length+B.length:=by omega
    have c2:¬ ((b'.length:Int)=1):=by omega
    have t1:List.take (A.length+1) R=R:=Yb (by omega);have t2:List.take (A.length+1-B.length) Q=Q:=Yb (by omega);simp -implicitDefEqProofs[hnb,h0,hl0,hcmp,zc0,hlt,w1,w2,c1,c2,c3,c4,c5,hll,hua,hub,hlong,hnq,hdn,t1,t2,hQ,hR]
   ·have hl1:(ofN (val b)).length=1:=by omega
    obtain⟨w,hw⟩:=List.length_eq_one_iff.1 hl1;have hvb:val b=w.toNat:=by
     have:=zae (val b);rw[hw]at this;simp at this;omega
    have hwl:=zam w;have hwd:=zm0 (T:=T) a (val b) (by omega) (by omega) (by omega);have hof:=zg4 (T:=T) (val a%val b) (by have:=Ya3 (val a) (show 0<val b by omega);omega);have m1:val a%val b%18446744073709551616=val a%val b:=Yi (by have:=Ya3 (val a) (show 0<val b by omega);omega);rw[hw]at hnb hcmp;rw[←hvb]at hwl;simp -implicitDefEqProofs[hnb,h0,hcmp,zc0,hlt,hwd,←hvb,hof,m1]
end
def Zjc(n:Nat):List UInt8:=if h:n<10 then [UInt8.ofNat (48+n)] else UInt8.ofNat (48+n%10)::Zjc (n/10)
termination_by n
decreasing_by omega
def Zay(n:Nat):List UInt8:=(Zjc n).reverse
def Zfl:List AV→Option UInt32
 | [.i .u32 n]=>if 0≤n∧n<4294967296 then some (w32 n.toNat) else none
 | _=>none
def prim68:List AV→Option AV
 | [.sl els .an]=>if els.length≤1000 then (els.mapM Zfl).map fun l=>.s (Zay (val l)) else none
 | _=>none
theorem zsy(l:List UInt32):(Za l).mapM Zfl=some l:=by
 induction l with
 | nil=>rfl
 | cons x l ih=>
  have hx:=zam x;have h1:Zfl [u32 x.toNat]=some x:=by
   unfold Zfl u32;simp only;rw[if_pos ⟨by omega,by omega⟩];simp
  have e:Za (x::l)=[u32 x.toNat]::Za l:=rfl;rw[e,Ybi,h1,ih]
  rfl
theorem znk(a:List UInt32)(h:a.length≤1000):prim68 [.sl (Za a) .an]=some (.s (Zay (val a))):=by
 unfold prim68;simp only[zib,h,if_true,zsy,Ybp]
def Zmf:Nat→List UInt8→Int
 | _,[]=>-1
 | k,c::r=>if c.toNat<48∨57<c.toNat∨k=60 then k else Zmf (k+1) r
def Zjd(l:List UInt8):Int:=if l=[] then 0 else Zmf 0 l
def rd(l:List UInt8):Nat:=l.foldl (fun n c=>n*10+(c.toNat-48)) 0
theorem zkd{n:Nat}(h:n<10):Zjc n=[UInt8.ofNat (48+n)]:=by rw[Zjc,dif_pos h]
theorem zqm{n:Nat}(h:¬ n<10):Zjc n=UInt8.ofNat (48+n%10)::Zjc (n/10):=by rw[Zjc,dif_neg h]
theorem zfh{n:Nat}(h:n<10):Zay n=[UInt8.ofNat (48+n)]:=by rw[Zay,zkd h];rfl
theorem znl{n:Nat}(h:¬ n<10):Zay n=Zay (n/10)++[UInt8.ofNat (48+n%10)]:=by rw[Zay,zqm h];simp[Zay]
def txN(n:Nat)(s:List UInt8):List UInt8:=if n=0∧s≠[] then s else Zay n++s
def Zdm:Nat→Nat→List UInt8
 | 0,_=>[]
 | k+1,x=>Zdm k (x/10)++[UInt8.ofNat (48+x%10)]
def u8c(l:List UInt8):List AV:=l.map fun b=>u8 b.toNat
@[simp] theorem z56(l:List UInt8):(u8c l).length=l.length:=by simp[u8c]
@[simp] theorem zak5(l:List UInt8):(u8c l).flatMap rfC=[]:=by induction l with | nil=>rfl | cons x l ih=>simp[u8c]
@[simp] theorem zah1{σn:BId→BId}{σg:Nat→Nat}(l:List UInt8):(u8c l).map (fun c=>rlC σn σg (wkA c))=u8c l:=by induction l with | nil=>rfl | cons x l ih=>simp[u8c]
@[simp] theorem zz0(l:List UInt8):(u8c l).all pureC=true:=by induction l with | nil=>rfl | cons x l ih=>simp[u8c]
@[simp] theorem z9r(l:List UInt8):(∀x,x∈u8c l→pureC x=true)=True:=by
 have:=zz0 l;rw[Yk]at this;simpa using this
theorem z4a{l:List UInt8}{j d:Nat}(h:d<256)(hj:j<l.length):(u8c l).take j++u8 d::(u8c l).drop (j+1)=u8c (l.set j (UInt8.ofNat d)):=by
 rw[Ydh,if_pos hj];simp[u8c,List.map_take,List.map_drop,Yi h]
theorem zfi:∀k x,(Zdm k x).length=k
 | 0,_=>rfl
 | k+1,x=>by simp[Zdm,zfi k]
theorem ziv(x:Nat):Zdm 0 x=[]:=rfl
theorem zem(k x:Nat):Zdm (k+1) x=Zdm k (x/10)++[UInt8.ofNat (48+x%10)]:=rfl
theorem zz1{m:List UInt8}{j:Nat}(w:UInt8):(List.replicate (j+1) 0++m).set j w=List.replicate j 0++w::m:=by
 rw[List.set_append_left j w (by simp),Yd0,Yaw j w (by simp)];simp
theorem zz2(m:List UInt8):((u8c m).map fun c=>[c]).mapM Zd2=some m:=by
 induction m with
 | nil=>rfl
 | cons b m ih=>
  have e:((u8c (b::m)).map fun c=>[c])=[u8 b.toNat]::((u8c m).map fun c=>[c]):=rfl;rw[e,Ybi,ih];simp[Zd2,u8]
def l101_0:AX:=
 (.note
 (.seq
 (.seq
 (.reg [mv 5 4,rg 6 (.bin .geq (.t 5) (.c (.i .i64 0)))])
 (.cond (.t 6)
 .skip
 (.exit 0)))
 (.seq
 (.block 1
 (.seq
 (.reg [mv 9 4,mv 10 0,rg 11 (.bin .rem (.t 10) (.c (u32 10))),rg 12 (.bin .add (.c (u32 48)) (.t 11)),rg 13 (.conv .u8 (.t 12)),rg 14 (.iaa 1 9 (.t 3) (.t 9)),so (.store 1 (.t 14) (.t 13))])
 (.reg [mv 15 0,rg 16 (.bin .quo (.t 15) (.c (u32 10))),mv 0 16])))
 (.reg [mv 7 4,rg 8 (.bin .sub (.t 7) (.c (.i .i64 1))),mv 4 8])))
 (.norm false [0,3,4]))
def b101:AX:=
 (.seq
 (.reg [rg 2 (.mov (.c (.s [])))])
 (.seq
 (.reg [rg 3 (.alloc [(u8 0),(u8 0),(u8 0),(u8 0),(u8 0),(u8 0),(u8 0),(u8 0),(u8 0)])])
 (.seq
 (.seq
 (.reg [rg 4 (.mov (.c (.i .i64 8)))])
 (.lp 0 (.norm false [0,3,4]) l101_0 (.norm false [3])))
 (.seq
 (.reg [rg 17 (.xop (.arsl 9) [(.t 3)]),rg 18 (.xop .bstr [(.t 17)]),mv 2 18])
 (.pre (.norm false [2]) .ret)))))
def row101:AFx:=⟨1,19,[.t 2],b101,none,false⟩
class Z6 (T:Tbl):Prop where
 h101:T 101=some row101
section
variable{T:Tbl}[Z6 T]{d:Option Nat}{st:St}
@[simp] theorem x101(xs:List AV):Zc (orc T) T 101 xs d st=cP T 101 false xs d st:=zab Z6.h101
end
def row68:AFx:=⟨0,0,[],.prim prim68,none,false⟩
class Zau (T:Tbl):Prop where
 h68:T 68=some row68
section
variable{T:Tbl}[Zau T]{d:Option Nat}{st:St}
@[simp] theorem x68(xs:List AV):Zc (orc T) T 68 xs d st=cP T 68 false xs d st:=zab Zau.h68
theorem p68(xs:List AV):Zb T 68 xs=prim68 xs:=zjt Zau.h68
end
def b103:AX:=
 (.seq
 (.reg [rg 4 (.mov (.c (.s [])))])
 (.seq
 (.seq
 (.reg [mv 7 0,rg 8 (.bin .eql (.t 7) (.c (.s []))),mv 9 8,gd 10 9 false (.mov (.t 1)),gd 11 9 false (.bin .eql (.t 10) (.c (.s []))),rg 12 (.pick (.t 9) (.c (.b true)) (.t 11))])
 (.cond (.t 12)
 (.seq
 (.reg [mv 13 0,mv 4 13])
 (.pre (.norm false [4]) .ret))
 .skip))
 (.seq
 (.seq
 (.reg [mv 14 1,rg 15 (.lens (.t 14)),rg 16 (.bin .eql (.t 15) (.c (.i .i64 1))),mv 17 16,gd 18 17 true (.mov (.t 1)),gd 19 17 true (.ixs (.t 18) (.c (.i .i64 0))),gd 20 17 true (.bin .lss (.t 19) (.c (u8 128))),rg 21 (.pick (.t 17) (.t 20) (.c (.b false)))])
 (.cond (.t 21)
 (.seq
 (.reg [mv 22 0,mv 23 1,rg 24 (.ixs (.t 23) (.c (.i .i64 0))),rg 25 (.call 125 [(.t 22),(.t 24)]),mv 4 25])
 (.pre (.norm false [4]) .ret))
 .skip))
 (.seq
 (.seq
 (.reg [mv 27 1,rg 28 (.call 126 [(.t 27)]),mv 26 28,rg 29 (.ext (.t 26) 0),rg 30 (.ext (.t 26) 1),rg 5 (.alloc [(.b false),(.b false),(.b false),(.b false),(.b false),(.b false),(.b false),(.b false),(.b false),(.b false),(.b false),(.b false),(.b false),(.b false),(.b false),(.b false),(.b false),(.b false),(.b false),(.b false),(.b false),(.b false),(.b false),(.b false),(.b false),(.b false),(.b false),(.b false),(.b false),(.b false),(.b false),(.b false),(.b false),(.b false),(.b false),(.b false),(.b false),(.b false),(.b false),(.b false),(.b false),(.b false),(.b false),(.b false),(.b false),(.b false),(.b false),(.b false),(.b false),(.b false),(.b false),(.b false),(.b false),(.b false),(.b false),(.b false),(.b false),(.b false),(.b false),(.b false),(.b false),(.b false),(.b false),(.b false),(.b false),(.b false),(.b false),(.b false),(.b false),(.b false),(.b false),(.b false),(.b false),(.b false),(.b false),(.b false),(.b false),(.b false),(.b false),(.b false),(.b false),(.b false),(.b false),(.b false),(.b false),(.b false),(.b false),(.b false),(.b false),(.b false),(.b false),(.b false),(.b false),(.b false),(.b false),(.b false),(.b false),(.b false),(.b false),(.b false),(.b false),(.b false),(.b false),(.b false),(.b false),(.b false),(.b false),(.b false),(.b false),(.b false),(.b false),(.b false),(.b false),(.b false),(.b false),(.b false),(.b false),(.b false),(.b false),(.b false),(.b false),(.b false),(.b false),(.b false),(.b false),(.b false),(.b false),(.b false),(.b false),(.b false),(.b false),(.b false),(.b false),(.b false),(.b false),(.b false),(.b false),(.b false),(.b false),(.b false),(.b false),(.b false),(.b false),(.b false),(.b false),(.b false),(.b false),(.b false),(.b false),(.b false),(.b false),(.b false),(.b false),(.b false),(.b false),(.b false),(.b false),(.b false),(.b false),(.b false),(.b false),(.b false),(.b false),(.b false),(.b false),(.b false),(.b false),(.b false),(.b false),(.b false),(.b false),(.b false),(.b false),(.b false),(.b false),(.b false),(.b false),(.b false),(.b false),(.b false),(.b false),(.b false),(.b false),(.b false),(.b false),(.b false),(.b false),(.b false),(.b false),(.b false),(.b false),(.b false),(.b false),(.b false),(.b false),(.b false),(.b false),(.b false),(.b false),(.b false),(.b false),(.b false),(.b false),(.b false),(.b false),(.b false),(.b false),(.b false),(.b false),(.b false),(.b false),(.b false),(.b false),(.b false),(.b false),(.b false),(.b false),(.b false),(.b false),(.b false),(.b false),(.b false),(.b false),(.b false),(.b false),(.b false),(.b false),(.b false),(.b false),(.b false),(.b false),(.b false),(.b false),(.b false),(.b false),(.b false),(.b false),(.b false),(.b false),(.b false),(.b false),(.b false),(.b false),(.b false),(.b false),(.b false),(.b false),(.b false),(.b false),(.b false),(.b false),(.b false),(.b false),(.b false),(.b false),(.b false)]),so (.store 256 (.t 5) (.t 29)),mv 6 30])
 (.seq
 (.reg [mv 31 6])
 (.cond (.t 31)
 (.seq
 (.reg [mv 32 0,rg 33 (.call 127 [(.t 32),(.t 5)]),mv 4 33])
 (.pre (.norm false [4]) .ret))
 .skip)))
 (.seq
 (.reg [mv 34 0,mv 35 1,rg 36 (.call 128 [(.t 34),(.t 35)]),mv 4 36])
 (.pre (.norm false [4]) .ret))))))
def l125_0:AX:=
 (.note
 (.seq
 (.seq
 (.reg [mv 5 0,rg 6 (.lens (.t 5)),rg 7 (.bin .gtr (.t 6) (.c (.i .i64 0))),mv 8 7,gd 9 8 true (.mov (.t 0)),gd 10 8 true (.ixs (.t 9) (.c (.i .i64 0))),gd 11 8 true (.mov (.t 1)),gd 12 8 true (.bin .eql (.t 10) (.t 11)),rg 13 (.pick (.t 8) (.t 12) (.c (.b false)))])
 (.cond (.t 13)
 .skip
 (.exit 0)))
 (.block 1
 (.reg [mv 14 0,rg 15 (.slstr (.t 14) (some (.c (.i .i64 1))) none),mv 0 15])))
 (.norm false [0,1]))
def b125:AX:=
 (.seq
 (.reg [rg 4 (.mov (.c (.s [])))])
 (.seq
 (.lp 0 (.norm false [0,1]) l125_0 (.norm false [0]))
 (.seq
 (.reg [mv 16 0,mv 4 16])
 (.pre (.norm false [4]) .ret))))
def row103:AFx:=⟨2,37,[.t 4],b103,none,false⟩
def row125:AFx:=⟨2,17,[.t 4],b125,none,false⟩
class Zh0 (T:Tbl):Prop where
 h103:T 103=some row103
 h125:T 125=some row125
section
variable{T:Tbl}[Zh0 T]{d:Option Nat}{st:St}
@[simp] theorem x125(xs:List AV):Zc (orc T) T 125 xs d st=cP T 125 false xs d st:=zab Zh0.h125
end
section
variable{T:Tbl}
theorem zu5(x0:Nat)(_hx0:x0<4294967296):∀y:Nat×Nat×List UInt8,(y.1≤9∧y.2.1<4294967296∧y.2.2.length=9-y.1∧Zdm y.1 y.2.1++y.2.2=Zdm 9 x0) →
  Zn T 0 0 (.norm false [3]) l101_0 ⟨[(0,u32 y.2.1),(3,.ptr (.loc 3) 1 9 0 0),(4,.i .i64 ((y.1:Int)-1))],[(.loc 3,⟨1,.str,9,[u8c (List.replicate y.1 0++y.2.2)]⟩)],3⟩ =
   some (.n,⟨[(3,.ptr (.loc 3) 1 9 0 0)],[(.loc 3,⟨1,.str,9,[u8c (Zdm 9 x0)]⟩)],3⟩):=by
 refine zaz (fun y:Nat×Nat×List UInt8=>⟨[(0,u32 y.2.1),(3,.ptr (.loc 3) 1 9 0 0),(4,.i .i64 ((y.1:Int)-1))],[(.loc 3,⟨1,.str,9,[u8c (List.replicate y.1 0++y.2.2)]⟩)],3⟩) _ (fun y=>y.1) _ ?_
 rintro⟨k,x,m⟩ ⟨hk,hx,hm,hd⟩
 simp only at hk hx hm hd;cases k with
 | zero=>
  right;have hd:m=Zdm 9 x0:=by simpa only[ziv,Yae]using hd
  subst hd;generalize Zdm 9 x0=m;constructor<;>simp -implicitDefEqProofs[l101_0]
 | succ j=>
  left;have hw:IntKind.wrap .i64 ((j:Int)-1)=(j:Int)-1:=zad _ (by omega);have h1:(j:Int)<9:=by omega
  have h2:j≤8:=by omega
  have hd1:48+x%10<256:=by omega
  have hs:=(z4a (l:=List.replicate (j+1) 0++m) (j:=j) hd1 (by simp;omega)).trans (congrArg u8c (zz1 (j:=j) (m:=m) (UInt8.ofNat (48+x%10))));have m1:(48+x%10)%4294967296=48+x%10:=Yi (by omega);have m2:(48+x%10)%256=48+x%10:=Yi (by omega);have m3:x/10%4294967296=x/10:=Yi (by omega);have hlen:j+1+m.length=9:=by omega
  refine⟨(j,x/10,UInt8.ofNat (48+x%10)::m),⟨by simp only;omega,by simp only;omega,by simp;omega,?_⟩,Y4 j,?_,rfl⟩
  ·simp only;rw[←hd,zem,Yax]
   rfl
  ·simp -implicitDefEqProofs[l101_0,hw,h1,h2,hs,m1,m2,m3,hlen]
end
section
variable{T:Tbl}[Z6 T]
theorem zoi(x:Nat)(hx:x<4294967296):Zb T 101 [u32 x]=some (.s (Zdm 9 x)):=by
 have h:=zu5 (T:=T) x hx (9,x,[]) ⟨Yh _,hx,rfl,by simp⟩;have e:u8c (List.replicate 9 0++[])=[u8 0,u8 0,u8 0,u8 0,u8 0,u8 0,u8 0,u8 0,u8 0]:=rfl;simp only[e]at h;rw[zaa Z6.h101 rfl,b101];have h8:IntKind.wrap .i64 8=8:=by decide
 have hl9:=zfi 9 x;generalize hm:Zdm 9 x=m at *
 have t9:List.take 9 ((u8c m).map fun c=>[c])=(u8c m).map fun c=>[c]:=Yb (by simp[hl9]);have hr:=zz2 m;simp at h;simp -implicitDefEqProofs[h,hr,hl9,t9]
end
section
variable{T:Tbl}[Zs T][Zw T][Z6 T]
def Znz(l:List UInt8)(o:List UInt32)(i0 k:Nat):St:=
 ⟨[(0,.s l),(3,.ptr (.loc 3) 1 4 0 0),(5,.sl (Za o) .an),(6,.i .i64 (i0+k:Nat)),(7,u32 (rd ((l.drop i0).take k))),(8,u32 (10^k)),(9,.i .i64 k)],[(.loc 3,⟨1,.str,4,[[.i .i64 0,.i .i64 0,.i .i64 0,.i .i64 0]]⟩)],3⟩
end
def sg(n:Bool)(k:Nat):Int:=if n then -(k:Int) else k
def wv(n:Bool)(a:List UInt32):Int:=sg n (val a)
abbrev wh(n:Bool)(a:List UInt32):AV:=.agg [.b n,.sl (Za a) .an]
abbrev ez(z:Int):AV:=wh (decide (z<0)) (ofN z.natAbs)
def sgI(z:Int):Int:=if z<0 then -1 else if z=0 then 0 else 1
theorem zqn(n:Bool)(k:Nat):decide (sg n k<0)=(n&&decide (k≠0)):=by
 cases n
 ·simp[sg]
 ·by_cases h:k=0<;>simp[sg,h];omega
theorem zqo(n:Bool)(k:Nat):(sg n k).natAbs=k:=by cases n<;>simp[sg]
@[simp] theorem zfj(z:Int):wv (decide (z<0)) (ofN z.natAbs)=z:=by
 unfold wv;rw[zae];by_cases h:z<0
 ·simp[sg,h];omega
 ·simp[sg,h];omega
theorem z01(n:Bool)(a:List UInt32):(wv n a).natAbs=val a:=zqo n _
theorem zxa(n:Bool)(k:Nat):ez (sg n k)=wh (n&&decide (k≠0)) (ofN k):=by
 unfold ez;rw[zqn,zqo]
theorem ziw(n:Bool)(x y:Nat):sg n (x+y)=sg n x+sg n y:=by cases n<;>simp[sg]<;>omega
theorem znm{n m:Bool}(h:n≠m){x y:Nat}(hxy:x<y):sg m (y-x)=sg n x+sg m y:=by
 cases n<;>cases m<;>simp[sg]at h ⊢<;>omega
theorem znn{n m:Bool}(h:n≠m){x y:Nat}(hxy:¬ x<y):sg n (x-y)=sg n x+sg m y:=by
 cases n<;>cases m<;>simp[sg]at h ⊢<;>omega
theorem z9s(n:Bool)(x:Nat):sg (!n) x=- sg n x:=by cases n<;>simp[sg]
theorem zqp(n m:Bool)(x y:Nat):sg (n != m) (x*y)=sg n x*sg m y:=by cases n<;>cases m<;>simp[sg,Int.mul_neg,Ye9]
theorem z02(n:Bool)(x:Nat):sgI (sg n x)=if x=0 then 0 else if n then -1 else 1:=by
 unfold sgI;cases n<;>simp[sg]<;>split<;>(try split)<;>omega
def Ze9(z:Int):List UInt8:=if z<0 then 45::Zay z.natAbs else Zay z.natAbs
theorem zno{n:Nat}:∀{k:Nat},n<10^(k+1)→(Zay n).length≤k+1:=by
 induction n using Nat.strongRecOn with
 | _ n ih=>
  intro k h;by_cases h0:n<10
  ·rw[zfh h0];simp
  ·rw[znl h0];cases k with
   | zero=>simp at h;omega
   | succ k=>
    have:=ih (n/10) (by omega) (k:=k) (Ybe (by rw[Yad,←Yw];exact h));simp;omega
theorem zfk{a:List UInt32}(h:a.length≤1000):(Zay (val a)).length≤10000:=by
 obtain⟨K,hK⟩:∃K,K=9999:=⟨_,rfl⟩;have h1:=zay a;have h2:4294967296^a.length≤(10^10)^a.length:=Yd7 (by decide) _;rw[←Ydo]at h2;have h3:10^(10*a.length)≤10^(K+1):=Y0 (by decide) (by omega);have h4:=zno (k:=K) (Yz h1 (Yc h2 h3));clear h1 h2 h3;omega
theorem zb8{x y:Int}{L:Nat}(hx:(ofN x.natAbs).length≤L)(hy:(ofN y.natAbs).length≤L):(ofN (x+y).natAbs).length≤L+1:=by
 refine zap ?_;have h1:=zay (ofN x.natAbs);have h2:=zay (ofN y.natAbs);rw[zae]at h1 h2;have h3:4294967296^(ofN x.natAbs).length≤4294967296^L:=Y0 (by decide) hx;have h4:4294967296^(ofN y.natAbs).length≤4294967296^L:=Y0 (by decide) hy;rw[Yw];generalize 4294967296^L=p at *
 omega
theorem zix(x:Int):ofN (-x).natAbs=ofN x.natAbs:=by rw[Ye7]
theorem za4{x y:Int}{L M:Nat}(hx:(ofN x.natAbs).length≤L)(hy:(ofN y.natAbs).length≤M):(ofN (x*y).natAbs).length≤L+M:=by
 refine zap ?_;have h1:=zay (ofN x.natAbs);have h2:=zay (ofN y.natAbs);rw[zae]at h1 h2;rw[Yeg,Ybk];exact Nat.mul_lt_mul'' (Yz h1 (Y0 (by decide) hx)) (Yz h2 (Y0 (by decide) hy))
theorem zbx(n:Bool)(a:List UInt32):(ofN (wv n a).natAbs).length≤a.length:=by rw[z01];exact zac a
def Zlu(l:List UInt8):Int:=sg (l.head? = some 45) (rd (if l.head? = some 45 then l.tail else l))
def Zk1(l:List UInt8):Int:=Zjd (if l.head? = some 45 then l.tail else l)
def minus(l:List UInt8):Int:=if l.head? = some 45 then 1 else 0
def b55:AX:=
 (.seq
 (.reg [rg 4 (.alloc [(.b false),(.sl [] .nl)])])
 (.seq
 (.reg [mv 5 0,mv 6 5,gd 7 6 true (.mov (.t 1)),gd 8 6 true (.len (.t 7)),gd 9 6 true (.bin .gtr (.t 8) (.c (.i .i64 0))),rg 10 (.pick (.t 6) (.t 9) (.c (.b false))),mv 11 1,rg 12 (.build [(.b false),(.sl [] .nl)] [(0,1,(.t 10)),(1,1,(.t 11))]),so (.store 2 (.t 4) (.t 12))])
 (.pre (.norm false [4]) .ret)))
def b38:AX:=
 (.seq
 (.reg [rg 1 (.xop (.box 2) [(.t 0)]),rg 2 (.alloc [(.b false),(.sl [] .nl)])])
 (.seq
 (.drawT [rg 3 (.fad 0 (.t 1)),rg 4 (.load none (.t 3)),rg 5 (.fad 1 (.t 1)),rg 6 (.load none (.t 5)),rg 7 (.call 71 [(.t 6)])]
 [rg 8 (.call 55 [(.t 4),(.t 7)]),so (.store 2 (.t 2) (.t 8))])
 (.pre (.norm false [2]) .ret)))
def b40:AX:=
 (.seq
 (.reg [rg 1 (.xop (.box 2) [(.t 0)]),rg 2 (.alloc [(.b false),(.sl [] .nl)])])
 (.seq
 (.drawT [rg 3 (.fad 0 (.t 1)),rg 4 (.load none (.t 3)),rg 5 (.un .not (.t 4)),rg 6 (.fad 1 (.t 1)),rg 7 (.load none (.t 6)),rg 8 (.call 71 [(.t 7)])]
 [rg 9 (.call 55 [(.t 5),(.t 8)]),so (.store 2 (.t 2) (.t 9))])
 (.pre (.norm false [2]) .ret)))
def b23:AX:=
 (.seq
 (.reg [rg 2 (.xop (.box 2) [(.t 0)]),rg 3 (.xop (.box 2) [(.t 1)]),rg 4 (.alloc [(.b false),(.sl [] .nl)])])
 (.seq
 (.seq
 (.reg [rg 7 (.fad 0 (.t 2)),rg 8 (.load none (.t 7)),rg 9 (.fad 0 (.t 3)),rg 10 (.load none (.t 9)),rg 11 (.eqb false (.t 8) (.t 10))])
 (.cond (.t 11)
 (.seq
 (.drawT [rg 12 (.fad 0 (.t 2)),rg 13 (.load none (.t 12)),rg 14 (.fad 1 (.t 2)),rg 15 (.load none (.t 14)),rg 16 (.fad 1 (.t 3)),rg 17 (.load none (.t 16)),rg 18 (.bsl 1 [(.sl [] .nl)] 2 [(0,(.t 15)),(1,(.t 17))]),rg 19 (.call 56 [(.t 18)])]
 [rg 20 (.call 55 [(.t 13),(.t 19)]),so (.store 2 (.t 4) (.t 20))])
 (.pre (.norm false [4]) .ret))
 .skip))
 (.seq
 (.reg [rg 22 (.fad 1 (.t 2)),rg 23 (.load none (.t 22)),rg 24 (.fad 1 (.t 3)),rg 25 (.load none (.t 24)),rg 26 (.call 57 [(.t 23),(.t 25)]),mv 21 26,rg 27 (.ext (.t 21) 0),rg 28 (.ext (.t 21) 1),mv 5 27,mv 6 28])
 (.seq
 (.seq
 (.reg [mv 29 6,rg 30 (.bin .lss (.t 29) (.c (.i .i64 0)))])
 (.cond (.t 30)
 (.seq
 (.reg [rg 31 (.fad 0 (.t 3)),rg 32 (.load none (.t 31)),mv 33 5,rg 34 (.call 55 [(.t 32),(.t 33)]),so (.store 2 (.t 4) (.t 34))])
 (.pre (.norm false [4]) .ret))
 .skip))
 (.seq
 (.reg [rg 35 (.fad 0 (.t 2)),rg 36 (.load none (.t 35)),mv 37 5,rg 38 (.call 55 [(.t 36),(.t 37)]),so (.store 2 (.t 4) (.t 38))])
 (.pre (.norm false [4]) .ret))))))
def b25:AX:=
 (.seq
 (.reg [rg 2 (.xop (.box 2) [(.t 0)]),rg 3 (.xop (.box 2) [(.t 1)]),rg 4 (.alloc [(.b false),(.sl [] .nl)])])
 (.seq
 (.drawT [rg 5 (.load (some 2) (.t 2)),rg 6 (.load (some 2) (.t 3)),rg 7 (.call 40 [(.t 6)])]
 [rg 8 (.call 23 [(.t 5),(.t 7)]),so (.store 2 (.t 4) (.t 8))])
 (.pre (.norm false [4]) .ret)))
def b27:AX:=
 (.seq
 (.reg [rg 2 (.xop (.box 2) [(.t 0)]),rg 3 (.xop (.box 2) [(.t 1)]),rg 4 (.alloc [(.b false),(.sl [] .nl)])])
 (.seq
 (.drawT [rg 5 (.fad 0 (.t 2)),rg 6 (.load none (.t 5)),rg 7 (.fad 0 (.t 3)),rg 8 (.load none (.t 7)),rg 9 (.eqb true (.t 6) (.t 8)),rg 10 (.fad 1 (.t 2)),rg 11 (.load none (.t 10)),rg 12 (.fad 1 (.t 3)),rg 13 (.load none (.t 12)),rg 14 (.call 60 [(.t 11),(.t 13)])]
 [rg 15 (.call 55 [(.t 9),(.t 14)]),so (.store 2 (.t 4) (.t 15))])
 (.pre (.norm false [4]) .ret)))
def b37:AX:=
 (.seq
 (.reg [rg 1 (.xop (.box 2) [(.t 0)]),rg 2 (.mov (.c (.i .i64 0)))])
 (.seq
 (.block 0
 (.seq
 (.reg [rg 4 (.fad 1 (.t 1)),rg 5 (.load none (.t 4)),rg 6 (.call 70 [(.t 5)]),mv 3 6])
 (.cond (.t 3)
 (.seq
 (.reg [rg 2 (.mov (.c (.i .i64 0)))])
 (.pre (.norm false [2]) .ret))
 (.seq
 (.reg [rg 8 (.fad 0 (.t 1)),rg 9 (.load none (.t 8)),mv 7 9])
 (.cond (.t 7)
 (.seq
 (.reg [rg 2 (.mov (.c (.i .i64 (-1))))])
 (.pre (.norm false [2]) .ret))
 .skip)))))
 (.seq
 (.reg [rg 2 (.mov (.c (.i .i64 1)))])
 (.pre (.norm false [2]) .ret))))
def b41:AX:=
 (.seq
 (.reg [rg 2 (.alloc [(.b false),(.sl [] .nl)])])
 (.seq
 (.seq
 (.reg [mv 3 0,rg 4 (.bin .lss (.t 3) (.c (.i .i64 0)))])
 (.cond (.t 4)
 (.seq
 (.reg [mv 5 0,rg 6 (.conv .u64 (.t 5)),rg 7 (.un .neg (.t 6)),rg 8 (.call 72 [(.t 7)]),rg 9 (.call 55 [(.c (.b true)),(.t 8)]),so (.store 2 (.t 2) (.t 9))])
 (.pre (.norm false [2]) .ret))
 .skip))
 (.seq
 (.reg [mv 10 0,rg 11 (.conv .u64 (.t 10)),rg 12 (.call 72 [(.t 11)]),rg 13 (.call 55 [(.c (.b false)),(.t 12)]),so (.store 2 (.t 2) (.t 13))])
 (.pre (.norm false [2]) .ret))))
def b36:AX:=
 (.seq
 (.reg [rg 2 (.xop (.box 2) [(.t 0)]),rg 3 (.xop (.box 2) [(.t 1)]),rg 4 (.mov (.c (.i .i64 0)))])
 (.seq
 (.reg [rg 5 (.load (some 2) (.t 2)),rg 6 (.load (some 2) (.t 3)),rg 7 (.call 25 [(.t 5),(.t 6)]),rg 8 (.call 37 [(.t 7)]),mv 4 8])
 (.pre (.norm false [4]) .ret)))
def b34:AX:=
 (.seq
 (.reg [rg 1 (.xop (.box 2) [(.t 0)]),rg 2 (.mov (.c (.s [])))])
 (.seq
 (.reg [rg 4 (.fad 1 (.t 1)),rg 5 (.load none (.t 4)),rg 6 (.call 68 [(.t 5)]),mv 3 6])
 (.seq
 (.seq
 (.reg [rg 7 (.load (some 2) (.t 1)),rg 8 (.call 37 [(.t 7)]),rg 9 (.bin .lss (.t 8) (.c (.i .i64 0)))])
 (.cond (.t 9)
 (.seq
 (.reg [mv 10 3,rg 11 (.bin .add (.c (.s [45])) (.t 10)),mv 2 11])
 (.pre (.norm false [2]) .ret))
 .skip))
 (.seq
 (.reg [mv 12 3,mv 2 12])
 (.pre (.norm false [2]) .ret)))))
def row55:AFx:=⟨2,13,[.cell 4 (some 2)],b55,none,false⟩
def row38:AFx:=⟨1,9,[.cell 2 (some 2)],b38,none,false⟩
def row40:AFx:=⟨1,10,[.cell 2 (some 2)],b40,none,false⟩
def row23:AFx:=⟨2,39,[.cell 4 (some 2)],b23,none,false⟩
def row25:AFx:=⟨2,9,[.cell 4 (some 2)],b25,none,false⟩
def row27:AFx:=⟨2,16,[.cell 4 (some 2)],b27,none,false⟩
def row37:AFx:=⟨1,10,[.t 2],b37,none,false⟩
def row41:AFx:=⟨1,14,[.cell 2 (some 2)],b41,none,false⟩
def row36:AFx:=⟨2,9,[.t 4],b36,none,false⟩
def row34:AFx:=⟨1,13,[.t 2],b34,none,false⟩
class Zf (T:Tbl):Prop where
 h55:T 55=some row55
 h38:T 38=some row38
 h40:T 40=some row40
 h23:T 23=some row23
 h25:T 25=some row25
 h27:T 27=some row27
 h37:T 37=some row37
 h41:T 41=some row41
 h36:T 36=some row36
 h34:T 34=some row34
section
variable{T:Tbl}[Zf T]{d:Option Nat}{st:St}
@[simp] theorem x55(xs:List AV):Zc (orc T) T 55 xs d st=cP T 55 false xs d st:=zab Zf.h55
@[simp] theorem x38(xs:List AV):Zc (orc T) T 38 xs d st=cP T 38 false xs d st:=zab Zf.h38
@[simp] theorem x40(xs:List AV):Zc (orc T) T 40 xs d st=cP T 40 false xs d st:=zab Zf.h40
@[simp] theorem y40{e:Env}{h:Heap}{older:List Heap}(args:List Opd):opD (orc T) T (.call 40 args) e h older=dR (Zb T 40 ((args.map (ev e.get)).map (wkIf false))) (args.map (ev e.get)):=zak Zf.h40
@[simp] theorem x23(xs:List AV):Zc (orc T) T 23 xs d st=cP T 23 false xs d st:=zab Zf.h23
@[simp] theorem y23{e:Env}{h:Heap}{older:List Heap}(args:List Opd):opD (orc T) T (.call 23 args) e h older=dR (Zb T 23 ((args.map (ev e.get)).map (wkIf false))) (args.map (ev e.get)):=zak Zf.h23
@[simp] theorem x25(xs:List AV):Zc (orc T) T 25 xs d st=cP T 25 false xs d st:=zab Zf.h25
@[simp] theorem y25{e:Env}{h:Heap}{older:List Heap}(args:List Opd):opD (orc T) T (.call 25 args) e h older=dR (Zb T 25 ((args.map (ev e.get)).map (wkIf false))) (args.map (ev e.get)):=zak Zf.h25
@[simp] theorem x27(xs:List AV):Zc (orc T) T 27 xs d st=cP T 27 false xs d st:=zab Zf.h27
@[simp] theorem x37(xs:List AV):Zc (orc T) T 37 xs d st=cP T 37 false xs d st:=zab Zf.h37
@[simp] theorem x41(xs:List AV):Zc (orc T) T 41 xs d st=cP T 41 false xs d st:=zab Zf.h41
@[simp] theorem x36(xs:List AV):Zc (orc T) T 36 xs d st=cP T 36 false xs d st:=zab Zf.h36
@[simp] theorem x34(xs:List AV):Zc (orc T) T 34 xs d st=cP T 34 false xs d st:=zab Zf.h34
end
def l198_0:AX:=
 (.note
 (.seq
 (.seq
 (.reg [mv 5 1,rg 6 (.bin .neq (.t 5) (.c (u64 0)))])
 (.cond (.t 6)
 .skip
 (.exit 0)))
 (.block 1
 (.drawT [mv 7 1,mv 8 0,mv 9 1,rg 10 (.bin .rem (.t 8) (.t 9)),mv 0 7]
 [mv 1 10])))
 (.norm false [0,1]))
def b198:AX:=
 (.seq
 (.reg [rg 4 (.mov (.c (u64 0)))])
 (.seq
 (.lp 0 (.norm false [0,1]) l198_0 (.norm false [0]))
 (.seq
 (.reg [mv 11 0,mv 4 11])
 (.pre (.norm false [4]) .ret))))
def l199_0:AX:=
 (.note
 (.seq
 (.seq
 (.reg [mv 19 1,rg 20 (.len (.t 19)),rg 21 (.bin .gtr (.t 20) (.c (.i .i64 2)))])
 (.cond (.t 21)
 .skip
 (.exit 0)))
 (.block 1
 (.seq
 (.reg [mv 23 0,mv 24 1,rg 25 (.call 62 [(.t 23),(.t 24)]),mv 22 25,rg 26 (.ext (.t 22) 0),rg 27 (.ext (.t 22) 1),rg 28 (.ext (.t 22) 2),mv 5 26,mv 6 27,mv 7 28])
 (.reg [mv 29 1,mv 30 6,mv 0 29,mv 1 30]))))
 (.norm false [0,1]))
def b199:AX:=
 (.seq
 (.reg [rg 4 (.mov (.c (.sl [] .nl)))])
 (.seq
 (.reg [mv 15 0,rg 16 (.call 71 [(.t 15)]),mv 17 1,rg 18 (.call 71 [(.t 17)]),mv 0 16,mv 1 18])
 (.seq
 (.lp 0 (.norm false [0,1]) l199_0 (.norm false [0,1]))
 (.seq
 (.seq
 (.reg [mv 31 1,rg 32 (.len (.t 31)),rg 33 (.bin .eql (.t 32) (.c (.i .i64 0)))])
 (.cond (.t 33)
 (.seq
 (.reg [mv 34 0,mv 4 34])
 (.pre (.norm false [4]) .ret))
 .skip))
 (.seq
 (.reg [mv 36 0,mv 37 1,rg 38 (.call 62 [(.t 36),(.t 37)]),mv 35 38,rg 39 (.ext (.t 35) 0),rg 40 (.ext (.t 35) 1),rg 41 (.ext (.t 35) 2),mv 8 39,mv 9 40,mv 10 41])
 (.seq
 (.reg [mv 43 1,rg 44 (.call 73 [(.t 43)]),mv 42 44,rg 45 (.ext (.t 42) 0),rg 46 (.ext (.t 42) 1),mv 11 45,mv 12 46])
 (.seq
 (.reg [mv 48 9,rg 49 (.call 73 [(.t 48)]),mv 47 49,rg 50 (.ext (.t 47) 0),rg 51 (.ext (.t 47) 1),mv 13 50,mv 14 51])
 (.seq
 (.reg [mv 52 11,mv 53 13,rg 54 (.call 198 [(.t 52),(.t 53)]),rg 55 (.call 72 [(.t 54)]),mv 4 55])
 (.pre (.norm false [4]) .ret)))))))))
def b200:AX:=
 (.seq
 (.reg [rg 2 (.mov (.c (.b false)))])
 (.seq
 (.reg [mv 3 0,rg 4 (.len (.t 3)),rg 5 (.bin .eql (.t 4) (.c (.i .i64 1))),mv 6 5,gd 7 6 true (.mov (.t 0)),gd 8 6 true (.iad 1 (.t 7) (.c (.i .i64 0))),gd 9 6 true (.load none (.t 8)),gd 10 6 true (.bin .eql (.t 9) (.c (u32 1))),rg 11 (.pick (.t 6) (.t 10) (.c (.b false))),mv 2 11])
 (.pre (.norm false [2]) .ret)))
def b201:AX:=
 (.seq
 (.reg [rg 4 (.mov (.c (.sl [] .nl))),rg 5 (.mov (.c (.sl [] .nl)))])
 (.seq
 (.reg [mv 7 0,mv 8 1,rg 9 (.call 199 [(.t 7),(.t 8)]),mv 6 9])
 (.seq
 (.block 0
 (.seq
 (.reg [mv 11 6,rg 12 (.len (.t 11)),rg 13 (.bin .eql (.t 12) (.c (.i .i64 0))),mv 10 13])
 (.cond (.t 10)
 (.seq
 (.reg [rg 4 (.mov (.c (.sl [] .nl))),rg 5 (.mov (.c (.sl [] .nl)))])
 (.pre (.norm false [4,5]) .ret))
 (.seq
 (.reg [mv 15 6,rg 16 (.call 200 [(.t 15)]),mv 14 16])
 (.cond (.t 14)
 (.seq
 (.reg [mv 17 0,rg 18 (.call 71 [(.t 17)]),mv 19 1,rg 20 (.call 71 [(.t 19)]),mv 4 18,mv 5 20])
 (.pre (.norm false [4,5]) .ret))
 .skip)))))
 (.seq
 (.reg [mv 22 0,mv 23 6,rg 24 (.call 62 [(.t 22),(.t 23)]),mv 21 24,rg 25 (.ext (.t 21) 0),rg 26 (.ext (.t 21) 1),rg 27 (.ext (.t 21) 2),mv 4 25])
 (.seq
 (.reg [mv 29 1,mv 30 6,rg 31 (.call 62 [(.t 29),(.t 30)]),mv 28 31,rg 32 (.ext (.t 28) 0),rg 33 (.ext (.t 28) 1),rg 34 (.ext (.t 28) 2),mv 5 32])
 (.seq
 (.reg [mv 35 4,mv 36 5,mv 4 35,mv 5 36])
 (.pre (.norm false [4,5]) .ret)))))))
def row198:AFx:=⟨2,12,[.t 4],b198,none,false⟩
def row199:AFx:=⟨2,56,[.t 4],b199,none,false⟩
def row200:AFx:=⟨1,12,[.t 2],b200,none,false⟩
def row201:AFx:=⟨2,37,[.t 4,.t 5],b201,none,false⟩
class Zl (T:Tbl):Prop where
 h198:T 198=some row198
 h199:T 199=some row199
 h200:T 200=some row200
 h201:T 201=some row201
section
variable{T:Tbl}[Zl T]{d:Option Nat}{st:St}{xs:List AV}{ps:List Opd}{e:Env}{h:Heap}{ol:List Heap}
@[simp] theorem x198:Zc (orc T) T 198 xs d st=cP T 198 false xs d st:=zab Zl.h198
@[simp] theorem x199:Zc (orc T) T 199 xs d st=cP T 199 false xs d st:=zab Zl.h199
@[simp] theorem x200:Zc (orc T) T 200 xs d st=cP T 200 false xs d st:=zab Zl.h200
@[simp] theorem x201:Zc (orc T) T 201 xs d st=cP T 201 false xs d st:=zab Zl.h201
end
def b202:AX:=
 (.seq
 (.reg [rg 2 (.xop (.box 2) [(.t 0)]),rg 4 (.alloc [(.b false),(.sl [] .nl),(.sl [] .nl)])])
 (.seq
 (.reg [rg 8 (.fad 1 (.t 2)),rg 9 (.load none (.t 8)),mv 10 1,rg 11 (.call 201 [(.t 9),(.t 10)]),mv 7 11,rg 12 (.ext (.t 7) 0),rg 13 (.ext (.t 7) 1),mv 5 12,mv 6 13])
 (.seq
 (.reg [rg 14 (.fad 0 (.t 2)),rg 15 (.load none (.t 14)),mv 16 5,rg 17 (.build [(.b false),(.sl [] .nl)] [(0,1,(.t 15)),(1,1,(.t 16))]),rg 18 (.call 38 [(.t 17)]),mv 19 6,rg 20 (.build [(.b false),(.sl [] .nl),(.sl [] .nl)] [(0,2,(.t 18)),(2,1,(.t 19))]),so (.store 3 (.t 4) (.t 20))])
 (.pre (.norm false [4]) .ret))))
def b203:AX:=
 (.seq
 (.reg [rg 1 (.xop (.box 3) [(.t 0)]),rg 2 (.alloc [(.b false),(.sl [] .nl)]),rg 3 (.mov (.c (.sl [] .nl)))])
 (.seq
 (.seq
 (.reg [rg 4 (.fad 2 (.t 1)),rg 5 (.load none (.t 4)),rg 6 (.call 70 [(.t 5)])])
 (.cond (.t 6)
 (.seq
 (.reg [rg 7 (.build [(.b false),(.sl [] .nl)] []),rg 8 (.call 72 [(.c (u64 1))]),so (.store 2 (.t 2) (.t 7)),mv 3 8])
 (.pre (.norm false [2,3]) .ret))
 .skip))
 (.seq
 (.draw [⟨rg 9 (.fad 0 (.t 1)),0,0⟩,⟨rg 10 (.load (some 2) (.t 9)),0,0⟩,⟨rg 11 (.fad 2 (.t 1)),0,1⟩,⟨rg 12 (.load none (.t 11)),0,1⟩,⟨so (.store 2 (.t 2) (.t 10)),0,1⟩,⟨mv 3 12,1,1⟩])
 (.pre (.norm false [2,3]) .ret))))
def b205:AX:=
 (.seq
 (.reg [rg 2 (.alloc [(.b false),(.sl [] .nl),(.sl [] .nl)])])
 (.seq
 (.reg [mv 3 0,rg 4 (.call 41 [(.t 3)]),rg 5 (.call 72 [(.c (u64 1))]),rg 6 (.build [(.b false),(.sl [] .nl),(.sl [] .nl)] [(0,2,(.t 4)),(2,1,(.t 5))]),so (.store 3 (.t 2) (.t 6))])
 (.pre (.norm false [2]) .ret)))
def b207:AX:=
 (.seq
 (.reg [rg 1 (.xop (.box 3) [(.t 0)]),rg 2 (.alloc [(.b false),(.sl [] .nl),(.sl [] .nl)])])
 (.seq
 (.reg [rg 3 (.load (some 3) (.t 1)),rg 4 (.call 203 [(.t 3)]),rg 5 (.ext (.t 4) 0),rg 6 (.ext (.t 4) 1),rg 7 (.call 202 [(.t 5),(.t 6)]),so (.store 3 (.t 2) (.t 7))])
 (.pre (.norm false [2]) .ret)))
def b209:AX:=
 (.seq
 (.reg [rg 1 (.xop (.box 3) [(.t 0)]),rg 2 (.mov (.c (.i .i64 0)))])
 (.seq
 (.reg [rg 6 (.load (some 3) (.t 1)),rg 7 (.call 203 [(.t 6)]),mv 5 7,rg 8 (.ext (.t 5) 0),rg 9 (.ext (.t 5) 1),rg 3 (.alloc [(.b false),(.sl [] .nl)]),so (.store 2 (.t 3) (.t 8)),mv 4 9])
 (.seq
 (.reg [rg 10 (.load (some 2) (.t 3)),rg 11 (.call 37 [(.t 10)]),mv 2 11])
 (.pre (.norm false [2]) .ret))))
def b210:AX:=
 (.seq
 (.reg [rg 2 (.xop (.box 2) [(.t 0)]),rg 4 (.alloc [(.b false),(.sl [] .nl)])])
 (.seq
 (.reg [rg 5 (.load (some 2) (.t 2)),mv 6 1,rg 7 (.build [(.b false),(.sl [] .nl)] [(1,1,(.t 6))]),rg 8 (.call 27 [(.t 5),(.t 7)]),so (.store 2 (.t 4) (.t 8))])
 (.pre (.norm false [4]) .ret)))
def b211:AX:=
 (.seq
 (.reg [rg 2 (.xop (.box 3) [(.t 0)]),rg 3 (.xop (.box 3) [(.t 1)]),rg 4 (.mov (.c (.i .i64 0)))])
 (.seq
 (.reg [rg 10 (.load (some 3) (.t 2)),rg 11 (.call 203 [(.t 10)]),mv 9 11,rg 12 (.ext (.t 9) 0),rg 13 (.ext (.t 9) 1),rg 5 (.alloc [(.b false),(.sl [] .nl)]),so (.store 2 (.t 5) (.t 12)),mv 6 13])
 (.seq
 (.reg [rg 15 (.load (some 3) (.t 3)),rg 16 (.call 203 [(.t 15)]),mv 14 16,rg 17 (.ext (.t 14) 0),rg 18 (.ext (.t 14) 1),rg 7 (.alloc [(.b false),(.sl [] .nl)]),so (.store 2 (.t 7) (.t 17)),mv 8 18])
 (.seq
 (.drawT [rg 19 (.load (some 2) (.t 5)),mv 20 8,rg 21 (.call 210 [(.t 19),(.t 20)]),rg 22 (.load (some 2) (.t 7)),mv 23 6]
 [rg 24 (.call 210 [(.t 22),(.t 23)]),rg 25 (.call 36 [(.t 21),(.t 24)]),mv 4 25])
 (.pre (.norm false [4]) .ret)))))
def b212:AX:=
 (.seq
 (.reg [rg 2 (.xop (.box 3) [(.t 0)]),rg 3 (.xop (.box 3) [(.t 1)]),rg 4 (.mov (.c (.b false)))])
 (.seq
 (.reg [rg 5 (.load (some 3) (.t 2)),rg 6 (.load (some 3) (.t 3)),rg 7 (.call 211 [(.t 5),(.t 6)]),rg 8 (.bin .eql (.t 7) (.c (.i .i64 0))),mv 4 8])
 (.pre (.norm false [4]) .ret)))
def b213:AX:=
 (.seq
 (.reg [rg 1 (.xop (.box 3) [(.t 0)]),rg 2 (.alloc [(.b false),(.sl [] .nl),(.sl [] .nl)])])
 (.seq
 (.reg [rg 4 (.load (some 3) (.t 1)),rg 5 (.call 207 [(.t 4)]),rg 3 (.alloc [(.b false),(.sl [] .nl),(.sl [] .nl)]),so (.store 3 (.t 3) (.t 5))])
 (.seq
 (.reg [rg 6 (.fad 0 (.t 3)),rg 7 (.load (some 2) (.t 6)),rg 8 (.call 40 [(.t 7)]),rg 9 (.fad 0 (.t 3)),so (.store 2 (.t 9) (.t 8))])
 (.seq
 (.reg [rg 10 (.load (some 3) (.t 3)),so (.store 3 (.t 2) (.t 10))])
 (.pre (.norm false [2]) .ret)))))
def b215:AX:=
 (.seq
 (.reg [rg 2 (.xop (.box 3) [(.t 0)]),rg 3 (.xop (.box 3) [(.t 1)]),rg 4 (.alloc [(.b false),(.sl [] .nl),(.sl [] .nl)])])
 (.seq
 (.reg [rg 10 (.load (some 3) (.t 2)),rg 11 (.call 203 [(.t 10)]),mv 9 11,rg 12 (.ext (.t 9) 0),rg 13 (.ext (.t 9) 1),rg 5 (.alloc [(.b false),(.sl [] .nl)]),so (.store 2 (.t 5) (.t 12)),mv 6 13])
 (.seq
 (.reg [rg 15 (.load (some 3) (.t 3)),rg 16 (.call 203 [(.t 15)]),mv 14 16,rg 17 (.ext (.t 14) 0),rg 18 (.ext (.t 14) 1),rg 7 (.alloc [(.b false),(.sl [] .nl)]),so (.store 2 (.t 7) (.t 17)),mv 8 18])
 (.seq
 (.drawT [rg 19 (.load (some 2) (.t 5)),mv 20 8,rg 21 (.call 210 [(.t 19),(.t 20)]),rg 22 (.load (some 2) (.t 7)),mv 23 6,rg 24 (.call 210 [(.t 22),(.t 23)]),rg 25 (.call 23 [(.t 21),(.t 24)]),mv 26 6,mv 27 8]
 [rg 28 (.call 60 [(.t 26),(.t 27)]),rg 29 (.call 202 [(.t 25),(.t 28)]),so (.store 3 (.t 4) (.t 29))])
 (.pre (.norm false [4]) .ret)))))
def b216:AX:=
 (.seq
 (.reg [rg 2 (.xop (.box 3) [(.t 0)]),rg 3 (.xop (.box 3) [(.t 1)]),rg 4 (.alloc [(.b false),(.sl [] .nl),(.sl [] .nl)])])
 (.seq
 (.reg [rg 10 (.load (some 3) (.t 2)),rg 11 (.call 203 [(.t 10)]),mv 9 11,rg 12 (.ext (.t 9) 0),rg 13 (.ext (.t 9) 1),rg 5 (.alloc [(.b false),(.sl [] .nl)]),so (.store 2 (.t 5) (.t 12)),mv 6 13])
 (.seq
 (.reg [rg 15 (.load (some 3) (.t 3)),rg 16 (.call 203 [(.t 15)]),mv 14 16,rg 17 (.ext (.t 14) 0),rg 18 (.ext (.t 14) 1),rg 7 (.alloc [(.b false),(.sl [] .nl)]),so (.store 2 (.t 7) (.t 17)),mv 8 18])
 (.seq
 (.drawT [rg 19 (.load (some 2) (.t 5)),mv 20 8,rg 21 (.call 210 [(.t 19),(.t 20)]),rg 22 (.load (some 2) (.t 7)),mv 23 6,rg 24 (.call 210 [(.t 22),(.t 23)]),rg 25 (.call 25 [(.t 21),(.t 24)]),mv 26 6,mv 27 8]
 [rg 28 (.call 60 [(.t 26),(.t 27)]),rg 29 (.call 202 [(.t 25),(.t 28)]),so (.store 3 (.t 4) (.t 29))])
 (.pre (.norm false [4]) .ret)))))
def b217:AX:=
 (.seq
 (.reg [rg 2 (.xop (.box 3) [(.t 0)]),rg 3 (.xop (.box 3) [(.t 1)]),rg 4 (.alloc [(.b false),(.sl [] .nl),(.sl [] .nl)])])
 (.seq
 (.reg [rg 10 (.load (some 3) (.t 2)),rg 11 (.call 203 [(.t 10)]),mv 9 11,rg 12 (.ext (.t 9) 0),rg 13 (.ext (.t 9) 1),rg 5 (.alloc [(.b false),(.sl [] .nl)]),so (.store 2 (.t 5) (.t 12)),mv 6 13])
 (.seq
 (.reg [rg 15 (.load (some 3) (.t 3)),rg 16 (.call 203 [(.t 15)]),mv 14 16,rg 17 (.ext (.t 14) 0),rg 18 (.ext (.t 14) 1),rg 7 (.alloc [(.b false),(.sl [] .nl)]),so (.store 2 (.t 7) (.t 17)),mv 8 18])
 (.seq
 (.reg [rg 19 (.load (some 2) (.t 5)),rg 20 (.load (some 2) (.t 7)),rg 21 (.call 27 [(.t 19),(.t 20)]),mv 22 6,mv 23 8,rg 24 (.call 60 [(.t 22),(.t 23)]),rg 25 (.call 202 [(.t 21),(.t 24)]),so (.store 3 (.t 4) (.t 25))])
 (.pre (.norm false [4]) .ret)))))
def b218:AX:=
 (.seq
 (.reg [rg 2 (.xop (.box 3) [(.t 0)]),rg 3 (.xop (.box 3) [(.t 1)]),rg 4 (.alloc [(.b false),(.sl [] .nl),(.sl [] .nl)]),rg 5 (.mov (.c (.b false)))])
 (.seq
 (.reg [rg 12 (.load (some 3) (.t 2)),rg 13 (.call 203 [(.t 12)]),mv 11 13,rg 14 (.ext (.t 11) 0),rg 15 (.ext (.t 11) 1),rg 6 (.alloc [(.b false),(.sl [] .nl)]),so (.store 2 (.t 6) (.t 14)),mv 7 15])
 (.seq
 (.reg [rg 17 (.load (some 3) (.t 3)),rg 18 (.call 203 [(.t 17)]),mv 16 18,rg 19 (.ext (.t 16) 0),rg 20 (.ext (.t 16) 1),rg 8 (.alloc [(.b false),(.sl [] .nl)]),so (.store 2 (.t 8) (.t 19)),mv 9 20])
 (.seq
 (.seq
 (.reg [rg 21 (.load (some 2) (.t 8)),rg 22 (.call 37 [(.t 21)]),rg 23 (.bin .eql (.t 22) (.c (.i .i64 0)))])
 (.cond (.t 23)
 (.seq
 (.reg [rg 24 (.call 205 [(.c (.i .i64 0))]),so (.store 3 (.t 4) (.t 24)),rg 5 (.mov (.c (.b false)))])
 (.pre (.norm false [4,5]) .ret))
 .skip))
 (.seq
 (.reg [rg 25 (.load (some 2) (.t 6)),mv 26 9,rg 27 (.call 210 [(.t 25),(.t 26)]),rg 10 (.alloc [(.b false),(.sl [] .nl)]),so (.store 2 (.t 10) (.t 27))])
 (.seq
 (.reg [rg 28 (.fad 0 (.t 10)),rg 29 (.load none (.t 28)),rg 30 (.fad 0 (.t 8)),rg 31 (.load none (.t 30)),rg 32 (.eqb true (.t 29) (.t 31)),rg 33 (.fad 0 (.t 10)),so (.store 1 (.t 33) (.t 32))])
 (.seq
 (.drawT [rg 34 (.load (some 2) (.t 10)),mv 35 7,rg 36 (.fad 1 (.t 8)),rg 37 (.load none (.t 36)),rg 38 (.call 60 [(.t 35),(.t 37)])]
 [rg 39 (.call 202 [(.t 34),(.t 38)]),so (.store 3 (.t 4) (.t 39)),rg 5 (.mov (.c (.b true)))])
 (.pre (.norm false [4,5]) .ret))))))))
def row202:AFx:=⟨2,21,[.cell 4 (some 3)],b202,none,false⟩
def row203:AFx:=⟨1,13,[.cell 2 (some 2),.t 3],b203,none,false⟩
def row205:AFx:=⟨1,7,[.cell 2 (some 3)],b205,none,false⟩
def row207:AFx:=⟨1,8,[.cell 2 (some 3)],b207,none,false⟩
def row209:AFx:=⟨1,12,[.t 2],b209,none,false⟩
def row210:AFx:=⟨2,9,[.cell 4 (some 2)],b210,none,false⟩
def row211:AFx:=⟨2,26,[.t 4],b211,none,false⟩
def row212:AFx:=⟨2,9,[.t 4],b212,none,false⟩
def row213:AFx:=⟨1,11,[.cell 2 (some 3)],b213,none,false⟩
def row215:AFx:=⟨2,30,[.cell 4 (some 3)],b215,none,false⟩
def row216:AFx:=⟨2,30,[.cell 4 (some 3)],b216,none,false⟩
def row217:AFx:=⟨2,26,[.cell 4 (some 3)],b217,none,false⟩
def row218:AFx:=⟨2,40,[.cell 4 (some 3),.t 5],b218,none,false⟩
class Zq (T:Tbl):Prop where
 h202:T 202=some row202
 h203:T 203=some row203
 h205:T 205=some row205
 h207:T 207=some row207
 h209:T 209=some row209
 h210:T 210=some row210
 h211:T 211=some row211
 h212:T 212=some row212
 h213:T 213=some row213
 h215:T 215=some row215
 h216:T 216=some row216
 h217:T 217=some row217
 h218:T 218=some row218
section
variable{T:Tbl}[Zq T]{d:Option Nat}{st:St}{xs:List AV}{ps:List Opd}{e:Env}{h:Heap}{ol:List Heap}
@[simp] theorem x202:Zc (orc T) T 202 xs d st=cP T 202 false xs d st:=zab Zq.h202
@[simp] theorem x203:Zc (orc T) T 203 xs d st=cP T 203 false xs d st:=zab Zq.h203
@[simp] theorem x205:Zc (orc T) T 205 xs d st=cP T 205 false xs d st:=zab Zq.h205
@[simp] theorem y205:opD (orc T) T (.call 205 ps) e h ol=dP T 205 false ps e:=zak Zq.h205
@[simp] theorem x207:Zc (orc T) T 207 xs d st=cP T 207 false xs d st:=zab Zq.h207
@[simp] theorem y207:opD (orc T) T (.call 207 ps) e h ol=dP T 207 false ps e:=zak Zq.h207
@[simp] theorem x209:Zc (orc T) T 209 xs d st=cP T 209 false xs d st:=zab Zq.h209
@[simp] theorem x210:Zc (orc T) T 210 xs d st=cP T 210 false xs d st:=zab Zq.h210
@[simp] theorem y210:opD (orc T) T (.call 210 ps) e h ol=dP T 210 false ps e:=zak Zq.h210
@[simp] theorem x211:Zc (orc T) T 211 xs d st=cP T 211 false xs d st:=zab Zq.h211
@[simp] theorem x212:Zc (orc T) T 212 xs d st=cP T 212 false xs d st:=zab Zq.h212
@[simp] theorem x213:Zc (orc T) T 213 xs d st=cP T 213 false xs d st:=zab Zq.h213
@[simp] theorem y213:opD (orc T) T (.call 213 ps) e h ol=dP T 213 false ps e:=zak Zq.h213
@[simp] theorem x215:Zc (orc T) T 215 xs d st=cP T 215 false xs d st:=zab Zq.h215
@[simp] theorem y215:opD (orc T) T (.call 215 ps) e h ol=dP T 215 false ps e:=zak Zq.h215
@[simp] theorem x216:Zc (orc T) T 216 xs d st=cP T 216 false xs d st:=zab Zq.h216
@[simp] theorem y216:opD (orc T) T (.call 216 ps) e h ol=dP T 216 false ps e:=zak Zq.h216
@[simp] theorem x217:Zc (orc T) T 217 xs d st=cP T 217 false xs d st:=zab Zq.h217
@[simp] theorem y217:opD (orc T) T (.call 217 ps) e h ol=dP T 217 false ps e:=zak Zq.h217
@[simp] theorem x218:Zc (orc T) T 218 xs d st=cP T 218 false xs d st:=zab Zq.h218
@[simp] theorem y218:opD (orc T) T (.call 218 ps) e h ol=dP T 218 false ps e:=zak Zq.h218
end
class Zi7 (T:Tbl):Prop where
def b208:AX:=
 (.seq
 (.reg [rg 1 (.xop (.box 3) [(.t 0)]),rg 2 (.mov (.c (.b false)))])
 (.seq
 (.reg [rg 4 (.load (some 3) (.t 1)),rg 5 (.call 207 [(.t 4)]),rg 3 (.alloc [(.b false),(.sl [] .nl),(.sl [] .nl)]),so (.store 3 (.t 3) (.t 5))])
 (.seq
 (.reg [rg 6 (.fad 0 (.t 1)),rg 7 (.fad 0 (.t 6)),rg 8 (.load none (.t 7)),rg 9 (.fad 0 (.t 3)),rg 10 (.fad 0 (.t 9)),rg 11 (.load none (.t 10)),rg 12 (.eqb false (.t 8) (.t 11)),mv 13 12,gd 14 13 true (.fad 0 (.t 1)),gd 15 13 true (.fad 1 (.t 14)),gd 16 13 true (.load none (.t 15)),gd 17 13 true (.len (.t 16)),gd 18 13 true (.fad 0 (.t 3)),gd 19 13 true (.fad 1 (.t 18)),gd 20 13 true (.load none (.t 19)),gd 21 13 true (.len (.t 20)),gd 22 13 true (.bin .eql (.t 17) (.t 21)),rg 23 (.pick (.t 13) (.t 22) (.c (.b false))),mv 24 23,gd 25 24 true (.fad 2 (.t 1)),gd 26 24 true (.load none (.t 25)),gd 27 24 true (.len (.t 26)),gd 28 24 true (.fad 2 (.t 3)),gd 29 24 true (.load none (.t 28)),gd 30 24 true (.len (.t 29)),gd 31 24 true (.bin .eql (.t 27) (.t 30)),rg 32 (.pick (.t 24) (.t 31) (.c (.b false))),mv 33 32,gd 34 33 true (.fad 0 (.t 1)),gd 35 33 true (.fad 1 (.t 34)),gd 36 33 true (.load none (.t 35)),gd 37 33 true (.fad 0 (.t 3)),gd 38 33 true (.fad 1 (.t 37)),gd 39 33 true (.load none (.t 38)),gd 40 33 true (.call 87 [(.t 36),(.t 39)]),gd 41 33 true (.bin .eql (.t 40) (.c (.i .i64 0))),rg 42 (.pick (.t 33) (.t 41) (.c (.b false))),mv 43 42,gd 44 43 true (.fad 2 (.t 1)),gd 45 43 true (.load none (.t 44)),gd 46 43 true (.fad 2 (.t 3)),gd 47 43 true (.load none (.t 46)),gd 48 43 true (.call 87 [(.t 45),(.t 47)]),gd 49 43 true (.bin .eql (.t 48) (.c (.i .i64 0))),rg 50 (.pick (.t 43) (.t 49) (.c (.b false))),mv 2 50])
 (.pre (.norm false [2]) .ret))))
def l219_0:AX:=
 (.note
 (.seq
 (.reg [rg 9 (.bin .lss (.t 8) (.t 7))])
 (.seq
 (.cond (.t 9)
 .skip
 (.exit 0))
 (.seq
 (.block 1
 (.reg [mv 10 5,mv 11 0,rg 12 (.call 60 [(.t 10),(.t 11)]),mv 5 12]))
 (.reg [rg 13 (.bin .add (.t 8) (.c (.i .i64 1))),mv 8 13]))))
 (.norm false [0,5,7,8]))
def b219:AX:=
 (.seq
 (.reg [rg 4 (.mov (.c (.sl [] .nl)))])
 (.seq
 (.reg [rg 6 (.call 72 [(.c (u64 1))]),mv 5 6])
 (.seq
 (.seq
 (.reg [mv 7 1,rg 8 (.mov (.c (.i .i64 0)))])
 (.lp 0 (.norm false [0,5,7,8]) l219_0 (.norm false [5])))
 (.seq
 (.reg [mv 14 5,mv 4 14])
 (.pre (.norm false [4]) .ret)))))
def b220:AX:=
 (.seq
 (.reg [rg 2 (.xop (.box 3) [(.t 0)]),rg 4 (.alloc [(.b false),(.sl [] .nl),(.sl [] .nl)]),rg 5 (.mov (.c (.b false)))])
 (.seq
 (.seq
 (.reg [mv 10 1,rg 11 (.bin .lss (.t 10) (.c (.i .i64 (-8)))),mv 12 11,gd 13 12 false (.mov (.t 1)),gd 14 12 false (.bin .gtr (.t 13) (.c (.i .i64 8))),rg 15 (.pick (.t 12) (.c (.b true)) (.t 14)),mv 16 15,gd 17 16 false (.mov (.t 1)),gd 18 16 false (.bin .lss (.t 17) (.c (.i .i64 0))),gd 19 16 false (.mov (.t 18)),gd 20 19 true (.load (some 3) (.t 2)),gd 21 19 true (.call 209 [(.t 20)]),gd 22 19 true (.bin .eql (.t 21) (.c (.i .i64 0))),gd 23 16 false (.pick (.t 19) (.t 22) (.c (.b false))),rg 24 (.pick (.t 16) (.c (.b true)) (.t 23))])
 (.cond (.t 24)
 (.seq
 (.reg [rg 25 (.call 205 [(.c (.i .i64 0))]),so (.store 3 (.t 4) (.t 25)),rg 5 (.mov (.c (.b false)))])
 (.pre (.norm false [4,5]) .ret))
 .skip))
 (.seq
 (.reg [rg 26 (.load (some 3) (.t 2)),rg 27 (.call 207 [(.t 26)]),rg 6 (.alloc [(.b false),(.sl [] .nl),(.sl [] .nl)]),so (.store 3 (.t 6) (.t 27))])
 (.seq
 (.reg [mv 28 1,mv 29 1,rg 30 (.un .neg (.t 29)),rg 31 (.mm true [(.t 28),(.t 30)]),mv 7 31])
 (.seq
 (.drawT [rg 32 (.fad 0 (.t 6)),rg 33 (.fad 1 (.t 32)),rg 34 (.load none (.t 33)),mv 35 7,rg 36 (.call 219 [(.t 34),(.t 35)]),rg 37 (.fad 2 (.t 6)),rg 38 (.load none (.t 37)),mv 39 7]
 [rg 40 (.call 219 [(.t 38),(.t 39)]),mv 8 36,mv 9 40])
 (.seq
 (.seq
 (.reg [mv 41 1,rg 42 (.bin .lss (.t 41) (.c (.i .i64 0)))])
 (.cond (.t 42)
 (.reg [mv 43 9,mv 44 8,mv 8 43,mv 9 44])
 .skip))
 (.seq
 (.reg [rg 45 (.fad 0 (.t 6)),rg 46 (.fad 0 (.t 45)),rg 47 (.load none (.t 46)),mv 48 47,gd 49 48 true (.mov (.t 7)),gd 50 48 true (.bin .rem (.t 49) (.c (.i .i64 2))),gd 51 48 true (.bin .eql (.t 50) (.c (.i .i64 1))),rg 52 (.pick (.t 48) (.t 51) (.c (.b false))),mv 53 8,rg 54 (.build [(.b false),(.sl [] .nl)] [(0,1,(.t 52)),(1,1,(.t 53))]),rg 55 (.call 38 [(.t 54)]),mv 56 9,rg 57 (.build [(.b false),(.sl [] .nl),(.sl [] .nl)] [(0,2,(.t 55)),(2,1,(.t 56))]),so (.store 3 (.t 4) (.t 57)),rg 5 (.mov (.c (.b true)))])
 (.pre (.norm false [4,5]) .ret))))))))
def row208:AFx:=⟨1,51,[.t 2],b208,none,false⟩
def row219:AFx:=⟨2,15,[.t 4],b219,none,false⟩
def row220:AFx:=⟨2,58,[.cell 4 (some 3),.t 5],b220,none,false⟩
class Z0 (T:Tbl):Prop where
 h208:T 208=some row208
 h219:T 219=some row219
 h220:T 220=some row220
section
variable{T:Tbl}[Z0 T]{d:Option Nat}{st:St}{xs:List AV}{ps:List Opd}{e:Env}{h:Heap}{ol:List Heap}
@[simp] theorem x208:Zc (orc T) T 208 xs d st=cP T 208 false xs d st:=zab Z0.h208
@[simp] theorem x219:Zc (orc T) T 219 xs d st=cP T 219 false xs d st:=zab Z0.h219
@[simp] theorem y219:opD (orc T) T (.call 219 ps) e h ol=dP T 219 false ps e:=zak Z0.h219
@[simp] theorem x220:Zc (orc T) T 220 xs d st=cP T 220 false xs d st:=zab Z0.h220
@[simp] theorem y220:opD (orc T) T (.call 220 ps) e h ol=dP T 220 false ps e:=zak Z0.h220
end
def b223:AX:=
 (.seq
 (.reg [rg 1 (.xop (.box 3) [(.t 0)]),rg 2 (.mov (.c (.i .i64 0)))])
 (.seq
 (.drawT [rg 3 (.fad 0 (.t 1)),rg 4 (.fad 1 (.t 3)),rg 5 (.load none (.t 4)),rg 6 (.call 356 [(.t 5)]),rg 7 (.fad 2 (.t 1)),rg 8 (.load none (.t 7))]
 [rg 9 (.call 356 [(.t 8)]),rg 10 (.bin .add (.t 6) (.t 9)),mv 2 10])
 (.pre (.norm false [2]) .ret)))
def row223:AFx:=⟨1,11,[.t 2],b223,none,false⟩
class Zab (T:Tbl):Prop where
 h223:T 223=some row223
section
variable{T:Tbl}[Zab T]{d:Option Nat}{st:St}{xs:List AV}{ps:List Opd}{e:Env}{h:Heap}{ol:List Heap}
@[simp] theorem x223:Zc (orc T) T 223 xs d st=cP T 223 false xs d st:=zab Zab.h223
end
def b356:AX:=
 (.seq
 (.reg [rg 2 (.mov (.c (.i .i64 0)))])
 (.seq
 (.reg [mv 4 0,rg 5 (.call 71 [(.t 4)]),mv 0 5])
 (.seq
 (.reg [mv 6 0,rg 7 (.len (.t 6)),mv 3 7])
 (.seq
 (.seq
 (.reg [mv 8 3,rg 9 (.bin .eql (.t 8) (.c (.i .i64 0)))])
 (.cond (.t 9)
 (.seq
 (.reg [rg 2 (.mov (.c (.i .i64 0)))])
 (.pre (.norm false [2]) .ret))
 .skip))
 (.seq
 (.reg [mv 10 3,rg 11 (.bin .sub (.t 10) (.c (.i .i64 1))),rg 12 (.bin .mul (.c (.i .i64 32)) (.t 11)),mv 13 0,mv 14 3,rg 15 (.bin .sub (.t 14) (.c (.i .i64 1))),rg 16 (.iad 1 (.t 13) (.t 15)),rg 17 (.load none (.t 16)),rg 18 (.call 91 [(.t 17)]),rg 19 (.bin .add (.t 12) (.t 18)),mv 2 19])
 (.pre (.norm false [2]) .ret))))))
def row356:AFx:=⟨1,20,[.t 2],b356,none,false⟩
class Zbz (T:Tbl):Prop where
 h356:T 356=some row356
section
variable{T:Tbl}[Zbz T]{d:Option Nat}{st:St}{xs:List AV}{ps:List Opd}{e:Env}{h:Heap}{ol:List Heap}
@[simp] theorem x356:Zc (orc T) T 356 xs d st=cP T 356 false xs d st:=zab Zbz.h356
@[simp] theorem y356:opD (orc T) T (.call 356 ps) e h ol=dP T 356 false ps e:=zak Zbz.h356
end
def isD(c:UInt8):Bool:=decide (48≤c.toNat)&&decide (c.toNat≤57)
def isL(c:UInt8):Bool:=decide (97≤c.toNat)&&decide (c.toNat≤122) || decide (65≤c.toNat)&&decide (c.toNat≤90) || decide (c.toNat=95)
def Zmh:List UInt8:=[43,45,42,47,94,40,41,91,93,44,59,61]
def isS(c:UInt8):Bool:=Zmh.contains c
def Zeh(c:UInt8):Nat:=if isD c then 1 else if isL c then 2 else if isS c then 3 else 0
def Zk4(k:Nat)(c:UInt8):Bool:=decide (k=1)&&isD c || decide (k=2)&&(isL c || isD c)
def Zk5(k:Nat):Nat:=if k=1 then 60 else if k=2 then 12 else 1
def isB(c:UInt8):Bool:=decide (c=32) || decide (c=9) || decide (c=10) || decide (c=13)
abbrev Wd:=Nat×List UInt8×Nat
def Zk6:Bool→List UInt8→Nat
 | _,[]=>0
 | note,c::r=>
  let note':=if c=35 then true else if c=10 then false else note
  if (note' || isB c)=true then 1+Zk6 note' r else 0
def Zgb(k:Nat)(r:List UInt8):Nat:=1+(r.takeWhile (Zk4 k)).length
def Zmi(l:List UInt8)(i:Nat)(acc:List Wd):Except Nat (List Wd):=
 match l with
 | []=>.ok acc
 | c::r=>
  if Zeh c=0 then .error i
  else if Zk5 (Zeh c)<Zgb (Zeh c) r then .error (i+Zk5 (Zeh c))
  else Zmi ((r.drop (Zgb (Zeh c) r-1)).drop (Zk6 false (r.drop (Zgb (Zeh c) r-1)))) (i+Zgb (Zeh c) r+Zk6 false (r.drop (Zgb (Zeh c) r-1)))
   (acc++[(Zeh c,(c::r).take (Zgb (Zeh c) r),i)])
termination_by l.length
decreasing_by simp;omega
def Zk7(c:UInt8)(i:Nat)(acc:List Wd):List Wd:=
 match acc.getLast? with
 | some (k,t,a)=>if a+t.length=i∧Zk4 k c=true then acc.dropLast++[(k,t++[c],a)] else acc++[(Zeh c,[c],i)]
 | none=>acc++[(Zeh c,[c],i)]
def Zmj(acc:List Wd):Bool:=
 match acc.getLast? with
 | some (k,t,_)=>decide (k=0) || decide (Zk5 k<t.length)
 | none=>false
def Zmk:List UInt8→Nat→Bool→List Wd→Except Nat (List Wd)
 | [],_,_,acc=>.ok acc
 | c::r,i,note,acc=>
  let note':=if c=35 then true else if c=10 then false else note
  if (note' || isB c)=true then Zmk r (i+1) note' acc
  else if Zmj (Zk7 c i acc)=true then .error i
  else Zmk r (i+1) note' (Zk7 c i acc)
def Znx(acc:List Wd)(i:Nat)(l:List UInt8):Prop:=∀k t a,acc.getLast? = some (k,t,a)→a+t.length=i→∀c r,l=c::r→Zk4 k c=false
def prim187:List AV→Option AV
 | [.i .u8 n]=>if 0≤n∧n<256 then some (.b (isS (UInt8.ofNat n.toNat))) else none
 | _=>none
def prim184:List AV→Option AV
 | [.s l,.s [10]]=>if l.length≤1000000 then some (.tup [.s (l.takeWhile (· != 10)),.s ((l.dropWhile (· != 10)).drop 1),.b (l.contains 10)]) else none
 | _=>none
def textOf:List AV→Option (List UInt8)
 | [.s l]=>if l.length≤10000 then some l else none
 | _=>none
def prim183:List AV→Option AV
 | [.sl els .an,.s sep]=>if els.length≤1000∧sep.length≤100 then (els.mapM textOf).map fun ts=>.s (List.intercalate sep ts) else none
 | _=>none
def Zby(l:List (List UInt8)):List (List AV):=l.map fun s=>[.s s]
@[simp] theorem zdf(l:List (List UInt8)):(Zby l).length=l.length:=by simp[Zby]
@[simp] theorem zz6(l:List (List UInt8)):wkL (Zby l)=Zby l:=by
 induction l with
 | nil=>rfl
 | cons x l ih=>simpa[Zby,wkL,wkR]using ih
theorem zsz(l:List (List UInt8))(s:List UInt8):wkL (List.take l.length (Zby l)++[[AV.s s]])=Zby (l++[s]):=by
 rw[Yb (by simp),show Zby l++[[AV.s s]]=Zby (l++[s]) by simp[Zby],zz6]
theorem zpa(l:List (List UInt8))(h:∀s∈l,s.length≤10000):(Zby l).mapM textOf=some l:=by
 induction l with
 | nil=>rfl
 | cons x l ih=>
  have e:textOf [.s x]=some x:=by simp[textOf,h x Yaa]
  rw[show Zby (x::l)=[.s x]::Zby l from rfl,Ybi,e,ih fun s hs=>h s (Ys _ hs)]
  rfl
theorem zke:∀{els:List (List AV)} {ts:List (List UInt8)},els.mapM textOf=some ts→els=Zby ts∧∀t∈ts,t.length≤10000
 | [],ts,h=>by cases h;exact⟨rfl,by simp⟩
 | r::els,ts,h=>by
  rw[Ybi]at h;obtain⟨x,hx,h1⟩:=bind_some h;obtain⟨y,hy,h2⟩:=bind_some h1;cases h2;obtain⟨e1,e2⟩:=zke hy;unfold textOf at hx;split at hx
  ·split at hx
   ·cases hx;rename_i hl;subst e1;exact⟨rfl,fun t ht=>(Y5.1 ht).elim (fun h=>h▸hl) (e2 t)⟩
   ·cases hx
  ·cases hx
theorem zs0(l:List (List UInt8))(sep:List UInt8)(h:∀s∈l,s.length≤10000)(hl:l.length≤1000)(hs:sep.length≤100):prim183 [.sl (Zby l) .an,.s sep]=some (.s (List.intercalate sep l)):=by
 simp only[prim183,zdf,hl,hs,and_self,if_true,zpa l h,Ybp]
def row183:AFx:=⟨0,0,[],.prim prim183,none,false⟩
class Zax (T:Tbl):Prop where
 h183:T 183=some row183
section
variable{T:Tbl}[Zax T]{d:Option Nat}{st:St}{xs:List AV}{ps:List Opd}{e:Env}{h:Heap}{ol:List Heap}
@[simp] theorem x183:Zc (orc T) T 183 xs d st=cP T 183 false xs d st:=zab Zax.h183
theorem p183(xs:List AV):Zb T 183 xs=prim183 xs:=zjt Zax.h183
end
def b251:AX:=
 (.seq
 (.reg [rg 1 (.xop (.box 3) [(.t 0)]),rg 2 (.mov (.c (.s [])))])
 (.seq
 (.reg [rg 4 (.load (some 3) (.t 1)),rg 5 (.call 207 [(.t 4)]),so (.store 3 (.t 1) (.t 5))])
 (.seq
 (.reg [rg 6 (.fad 0 (.t 1)),rg 7 (.load (some 2) (.t 6)),rg 8 (.call 34 [(.t 7)]),mv 3 8])
 (.seq
 (.seq
 (.drawT [rg 9 (.fad 2 (.t 1)),rg 10 (.load none (.t 9)),rg 11 (.call 72 [(.c (u64 1))])]
 [rg 12 (.call 87 [(.t 10),(.t 11)]),rg 13 (.bin .neq (.t 12) (.c (.i .i64 0)))])
 (.cond (.t 13)
 (.reg [mv 14 3,rg 15 (.fad 2 (.t 1)),rg 16 (.load none (.t 15)),rg 17 (.call 68 [(.t 16)]),rg 18 (.bin .add (.c (.s [47])) (.t 17)),rg 19 (.bin .add (.t 14) (.t 18)),mv 3 19])
 .skip))
 (.seq
 (.reg [mv 20 3,mv 2 20])
 (.pre (.norm false [2]) .ret))))))
def l263_0:AX:=
 (.note
 (.seq
 (.reg [rg 12 (.bin .lss (.t 11) (.t 10))])
 (.seq
 (.cond (.t 12)
 .skip
 (.exit 0))
 (.seq
 (.block 1
 (.seq
 (.reg [mv 13 11,mv 4 13])
 (.reg [mv 14 3,mv 15 4,rg 16 (.call 205 [(.c (.i .i64 0))]),rg 17 (.iad 3 (.t 14) (.t 15)),so (.store 3 (.t 17) (.t 16))])))
 (.reg [rg 18 (.bin .add (.t 11) (.c (.i .i64 1))),mv 11 18]))))
 (.norm false [3,10,11]))
def b263:AX:=
 (.seq
 (.reg [rg 2 (.mov (.c (.sl [] .nl)))])
 (.seq
 (.reg [mv 5 0,rg 6 (.mm true [(.t 5),(.c (.i .i64 0))]),rg 7 (.mm false [(.t 6),(.c (.i .i64 300))]),mv 0 7])
 (.seq
 (.reg [mv 8 0,rg 9 (.mks 3 [(.b false),(.sl [] .nl),(.sl [] .nl)] (.t 8) (.t 8)),mv 3 9])
 (.seq
 (.seq
 (.reg [mv 10 0,rg 11 (.mov (.c (.i .i64 0)))])
 (.lp 0 (.norm false [3,10,11]) l263_0 (.norm false [3])))
 (.seq
 (.reg [mv 19 3,mv 2 19])
 (.pre (.norm false [2]) .ret))))))
def b264:AX:=
 (.seq
 (.reg [rg 4 (.mov (.c (.sl [] .nl)))])
 (.seq
 (.reg [mv 6 0,rg 7 (.call 2263 [(.t 6)]),mv 5 7])
 (.seq
 (.seq
 (.reg [mv 8 1,rg 9 (.bin .geq (.t 8) (.c (.i .i64 0))),mv 10 9,gd 11 10 true (.mov (.t 1)),gd 12 10 true (.mov (.t 5)),gd 13 10 true (.len (.t 12)),gd 14 10 true (.bin .lss (.t 11) (.t 13)),rg 15 (.pick (.t 10) (.t 14) (.c (.b false)))])
 (.cond (.t 15)
 (.reg [mv 16 5,mv 17 1,rg 18 (.call 205 [(.c (.i .i64 1))]),rg 19 (.iad 3 (.t 16) (.t 17)),so (.store 3 (.t 19) (.t 18))])
 .skip))
 (.seq
 (.reg [mv 20 5,mv 4 20])
 (.pre (.norm false [4]) .ret)))))
def l265_0:AX:=
 (.note
 (.seq
 (.reg [rg 14 (.bin .lss (.t 13) (.t 12))])
 (.seq
 (.cond (.t 14)
 .skip
 (.exit 0))
 (.seq
 (.block 1
 (.seq
 (.reg [mv 15 13,mv 5 15])
 (.seq
 (.drawT [mv 16 0,mv 17 5,rg 18 (.iad 3 (.t 16) (.t 17)),rg 19 (.load (some 3) (.t 18)),mv 20 1,mv 21 5,rg 22 (.iad 3 (.t 20) (.t 21)),rg 23 (.load (some 3) (.t 22))]
 [rg 24 (.call 212 [(.t 19),(.t 23)]),rg 25 (.un .not (.t 24))])
 (.cond (.t 25)
 (.seq
 (.reg [rg 4 (.mov (.c (.b false)))])
 (.pre (.norm false [4]) .ret))
 .skip))))
 (.reg [rg 26 (.bin .add (.t 13) (.c (.i .i64 1))),mv 13 26]))))
 (.norm false [0,1,12,13]))
def b265:AX:=
 (.seq
 (.reg [rg 4 (.mov (.c (.b false)))])
 (.seq
 (.seq
 (.reg [mv 6 0,rg 7 (.len (.t 6)),mv 8 1,rg 9 (.len (.t 8)),rg 10 (.bin .neq (.t 7) (.t 9))])
 (.cond (.t 10)
 (.seq
 (.reg [rg 4 (.mov (.c (.b false)))])
 (.pre (.norm false [4]) .ret))
 .skip))
 (.seq
 (.seq
 (.reg [mv 11 0,rg 12 (.len (.t 11)),rg 13 (.mov (.c (.i .i64 0)))])
 (.lp 0 (.norm false [0,1,12,13]) l265_0 (.norm false [])))
 (.seq
 (.reg [rg 4 (.mov (.c (.b true)))])
 (.pre (.norm false [4]) .ret)))))
def l270_0:AX:=
 (.note
 (.seq
 (.reg [rg 19 (.bin .lss (.t 18) (.t 17))])
 (.seq
 (.cond (.t 19)
 .skip
 (.exit 0))
 (.seq
 (.block 1
 (.seq
 (.reg [mv 20 18,rg 21 (.iad 3 (.t 16) (.t 18)),rg 22 (.load (some 3) (.t 21)),rg 8 (.alloc [(.b false),(.sl [] .nl),(.sl [] .nl)]),mv 7 20,so (.store 3 (.t 8) (.t 22))])
 (.drawT [rg 23 (.load (some 3) (.t 6)),rg 24 (.load (some 3) (.t 8)),mv 25 1,mv 26 7,rg 27 (.iad 3 (.t 25) (.t 26)),rg 28 (.load (some 3) (.t 27)),rg 29 (.call 217 [(.t 24),(.t 28)])]
 [rg 30 (.call 215 [(.t 23),(.t 29)]),so (.store 3 (.t 6) (.t 30))])))
 (.reg [rg 31 (.bin .add (.t 18) (.c (.i .i64 1))),mv 18 31]))))
 (.norm false [1,4,6,16,17,18]))
def b270:AX:=
 (.seq
 (.reg [rg 4 (.alloc [(.b false),(.sl [] .nl),(.sl [] .nl)]),rg 5 (.mov (.c (.b false)))])
 (.seq
 (.reg [rg 9 (.call 205 [(.c (.i .i64 0))]),rg 6 (.alloc [(.b false),(.sl [] .nl),(.sl [] .nl)]),so (.store 3 (.t 6) (.t 9))])
 (.seq
 (.seq
 (.reg [mv 10 0,rg 11 (.len (.t 10)),mv 12 1,rg 13 (.len (.t 12)),rg 14 (.bin .neq (.t 11) (.t 13))])
 (.cond (.t 14)
 (.seq
 (.reg [rg 15 (.load (some 3) (.t 6)),so (.store 3 (.t 4) (.t 15)),rg 5 (.mov (.c (.b false)))])
 (.pre (.norm false [4,5]) .ret))
 .skip))
 (.seq
 (.seq
 (.reg [mv 16 0,rg 17 (.len (.t 16)),rg 18 (.mov (.c (.i .i64 0)))])
 (.lp 0 (.norm false [1,4,6,16,17,18]) l270_0 (.norm false [4,6])))
 (.seq
 (.reg [rg 32 (.load (some 3) (.t 6)),so (.store 3 (.t 4) (.t 32)),rg 5 (.mov (.c (.b true)))])
 (.pre (.norm false [4,5]) .ret))))))
def l274_0:AX:=
 (.note
 (.seq
 (.reg [rg 9 (.bin .lss (.t 8) (.t 7))])
 (.seq
 (.cond (.t 9)
 .skip
 (.exit 0))
 (.seq
 (.block 1
 (.seq
 (.reg [rg 10 (.iad 3 (.t 6) (.t 8)),rg 11 (.load (some 3) (.t 10)),rg 5 (.alloc [(.b false),(.sl [] .nl),(.sl [] .nl)]),so (.store 3 (.t 5) (.t 11))])
 (.reg [mv 12 3,rg 13 (.load (some 3) (.t 5)),rg 14 (.call 251 [(.t 13)]),rg 15 (.bsl 1 [(.s [])] 1 [(0,(.t 14))]),rg 16 (.app 1 (.t 12) (.t 15)),mv 3 16])))
 (.reg [rg 17 (.bin .add (.t 8) (.c (.i .i64 1))),mv 8 17]))))
 (.norm false [3,6,7,8]))
def b274:AX:=
 (.seq
 (.reg [rg 2 (.mov (.c (.s [])))])
 (.seq
 (.note (.reg [rg 3 (.mov (.c (.sl [] .nl)))]) (.nil 3 1))
 (.seq
 (.seq
 (.reg [mv 6 0,rg 7 (.len (.t 6)),rg 8 (.mov (.c (.i .i64 0)))])
 (.lp 0 (.norm false [3,6,7,8]) l274_0 (.norm false [3])))
 (.seq
 (.reg [mv 18 3,rg 19 (.call 183 [(.t 18),(.c (.s [44]))]),mv 2 19])
 (.pre (.norm false [2]) .ret)))))
def l2263_0:AX:=
 (.note
 (.seq
 (.reg [rg 12 (.bin .lss (.t 11) (.t 10))])
 (.seq
 (.cond (.t 12)
 .skip
 (.exit 0))
 (.seq
 (.block 1
 (.seq
 (.reg [mv 13 11,mv 4 13])
 (.reg [mv 14 3,mv 15 4,rg 16 (.call 205 [(.c (.i .i64 0))]),rg 17 (.iad 3 (.t 14) (.t 15)),so (.store 3 (.t 17) (.t 16))])))
 (.reg [rg 18 (.bin .add (.t 11) (.c (.i .i64 1))),mv 11 18]))))
 (.norm false [3,10,11]))
def b2263:AX:=
 (.seq
 (.reg [rg 2 (.mov (.c (.sl [] .nl)))])
 (.seq
 (.reg [mv 5 0,rg 6 (.mm true [(.t 5),(.c (.i .i64 0))]),rg 7 (.mm false [(.t 6),(.c (.i .i64 300))]),mv 0 7])
 (.seq
 (.reg [mv 8 0,rg 9 (.mks 3 [(.b false),(.sl [] .nl),(.sl [] .nl)] (.t 8) (.t 8)),mv 3 9])
 (.seq
 (.seq
 (.reg [mv 10 0,rg 11 (.mov (.c (.i .i64 0)))])
 (.lp 0 (.norm false [3,10,11]) l2263_0 (.norm false [3])))
 (.seq
 (.reg [mv 19 3,mv 2 19])
 (.pre (.norm false [2]) .ret))))))
def row251:AFx:=⟨1,21,[.t 2],b251,none,false⟩
def row263:AFx:=⟨1,20,[.t 2],b263,none,false⟩
def row264:AFx:=⟨2,21,[.t 4],b264,none,false⟩
def row265:AFx:=⟨2,27,[.t 4],b265,none,false⟩
def row270:AFx:=⟨2,33,[.cell 4 (some 3),.t 5],b270,none,false⟩
def row274:AFx:=⟨1,20,[.t 2],b274,none,false⟩
def row2263:AFx:=⟨1,20,[.t 2],b2263,(some [false]),false⟩
class Za6 (T:Tbl):Prop where
 h251:T 251=some row251
 h263:T 263=some row263
 h264:T 264=some row264
 h265:T 265=some row265
 h270:T 270=some row270
 h274:T 274=some row274
 h2263:T 2263=some row2263
section
variable{T:Tbl}[Za6 T]{d:Option Nat}{st:St}{xs:List AV}{ps:List Opd}{e:Env}{h:Heap}{ol:List Heap}
@[simp] theorem x251:Zc (orc T) T 251 xs d st=cP T 251 false xs d st:=zab Za6.h251
@[simp] theorem x263:Zc (orc T) T 263 xs d st=cP T 263 false xs d st:=zab Za6.h263
@[simp] theorem y263:opD (orc T) T (.call 263 ps) e h ol=dP T 263 false ps e:=zak Za6.h263
@[simp] theorem x264:Zc (orc T) T 264 xs d st=cP T 264 false xs d st:=zab Za6.h264
@[simp] theorem y264:opD (orc T) T (.call 264 ps) e h ol=dP T 264 false ps e:=zak Za6.h264
@[simp] theorem x265:Zc (orc T) T 265 xs d st=cP T 265 false xs d st:=zab Za6.h265
@[simp] theorem y270:opD (orc T) T (.call 270 ps) e h ol=dP T 270 false ps e:=zak Za6.h270
@[simp] theorem x274:Zc (orc T) T 274 xs d st=cP T 274 false xs d st:=zab Za6.h274
@[simp] theorem x2263:Zc (orc T) T 2263 xs d st=cL T 2263 false [false] xs d st:=zal Za6.h2263
end
class Zlq (T:Tbl):Prop where
class Zlr (T:Tbl):Prop where
def l43_0:AX:=
 (.note
 (.seq
 (.seq
 (.reg [mv 6 3,rg 7 (.bin .gtr (.t 6) (.c (.i .i64 0))),mv 8 7,gd 9 8 true (.mov (.t 0)),gd 10 8 true (.mov (.t 3)),gd 11 8 true (.bin .sub (.t 10) (.c (.i .i64 1))),gd 12 8 true (.iad 1 (.t 9) (.t 11)),gd 13 8 true (.load none (.t 12)),gd 14 8 true (.bin .eql (.t 13) (.c (u32 0))),rg 15 (.pick (.t 8) (.t 14) (.c (.b false)))])
 (.cond (.t 15)
 .skip
 (.exit 0)))
 (.block 1
 (.reg [mv 16 3,rg 17 (.bin .sub (.t 16) (.c (.i .i64 1))),mv 3 17])))
 (.norm false [0,3]))
def b43:AX:=
 (.seq
 (.reg [rg 2 (.mov (.c (.sl [] .nl)))])
 (.seq
 (.reg [mv 4 0,rg 5 (.len (.t 4)),mv 3 5])
 (.seq
 (.lp 0 (.norm false [0,3]) l43_0 (.norm false [0,3]))
 (.seq
 (.reg [rg 18 (.bsl 1 [(u32 0)] 0 []),mv 19 0,mv 20 3,rg 21 (.slc 1 (.t 19) none (some (.t 20)) none),rg 22 (.app 1 (.t 18) (.t 21)),mv 2 22])
 (.pre (.norm false [2]) .ret)))))
def b84:AX:=
 (.seq
 (.reg [rg 4 (.mov (.c (u32 0)))])
 (.seq
 (.seq
 (.reg [mv 5 1,mv 6 0,rg 7 (.len (.t 6)),rg 8 (.bin .lss (.t 5) (.t 7))])
 (.cond (.t 8)
 (.seq
 (.reg [mv 9 0,mv 10 1,rg 11 (.iad 1 (.t 9) (.t 10)),rg 12 (.load none (.t 11)),mv 4 12])
 (.pre (.norm false [4]) .ret))
 .skip))
 (.seq
 (.reg [rg 4 (.mov (.c (u32 0)))])
 (.pre (.norm false [4]) .ret))))
def l52_0:AX:=
 (.note
 (.seq
 (.seq
 (.reg [mv 14 5,rg 15 (.bin .geq (.t 14) (.c (.i .i64 0)))])
 (.cond (.t 15)
 .skip
 (.exit 0)))
 (.seq
 (.block 1
 (.seq
 (.reg [mv 18 0,mv 19 5,rg 20 (.call 84 [(.t 18),(.t 19)]),mv 6 20])
 (.seq
 (.reg [mv 21 1,mv 22 5,rg 23 (.call 84 [(.t 21),(.t 22)]),mv 7 23])
 (.seq
 (.seq
 (.reg [mv 24 6,mv 25 7,rg 26 (.bin .lss (.t 24) (.t 25))])
 (.cond (.t 26)
 (.seq
 (.reg [rg 4 (.mov (.c (.i .i64 (-1))))])
 (.pre (.norm false [4]) .ret))
 .skip))
 (.seq
 (.reg [mv 27 6,mv 28 7,rg 29 (.bin .gtr (.t 27) (.t 28))])
 (.cond (.t 29)
 (.seq
 (.reg [rg 4 (.mov (.c (.i .i64 1)))])
 (.pre (.norm false [4]) .ret))
 .skip))))))
 (.reg [mv 16 5,rg 17 (.bin .sub (.t 16) (.c (.i .i64 1))),mv 5 17])))
 (.norm false [0,1,5]))
def b52:AX:=
 (.seq
 (.reg [rg 4 (.mov (.c (.i .i64 0)))])
 (.seq
 (.seq
 (.reg [mv 8 0,rg 9 (.len (.t 8)),mv 10 1,rg 11 (.len (.t 10)),rg 12 (.mm true [(.t 9),(.t 11)]),rg 13 (.bin .sub (.t 12) (.c (.i .i64 1))),mv 5 13])
 (.lp 0 (.norm false [0,1,5]) l52_0 (.norm false [])))
 (.seq
 (.reg [rg 4 (.mov (.c (.i .i64 0)))])
 (.pre (.norm false [4]) .ret))))
def l54_0:AX:=
 (.note
 (.seq
 (.seq
 (.reg [mv 11 5,mv 12 0,rg 13 (.len (.t 12)),rg 14 (.bin .lss (.t 11) (.t 13))])
 (.cond (.t 14)
 .skip
 (.exit 0)))
 (.seq
 (.block 1
 (.seq
 (.drawT [mv 17 0,mv 18 5,rg 19 (.iad 1 (.t 17) (.t 18)),rg 20 (.load none (.t 19)),mv 21 1,mv 22 5,rg 23 (.iad 1 (.t 21) (.t 22)),rg 24 (.load none (.t 23))]
 [rg 25 (.bin .neq (.t 20) (.t 24))])
 (.cond (.t 25)
 (.seq
 (.reg [rg 4 (.mov (.c (.b false)))])
 (.pre (.norm false [4]) .ret))
 .skip)))
 (.reg [mv 15 5,rg 16 (.bin .add (.t 15) (.c (.i .i64 1))),mv 5 16])))
 (.norm false [0,1,5]))
def b54:AX:=
 (.seq
 (.reg [rg 4 (.mov (.c (.b false)))])
 (.seq
 (.seq
 (.reg [mv 6 0,rg 7 (.len (.t 6)),mv 8 1,rg 9 (.len (.t 8)),rg 10 (.bin .neq (.t 7) (.t 9))])
 (.cond (.t 10)
 (.seq
 (.reg [rg 4 (.mov (.c (.b false)))])
 (.pre (.norm false [4]) .ret))
 .skip))
 (.seq
 (.seq
 (.reg [rg 5 (.mov (.c (.i .i64 0)))])
 (.lp 0 (.norm false [0,1,5]) l54_0 (.norm false [])))
 (.seq
 (.reg [rg 4 (.mov (.c (.b true)))])
 (.pre (.norm false [4]) .ret)))))
def l58_0:AX:=
 (.note
 (.seq
 (.seq
 (.reg [mv 17 8,mv 18 5,rg 19 (.bin .lss (.t 17) (.t 18))])
 (.cond (.t 19)
 .skip
 (.exit 0)))
 (.seq
 (.block 1
 (.seq
 (.reg [mv 22 7,mv 23 0,mv 24 8,rg 25 (.call 84 [(.t 23),(.t 24)]),rg 26 (.conv .u64 (.t 25)),mv 27 1,mv 28 8,rg 29 (.call 84 [(.t 27),(.t 28)]),rg 30 (.conv .u64 (.t 29)),rg 31 (.bin .add (.t 26) (.t 30)),rg 32 (.bin .add (.t 22) (.t 31)),mv 7 32])
 (.seq
 (.reg [mv 33 6,mv 34 8,mv 35 7,rg 36 (.bin .rem (.t 35) (.c (u64 4294967296))),rg 37 (.conv .u32 (.t 36)),rg 38 (.iad 1 (.t 33) (.t 34)),so (.store 1 (.t 38) (.t 37))])
 (.reg [mv 39 7,rg 40 (.bin .quo (.t 39) (.c (u64 4294967296))),mv 7 40]))))
 (.reg [mv 20 8,rg 21 (.bin .add (.t 20) (.c (.i .i64 1))),mv 8 21])))
 (.norm false [0,1,5,6,7,8]))
def b58:AX:=
 (.seq
 (.reg [rg 4 (.mov (.c (.sl [] .nl)))])
 (.seq
 (.reg [mv 9 0,rg 10 (.len (.t 9)),mv 11 1,rg 12 (.len (.t 11)),rg 13 (.mm true [(.t 10),(.t 12)]),rg 14 (.bin .add (.t 13) (.c (.i .i64 1))),mv 5 14])
 (.seq
 (.reg [mv 15 5,rg 16 (.mks 1 [(u32 0)] (.t 15) (.t 15)),mv 6 16])
 (.seq
 (.reg [rg 7 (.mov (.c (u64 0)))])
 (.seq
 (.seq
 (.reg [rg 8 (.mov (.c (.i .i64 0)))])
 (.lp 0 (.norm false [0,1,5,6,7,8]) l58_0 (.norm false [6])))
 (.seq
 (.reg [mv 41 6,rg 42 (.call 43 [(.t 41)]),mv 4 42])
 (.pre (.norm false [4]) .ret)))))))
def l59_0:AX:=
 (.note
 (.seq
 (.seq
 (.reg [mv 18 8,mv 19 5,rg 20 (.bin .lss (.t 18) (.t 19))])
 (.cond (.t 20)
 .skip
 (.exit 0)))
 (.seq
 (.block 1
 (.seq
 (.reg [mv 23 0,mv 24 8,rg 25 (.call 84 [(.t 23),(.t 24)]),rg 26 (.conv .u64 (.t 25)),mv 9 26])
 (.seq
 (.reg [mv 27 1,mv 28 8,rg 29 (.call 84 [(.t 27),(.t 28)]),rg 30 (.conv .u64 (.t 29)),mv 31 7,rg 32 (.bin .add (.t 30) (.t 31)),mv 10 32])
 (.seq
 (.reg [rg 7 (.mov (.c (u64 0)))])
 (.seq
 (.seq
 (.reg [mv 33 9,mv 34 10,rg 35 (.bin .lss (.t 33) (.t 34))])
 (.cond (.t 35)
 (.seq
 (.reg [mv 36 9,rg 37 (.bin .add (.t 36) (.c (u64 4294967296))),mv 9 37])
 (.reg [rg 7 (.mov (.c (u64 1)))]))
 .skip))
 (.reg [mv 38 6,mv 39 8,mv 40 9,mv 41 10,rg 42 (.bin .sub (.t 40) (.t 41)),rg 43 (.conv .u32 (.t 42)),rg 44 (.iad 1 (.t 38) (.t 39)),so (.store 1 (.t 44) (.t 43))]))))))
 (.reg [mv 21 8,rg 22 (.bin .add (.t 21) (.c (.i .i64 1))),mv 8 22])))
 (.norm false [0,1,5,6,7,8]))
def b59:AX:=
 (.seq
 (.reg [rg 4 (.mov (.c (.sl [] .nl)))])
 (.seq
 (.reg [mv 11 0,rg 12 (.len (.t 11)),mv 13 1,rg 14 (.len (.t 13)),rg 15 (.mm true [(.t 12),(.t 14)]),mv 5 15])
 (.seq
 (.reg [mv 16 5,rg 17 (.mks 1 [(u32 0)] (.t 16) (.t 16)),mv 6 17])
 (.seq
 (.reg [rg 7 (.mov (.c (u64 0)))])
 (.seq
 (.seq
 (.reg [rg 8 (.mov (.c (.i .i64 0)))])
 (.lp 0 (.norm false [0,1,5,6,7,8]) l59_0 (.norm false [6])))
 (.seq
 (.reg [mv 45 6,rg 46 (.call 43 [(.t 45)]),mv 4 46])
 (.pre (.norm false [4]) .ret)))))))
def row43:AFx:=⟨1,23,[.t 2],b43,none,false⟩
def row84:AFx:=⟨2,13,[.t 4],b84,none,false⟩
def row52:AFx:=⟨2,30,[.t 4],b52,none,false⟩
def row54:AFx:=⟨2,26,[.t 4],b54,none,false⟩
def row58:AFx:=⟨2,43,[.t 4],b58,none,false⟩
def row59:AFx:=⟨2,47,[.t 4],b59,none,false⟩
class Zai (T:Tbl):Prop where
 h43:T 43=some row43
 h84:T 84=some row84
 h52:T 52=some row52
 h54:T 54=some row54
 h58:T 58=some row58
 h59:T 59=some row59
section
variable{T:Tbl}[Zai T]{d:Option Nat}{st:St}
@[simp] theorem x43(xs:List AV):Zc (orc T) T 43 xs d st=cP T 43 false xs d st:=zab Zai.h43
@[simp] theorem x84(xs:List AV):Zc (orc T) T 84 xs d st=cP T 84 false xs d st:=zab Zai.h84
@[simp] theorem x52(xs:List AV):Zc (orc T) T 52 xs d st=cP T 52 false xs d st:=zab Zai.h52
@[simp] theorem x54(xs:List AV):Zc (orc T) T 54 xs d st=cP T 54 false xs d st:=zab Zai.h54
@[simp] theorem x58(xs:List AV):Zc (orc T) T 58 xs d st=cP T 58 false xs d st:=zab Zai.h58
@[simp] theorem y58{e:Env}{h:Heap}{older:List Heap}(args:List Opd):opD (orc T) T (.call 58 args) e h older=dR (Zb T 58 ((args.map (ev e.get)).map (wkIf false))) (args.map (ev e.get)):=zak Zai.h58
@[simp] theorem y59{e:Env}{h:Heap}{older:List Heap}(args:List Opd):opD (orc T) T (.call 59 args) e h older=dR (Zb T 59 ((args.map (ev e.get)).map (wkIf false))) (args.map (ev e.get)):=zak Zai.h59
end
section
variable{T:Tbl}
theorem zej(a:List UInt32)(hl:a.length<9223372036854775808){n:Nat}(hn:n≤a.length)(h0:∀(i:Nat) (x:UInt32),n≤i→a[i]? = some x→x.toNat=0)(h1:∀x:UInt32,0<n→a[n-1]? = some x→x.toNat≠0) :
  ∀m:Nat,(n≤m∧m≤a.length)→Zn T 0 0 (.norm false [0,3]) l43_0 ⟨[(0,.sl (Za a) .an),(3,.i .i64 (m:Int))],[],2⟩=some (.n,⟨[(0,.sl (Za a) .an),(3,.i .i64 (n:Int))],[],2⟩):=by
 refine zaz (fun m:Nat=>⟨[(0,.sl (Za a) .an),(3,.i .i64 (m:Int))],[],2⟩) _ (fun m=>m) _ ?_
 rintro m ⟨hm,hma⟩
 by_cases h2:m=0
 ·right;subst h2;have:n=0:=by omega
  subst this;constructor<;>simp[l43_0]
 ·have hw:IntKind.wrap .i64 ((m:Int)-1)=((m-1:Nat):Int):=by rw[zad _ (by omega)];omega
  have hm1:m-1<a.length:=by omega
  have hg:a[m-1]? = some (a[m-1]'hm1):=Ya hm1;have hpos:0<m:=by omega
  by_cases h3:m=n
  ·right;subst h3;have hx:=h1 _ hpos hg;constructor<;>simp[l43_0,hpos,hw,hm1,hx]
  ·left;refine⟨m-1,⟨by omega,by omega⟩,by show m-1<m;omega,?_,rfl⟩;have hx:=h0 (m-1) _ (by omega) hg;simp[l43_0,hpos,hw,hm1,hx]
end
section
variable{T:Tbl}[Zai T]
theorem zbm(a:List UInt32)(hl:a.length≤1000000):Zb T 43 [.sl (Za a) .an]=some (.sl (Za (ofN (val a))) .an):=by
 obtain⟨n,h1,h2,h3,h4⟩:=zgb a;have hr:=zej (T:=T) a (by omega) h1 h3 h4 a.length ⟨h1,Yh _⟩;have hlen:(ofN (val a)).length=n:=by rw[←h2];simp;omega
 have hb:n≤4294967296:=by omega
 have hb2:(ofN (val a)).length≤4294967296:=by omega
 rw[zaa Zai.h43 rfl,b43];simp[hr,h1,h2,hlen,hb];rw[Yb (by omega)]
def atW(a:List UInt32)(i:Nat):Nat:=(a[i]?.map UInt32.toNat).getD 0
theorem zin(a:List UInt32)(i:Nat):atW a i<4294967296:=by
 unfold atW;cases a[i]? with
 | none=>decide
 | some x=>exact zam x
theorem zbg(a:List UInt32)(i:Nat):val (a.take (i+1))=val (a.take i)+4294967296^i*atW a i:=by
 unfold atW;cases h:a[i]? with
 | some x=>exact zaf h
 | none=>
  have:a.length≤i:=by
   rcases Yq i a.length with h1 | h1
   ·rw[Ya h1]at h;cases h
   ·exact h1
  rw[zba (by omega),zba this];simp
theorem zde(a:List UInt32)(i:Nat)(_hl:a.length≤1000000):Zb T 84 [.sl (Za a) .an,.i .i64 i]=some (u32 (atW a i)):=by
 rw[zaa Zai.h84 rfl,b84];unfold atW;by_cases h:i<a.length
 ·have hg:a[i]? = some (a[i]'h):=Ya h;simp[h]
 ·have hg:a[i]? = none:=Yah (by omega);simp[h]
theorem zjb(a b:List UInt32)(hl:a.length≤1000000)(hl2:b.length≤1000000):∀m:Nat,m≤1000000 →
  Zn T 0 0 (.norm false []) l52_0 ⟨[(0,.sl (Za a) .an),(1,.sl (Za b) .an),(5,.i .i64 ((m:Int)-1))],[],2⟩ =
   if val (a.take m)<val (b.take m) then some (.r,⟨[(4,.i .i64 (-1))],[],2⟩) else if val (b.take m)<val (a.take m) then some (.r,⟨[(4,.i .i64 1)],[],2⟩) else some (.n,⟨[],[],2⟩):=by
 refine zaz (fun m:Nat=>⟨[(0,.sl (Za a) .an),(1,.sl (Za b) .an),(5,.i .i64 ((m:Int)-1))],[],2⟩) _ (fun m=>m) _ ?_;intro m hm;cases m with
 | zero=>
  right;constructor<;>simp[l52_0]
 | succ i=>
  have hw:IntKind.wrap .i64 ((i:Int)-1)=(i:Int)-1:=zad _ (by omega);have ca:=zde (T:=T) a i hl;have cb:=zde (T:=T) b i hl2;have e1:=zbg a i;have e2:=zbg b i;have b1:=zay (a.take i);have b2:=zay (b.take i);have p1:4294967296^(a.take i).length≤4294967296^i:=Y0 (by decide) (by simp;omega);have p2:4294967296^(b.take i).length≤4294967296^i:=Y0 (by decide) (by simp;omega);rcases Ybv (atW a i) (atW b i) with h1 | h1 | h1
  ·right;have h3:=Yak (4294967296^i) (show atW a i+1≤atW b i from h1);rw[Yu]at h3;have h2:val (a.take (i+1))<val (b.take (i+1)):=by omega
   constructor<;>simp[l52_0,ca,cb,h1,h2]
  ·left;refine⟨i,by omega,Y4 i,?_,?_⟩
   ·simp[l52_0,ca,cb,h1,hw]
   ·rw[e1,e2,h1];have e3:(val (a.take i)+4294967296^i*atW b i<val (b.take i)+4294967296^i*atW b i)=(val (a.take i)<val (b.take i)):=by
     apply propext;omega
    have e4:(val (b.take i)+4294967296^i*atW b i<val (a.take i)+4294967296^i*atW b i)=(val (b.take i)<val (a.take i)):=by
     apply propext;omega
    simp only[e3,e4]
  ·right;have h3:=Yak (4294967296^i) (show atW b i+1≤atW a i from h1);rw[Yu]at h3;have h2:val (b.take (i+1))<val (a.take (i+1)):=by omega
   have h4:¬ val (a.take (i+1))<val (b.take (i+1)):=by omega
   have h5:¬ atW a i<atW b i:=by omega
   constructor<;>simp[l52_0,ca,cb,h1,h2,h4,h5]
theorem zek(a b:List UInt32)(ha:a.length≤1000000)(hb:b.length≤1000000):Zb T 52 [.sl (Za a) .an,.sl (Za b) .an]=some (.i .i64 (Zcm (val a) (val b))):=by
 have hc:=zjb (T:=T) a b ha hb (max a.length b.length) (by omega);rw[Yb (by omega),Yb (by omega)]at hc;have e:(if (a.length:Int)<b.length then (b.length:Int) else a.length)=((max a.length b.length:Nat):Int):=by split<;>omega
 have hw:IntKind.wrap .i64 (((max a.length b.length:Nat):Int)-1)=((max a.length b.length:Nat):Int)-1:=zad _ (by omega);rw[zaa Zai.h52 rfl,b52];simp at e hw hc;simp[e,hw,hc,Zcm]
 repeat' split
 all_goals simp
end
section
variable{T:Tbl}
theorem zio(a b:List UInt32)(hab:a.length=b.length)(hl:a.length≤1000000):∀i:Nat,i≤a.length →
  Zn T 0 0 (.norm false []) l54_0 ⟨[(0,.sl (Za a) .an),(1,.sl (Za b) .an),(5,.i .i64 i)],[],2⟩=if a.drop i=b.drop i then some (.n,⟨[],[],2⟩) else some (.r,⟨[(4,.b false)],[],2⟩):=by
 refine zaz (fun i:Nat=>⟨[(0,.sl (Za a) .an),(1,.sl (Za b) .an),(5,.i .i64 i)],[],2⟩) _ (fun i=>a.length-i) _ ?_;intro i hi;by_cases h0:i<a.length
 ·have h1:i<b.length:=by omega
  have ha:a[i]? = some (a[i]'h0):=Ya h0;have hb:b[i]? = some (b[i]'h1):=Ya h1;have hw:IntKind.wrap .i64 ((i:Int)+1)=((i+1:Nat):Int):=zad _ (by omega);have hda:a.drop i=a[i]'h0::a.drop (i+1):=Yf h0;have hdb:b.drop i=b[i]'h1::b.drop (i+1):=Yf h1;by_cases h2:a[i]'h0=b[i]'h1
  ·left;refine⟨i+1,h0,by show a.length-(i+1)<a.length-i;omega,?_,?_⟩
   ·simp[l54_0,h0,h1,h2,hw]
   ·rw[hda,hdb,h2];simp only[List.cons.injEq,true_and]
  ·right;have h3:¬ (a[i]'h0).toNat=(b[i]'h1).toNat:=fun h=>h2 (Yev.1 h);have h4:¬ a.drop i=b.drop i:=by rw[hda,hdb];intro h;exact h2 (List.cons.inj h).1
   constructor<;>simp[l54_0,h0,h1,h3,h4]
 ·right;have h4:a.drop i=b.drop i:=by rw[Yao (by omega),Yao (by omega)]
  have h5:¬ (i:Int)<a.length:=by omega
  constructor<;>simp[l54_0,h4,h5]
end
section
variable{T:Tbl}[Zai T]
theorem zj2(a b:List UInt32)(ha:a.length≤1000000):Zb T 54 [.sl (Za a) .an,.sl (Za b) .an]=some (.b (decide (a=b))):=by
 rw[zaa Zai.h54 rfl,b54];by_cases h:a.length=b.length
 ·have hc:=zio (T:=T) a b h ha 0 (Yr _);simp at hc;have h2:(a.length:Int)=b.length:=by omega
  by_cases h3:a=b
  ·subst h3;simp at hc;simp[hc]
  ·rw[if_neg h3]at hc;simp[h,hc,h3]
 ·have h3:¬ a=b:=fun he=>h (by rw[he]);have h2:¬ (a.length:Int)=b.length:=by omega
  simp[h2,h3]
def Zig(a b:List UInt32)(n:Nat)(y:Nat×Nat×List UInt32):St:=
 ⟨[(0,.sl (Za a) .an),(1,.sl (Za b) .an),(5,.i .i64 n),(6,.bs (.loc 16) 1 1 0 n),(7,u64 y.2.1),(8,.i .i64 y.1)],[(.loc 16,⟨1,.own,1,Za y.2.2⟩)],3⟩
theorem zjc(a b:List UInt32)(n:Nat)(ha:a.length≤1000000)(hb:b.length≤1000000)(hn:n≤1000001):∀y:Nat×Nat×List UInt32,
  (y.1≤n∧y.2.1≤1∧y.2.2.length=n∧val (y.2.2.take y.1)+4294967296^y.1*y.2.1=val (a.take y.1)+val (b.take y.1)) →
  ∃r,(∃(c:Nat) (out:List UInt32),r=(Ex.n,(⟨[(6,.bs (.loc 16) 1 1 0 n)],[(.loc 16,⟨1,.own,1,Za out⟩)],3⟩:St)) ∧
   out.length=n∧c≤1∧val out+4294967296^n*c=val (a.take n)+val (b.take n))∧Zn T 0 0 (.norm false [6]) l58_0 (Zig a b n y)=some r:=by
 refine zaq _ _ (fun y=>n-y.1) _ ?_
 rintro⟨i,c,out⟩ ⟨hi,hc,ho,hv⟩
 simp only at hi hc ho hv;by_cases h0:i<n
 ·left;have hoi:i<out.length:=by omega
  have hog:out[i]? = some (out[i]'hoi):=Ya hoi;have hw:IntKind.wrap .i64 ((i:Int)+1)=((i+1:Nat):Int):=zad _ (by omega);have ca:=zde (T:=T) a i ha;have cb:=zde (T:=T) b i hb;have la:=zin a i;have lb:=zin b i;have e1:=zbg a i;have e2:=zbg b i;have m1:atW a i%18446744073709551616=atW a i:=Yi (by omega);have m2:atW b i%18446744073709551616=atW b i:=Yi (by omega);have m3:(c+(atW a i+atW b i))%18446744073709551616=c+(atW a i+atW b i):=Yi (by omega);have m4:(c+(atW a i+atW b i))/4294967296%18446744073709551616=(c+(atW a i+atW b i))/4294967296:=Yi (by omega);refine⟨(i+1,(c+(atW a i+atW b i))/4294967296,out.set i (w32 (c+(atW a i+atW b i)))),⟨h0,by simp only;omega,by simp[ho],?_⟩,by simp only;omega,?_⟩
  ·simp only;rw[zbu _ hoi,e1,e2,zb4,Yw];generalize 4294967296^i=p at *
   generalize atW a i=x at *
   generalize atW b i=z at *
   have e:=Yba (c+(x+z)) 4294967296;have e2:p*((c+(x+z))%4294967296)+p*4294967296*((c+(x+z))/4294967296)=p*(c+(x+z)):=by
    conv=>rhs;rw[←e]
    rw[Yu,Yx];omega
   rw[Yu,Yu]at e2;omega
  ·simp[l58_0,Zig,h0,ca,cb,m1,m2,m3,m4,hog,hw]
 ·right;have:i=n:=by omega
  subst this;rw[Yb (by omega)]at hv;refine⟨_,⟨c,out,rfl,ho,hc,hv⟩,?_,?_⟩<;>simp[l58_0,Zig]
theorem zv6{p q r x y z c:Nat}(h1:x+p*4294967296*c=y+z)(h2:c≤1)(h3:y<q)(h4:z<r)(h5:q≤p)(h6:r≤p):x=y+z:=by
 rcases(show c=0∨c=1 by omega) with h | h
 ·subst h;rw[Yac,Yt]at h1;exact h1
 ·subst h;rw[Ycl]at h1;omega
theorem zm4(a b:List UInt32)(ha:a.length≤100000)(hb:b.length≤100000):Zb T 58 [.sl (Za a) .an,.sl (Za b) .an]=some (.sl (Za (ofN (val a+val b))) .an):=by
 obtain⟨n,hn⟩:∃n,n=max a.length b.length:=⟨_,rfl⟩;obtain⟨_,⟨c,out,rfl,ho,hc,hv⟩,hr⟩:=zjc (T:=T) a b (n+1) (by omega) (by omega) (by omega) (0,0,List.replicate (n+1) 0) ⟨Yr _,Yr _,by simp,by simp⟩;unfold Zig at hr;simp at hr;rw[Yb (by omega),Yb (by omega)]at hv;have e:(if a.length<b.length then (b.length:Int) else a.length)=(n:Int):=by split<;>omega
 have hw:IntKind.wrap .i64 ((n:Int)+1)=((n:Int)+1):=zad _ (by omega);have hn1:(0:Int)≤(n:Int)+1:=by omega
 have hn2:(n:Int)+1≤4294967296:=by omega
 have hn3:((n:Int)+1).toNat=n+1:=by omega
 have l1:=zay a;have l2:=zay b;have p1:4294967296^a.length≤4294967296^n:=Y0 (by decide) (by omega);have p2:4294967296^b.length≤4294967296^n:=Y0 (by decide) (by omega);have hval:val out=val a+val b:=by
  rw[Yw]at hv;exact zv6 hv hc l1 l2 p1 p2
 have hnm:=zbm (T:=T) out (by omega);rw[hval]at hnm;have htk:List.take (n+1) out=out:=Yb (by omega);rw[zaa Zai.h58 rfl,b58];simp[e,hw,hn1,hn2,hn3,hr,ho,htk,hnm]
def Zhf(a b:List UInt32)(n:Nat)(y:Nat×Nat×List UInt32):St:=
 ⟨[(0,.sl (Za a) .an),(1,.sl (Za b) .an),(5,.i .i64 n),(6,.bs (.loc 17) 1 1 0 n),(7,u64 y.2.1),(8,.i .i64 y.1)],[(.loc 17,⟨1,.own,1,Za y.2.2⟩)],3⟩
theorem zjd(a b:List UInt32)(n:Nat)(ha:a.length≤1000000)(hb:b.length≤1000000)(hn:n≤1000001):∀y:Nat×Nat×List UInt32,
  (y.1≤n∧y.2.1≤1∧y.2.2.length=n∧val (y.2.2.take y.1)+val (b.take y.1)=val (a.take y.1)+4294967296^y.1*y.2.1) →
  ∃r,(∃(c:Nat) (out:List UInt32),r=(Ex.n,(⟨[(6,.bs (.loc 17) 1 1 0 n)],[(.loc 17,⟨1,.own,1,Za out⟩)],3⟩:St)) ∧
   out.length=n∧c≤1∧val out+val (b.take n)=val (a.take n)+4294967296^n*c)∧Zn T 0 0 (.norm false [6]) l59_0 (Zhf a b n y)=some r:=by
 refine zaq _ _ (fun y=>n-y.1) _ ?_
 rintro⟨i,c,out⟩ ⟨hi,hc,ho,hv⟩
 simp only at hi hc ho hv;by_cases h0:i<n
 ·left;have hoi:i<out.length:=by omega
  have hog:out[i]? = some (out[i]'hoi):=Ya hoi;have hw:IntKind.wrap .i64 ((i:Int)+1)=((i+1:Nat):Int):=zad _ (by omega);have ca:=zde (T:=T) a i ha;have cb:=zde (T:=T) b i hb;have la:=zin a i;have lb:=zin b i;have e1:=zbg a i;have e2:=zbg b i;have m1:atW a i%18446744073709551616=atW a i:=Yi (by omega);have m2:atW b i%18446744073709551616=atW b i:=Yi (by omega);have m3:(atW b i+c)%18446744073709551616=atW b i+c:=Yi (by omega);have m4:(atW a i+4294967296)%18446744073709551616=atW a i+4294967296:=Yi (by omega);have fin:∀s d:Nat,d≤1→s<4294967296→s+(atW b i+c)=atW a i+4294967296*d →
    val ((out.set i (w32 s)).take (i+1))+val (b.take (i+1))=val (a.take (i+1))+4294967296^(i+1)*d:=by
   intro s d hd hs h;rw[zbu _ hoi,e1,e2,zag hs,Yw];generalize 4294967296^i=p at *
   have e3:p*s+p*(atW b i+c)=p*atW a i+p*4294967296*d:=by rw[←Yu,h,Yu,Yx]
   rw[Yu]at e3;omega
  by_cases h1:atW a i<atW b i+c
  ·have hs:Zdo (atW a i+4294967296) (atW b i+c)=atW a i+4294967296-(atW b i+c):=zev (by omega) (by omega);have m5:(atW a i+4294967296-(atW b i+c))%4294967296=atW a i+4294967296-(atW b i+c):=Yi (by omega);refine⟨(i+1,1,out.set i (w32 (atW a i+4294967296-(atW b i+c)))),⟨h0,Yh _,by simp[ho],fin _ 1 (by omega) (by omega) (by omega)⟩,by simp only;omega,?_⟩;simp[l59_0,Zhf,h0,ca,cb,m1,m2,m3,m4,h1,hs,hog,hw]
  ·have hs:Zdo (atW a i) (atW b i+c)=atW a i-(atW b i+c):=zev (by omega) (by omega);refine⟨(i+1,0,out.set i (w32 (atW a i-(atW b i+c)))),⟨h0,Yr _,by simp[ho],fin _ 0 (by omega) (by omega) (by omega)⟩,by simp only;omega,?_⟩;simp[l59_0,Zhf,h0,ca,cb,m1,m2,m3,h1,hs,hog,hw]
 ·right;have:i=n:=by omega
  subst this;rw[Yb (by omega)]at hv;refine⟨_,⟨c,out,rfl,ho,hc,hv⟩,?_,?_⟩<;>simp[l59_0,Zhf]
theorem zm5(a b:List UInt32)(ha:a.length≤100000)(hb:b.length≤100000)(hab:val b≤val a):Zb T 59 [.sl (Za a) .an,.sl (Za b) .an]=some (.sl (Za (ofN (val a-val b))) .an):=by
 obtain⟨n,hn⟩:∃n,n=max a.length b.length:=⟨_,rfl⟩;obtain⟨_,⟨c,out,rfl,ho,hc,hv⟩,hr⟩:=zjd (T:=T) a b n (by omega) (by omega) (by omega) (0,0,List.replicate n 0) ⟨Yr _,Yr _,by simp,by simp⟩;unfold Zhf at hr;simp at hr;rw[Yb (by omega),Yb (by omega)]at hv;have e:(if a.length<b.length then (b.length:Int) else a.length)=(n:Int):=by split<;>omega
 have hn2:(n:Int)≤4294967296:=by omega
 have hlo:=zay out;rw[ho]at hlo;have hval:val out=val a-val b:=by
  rcases Ya0 c with h1 | h1
  ·subst h1;omega
  ·have:c=1:=by omega
   subst this;omega
 have hnm:=zbm (T:=T) out (by omega);rw[hval]at hnm;have htk:List.take n out=out:=Yb (by omega);rw[zaa Zai.h59 rfl,b59];simp[e,hn2,hr,ho,htk,hnm]
end
def l61_0:AX:=
 (.note
 (.seq
 (.seq
 (.reg [mv 21 8,mv 22 1,rg 23 (.len (.t 22)),rg 24 (.bin .lss (.t 21) (.t 23))])
 (.cond (.t 24)
 .skip
 (.exit 2)))
 (.seq
 (.block 3
 (.seq
 (.drawT [mv 27 7,mv 28 0,mv 29 6,rg 30 (.iad 1 (.t 28) (.t 29)),rg 31 (.load none (.t 30)),rg 32 (.conv .u64 (.t 31)),mv 33 1,mv 34 8,rg 35 (.iad 1 (.t 33) (.t 34)),rg 36 (.load none (.t 35)),rg 37 (.conv .u64 (.t 36)),rg 38 (.bin .mul (.t 32) (.t 37)),mv 39 5,mv 40 6,mv 41 8,rg 42 (.bin .add (.t 40) (.t 41)),rg 43 (.iad 1 (.t 39) (.t 42)),rg 44 (.load none (.t 43)),rg 45 (.conv .u64 (.t 44)),rg 46 (.bin .add (.t 38) (.t 45))]
 [rg 47 (.bin .add (.t 27) (.t 46)),mv 7 47])
 (.seq
 (.reg [mv 48 5,mv 49 6,mv 50 8,rg 51 (.bin .add (.t 49) (.t 50)),mv 52 7,rg 53 (.bin .rem (.t 52) (.c (u64 4294967296))),rg 54 (.conv .u32 (.t 53)),rg 55 (.iad 1 (.t 48) (.t 51)),so (.store 1 (.t 55) (.t 54))])
 (.reg [mv 56 7,rg 57 (.bin .quo (.t 56) (.c (u64 4294967296))),mv 7 57]))))
 (.reg [mv 25 8,rg 26 (.bin .add (.t 25) (.c (.i .i64 1))),mv 8 26])))
 (.norm false [0,1,5,6,7,8]))
def l61_1:AX:=
 (.note
 (.seq
 (.seq
 (.reg [mv 15 6,mv 16 0,rg 17 (.len (.t 16)),rg 18 (.bin .lss (.t 15) (.t 17))])
 (.cond (.t 18)
 .skip
 (.exit 0)))
 (.seq
 (.block 1
 (.seq
 (.reg [rg 7 (.mov (.c (u64 0)))])
 (.seq
 (.seq
 (.reg [rg 8 (.mov (.c (.i .i64 0)))])
 (.lp 2 (.norm false [0,1,5,6,7,8]) l61_0 (.norm false [0,1,5,6,7])))
 (.reg [mv 58 5,mv 59 6,mv 60 1,rg 61 (.len (.t 60)),rg 62 (.bin .add (.t 59) (.t 61)),mv 63 7,rg 64 (.conv .u32 (.t 63)),rg 65 (.iad 1 (.t 58) (.t 62)),so (.store 1 (.t 65) (.t 64))]))))
 (.reg [mv 19 6,rg 20 (.bin .add (.t 19) (.c (.i .i64 1))),mv 6 20])))
 (.norm false [0,1,5,6]))
def b61:AX:=
 (.seq
 (.reg [rg 4 (.mov (.c (.sl [] .nl)))])
 (.seq
 (.reg [mv 9 0,rg 10 (.len (.t 9)),mv 11 1,rg 12 (.len (.t 11)),rg 13 (.bin .add (.t 10) (.t 12)),rg 14 (.mks 1 [(u32 0)] (.t 13) (.t 13)),mv 5 14])
 (.seq
 (.seq
 (.reg [rg 6 (.mov (.c (.i .i64 0)))])
 (.lp 0 (.norm false [0,1,5,6]) l61_1 (.norm false [5])))
 (.seq
 (.reg [mv 66 5,rg 67 (.call 43 [(.t 66)]),mv 4 67])
 (.pre (.norm false [4]) .ret)))))
def row61:AFx:=⟨2,68,[.t 4],b61,none,false⟩
class Za5 (T:Tbl):Prop extends Zai T where
 h61:T 61=some row61
section
variable{T:Tbl}[Za5 T]{d:Option Nat}{st:St}
@[simp] theorem x61(xs:List AV):Zc (orc T) T 61 xs d st=cP T 61 false xs d st:=zab Za5.h61
@[simp] theorem y61{e:Env}{h:Heap}{older:List Heap}(args:List Opd):opD (orc T) T (.call 61 args) e h older=dR (Zb T 61 ((args.map (ev e.get)).map (wkIf false))) (args.map (ev e.get)):=zak Za5.h61
end
section
variable{T:Tbl}[Za5 T]
theorem zv7{p m w c c' s x y t v:Nat}(h:m+p*c=s+x*t)(e:w+4294967296*c'=x*y+v+c):(m+p*w)+p*4294967296*c'=(s+p*v)+x*(t+p*y):=
 zqc (k:=0) h e
def Zjk(P S a b:List UInt32)(y:Nat×Nat×List UInt32):St:=
 ⟨[(0,.sl (Za a) .an),(1,.sl (Za b) .an),(5,.bs (.loc 14) 1 1 0 (P.length+S.length)),(6,.i .i64 P.length),(7,u64 y.2.1),(8,.i .i64 y.1)],[(.loc 14,⟨1,.own,1,Za (P++(y.2.2++S.drop y.1))⟩)],3⟩
end
section
variable{T:Tbl}
theorem zze(P S a b:List UInt32)(x:UInt32)(hxa:a[P.length]? = some x)(hS:b.length<S.length)(hl:P.length+S.length≤1000000):∀y:Nat×Nat×List UInt32,
  (y.1≤b.length∧y.2.1<4294967296∧y.2.2.length=y.1∧val y.2.2+4294967296^y.1*y.2.1=val (S.take y.1)+x.toNat*val (b.take y.1)) →
  ∃r,(∃(c:Nat) (m:List UInt32),r=(Ex.n,(⟨[(0,.sl (Za a) .an),(1,.sl (Za b) .an),(5,.bs (.loc 14) 1 1 0 (P.length+S.length)),(6,.i .i64 P.length),(7,u64 c)],[(.loc 14,⟨1,.own,1,Za (P++(m++S.drop b.length))⟩)],3⟩:St)) ∧
   m.length=b.length∧c<4294967296∧val m+4294967296^b.length*c=val (S.take b.length)+x.toNat*val b)∧Zn T 0 2 (.norm false [0,1,5,6,7]) l61_0 (Zjk P S a b y)=some r:=by
 refine zaq _ _ (fun y=>b.length-y.1) _ ?_
 rintro⟨i,c,m⟩ ⟨hi,hc,hm,hv⟩
 simp only at hi hc hm hv;have hPa:P.length<a.length:=by
  rcases Yq P.length a.length with h | h
  ·exact h
  ·rw[Yah h]at hxa;cases hxa
 obtain rfl:a[P.length]'hPa=x:=by rw[Ya hPa]at hxa;cases hxa;rfl
 generalize hX:a[P.length]'hPa=x at hv ⊢;by_cases h0:i<b.length
 ·left;have hb:b[i]? = some (b[i]'h0):=Ya h0;have hiS:i<S.length:=by omega
  have hs:S[i]? = some (S[i]'hiS):=Ya hiS;have hg:=zdj (P:=P) hm hiS;have hw:IntKind.wrap .i64 ((i:Int)+1)=((i+1:Nat):Int):=zad _ (by omega);have hw2:IntKind.wrap .i64 ((P.length:Int)+i)=((P.length+i:Nat):Int):=zad _ (by omega);have hlb:=zam (b[i]'h0);have hls:=zam (S[i]'hiS);have hmul:=zij (zam x) hlb;have hset:=zc1 (P:=P) (w32 (c+(x.toNat*(b[i]'h0).toNat+(S[i]'hiS).toNat))) hm hiS;have m1:x.toNat*(b[i]'h0).toNat%18446744073709551616=x.toNat*(b[i]'h0).toNat:=Yi (by omega);have m2:(x.toNat*(b[i]'h0).toNat+(S[i]'hiS).toNat)%18446744073709551616=x.toNat*(b[i]'h0).toNat+(S[i]'hiS).toNat:=Yi (by omega);have m3:(c+(x.toNat*(b[i]'h0).toNat+(S[i]'hiS).toNat))%18446744073709551616=c+(x.toNat*(b[i]'h0).toNat+(S[i]'hiS).toNat):=Yi (by omega);have m4:(c+(x.toNat*(b[i]'h0).toNat+(S[i]'hiS).toNat))/4294967296%18446744073709551616=(c+(x.toNat*(b[i]'h0).toNat+(S[i]'hiS).toNat))/4294967296:=Yi (by omega);refine⟨(i+1,(c+(x.toNat*(b[i]'h0).toNat+(S[i]'hiS).toNat))/4294967296,m++[w32 (c+(x.toNat*(b[i]'h0).toNat+(S[i]'hiS).toNat))]),⟨h0,by simp only;omega,by simp[hm],?_⟩,by simp only;omega,?_⟩
  ·simp only;rw[zaj,zaf hb,zaf hs,Yw,hm];simp only[zan,za8,Yac,Yt,zb4];exact zv7 hv (by have:=Yba (c+(x.toNat*(b[i]'h0).toNat+(S[i]'hiS).toNat)) 4294967296;omega)
  ·simp at hg hset;simp -implicitDefEqProofs[l61_0,Zjk,h0,hw,hw2,hiS,hg,hset,hPa,hX,m1,m2,m3,m4]
 ·right;have hib:i=b.length:=by omega
  have hv':val m+4294967296^b.length*c=val (S.take b.length)+x.toNat*val b:=by
   rw[hib,Yb (Yh b.length)]at hv;exact hv
  refine⟨(Ex.n,⟨[(0,.sl (Za a) .an),(1,.sl (Za b) .an),(5,.bs (.loc 14) 1 1 0 (P.length+S.length)),(6,.i .i64 P.length),(7,u64 c)],[(.loc 14,⟨1,.own,1,Za (P++(m++S.drop i))⟩)],3⟩),⟨c,m,by rw[hib],by rw[hm,hib],hc,hv'⟩,?_,?_⟩<;>simp -implicitDefEqProofs[l61_0,Zjk,h0]
end
section
variable{T:Tbl}[Za5 T]
def Zih(a b:List UInt32)(y:Nat×List UInt32):St:=
 ⟨[(0,.sl (Za a) .an),(1,.sl (Za b) .an),(5,.bs (.loc 14) 1 1 0 (a.length+b.length)),(6,.i .i64 y.1)],[(.loc 14,⟨1,.own,1,Za (y.2++List.replicate (a.length-y.1) 0)⟩)],3⟩
end
section
variable{T:Tbl}
theorem zv8(a b:List UInt32)(ha:a.length≤100000)(hb:b.length≤100000):∀y:Nat×List UInt32,
  (y.1≤a.length∧y.2.length=b.length+y.1∧val y.2=val (a.take y.1)*val b) →
  ∃r,(∃out:List UInt32,r=(Ex.n,(⟨[(5,.bs (.loc 14) 1 1 0 (a.length+b.length))],[(.loc 14,⟨1,.own,1,Za out⟩)],3⟩:St))∧out.length=a.length+b.length∧val out=val a*val b) ∧
   Zn T 0 0 (.norm false [5]) l61_1 (Zih a b y)=some r:=by
 refine zaq _ _ (fun y=>a.length-y.1) _ ?_
 rintro⟨i,X⟩ ⟨hi,hX,hv⟩
 simp only at hi hX hv;by_cases h0:i<a.length
 ·left;have hag:a[i]? = some (a[i]'h0):=Ya h0;have hw:IntKind.wrap .i64 ((i:Int)+1)=((i+1:Nat):Int):=zad _ (by omega);have e2:(X.take i).length=i:=by simp;omega
  have e3:(X.drop i++List.replicate (a.length-i) 0).length=a.length+b.length-i:=by simp;omega
  obtain⟨_,⟨c,m,rfl,hm,hc,hvm⟩,hr⟩:=zze (T:=T) (X.take i) (X.drop i++List.replicate (a.length-i) 0) a b (a[i]'h0) (by rw[e2];exact hag) (by simp;omega) (by simp;omega) (0,0,[]) ⟨Yr _,Nat.zero_lt_succ _,rfl,by simp⟩;have e1:X.take i++(X.drop i++List.replicate (a.length-i) 0)=X++List.replicate (a.length-i) 0:=by rw[←Yax,Yam]
  have e4:i+(a.length+b.length-i)=a.length+b.length:=by omega
  have e6:(X.drop i++List.replicate (a.length-i) 0).take b.length=X.drop i:=by
   rw[Ybz (by simp;omega),Yb (by simp;omega)]
  have hSl:b.length<(X.drop i++List.replicate (a.length-i) 0).length:=by simp;omega
  have hg:=zdj (P:=X.take i) (m:=m) hm hSl;have hset:=zc1 (P:=X.take i) (m:=m) (w32 c) hm hSl;have e5:(X.drop i++List.replicate (a.length-i) 0).drop (b.length+1)=List.replicate (a.length-(i+1)) 0:=by
   rw[List.drop_append,Yao (by simp;omega),List.drop_replicate];simp only[Yae,Yby];congr 1;omega
  unfold Zjk at hr;simp only[Yae,Yar]at hr;rw[e1,e2,e3,e4]at hr;rw[e2]at hg hset;rw[e5]at hset;rw[e6]at hvm;generalize hQ:X.take i++(m++(X.drop i++List.replicate (a.length-i) 0).drop b.length)=Q at hr hg hset;have hw2:IntKind.wrap .i64 ((i:Int)+b.length)=((i+b.length:Nat):Int):=zad _ (by omega);have hlt:((i:Int)+b.length)<(a.length:Int)+b.length:=by omega
  simp at hr hg hset;refine⟨(i+1,X.take i++(m++[w32 c])),⟨h0,by simp only[Ya6,e2,hm,Ydt];omega,?_⟩,by simp only;omega,?_⟩
  ·simp only;have e7:=zaj (X.take i) (X.drop i);rw[Yam,e2]at e7;rw[zaj,e2,zaj,hm];simp only[zan,za8,Yac,Yt,zag hc];rw[hvm,zaf hag,Ya9,←hv,e7,Yu];rw[Yx];omega
  ·simp -implicitDefEqProofs[l61_1,Zih,h0,hw,hr,hw2,hlt,hg,hset]
 ·right;have:i=a.length:=by omega
  subst this;rw[Yb (Yh _)]at hv;refine⟨_,⟨X++List.replicate (a.length-a.length) 0,rfl,by simp;omega,by simp[hv]⟩,?_,?_⟩<;>simp -implicitDefEqProofs[l61_1,Zih]
end
section
variable{T:Tbl}[Za5 T]
theorem zdo(a b:List UInt32)(ha:a.length≤100000)(hb:b.length≤100000):Zb T 61 [.sl (Za a) .an,.sl (Za b) .an]=some (.sl (Za (ofN (val a*val b))) .an):=by
 obtain⟨_,⟨out,rfl,ho,hv⟩,hr⟩:=zv8 (T:=T) a b ha hb (0,List.replicate b.length 0) ⟨Yr _,by simp,by simp[zbk]⟩;unfold Zih at hr;simp at hr;have hw1:IntKind.wrap .i64 ((a.length:Int)+b.length)=(a.length:Int)+b.length:=zad _ (by omega);have hle:(a.length:Int)+b.length≤4294967296:=by omega
 have hn:=zbm (T:=T) out (by omega);rw[hv]at hn;have htk:List.take (a.length+b.length) out=out:=Yb (by omega);have he:b.length+a.length=a.length+b.length:=by omega
 rw[he]at hr;rw[zaa Za5.h61 rfl,b61];simp -implicitDefEqProofs[hw1,hle,hr,ho,htk,hn]
end
def l122_0:AX:=
 (.note
 (.seq
 (.seq
 (.reg [mv 21 6,mv 22 1,rg 23 (.bin .rem (.t 22) (.c (.i .i64 32))),rg 24 (.bin .lss (.t 21) (.t 23))])
 (.cond (.t 24)
 .skip
 (.exit 0)))
 (.seq
 (.block 1
 (.reg [mv 27 5,rg 28 (.bin .quo (.t 27) (.c (u32 2))),mv 5 28]))
 (.reg [mv 25 6,rg 26 (.bin .add (.t 25) (.c (.i .i64 1))),mv 6 26])))
 (.norm false [1,5,6]))
def b122:AX:=
 (.seq
 (.reg [rg 4 (.mov (.c (.b false)))])
 (.seq
 (.seq
 (.reg [mv 7 1,rg 8 (.bin .lss (.t 7) (.c (.i .i64 0))),mv 9 8,gd 10 9 false (.mov (.t 1)),gd 11 9 false (.bin .quo (.t 10) (.c (.i .i64 32))),gd 12 9 false (.mov (.t 0)),gd 13 9 false (.len (.t 12)),gd 14 9 false (.bin .geq (.t 11) (.t 13)),rg 15 (.pick (.t 9) (.c (.b true)) (.t 14))])
 (.cond (.t 15)
 (.seq
 (.reg [rg 4 (.mov (.c (.b false)))])
 (.pre (.norm false [4]) .ret))
 .skip))
 (.seq
 (.reg [mv 16 0,mv 17 1,rg 18 (.bin .quo (.t 17) (.c (.i .i64 32))),rg 19 (.iad 1 (.t 16) (.t 18)),rg 20 (.load none (.t 19)),mv 5 20])
 (.seq
 (.seq
 (.reg [rg 6 (.mov (.c (.i .i64 0)))])
 (.lp 0 (.norm false [1,5,6]) l122_0 (.norm false [5])))
 (.seq
 (.reg [mv 29 5,rg 30 (.bin .rem (.t 29) (.c (u32 2))),rg 31 (.bin .eql (.t 30) (.c (u32 1))),mv 4 31])
 (.pre (.norm false [4]) .ret))))))
def l95_0:AX:=
 (.note
 (.seq
 (.seq
 (.reg [mv 7 3,rg 8 (.bin .gtr (.t 7) (.c (.i .i64 0))),mv 9 8,gd 10 9 true (.mov (.t 0)),gd 11 9 true (.mov (.t 3)),gd 12 9 true (.bin .sub (.t 11) (.c (.i .i64 1))),gd 13 9 true (.call 122 [(.t 10),(.t 12)]),gd 14 9 true (.un .not (.t 13)),rg 15 (.pick (.t 9) (.t 14) (.c (.b false)))])
 (.cond (.t 15)
 .skip
 (.exit 0)))
 (.block 1
 (.reg [mv 16 3,rg 17 (.bin .sub (.t 16) (.c (.i .i64 1))),mv 3 17])))
 (.norm false [0,3]))
def b95:AX:=
 (.seq
 (.reg [rg 2 (.mov (.c (.i .i64 0)))])
 (.seq
 (.reg [mv 4 0,rg 5 (.len (.t 4)),rg 6 (.bin .mul (.c (.i .i64 32)) (.t 5)),mv 3 6])
 (.seq
 (.lp 0 (.norm false [0,3]) l95_0 (.norm false [3]))
 (.seq
 (.reg [mv 18 3,mv 2 18])
 (.pre (.norm false [2]) .ret)))))
def l96_0:AX:=
 (.note
 (.seq
 (.seq
 (.reg [mv 8 5,mv 9 0,rg 10 (.len (.t 9)),rg 11 (.bin .lss (.t 8) (.t 10))])
 (.cond (.t 11)
 .skip
 (.exit 0)))
 (.seq
 (.block 1
 (.seq
 (.reg [mv 14 0,mv 15 5,rg 16 (.iad 1 (.t 14) (.t 15)),rg 17 (.load none (.t 16)),rg 18 (.bin .quo (.t 17) (.c (u32 2147483648))),mv 6 18])
 (.seq
 (.reg [mv 19 0,mv 20 5,mv 21 0,mv 22 5,rg 23 (.iad 1 (.t 21) (.t 22)),rg 24 (.load none (.t 23)),rg 25 (.bin .mul (.t 24) (.c (u32 2))),mv 26 4,rg 27 (.bin .add (.t 25) (.t 26)),rg 28 (.iad 1 (.t 19) (.t 20)),so (.store 1 (.t 28) (.t 27))])
 (.reg [mv 29 6,mv 4 29]))))
 (.reg [mv 12 5,rg 13 (.bin .add (.t 12) (.c (.i .i64 1))),mv 5 13])))
 (.norm false [0,4,5]))
def b96:AX:=
 (.seq
 (.reg [rg 4 (.mov (.c (u32 0)))])
 (.seq
 (.seq
 (.reg [mv 7 1])
 (.cond (.t 7)
 (.reg [rg 4 (.mov (.c (u32 1)))])
 .skip))
 (.seq
 (.reg [rg 5 (.mov (.c (.i .i64 0)))])
 (.lp 0 (.norm false [0,4,5]) l96_0 (.norm false [])))))
def l97_0:AX:=
 (.note
 (.seq
 (.seq
 (.reg [mv 8 5,mv 9 0,rg 10 (.len (.t 9)),rg 11 (.bin .lss (.t 8) (.t 10))])
 (.cond (.t 11)
 .skip
 (.exit 0)))
 (.seq
 (.block 1
 (.seq
 (.reg [mv 14 0,mv 15 5,rg 16 (.iad 1 (.t 14) (.t 15)),rg 17 (.load none (.t 16)),rg 18 (.conv .u64 (.t 17)),mv 6 18])
 (.seq
 (.reg [mv 19 1,mv 20 5,rg 21 (.call 84 [(.t 19),(.t 20)]),rg 22 (.conv .u64 (.t 21)),mv 23 4,rg 24 (.bin .add (.t 22) (.t 23)),mv 7 24])
 (.seq
 (.reg [rg 4 (.mov (.c (u64 0)))])
 (.seq
 (.seq
 (.reg [mv 25 6,mv 26 7,rg 27 (.bin .lss (.t 25) (.t 26))])
 (.cond (.t 27)
 (.seq
 (.reg [mv 28 6,rg 29 (.bin .add (.t 28) (.c (u64 4294967296))),mv 6 29])
 (.reg [rg 4 (.mov (.c (u64 1)))]))
 .skip))
 (.reg [mv 30 0,mv 31 5,mv 32 6,mv 33 7,rg 34 (.bin .sub (.t 32) (.t 33)),rg 35 (.conv .u32 (.t 34)),rg 36 (.iad 1 (.t 30) (.t 31)),so (.store 1 (.t 36) (.t 35))]))))))
 (.reg [mv 12 5,rg 13 (.bin .add (.t 12) (.c (.i .i64 1))),mv 5 13])))
 (.norm false [0,1,4,5]))
def b97:AX:=
 (.seq
 (.reg [rg 4 (.mov (.c (u64 0)))])
 (.seq
 (.reg [rg 5 (.mov (.c (.i .i64 0)))])
 (.lp 0 (.norm false [0,1,4,5]) l97_0 (.norm false []))))
def l63_0:AX:=
 (.note
 (.seq
 (.seq
 (.reg [mv 19 8,rg 20 (.bin .geq (.t 19) (.c (.i .i64 0)))])
 (.cond (.t 20)
 .skip
 (.exit 0)))
 (.seq
 (.block 1
 (.seq
 (.drawT [mv 23 7,mv 24 0,mv 25 8,rg 26 (.bin .quo (.t 25) (.c (.i .i64 32))),rg 27 (.iad 1 (.t 24) (.t 26)),rg 28 (.load none (.t 27)),mv 29 8,rg 30 (.bin .rem (.t 29) (.c (.i .i64 32))),rg 31 (.bin .shl (.c (u32 1)) (.t 30)),rg 32 (.bin .quo (.t 28) (.t 31)),rg 33 (.bin .rem (.t 32) (.c (u32 2))),rg 34 (.bin .eql (.t 33) (.c (u32 1)))]
 [rg 35 (.call 96 [(.t 23),(.t 34)])])
 (.seq
 (.reg [mv 36 6,rg 37 (.call 96 [(.t 36),(.c (.b false))])])
 (.seq
 (.reg [mv 38 7,mv 39 1,rg 40 (.call 52 [(.t 38),(.t 39)]),rg 41 (.bin .geq (.t 40) (.c (.i .i64 0)))])
 (.cond (.t 41)
 (.seq
 (.reg [mv 42 7,mv 43 1,rg 44 (.call 97 [(.t 42),(.t 43)])])
 (.reg [mv 45 6,rg 46 (.iad 1 (.t 45) (.c (.i .i64 0))),rg 47 (.load none (.t 46)),rg 48 (.bin .add (.t 47) (.c (u32 1))),rg 49 (.iad 1 (.t 45) (.c (.i .i64 0))),so (.store 1 (.t 49) (.t 48))]))
 .skip)))))
 (.reg [mv 21 8,rg 22 (.bin .sub (.t 21) (.c (.i .i64 1))),mv 8 22])))
 (.norm false [0,1,6,7,8]))
def b63:AX:=
 (.seq
 (.reg [rg 4 (.mov (.c (.sl [] .nl))),rg 5 (.mov (.c (.sl [] .nl)))])
 (.seq
 (.reg [mv 9 0,rg 10 (.len (.t 9)),rg 11 (.mks 1 [(u32 0)] (.t 10) (.t 10)),mv 6 11])
 (.seq
 (.reg [mv 12 1,rg 13 (.len (.t 12)),rg 14 (.bin .add (.t 13) (.c (.i .i64 1))),rg 15 (.mks 1 [(u32 0)] (.t 14) (.t 14)),mv 7 15])
 (.seq
 (.seq
 (.reg [mv 16 0,rg 17 (.call 95 [(.t 16)]),rg 18 (.bin .sub (.t 17) (.c (.i .i64 1))),mv 8 18])
 (.lp 0 (.norm false [0,1,6,7,8]) l63_0 (.norm false [6,7])))
 (.seq
 (.reg [mv 50 6,rg 51 (.call 43 [(.t 50)]),mv 52 7,rg 53 (.call 43 [(.t 52)]),mv 4 51,mv 5 53])
 (.pre (.norm false [4,5]) .ret))))))
def row122:AFx:=⟨2,32,[.t 4],b122,none,false⟩
def row95:AFx:=⟨1,19,[.t 2],b95,none,false⟩
def row96:AFx:=⟨2,30,[],b96,(some [true,false]),false⟩
def row97:AFx:=⟨2,37,[],b97,(some [true,false]),false⟩
def row63:AFx:=⟨2,54,[.t 4,.t 5],b63,none,false⟩
class Zak (T:Tbl):Prop extends Za5 T where
 h122:T 122=some row122
 h95:T 95=some row95
 h96:T 96=some row96
 h97:T 97=some row97
 h63:T 63=some row63
section
variable{T:Tbl}[Zak T]{d:Option Nat}{st:St}
@[simp] theorem x122(xs:List AV):Zc (orc T) T 122 xs d st=cP T 122 false xs d st:=zab Zak.h122
@[simp] theorem x95(xs:List AV):Zc (orc T) T 95 xs d st=cP T 95 false xs d st:=zab Zak.h95
@[simp] theorem x96(xs:List AV):Zc (orc T) T 96 xs d st=bL (Zea st.heap [true,false] xs) fun ys=>Zdn ys (Zj (Zas [true,false] xs) st.heap) (reach (Zj (Zas [true,false] xs) st.heap) 40 (Zcc [true,false] xs) []) T 96 false d st:=zal Zak.h96
@[simp] theorem x97(xs:List AV):Zc (orc T) T 97 xs d st=bL (Zea st.heap [true,false] xs) fun ys=>Zdn ys (Zj (Zas [true,false] xs) st.heap) (reach (Zj (Zas [true,false] xs) st.heap) 40 (Zcc [true,false] xs) []) T 97 false d st:=zal Zak.h97
@[simp] theorem x63(xs:List AV):Zc (orc T) T 63 xs d st=cP T 63 false xs d st:=zab Zak.h63
end
def l224_0:AX:=
 (.note
 (.seq
 (.seq
 (.reg [mv 6 0,rg 7 (.bin .rem (.t 6) (.c (u32 2))),rg 8 (.bin .eql (.t 7) (.c (u32 0)))])
 (.cond (.t 8)
 .skip
 (.exit 0)))
 (.block 1
 (.seq
 (.reg [mv 9 0,rg 10 (.bin .quo (.t 9) (.c (u32 2))),mv 0 10])
 (.reg [mv 11 3,rg 12 (.bin .add (.t 11) (.c (.i .i64 1))),mv 3 12]))))
 (.norm false [0,3]))
def b224:AX:=
 (.seq
 (.reg [rg 2 (.mov (.c (.i .i64 0)))])
 (.seq
 (.seq
 (.reg [mv 4 0,rg 5 (.bin .eql (.t 4) (.c (u32 0)))])
 (.cond (.t 5)
 (.seq
 (.reg [rg 2 (.mov (.c (.i .i64 32)))])
 (.pre (.norm false [2]) .ret))
 .skip))
 (.seq
 (.reg [rg 3 (.mov (.c (.i .i64 0)))])
 (.seq
 (.lp 0 (.norm false [0,3]) l224_0 (.norm false [3]))
 (.seq
 (.reg [mv 13 3,mv 2 13])
 (.pre (.norm false [2]) .ret))))))
def l225_0:AX:=
 (.note
 (.seq
 (.seq
 (.reg [mv 7 5,mv 8 0,rg 9 (.len (.t 8)),rg 10 (.bin .lss (.t 7) (.t 9))])
 (.cond (.t 10)
 .skip
 (.exit 0)))
 (.seq
 (.block 1
 (.seq
 (.reg [rg 6 (.mov (.c (u64 0)))])
 (.seq
 (.seq
 (.reg [mv 13 5,rg 14 (.bin .add (.t 13) (.c (.i .i64 1))),mv 15 0,rg 16 (.len (.t 15)),rg 17 (.bin .lss (.t 14) (.t 16))])
 (.cond (.t 17)
 (.reg [mv 18 0,mv 19 5,rg 20 (.bin .add (.t 19) (.c (.i .i64 1))),rg 21 (.iad 1 (.t 18) (.t 20)),rg 22 (.load none (.t 21)),rg 23 (.conv .u64 (.t 22)),mv 6 23])
 .skip))
 (.reg [mv 24 0,mv 25 5,mv 26 6,rg 27 (.bin .mul (.t 26) (.c (u64 4294967296))),mv 28 0,mv 29 5,rg 30 (.iad 1 (.t 28) (.t 29)),rg 31 (.load none (.t 30)),rg 32 (.conv .u64 (.t 31)),rg 33 (.bin .add (.t 27) (.t 32)),mv 34 1,rg 35 (.bin .shr (.t 33) (.t 34)),rg 36 (.conv .u32 (.t 35)),rg 37 (.iad 1 (.t 24) (.t 25)),so (.store 1 (.t 37) (.t 36))]))))
 (.reg [mv 11 5,rg 12 (.bin .add (.t 11) (.c (.i .i64 1))),mv 5 12])))
 (.norm false [0,1,5]))
def l225_1:AX:=
 (.note
 (.seq
 (.seq
 (.reg [mv 38 0,rg 39 (.len (.t 38)),rg 40 (.bin .gtr (.t 39) (.c (.i .i64 0))),mv 41 40,gd 42 41 true (.mov (.t 0)),gd 43 41 true (.mov (.t 0)),gd 44 41 true (.len (.t 43)),gd 45 41 true (.bin .sub (.t 44) (.c (.i .i64 1))),gd 46 41 true (.iad 1 (.t 42) (.t 45)),gd 47 41 true (.load none (.t 46)),gd 48 41 true (.bin .eql (.t 47) (.c (u32 0))),rg 49 (.pick (.t 41) (.t 48) (.c (.b false)))])
 (.cond (.t 49)
 .skip
 (.exit 2)))
 (.block 3
 (.reg [mv 50 0,mv 51 0,rg 52 (.len (.t 51)),rg 53 (.bin .sub (.t 52) (.c (.i .i64 1))),rg 54 (.slc 1 (.t 50) none (some (.t 53)) none),mv 0 54])))
 (.norm false [0]))
def b225:AX:=
 (.seq
 (.reg [rg 4 (.mov (.c (.sl [] .nl)))])
 (.seq
 (.seq
 (.reg [rg 5 (.mov (.c (.i .i64 0)))])
 (.lp 0 (.norm false [0,1,5]) l225_0 (.norm false [0])))
 (.seq
 (.lp 2 (.norm false [0]) l225_1 (.norm false [0]))
 (.seq
 (.reg [mv 55 0,mv 4 55])
 (.pre (.norm false [4]) .ret)))))
def l226_0:AX:=
 (.note
 (.seq
 (.seq
 (.reg [mv 6 0,rg 7 (.iad 1 (.t 6) (.c (.i .i64 0))),rg 8 (.load none (.t 7)),rg 9 (.bin .eql (.t 8) (.c (u32 0)))])
 (.cond (.t 9)
 .skip
 (.exit 0)))
 (.block 1
 (.seq
 (.reg [mv 10 0,rg 11 (.slc 1 (.t 10) (some (.c (.i .i64 1))) none none),mv 0 11])
 (.reg [mv 12 4,rg 13 (.bin .add (.t 12) (.c (.i .i64 32))),mv 4 13]))))
 (.norm false [0,4]))
def b226:AX:=
 (.seq
 (.reg [rg 2 (.mov (.c (.sl [] .nl))),rg 3 (.mov (.c (.i .i64 0)))])
 (.seq
 (.reg [rg 4 (.mov (.c (.i .i64 0)))])
 (.seq
 (.lp 0 (.norm false [0,4]) l226_0 (.norm false [0,4]))
 (.seq
 (.reg [mv 14 0,rg 15 (.iad 1 (.t 14) (.c (.i .i64 0))),rg 16 (.load none (.t 15)),rg 17 (.call 224 [(.t 16)]),mv 5 17])
 (.seq
 (.reg [mv 18 0,mv 19 5,rg 20 (.call 225 [(.t 18),(.t 19)]),mv 21 4,mv 22 5,rg 23 (.bin .add (.t 21) (.t 22)),mv 2 20,mv 3 23])
 (.pre (.norm false [2,3]) .ret))))))
def b227:AX:=
 (.seq
 (.reg [rg 4 (.mov (.c (.sl [] .nl)))])
 (.seq
 (.reg [mv 6 1,rg 7 (.bin .quo (.t 6) (.c (.i .i64 32))),rg 8 (.mks 1 [(u32 0)] (.t 7) (.t 7)),mv 9 0,rg 10 (.app 1 (.t 8) (.t 9)),mv 5 10])
 (.seq
 (.reg [mv 11 5,mv 12 1,rg 13 (.bin .rem (.t 12) (.c (.i .i64 32))),rg 14 (.bin .shl (.c (u32 1)) (.t 13)),rg 15 (.bsl 1 [(u32 0)] 1 [(0,(.t 14))]),rg 16 (.call 61 [(.t 11),(.t 15)]),mv 4 16])
 (.pre (.norm false [4]) .ret))))
def l228_0:AX:=
 (.note
 (.block 1
 (.seq
 (.reg [mv 33 5,mv 34 6,rg 35 (.call 52 [(.t 33),(.t 34)]),mv 9 35])
 (.seq
 (.seq
 (.reg [mv 36 9,rg 37 (.bin .eql (.t 36) (.c (.i .i64 0)))])
 (.cond (.t 37)
 (.exit 0)
 .skip))
 (.seq
 (.seq
 (.reg [mv 38 9,rg 39 (.bin .lss (.t 38) (.c (.i .i64 0)))])
 (.cond (.t 39)
 (.seq
 (.reg [mv 40 5,mv 10 40])
 (.seq
 (.reg [mv 41 6,mv 5 41])
 (.reg [mv 42 10,mv 6 42])))
 .skip))
 (.seq
 (.reg [mv 43 5,mv 44 6,rg 45 (.call 2097 [(.t 43),(.t 44)])])
 (.reg [mv 47 5,rg 48 (.call 226 [(.t 47)]),mv 46 48,rg 49 (.ext (.t 46) 0),rg 50 (.ext (.t 46) 1),mv 5 49]))))))
 (.norm false [5,6,7,8]))
def b228:AX:=
 (.seq
 (.reg [rg 4 (.mov (.c (.sl [] .nl)))])
 (.seq
 (.reg [mv 11 0,rg 12 (.call 2043 [(.t 11)]),mv 5 12])
 (.seq
 (.reg [mv 13 1,rg 14 (.call 2043 [(.t 13)]),mv 6 14])
 (.seq
 (.seq
 (.reg [mv 15 5,rg 16 (.len (.t 15)),rg 17 (.bin .eql (.t 16) (.c (.i .i64 0)))])
 (.cond (.t 17)
 (.seq
 (.reg [mv 18 6,mv 4 18])
 (.pre (.norm false [4]) .ret))
 .skip))
 (.seq
 (.seq
 (.reg [mv 19 6,rg 20 (.len (.t 19)),rg 21 (.bin .eql (.t 20) (.c (.i .i64 0)))])
 (.cond (.t 21)
 (.seq
 (.reg [mv 22 5,mv 4 22])
 (.pre (.norm false [4]) .ret))
 .skip))
 (.seq
 (.reg [mv 24 5,rg 25 (.call 226 [(.t 24)]),mv 23 25,rg 26 (.ext (.t 23) 0),rg 27 (.ext (.t 23) 1),mv 5 26,mv 7 27])
 (.seq
 (.reg [mv 29 6,rg 30 (.call 226 [(.t 29)]),mv 28 30,rg 31 (.ext (.t 28) 0),rg 32 (.ext (.t 28) 1),mv 6 31,mv 8 32])
 (.seq
 (.lp 0 (.norm false [5,6,7,8]) l228_0 (.norm false [5,7,8]))
 (.seq
 (.reg [mv 51 5,mv 52 7,mv 53 8,rg 54 (.mm false [(.t 52),(.t 53)]),rg 55 (.call 227 [(.t 51),(.t 54)]),mv 4 55])
 (.pre (.norm false [4]) .ret))))))))))
def b229:AX:=
 (.seq
 (.reg [rg 2 (.mov (.c (.b false)))])
 (.seq
 (.reg [mv 3 0,rg 4 (.len (.t 3)),rg 5 (.bin .eql (.t 4) (.c (.i .i64 1))),mv 6 5,gd 7 6 true (.mov (.t 0)),gd 8 6 true (.iad 1 (.t 7) (.c (.i .i64 0))),gd 9 6 true (.load none (.t 8)),gd 10 6 true (.bin .eql (.t 9) (.c (u32 1))),rg 11 (.pick (.t 6) (.t 10) (.c (.b false))),mv 2 11])
 (.pre (.norm false [2]) .ret)))
def b230:AX:=
 (.seq
 (.reg [rg 4 (.mov (.c (.sl [] .nl)))])
 (.seq
 (.seq
 (.reg [mv 7 1,rg 8 (.call 229 [(.t 7)])])
 (.cond (.t 8)
 (.seq
 (.reg [mv 9 0,rg 10 (.call 43 [(.t 9)]),mv 4 10])
 (.pre (.norm false [4]) .ret))
 .skip))
 (.seq
 (.reg [mv 12 0,mv 13 1,rg 14 (.call 63 [(.t 12),(.t 13)]),mv 11 14,rg 15 (.ext (.t 11) 0),rg 16 (.ext (.t 11) 1),mv 5 15,mv 6 16])
 (.seq
 (.reg [mv 17 5,mv 4 17])
 (.pre (.norm false [4]) .ret)))))
def l2097_0:AX:=
 (.note
 (.seq
 (.seq
 (.reg [mv 8 5,mv 9 0,rg 10 (.len (.t 9)),rg 11 (.bin .lss (.t 8) (.t 10))])
 (.cond (.t 11)
 .skip
 (.exit 0)))
 (.seq
 (.block 1
 (.seq
 (.reg [mv 14 0,mv 15 5,rg 16 (.iad 1 (.t 14) (.t 15)),rg 17 (.load none (.t 16)),rg 18 (.conv .u64 (.t 17)),mv 6 18])
 (.seq
 (.reg [mv 19 1,mv 20 5,rg 21 (.call 84 [(.t 19),(.t 20)]),rg 22 (.conv .u64 (.t 21)),mv 23 4,rg 24 (.bin .add (.t 22) (.t 23)),mv 7 24])
 (.seq
 (.reg [rg 4 (.mov (.c (u64 0)))])
 (.seq
 (.seq
 (.reg [mv 25 6,mv 26 7,rg 27 (.bin .lss (.t 25) (.t 26))])
 (.cond (.t 27)
 (.seq
 (.reg [mv 28 6,rg 29 (.bin .add (.t 28) (.c (u64 4294967296))),mv 6 29])
 (.reg [rg 4 (.mov (.c (u64 1)))]))
 .skip))
 (.reg [mv 30 0,mv 31 5,mv 32 6,mv 33 7,rg 34 (.bin .sub (.t 32) (.t 33)),rg 35 (.conv .u32 (.t 34)),rg 36 (.iad 1 (.t 30) (.t 31)),so (.store 1 (.t 36) (.t 35))]))))))
 (.reg [mv 12 5,rg 13 (.bin .add (.t 12) (.c (.i .i64 1))),mv 5 13])))
 (.norm false [0,1,4,5]))
def b2097:AX:=
 (.seq
 (.reg [rg 4 (.mov (.c (u64 0)))])
 (.seq
 (.reg [rg 5 (.mov (.c (.i .i64 0)))])
 (.lp 0 (.norm false [0,1,4,5]) l2097_0 (.norm false []))))
def row224:AFx:=⟨1,14,[.t 2],b224,none,false⟩
def row225:AFx:=⟨2,56,[.t 4],b225,(some [true,false]),false⟩
def row226:AFx:=⟨1,24,[.t 2,.t 3],b226,(some [true]),false⟩
def row227:AFx:=⟨2,17,[.t 4],b227,none,false⟩
def row228:AFx:=⟨2,56,[.t 4],b228,none,false⟩
def row229:AFx:=⟨1,12,[.t 2],b229,none,false⟩
def row230:AFx:=⟨2,18,[.t 4],b230,none,false⟩
def row2097:AFx:=⟨2,37,[],b2097,(some [true,true]),false⟩
class Zac (T:Tbl):Prop where
 h224:T 224=some row224
 h225:T 225=some row225
 h226:T 226=some row226
 h227:T 227=some row227
 h228:T 228=some row228
 h229:T 229=some row229
 h230:T 230=some row230
 h2097:T 2097=some row2097
section
variable{T:Tbl}[Zac T]{d:Option Nat}{st:St}{xs:List AV}{ps:List Opd}{e:Env}{h:Heap}{ol:List Heap}
@[simp] theorem x224:Zc (orc T) T 224 xs d st=cP T 224 false xs d st:=zab Zac.h224
@[simp] theorem x225:Zc (orc T) T 225 xs d st=cL T 225 false [true,false] xs d st:=zal Zac.h225
@[simp] theorem x226:Zc (orc T) T 226 xs d st=cL T 226 false [true] xs d st:=zal Zac.h226
@[simp] theorem x227:Zc (orc T) T 227 xs d st=cP T 227 false xs d st:=zab Zac.h227
@[simp] theorem x228:Zc (orc T) T 228 xs d st=cP T 228 false xs d st:=zab Zac.h228
@[simp] theorem x229:Zc (orc T) T 229 xs d st=cP T 229 false xs d st:=zab Zac.h229
@[simp] theorem x230:Zc (orc T) T 230 xs d st=cP T 230 false xs d st:=zab Zac.h230
@[simp] theorem x2097:Zc (orc T) T 2097 xs d st=cL T 2097 false [true,true] xs d st:=zal Zac.h2097
end
section
variable{T:Tbl}[Zak T]
def Zlf(a:List UInt32)(y:Nat×Nat×List UInt32):St:=
 ⟨[(0,.bs (.bor 0) 0 1 0 a.length),(4,u32 y.2.1),(5,.i .i64 y.1)],[(.bor 0,⟨0,.own,1,Za (y.2.2++a.drop y.1)⟩)],4⟩
theorem z3i{p m c c' w s x k:Nat}(h:m+p*c=2*s+k)(e:w+4294967296*c'=2*x+c):(m+p*w)+p*4294967296*c'=2*(s+p*x)+k:=by
 have e2:p*w+p*4294967296*c'=p*(2*x)+p*c:=by rw[Yx,←Yu,e,Yu]
 have e3:p*(2*x)=2*(p*x):=by rw[←Yx,Yad p 2,Yx]
 omega
end
section
variable{T:Tbl}
theorem z3j(a:List UInt32)(c0:Nat)(hl:a.length≤1000000):∀y:Nat×Nat×List UInt32,
  (y.1≤a.length∧y.2.1≤1∧y.2.2.length=y.1∧val y.2.2+4294967296^y.1*y.2.1=2*val (a.take y.1)+c0) →
  ∃r,(∃(c:Nat) (m:List UInt32),r=(Ex.n,(⟨[],[(.bor 0,⟨0,.own,1,Za m⟩)],4⟩:St)) ∧
   m.length=a.length∧c≤1∧val m+4294967296^a.length*c=2*val a+c0)∧Zn T 1 0 (.norm false []) l96_0 (Zlf a y)=some r:=by
 refine zaq _ _ (fun y=>a.length-y.1) _ ?_
 rintro⟨i,c,m⟩ ⟨hi,hc,hm,hv⟩
 simp only at hi hc hm hv;by_cases h0:i<a.length
 ·left;have ha:a[i]? = some (a[i]'h0):=Ya h0;have hg:=zdj (P:=[]) hm h0;have hw:IntKind.wrap .i64 ((i:Int)+1)=((i+1:Nat):Int):=zad _ (by omega);have hlx:=zam (a[i]'h0);have hset:=zc1 (P:=[]) (w32 ((a[i]'h0).toNat*2%4294967296+c)) hm h0;simp at hg hset;have m1:((a[i]'h0).toNat*2%4294967296+c)%4294967296=(a[i]'h0).toNat*2%4294967296+c:=Yi (by omega);have m2:(a[i]'h0).toNat/2147483648<4294967296:=by omega
  have m3:(a[i]'h0).toNat*2%4294967296+c<4294967296:=by omega
  refine⟨(i+1,(a[i]'h0).toNat/2147483648,m++[w32 ((a[i]'h0).toNat*2%4294967296+c)]),⟨h0,by simp only;omega,by simp[hm],?_⟩,by simp only;omega,?_⟩
  ·simp only;rw[zaj,zaf ha,Yw,hm];simp only[zan,za8,Yac,Yt,zb4];exact z3i hv (by omega)
  ·simp -implicitDefEqProofs[l96_0,Zlf,h0,hw,hg,hset,m1,m2,zbi _ _ _ m3]
 ·right;have:i=a.length:=by omega
  subst this;rw[Yb (Yh a.length)]at hv;refine⟨_,⟨c,m,rfl,hm,hc,hv⟩,?_,?_⟩<;>simp -implicitDefEqProofs[l96_0,Zlf]
end
section
variable{T:Tbl}[Zak T]
theorem zg5(a:List UInt32)(v:Bool)(hl:a.length≤1000000) :
  ∃(c:Nat) (m:List UInt32),m.length=a.length∧c≤1∧val m+4294967296^a.length*c=2*val a+(if v then 1 else 0) ∧
   Zaa T 96 [.bs (.bor 0) 0 1 0 a.length,.b v] [(.bor 0,⟨0,.own,1,Za a⟩)]=some (.tup [],[(.bor 0,⟨0,.own,1,Za m⟩)]):=by
 obtain⟨_,⟨c,m,rfl,hm,hc,hv⟩,hr⟩:=z3j (T:=T) a (if v then 1 else 0) hl (0,(if v then 1 else 0),[]) ⟨Yr _,by cases v<;>simp,rfl,by cases v<;>simp⟩;refine⟨c,m,hm,hc,hv,?_⟩;unfold Zlf at hr;simp at hr;rw[zah Zak.h96 rfl,b96];cases v
 ·simp at hr;simp -implicitDefEqProofs[hr]
 ·simp at hr;simp -implicitDefEqProofs[hr]
def Zku(a b:List UInt32)(y:Nat×Nat×List UInt32):St:=
 ⟨[(0,.bs (.bor 0) 0 1 0 a.length),(1,.sl (Za b) .an),(4,u64 y.2.1),(5,.i .i64 y.1)],[(.bor 0,⟨0,.own,1,Za (y.2.2++a.drop y.1)⟩)],4⟩
theorem z3k(a b:List UInt32)(hl:a.length≤1000000)(hb:b.length≤1000000):∀y:Nat×Nat×List UInt32,
  (y.1≤a.length∧y.2.1≤1∧y.2.2.length=y.1∧val y.2.2+val (b.take y.1)=val (a.take y.1)+4294967296^y.1*y.2.1) →
  ∃r,(∃(c:Nat) (m:List UInt32),r=(Ex.n,(⟨[],[(.bor 0,⟨0,.own,1,Za m⟩)],4⟩:St)) ∧
   m.length=a.length∧c≤1∧val m+val (b.take a.length)=val a+4294967296^a.length*c)∧Zn T 1 0 (.norm false []) l97_0 (Zku a b y)=some r:=by
 refine zaq _ _ (fun y=>a.length-y.1) _ ?_
 rintro⟨i,c,m⟩ ⟨hi,hc,hm,hv⟩
 simp only at hi hc hm hv;by_cases h0:i<a.length
 ·left;have ha:a[i]? = some (a[i]'h0):=Ya h0;have hg:=zdj (P:=[]) hm h0;have hw:IntKind.wrap .i64 ((i:Int)+1)=((i+1:Nat):Int):=zad _ (by omega);have cb:=zde (T:=T) b i hb;have la:=zam (a[i]'h0);have lb:=zin b i;have e1:=zaf ha;have e2:=zbg b i;simp at hg;have m1:(a[i]'h0).toNat%18446744073709551616=(a[i]'h0).toNat:=Yi (by omega);have m2:atW b i%18446744073709551616=atW b i:=Yi (by omega);have m3:(atW b i+c)%18446744073709551616=atW b i+c:=Yi (by omega);have m4:((a[i]'h0).toNat+4294967296)%18446744073709551616=(a[i]'h0).toNat+4294967296:=Yi (by omega);have fin:∀s d:Nat,d≤1→s<4294967296→s+(atW b i+c)=(a[i]'h0).toNat+4294967296*d →
    val (m++[w32 s])+val (b.take (i+1))=val (a.take (i+1))+4294967296^(i+1)*d:=by
   intro s d hd hs h;rw[zaj,hm,e1,e2,Yw];simp only[zan,za8,Yac,Yt,zag hs];generalize 4294967296^i=p at *
   have e3:p*s+p*(atW b i+c)=p*(a[i]'h0).toNat+p*4294967296*d:=by rw[←Yu,h,Yu,Yx]
   rw[Yu]at e3;omega
  by_cases h1:(a[i]'h0).toNat<atW b i+c
  ·have hs:Zdo ((a[i]'h0).toNat+4294967296) (atW b i+c)=(a[i]'h0).toNat+4294967296-(atW b i+c):=zev (by omega) (by omega);have m5:(a[i]'h0).toNat+4294967296-(atW b i+c)<4294967296:=by omega
   have hset:=zc1 (P:=[]) (w32 ((a[i]'h0).toNat+4294967296-(atW b i+c))) hm h0;simp at hset;refine⟨(i+1,1,m++[w32 ((a[i]'h0).toNat+4294967296-(atW b i+c))]),⟨h0,Yh _,by simp[hm],fin _ 1 (by omega) (by omega) (by omega)⟩,by simp only;omega,?_⟩;simp -implicitDefEqProofs[l97_0,Zku,h0,cb,m1,m2,m3,m4,h1,hs,hg,hw,hset]
  ·have hs:Zdo (a[i]'h0).toNat (atW b i+c)=(a[i]'h0).toNat-(atW b i+c):=zev (by omega) (by omega);have m5:(a[i]'h0).toNat-(atW b i+c)<4294967296:=by omega
   have hset:=zc1 (P:=[]) (w32 ((a[i]'h0).toNat-(atW b i+c))) hm h0;simp at hset;refine⟨(i+1,0,m++[w32 ((a[i]'h0).toNat-(atW b i+c))]),⟨h0,Yr _,by simp[hm],fin _ 0 (by omega) (by omega) (by omega)⟩,by simp only;omega,?_⟩;simp -implicitDefEqProofs[l97_0,Zku,h0,cb,m1,m2,m3,h1,hs,hg,hw,hset]
 ·right;have:i=a.length:=by omega
  subst this;rw[Yb (Yh a.length)]at hv;refine⟨_,⟨c,m,rfl,hm,hc,hv⟩,?_,?_⟩<;>simp -implicitDefEqProofs[l97_0,Zku]
theorem zr9(a b:List UInt32)(hl:a.length≤1000000)(hb:b.length≤a.length)(hab:val b≤val a) :
  ∃m:List UInt32,m.length=a.length∧val m=val a-val b ∧
   Zaa T 97 [.bs (.bor 0) 0 1 0 a.length,.sl (Za b) .an] [(.bor 0,⟨0,.own,1,Za a⟩)]=some (.tup [],[(.bor 0,⟨0,.own,1,Za m⟩)]):=by
 obtain⟨_,⟨c,m,rfl,hm,hc,hv⟩,hr⟩:=z3k (T:=T) a b hl (by omega) (0,0,[]) ⟨Yr _,Yr _,rfl,by simp⟩;rw[Yb hb]at hv;have hlo:=zay m;rw[hm]at hlo;have hval:val m=val a-val b:=by
  rcases Ya0 c with h1 | h1
  ·subst h1;omega
  ·have:c=1:=by omega
   subst this;omega
 refine⟨m,hm,hval,?_⟩;unfold Zku at hr;simp at hr;rw[zah Zak.h97 rfl,b97];simp -implicitDefEqProofs[hr]
def Zlg(x i:Nat)(y:Nat):St:=⟨[(1,.i .i64 i),(5,u32 (x/2^y)),(6,.i .i64 y)],[],2⟩
end
section
variable{T:Tbl}
theorem z3l(x i:Nat)(_hi:i≤100000000)(hx:x<4294967296):∀y:Nat,y≤i%32 →
  ∃r,(r=(Ex.n,(⟨[(5,u32 (x/2^(i%32)))],[],2⟩:St)))∧Zn T 0 0 (.norm false [5]) l122_0 (Zlg x i y)=some r:=by
 refine zaq _ _ (fun y=>i%32-y) _ ?_;intro j hj;have hm:((i:Int).tmod 32)=((i%32:Nat):Int):=rfl;have hlt:x/2^j<4294967296:=Yb8 (Ybx _ _) hx;by_cases h0:j<i%32
 ·left;have hw:IntKind.wrap .i64 ((j:Int)+1)=((j+1:Nat):Int):=zad _ (by omega);have hd:x/2^j/2=x/2^(j+1):=by rw[Ybg,Yw]
  have hd2:x/2^(j+1)%4294967296=x/2^(j+1):=Yi (Yb8 (Ybx _ _) hx);refine⟨j+1,h0,by omega,?_⟩;have hj2:(j:Int)<(i:Int)%32:=by omega
  simp -implicitDefEqProofs[l122_0,Zlg,hm,hw,hd,hd2,hj2]
 ·right;have:j=i%32:=by omega
  subst this;refine⟨_,rfl,?_,?_⟩<;>simp -implicitDefEqProofs[l122_0,Zlg,hm]
end
section
variable{T:Tbl}[Zak T]
theorem zv9(a:List UInt32)(i:Nat)(hl:a.length≤1000000)(hi:i<32*a.length) :
  Zb T 122 [.sl (Za a) .an,.i .i64 i]=some (.b (decide (val a/2^i%2=1))):=by
 have h1:i/32<a.length:=by omega
 have ha:a[i/32]? = some (a[i/32]'h1):=Ya h1;obtain⟨_,rfl,hr⟩:=z3l (T:=T) (a[i/32]'h1).toNat i (by omega) (zam _) 0 (Yr _);unfold Zlg at hr;simp at hr;have hq:IntKind.wrap .i64 ((i:Int)/32)=(i:Int)/32:=zad (i/32) (by omega);have hq1:((i:Int)/32).toNat=i/32:=by omega
 have hq2:(0:Int)≤(i:Int)/32:=by omega
 have hq3:(i:Int)/32<(a.length:Int):=by omega
 have hq4:¬ (a.length:Int)≤(i:Int)/32:=by omega
 have hb:=zw7 ha;have hlt:(a[i/32]'h1).toNat/2^(i%32)<4294967296:=Yb8 (Ybx _ _) (zam _);rw[zaa Zak.h122 rfl,b122];simp -implicitDefEqProofs[hr,hq,hq1,hq2,hq3,hq4,h1,hb]
def Zkv(a:List UInt32)(y:Nat):St:=⟨[(0,.sl (Za a) .an),(3,.i .i64 y)],[],2⟩
theorem z3m(a:List UInt32)(hl:a.length≤1000000):∀y:Nat,(y≤32*a.length∧val a<2^y) →
  ∃r,(∃n:Nat,r=(Ex.n,(⟨[(3,.i .i64 n)],[],2⟩:St))∧n≤32*a.length∧val a<2^n)∧Zn T 0 0 (.norm false [3]) l95_0 (Zkv a y)=some r:=by
 refine zaq _ _ (fun y=>y) _ ?_
 rintro k ⟨hk,hv⟩
 by_cases h0:k=0
 ·right;subst h0;refine⟨_,⟨0,rfl,Yr _,hv⟩,?_,?_⟩<;>simp -implicitDefEqProofs[l95_0,Zkv]
 ·obtain⟨j,rfl⟩:∃j,k=j+1:=⟨k-1,by omega⟩;have hw:IntKind.wrap .i64 (j:Int)=(j:Int):=zad _ (by omega);have hh:=zv9 (T:=T) a j hl (by omega);have hp:(0:Int)<(j:Int)+1:=by omega
  by_cases h1:val a/2^j%2=1
  ·right;refine⟨_,⟨j+1,rfl,hk,hv⟩,?_,?_⟩<;>simp -implicitDefEqProofs[l95_0,Zkv,hw,hh,hp,h1]
  ·left;refine⟨j,⟨by omega,zw8 hv (by generalize val a/2^j=q at *;omega)⟩,by omega,?_⟩;simp -implicitDefEqProofs[l95_0,Zkv,hw,hh,hp,h1]
theorem zwa(a:List UInt32)(hl:a.length≤1000000):∃n:Nat,n≤32*a.length∧val a<2^n∧Zb T 95 [.sl (Za a) .an]=some (.i .i64 n):=by
 obtain⟨_,⟨n,rfl,hn,hv⟩,hr⟩:=z3m (T:=T) a hl (32*a.length) ⟨Yh _,by rw[←zo9];exact zay a⟩;refine⟨n,hn,hv,?_⟩;unfold Zkv at hr;simp at hr;have hw:IntKind.wrap .i64 (32*(a.length:Int))=32*(a.length:Int):=by
  have:=zad (32*a.length) (by omega);simpa using this
 rw[zaa Zak.h95 rfl,b95];simp -implicitDefEqProofs[hr,hw]
end
section
variable{T:Tbl}[Zak T]
theorem zzf(n:Nat)(h:n<32):Zag .shl (u32 1) (.i .i64 (n:Int))=some (u32 (2^n)):=by
 have h1:¬ (n:Int)<0:=by omega
 have h2:2^n<4294967296:=by
  have:2^n<2^32:=Nat.pow_lt_pow_right (by decide) h;simpa using this
 have h3:min n IntKind.u32.bits=n:=by
  have:IntKind.u32.bits=32:=rfl;rw[this];omega
 have h4:((1:Nat):Int)*2^n=((2^n:Nat):Int):=by simp
 unfold u32;simp only[Zag,if_neg h1,Yag,h3,h4,zd0,Yi h2]
theorem z9f{v b Q L:Nat}(hb:0<b)(hq:Q=v/2/b)(hr:L=v/2%b) :
  (b≤2*L+v%2→v/b=2*Q+1∧v%b=2*L+v%2-b)∧(2*L+v%2<b→v/b=2*Q∧v%b=2*L+v%2):=by
 have h1:=Yba (v/2) b;have h2:L<b:=by rw[hr];exact Ya3 _ hb
 rw[←hq,←hr]at h1;have h3:v=b*(2*Q)+(2*L+v%2):=by
  rw[←Yx,Yad b 2,Yx];omega
 have ht:v%2<2:=Ya3 _ (by decide);clear h1 hq hr;generalize v%2=t at *
 rw[h3];constructor
 ·intro h;have e:b*(2*Q)+(2*L+t)=(2*L+t-b)+b*(2*Q+1):=by rw[Yu,Ycl];omega
  rw[e,Yb0 _ _ hb,Yc7,Ybc (by omega),Yi (by omega)];omega
 ·intro h;rw[Ybf,Yb0 _ _ hb,Yc7,Ybc h,Yi h];omega
theorem z3n{a:List UInt32}{x:UInt32}(h:a[0]? = some x)(hx:x.toNat+1<4294967296):val (a.set 0 (w32 (x.toNat+1)))=val a+1:=by
 cases a with
 | nil=>cases h
 | cons y l=>
  cases h;simp only[Yct,zan,zag hx];omega
def Zi8(a b:List UInt32)(y:Nat×List UInt32×List UInt32):St:=
 ⟨[(0,.sl (Za a) .an),(1,.sl (Za b) .an),(6,.bs (.loc 11) 1 1 0 a.length),(7,.bs (.loc 15) 2 1 0 (b.length+1)),(8,.i .i64 ((y.1:Int)-1))],[(.loc 11,⟨1,.own,1,Za y.2.1⟩),(.loc 15,⟨2,.own,1,Za y.2.2⟩)],4⟩
theorem z3o(a b:List UInt32)(ha:a.length≤100000)(hb:b.length≤100000)(h0b:0<val b):∀y:Nat×List UInt32×List UInt32,
  (y.1≤32*a.length∧y.2.1.length=a.length∧y.2.2.length=b.length+1∧val y.2.1=val a/2^y.1/val b∧val y.2.2=val a/2^y.1%val b) →
  ∃r,(∃Q L:List UInt32,r=(Ex.n,(⟨[(6,.bs (.loc 11) 1 1 0 a.length),(7,.bs (.loc 15) 2 1 0 (b.length+1))],[(.loc 11,⟨1,.own,1,Za Q⟩),(.loc 15,⟨2,.own,1,Za L⟩)],4⟩:St)) ∧
   Q.length=a.length∧L.length=b.length+1∧val Q=val a/val b∧val L=val a%val b)∧Zn T 0 0 (.norm false [6,7]) l63_0 (Zi8 a b y)=some r:=by
 refine zaq _ _ (fun y=>y.1) _ ?_
 rintro⟨k,Q,L⟩ ⟨hk,hQ,hL,hq,hr⟩
 simp only at hk hQ hL hq hr;cases k with
 | zero=>
  right;rw[Yds,Nat.div_one]at hq hr;refine⟨_,⟨Q,L,rfl,hQ,hL,hq,hr⟩,?_,?_⟩<;>simp -implicitDefEqProofs[l63_0,Zi8]
 | succ j=>
  left;have h1:j/32<a.length:=by omega
  have hag:a[j/32]? = some (a[j/32]'h1):=Ya h1;have hbit:=zw7 hag;have hw:IntKind.wrap .i64 ((j:Int)-1)=(j:Int)-1:=zad _ (by omega);have hsh:Zag .shl (u32 1) (.i .i64 ((j:Int)%32))=some (u32 (2^(j%32))):=zzf (j%32) (Ya3 _ (by decide));have hm:((j:Int).tmod 32)=((j%32:Nat):Int):=rfl;have hj0:IntKind.wrap .i64 ((j:Int)/32)=(j:Int)/32:=zad (j/32) (by omega);have hj1:((j:Int)/32).toNat=j/32:=by omega
  have hj2:(0:Int)≤(j:Int)/32:=by omega
  have hj3:(j:Int)/32<(a.length:Int):=by omega
  have hxl:=zam (a[j/32]'h1);obtain⟨cL,L2,hL2,hcL,hvL,hrL⟩:=zg5 (T:=T) L (decide ((a[j/32]'h1).toNat/2^(j%32)%2=1)) (by omega);obtain⟨cQ,Q2,hQ2,hcQ,hvQ,hrQ⟩:=zg5 (T:=T) Q false (by omega);have hcmp:=zek (T:=T) L2 b (by omega) (by omega);have hpq:(2^(j%32))≠0:=Nat.ne_of_gt (Ya2 (by decide));rw[hL]at hrL;rw[hQ]at hrQ;rw[hL]at hL2;rw[hQ]at hQ2;have htL:List.take (b.length+1) L2=L2:=Yb (by omega);have hres:∃Q3 L3:List UInt32,Q3.length=a.length∧L3.length=b.length+1∧val Q3=val a/2^j/val b∧val L3=val a/2^j%val b ∧
    (evX (orc T) T 0 l63_0 (Zi8 a b (j+1,Q,L))=some (Ex.n,Zi8 a b (j,Q3,L3))):=by
   have hvb:=zay b;have hva:=zay a;have hLb:val L<val b:=by rw[hr];exact Ya3 _ h0b
   have hv2:val a/2^(j+1)=val a/2^j/2:=by rw[Yw,Ybg]
   rw[hv2]at hq hr;have hlaw:=z9f h0b hq hr;have hva2:val a/2^j≤val a:=Ybx _ _;have hq2:2*val Q≤val a/2^j:=by
    have h2:val a/2^j/2/val b≤val a/2^j/2:=Ybx _ _;omega
   have hL0:val L2=2*val L+val a/2^j%2:=by
    have hb2:(if decide ((a[j/32]'h1).toNat/2^(j%32)%2=1)=true then 1 else 0)=val a/2^j%2:=by
     rw[hbit];simp only[decide_eq_true_eq];split<;>omega
    rw[hb2,hL,Yw]at hvL;have ht:val a/2^j%2<2:=Ya3 _ (by decide);generalize val a/2^j%2=t at *
    generalize 4294967296^b.length=p at *
    rcases Ya0 cL with h | h
    ·rw[h,Yac,Yt]at hvL;exact hvL
    ·have:=Yak (p*4294967296) h;generalize p*4294967296*cL=u at *
     omega
   have hQ0:val Q2=2*val Q:=by
    rw[hQ]at hvQ;simp at hvQ;generalize 4294967296^a.length=p at *
    rcases Ya0 cQ with h | h
    ·rw[h,Yac,Yt]at hvQ;exact hvQ
    ·have:=Yak p h;generalize p*cQ=u at *
     omega
   rw[←hL0]at hlaw;by_cases hle:val b≤val L2
   ·have hc:(0:Int)≤Zcm (val L2) (val b):=by
     unfold Zcm;split
     ·omega
     ·split<;>omega
    obtain⟨L3,hL3,hvL3,hrL3⟩:=zr9 (T:=T) L2 b (by omega) (by omega) hle;rw[hL2]at hrL3 hL3;have h0Q:0<Q2.length:=by omega
    have hQg:Q2[0]? = some (Q2[0]'h0Q):=Ya h0Q;have hev:(Q2[0]'h0Q).toNat+1<4294967296:=by
     have:=zam (Q2[0]'h0Q);have hc:val Q2=(Q2[0]'h0Q).toNat+4294967296*val (Q2.drop 1):=by
      conv=>lhs;rw[←Yar (l:=Q2),Yf h0Q,zan]
     omega
    have h0a:0<a.length:=by omega
    have hQg':=hQg;have hev':=hev;generalize hqq:(Q2[0]'h0Q).toNat=qq at hev';refine⟨Q2.set 0 (w32 ((Q2[0]'h0Q).toNat+1)),L3,by simp[hQ2],hL3,by rw[z3n hQg hev,hQ0,(hlaw.1 hle).1],by rw[hvL3,(hlaw.1 hle).2],?_⟩;simp -implicitDefEqProofs[l63_0,Zi8,hw,hsh,hm,hj0,hj1,hj2,hj3,h1,hrL,hrQ,hL2,htL,hcmp,hc,hrL3,hQ2,h0a]
   ·have hc:¬ (0:Int)≤Zcm (val L2) (val b):=by unfold Zcm;rw[if_pos (by omega)];decide
    have hlt:val L2<val b:=by omega
    refine⟨Q2,L2,hQ2,hL2,by rw[hQ0,(hlaw.2 hlt).1],by rw[(hlaw.2 hlt).2],?_⟩;simp -implicitDefEqProofs[l63_0,Zi8,hw,hsh,hm,hj0,hj1,hj2,hj3,h1,hrL,hrQ,hL2,htL,hcmp,hc]
  obtain⟨Q3,L3,e1,e2,e3,e4,e5⟩:=hres;exact⟨(j,Q3,L3),⟨by simp only;omega,e1,e2,e3,e4⟩,Y4 j,e5⟩
theorem zwb(a b:List UInt32)(ha:a.length≤100000)(hb:b.length≤100000)(h0b:0<val b) :
  Zb T 63 [.sl (Za a) .an,.sl (Za b) .an]=some (.tup [.sl (Za (ofN (val a/val b))) .an,.sl (Za (ofN (val a%val b))) .an]):=by
 obtain⟨n,hn,hvn,hln⟩:=zwa (T:=T) a (by omega);have hd0:val a/2^n=0:=Ybc hvn;obtain⟨_,⟨Q,L,rfl,hQ,hL,hq,hr⟩,hlp⟩:=z3o (T:=T) a b ha hb h0b (n,List.replicate a.length 0,List.replicate (b.length+1) 0)
  ⟨hn,by simp,by simp,by simp[zbk,hd0],by simp only[hd0,Nat.zero_mod];exact zbk _⟩
 have hw:IntKind.wrap .i64 ((n:Int)-1)=(n:Int)-1:=zad _ (by omega);have hw2:IntKind.wrap .i64 ((b.length:Int)+1)=((b.length+1:Nat):Int):=zad _ (by omega);have h1:(a.length:Int)≤4294967296:=by omega
 have h2:(b.length:Int)+1≤4294967296:=by omega
 have hn1:=zbm (T:=T) Q (by omega);have hn2:=zbm (T:=T) L (by omega);have t1:List.take a.length Q=Q:=Yb (by omega);have t2:List.take (b.length+1) L=L:=Yb (by omega);unfold Zi8 at hlp;simp at hlp;rw[zaa Zak.h63 rfl,b63];simp -implicitDefEqProofs[hln,hw,hw2,h1,h2,hlp,hQ,hL,t1,t2,hn1,hn2,hq,hr]
end
def l2043_0:AX:=
 (.note
 (.seq
 (.seq
 (.reg [mv 6 3,rg 7 (.bin .gtr (.t 6) (.c (.i .i64 0))),mv 8 7,gd 9 8 true (.mov (.t 0)),gd 10 8 true (.mov (.t 3)),gd 11 8 true (.bin .sub (.t 10) (.c (.i .i64 1))),gd 12 8 true (.iad 1 (.t 9) (.t 11)),gd 13 8 true (.load none (.t 12)),gd 14 8 true (.bin .eql (.t 13) (.c (u32 0))),rg 15 (.pick (.t 8) (.t 14) (.c (.b false)))])
 (.cond (.t 15)
 .skip
 (.exit 0)))
 (.block 1
 (.reg [mv 16 3,rg 17 (.bin .sub (.t 16) (.c (.i .i64 1))),mv 3 17])))
 (.norm false [0,3]))
def b2043:AX:=
 (.seq
 (.reg [rg 2 (.mov (.c (.sl [] .nl)))])
 (.seq
 (.reg [mv 4 0,rg 5 (.len (.t 4)),mv 3 5])
 (.seq
 (.lp 0 (.norm false [0,3]) l2043_0 (.norm false [0,3]))
 (.seq
 (.reg [rg 18 (.bsl 1 [(u32 0)] 0 []),mv 19 0,mv 20 3,rg 21 (.slc 1 (.t 19) none (some (.t 20)) none),rg 22 (.app 1 (.t 18) (.t 21)),mv 2 22])
 (.pre (.norm false [2]) .ret)))))
def row2043:AFx:=⟨1,23,[.t 2],b2043,(some [false]),false⟩
class Zbf (T:Tbl):Prop extends Zak T where
 h2043:T 2043=some row2043
section
variable{T:Tbl}[Zbf T]{d:Option Nat}{st:St}
@[simp] theorem x2043(xs:List AV):Zc (orc T) T 2043 xs d st=bL (Zea st.heap [false] xs) fun ys=>Zdn ys (Zj (Zas [false] xs) st.heap) (reach (Zj (Zas [false] xs) st.heap) 40 (Zcc [false] xs) []) T 2043 false d st:=zal Zbf.h2043
end
section
variable{T:Tbl}[Zbf T]
theorem ze6(a:List UInt32)(hl:a.length≤1000000):Zaa T 2043 [.sl (Za a) .an] [] =
  some (.bs (.loc 22) 1 1 0 (ofN (val a)).length,[(.loc 22,⟨1,.own,1,Za (ofN (val a))⟩)]):=by
 obtain⟨n,h1,h2,h3,h4⟩:=zgb a;have hr:=zej (T:=T) a (by omega) h1 h3 h4 a.length ⟨h1,Yh _⟩;rw[show l43_0=l2043_0 from rfl]at hr;have hlen:(ofN (val a)).length=n:=by rw[←h2];simp;omega
 have hb:n≤4294967296:=by omega
 rw[zah Zbf.h2043 rfl,b2043];simp -implicitDefEqProofs[hr,h1,h2,hb,hlen]
def Znq(N:Nat)(y:Nat×Nat×List UInt32)(P:List UInt32):St:=
 ⟨[(0,.bs (.bor 0) 0 1 0 N),(3,u64 y.2.1),(4,.i .i64 ((y.1:Int)-1))],[(.bor 0,⟨0,.own,1,Za (P.take y.1++y.2.2)⟩)],4⟩
end
section
variable{T:Tbl}[Zbf T]
def Zob(b:BId)(x:List UInt32)(s:List UInt8):St:=⟨[(3,.bs b 1 1 0 x.length),(4,.s s)],[(b,⟨1,.own,1,Za x⟩)],3⟩
end
def b39:AX:=
 (.seq
 (.reg [rg 1 (.xop (.box 2) [(.t 0)]),rg 2 (.alloc [(.b false),(.sl [] .nl)])])
 (.seq
 (.reg [rg 4 (.fad 1 (.t 1)),rg 5 (.load none (.t 4)),rg 6 (.call 43 [(.t 5)]),mv 3 6])
 (.seq
 (.reg [rg 7 (.fad 0 (.t 1)),rg 8 (.load none (.t 7)),mv 9 8,gd 10 9 true (.mov (.t 3)),gd 11 9 true (.len (.t 10)),gd 12 9 true (.bin .gtr (.t 11) (.c (.i .i64 0))),rg 13 (.pick (.t 9) (.t 12) (.c (.b false))),mv 14 3,rg 15 (.build [(.b false),(.sl [] .nl)] [(0,1,(.t 13)),(1,1,(.t 14))]),so (.store 2 (.t 2) (.t 15))])
 (.pre (.norm false [2]) .ret))))
def b24:AX:=
 (.seq
 (.reg [rg 2 (.xop (.box 2) [(.t 0)]),rg 3 (.xop (.box 2) [(.t 1)]),rg 4 (.alloc [(.b false),(.sl [] .nl)])])
 (.seq
 (.seq
 (.reg [rg 5 (.fad 0 (.t 2)),rg 6 (.load none (.t 5)),rg 7 (.fad 0 (.t 3)),rg 8 (.load none (.t 7)),rg 9 (.eqb false (.t 6) (.t 8))])
 (.cond (.t 9)
 (.seq
 (.drawT [rg 10 (.fad 0 (.t 2)),rg 11 (.load none (.t 10)),rg 12 (.fad 1 (.t 2)),rg 13 (.load none (.t 12)),rg 14 (.fad 1 (.t 3)),rg 15 (.load none (.t 14)),rg 16 (.call 58 [(.t 13),(.t 15)])]
 [rg 17 (.build [(.b false),(.sl [] .nl)] [(0,1,(.t 11)),(1,1,(.t 16))]),rg 18 (.call 39 [(.t 17)]),so (.store 2 (.t 4) (.t 18))])
 (.pre (.norm false [4]) .ret))
 .skip))
 (.seq
 (.seq
 (.reg [rg 19 (.fad 1 (.t 2)),rg 20 (.load none (.t 19)),rg 21 (.fad 1 (.t 3)),rg 22 (.load none (.t 21)),rg 23 (.call 52 [(.t 20),(.t 22)]),rg 24 (.bin .lss (.t 23) (.c (.i .i64 0)))])
 (.cond (.t 24)
 (.seq
 (.drawT [rg 25 (.fad 0 (.t 3)),rg 26 (.load none (.t 25)),rg 27 (.fad 1 (.t 3)),rg 28 (.load none (.t 27)),rg 29 (.fad 1 (.t 2)),rg 30 (.load none (.t 29)),rg 31 (.call 59 [(.t 28),(.t 30)])]
 [rg 32 (.build [(.b false),(.sl [] .nl)] [(0,1,(.t 26)),(1,1,(.t 31))]),rg 33 (.call 39 [(.t 32)]),so (.store 2 (.t 4) (.t 33))])
 (.pre (.norm false [4]) .ret))
 .skip))
 (.seq
 (.drawT [rg 34 (.fad 0 (.t 2)),rg 35 (.load none (.t 34)),rg 36 (.fad 1 (.t 2)),rg 37 (.load none (.t 36)),rg 38 (.fad 1 (.t 3)),rg 39 (.load none (.t 38)),rg 40 (.call 59 [(.t 37),(.t 39)])]
 [rg 41 (.build [(.b false),(.sl [] .nl)] [(0,1,(.t 35)),(1,1,(.t 40))]),rg 42 (.call 39 [(.t 41)]),so (.store 2 (.t 4) (.t 42))])
 (.pre (.norm false [4]) .ret)))))
def row39:AFx:=⟨1,16,[.cell 2 (some 2)],b39,none,false⟩
def row24:AFx:=⟨2,43,[.cell 4 (some 2)],b24,none,false⟩
class Zbk (T:Tbl):Prop extends Zbf T where
 h39:T 39=some row39
 h24:T 24=some row24
section
variable{T:Tbl}[Zbk T]{d:Option Nat}{st:St}
@[simp] theorem x39(xs:List AV):Zc (orc T) T 39 xs d st=cP T 39 false xs d st:=zab Zbk.h39
@[simp] theorem x24(xs:List AV):Zc (orc T) T 24 xs d st=cP T 24 false xs d st:=zab Zbk.h24
end
def b231:AX:=
 (.seq
 (.reg [rg 1 (.xop (.box 3) [(.t 0)]),rg 2 (.alloc [(.b false),(.sl [] .nl),(.sl [] .nl)])])
 (.seq
 (.reg [rg 6 (.fad 2 (.t 1)),rg 7 (.load none (.t 6)),rg 8 (.call 43 [(.t 7)]),mv 3 8])
 (.seq
 (.reg [rg 9 (.fad 1 (.t 1)),rg 10 (.load none (.t 9)),rg 11 (.call 43 [(.t 10)]),mv 4 11])
 (.seq
 (.seq
 (.reg [mv 12 3,rg 13 (.len (.t 12)),rg 14 (.bin .eql (.t 13) (.c (.i .i64 0))),mv 15 14,gd 16 15 false (.mov (.t 4)),gd 17 15 false (.len (.t 16)),gd 18 15 false (.bin .eql (.t 17) (.c (.i .i64 0))),rg 19 (.pick (.t 15) (.c (.b true)) (.t 18))])
 (.cond (.t 19)
 (.seq
 (.reg [rg 20 (.bsl 1 [(u32 0)] 0 []),rg 21 (.bsl 1 [(u32 0)] 1 [(0,(.c (u32 1)))]),rg 22 (.build [(.b false),(.sl [] .nl),(.sl [] .nl)] [(1,1,(.t 20)),(2,1,(.t 21))]),so (.store 3 (.t 2) (.t 22))])
 (.pre (.norm false [2]) .ret))
 .skip))
 (.seq
 (.seq
 (.reg [mv 23 3,rg 24 (.call 229 [(.t 23)]),rg 25 (.un .not (.t 24))])
 (.cond (.t 25)
 (.seq
 (.reg [mv 26 4,mv 27 3,rg 28 (.call 228 [(.t 26),(.t 27)]),mv 5 28])
 (.seq
 (.reg [mv 29 4,mv 30 5,rg 31 (.call 230 [(.t 29),(.t 30)]),mv 4 31])
 (.reg [mv 32 3,mv 33 5,rg 34 (.call 230 [(.t 32),(.t 33)]),mv 3 34])))
 .skip))
 (.seq
 (.reg [rg 35 (.fad 0 (.t 1)),rg 36 (.load none (.t 35)),mv 37 4,mv 38 3,rg 39 (.build [(.b false),(.sl [] .nl),(.sl [] .nl)] [(0,1,(.t 36)),(1,1,(.t 37)),(2,1,(.t 38))]),so (.store 3 (.t 2) (.t 39))])
 (.pre (.norm false [2]) .ret)))))))
def b232:AX:=
 (.seq
 (.reg [rg 2 (.alloc [(.b false),(.sl [] .nl),(.sl [] .nl)])])
 (.seq
 (.seq
 (.reg [mv 3 0,rg 4 (.bin .lss (.t 3) (.c (.i .i64 0)))])
 (.cond (.t 4)
 (.seq
 (.reg [mv 5 0,rg 6 (.bin .add (.t 5) (.c (.i .i64 1))),rg 7 (.un .neg (.t 6)),rg 8 (.conv .u64 (.t 7)),rg 9 (.call 353 [(.t 8)]),rg 10 (.bsl 1 [(u32 0)] 1 [(0,(.c (u32 1)))]),rg 11 (.call 58 [(.t 9),(.t 10)]),rg 12 (.bsl 1 [(u32 0)] 1 [(0,(.c (u32 1)))]),rg 13 (.build [(.b false),(.sl [] .nl),(.sl [] .nl)] [(0,1,(.c (.b true))),(1,1,(.t 11)),(2,1,(.t 12))]),rg 14 (.call 231 [(.t 13)]),so (.store 3 (.t 2) (.t 14))])
 (.pre (.norm false [2]) .ret))
 .skip))
 (.seq
 (.reg [mv 15 0,rg 16 (.conv .u64 (.t 15)),rg 17 (.call 353 [(.t 16)]),rg 18 (.bsl 1 [(u32 0)] 1 [(0,(.c (u32 1)))]),rg 19 (.build [(.b false),(.sl [] .nl),(.sl [] .nl)] [(1,1,(.t 17)),(2,1,(.t 18))]),rg 20 (.call 231 [(.t 19)]),so (.store 3 (.t 2) (.t 20))])
 (.pre (.norm false [2]) .ret))))
def b233:AX:=
 (.seq
 (.reg [rg 2 (.xop (.box 3) [(.t 0)]),rg 3 (.xop (.box 3) [(.t 1)]),rg 4 (.mov (.c (.b false)))])
 (.seq
 (.reg [rg 5 (.fad 0 (.t 2)),rg 6 (.load none (.t 5)),rg 7 (.fad 0 (.t 3)),rg 8 (.load none (.t 7)),rg 9 (.eqb false (.t 6) (.t 8)),mv 10 9,gd 11 10 true (.fad 1 (.t 2)),gd 12 10 true (.load none (.t 11)),gd 13 10 true (.fad 1 (.t 3)),gd 14 10 true (.load none (.t 13)),gd 15 10 true (.call 54 [(.t 12),(.t 14)]),rg 16 (.pick (.t 10) (.t 15) (.c (.b false))),mv 17 16,gd 18 17 true (.fad 2 (.t 2)),gd 19 17 true (.load none (.t 18)),gd 20 17 true (.fad 2 (.t 3)),gd 21 17 true (.load none (.t 20)),gd 22 17 true (.call 54 [(.t 19),(.t 21)]),rg 23 (.pick (.t 17) (.t 22) (.c (.b false))),mv 4 23])
 (.pre (.norm false [4]) .ret)))
def b239:AX:=
 (.seq
 (.reg [rg 2 (.xop (.box 3) [(.t 0)]),rg 3 (.xop (.box 3) [(.t 1)]),rg 4 (.alloc [(.b false),(.sl [] .nl),(.sl [] .nl)])])
 (.seq
 (.draw [⟨rg 8 (.fad 0 (.t 2)),0,1⟩,⟨rg 9 (.load none (.t 8)),0,1⟩,⟨rg 10 (.fad 1 (.t 2)),0,1⟩,⟨rg 11 (.load none (.t 10)),0,1⟩,⟨rg 12 (.fad 2 (.t 3)),0,1⟩,⟨rg 13 (.load none (.t 12)),0,1⟩,⟨rg 14 (.call 61 [(.t 11),(.t 13)]),0,1⟩,⟨rg 15 (.build [(.b false),(.sl [] .nl)] [(0,1,(.t 9)),(1,1,(.t 14))]),0,1⟩,⟨rg 5 (.alloc [(.b false),(.sl [] .nl)]),0,1⟩,⟨so (.store 2 (.t 5) (.t 15)),1,2⟩])
 (.seq
 (.draw [⟨rg 16 (.fad 0 (.t 3)),0,1⟩,⟨rg 17 (.load none (.t 16)),0,1⟩,⟨rg 18 (.fad 1 (.t 3)),0,1⟩,⟨rg 19 (.load none (.t 18)),0,1⟩,⟨rg 20 (.fad 2 (.t 2)),0,1⟩,⟨rg 21 (.load none (.t 20)),0,1⟩,⟨rg 22 (.call 61 [(.t 19),(.t 21)]),0,1⟩,⟨rg 23 (.build [(.b false),(.sl [] .nl)] [(0,1,(.t 17)),(1,1,(.t 22))]),0,1⟩,⟨rg 6 (.alloc [(.b false),(.sl [] .nl)]),0,1⟩,⟨so (.store 2 (.t 6) (.t 23)),1,2⟩])
 (.seq
 (.reg [rg 24 (.load (some 2) (.t 5)),rg 25 (.load (some 2) (.t 6)),rg 26 (.call 24 [(.t 24),(.t 25)]),rg 7 (.alloc [(.b false),(.sl [] .nl)]),so (.store 2 (.t 7) (.t 26))])
 (.seq
 (.drawT [rg 27 (.fad 0 (.t 7)),rg 28 (.load none (.t 27)),rg 29 (.fad 1 (.t 7)),rg 30 (.load none (.t 29)),rg 31 (.fad 2 (.t 2)),rg 32 (.load none (.t 31)),rg 33 (.fad 2 (.t 3)),rg 34 (.load none (.t 33)),rg 35 (.call 61 [(.t 32),(.t 34)])]
 [rg 36 (.build [(.b false),(.sl [] .nl),(.sl [] .nl)] [(0,1,(.t 28)),(1,1,(.t 30)),(2,1,(.t 35))]),rg 37 (.call 231 [(.t 36)]),so (.store 3 (.t 4) (.t 37))])
 (.pre (.norm false [4]) .ret))))))
def b241:AX:=
 (.seq
 (.reg [rg 2 (.xop (.box 3) [(.t 0)]),rg 3 (.xop (.box 3) [(.t 1)]),rg 4 (.alloc [(.b false),(.sl [] .nl),(.sl [] .nl)])])
 (.seq
 (.drawT [rg 5 (.fad 0 (.t 2)),rg 6 (.load none (.t 5)),rg 7 (.fad 0 (.t 3)),rg 8 (.load none (.t 7)),rg 9 (.eqb true (.t 6) (.t 8)),rg 10 (.fad 1 (.t 2)),rg 11 (.load none (.t 10)),rg 12 (.fad 1 (.t 3)),rg 13 (.load none (.t 12)),rg 14 (.call 61 [(.t 11),(.t 13)]),rg 15 (.fad 2 (.t 2)),rg 16 (.load none (.t 15)),rg 17 (.fad 2 (.t 3)),rg 18 (.load none (.t 17)),rg 19 (.call 61 [(.t 16),(.t 18)])]
 [rg 20 (.build [(.b false),(.sl [] .nl),(.sl [] .nl)] [(0,1,(.t 9)),(1,1,(.t 14)),(2,1,(.t 19))]),rg 21 (.call 231 [(.t 20)]),so (.store 3 (.t 4) (.t 21))])
 (.pre (.norm false [4]) .ret)))
def b247:AX:=
 (.seq
 (.reg [rg 2 (.xop (.box 3) [(.t 0)]),rg 4 (.mov (.c (.b false)))])
 (.seq
 (.reg [rg 5 (.fad 1 (.t 2)),rg 6 (.load none (.t 5)),rg 7 (.len (.t 6)),mv 8 1,rg 9 (.bin .gtr (.t 7) (.t 8)),mv 10 9,gd 11 10 false (.fad 2 (.t 2)),gd 12 10 false (.load none (.t 11)),gd 13 10 false (.len (.t 12)),gd 14 10 false (.mov (.t 1)),gd 15 10 false (.bin .gtr (.t 13) (.t 14)),rg 16 (.pick (.t 10) (.c (.b true)) (.t 15)),mv 4 16])
 (.pre (.norm false [4]) .ret)))
def b353:AX:=
 (.seq
 (.reg [rg 2 (.mov (.c (.sl [] .nl)))])
 (.seq
 (.reg [mv 3 0,rg 4 (.bin .rem (.t 3) (.c (u64 4294967296))),rg 5 (.conv .u32 (.t 4)),mv 6 0,rg 7 (.bin .quo (.t 6) (.c (u64 4294967296))),rg 8 (.conv .u32 (.t 7)),rg 9 (.bsl 1 [(u32 0)] 2 [(0,(.t 5)),(1,(.t 8))]),rg 10 (.call 43 [(.t 9)]),mv 2 10])
 (.pre (.norm false [2]) .ret)))
def row231:AFx:=⟨1,40,[.cell 2 (some 3)],b231,none,false⟩
def row232:AFx:=⟨1,21,[.cell 2 (some 3)],b232,none,false⟩
def row233:AFx:=⟨2,24,[.t 4],b233,none,false⟩
def row239:AFx:=⟨2,38,[.cell 4 (some 3)],b239,none,false⟩
def row241:AFx:=⟨2,22,[.cell 4 (some 3)],b241,none,false⟩
def row247:AFx:=⟨2,17,[.t 4],b247,none,false⟩
def row353:AFx:=⟨1,11,[.t 2],b353,none,false⟩
class Zae (T:Tbl):Prop where
 h231:T 231=some row231
 h232:T 232=some row232
 h233:T 233=some row233
 h239:T 239=some row239
 h241:T 241=some row241
 h247:T 247=some row247
 h353:T 353=some row353
section
variable{T:Tbl}[Zae T]{d:Option Nat}{st:St}{xs:List AV}{ps:List Opd}{e:Env}{h:Heap}{ol:List Heap}
@[simp] theorem x231:Zc (orc T) T 231 xs d st=cP T 231 false xs d st:=zab Zae.h231
@[simp] theorem y231:opD (orc T) T (.call 231 ps) e h ol=dP T 231 false ps e:=zak Zae.h231
@[simp] theorem x232:Zc (orc T) T 232 xs d st=cP T 232 false xs d st:=zab Zae.h232
@[simp] theorem x233:Zc (orc T) T 233 xs d st=cP T 233 false xs d st:=zab Zae.h233
@[simp] theorem x239:Zc (orc T) T 239 xs d st=cP T 239 false xs d st:=zab Zae.h239
@[simp] theorem y239:opD (orc T) T (.call 239 ps) e h ol=dP T 239 false ps e:=zak Zae.h239
@[simp] theorem y241:opD (orc T) T (.call 241 ps) e h ol=dP T 241 false ps e:=zak Zae.h241
theorem f241(xs:List AV)(hn:xs.length=2):Zb T 241 xs=Ziq [.cell 4 (some 3)] false (evX (orc T) T 0 b241 ⟨Zcv xs,[],1⟩):=zaa Zae.h241 hn
@[simp] theorem x247:Zc (orc T) T 247 xs d st=cP T 247 false xs d st:=zab Zae.h247
@[simp] theorem x353:Zc (orc T) T 353 xs d st=cP T 353 false xs d st:=zab Zae.h353
end
def l278_0:AX:=
 (.note
 (.seq
 (.seq
 (.reg [mv 5 4,mv 6 0,rg 7 (.len (.t 6)),rg 8 (.bin .lss (.t 5) (.t 7))])
 (.cond (.t 8)
 .skip
 (.exit 0)))
 (.seq
 (.block 1
 (.reg [mv 11 3,mv 12 0,mv 13 4,rg 14 (.iad 3 (.t 12) (.t 13)),rg 15 (.load (some 3) (.t 14)),rg 16 (.call 231 [(.t 15)]),rg 17 (.bsl 3 [(.b false),(.sl [] .nl),(.sl [] .nl)] 1 [(0,(.t 16))]),rg 18 (.app 3 (.t 11) (.t 17)),mv 3 18]))
 (.reg [mv 9 4,rg 10 (.bin .add (.t 9) (.c (.i .i64 1))),mv 4 10])))
 (.norm false [0,3,4]))
def b278:AX:=
 (.seq
 (.reg [rg 2 (.mov (.c (.sl [] .nl)))])
 (.seq
 (.note (.reg [rg 3 (.mov (.c (.sl [] .nl)))]) (.nil 3 3))
 (.seq
 (.seq
 (.reg [rg 4 (.mov (.c (.i .i64 0)))])
 (.lp 0 (.norm false [0,3,4]) l278_0 (.norm false [3])))
 (.seq
 (.reg [mv 19 3,mv 2 19])
 (.pre (.norm false [2]) .ret)))))
def l279_0:AX:=
 (.note
 (.seq
 (.seq
 (.reg [mv 11 5,mv 12 0,rg 13 (.len (.t 12)),rg 14 (.bin .lss (.t 11) (.t 13))])
 (.cond (.t 14)
 .skip
 (.exit 0)))
 (.seq
 (.block 1
 (.seq
 (.drawT [mv 17 0,mv 18 5,rg 19 (.iad 3 (.t 17) (.t 18)),rg 20 (.load (some 3) (.t 19)),mv 21 1,mv 22 5,rg 23 (.iad 3 (.t 21) (.t 22)),rg 24 (.load (some 3) (.t 23))]
 [rg 25 (.call 233 [(.t 20),(.t 24)]),rg 26 (.un .not (.t 25))])
 (.cond (.t 26)
 (.seq
 (.reg [rg 4 (.mov (.c (.b false)))])
 (.pre (.norm false [4]) .ret))
 .skip)))
 (.reg [mv 15 5,rg 16 (.bin .add (.t 15) (.c (.i .i64 1))),mv 5 16])))
 (.norm false [0,1,5]))
def b279:AX:=
 (.seq
 (.reg [rg 4 (.mov (.c (.b false)))])
 (.seq
 (.seq
 (.reg [mv 6 0,rg 7 (.len (.t 6)),mv 8 1,rg 9 (.len (.t 8)),rg 10 (.bin .neq (.t 7) (.t 9))])
 (.cond (.t 10)
 (.seq
 (.reg [rg 4 (.mov (.c (.b false)))])
 (.pre (.norm false [4]) .ret))
 .skip))
 (.seq
 (.seq
 (.reg [rg 5 (.mov (.c (.i .i64 0)))])
 (.lp 0 (.norm false [0,1,5]) l279_0 (.norm false [])))
 (.seq
 (.reg [rg 4 (.mov (.c (.b true)))])
 (.pre (.norm false [4]) .ret)))))
def l282_0:AX:=
 (.note
 (.seq
 (.seq
 (.reg [mv 8 6,mv 9 0,rg 10 (.len (.t 9)),rg 11 (.bin .lss (.t 8) (.t 10))])
 (.cond (.t 11)
 .skip
 (.exit 0)))
 (.seq
 (.block 1
 (.drawT [rg 14 (.load (some 3) (.t 5)),mv 15 0,mv 16 6,rg 17 (.iad 3 (.t 15) (.t 16)),rg 18 (.load (some 3) (.t 17)),mv 19 1,mv 20 6,rg 21 (.iad 3 (.t 19) (.t 20)),rg 22 (.load (some 3) (.t 21)),rg 23 (.call 241 [(.t 18),(.t 22)])]
 [rg 24 (.call 239 [(.t 14),(.t 23)]),so (.store 3 (.t 5) (.t 24))]))
 (.reg [mv 12 6,rg 13 (.bin .add (.t 12) (.c (.i .i64 1))),mv 6 13])))
 (.norm false [0,1,4,5,6]))
def b282:AX:=
 (.seq
 (.reg [rg 4 (.alloc [(.b false),(.sl [] .nl),(.sl [] .nl)])])
 (.seq
 (.reg [rg 7 (.call 232 [(.c (.i .i64 0))]),rg 5 (.alloc [(.b false),(.sl [] .nl),(.sl [] .nl)]),so (.store 3 (.t 5) (.t 7))])
 (.seq
 (.seq
 (.reg [rg 6 (.mov (.c (.i .i64 0)))])
 (.lp 0 (.norm false [0,1,4,5,6]) l282_0 (.norm false [4,5])))
 (.seq
 (.reg [rg 25 (.load (some 3) (.t 5)),so (.store 3 (.t 4) (.t 25))])
 (.pre (.norm false [4]) .ret)))))
def l286_0:AX:=
 (.note
 (.seq
 (.seq
 (.reg [mv 8 7,mv 9 0,rg 10 (.len (.t 9)),rg 11 (.bin .lss (.t 8) (.t 10)),mv 12 11,gd 13 12 true (.mov (.t 7)),gd 14 12 true (.mov (.t 1)),gd 15 12 true (.bin .lss (.t 13) (.t 14)),rg 16 (.pick (.t 12) (.t 15) (.c (.b false)))])
 (.cond (.t 16)
 .skip
 (.exit 0)))
 (.seq
 (.block 1
 (.seq
 (.reg [mv 19 0,mv 20 7,rg 21 (.iad 3 (.t 19) (.t 20)),rg 22 (.load (some 3) (.t 21)),mv 23 2,rg 24 (.call 247 [(.t 22),(.t 23)])])
 (.cond (.t 24)
 (.seq
 (.reg [rg 6 (.mov (.c (.b true)))])
 (.pre (.norm false [6]) .ret))
 .skip)))
 (.reg [mv 17 7,rg 18 (.bin .add (.t 17) (.c (.i .i64 1))),mv 7 18])))
 (.norm false [0,1,2,7]))
def b286:AX:=
 (.seq
 (.reg [rg 6 (.mov (.c (.b false)))])
 (.seq
 (.seq
 (.reg [rg 7 (.mov (.c (.i .i64 0)))])
 (.lp 0 (.norm false [0,1,2,7]) l286_0 (.norm false [0,1])))
 (.seq
 (.reg [mv 25 0,rg 26 (.len (.t 25)),mv 27 1,rg 28 (.bin .gtr (.t 26) (.t 27)),mv 6 28])
 (.pre (.norm false [6]) .ret))))
def row278:AFx:=⟨1,20,[.t 2],b278,none,false⟩
def row279:AFx:=⟨2,27,[.t 4],b279,none,false⟩
def row282:AFx:=⟨2,26,[.cell 4 (some 3)],b282,none,false⟩
def row286:AFx:=⟨3,29,[.t 6],b286,none,false⟩
class Zav (T:Tbl):Prop where
 h278:T 278=some row278
 h279:T 279=some row279
 h282:T 282=some row282
 h286:T 286=some row286
section
variable{T:Tbl}[Zav T]{d:Option Nat}{st:St}{xs:List AV}{ps:List Opd}{e:Env}{h:Heap}{ol:List Heap}
@[simp] theorem x278:Zc (orc T) T 278 xs d st=cP T 278 false xs d st:=zab Zav.h278
@[simp] theorem y278:opD (orc T) T (.call 278 ps) e h ol=dP T 278 false ps e:=zak Zav.h278
@[simp] theorem x279:Zc (orc T) T 279 xs d st=cP T 279 false xs d st:=zab Zav.h279
@[simp] theorem y279:opD (orc T) T (.call 279 ps) e h ol=dP T 279 false ps e:=zak Zav.h279
@[simp] theorem y282:opD (orc T) T (.call 282 ps) e h ol=dP T 282 false ps e:=zak Zav.h282
@[simp] theorem x286:Zc (orc T) T 286 xs d st=cP T 286 false xs d st:=zab Zav.h286
end
def b248:AX:=
 (.seq
 (.reg [rg 1 (.xop (.box 3) [(.t 0)]),rg 2 (.alloc [(.b false),(.sl [] .nl),(.sl [] .nl)])])
 (.seq
 (.reg [rg 3 (.fad 0 (.t 1)),rg 4 (.load none (.t 3)),rg 5 (.fad 1 (.t 1)),rg 6 (.load none (.t 5)),rg 7 (.build [(.b false),(.sl [] .nl)] [(0,1,(.t 4)),(1,1,(.t 6))]),rg 8 (.fad 2 (.t 1)),rg 9 (.load none (.t 8)),rg 10 (.build [(.b false),(.sl [] .nl),(.sl [] .nl)] [(0,2,(.t 7)),(2,1,(.t 9))]),so (.store 3 (.t 2) (.t 10))])
 (.pre (.norm false [2]) .ret)))
def b249:AX:=
 (.seq
 (.reg [rg 1 (.xop (.box 3) [(.t 0)]),rg 2 (.alloc [(.b false),(.sl [] .nl),(.sl [] .nl)])])
 (.seq
 (.reg [rg 3 (.fad 0 (.t 1)),rg 4 (.fad 0 (.t 3)),rg 5 (.load none (.t 4)),rg 6 (.fad 0 (.t 1)),rg 7 (.fad 1 (.t 6)),rg 8 (.load none (.t 7)),rg 9 (.fad 2 (.t 1)),rg 10 (.load none (.t 9)),rg 11 (.build [(.b false),(.sl [] .nl),(.sl [] .nl)] [(0,1,(.t 5)),(1,1,(.t 8)),(2,1,(.t 10))]),so (.store 3 (.t 2) (.t 11))])
 (.pre (.norm false [2]) .ret)))
def b250:AX:=
 (.seq
 (.reg [rg 2 (.xop (.box 3) [(.t 0)]),rg 3 (.xop (.box 3) [(.t 1)]),rg 4 (.mov (.c (.b false)))])
 (.seq
 (.drawT [rg 5 (.load (some 3) (.t 2)),rg 6 (.call 249 [(.t 5)]),rg 7 (.load (some 3) (.t 3))]
 [rg 8 (.call 233 [(.t 6),(.t 7)]),mv 4 8])
 (.pre (.norm false [4]) .ret)))
def row248:AFx:=⟨1,11,[.cell 2 (some 3)],b248,none,false⟩
def row249:AFx:=⟨1,12,[.cell 2 (some 3)],b249,none,false⟩
def row250:AFx:=⟨2,9,[.t 4],b250,none,false⟩
class Zb6 (T:Tbl):Prop where
 h248:T 248=some row248
 h249:T 249=some row249
 h250:T 250=some row250
section
variable{T:Tbl}[Zb6 T]{d:Option Nat}{st:St}{xs:List AV}{ps:List Opd}{e:Env}{h:Heap}{ol:List Heap}
@[simp] theorem x248:Zc (orc T) T 248 xs d st=cP T 248 false xs d st:=zab Zb6.h248
@[simp] theorem y248:opD (orc T) T (.call 248 ps) e h ol=dP T 248 false ps e:=zak Zb6.h248
@[simp] theorem y249:opD (orc T) T (.call 249 ps) e h ol=dP T 249 false ps e:=zak Zb6.h249
@[simp] theorem x250:Zc (orc T) T 250 xs d st=cP T 250 false xs d st:=zab Zb6.h250
end
def l287_0:AX:=
 (.note
 (.seq
 (.seq
 (.reg [mv 5 4,mv 6 0,rg 7 (.len (.t 6)),rg 8 (.bin .lss (.t 5) (.t 7))])
 (.cond (.t 8)
 .skip
 (.exit 0)))
 (.seq
 (.block 1
 (.reg [mv 11 3,mv 12 0,mv 13 4,rg 14 (.iad 3 (.t 12) (.t 13)),rg 15 (.load (some 3) (.t 14)),rg 16 (.call 248 [(.t 15)]),rg 17 (.bsl 3 [(.b false),(.sl [] .nl),(.sl [] .nl)] 1 [(0,(.t 16))]),rg 18 (.app 3 (.t 11) (.t 17)),mv 3 18]))
 (.reg [mv 9 4,rg 10 (.bin .add (.t 9) (.c (.i .i64 1))),mv 4 10])))
 (.norm false [0,3,4]))
def b287:AX:=
 (.seq
 (.reg [rg 2 (.mov (.c (.sl [] .nl)))])
 (.seq
 (.note (.reg [rg 3 (.mov (.c (.sl [] .nl)))]) (.nil 3 3))
 (.seq
 (.seq
 (.reg [rg 4 (.mov (.c (.i .i64 0)))])
 (.lp 0 (.norm false [0,3,4]) l287_0 (.norm false [3])))
 (.seq
 (.reg [mv 19 3,mv 2 19])
 (.pre (.norm false [2]) .ret)))))
def row287:AFx:=⟨1,20,[.t 2],b287,none,false⟩
class Zcz (T:Tbl):Prop where
 h287:T 287=some row287
section
variable{T:Tbl}[Zcz T]{d:Option Nat}{st:St}{xs:List AV}{ps:List Opd}{e:Env}{h:Heap}{ol:List Heap}
@[simp] theorem x287:Zc (orc T) T 287 xs d st=cP T 287 false xs d st:=zab Zcz.h287
@[simp] theorem y287:opD (orc T) T (.call 287 ps) e h ol=dP T 287 false ps e:=zak Zcz.h287
end
def b421:AX:=
 (.seq
 (.reg [rg 1 (.xop (.box 4) [(.t 0)]),rg 2 (.mov (.c (.b false)))])
 (.seq
 (.reg [rg 3 (.load (some 4) (.t 1)),rg 4 (.call 430 [(.t 3)]),rg 5 (.bin .eql (.t 4) (.c (.i .i64 (-1)))),mv 2 5])
 (.pre (.norm false [2]) .ret)))
def l430_0:AX:=
 (.note
 (.seq
 (.reg [rg 13 (.bin .lss (.t 12) (.t 11))])
 (.seq
 (.cond (.t 13)
 .skip
 (.exit 0))
 (.seq
 (.block 1
 (.seq
 (.reg [mv 14 12,mv 3 14])
 (.seq
 (.reg [rg 15 (.load (some 4) (.t 1)),mv 16 3,rg 17 (.call 434 [(.t 15),(.t 16)]),rg 18 (.un .not (.t 17))])
 (.cond (.t 18)
 (.seq
 (.reg [mv 19 3,mv 2 19])
 (.pre (.norm false [2]) .ret))
 .skip))))
 (.reg [rg 20 (.bin .add (.t 12) (.c (.i .i64 1))),mv 12 20]))))
 (.norm false [1,11,12]))
def l430_1:AX:=
 (.note
 (.seq
 (.reg [rg 25 (.bin .lss (.t 24) (.t 23))])
 (.seq
 (.cond (.t 25)
 .skip
 (.exit 2))
 (.seq
 (.block 3
 (.seq
 (.reg [rg 26 (.iad 1 (.t 22) (.t 24)),rg 27 (.load none (.t 26)),mv 5 27])
 (.seq
 (.reg [mv 28 5,rg 29 (.fad 0 (.t 1)),rg 30 (.load none (.t 29)),rg 31 (.len (.t 30)),rg 32 (.call 435 [(.t 28),(.t 31)]),rg 33 (.un .not (.t 32))])
 (.cond (.t 33)
 (.seq
 (.reg [rg 34 (.fad 0 (.t 1)),rg 35 (.load none (.t 34)),rg 36 (.len (.t 35)),mv 2 36])
 (.pre (.norm false [2]) .ret))
 .skip))))
 (.reg [rg 37 (.bin .add (.t 24) (.c (.i .i64 1))),mv 24 37]))))
 (.norm false [1,22,23,24]))
def b430:AX:=
 (.seq
 (.reg [rg 1 (.xop (.box 4) [(.t 0)]),rg 2 (.mov (.c (.i .i64 0)))])
 (.seq
 (.seq
 (.reg [rg 6 (.load (some 4) (.t 1)),rg 7 (.call 433 [(.t 6)]),rg 8 (.un .not (.t 7))])
 (.cond (.t 8)
 (.seq
 (.reg [rg 2 (.mov (.c (.i .i64 (-2))))])
 (.pre (.norm false [2]) .ret))
 .skip))
 (.seq
 (.seq
 (.reg [rg 9 (.fad 0 (.t 1)),rg 10 (.load none (.t 9)),rg 11 (.len (.t 10)),rg 12 (.mov (.c (.i .i64 0)))])
 (.lp 0 (.norm false [1,11,12]) l430_0 (.norm false [1])))
 (.seq
 (.seq
 (.reg [rg 21 (.fad 1 (.t 1)),rg 22 (.load none (.t 21)),rg 23 (.len (.t 22)),rg 24 (.mov (.c (.i .i64 0)))])
 (.lp 2 (.norm false [1,22,23,24]) l430_1 (.norm false [])))
 (.seq
 (.reg [rg 2 (.mov (.c (.i .i64 (-1))))])
 (.pre (.norm false [2]) .ret))))))
def b433:AX:=
 (.seq
 (.reg [rg 1 (.xop (.box 4) [(.t 0)]),rg 2 (.mov (.c (.b false)))])
 (.seq
 (.reg [rg 3 (.fad 2 (.t 1)),rg 4 (.load none (.t 3)),rg 5 (.bin .sub (.t 4) (.c (.i .i64 1))),rg 6 (.call 435 [(.t 5),(.c (.i .i64 6))]),mv 7 6,gd 8 7 true (.fad 3 (.t 1)),gd 9 7 true (.load none (.t 8)),gd 10 7 true (.call 435 [(.t 9),(.c (.i .i64 7))]),rg 11 (.pick (.t 7) (.t 10) (.c (.b false))),mv 12 11,gd 13 12 true (.fad 1 (.t 1)),gd 14 12 true (.load none (.t 13)),gd 15 12 true (.len (.t 14)),gd 16 12 true (.fad 2 (.t 1)),gd 17 12 true (.load none (.t 16)),gd 18 12 true (.bin .eql (.t 15) (.t 17)),rg 19 (.pick (.t 12) (.t 18) (.c (.b false))),mv 20 19,gd 21 20 true (.fad 0 (.t 1)),gd 22 20 true (.load none (.t 21)),gd 23 20 true (.len (.t 22)),gd 24 20 true (.bin .leq (.t 23) (.c (.i .i64 300))),rg 25 (.pick (.t 20) (.t 24) (.c (.b false))),mv 2 25])
 (.pre (.norm false [2]) .ret)))
def l434_0:AX:=
 (.note
 (.seq
 (.reg [rg 33 (.bin .lss (.t 32) (.t 31))])
 (.seq
 (.cond (.t 33)
 .skip
 (.exit 0))
 (.seq
 (.block 1
 (.seq
 (.reg [rg 34 (.iad 1 (.t 30) (.t 32)),rg 35 (.load none (.t 34)),mv 7 35])
 (.seq
 (.reg [mv 36 7,mv 37 1,rg 38 (.call 435 [(.t 36),(.t 37)]),rg 39 (.un .not (.t 38))])
 (.cond (.t 39)
 (.seq
 (.reg [rg 4 (.mov (.c (.b false)))])
 (.pre (.norm false [4]) .ret))
 .skip))))
 (.reg [rg 40 (.bin .add (.t 32) (.c (.i .i64 1))),mv 32 40]))))
 (.norm false [1,2,5,30,31,32]))
def b434:AX:=
 (.seq
 (.reg [rg 2 (.xop (.box 4) [(.t 0)]),rg 4 (.mov (.c (.b false)))])
 (.seq
 (.reg [rg 8 (.fad 0 (.t 2)),rg 9 (.load none (.t 8)),mv 10 1,rg 11 (.iad 6 (.t 9) (.t 10)),rg 12 (.load (some 6) (.t 11)),rg 5 (.alloc [(.i .i64 0),(.i .i64 0),(.i .i64 0),(.b false),(.sl [] .nl),(.sl [] .nl)]),so (.store 6 (.t 5) (.t 12))])
 (.seq
 (.seq
 (.reg [rg 13 (.fad 0 (.t 5)),rg 14 (.load none (.t 13)),rg 15 (.bin .eql (.t 14) (.c (.i .i64 1)))])
 (.cond (.t 15)
 (.seq
 (.reg [rg 16 (.load (some 6) (.t 5)),rg 17 (.call 437 [(.t 16)]),rg 18 (.build [(.i .i64 0),(.i .i64 0),(.i .i64 0)] [(0,1,(.c (.i .i64 1)))]),rg 19 (.eqs false [(0,.int),(1,.int),(2,.int)] (.t 17) (.t 18)),mv 20 19,gd 21 20 true (.fad 3 (.t 5)),gd 22 20 true (.load (some 3) (.t 21)),gd 23 20 true (.call 208 [(.t 22)]),rg 24 (.pick (.t 20) (.t 23) (.c (.b false))),mv 4 24])
 (.pre (.norm false [4]) .ret))
 .skip))
 (.seq
 (.seq
 (.reg [rg 25 (.fad 3 (.t 5)),rg 26 (.load (some 3) (.t 25)),rg 27 (.call 438 [(.t 26)]),rg 28 (.un .not (.t 27))])
 (.cond (.t 28)
 (.seq
 (.reg [rg 4 (.mov (.c (.b false)))])
 (.pre (.norm false [4]) .ret))
 .skip))
 (.seq
 (.seq
 (.reg [rg 29 (.load (some 6) (.t 5)),rg 30 (.call 439 [(.t 29)]),rg 31 (.len (.t 30)),rg 32 (.mov (.c (.i .i64 0)))])
 (.lp 0 (.norm false [1,2,5,30,31,32]) l434_0 (.norm false [2,5])))
 (.seq
 (.seq
 (.reg [rg 41 (.fad 0 (.t 5)),rg 42 (.load none (.t 41))])
 (.block 2
 (.seq
 (.reg [rg 44 (.bin .eql (.t 42) (.c (.i .i64 2))),mv 43 44])
 (.cond (.t 43)
 (.seq
 (.reg [rg 45 (.load (some 6) (.t 5)),rg 46 (.call 437 [(.t 45)]),rg 47 (.build [(.i .i64 0),(.i .i64 0),(.i .i64 0)] [(0,1,(.c (.i .i64 2)))]),rg 48 (.eqs false [(0,.int),(1,.int),(2,.int)] (.t 46) (.t 47)),mv 4 48])
 (.pre (.norm false [4]) .ret))
 (.seq
 (.reg [rg 50 (.bin .eql (.t 42) (.c (.i .i64 3))),mv 49 50])
 (.cond (.t 49)
 (.seq
 (.reg [rg 51 (.fad 1 (.t 5)),rg 52 (.load none (.t 51)),rg 53 (.fad 2 (.t 2)),rg 54 (.load none (.t 53)),rg 55 (.call 435 [(.t 52),(.t 54)]),mv 56 55,gd 57 56 true (.fad 2 (.t 5)),gd 58 56 true (.load none (.t 57)),gd 59 56 true (.bin .eql (.t 58) (.c (.i .i64 0))),rg 60 (.pick (.t 56) (.t 59) (.c (.b false))),mv 4 60])
 (.pre (.norm false [4]) .ret))
 (.seq
 (.reg [rg 62 (.bin .eql (.t 42) (.c (.i .i64 4))),mv 61 62])
 (.cond (.t 61)
 (.seq
 (.reg [rg 63 (.fad 1 (.t 5)),rg 64 (.load none (.t 63)),rg 65 (.fad 3 (.t 2)),rg 66 (.load none (.t 65)),rg 67 (.call 435 [(.t 64),(.t 66)]),mv 68 67,gd 69 68 true (.fad 2 (.t 5)),gd 70 68 true (.load none (.t 69)),gd 71 68 true (.bin .eql (.t 70) (.c (.i .i64 0))),rg 72 (.pick (.t 68) (.t 71) (.c (.b false))),mv 4 72])
 (.pre (.norm false [4]) .ret))
 (.seq
 (.reg [rg 74 (.bin .eql (.t 42) (.c (.i .i64 6))),mv 73 74])
 (.cond (.t 73)
 (.seq
 (.reg [rg 75 (.fad 2 (.t 5)),rg 76 (.load none (.t 75)),rg 77 (.bin .eql (.t 76) (.c (.i .i64 0))),mv 4 77])
 (.pre (.norm false [4]) .ret))
 (.seq
 (.reg [rg 79 (.bin .eql (.t 42) (.c (.i .i64 11))),mv 78 79])
 (.cond (.t 78)
 (.seq
 (.reg [rg 80 (.fad 2 (.t 5)),rg 81 (.load none (.t 80)),rg 82 (.bin .geq (.t 81) (.c (.i .i64 (-8)))),mv 83 82,gd 84 83 true (.fad 2 (.t 5)),gd 85 83 true (.load none (.t 84)),gd 86 83 true (.bin .leq (.t 85) (.c (.i .i64 8))),rg 87 (.pick (.t 83) (.t 86) (.c (.b false))),mv 4 87])
 (.pre (.norm false [4]) .ret))
 .skip))))))))))))
 (.seq
 (.reg [rg 88 (.load (some 6) (.t 5)),rg 89 (.call 439 [(.t 88)]),rg 90 (.len (.t 89)),rg 91 (.bin .eql (.t 90) (.c (.i .i64 2))),mv 4 91])
 (.pre (.norm false [4]) .ret))))))))
def b435:AX:=
 (.seq
 (.reg [rg 4 (.mov (.c (.b false)))])
 (.seq
 (.reg [mv 5 0,rg 6 (.bin .geq (.t 5) (.c (.i .i64 0))),mv 7 6,gd 8 7 true (.mov (.t 0)),gd 9 7 true (.mov (.t 1)),gd 10 7 true (.bin .lss (.t 8) (.t 9)),rg 11 (.pick (.t 7) (.t 10) (.c (.b false))),mv 4 11])
 (.pre (.norm false [4]) .ret)))
def b437:AX:=
 (.seq
 (.reg [rg 1 (.xop (.box 6) [(.t 0)]),rg 2 (.alloc [(.i .i64 0),(.i .i64 0),(.i .i64 0)])])
 (.seq
 (.reg [rg 3 (.fad 0 (.t 1)),rg 4 (.load none (.t 3)),rg 5 (.fad 1 (.t 1)),rg 6 (.load none (.t 5)),rg 7 (.fad 2 (.t 1)),rg 8 (.load none (.t 7)),rg 9 (.build [(.i .i64 0),(.i .i64 0),(.i .i64 0)] [(0,1,(.t 4)),(1,1,(.t 6)),(2,1,(.t 8))]),so (.store 3 (.t 2) (.t 9))])
 (.pre (.norm false [2]) .ret)))
def b438:AX:=
 (.seq
 (.reg [rg 1 (.xop (.box 3) [(.t 0)]),rg 2 (.mov (.c (.b false)))])
 (.seq
 (.reg [rg 3 (.fad 0 (.t 1)),rg 4 (.fad 0 (.t 3)),rg 5 (.load none (.t 4)),rg 6 (.un .not (.t 5)),mv 7 6,gd 8 7 true (.fad 0 (.t 1)),gd 9 7 true (.fad 1 (.t 8)),gd 10 7 true (.load none (.t 9)),gd 11 7 true (.len (.t 10)),gd 12 7 true (.bin .eql (.t 11) (.c (.i .i64 0))),rg 13 (.pick (.t 7) (.t 12) (.c (.b false))),mv 14 13,gd 15 14 true (.fad 2 (.t 1)),gd 16 14 true (.load none (.t 15)),gd 17 14 true (.len (.t 16)),gd 18 14 true (.bin .eql (.t 17) (.c (.i .i64 0))),rg 19 (.pick (.t 14) (.t 18) (.c (.b false))),mv 2 19])
 (.pre (.norm false [2]) .ret)))
def b439:AX:=
 (.seq
 (.reg [rg 1 (.xop (.box 6) [(.t 0)]),rg 2 (.mov (.c (.sl [] .nl)))])
 (.seq
 (.seq
 (.reg [rg 3 (.fad 0 (.t 1)),rg 4 (.load none (.t 3))])
 (.block 0
 (.seq
 (.seq
 (.reg [rg 6 (.bin .eql (.t 4) (.c (.i .i64 6))),mv 5 6])
 (.cond (.t 5)
 .skip
 (.reg [rg 7 (.bin .eql (.t 4) (.c (.i .i64 11))),mv 5 7])))
 (.cond (.t 5)
 (.seq
 (.reg [rg 8 (.fad 1 (.t 1)),rg 9 (.load none (.t 8)),rg 10 (.bsl 1 [(.i .i64 0)] 1 [(0,(.t 9))]),mv 2 10])
 (.pre (.norm false [2]) .ret))
 (.seq
 (.seq
 (.reg [rg 12 (.bin .eql (.t 4) (.c (.i .i64 7))),mv 11 12])
 (.cond (.t 11)
 .skip
 (.seq
 (.reg [rg 13 (.bin .eql (.t 4) (.c (.i .i64 8))),mv 11 13])
 (.cond (.t 11)
 .skip
 (.seq
 (.reg [rg 14 (.bin .eql (.t 4) (.c (.i .i64 9))),mv 11 14])
 (.cond (.t 11)
 .skip
 (.reg [rg 15 (.bin .eql (.t 4) (.c (.i .i64 10))),mv 11 15])))))))
 (.cond (.t 11)
 (.seq
 (.reg [rg 16 (.fad 1 (.t 1)),rg 17 (.load none (.t 16)),rg 18 (.fad 2 (.t 1)),rg 19 (.load none (.t 18)),rg 20 (.bsl 1 [(.i .i64 0)] 2 [(0,(.t 17)),(1,(.t 19))]),mv 2 20])
 (.pre (.norm false [2]) .ret))
 .skip))))))
 (.seq
 (.reg [rg 2 (.mov (.c (.sl [] .nl)))])
 (.pre (.norm false [2]) .ret))))
def row421:AFx:=⟨1,6,[.t 2],b421,none,false⟩
def row430:AFx:=⟨1,38,[.t 2],b430,none,false⟩
def row433:AFx:=⟨1,26,[.t 2],b433,none,false⟩
def row434:AFx:=⟨2,92,[.t 4],b434,none,false⟩
def row435:AFx:=⟨2,12,[.t 4],b435,none,false⟩
def row437:AFx:=⟨1,10,[.cell 2 (some 3)],b437,none,false⟩
def row438:AFx:=⟨1,20,[.t 2],b438,none,false⟩
def row439:AFx:=⟨1,21,[.t 2],b439,none,false⟩
class Zad (T:Tbl):Prop where
 h421:T 421=some row421
 h430:T 430=some row430
 h433:T 433=some row433
 h434:T 434=some row434
 h435:T 435=some row435
 h437:T 437=some row437
 h438:T 438=some row438
 h439:T 439=some row439
section
variable{T:Tbl}[Zad T]{d:Option Nat}{st:St}{xs:List AV}{ps:List Opd}{e:Env}{h:Heap}{ol:List Heap}
@[simp] theorem x421:Zc (orc T) T 421 xs d st=cP T 421 false xs d st:=zab Zad.h421
@[simp] theorem x430:Zc (orc T) T 430 xs d st=cP T 430 false xs d st:=zab Zad.h430
@[simp] theorem x433:Zc (orc T) T 433 xs d st=cP T 433 false xs d st:=zab Zad.h433
@[simp] theorem x434:Zc (orc T) T 434 xs d st=cP T 434 false xs d st:=zab Zad.h434
@[simp] theorem x435:Zc (orc T) T 435 xs d st=cP T 435 false xs d st:=zab Zad.h435
@[simp] theorem x437:Zc (orc T) T 437 xs d st=cP T 437 false xs d st:=zab Zad.h437
@[simp] theorem x438:Zc (orc T) T 438 xs d st=cP T 438 false xs d st:=zab Zad.h438
@[simp] theorem x439:Zc (orc T) T 439 xs d st=cP T 439 false xs d st:=zab Zad.h439
end
def b406:AX:=
 (.seq
 (.reg [rg 2 (.mov (.c (.raw (.pointer none))))])
 (.seq
 (.reg [mv 3 0,rg 4 (.mm true [(.t 3),(.c (.i .i64 0))]),rg 5 (.mm false [(.t 4),(.c (.i .i64 4096))]),rg 6 (.build [(.i .i64 0),(.i .i64 0),(.i .i64 0)] [(2,1,(.t 5))]),rg 7 (.xop (.box 3) [(.t 6)]),mv 2 7])
 (.pre (.norm false [2]) .ret)))
def b411:AX:=
 (.seq
 (.reg [rg 3 (.xop (.box 3) [(.t 1)]),rg 4 (.mov (.c (.b false)))])
 (.seq
 (.reg [rg 6 (.load (some 3) (.t 3)),rg 7 (.call 223 [(.t 6)]),mv 5 7])
 (.seq
 (.reg [mv 8 0,rg 9 (.nilc (.t 8)),rg 10 (.fad 0 (.t 9)),mv 11 5,rg 12 (.call 426 [(.t 10),(.t 11)])])
 (.seq
 (.reg [mv 13 5,mv 14 0,rg 15 (.nilc (.t 14)),rg 16 (.fad 2 (.t 15)),rg 17 (.load none (.t 16)),rg 18 (.bin .leq (.t 13) (.t 17)),mv 4 18])
 (.pre (.norm false [4]) .ret)))))
def b426:AX:=
 (.seq
 (.reg [mv 4 0,rg 5 (.nilc (.t 4)),rg 6 (.fad 0 (.t 5)),rg 7 (.load none (.t 6)),rg 8 (.bin .add (.t 7) (.c (.i .i64 1))),rg 9 (.nilc (.t 4)),rg 10 (.fad 0 (.t 9)),so (.store 1 (.t 10) (.t 8))])
 (.reg [mv 11 0,mv 12 0,rg 13 (.nilc (.t 12)),rg 14 (.fad 1 (.t 13)),rg 15 (.load none (.t 14)),mv 16 1,rg 17 (.mm true [(.t 15),(.t 16)]),rg 18 (.nilc (.t 11)),rg 19 (.fad 1 (.t 18)),so (.store 1 (.t 19) (.t 17))]))
def l413_0:AX:=
 (.note
 (.seq
 (.reg [rg 11 (.bin .lss (.t 10) (.t 9))])
 (.seq
 (.cond (.t 11)
 .skip
 (.exit 0))
 (.seq
 (.block 1
 (.seq
 (.reg [mv 12 10,rg 13 (.iad 3 (.t 8) (.t 10)),rg 14 (.load (some 3) (.t 13)),rg 7 (.alloc [(.b false),(.sl [] .nl),(.sl [] .nl)]),mv 6 12,so (.store 3 (.t 7) (.t 14))])
 (.seq
 (.reg [mv 15 0,rg 16 (.load (some 3) (.t 7)),rg 17 (.call 411 [(.t 15),(.t 16)]),rg 18 (.un .not (.t 17))])
 (.cond (.t 18)
 (.seq
 (.reg [mv 19 6,mv 4 19,rg 5 (.mov (.c (.b false)))])
 (.pre (.norm false [4,5]) .ret))
 .skip))))
 (.reg [rg 20 (.bin .add (.t 10) (.c (.i .i64 1))),mv 10 20]))))
 (.norm false [0,1,8,9,10]))
def b413:AX:=
 (.seq
 (.reg [rg 4 (.mov (.c (.i .i64 0))),rg 5 (.mov (.c (.b false)))])
 (.seq
 (.seq
 (.reg [mv 8 1,rg 9 (.len (.t 8)),rg 10 (.mov (.c (.i .i64 0)))])
 (.lp 0 (.norm false [0,1,8,9,10]) l413_0 (.norm false [1])))
 (.seq
 (.reg [mv 21 1,rg 22 (.len (.t 21)),mv 4 22,rg 5 (.mov (.c (.b true)))])
 (.pre (.norm false [4,5]) .ret))))
def row406:AFx:=⟨1,8,[.t 2],b406,(some [false]),false⟩
def row411:AFx:=⟨2,19,[.t 4],b411,(some [true,false]),false⟩
def row426:AFx:=⟨2,20,[],b426,(some [true,false]),false⟩
def row413:AFx:=⟨2,23,[.t 4,.t 5],b413,(some [true,false]),false⟩
class Z8 (T:Tbl):Prop where
 h406:T 406=some row406
 h411:T 411=some row411
 h426:T 426=some row426
 h413:T 413=some row413
section
variable{T:Tbl}[Z8 T]{d:Option Nat}{st:St}{xs:List AV}{ps:List Opd}{e:Env}{h:Heap}{ol:List Heap}
@[simp] theorem x406:Zc (orc T) T 406 xs d st=cL T 406 false [false] xs d st:=zal Z8.h406
@[simp] theorem x411:Zc (orc T) T 411 xs d st=cL T 411 false [true,false] xs d st:=zal Z8.h411
@[simp] theorem x426:Zc (orc T) T 426 xs d st=cL T 426 false [true,false] xs d st:=zal Z8.h426
@[simp] theorem x413:Zc (orc T) T 413 xs d st=cL T 413 false [true,false] xs d st:=zal Z8.h413
end
def b405:AX:=
 (.seq
 (.reg [rg 1 (.xop (.box 5) [(.t 0)]),rg 2 (.alloc [(.b false),(.sl [] .nl),(.sl [] .nl),(.sl [] .nl),(.sl [] .nl)])])
 (.seq
 (.drawT [rg 3 (.fad 0 (.t 1)),rg 4 (.load (some 3) (.t 3)),rg 5 (.call 207 [(.t 4)]),rg 6 (.fad 3 (.t 1)),rg 7 (.load none (.t 6)),rg 8 (.call 420 [(.t 7)]),rg 9 (.fad 4 (.t 1)),rg 10 (.load none (.t 9))]
 [rg 11 (.call 420 [(.t 10)]),rg 12 (.build [(.b false),(.sl [] .nl),(.sl [] .nl),(.sl [] .nl),(.sl [] .nl)] [(0,3,(.t 5)),(3,1,(.t 8)),(4,1,(.t 11))]),so (.store 5 (.t 2) (.t 12))])
 (.pre (.norm false [2]) .ret)))
def l420_0:AX:=
 (.note
 (.seq
 (.reg [rg 9 (.bin .lss (.t 8) (.t 7))])
 (.seq
 (.cond (.t 9)
 .skip
 (.exit 0))
 (.seq
 (.block 1
 (.seq
 (.reg [rg 10 (.iad 3 (.t 6) (.t 8)),rg 11 (.load (some 3) (.t 10)),rg 5 (.alloc [(.b false),(.sl [] .nl),(.sl [] .nl)]),so (.store 3 (.t 5) (.t 11))])
 (.reg [mv 12 3,rg 13 (.load (some 3) (.t 5)),rg 14 (.call 207 [(.t 13)]),rg 15 (.bsl 3 [(.b false),(.sl [] .nl),(.sl [] .nl)] 1 [(0,(.t 14))]),rg 16 (.app 3 (.t 12) (.t 15)),mv 3 16])))
 (.reg [rg 17 (.bin .add (.t 8) (.c (.i .i64 1))),mv 8 17]))))
 (.norm false [3,6,7,8]))
def b420:AX:=
 (.seq
 (.reg [rg 2 (.mov (.c (.sl [] .nl)))])
 (.seq
 (.note (.reg [rg 3 (.mov (.c (.sl [] .nl)))]) (.nil 3 3))
 (.seq
 (.seq
 (.reg [mv 6 0,rg 7 (.len (.t 6)),rg 8 (.mov (.c (.i .i64 0)))])
 (.lp 0 (.norm false [3,6,7,8]) l420_0 (.norm false [3])))
 (.seq
 (.reg [mv 18 3,mv 2 18])
 (.pre (.norm false [2]) .ret)))))
def row405:AFx:=⟨1,13,[.cell 2 (some 5)],b405,none,false⟩
def row420:AFx:=⟨1,19,[.t 2],b420,none,false⟩
class Zaw (T:Tbl):Prop where
 h405:T 405=some row405
 h420:T 420=some row420
section
variable{T:Tbl}[Zaw T]{d:Option Nat}{st:St}{xs:List AV}{ps:List Opd}{e:Env}{h:Heap}{ol:List Heap}
@[simp] theorem x405:Zc (orc T) T 405 xs d st=cP T 405 false xs d st:=zab Zaw.h405
@[simp] theorem y405:opD (orc T) T (.call 405 ps) e h ol=dP T 405 false ps e:=zak Zaw.h405
@[simp] theorem x420:Zc (orc T) T 420 xs d st=cP T 420 false xs d st:=zab Zaw.h420
@[simp] theorem y420:opD (orc T) T (.call 420 ps) e h ol=dP T 420 false ps e:=zak Zaw.h420
end
def b384:AX:=
 (.seq
 (.reg [rg 3 (.xop (.box 4) [(.t 0)]),rg 4 (.xop (.box 5) [(.t 1)]),rg 6 (.mov (.c (.sl [] .nl))),rg 7 (.alloc [(.i .i64 0),(.i .i64 0),(.i .i64 0),(.i .i64 0)])])
 (.seq
 (.reg [rg 9 (.load (some 5) (.t 4)),rg 10 (.call 405 [(.t 9)]),so (.store 5 (.t 4) (.t 10))])
 (.seq
 (.reg [mv 11 2,rg 12 (.call 406 [(.t 11)]),rg 13 (.build [(.raw (.pointer none))] [(0,1,(.t 12))]),rg 14 (.build [(.raw (.pointer none))] [(0,1,(.t 13))]),rg 8 (.alloc [(.raw (.pointer none))]),so (.store 1 (.t 8) (.t 14))])
 (.seq
 (.reg [rg 15 (.load (some 1) (.t 8)),rg 16 (.load (some 4) (.t 3)),rg 17 (.fad 0 (.t 4)),rg 18 (.load (some 3) (.t 17)),rg 19 (.fad 3 (.t 4)),rg 20 (.load none (.t 19)),rg 21 (.fad 4 (.t 4)),rg 22 (.load none (.t 21)),rg 23 (.build [(.b false),(.sl [] .nl),(.sl [] .nl),(.sl [] .nl),(.sl [] .nl)] [(0,3,(.t 18)),(3,1,(.t 20)),(4,1,(.t 22))]),rg 24 (.call 407 [(.t 15),(.t 16),(.t 23)]),rg 25 (.ext (.t 24) 0),rg 26 (.ext (.t 24) 1),mv 6 25,so (.store 4 (.t 7) (.t 26))])
 (.pre (.norm false [6,7]) .ret)))))
def l407_0:AX:=
 (.note
 (.seq
 (.reg [rg 37 (.bin .lss (.t 36) (.t 35))])
 (.seq
 (.cond (.t 37)
 .skip
 (.exit 0))
 (.seq
 (.block 1
 (.seq
 (.reg [mv 38 36,rg 39 (.iad 6 (.t 34) (.t 36)),rg 40 (.load (some 6) (.t 39)),rg 10 (.alloc [(.i .i64 0),(.i .i64 0),(.i .i64 0),(.b false),(.sl [] .nl),(.sl [] .nl)]),mv 9 38,so (.store 6 (.t 10) (.t 40))])
 (.seq
 (.reg [rg 42 (.load (some 1) (.t 3)),rg 43 (.load (some 6) (.t 10)),rg 44 (.load (some 5) (.t 5)),mv 45 8,rg 46 (.call 422 [(.t 42),(.t 43),(.t 44),(.t 45)]),mv 41 46,rg 47 (.ext (.t 41) 0),rg 48 (.ext (.t 41) 1),rg 11 (.alloc [(.b false),(.sl [] .nl),(.sl [] .nl)]),so (.store 3 (.t 11) (.t 47)),mv 12 48])
 (.seq
 (.block 2
 (.seq
 (.reg [mv 50 12,rg 51 (.un .not (.t 50)),mv 49 51])
 (.cond (.t 49)
 (.seq
 (.reg [mv 52 9,rg 53 (.build [(.i .i64 0),(.i .i64 0),(.i .i64 0),(.i .i64 0)] [(0,1,(.c (.i .i64 3))),(3,1,(.t 52))]),rg 6 (.mov (.c (.sl [] .nl))),so (.store 4 (.t 7) (.t 53))])
 (.pre (.norm false [6,7]) .ret))
 (.seq
 (.reg [rg 55 (.fad 0 (.t 3)),rg 56 (.load (some 1) (.t 55)),rg 57 (.ifc 1 (.t 56)),rg 58 (.load (some 3) (.t 11)),rg 59 (.inv "Fits" 1 442 (.t 57) [(.t 58)]),rg 60 (.un .not (.t 59)),mv 54 60])
 (.cond (.t 54)
 (.seq
 (.reg [mv 61 9,rg 62 (.build [(.i .i64 0),(.i .i64 0),(.i .i64 0),(.i .i64 0)] [(0,1,(.c (.i .i64 6))),(3,1,(.t 61))]),rg 6 (.mov (.c (.sl [] .nl))),so (.store 4 (.t 7) (.t 62))])
 (.pre (.norm false [6,7]) .ret))
 .skip)))))
 (.reg [mv 63 8,rg 64 (.load (some 3) (.t 11)),rg 65 (.bsl 3 [(.b false),(.sl [] .nl),(.sl [] .nl)] 1 [(0,(.t 64))]),rg 66 (.app 3 (.t 63) (.t 65)),mv 8 66])))))
 (.reg [rg 67 (.bin .add (.t 36) (.c (.i .i64 1))),mv 36 67]))))
 (.norm false [3,5,7,8,34,35,36]))
def b407:AX:=
 (.seq
 (.reg [rg 3 (.xop (.box 1) [(.t 0)]),rg 4 (.xop (.box 4) [(.t 1)]),rg 5 (.xop (.box 5) [(.t 2)]),rg 6 (.mov (.c (.sl [] .nl))),rg 7 (.alloc [(.i .i64 0),(.i .i64 0),(.i .i64 0),(.i .i64 0)])])
 (.seq
 (.seq
 (.reg [rg 13 (.load (some 4) (.t 4)),rg 14 (.call 421 [(.t 13)]),rg 15 (.un .not (.t 14)),mv 16 15,gd 17 16 false (.fad 3 (.t 5)),gd 18 16 false (.load none (.t 17)),gd 19 16 false (.len (.t 18)),gd 20 16 false (.fad 2 (.t 4)),gd 21 16 false (.load none (.t 20)),gd 22 16 false (.bin .neq (.t 19) (.t 21)),rg 23 (.pick (.t 16) (.c (.b true)) (.t 22)),mv 24 23,gd 25 24 false (.fad 4 (.t 5)),gd 26 24 false (.load none (.t 25)),gd 27 24 false (.len (.t 26)),gd 28 24 false (.fad 3 (.t 4)),gd 29 24 false (.load none (.t 28)),gd 30 24 false (.bin .neq (.t 27) (.t 29)),rg 31 (.pick (.t 24) (.c (.b true)) (.t 30))])
 (.cond (.t 31)
 (.seq
 (.reg [rg 32 (.build [(.i .i64 0),(.i .i64 0),(.i .i64 0),(.i .i64 0)] [(0,1,(.c (.i .i64 2)))]),rg 6 (.mov (.c (.sl [] .nl))),so (.store 4 (.t 7) (.t 32))])
 (.pre (.norm false [6,7]) .ret))
 .skip))
 (.seq
 (.note (.reg [rg 8 (.mov (.c (.sl [] .nl)))]) (.nil 8 3))
 (.seq
 (.seq
 (.reg [rg 33 (.fad 0 (.t 4)),rg 34 (.load none (.t 33)),rg 35 (.len (.t 34)),rg 36 (.mov (.c (.i .i64 0)))])
 (.lp 0 (.norm false [3,5,7,8,34,35,36]) l407_0 (.norm false [7,8])))
 (.seq
 (.reg [mv 68 8,rg 69 (.build [(.i .i64 0),(.i .i64 0),(.i .i64 0),(.i .i64 0)] []),mv 6 68,so (.store 4 (.t 7) (.t 69))])
 (.pre (.norm false [6,7]) .ret))))))
def b422:AX:=
 (.seq
 (.reg [rg 4 (.xop (.box 1) [(.t 0)]),rg 5 (.xop (.box 6) [(.t 1)]),rg 6 (.xop (.box 5) [(.t 2)]),rg 8 (.alloc [(.b false),(.sl [] .nl),(.sl [] .nl)]),rg 9 (.mov (.c (.b false)))])
 (.seq
 (.seq
 (.reg [rg 10 (.fad 0 (.t 5)),rg 11 (.load none (.t 10))])
 (.block 0
 (.seq
 (.reg [rg 13 (.bin .eql (.t 11) (.c (.i .i64 6))),mv 12 13])
 (.cond (.t 12)
 (.seq
 (.drawT [rg 14 (.fad 0 (.t 4)),rg 15 (.load (some 1) (.t 14)),rg 16 (.ifc 1 (.t 15)),mv 17 3,rg 18 (.fad 1 (.t 5)),rg 19 (.load none (.t 18)),rg 20 (.iad 3 (.t 17) (.t 19)),rg 21 (.load (some 3) (.t 20))]
 [rg 22 (.inv "Neg" 1 444 (.t 16) [(.t 21)]),so (.store 3 (.t 8) (.t 22)),rg 9 (.mov (.c (.b true)))])
 (.pre (.norm false [8,9]) .ret))
 (.seq
 (.reg [rg 24 (.bin .eql (.t 11) (.c (.i .i64 11))),mv 23 24])
 (.cond (.t 23)
 (.seq
 (.drawT [rg 25 (.fad 0 (.t 4)),rg 26 (.load (some 1) (.t 25)),rg 27 (.ifc 1 (.t 26)),mv 28 3,rg 29 (.fad 1 (.t 5)),rg 30 (.load none (.t 29)),rg 31 (.iad 3 (.t 28) (.t 30)),rg 32 (.load (some 3) (.t 31)),rg 33 (.fad 2 (.t 5)),rg 34 (.load none (.t 33)),rg 35 (.inv "Pow" 1 446 (.t 27) [(.t 32),(.t 34)]),rg 36 (.ext (.t 35) 0),rg 37 (.ext (.t 35) 1)]
 [so (.store 3 (.t 8) (.t 36)),mv 9 37])
 (.pre (.norm false [8,9]) .ret))
 (.seq
 (.reg [rg 39 (.bin .eql (.t 11) (.c (.i .i64 7))),mv 38 39])
 (.cond (.t 38)
 (.seq
 (.drawT [rg 40 (.fad 0 (.t 4)),rg 41 (.load (some 1) (.t 40)),rg 42 (.ifc 1 (.t 41)),mv 43 3,rg 44 (.fad 1 (.t 5)),rg 45 (.load none (.t 44)),rg 46 (.iad 3 (.t 43) (.t 45)),rg 47 (.load (some 3) (.t 46)),mv 48 3,rg 49 (.fad 2 (.t 5)),rg 50 (.load none (.t 49)),rg 51 (.iad 3 (.t 48) (.t 50)),rg 52 (.load (some 3) (.t 51))]
 [rg 53 (.inv "Add" 1 441 (.t 42) [(.t 47),(.t 52)]),so (.store 3 (.t 8) (.t 53)),rg 9 (.mov (.c (.b true)))])
 (.pre (.norm false [8,9]) .ret))
 (.seq
 (.reg [rg 55 (.bin .eql (.t 11) (.c (.i .i64 8))),mv 54 55])
 (.cond (.t 54)
 (.seq
 (.drawT [rg 56 (.fad 0 (.t 4)),rg 57 (.load (some 1) (.t 56)),rg 58 (.ifc 1 (.t 57)),mv 59 3,rg 60 (.fad 1 (.t 5)),rg 61 (.load none (.t 60)),rg 62 (.iad 3 (.t 59) (.t 61)),rg 63 (.load (some 3) (.t 62)),mv 64 3,rg 65 (.fad 2 (.t 5)),rg 66 (.load none (.t 65)),rg 67 (.iad 3 (.t 64) (.t 66)),rg 68 (.load (some 3) (.t 67))]
 [rg 69 (.inv "Sub" 1 448 (.t 58) [(.t 63),(.t 68)]),so (.store 3 (.t 8) (.t 69)),rg 9 (.mov (.c (.b true)))])
 (.pre (.norm false [8,9]) .ret))
 (.seq
 (.reg [rg 71 (.bin .eql (.t 11) (.c (.i .i64 9))),mv 70 71])
 (.cond (.t 70)
 (.seq
 (.drawT [rg 72 (.fad 0 (.t 4)),rg 73 (.load (some 1) (.t 72)),rg 74 (.ifc 1 (.t 73)),mv 75 3,rg 76 (.fad 1 (.t 5)),rg 77 (.load none (.t 76)),rg 78 (.iad 3 (.t 75) (.t 77)),rg 79 (.load (some 3) (.t 78)),mv 80 3,rg 81 (.fad 2 (.t 5)),rg 82 (.load none (.t 81)),rg 83 (.iad 3 (.t 80) (.t 82)),rg 84 (.load (some 3) (.t 83))]
 [rg 85 (.inv "Mul" 1 443 (.t 74) [(.t 79),(.t 84)]),so (.store 3 (.t 8) (.t 85)),rg 9 (.mov (.c (.b true)))])
 (.pre (.norm false [8,9]) .ret))
 (.seq
 (.reg [rg 87 (.bin .eql (.t 11) (.c (.i .i64 10))),mv 86 87])
 (.cond (.t 86)
 (.seq
 (.drawT [rg 88 (.fad 0 (.t 4)),rg 89 (.load (some 1) (.t 88)),rg 90 (.ifc 1 (.t 89)),mv 91 3,rg 92 (.fad 1 (.t 5)),rg 93 (.load none (.t 92)),rg 94 (.iad 3 (.t 91) (.t 93)),rg 95 (.load (some 3) (.t 94)),mv 96 3,rg 97 (.fad 2 (.t 5)),rg 98 (.load none (.t 97)),rg 99 (.iad 3 (.t 96) (.t 98)),rg 100 (.load (some 3) (.t 99)),rg 101 (.inv "Quo" 1 447 (.t 90) [(.t 95),(.t 100)]),rg 102 (.ext (.t 101) 0),rg 103 (.ext (.t 101) 1)]
 [so (.store 3 (.t 8) (.t 102)),mv 9 103])
 (.pre (.norm false [8,9]) .ret))
 .skip))))))))))))))
 (.seq
 (.reg [rg 104 (.load (some 1) (.t 4)),rg 105 (.load (some 6) (.t 5)),rg 106 (.load (some 5) (.t 6)),rg 107 (.call 431 [(.t 104),(.t 105),(.t 106)]),so (.store 3 (.t 8) (.t 107)),rg 9 (.mov (.c (.b true)))])
 (.pre (.norm false [8,9]) .ret))))
def b431:AX:=
 (.seq
 (.reg [rg 3 (.xop (.box 1) [(.t 0)]),rg 4 (.xop (.box 6) [(.t 1)]),rg 5 (.xop (.box 5) [(.t 2)]),rg 6 (.alloc [(.b false),(.sl [] .nl),(.sl [] .nl)])])
 (.seq
 (.seq
 (.reg [rg 7 (.fad 0 (.t 4)),rg 8 (.load none (.t 7))])
 (.block 0
 (.seq
 (.reg [rg 10 (.bin .eql (.t 8) (.c (.i .i64 1))),mv 9 10])
 (.cond (.t 9)
 (.seq
 (.reg [rg 11 (.fad 0 (.t 3)),rg 12 (.load (some 1) (.t 11)),rg 13 (.ifc 1 (.t 12)),rg 14 (.fad 3 (.t 4)),rg 15 (.load (some 3) (.t 14)),rg 16 (.inv "Of" 1 445 (.t 13) [(.t 15)]),so (.store 3 (.t 6) (.t 16))])
 (.pre (.norm false [6]) .ret))
 (.seq
 (.reg [rg 18 (.bin .eql (.t 8) (.c (.i .i64 3))),mv 17 18])
 (.cond (.t 17)
 (.seq
 (.reg [rg 19 (.fad 3 (.t 5)),rg 20 (.load none (.t 19)),rg 21 (.fad 1 (.t 4)),rg 22 (.load none (.t 21)),rg 23 (.iad 3 (.t 20) (.t 22)),rg 24 (.load (some 3) (.t 23)),so (.store 3 (.t 6) (.t 24))])
 (.pre (.norm false [6]) .ret))
 (.seq
 (.reg [rg 26 (.bin .eql (.t 8) (.c (.i .i64 4))),mv 25 26])
 (.cond (.t 25)
 (.seq
 (.reg [rg 27 (.fad 4 (.t 5)),rg 28 (.load none (.t 27)),rg 29 (.fad 1 (.t 4)),rg 30 (.load none (.t 29)),rg 31 (.iad 3 (.t 28) (.t 30)),rg 32 (.load (some 3) (.t 31)),so (.store 3 (.t 6) (.t 32))])
 (.pre (.norm false [6]) .ret))
 .skip))))))))
 (.seq
 (.reg [rg 33 (.fad 0 (.t 5)),rg 34 (.load (some 3) (.t 33)),so (.store 3 (.t 6) (.t 34))])
 (.pre (.norm false [6]) .ret))))
def b441:AX:=
 (.seq
 (.reg [rg 3 (.xop (.box 1) [(.t 0)]),rg 4 (.xop (.box 3) [(.t 1)]),rg 5 (.xop (.box 3) [(.t 2)]),rg 6 (.alloc [(.b false),(.sl [] .nl),(.sl [] .nl)])])
 (.seq
 (.reg [rg 7 (.load (some 3) (.t 4)),rg 8 (.load (some 3) (.t 5)),rg 9 (.call 215 [(.t 7),(.t 8)]),so (.store 3 (.t 6) (.t 9))])
 (.pre (.norm false [6]) .ret)))
def b442:AX:=
 (.seq
 (.reg [rg 2 (.xop (.box 1) [(.t 0)]),rg 3 (.xop (.box 3) [(.t 1)]),rg 4 (.mov (.c (.b false)))])
 (.seq
 (.reg [rg 5 (.fad 0 (.t 2)),rg 6 (.load none (.t 5)),rg 7 (.load (some 3) (.t 3)),rg 8 (.call 411 [(.t 6),(.t 7)]),mv 4 8])
 (.pre (.norm false [4]) .ret)))
def b443:AX:=
 (.seq
 (.reg [rg 3 (.xop (.box 1) [(.t 0)]),rg 4 (.xop (.box 3) [(.t 1)]),rg 5 (.xop (.box 3) [(.t 2)]),rg 6 (.alloc [(.b false),(.sl [] .nl),(.sl [] .nl)])])
 (.seq
 (.reg [rg 7 (.load (some 3) (.t 4)),rg 8 (.load (some 3) (.t 5)),rg 9 (.call 217 [(.t 7),(.t 8)]),so (.store 3 (.t 6) (.t 9))])
 (.pre (.norm false [6]) .ret)))
def b444:AX:=
 (.seq
 (.reg [rg 2 (.xop (.box 1) [(.t 0)]),rg 3 (.xop (.box 3) [(.t 1)]),rg 4 (.alloc [(.b false),(.sl [] .nl),(.sl [] .nl)])])
 (.seq
 (.reg [rg 5 (.load (some 3) (.t 3)),rg 6 (.call 213 [(.t 5)]),so (.store 3 (.t 4) (.t 6))])
 (.pre (.norm false [4]) .ret)))
def b445:AX:=
 (.seq
 (.reg [rg 2 (.xop (.box 1) [(.t 0)]),rg 3 (.xop (.box 3) [(.t 1)]),rg 4 (.alloc [(.b false),(.sl [] .nl),(.sl [] .nl)])])
 (.seq
 (.reg [rg 5 (.load (some 3) (.t 3)),rg 6 (.call 207 [(.t 5)]),so (.store 3 (.t 4) (.t 6))])
 (.pre (.norm false [4]) .ret)))
def b446:AX:=
 (.seq
 (.reg [rg 3 (.xop (.box 1) [(.t 0)]),rg 4 (.xop (.box 3) [(.t 1)]),rg 6 (.alloc [(.b false),(.sl [] .nl),(.sl [] .nl)]),rg 7 (.mov (.c (.b false)))])
 (.seq
 (.reg [rg 8 (.load (some 3) (.t 4)),mv 9 2,rg 10 (.call 220 [(.t 8),(.t 9)]),rg 11 (.ext (.t 10) 0),rg 12 (.ext (.t 10) 1),so (.store 3 (.t 6) (.t 11)),mv 7 12])
 (.pre (.norm false [6,7]) .ret)))
def b447:AX:=
 (.seq
 (.reg [rg 3 (.xop (.box 1) [(.t 0)]),rg 4 (.xop (.box 3) [(.t 1)]),rg 5 (.xop (.box 3) [(.t 2)]),rg 6 (.alloc [(.b false),(.sl [] .nl),(.sl [] .nl)]),rg 7 (.mov (.c (.b false)))])
 (.seq
 (.reg [rg 8 (.load (some 3) (.t 4)),rg 9 (.load (some 3) (.t 5)),rg 10 (.call 218 [(.t 8),(.t 9)]),rg 11 (.ext (.t 10) 0),rg 12 (.ext (.t 10) 1),so (.store 3 (.t 6) (.t 11)),mv 7 12])
 (.pre (.norm false [6,7]) .ret)))
def b448:AX:=
 (.seq
 (.reg [rg 3 (.xop (.box 1) [(.t 0)]),rg 4 (.xop (.box 3) [(.t 1)]),rg 5 (.xop (.box 3) [(.t 2)]),rg 6 (.alloc [(.b false),(.sl [] .nl),(.sl [] .nl)])])
 (.seq
 (.reg [rg 7 (.load (some 3) (.t 4)),rg 8 (.load (some 3) (.t 5)),rg 9 (.call 216 [(.t 7),(.t 8)]),so (.store 3 (.t 6) (.t 9))])
 (.pre (.norm false [6]) .ret)))
def row384:AFx:=⟨3,27,[.t 6,.cell 7 (some 4)],b384,none,false⟩
def row407:AFx:=⟨3,70,[.t 6,.cell 7 (some 4)],b407,(some [true,false,false]),false⟩
def row422:AFx:=⟨4,108,[.cell 8 (some 3),.t 9],b422,none,false⟩
def row431:AFx:=⟨3,35,[.cell 6 (some 3)],b431,none,false⟩
def row441:AFx:=⟨3,10,[.cell 6 (some 3)],b441,none,false⟩
def row442:AFx:=⟨2,9,[.t 4],b442,(some [true,false]),false⟩
def row443:AFx:=⟨3,10,[.cell 6 (some 3)],b443,none,false⟩
def row444:AFx:=⟨2,7,[.cell 4 (some 3)],b444,none,false⟩
def row445:AFx:=⟨2,7,[.cell 4 (some 3)],b445,none,false⟩
def row446:AFx:=⟨3,13,[.cell 6 (some 3),.t 7],b446,none,false⟩
def row447:AFx:=⟨3,13,[.cell 6 (some 3),.t 7],b447,none,false⟩
def row448:AFx:=⟨3,10,[.cell 6 (some 3)],b448,none,false⟩
class Za4 (T:Tbl):Prop where
 h384:T 384=some row384
 h407:T 407=some row407
 h422:T 422=some row422
 h431:T 431=some row431
 h441:T 441=some row441
 h442:T 442=some row442
 h443:T 443=some row443
 h444:T 444=some row444
 h445:T 445=some row445
 h446:T 446=some row446
 h447:T 447=some row447
 h448:T 448=some row448
section
variable{T:Tbl}[Za4 T]{d:Option Nat}{st:St}{xs:List AV}{ps:List Opd}{e:Env}{h:Heap}{ol:List Heap}
@[simp] theorem x384:Zc (orc T) T 384 xs d st=cP T 384 false xs d st:=zab Za4.h384
@[simp] theorem x407:Zc (orc T) T 407 xs d st=cL T 407 false [true,false,false] xs d st:=zal Za4.h407
@[simp] theorem x422:Zc (orc T) T 422 xs d st=cP T 422 false xs d st:=zab Za4.h422
@[simp] theorem x431:Zc (orc T) T 431 xs d st=cP T 431 false xs d st:=zab Za4.h431
@[simp] theorem x441:Zc (orc T) T 441 xs d st=cP T 441 false xs d st:=zab Za4.h441
@[simp] theorem x442:Zc (orc T) T 442 xs d st=cL T 442 false [true,false] xs d st:=zal Za4.h442
@[simp] theorem x443:Zc (orc T) T 443 xs d st=cP T 443 false xs d st:=zab Za4.h443
@[simp] theorem x444:Zc (orc T) T 444 xs d st=cP T 444 false xs d st:=zab Za4.h444
@[simp] theorem x445:Zc (orc T) T 445 xs d st=cP T 445 false xs d st:=zab Za4.h445
@[simp] theorem z446(xs:List AV):dI T 446 xs=dR (Zb T 446 (xs.map (wkIf false))) xs:=zye Za4.h446
@[simp] theorem z447(xs:List AV):dI T 447 xs=dR (Zb T 447 (xs.map (wkIf false))) xs:=zye Za4.h447
@[simp] theorem x448:Zc (orc T) T 448 xs d st=cP T 448 false xs d st:=zab Za4.h448
end
def meths1:List RV:=[.cell 1 (some 445),.cell 2 (some 444),.cell 3 (some 441),.cell 4 (some 448),.cell 5 (some 443),.cell 6 (some 447),.cell 7 (some 446),.cell 8 (some 442)]
class Zei (T:Tbl):Prop where
 h1:∃t,T 1000001=some ⟨t,0,meths1,.bad,none,false⟩
section
variable{T:Tbl}[Zei T]
theorem zeg(x:String×Nat):x∈Z5 T 1↔x∈[("Of",445),("Neg",444),("Add",441),("Sub",448),("Mul",443),("Quo",447),("Pow",446),("Fits",442)]:=by
 obtain⟨t,ht⟩:=Zei.h1 (T:=T)
 rw[zp3 ht]
 rfl
@[simp] theorem zanq:(("Of",445)∈Z5 T 1)=True:=by simp[zeg]
@[simp] theorem zaks:(("Neg",444)∈Z5 T 1)=True:=by simp[zeg]
@[simp] theorem zakt:(("Add",441)∈Z5 T 1)=True:=by simp[zeg]
@[simp] theorem zaku:(("Sub",448)∈Z5 T 1)=True:=by simp[zeg]
@[simp] theorem zakv:(("Mul",443)∈Z5 T 1)=True:=by simp[zeg]
@[simp] theorem zakw:(("Quo",447)∈Z5 T 1)=True:=by simp[zeg]
@[simp] theorem zakx:(("Pow",446)∈Z5 T 1)=True:=by simp[zeg]
@[simp] theorem zahr:(("Fits",442)∈Z5 T 1)=True:=by simp[zeg]
end
def b380:AX:=
 (.seq
 (.reg [rg 3 (.xop (.box 5) [(.t 0)]),rg 6 (.mov (.c (.b false)))])
 (.seq
 (.reg [rg 7 (.fad 0 (.t 3)),rg 8 (.load (some 3) (.t 7)),mv 9 2,rg 10 (.call 247 [(.t 8),(.t 9)]),mv 11 10,gd 12 11 false (.fad 3 (.t 3)),gd 13 11 false (.load none (.t 12)),gd 14 11 false (.mov (.t 1)),gd 15 11 false (.mov (.t 2)),gd 16 11 false (.call 286 [(.t 13),(.t 14),(.t 15)]),rg 17 (.pick (.t 11) (.c (.b true)) (.t 16)),mv 18 17,gd 19 18 false (.fad 4 (.t 3)),gd 20 18 false (.load none (.t 19)),gd 21 18 false (.mov (.t 1)),gd 22 18 false (.mov (.t 2)),gd 23 18 false (.call 286 [(.t 20),(.t 21),(.t 22)]),rg 24 (.pick (.t 18) (.c (.b true)) (.t 23)),mv 6 24])
 (.pre (.norm false [6]) .ret)))
def b383:AX:=
 (.seq
 (.reg [rg 1 (.xop (.box 5) [(.t 0)]),rg 2 (.alloc [(.b false),(.sl [] .nl),(.sl [] .nl),(.sl [] .nl),(.sl [] .nl)])])
 (.seq
 (.drawT [rg 3 (.fad 0 (.t 1)),rg 4 (.load (some 3) (.t 3)),rg 5 (.call 248 [(.t 4)]),rg 6 (.fad 3 (.t 1)),rg 7 (.load none (.t 6)),rg 8 (.call 287 [(.t 7)]),rg 9 (.fad 4 (.t 1)),rg 10 (.load none (.t 9))]
 [rg 11 (.call 287 [(.t 10)]),rg 12 (.build [(.b false),(.sl [] .nl),(.sl [] .nl),(.sl [] .nl),(.sl [] .nl)] [(0,3,(.t 5)),(3,1,(.t 8)),(4,1,(.t 11))]),so (.store 5 (.t 2) (.t 12))])
 (.pre (.norm false [2]) .ret)))
def row380:AFx:=⟨3,25,[.t 6],b380,none,false⟩
def row383:AFx:=⟨1,13,[.cell 2 (some 5)],b383,none,false⟩
class Zc7 (T:Tbl):Prop where
 h380:T 380=some row380
 h383:T 383=some row383
section
variable{T:Tbl}[Zc7 T]{d:Option Nat}{st:St}{xs:List AV}{ps:List Opd}{e:Env}{h:Heap}{ol:List Heap}
@[simp] theorem x380:Zc (orc T) T 380 xs d st=cP T 380 false xs d st:=zab Zc7.h380
@[simp] theorem y383:opD (orc T) T (.call 383 ps) e h ol=dP T 383 false ps e:=zak Zc7.h383
end
@[simp] theorem z8s{f:Nat}{id:BId}{g z i o:Nat}{h:Heap}{clk:Nat}:Zkd f (.ptr id g z i o) h clk=some (.fnp f id g z i o,h,clk):=rfl
theorem zk0{T:Tbl}{k t u:Nat}(h:T (1000000+k)=some ⟨t,u,[],.bad,none,false⟩):Zeq T k=some u:=by
 unfold Zeq
 rw[h]
 rfl
class Zco (T:Tbl):Prop where
 h1500424:∃t,T 1500424=some ⟨t,424,[],.bad,none,false⟩
class Zc5 (T:Tbl):Prop where
 h1500416:∃t,T 1500416=some ⟨t,416,[],.bad,none,false⟩
class Zc6 (T:Tbl):Prop where
 h1500418:∃t,T 1500418=some ⟨t,418,[],.bad,none,false⟩
section
variable{T:Tbl}
@[simp] theorem zann[Zco T]:Zeq T 500424=some 424:=by
 obtain⟨t,ht⟩:=Zco.h1500424 (T:=T)
 exact zk0 ht
@[simp] theorem zano[Zc5 T]:Zeq T 500416=some 416:=by
 obtain⟨t,ht⟩:=Zc5.h1500416 (T:=T)
 exact zk0 ht
@[simp] theorem zanp[Zc6 T]:Zeq T 500418=some 418:=by
 obtain⟨t,ht⟩:=Zc6.h1500418 (T:=T)
 exact zk0 ht
end
def l388_0:AX:=
 (.note
 (.seq
 (.reg [rg 30 (.bin .lss (.t 29) (.t 28))])
 (.seq
 (.cond (.t 30)
 .skip
 (.exit 0))
 (.seq
 (.block 1
 (.seq
 (.reg [rg 31 (.iad 1 (.t 27) (.t 29)),rg 32 (.load none (.t 31)),mv 13 32])
 (.seq
 (.reg [mv 33 8,mv 34 11,mv 35 13,rg 36 (.iad 6 (.t 34) (.t 35)),rg 37 (.fad 0 (.t 36)),rg 38 (.load (some 3) (.t 37)),rg 39 (.bsl 3 [(.b false),(.sl [] .nl),(.sl [] .nl)] 1 [(0,(.t 38))]),rg 40 (.app 3 (.t 33) (.t 39)),mv 8 40])
 (.reg [mv 41 9,mv 42 11,mv 43 13,rg 44 (.iad 6 (.t 42) (.t 43)),rg 45 (.fad 3 (.t 44)),rg 46 (.load (some 3) (.t 45)),rg 47 (.bsl 3 [(.b false),(.sl [] .nl),(.sl [] .nl)] 1 [(0,(.t 46))]),rg 48 (.app 3 (.t 41) (.t 47)),mv 9 48]))))
 (.reg [rg 49 (.bin .add (.t 29) (.c (.i .i64 1))),mv 29 49]))))
 (.norm false [8,9,10,11,27,28,29]))
def b388:AX:=
 (.seq
 (.note (.note (.reg [rg 4 (.xop (.box 4) [(.t 0)]),rg 5 (.xop (.box 5) [(.t 1)]),rg 6 (.xop (.box 5) [(.t 2)]),rg 8 (.mov (.c (.sl [] .nl))),rg 9 (.mov (.c (.sl [] .nl))),rg 10 (.alloc [(.i .i64 0),(.i .i64 0),(.i .i64 0),(.i .i64 0)])]) (.nil 8 3)) (.nil 9 3))
 (.seq
 (.reg [rg 15 (.load (some 4) (.t 4)),rg 16 (.load (some 5) (.t 5)),rg 17 (.load (some 5) (.t 6)),mv 18 3,rg 19 (.call 408 [(.t 15),(.t 16),(.t 17),(.t 18)]),mv 14 19,rg 20 (.ext (.t 14) 0),rg 21 (.ext (.t 14) 1),mv 11 20,so (.store 4 (.t 10) (.t 21))])
 (.seq
 (.seq
 (.reg [rg 22 (.load (some 4) (.t 10)),rg 23 (.build [(.i .i64 0),(.i .i64 0),(.i .i64 0),(.i .i64 0)] []),rg 24 (.eqs true [(0,.int),(1,.int),(2,.int),(3,.int)] (.t 22) (.t 23))])
 (.cond (.t 24)
 (.seq
 (.drawT [rg 25 (.load (some 4) (.t 10)),rg 8 (.mov (.c (.sl [] .nl))),rg 9 (.mov (.c (.sl [] .nl)))]
 [so (.store 4 (.t 10) (.t 25))])
 (.pre (.norm false [8,9,10]) .ret))
 .skip))
 (.seq
 (.seq
 (.reg [rg 26 (.fad 1 (.t 4)),rg 27 (.load none (.t 26)),rg 28 (.len (.t 27)),rg 29 (.mov (.c (.i .i64 0)))])
 (.lp 0 (.norm false [8,9,10,11,27,28,29]) l388_0 (.norm false [8,9,10])))
 (.seq
 (.drawT [mv 50 8,mv 51 9,rg 52 (.load (some 4) (.t 10)),mv 8 50,mv 9 51]
 [so (.store 4 (.t 10) (.t 52))])
 (.pre (.norm false [8,9,10]) .ret))))))
def b408:AX:=
 (.seq
 (.reg [rg 4 (.xop (.box 4) [(.t 0)]),rg 5 (.xop (.box 5) [(.t 1)]),rg 6 (.xop (.box 5) [(.t 2)]),rg 8 (.mov (.c (.sl [] .nl))),rg 9 (.alloc [(.i .i64 0),(.i .i64 0),(.i .i64 0),(.i .i64 0)])])
 (.seq
 (.drawT [rg 18 (.load (some 5) (.t 5)),rg 19 (.call 405 [(.t 18)]),rg 20 (.load (some 5) (.t 6))]
 [rg 21 (.call 405 [(.t 20)]),so (.store 5 (.t 5) (.t 19)),so (.store 5 (.t 6) (.t 21))])
 (.seq
 (.reg [rg 23 (.fad 3 (.t 5)),rg 24 (.load none (.t 23)),rg 25 (.fad 3 (.t 6)),rg 26 (.load none (.t 25)),rg 27 (.call 423 [(.t 24),(.t 26)]),mv 22 27,rg 28 (.ext (.t 22) 0),rg 29 (.ext (.t 22) 1),mv 10 28,mv 11 29])
 (.seq
 (.reg [rg 31 (.fad 4 (.t 5)),rg 32 (.load none (.t 31)),rg 33 (.fad 4 (.t 6)),rg 34 (.load none (.t 33)),rg 35 (.call 423 [(.t 32),(.t 34)]),mv 30 35,rg 36 (.ext (.t 30) 0),rg 37 (.ext (.t 30) 1),mv 12 36,mv 13 37])
 (.seq
 (.seq
 (.reg [mv 38 11,rg 39 (.un .not (.t 38)),mv 40 39,gd 41 40 false (.mov (.t 13)),gd 42 40 false (.un .not (.t 41)),rg 43 (.pick (.t 40) (.c (.b true)) (.t 42))])
 (.cond (.t 43)
 (.seq
 (.reg [rg 44 (.build [(.i .i64 0),(.i .i64 0),(.i .i64 0),(.i .i64 0)] [(0,1,(.c (.i .i64 2)))]),rg 8 (.mov (.c (.sl [] .nl))),so (.store 4 (.t 9) (.t 44))])
 (.pre (.norm false [8,9]) .ret))
 .skip))
 (.seq
 (.reg [rg 14 (.alloc [(.i .i64 0)]),so (.store 1 (.t 14) (.c (.i .i64 0)))])
 (.seq
 (.reg [mv 45 3,rg 46 (.call 406 [(.t 45)]),rg 47 (.xop (.mkf 500424) [(.t 14)]),rg 48 (.build [(.raw (.pointer none)),(.raw .nilFunc)] [(0,1,(.t 46)),(1,1,(.t 47))]),rg 49 (.build [(.raw (.pointer none)),(.raw .nilFunc)] [(0,2,(.t 48))]),rg 15 (.alloc [(.raw (.pointer none)),(.raw .nilFunc)]),so (.store 2 (.t 15) (.t 49))])
 (.seq
 (.reg [rg 51 (.load (some 2) (.t 15)),rg 52 (.load (some 4) (.t 4)),rg 53 (.fad 0 (.t 5)),rg 54 (.load (some 3) (.t 53)),rg 55 (.fad 0 (.t 6)),rg 56 (.load (some 3) (.t 55)),rg 57 (.build [(.b false),(.sl [] .nl),(.sl [] .nl),(.b false),(.sl [] .nl),(.sl [] .nl)] [(0,3,(.t 54)),(3,3,(.t 56))]),mv 58 10,mv 59 12,rg 60 (.build [(.b false),(.sl [] .nl),(.sl [] .nl),(.b false),(.sl [] .nl),(.sl [] .nl),(.sl [] .nl),(.sl [] .nl)] [(0,6,(.t 57)),(6,1,(.t 58)),(7,1,(.t 59))]),rg 61 (.call 425 [(.t 51),(.t 52),(.t 60)]),mv 50 61,rg 62 (.ext (.t 50) 0),rg 63 (.ext (.t 50) 1),rg 17 (.alloc [(.i .i64 0),(.i .i64 0),(.i .i64 0),(.i .i64 0)]),mv 16 62,so (.store 4 (.t 17) (.t 63))])
 (.seq
 (.reg [rg 64 (.load none (.t 14)),rg 65 (.fad 2 (.t 17)),so (.store 1 (.t 65) (.t 64))])
 (.seq
 (.drawT [mv 66 16,rg 67 (.load (some 4) (.t 17)),mv 8 66]
 [so (.store 4 (.t 9) (.t 67))])
 (.pre (.norm false [8,9]) .ret)))))))))))
def l423_0:AX:=
 (.note
 (.seq
 (.reg [rg 17 (.bin .lss (.t 16) (.t 15))])
 (.seq
 (.cond (.t 17)
 .skip
 (.exit 0))
 (.seq
 (.block 1
 (.seq
 (.reg [mv 18 16,rg 19 (.iad 3 (.t 14) (.t 16)),rg 20 (.load (some 3) (.t 19)),rg 8 (.alloc [(.b false),(.sl [] .nl),(.sl [] .nl)]),mv 7 18,so (.store 3 (.t 8) (.t 20))])
 (.drawT [mv 21 6,rg 22 (.load (some 3) (.t 8)),mv 23 1,mv 24 7,rg 25 (.iad 3 (.t 23) (.t 24)),rg 26 (.load (some 3) (.t 25)),rg 27 (.build [(.b false),(.sl [] .nl),(.sl [] .nl),(.b false),(.sl [] .nl),(.sl [] .nl)] [(0,3,(.t 22)),(3,3,(.t 26))]),rg 28 (.bsl 6 [(.b false),(.sl [] .nl),(.sl [] .nl),(.b false),(.sl [] .nl),(.sl [] .nl)] 1 [(0,(.t 27))])]
 [rg 29 (.app 6 (.t 21) (.t 28)),mv 6 29])))
 (.reg [rg 30 (.bin .add (.t 16) (.c (.i .i64 1))),mv 16 30]))))
 (.norm false [1,6,14,15,16]))
def b423:AX:=
 (.seq
 (.reg [rg 4 (.mov (.c (.sl [] .nl))),rg 5 (.mov (.c (.b false)))])
 (.seq
 (.seq
 (.reg [mv 9 0,rg 10 (.len (.t 9)),mv 11 1,rg 12 (.len (.t 11)),rg 13 (.bin .neq (.t 10) (.t 12))])
 (.cond (.t 13)
 (.seq
 (.reg [rg 4 (.mov (.c (.sl [] .nl))),rg 5 (.mov (.c (.b false)))])
 (.pre (.norm false [4,5]) .ret))
 .skip))
 (.seq
 (.note (.reg [rg 6 (.mov (.c (.sl [] .nl)))]) (.nil 6 6))
 (.seq
 (.seq
 (.reg [mv 14 0,rg 15 (.len (.t 14)),rg 16 (.mov (.c (.i .i64 0)))])
 (.lp 0 (.norm false [1,6,14,15,16]) l423_0 (.norm false [6])))
 (.seq
 (.reg [mv 31 6,mv 4 31,rg 5 (.mov (.c (.b true)))])
 (.pre (.norm false [4,5]) .ret))))))
def b424:AX:=
 (.reg [so (.store 1 (.t 0) (.c (.i .i64 1)))])
def l425_0:AX:=
 (.note
 (.seq
 (.reg [rg 37 (.bin .lss (.t 36) (.t 35))])
 (.seq
 (.cond (.t 37)
 .skip
 (.exit 0))
 (.seq
 (.block 1
 (.seq
 (.reg [mv 38 36,rg 39 (.iad 6 (.t 34) (.t 36)),rg 40 (.load (some 6) (.t 39)),rg 10 (.alloc [(.i .i64 0),(.i .i64 0),(.i .i64 0),(.b false),(.sl [] .nl),(.sl [] .nl)]),mv 9 38,so (.store 6 (.t 10) (.t 40))])
 (.seq
 (.reg [rg 42 (.load (some 2) (.t 3)),rg 43 (.load (some 6) (.t 10)),rg 44 (.load (some 8) (.t 5)),mv 45 8,rg 46 (.call 432 [(.t 42),(.t 43),(.t 44),(.t 45)]),mv 41 46,rg 47 (.ext (.t 41) 0),rg 48 (.ext (.t 41) 1),rg 11 (.alloc [(.b false),(.sl [] .nl),(.sl [] .nl),(.b false),(.sl [] .nl),(.sl [] .nl)]),so (.store 6 (.t 11) (.t 47)),mv 12 48])
 (.seq
 (.block 2
 (.seq
 (.reg [mv 50 12,rg 51 (.un .not (.t 50)),mv 49 51])
 (.cond (.t 49)
 (.seq
 (.reg [mv 52 9,rg 53 (.build [(.i .i64 0),(.i .i64 0),(.i .i64 0),(.i .i64 0)] [(0,1,(.c (.i .i64 3))),(3,1,(.t 52))]),rg 6 (.mov (.c (.sl [] .nl))),so (.store 4 (.t 7) (.t 53))])
 (.pre (.norm false [6,7]) .ret))
 (.seq
 (.reg [rg 55 (.fad 0 (.t 3)),rg 56 (.load (some 2) (.t 55)),rg 57 (.ifc 2 (.t 56)),rg 58 (.load (some 6) (.t 11)),rg 59 (.inv "Fits" 2 450 (.t 57) [(.t 58)]),rg 60 (.un .not (.t 59)),mv 54 60])
 (.cond (.t 54)
 (.seq
 (.reg [mv 61 9,rg 62 (.build [(.i .i64 0),(.i .i64 0),(.i .i64 0),(.i .i64 0)] [(0,1,(.c (.i .i64 6))),(3,1,(.t 61))]),rg 6 (.mov (.c (.sl [] .nl))),so (.store 4 (.t 7) (.t 62))])
 (.pre (.norm false [6,7]) .ret))
 .skip)))))
 (.reg [mv 63 8,rg 64 (.load (some 6) (.t 11)),rg 65 (.bsl 6 [(.b false),(.sl [] .nl),(.sl [] .nl),(.b false),(.sl [] .nl),(.sl [] .nl)] 1 [(0,(.t 64))]),rg 66 (.app 6 (.t 63) (.t 65)),mv 8 66])))))
 (.reg [rg 67 (.bin .add (.t 36) (.c (.i .i64 1))),mv 36 67]))))
 (.norm false [3,5,7,8,34,35,36]))
def b425:AX:=
 (.seq
 (.reg [rg 3 (.xop (.box 2) [(.t 0)]),rg 4 (.xop (.box 4) [(.t 1)]),rg 5 (.xop (.box 8) [(.t 2)]),rg 6 (.mov (.c (.sl [] .nl))),rg 7 (.alloc [(.i .i64 0),(.i .i64 0),(.i .i64 0),(.i .i64 0)])])
 (.seq
 (.seq
 (.reg [rg 13 (.load (some 4) (.t 4)),rg 14 (.call 421 [(.t 13)]),rg 15 (.un .not (.t 14)),mv 16 15,gd 17 16 false (.fad 6 (.t 5)),gd 18 16 false (.load none (.t 17)),gd 19 16 false (.len (.t 18)),gd 20 16 false (.fad 2 (.t 4)),gd 21 16 false (.load none (.t 20)),gd 22 16 false (.bin .neq (.t 19) (.t 21)),rg 23 (.pick (.t 16) (.c (.b true)) (.t 22)),mv 24 23,gd 25 24 false (.fad 7 (.t 5)),gd 26 24 false (.load none (.t 25)),gd 27 24 false (.len (.t 26)),gd 28 24 false (.fad 3 (.t 4)),gd 29 24 false (.load none (.t 28)),gd 30 24 false (.bin .neq (.t 27) (.t 29)),rg 31 (.pick (.t 24) (.c (.b true)) (.t 30))])
 (.cond (.t 31)
 (.seq
 (.reg [rg 32 (.build [(.i .i64 0),(.i .i64 0),(.i .i64 0),(.i .i64 0)] [(0,1,(.c (.i .i64 2)))]),rg 6 (.mov (.c (.sl [] .nl))),so (.store 4 (.t 7) (.t 32))])
 (.pre (.norm false [6,7]) .ret))
 .skip))
 (.seq
 (.note (.reg [rg 8 (.mov (.c (.sl [] .nl)))]) (.nil 8 6))
 (.seq
 (.seq
 (.reg [rg 33 (.fad 0 (.t 4)),rg 34 (.load none (.t 33)),rg 35 (.len (.t 34)),rg 36 (.mov (.c (.i .i64 0)))])
 (.lp 0 (.norm false [3,5,7,8,34,35,36]) l425_0 (.norm false [7,8])))
 (.seq
 (.reg [mv 68 8,rg 69 (.build [(.i .i64 0),(.i .i64 0),(.i .i64 0),(.i .i64 0)] []),mv 6 68,so (.store 4 (.t 7) (.t 69))])
 (.pre (.norm false [6,7]) .ret))))))
def b432:AX:=
 (.seq
 (.reg [rg 4 (.xop (.box 2) [(.t 0)]),rg 5 (.xop (.box 6) [(.t 1)]),rg 6 (.xop (.box 8) [(.t 2)]),rg 8 (.alloc [(.b false),(.sl [] .nl),(.sl [] .nl),(.b false),(.sl [] .nl),(.sl [] .nl)]),rg 9 (.mov (.c (.b false)))])
 (.seq
 (.seq
 (.reg [rg 10 (.fad 0 (.t 5)),rg 11 (.load none (.t 10))])
 (.block 0
 (.seq
 (.reg [rg 13 (.bin .eql (.t 11) (.c (.i .i64 6))),mv 12 13])
 (.cond (.t 12)
 (.seq
 (.drawT [rg 14 (.fad 0 (.t 4)),rg 15 (.load (some 2) (.t 14)),rg 16 (.ifc 2 (.t 15)),mv 17 3,rg 18 (.fad 1 (.t 5)),rg 19 (.load none (.t 18)),rg 20 (.iad 6 (.t 17) (.t 19)),rg 21 (.load (some 6) (.t 20))]
 [rg 22 (.inv "Neg" 2 452 (.t 16) [(.t 21)]),so (.store 6 (.t 8) (.t 22)),rg 9 (.mov (.c (.b true)))])
 (.pre (.norm false [8,9]) .ret))
 (.seq
 (.reg [rg 24 (.bin .eql (.t 11) (.c (.i .i64 11))),mv 23 24])
 (.cond (.t 23)
 (.seq
 (.drawT [rg 25 (.fad 0 (.t 4)),rg 26 (.load (some 2) (.t 25)),rg 27 (.ifc 2 (.t 26)),mv 28 3,rg 29 (.fad 1 (.t 5)),rg 30 (.load none (.t 29)),rg 31 (.iad 6 (.t 28) (.t 30)),rg 32 (.load (some 6) (.t 31)),rg 33 (.fad 2 (.t 5)),rg 34 (.load none (.t 33)),rg 35 (.inv "Pow" 2 454 (.t 27) [(.t 32),(.t 34)]),rg 36 (.ext (.t 35) 0),rg 37 (.ext (.t 35) 1)]
 [so (.store 6 (.t 8) (.t 36)),mv 9 37])
 (.pre (.norm false [8,9]) .ret))
 (.seq
 (.reg [rg 39 (.bin .eql (.t 11) (.c (.i .i64 7))),mv 38 39])
 (.cond (.t 38)
 (.seq
 (.drawT [rg 40 (.fad 0 (.t 4)),rg 41 (.load (some 2) (.t 40)),rg 42 (.ifc 2 (.t 41)),mv 43 3,rg 44 (.fad 1 (.t 5)),rg 45 (.load none (.t 44)),rg 46 (.iad 6 (.t 43) (.t 45)),rg 47 (.load (some 6) (.t 46)),mv 48 3,rg 49 (.fad 2 (.t 5)),rg 50 (.load none (.t 49)),rg 51 (.iad 6 (.t 48) (.t 50)),rg 52 (.load (some 6) (.t 51))]
 [rg 53 (.inv "Add" 2 449 (.t 42) [(.t 47),(.t 52)]),so (.store 6 (.t 8) (.t 53)),rg 9 (.mov (.c (.b true)))])
 (.pre (.norm false [8,9]) .ret))
 (.seq
 (.reg [rg 55 (.bin .eql (.t 11) (.c (.i .i64 8))),mv 54 55])
 (.cond (.t 54)
 (.seq
 (.drawT [rg 56 (.fad 0 (.t 4)),rg 57 (.load (some 2) (.t 56)),rg 58 (.ifc 2 (.t 57)),mv 59 3,rg 60 (.fad 1 (.t 5)),rg 61 (.load none (.t 60)),rg 62 (.iad 6 (.t 59) (.t 61)),rg 63 (.load (some 6) (.t 62)),mv 64 3,rg 65 (.fad 2 (.t 5)),rg 66 (.load none (.t 65)),rg 67 (.iad 6 (.t 64) (.t 66)),rg 68 (.load (some 6) (.t 67))]
 [rg 69 (.inv "Sub" 2 456 (.t 58) [(.t 63),(.t 68)]),so (.store 6 (.t 8) (.t 69)),rg 9 (.mov (.c (.b true)))])
 (.pre (.norm false [8,9]) .ret))
 (.seq
 (.reg [rg 71 (.bin .eql (.t 11) (.c (.i .i64 9))),mv 70 71])
 (.cond (.t 70)
 (.seq
 (.drawT [rg 72 (.fad 0 (.t 4)),rg 73 (.load (some 2) (.t 72)),rg 74 (.ifc 2 (.t 73)),mv 75 3,rg 76 (.fad 1 (.t 5)),rg 77 (.load none (.t 76)),rg 78 (.iad 6 (.t 75) (.t 77)),rg 79 (.load (some 6) (.t 78)),mv 80 3,rg 81 (.fad 2 (.t 5)),rg 82 (.load none (.t 81)),rg 83 (.iad 6 (.t 80) (.t 82)),rg 84 (.load (some 6) (.t 83))]
 [rg 85 (.inv "Mul" 2 451 (.t 74) [(.t 79),(.t 84)]),so (.store 6 (.t 8) (.t 85)),rg 9 (.mov (.c (.b true)))])
 (.pre (.norm false [8,9]) .ret))
 (.seq
 (.reg [rg 87 (.bin .eql (.t 11) (.c (.i .i64 10))),mv 86 87])
 (.cond (.t 86)
 (.seq
 (.drawT [rg 88 (.fad 0 (.t 4)),rg 89 (.load (some 2) (.t 88)),rg 90 (.ifc 2 (.t 89)),mv 91 3,rg 92 (.fad 1 (.t 5)),rg 93 (.load none (.t 92)),rg 94 (.iad 6 (.t 91) (.t 93)),rg 95 (.load (some 6) (.t 94)),mv 96 3,rg 97 (.fad 2 (.t 5)),rg 98 (.load none (.t 97)),rg 99 (.iad 6 (.t 96) (.t 98)),rg 100 (.load (some 6) (.t 99)),rg 101 (.inv "Quo" 2 455 (.t 90) [(.t 95),(.t 100)]),rg 102 (.ext (.t 101) 0),rg 103 (.ext (.t 101) 1)]
 [so (.store 6 (.t 8) (.t 102)),mv 9 103])
 (.pre (.norm false [8,9]) .ret))
 .skip))))))))))))))
 (.seq
 (.reg [rg 104 (.load (some 2) (.t 4)),rg 105 (.load (some 6) (.t 5)),rg 106 (.load (some 8) (.t 6)),rg 107 (.call 436 [(.t 104),(.t 105),(.t 106)]),so (.store 6 (.t 8) (.t 107)),rg 9 (.mov (.c (.b true)))])
 (.pre (.norm false [8,9]) .ret))))
def b436:AX:=
 (.seq
 (.reg [rg 3 (.xop (.box 2) [(.t 0)]),rg 4 (.xop (.box 6) [(.t 1)]),rg 5 (.xop (.box 8) [(.t 2)]),rg 6 (.alloc [(.b false),(.sl [] .nl),(.sl [] .nl),(.b false),(.sl [] .nl),(.sl [] .nl)])])
 (.seq
 (.seq
 (.reg [rg 7 (.fad 0 (.t 4)),rg 8 (.load none (.t 7))])
 (.block 0
 (.seq
 (.reg [rg 10 (.bin .eql (.t 8) (.c (.i .i64 1))),mv 9 10])
 (.cond (.t 9)
 (.seq
 (.reg [rg 11 (.fad 0 (.t 3)),rg 12 (.load (some 2) (.t 11)),rg 13 (.ifc 2 (.t 12)),rg 14 (.fad 3 (.t 4)),rg 15 (.load (some 3) (.t 14)),rg 16 (.inv "Of" 2 453 (.t 13) [(.t 15)]),so (.store 6 (.t 6) (.t 16))])
 (.pre (.norm false [6]) .ret))
 (.seq
 (.reg [rg 18 (.bin .eql (.t 8) (.c (.i .i64 3))),mv 17 18])
 (.cond (.t 17)
 (.seq
 (.reg [rg 19 (.fad 6 (.t 5)),rg 20 (.load none (.t 19)),rg 21 (.fad 1 (.t 4)),rg 22 (.load none (.t 21)),rg 23 (.iad 6 (.t 20) (.t 22)),rg 24 (.load (some 6) (.t 23)),so (.store 6 (.t 6) (.t 24))])
 (.pre (.norm false [6]) .ret))
 (.seq
 (.reg [rg 26 (.bin .eql (.t 8) (.c (.i .i64 4))),mv 25 26])
 (.cond (.t 25)
 (.seq
 (.reg [rg 27 (.fad 7 (.t 5)),rg 28 (.load none (.t 27)),rg 29 (.fad 1 (.t 4)),rg 30 (.load none (.t 29)),rg 31 (.iad 6 (.t 28) (.t 30)),rg 32 (.load (some 6) (.t 31)),so (.store 6 (.t 6) (.t 32))])
 (.pre (.norm false [6]) .ret))
 .skip))))))))
 (.seq
 (.reg [rg 33 (.fad 0 (.t 5)),rg 34 (.load (some 6) (.t 33)),so (.store 6 (.t 6) (.t 34))])
 (.pre (.norm false [6]) .ret))))
def b449:AX:=
 (.seq
 (.reg [rg 3 (.xop (.box 2) [(.t 0)]),rg 4 (.xop (.box 6) [(.t 1)]),rg 5 (.xop (.box 6) [(.t 2)]),rg 6 (.alloc [(.b false),(.sl [] .nl),(.sl [] .nl),(.b false),(.sl [] .nl),(.sl [] .nl)])])
 (.seq
 (.drawT [rg 7 (.fad 0 (.t 4)),rg 8 (.load (some 3) (.t 7)),rg 9 (.fad 0 (.t 5)),rg 10 (.load (some 3) (.t 9)),rg 11 (.call 215 [(.t 8),(.t 10)]),rg 12 (.fad 3 (.t 4)),rg 13 (.load (some 3) (.t 12)),rg 14 (.fad 3 (.t 5)),rg 15 (.load (some 3) (.t 14))]
 [rg 16 (.call 215 [(.t 13),(.t 15)]),rg 17 (.build [(.b false),(.sl [] .nl),(.sl [] .nl),(.b false),(.sl [] .nl),(.sl [] .nl)] [(0,3,(.t 11)),(3,3,(.t 16))]),so (.store 6 (.t 6) (.t 17))])
 (.pre (.norm false [6]) .ret)))
def b450:AX:=
 (.seq
 (.reg [rg 2 (.xop (.box 2) [(.t 0)]),rg 3 (.xop (.box 6) [(.t 1)]),rg 4 (.mov (.c (.b false)))])
 (.seq
 (.seq
 (.reg [rg 5 (.fad 0 (.t 2)),rg 6 (.load none (.t 5)),rg 7 (.fad 0 (.t 3)),rg 8 (.load (some 3) (.t 7)),rg 9 (.call 411 [(.t 6),(.t 8)]),rg 10 (.un .not (.t 9))])
 (.cond (.t 10)
 (.seq
 (.reg [rg 4 (.mov (.c (.b false)))])
 (.pre (.norm false [4]) .ret))
 .skip))
 (.seq
 (.seq
 (.reg [rg 11 (.fad 0 (.t 2)),rg 12 (.load none (.t 11)),rg 13 (.fad 3 (.t 3)),rg 14 (.load (some 3) (.t 13)),rg 15 (.call 411 [(.t 12),(.t 14)]),rg 16 (.un .not (.t 15))])
 (.cond (.t 16)
 (.seq
 (.reg [rg 17 (.fad 1 (.t 2)),rg 18 (.load none (.t 17)),rg 19 (.inv "()" 500424 424 (.t 18) [])])
 (.seq
 (.reg [rg 4 (.mov (.c (.b false)))])
 (.pre (.norm false [4]) .ret)))
 .skip))
 (.seq
 (.reg [rg 4 (.mov (.c (.b true)))])
 (.pre (.norm false [4]) .ret)))))
def b451:AX:=
 (.seq
 (.reg [rg 3 (.xop (.box 2) [(.t 0)]),rg 4 (.xop (.box 6) [(.t 1)]),rg 5 (.xop (.box 6) [(.t 2)]),rg 6 (.alloc [(.b false),(.sl [] .nl),(.sl [] .nl),(.b false),(.sl [] .nl),(.sl [] .nl)])])
 (.seq
 (.drawT [rg 7 (.fad 0 (.t 4)),rg 8 (.load (some 3) (.t 7)),rg 9 (.fad 0 (.t 5)),rg 10 (.load (some 3) (.t 9)),rg 11 (.call 217 [(.t 8),(.t 10)]),rg 12 (.fad 3 (.t 4)),rg 13 (.load (some 3) (.t 12)),rg 14 (.fad 0 (.t 5)),rg 15 (.load (some 3) (.t 14)),rg 16 (.call 217 [(.t 13),(.t 15)]),rg 17 (.fad 0 (.t 4)),rg 18 (.load (some 3) (.t 17)),rg 19 (.fad 3 (.t 5)),rg 20 (.load (some 3) (.t 19))]
 [rg 21 (.call 217 [(.t 18),(.t 20)]),rg 22 (.call 215 [(.t 16),(.t 21)]),rg 23 (.build [(.b false),(.sl [] .nl),(.sl [] .nl),(.b false),(.sl [] .nl),(.sl [] .nl)] [(0,3,(.t 11)),(3,3,(.t 22))]),so (.store 6 (.t 6) (.t 23))])
 (.pre (.norm false [6]) .ret)))
def b452:AX:=
 (.seq
 (.reg [rg 2 (.xop (.box 2) [(.t 0)]),rg 3 (.xop (.box 6) [(.t 1)]),rg 4 (.alloc [(.b false),(.sl [] .nl),(.sl [] .nl),(.b false),(.sl [] .nl),(.sl [] .nl)])])
 (.seq
 (.drawT [rg 5 (.fad 0 (.t 3)),rg 6 (.load (some 3) (.t 5)),rg 7 (.call 213 [(.t 6)]),rg 8 (.fad 3 (.t 3)),rg 9 (.load (some 3) (.t 8))]
 [rg 10 (.call 213 [(.t 9)]),rg 11 (.build [(.b false),(.sl [] .nl),(.sl [] .nl),(.b false),(.sl [] .nl),(.sl [] .nl)] [(0,3,(.t 7)),(3,3,(.t 10))]),so (.store 6 (.t 4) (.t 11))])
 (.pre (.norm false [4]) .ret)))
def b453:AX:=
 (.seq
 (.reg [rg 2 (.xop (.box 2) [(.t 0)]),rg 3 (.xop (.box 3) [(.t 1)]),rg 4 (.alloc [(.b false),(.sl [] .nl),(.sl [] .nl),(.b false),(.sl [] .nl),(.sl [] .nl)])])
 (.seq
 (.reg [rg 5 (.load (some 3) (.t 3)),rg 6 (.call 207 [(.t 5)]),rg 7 (.call 205 [(.c (.i .i64 0))]),rg 8 (.build [(.b false),(.sl [] .nl),(.sl [] .nl),(.b false),(.sl [] .nl),(.sl [] .nl)] [(0,3,(.t 6)),(3,3,(.t 7))]),so (.store 6 (.t 4) (.t 8))])
 (.pre (.norm false [4]) .ret)))
def b454:AX:=
 (.seq
 (.reg [rg 3 (.xop (.box 2) [(.t 0)]),rg 4 (.xop (.box 6) [(.t 1)]),rg 6 (.alloc [(.b false),(.sl [] .nl),(.sl [] .nl),(.b false),(.sl [] .nl),(.sl [] .nl)]),rg 7 (.mov (.c (.b false)))])
 (.seq
 (.reg [rg 12 (.fad 0 (.t 4)),rg 13 (.load (some 3) (.t 12)),mv 14 2,rg 15 (.call 220 [(.t 13),(.t 14)]),mv 11 15,rg 16 (.ext (.t 11) 0),rg 17 (.ext (.t 11) 1),rg 8 (.alloc [(.b false),(.sl [] .nl),(.sl [] .nl)]),so (.store 3 (.t 8) (.t 16)),mv 9 17])
 (.seq
 (.seq
 (.reg [mv 18 9,rg 19 (.un .not (.t 18))])
 (.cond (.t 19)
 (.seq
 (.reg [rg 20 (.build [(.b false),(.sl [] .nl),(.sl [] .nl),(.b false),(.sl [] .nl),(.sl [] .nl)] []),so (.store 6 (.t 6) (.t 20)),rg 7 (.mov (.c (.b false)))])
 (.pre (.norm false [6,7]) .ret))
 .skip))
 (.seq
 (.reg [rg 21 (.call 205 [(.c (.i .i64 0))]),rg 10 (.alloc [(.b false),(.sl [] .nl),(.sl [] .nl)]),so (.store 3 (.t 10) (.t 21))])
 (.seq
 (.block 0
 (.seq
 (.reg [mv 23 2,rg 24 (.bin .gtr (.t 23) (.c (.i .i64 0))),mv 22 24])
 (.cond (.t 22)
 (.reg [rg 26 (.fad 0 (.t 4)),rg 27 (.load (some 3) (.t 26)),mv 28 2,rg 29 (.bin .sub (.t 28) (.c (.i .i64 1))),rg 30 (.call 220 [(.t 27),(.t 29)]),mv 25 30,rg 31 (.ext (.t 25) 0),rg 32 (.ext (.t 25) 1),so (.store 3 (.t 10) (.t 31))])
 (.seq
 (.reg [mv 34 2,rg 35 (.bin .lss (.t 34) (.c (.i .i64 0))),mv 33 35])
 (.cond (.t 33)
 (.reg [rg 37 (.load (some 3) (.t 8)),rg 38 (.fad 0 (.t 4)),rg 39 (.load (some 3) (.t 38)),rg 40 (.call 218 [(.t 37),(.t 39)]),mv 36 40,rg 41 (.ext (.t 36) 0),rg 42 (.ext (.t 36) 1),so (.store 3 (.t 10) (.t 41))])
 .skip)))))
 (.seq
 (.drawT [rg 43 (.load (some 3) (.t 8)),mv 44 2,rg 45 (.call 205 [(.t 44)]),rg 46 (.load (some 3) (.t 10)),rg 47 (.call 217 [(.t 45),(.t 46)]),rg 48 (.fad 3 (.t 4)),rg 49 (.load (some 3) (.t 48)),rg 50 (.call 217 [(.t 47),(.t 49)])]
 [rg 51 (.build [(.b false),(.sl [] .nl),(.sl [] .nl),(.b false),(.sl [] .nl),(.sl [] .nl)] [(0,3,(.t 43)),(3,3,(.t 50))]),so (.store 6 (.t 6) (.t 51)),rg 7 (.mov (.c (.b true)))])
 (.pre (.norm false [6,7]) .ret)))))))
def b455:AX:=
 (.seq
 (.reg [rg 3 (.xop (.box 2) [(.t 0)]),rg 4 (.xop (.box 6) [(.t 1)]),rg 5 (.xop (.box 6) [(.t 2)]),rg 6 (.alloc [(.b false),(.sl [] .nl),(.sl [] .nl),(.b false),(.sl [] .nl),(.sl [] .nl)]),rg 7 (.mov (.c (.b false)))])
 (.seq
 (.reg [rg 13 (.fad 0 (.t 4)),rg 14 (.load (some 3) (.t 13)),rg 15 (.fad 0 (.t 5)),rg 16 (.load (some 3) (.t 15)),rg 17 (.call 218 [(.t 14),(.t 16)]),mv 12 17,rg 18 (.ext (.t 12) 0),rg 19 (.ext (.t 12) 1),rg 8 (.alloc [(.b false),(.sl [] .nl),(.sl [] .nl)]),so (.store 3 (.t 8) (.t 18)),mv 9 19])
 (.seq
 (.seq
 (.reg [mv 20 9,rg 21 (.un .not (.t 20))])
 (.cond (.t 21)
 (.seq
 (.reg [rg 22 (.build [(.b false),(.sl [] .nl),(.sl [] .nl),(.b false),(.sl [] .nl),(.sl [] .nl)] []),so (.store 6 (.t 6) (.t 22)),rg 7 (.mov (.c (.b false)))])
 (.pre (.norm false [6,7]) .ret))
 .skip))
 (.seq
 (.draw [⟨rg 24 (.fad 3 (.t 4)),0,1⟩,⟨rg 25 (.load (some 3) (.t 24)),0,1⟩,⟨rg 26 (.load (some 3) (.t 8)),0,1⟩,⟨rg 27 (.fad 3 (.t 5)),0,1⟩,⟨rg 28 (.load (some 3) (.t 27)),0,1⟩,⟨rg 29 (.call 217 [(.t 26),(.t 28)]),0,1⟩,⟨rg 30 (.call 216 [(.t 25),(.t 29)]),0,1⟩,⟨rg 31 (.fad 0 (.t 5)),0,1⟩,⟨rg 32 (.load (some 3) (.t 31)),0,1⟩,⟨rg 33 (.call 218 [(.t 30),(.t 32)]),0,1⟩,⟨mv 23 33,0,1⟩,⟨rg 34 (.ext (.t 23) 0),0,1⟩,⟨rg 35 (.ext (.t 23) 1),0,2⟩,⟨rg 10 (.alloc [(.b false),(.sl [] .nl),(.sl [] .nl)]),0,1⟩,⟨so (.store 3 (.t 10) (.t 34)),1,2⟩,⟨mv 11 35,2,2⟩])
 (.seq
 (.reg [rg 36 (.load (some 3) (.t 8)),rg 37 (.load (some 3) (.t 10)),rg 38 (.build [(.b false),(.sl [] .nl),(.sl [] .nl),(.b false),(.sl [] .nl),(.sl [] .nl)] [(0,3,(.t 36)),(3,3,(.t 37))]),so (.store 6 (.t 6) (.t 38)),rg 7 (.mov (.c (.b true)))])
 (.pre (.norm false [6,7]) .ret))))))
def b456:AX:=
 (.seq
 (.reg [rg 3 (.xop (.box 2) [(.t 0)]),rg 4 (.xop (.box 6) [(.t 1)]),rg 5 (.xop (.box 6) [(.t 2)]),rg 6 (.alloc [(.b false),(.sl [] .nl),(.sl [] .nl),(.b false),(.sl [] .nl),(.sl [] .nl)])])
 (.seq
 (.drawT [rg 7 (.fad 0 (.t 4)),rg 8 (.load (some 3) (.t 7)),rg 9 (.fad 0 (.t 5)),rg 10 (.load (some 3) (.t 9)),rg 11 (.call 216 [(.t 8),(.t 10)]),rg 12 (.fad 3 (.t 4)),rg 13 (.load (some 3) (.t 12)),rg 14 (.fad 3 (.t 5)),rg 15 (.load (some 3) (.t 14))]
 [rg 16 (.call 216 [(.t 13),(.t 15)]),rg 17 (.build [(.b false),(.sl [] .nl),(.sl [] .nl),(.b false),(.sl [] .nl),(.sl [] .nl)] [(0,3,(.t 11)),(3,3,(.t 16))]),so (.store 6 (.t 6) (.t 17))])
 (.pre (.norm false [6]) .ret)))
def row388:AFx:=⟨4,53,[.t 8,.t 9,.cell 10 (some 4)],b388,none,false⟩
def row408:AFx:=⟨4,68,[.t 8,.cell 9 (some 4)],b408,none,false⟩
def row423:AFx:=⟨2,32,[.t 4,.t 5],b423,none,false⟩
def row424:AFx:=⟨1,1,[],b424,(some [true]),false⟩
def row425:AFx:=⟨3,70,[.t 6,.cell 7 (some 4)],b425,(some [true,false,false]),false⟩
def row432:AFx:=⟨4,108,[.cell 8 (some 6),.t 9],b432,none,false⟩
def row436:AFx:=⟨3,35,[.cell 6 (some 6)],b436,none,false⟩
def row449:AFx:=⟨3,18,[.cell 6 (some 6)],b449,none,false⟩
def row450:AFx:=⟨2,20,[.t 4],b450,(some [true,false]),false⟩
def row451:AFx:=⟨3,24,[.cell 6 (some 6)],b451,none,false⟩
def row452:AFx:=⟨2,12,[.cell 4 (some 6)],b452,none,false⟩
def row453:AFx:=⟨2,9,[.cell 4 (some 6)],b453,none,false⟩
def row454:AFx:=⟨3,52,[.cell 6 (some 6),.t 7],b454,none,false⟩
def row455:AFx:=⟨3,39,[.cell 6 (some 6),.t 7],b455,none,false⟩
def row456:AFx:=⟨3,18,[.cell 6 (some 6)],b456,none,false⟩
class Zz (T:Tbl):Prop where
 h388:T 388=some row388
 h408:T 408=some row408
 h423:T 423=some row423
 h424:T 424=some row424
 h425:T 425=some row425
 h432:T 432=some row432
 h436:T 436=some row436
 h449:T 449=some row449
 h450:T 450=some row450
 h451:T 451=some row451
 h452:T 452=some row452
 h453:T 453=some row453
 h454:T 454=some row454
 h455:T 455=some row455
 h456:T 456=some row456
section
variable{T:Tbl}[Zz T]{d:Option Nat}{st:St}{xs:List AV}{ps:List Opd}{e:Env}{h:Heap}{ol:List Heap}
@[simp] theorem x388:Zc (orc T) T 388 xs d st=cP T 388 false xs d st:=zab Zz.h388
@[simp] theorem x408:Zc (orc T) T 408 xs d st=cP T 408 false xs d st:=zab Zz.h408
@[simp] theorem x423:Zc (orc T) T 423 xs d st=cP T 423 false xs d st:=zab Zz.h423
@[simp] theorem x424:Zc (orc T) T 424 xs d st=cL T 424 false [true] xs d st:=zal Zz.h424
@[simp] theorem x425:Zc (orc T) T 425 xs d st=cL T 425 false [true,false,false] xs d st:=zal Zz.h425
@[simp] theorem x432:Zc (orc T) T 432 xs d st=cP T 432 false xs d st:=zab Zz.h432
@[simp] theorem x436:Zc (orc T) T 436 xs d st=cP T 436 false xs d st:=zab Zz.h436
@[simp] theorem x449:Zc (orc T) T 449 xs d st=cP T 449 false xs d st:=zab Zz.h449
@[simp] theorem x450:Zc (orc T) T 450 xs d st=cL T 450 false [true,false] xs d st:=zal Zz.h450
@[simp] theorem x451:Zc (orc T) T 451 xs d st=cP T 451 false xs d st:=zab Zz.h451
@[simp] theorem x452:Zc (orc T) T 452 xs d st=cP T 452 false xs d st:=zab Zz.h452
@[simp] theorem x453:Zc (orc T) T 453 xs d st=cP T 453 false xs d st:=zab Zz.h453
@[simp] theorem z454(xs:List AV):dI T 454 xs=dR (Zb T 454 (xs.map (wkIf false))) xs:=zye Zz.h454
@[simp] theorem z455(xs:List AV):dI T 455 xs=dR (Zb T 455 (xs.map (wkIf false))) xs:=zye Zz.h455
@[simp] theorem x456:Zc (orc T) T 456 xs d st=cP T 456 false xs d st:=zab Zz.h456
end
def meths2:List RV:=[.cell 1 (some 453),.cell 2 (some 452),.cell 3 (some 449),.cell 4 (some 456),.cell 5 (some 451),.cell 6 (some 455),.cell 7 (some 454),.cell 8 (some 450)]
class Zdh (T:Tbl):Prop where
 h2:∃t,T 1000002=some ⟨t,0,meths2,.bad,none,false⟩
section
variable{T:Tbl}[Zdh T]
theorem zeh(x:String×Nat):x∈Z5 T 2↔x∈[("Of",453),("Neg",452),("Add",449),("Sub",456),("Mul",451),("Quo",455),("Pow",454),("Fits",450)]:=by
 obtain⟨t,ht⟩:=Zdh.h2 (T:=T)
 rw[zp3 ht]
 rfl
@[simp] theorem zanr:(("Of",453)∈Z5 T 2)=True:=by simp[zeh]
@[simp] theorem zaky:(("Neg",452)∈Z5 T 2)=True:=by simp[zeh]
@[simp] theorem zakz:(("Add",449)∈Z5 T 2)=True:=by simp[zeh]
@[simp] theorem zak0:(("Sub",456)∈Z5 T 2)=True:=by simp[zeh]
@[simp] theorem zak1:(("Mul",451)∈Z5 T 2)=True:=by simp[zeh]
@[simp] theorem zak2:(("Quo",455)∈Z5 T 2)=True:=by simp[zeh]
@[simp] theorem zak3:(("Pow",454)∈Z5 T 2)=True:=by simp[zeh]
@[simp] theorem zahs:(("Fits",450)∈Z5 T 2)=True:=by simp[zeh]
end
class Zfs (T:Tbl):Prop where
def b290:AX:=
 (.seq
 (.reg [rg 2 (.mov (.c (.i .i64 0)))])
 (.seq
 (.seq
 (.reg [mv 3 0,rg 4 (.len (.t 3)),rg 5 (.bin .eql (.t 4) (.c (.i .i64 0)))])
 (.cond (.t 5)
 (.seq
 (.reg [rg 2 (.mov (.c (.i .i64 0)))])
 (.pre (.norm false [2]) .ret))
 .skip))
 (.seq
 (.reg [mv 6 0,rg 7 (.iad 1 (.t 6) (.c (.i .i64 0))),rg 8 (.load none (.t 7)),rg 9 (.len (.t 8)),mv 2 9])
 (.pre (.norm false [2]) .ret))))
def l291_0:AX:=
 (.note
 (.seq
 (.reg [rg 8 (.bin .lss (.t 7) (.t 6))])
 (.seq
 (.cond (.t 8)
 .skip
 (.exit 0))
 (.seq
 (.block 1
 (.seq
 (.reg [rg 9 (.iad 1 (.t 5) (.t 7)),rg 10 (.load none (.t 9)),mv 4 10])
 (.seq
 (.reg [mv 11 4,rg 12 (.len (.t 11)),mv 13 0,rg 14 (.call 290 [(.t 13)]),rg 15 (.bin .neq (.t 12) (.t 14))])
 (.cond (.t 15)
 (.seq
 (.reg [rg 2 (.mov (.c (.b false)))])
 (.pre (.norm false [2]) .ret))
 .skip))))
 (.reg [rg 16 (.bin .add (.t 7) (.c (.i .i64 1))),mv 7 16]))))
 (.norm false [0,5,6,7]))
def b291:AX:=
 (.seq
 (.reg [rg 2 (.mov (.c (.b false)))])
 (.seq
 (.seq
 (.reg [mv 5 0,rg 6 (.len (.t 5)),rg 7 (.mov (.c (.i .i64 0)))])
 (.lp 0 (.norm false [0,5,6,7]) l291_0 (.norm false [])))
 (.seq
 (.reg [rg 2 (.mov (.c (.b true)))])
 (.pre (.norm false [2]) .ret))))
def l293_0:AX:=
 (.note
 (.seq
 (.reg [rg 15 (.bin .lss (.t 14) (.t 13))])
 (.seq
 (.cond (.t 15)
 .skip
 (.exit 0))
 (.seq
 (.block 1
 (.seq
 (.reg [mv 16 14,rg 17 (.iad 1 (.t 12) (.t 14)),rg 18 (.load none (.t 17)),mv 5 16,mv 6 18])
 (.seq
 (.reg [mv 19 6,mv 20 1,mv 21 5,rg 22 (.iad 1 (.t 20) (.t 21)),rg 23 (.load none (.t 22)),rg 24 (.call 265 [(.t 19),(.t 23)]),rg 25 (.un .not (.t 24))])
 (.cond (.t 25)
 (.seq
 (.reg [rg 4 (.mov (.c (.b false)))])
 (.pre (.norm false [4]) .ret))
 .skip))))
 (.reg [rg 26 (.bin .add (.t 14) (.c (.i .i64 1))),mv 14 26]))))
 (.norm false [1,12,13,14]))
def b293:AX:=
 (.seq
 (.reg [rg 4 (.mov (.c (.b false)))])
 (.seq
 (.seq
 (.reg [mv 7 0,rg 8 (.len (.t 7)),mv 9 1,rg 10 (.len (.t 9)),rg 11 (.bin .neq (.t 8) (.t 10))])
 (.cond (.t 11)
 (.seq
 (.reg [rg 4 (.mov (.c (.b false)))])
 (.pre (.norm false [4]) .ret))
 .skip))
 (.seq
 (.seq
 (.reg [mv 12 0,rg 13 (.len (.t 12)),rg 14 (.mov (.c (.i .i64 0)))])
 (.lp 0 (.norm false [1,12,13,14]) l293_0 (.norm false [])))
 (.seq
 (.reg [rg 4 (.mov (.c (.b true)))])
 (.pre (.norm false [4]) .ret)))))
def l294_0:AX:=
 (.note
 (.seq
 (.reg [rg 19 (.bin .lss (.t 18) (.t 17))])
 (.seq
 (.cond (.t 19)
 .skip
 (.exit 2))
 (.seq
 (.block 3
 (.seq
 (.reg [rg 20 (.iad 1 (.t 16) (.t 18)),rg 21 (.load none (.t 20)),mv 7 21])
 (.reg [mv 22 5,mv 23 7,mv 24 4,rg 25 (.iad 3 (.t 23) (.t 24)),rg 26 (.load (some 3) (.t 25)),rg 27 (.call 207 [(.t 26)]),rg 28 (.bsl 3 [(.b false),(.sl [] .nl),(.sl [] .nl)] 1 [(0,(.t 27))]),rg 29 (.app 3 (.t 22) (.t 28)),mv 5 29])))
 (.reg [rg 30 (.bin .add (.t 18) (.c (.i .i64 1))),mv 18 30]))))
 (.norm false [0,3,4,5,12,13,16,17,18]))
def l294_1:AX:=
 (.note
 (.seq
 (.reg [rg 14 (.bin .lss (.t 13) (.t 12))])
 (.seq
 (.cond (.t 14)
 .skip
 (.exit 0))
 (.seq
 (.block 1
 (.seq
 (.reg [mv 15 13,mv 4 15])
 (.seq
 (.note (.reg [rg 5 (.mov (.c (.sl [] .nl)))]) (.nil 5 3))
 (.seq
 (.seq
 (.reg [mv 16 0,rg 17 (.len (.t 16)),rg 18 (.mov (.c (.i .i64 0)))])
 (.lp 2 (.norm false [0,3,4,5,12,13,16,17,18]) l294_0 (.norm false [0,3,5,12,13])))
 (.reg [mv 31 3,mv 32 5,rg 33 (.bsl 1 [(.sl [] .nl)] 1 [(0,(.t 32))]),rg 34 (.app 1 (.t 31) (.t 33)),mv 3 34])))))
 (.reg [rg 35 (.bin .add (.t 13) (.c (.i .i64 1))),mv 13 35]))))
 (.norm false [0,3,12,13]))
def b294:AX:=
 (.seq
 (.reg [rg 2 (.mov (.c (.sl [] .nl)))])
 (.seq
 (.seq
 (.reg [mv 8 0,rg 9 (.call 291 [(.t 8)]),rg 10 (.un .not (.t 9))])
 (.cond (.t 10)
 (.seq
 (.reg [rg 2 (.mov (.c (.sl [] .nl)))])
 (.pre (.norm false [2]) .ret))
 .skip))
 (.seq
 (.note (.reg [rg 3 (.mov (.c (.sl [] .nl)))]) (.nil 3 1))
 (.seq
 (.seq
 (.reg [mv 11 0,rg 12 (.call 290 [(.t 11)]),rg 13 (.mov (.c (.i .i64 0)))])
 (.lp 0 (.norm false [0,3,12,13]) l294_1 (.norm false [3])))
 (.seq
 (.reg [mv 36 3,mv 2 36])
 (.pre (.norm false [2]) .ret))))))
def row290:AFx:=⟨1,10,[.t 2],b290,none,false⟩
def row291:AFx:=⟨1,17,[.t 2],b291,none,false⟩
def row293:AFx:=⟨2,27,[.t 4],b293,none,false⟩
def row294:AFx:=⟨1,37,[.t 2],b294,none,false⟩
class Zct (T:Tbl):Prop where
 h290:T 290=some row290
 h291:T 291=some row291
 h293:T 293=some row293
 h294:T 294=some row294
section
variable{T:Tbl}[Zct T]{d:Option Nat}{st:St}{xs:List AV}{ps:List Opd}{e:Env}{h:Heap}{ol:List Heap}
@[simp] theorem x290:Zc (orc T) T 290 xs d st=cP T 290 false xs d st:=zab Zct.h290
@[simp] theorem x291:Zc (orc T) T 291 xs d st=cP T 291 false xs d st:=zab Zct.h291
@[simp] theorem x293:Zc (orc T) T 293 xs d st=cP T 293 false xs d st:=zab Zct.h293
@[simp] theorem x294:Zc (orc T) T 294 xs d st=cP T 294 false xs d st:=zab Zct.h294
end
end Go.Ab