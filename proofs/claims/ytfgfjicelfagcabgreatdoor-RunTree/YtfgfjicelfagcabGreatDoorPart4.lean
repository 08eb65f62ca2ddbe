/-
  A calculus of values, boxes and code, and what functions of the program compute, proved in it.
  Conditions: none beyond those that the theorems state. (Part 4.)
-/
import Derived.Test.YtfgfjicelfagcabGreatDoorPart3

set_option linter.unusedSectionVars false
set_option linter.unusedVariables false
set_option linter.unusedSimpArgs false
set_option linter.unnecessarySimpa false

namespace Go.Ab
theorem zq1{P m R:List UInt32}{i:Nat}{c:UInt32}(hm:m.length=i):(P++(m++c::R))[P.length+i]? = some c:=by
 grind
theorem zk0{P m R:List UInt32}{i:Nat}{c:UInt32}(w:UInt32)(hm:m.length=i):(P++(m++c::R)).set (P.length+i) w=P++(m++w::R):=by
 rw[Ya0 (P.length+i) w (by omega),Yb6,Ya0 i w (by omega),hm,Ycf,Ydj]
theorem zz7{P m R:List UInt32}{i:Nat}{c d:UInt32}(w:UInt32)(hm:m.length=i):(P++(m++c::d::R)).set (P.length+i+1) w=P++(m++c::w::R):=by
 rw[Yaq,Ya0 (P.length+(i+1)) w (by omega),Yb6,Ya0 (i+1) w (by omega),hm,show i+1-i=1 by omega]
 rfl
theorem zz8{P m R:List UInt32}{i:Nat}{c d:UInt32}(hm:m.length=i):(P++(m++c::d::R))[P.length+i+1]? = some d:=by
 grind
theorem zgs(n:Nat):w32 (n%4294967296)=w32 n:=z1e (by rw[zdn,Nat.mod_mod])
section
variable{T:Tbl}[Zo T][Zz T]
def Zlg(P a:List UInt32)(n:Nat)(y:Nat×Nat×List UInt32):St:=
 ⟨[(5,.i .i64 P.length),(6,.i .i64 n),(7,.bs (.loc 23) 1 1 0 (P.length+a.length+1)),(24,.sl (Zb a) .an),(25,.i .i64 a.length),(26,.i .i64 y.1)],[(.loc 23,⟨1,.own,1,Zb (P++(y.2.2++w32 y.2.1::List.replicate (a.length-y.1) 0))⟩)],3⟩
end
section
variable{T:Tbl}
theorem z34(P a:List UInt32)(n:Nat)(hn:n<32)(hl:P.length+a.length≤1000000):∀y:Nat×Nat×List UInt32,
  (y.1≤a.length∧y.2.1<2^n∧y.2.2.length=y.1∧val y.2.2+4294967296^y.1*y.2.1=2^n*val (a.take y.1)) →
  ∃r,(∃(c:Nat) (m:List UInt32),r=(Ex.n,(⟨[(7,.bs (.loc 23) 1 1 0 (P.length+a.length+1))],[(.loc 23,⟨1,.own,1,Zb (P++(m++[w32 c]))⟩)],3⟩:St)) ∧
   m.length=a.length∧c<2^n∧val m+4294967296^a.length*c=2^n*val a)∧Zp T 0 0 (.norm false [7]) l92_0 (Zlg P a n y)=some r:=by
 refine zaz _ _ (fun y=>a.length-y.1) _ ?_
 rintro⟨i,c,m⟩ ⟨hi,hc,hm,hv⟩
 simp only at hi hc hm hv;by_cases h0:i<a.length
 ·left;have ha:a[i]? = some (a[i]'h0):=Ya h0;obtain⟨u1,u2,u3,u4,u5⟩:=z4b (zam (a[i]'h0)) hn hc;have hx:=zam (a[i]'h0);have hrep:List.replicate (a.length-i) (0:UInt32)=0::List.replicate (a.length-(i+1)) 0:=by
   rw[show a.length-i=a.length-(i+1)+1 by omega,Ycl]
  have hw:IntKind.wrap .i64 ((i:Int)+1)=((i+1:Nat):Int):=zac _ (by omega);have hw2:IntKind.wrap .i64 ((P.length:Int)+i)=((P.length+i:Nat):Int):=zac _ (by omega);have hw3:IntKind.wrap .i64 ((P.length:Int)+i+1)=((P.length+i+1:Nat):Int):=zac _ (by omega);have hg:=zq1 (P:=P) (c:=w32 c) (R:=0::List.replicate (a.length-(i+1)) 0) hm;have hg3:=zz8 (P:=P) (c:=w32 (c+(a[i]'h0).toNat*2^n%4294967296)) (d:=0) (R:=List.replicate (a.length-(i+1)) 0) hm;have hs1:=zk0 (P:=P) (c:=w32 c) (R:=0::List.replicate (a.length-(i+1)) 0) (w32 (c+(a[i]'h0).toNat*2^n%4294967296)) hm;have hs2:=zz7 (P:=P) (c:=w32 (c+(a[i]'h0).toNat*2^n%4294967296)) (d:=0) (R:=List.replicate (a.length-(i+1)) 0) (w32 ((a[i]'h0).toNat*2^n/4294967296)) hm;have hmin:min n 64=n:=by omega
  have hlt1:(P.length:Int)+i<(P.length:Int)+a.length+1:=by omega
  have hlt2:(P.length:Int)+i<(P.length:Int)+a.length:=by omega
  have m1:(a[i]'h0).toNat%18446744073709551616=(a[i]'h0).toNat:=Yx (by omega);have m2:=Yx u1;have m3:=Yx u3;have hcc:c<4294967296:=by omega
  have m4:(a[i]'h0).toNat*2^n/4294967296%4294967296=(a[i]'h0).toNat*2^n/4294967296:=Yx (by omega);have m5:(a[i]'h0).toNat*2^n/4294967296<4294967296:=by omega
  refine⟨(i+1,(a[i]'h0).toNat*2^n/4294967296,m++[w32 (c+(a[i]'h0).toNat*2^n%4294967296)]),⟨h0,u4,by grind,?_⟩,by omega,?_⟩
  ·grind[zak,zaf,zas,zcb,zag,Nat.div_add_mod]
  ·simp -implicitDefEqProofs[l92_0,Zlg,h0,hrep,hw,hw2,hw3,hg,hg3,hs1,hs2,zbn _ _ _ u3,zbn _ _ _ m5,hmin,hlt1,hlt2,m1,m2,m3,m4,u2,zag hcc]
 ·right;have:i=a.length:=by omega
  subst this;rw[Yb (Yd a.length)]at hv;refine⟨_,⟨c,m,rfl,hm,hc,hv⟩,?_,?_⟩<;>simp -implicitDefEqProofs[l92_0,Zlg]
end
section
variable{T:Tbl}[Zo T][Zz T]
def Zk0(a:List UInt32)(W n:Nat)(y:Nat×List UInt32):St:=
 ⟨[(0,.sl (Zb a) .an),(5,.i .i64 W),(6,.i .i64 n),(7,.bs (.loc 24) 1 1 0 (a.length-W)),(26,.i .i64 (a.length-W:Nat)),(27,.i .i64 y.1)],[(.loc 24,⟨1,.own,1,Zb (y.2++List.replicate (a.length-W-y.1) 0)⟩)],3⟩
end
section
variable{T:Tbl}
theorem zxc(a:List UInt32)(W n:Nat)(hn:n<32)(hW:W≤a.length)(hl:a.length≤1000000):∀y:Nat×List UInt32,
  (y.1≤a.length-W∧y.2.length=y.1∧val y.2+4294967296^y.1*(val (a.drop (W+y.1))/2^n)=val (a.drop W)/2^n) →
  ∃r,(∃m:List UInt32,r=(Ex.n,(⟨[(7,.bs (.loc 24) 1 1 0 (a.length-W))],[(.loc 24,⟨1,.own,1,Zb m⟩)],3⟩:St)) ∧
   m.length=a.length-W∧val m=val (a.drop W)/2^n)∧Zp T 0 0 (.norm false [7]) l94_0 (Zk0 a W n y)=some r:=by
 refine zaz _ _ (fun y=>a.length-W-y.1) _ ?_
 rintro⟨i,m⟩ ⟨hi,hm,hv⟩
 by_cases h0:i<a.length-W
 ·left;have hWi:W+i<a.length:=by omega
  have ha:a[W+i]? = some (a[W+i]'hWi):=Ya hWi;have hx:=zam (a[W+i]'hWi);have hd:=Ym hWi;have hrep:List.replicate (a.length-W-i) (0:UInt32)=0::List.replicate (a.length-W-(i+1)) 0:=by
   rw[show a.length-W-i=a.length-W-(i+1)+1 by omega,Ycl]
  have hw:IntKind.wrap .i64 ((i:Int)+1)=((i+1:Nat):Int):=zac _ (by omega);have hw2:IntKind.wrap .i64 ((W:Int)+i)=((W+i:Nat):Int):=zac _ (by omega);have hw3:IntKind.wrap .i64 ((W:Int)+i+1)=((W+i+1:Nat):Int):=zac _ (by omega);have hg:=zq1 (P:=[]) (c:=0) (R:=List.replicate (a.length-W-(i+1)) 0) hm;have hmin:min n 64=n:=by omega
  have hlt1:(W:Int)+i<(a.length:Int):=by omega
  have hlt3:((W:Int)+i).toNat=W+i:=by omega
  have m1:(a[W+i]'hWi).toNat%18446744073709551616=(a[W+i]'hWi).toNat:=Yx (by omega);have fin:∀y R:Nat,val (a.drop (W+i+1))=y+4294967296*R→val (m++[w32 (((a[W+i]'hWi).toNat+y*4294967296)/2^n%4294967296)])+4294967296^(i+1)*(val (a.drop (W+(i+1)))/2^n)=val (a.drop W)/2^n:=by
   intro y R hR;have hmod:((a[W+i]'hWi).toNat+y*4294967296)/2^n%4294967296<4294967296:=Ybf _ (by decide);have hdw:=zxg (x:=(a[W+i]'hWi).toNat) (y:=y) (R:=R) hn hx;rw[hd,zas,hR,hdw,←hR]at hv
   grind[zak,zas,zcb,zag]
  by_cases h1:W+i+1<a.length
  ·have hd1:=Ym h1;have hy:=zam (a[W+i+1]'h1);have m2:(a[W+i+1]'h1).toNat%18446744073709551616=(a[W+i+1]'h1).toNat:=Yx (by omega);have m3:(a[W+i+1]'h1).toNat*4294967296%18446744073709551616=(a[W+i+1]'h1).toNat*4294967296:=Yx (by omega);have hor:(a[W+i]'hWi).toNat ||| (a[W+i+1]'h1).toNat*4294967296=(a[W+i]'hWi).toNat+(a[W+i+1]'h1).toNat*4294967296:=by
    have:=z1f (a:=(a[W+i]'hWi).toNat) (b:=(a[W+i+1]'h1).toNat) (n:=32) (by simp)
    grind
   have m4:((a[W+i]'hWi).toNat+(a[W+i+1]'h1).toNat*4294967296)%18446744073709551616=(a[W+i]'hWi).toNat+(a[W+i+1]'h1).toNat*4294967296:=Yx (by omega);have hs1:=zk0 (P:=[]) (c:=0) (R:=List.replicate (a.length-W-(i+1)) 0) (w32 (((a[W+i]'hWi).toNat+(a[W+i+1]'h1).toNat*4294967296)/2^n%4294967296)) hm;have hlt2:(W:Int)+i+1<(a.length:Int):=by omega
   have hlt4:((W:Int)+i+1).toNat=W+i+1:=by omega
   refine⟨(i+1,m++[w32 (((a[W+i]'hWi).toNat+(a[W+i+1]'h1).toNat*4294967296)/2^n%4294967296)]),⟨h0,by grind,fin _ (val (a.drop (W+i+1+1))) (by rw[hd1,zas])⟩,by omega,?_⟩;simp at hg;simp[zgs]at hs1;simp -implicitDefEqProofs[l94_0,Zk0,h0,ha,hrep,hw,hw2,hw3,hg,hs1,zgs,hmin,hlt1,hlt2,hlt3,hlt4,m1,m2,m3,m4,hor,h1]
  ·have hs1:=zk0 (P:=[]) (c:=0) (R:=List.replicate (a.length-W-(i+1)) 0) (w32 ((a[W+i]'hWi).toNat/2^n%4294967296)) hm;have hlt2:¬ (W:Int)+i+1<(a.length:Int):=by omega
   have f0:=fin 0 0 (by rw[Ya4 (by omega),zcb,Ya9]);refine⟨(i+1,m++[w32 ((a[W+i]'hWi).toNat/2^n%4294967296)]),⟨h0,by grind,f0⟩,by omega,?_⟩;simp at hg;simp[zgs]at hs1;simp -implicitDefEqProofs[l94_0,Zk0,h0,ha,hrep,hw,hw2,hw3,hg,hs1,zgs,hmin,hlt1,hlt2,hlt3,m1]
 ·right;have:i=a.length-W:=by omega
  subst this;rw[show W+(a.length-W)=a.length by omega,Y2,zcb,Nat.zero_div,Ya9,Yab]at hv;refine⟨_,⟨m++List.replicate (a.length-W-(a.length-W)) 0,rfl,by grind,by grind⟩,?_,?_⟩<;>simp -implicitDefEqProofs[l94_0,Zk0]
end
section
variable{T:Tbl}[Zo T][Zz T]
theorem zxd(a:List UInt32)(n:Nat)(h:n/32≤a.length):val (a.drop (n/32))/2^(n%32)=val a/2^n:=by
 rw[←z4a a _ h,Yb7,z39,←Yce,show 32*(n/32)+n%32=n by omega]
theorem zxe(a:List UInt32)(n:Nat)(hn:n≤100000000)(hl:a.length≤100000):Za T 94 [.sl (Zb a) .an,.i .i64 n]=some (.sl (Zb (ofN (val a/2^n))) .an):=by
 have hn2:¬ (n:Int)<0:=by omega
 have hq:(n:Int).tdiv 32=(n:Int)/32:=Ydg (by omega);have hm2:(n:Int).tmod 32=(n:Int)%32:=Ydh (by omega);have w1:IntKind.wrap .i64 ((n:Int)/32)=(n:Int)/32:=zac (n/32) (by omega);rcases Yt (n/32) a.length with h0 | h0
 ·obtain⟨_,⟨m,rfl,hm,hv⟩,hr⟩:=zxc (T:=T) a (n/32) (n%32) (Ybf _ (by decide)) (by omega) (by omega) (0,[]) ⟨Y1 _,rfl,by rw[zcb,Yd9,Ydd,Yan,Yab]⟩;rw[zxd a n (by omega)]at hv;have hnm:=zbd (T:=T) m (by omega);rw[hv]at hnm;unfold Zk0 at hr;have hsub:((a.length-n/32:Nat):Int)=(a.length:Int)-(n:Int)/32:=by omega
  simp[hsub]at hr;have p0:¬ (a.length:Int)≤(n:Int)/32:=by omega
  have w2:IntKind.wrap .i64 ((a.length:Int)-(n:Int)/32)=(a.length:Int)-(n:Int)/32:=zac _ (by omega);have p1:(n:Int)/32≤(a.length:Int):=by omega
  have p2:(a.length:Int)-(n:Int)/32≤4294967296:=by omega
  have p3:((a.length:Int)-(n:Int)/32).toNat=a.length-n/32:=by omega
  have htk:List.take (a.length-n/32) m=m:=Yb (by omega);have p5:a.length≤a.length-n/32+n/32:=by omega
  rw[zab Zz.h94 rfl,b94];simp -implicitDefEqProofs[hn2,hq,hm2,w1,w2,p0,p5,p1,p2,p3,hsub,hr,hnm,htk,hm]
 ·have hz:val a/2^n=0:=by
   refine Ybw (Yl (za2 a) ?_);rw[z39];exact Y7 (by decide) (by omega)
  have p0:(a.length:Int)≤(n:Int)/32:=by omega
  rw[hz,zk1,zab Zz.h94 rfl,b94];simp -implicitDefEqProofs[hn2,hq,hm2,w1,p0]
end
def l90_0:AX:=
 (.note
 (.seq
 (.seq
 (.reg [mv 16 7,rg 17 (.bin .geq (.t 16) (.c (.i .i64 0)))])
 (.cond (.t 17)
 .skip
 (.exit 0)))
 (.seq
 (.block 1
 (.reg [mv 21 4,mv 22 7,mv 23 5,mv 24 0,mv 25 7,rg 26 (.iad 1 (.t 24) (.t 25)),rg 27 (.load none (.t 26)),mv 28 1,rg 29 (.call 118 [(.t 23),(.t 27),(.t 28)]),mv 20 29,rg 30 (.ext (.t 20) 0),rg 31 (.ext (.t 20) 1),rg 32 (.ext (.t 20) 2),rg 33 (.iad 1 (.t 21) (.t 22)),so (.store 1 (.t 33) (.t 30)),mv 5 31]))
 (.reg [mv 18 7,rg 19 (.bin .sub (.t 18) (.c (.i .i64 1))),mv 7 19])))
 (.norm false [0,1,4,5,7]))
def b90:AX:=
 (.seq
 (.reg [rg 4 (.mov (.c (.sl [] .nl))),rg 5 (.mov (.c (u32 0))),rg 6 (.mov (.c (.b false)))])
 (.seq
 (.seq
 (.reg [mv 8 1,rg 9 (.bin .eql (.t 8) (.c (u32 0)))])
 (.cond (.t 9)
 (.seq
 (.reg [rg 4 (.mov (.c (.sl [] .nl))),rg 5 (.mov (.c (u32 0))),rg 6 (.mov (.c (.b false)))])
 (.pre (.norm false [4,5,6]) .ret))
 .skip))
 (.seq
 (.reg [mv 10 0,rg 11 (.len (.t 10)),rg 12 (.mks 1 [(u32 0)] (.t 11) (.t 11)),mv 4 12])
 (.seq
 (.seq
 (.reg [mv 13 0,rg 14 (.len (.t 13)),rg 15 (.bin .sub (.t 14) (.c (.i .i64 1))),mv 7 15])
 (.lp 0 (.norm false [0,1,4,5,7]) l90_0 (.norm false [4,5])))
 (.seq
 (.reg [mv 34 4,rg 35 (.call 71 [(.t 34)]),mv 36 5,mv 4 35,mv 5 36,rg 6 (.mov (.c (.b true)))])
 (.pre (.norm false [4,5,6]) .ret))))))
def l119_0:AX:=
 (.note
 (.block 1
 (.seq
 (.reg [mv 46 11,mv 47 4,rg 48 (.call 117 [(.t 46),(.t 47),(.c (u32 0)),(.c (u32 0))]),mv 45 48,rg 49 (.ext (.t 45) 0),rg 50 (.ext (.t 45) 1),mv 16 49,mv 17 50])
 (.seq
 (.seq
 (.reg [mv 51 16,mv 52 12,rg 53 (.bin .lss (.t 51) (.t 52)),mv 54 53,gd 55 54 false (.mov (.t 16)),gd 56 54 false (.mov (.t 12)),gd 57 54 false (.bin .eql (.t 55) (.t 56)),gd 58 54 false (.mov (.t 57)),gd 59 58 true (.mov (.t 17)),gd 60 58 true (.mov (.t 2)),gd 61 58 true (.bin .leq (.t 59) (.t 60)),gd 62 54 false (.pick (.t 58) (.t 61) (.c (.b false))),rg 63 (.pick (.t 54) (.c (.b true)) (.t 62))])
 (.cond (.t 63)
 (.exit 0)
 .skip))
 (.seq
 (.reg [mv 64 11,rg 65 (.bin .sub (.t 64) (.c (u32 1))),mv 11 65])
 (.seq
 (.reg [mv 67 12,mv 68 3,rg 69 (.call 115 [(.t 67),(.t 68),(.c (u32 0))]),mv 66 69,rg 70 (.ext (.t 66) 0),rg 71 (.ext (.t 66) 1),mv 18 70,mv 19 71])
 (.seq
 (.seq
 (.reg [mv 72 19,rg 73 (.bin .gtr (.t 72) (.c (u32 0)))])
 (.cond (.t 73)
 (.exit 0)
 .skip))
 (.reg [mv 74 18,mv 12 74])))))))
 (.norm false [2,3,4,11,12]))
def b119:AX:=
 (.seq
 (.reg [rg 10 (.mov (.c (u32 0)))])
 (.scope
 (.seq
 (.reg [mv 21 0,mv 22 1,mv 23 3,rg 24 (.call 118 [(.t 21),(.t 22),(.t 23)]),mv 20 24,rg 25 (.ext (.t 20) 0),rg 26 (.ext (.t 20) 1),rg 27 (.ext (.t 20) 2),mv 11 25,mv 12 26,mv 13 27])
 (.seq
 (.seq
 (.reg [mv 28 13,rg 29 (.un .not (.t 28))])
 (.cond (.t 29)
 (.seq
 (.reg [rg 11 (.mov (.c (u32 4294967295)))])
 (.seq
 (.reg [mv 31 1,mv 32 3,rg 33 (.call 115 [(.t 31),(.t 32),(.c (u32 0))]),mv 30 33,rg 34 (.ext (.t 30) 0),rg 35 (.ext (.t 30) 1),mv 14 34,mv 15 35])
 (.seq
 (.seq
 (.reg [mv 36 0,mv 37 3,rg 38 (.bin .gtr (.t 36) (.t 37)),mv 39 38,gd 40 39 false (.mov (.t 15)),gd 41 39 false (.bin .gtr (.t 40) (.c (u32 0))),rg 42 (.pick (.t 39) (.c (.b true)) (.t 41))])
 (.cond (.t 42)
 (.seq
 (.reg [mv 43 11,mv 10 43])
 (.pre (.norm false [10]) .ret))
 .skip))
 (.reg [mv 44 14,mv 12 44]))))
 .skip))
 (.seq
 (.label 0)
 (.seq
 (.lp 0 (.norm false [2,3,4,11,12]) l119_0 (.norm false [11]))
 (.seq
 (.reg [mv 75 11,mv 10 75])
 (.pre (.norm false [10]) .ret))))))))
def l120_0:AX:=
 (.note
 (.seq
 (.reg [rg 18 (.bin .lss (.t 17) (.t 16))])
 (.seq
 (.cond (.t 18)
 .skip
 (.exit 0))
 (.seq
 (.block 1
 (.seq
 (.reg [mv 19 17,rg 20 (.iad 1 (.t 15) (.t 17)),rg 21 (.load none (.t 20)),mv 11 19,mv 12 21])
 (.seq
 (.reg [rg 13 (.mov (.c (u32 0)))])
 (.seq
 (.reg [mv 23 3,mv 24 12,mv 25 9,rg 26 (.call 117 [(.t 23),(.t 24),(.t 25),(.c (u32 0))]),mv 22 26,rg 27 (.ext (.t 22) 0),rg 28 (.ext (.t 22) 1),mv 9 27,mv 13 28])
 (.reg [mv 30 0,mv 31 1,mv 32 11,rg 33 (.bin .add (.t 31) (.t 32)),mv 34 0,mv 35 1,mv 36 11,rg 37 (.bin .add (.t 35) (.t 36)),rg 38 (.iad 1 (.t 34) (.t 37)),rg 39 (.load none (.t 38)),mv 40 13,mv 41 10,rg 42 (.call 116 [(.t 39),(.t 40),(.t 41)]),mv 29 42,rg 43 (.ext (.t 29) 0),rg 44 (.ext (.t 29) 1),rg 45 (.iad 1 (.t 30) (.t 33)),so (.store 1 (.t 45) (.t 43)),mv 10 44])))))
 (.reg [rg 46 (.bin .add (.t 17) (.c (.i .i64 1))),mv 17 46]))))
 (.norm false [0,1,2,3,9,10,15,16,17]))
def b120:AX:=
 (.seq
 (.reg [rg 8 (.mov (.c (.b false)))])
 (.seq
 (.reg [rg 9 (.mov (.c (u32 0))),rg 10 (.mov (.c (u32 0)))])
 (.seq
 (.seq
 (.reg [mv 15 2,rg 16 (.len (.t 15)),rg 17 (.mov (.c (.i .i64 0)))])
 (.lp 0 (.norm false [0,1,2,3,9,10,15,16,17]) l120_0 (.norm false [0,1,2,9,10])))
 (.seq
 (.reg [mv 47 1,mv 48 2,rg 49 (.len (.t 48)),rg 50 (.bin .add (.t 47) (.t 49)),mv 14 50])
 (.seq
 (.reg [mv 52 0,mv 53 14,mv 54 0,mv 55 14,rg 56 (.iad 1 (.t 54) (.t 55)),rg 57 (.load none (.t 56)),mv 58 9,mv 59 10,rg 60 (.call 116 [(.t 57),(.t 58),(.t 59)]),mv 51 60,rg 61 (.ext (.t 51) 0),rg 62 (.ext (.t 51) 1),rg 63 (.iad 1 (.t 52) (.t 53)),so (.store 1 (.t 63) (.t 61)),mv 10 62])
 (.seq
 (.reg [mv 64 10,rg 65 (.bin .gtr (.t 64) (.c (u32 0))),mv 8 65])
 (.pre (.norm false [8]) .ret)))))))
def l121_0:AX:=
 (.note
 (.seq
 (.reg [rg 12 (.bin .lss (.t 11) (.t 10))])
 (.seq
 (.cond (.t 12)
 .skip
 (.exit 0))
 (.seq
 (.block 1
 (.seq
 (.reg [mv 13 11,rg 14 (.iad 1 (.t 9) (.t 11)),rg 15 (.load none (.t 14)),mv 7 13,mv 8 15])
 (.reg [mv 17 0,mv 18 1,mv 19 7,rg 20 (.bin .add (.t 18) (.t 19)),mv 21 0,mv 22 1,mv 23 7,rg 24 (.bin .add (.t 22) (.t 23)),rg 25 (.iad 1 (.t 21) (.t 24)),rg 26 (.load none (.t 25)),mv 27 8,mv 28 6,rg 29 (.call 115 [(.t 26),(.t 27),(.t 28)]),mv 16 29,rg 30 (.ext (.t 16) 0),rg 31 (.ext (.t 16) 1),rg 32 (.iad 1 (.t 17) (.t 20)),so (.store 1 (.t 32) (.t 30)),mv 6 31])))
 (.reg [rg 33 (.bin .add (.t 11) (.c (.i .i64 1))),mv 11 33]))))
 (.norm false [0,1,2,6,9,10,11]))
def b121:AX:=
 (.seq
 (.reg [rg 6 (.mov (.c (u32 0)))])
 (.seq
 (.seq
 (.reg [mv 9 2,rg 10 (.len (.t 9)),rg 11 (.mov (.c (.i .i64 0)))])
 (.lp 0 (.norm false [0,1,2,6,9,10,11]) l121_0 (.norm false [0,1,2,6])))
 (.reg [mv 34 0,mv 35 1,mv 36 2,rg 37 (.len (.t 36)),rg 38 (.bin .add (.t 35) (.t 37)),rg 39 (.iad 1 (.t 34) (.t 38)),rg 40 (.load none (.t 39)),mv 41 6,rg 42 (.bin .add (.t 40) (.t 41)),rg 43 (.iad 1 (.t 34) (.t 38)),so (.store 1 (.t 43) (.t 42))])))
def l93_0:AX:=
 (.note
 (.seq
 (.seq
 (.reg [mv 19 7,rg 20 (.bin .geq (.t 19) (.c (.i .i64 0)))])
 (.cond (.t 20)
 .skip
 (.exit 0)))
 (.seq
 (.block 1
 (.seq
 (.drawT [mv 23 0,mv 24 7,mv 25 5,rg 26 (.bin .add (.t 24) (.t 25)),rg 27 (.iad 1 (.t 23) (.t 26)),rg 28 (.load none (.t 27)),mv 29 0,mv 30 7,mv 31 5,rg 32 (.bin .add (.t 30) (.t 31)),rg 33 (.bin .sub (.t 32) (.c (.i .i64 1))),rg 34 (.iad 1 (.t 29) (.t 33)),rg 35 (.load none (.t 34)),mv 36 0,mv 37 7,mv 38 5,rg 39 (.bin .add (.t 37) (.t 38)),rg 40 (.bin .sub (.t 39) (.c (.i .i64 2))),rg 41 (.iad 1 (.t 36) (.t 40)),rg 42 (.load none (.t 41)),mv 43 1,mv 44 5,rg 45 (.bin .sub (.t 44) (.c (.i .i64 1))),rg 46 (.iad 1 (.t 43) (.t 45)),rg 47 (.load none (.t 46)),mv 48 1,mv 49 5,rg 50 (.bin .sub (.t 49) (.c (.i .i64 2))),rg 51 (.iad 1 (.t 48) (.t 50)),rg 52 (.load none (.t 51))]
 [rg 53 (.call 119 [(.t 28),(.t 35),(.t 42),(.t 47),(.t 52)]),mv 8 53])
 (.seq
 (.seq
 (.reg [mv 54 0,mv 55 7,mv 56 1,mv 57 8,rg 58 (.call 120 [(.t 54),(.t 55),(.t 56),(.t 57)])])
 (.cond (.t 58)
 (.seq
 (.reg [mv 59 8,rg 60 (.bin .sub (.t 59) (.c (u32 1))),mv 8 60])
 (.reg [mv 61 0,mv 62 7,mv 63 1,rg 64 (.call 121 [(.t 61),(.t 62),(.t 63)])]))
 .skip))
 (.reg [mv 65 6,mv 66 7,mv 67 8,rg 68 (.iad 1 (.t 65) (.t 66)),so (.store 1 (.t 68) (.t 67))]))))
 (.reg [mv 21 7,rg 22 (.bin .sub (.t 21) (.c (.i .i64 1))),mv 7 22])))
 (.norm false [0,1,5,6,7]))
def b93:AX:=
 (.seq
 (.reg [rg 4 (.mov (.c (.sl [] .nl)))])
 (.seq
 (.reg [mv 9 1,rg 10 (.len (.t 9)),mv 5 10])
 (.seq
 (.reg [mv 11 0,rg 12 (.len (.t 11)),mv 13 5,rg 14 (.bin .sub (.t 12) (.t 13)),rg 15 (.mks 1 [(u32 0)] (.t 14) (.t 14)),mv 6 15])
 (.seq
 (.seq
 (.reg [mv 16 6,rg 17 (.len (.t 16)),rg 18 (.bin .sub (.t 17) (.c (.i .i64 1))),mv 7 18])
 (.lp 0 (.norm false [0,1,5,6,7]) l93_0 (.norm false [6])))
 (.seq
 (.reg [mv 69 6,mv 4 69])
 (.pre (.norm false [4]) .ret))))))
def row90:AFx:=⟨2,37,[.t 4,.t 5,.t 6],b90,none,false⟩
def row119:AFx:=⟨5,76,[.t 10],b119,none,false⟩
def row120:AFx:=⟨4,66,[.t 8],b120,(some [true,false,false,false]),false⟩
def row121:AFx:=⟨3,44,[],b121,(some [true,false,false]),false⟩
def row93:AFx:=⟨2,70,[.t 4],b93,(some [true,false]),false⟩
class Zq (T:Tbl):Prop where
 h90:T 90=some row90
 h119:T 119=some row119
 h120:T 120=some row120
 h121:T 121=some row121
 h93:T 93=some row93
section
variable{T:Tbl}[Zq T]{d:Option Nat}{st:St}
@[simp] theorem x90(xs:List AV):Zc (orc T) T 90 xs d st=cP T 90 false xs d st:=zaa Zq.h90
@[simp] theorem x119(xs:List AV):Zc (orc T) T 119 xs d st=cP T 119 false xs d st:=zaa Zq.h119
@[simp] theorem x120(xs:List AV):Zc (orc T) T 120 xs d st=bL (Zfj st.heap [true,false,false,false] xs) fun ys=>Ze2 ys (Zk (Za1 [true,false,false,false] xs) st.heap) (Zc5 (Zk (Za1 [true,false,false,false] xs) st.heap) 40 (Zcs [true,false,false,false] xs) []) T 120 false d st:=zao Zq.h120
@[simp] theorem x121(xs:List AV):Zc (orc T) T 121 xs d st=bL (Zfj st.heap [true,false,false] xs) fun ys=>Ze2 ys (Zk (Za1 [true,false,false] xs) st.heap) (Zc5 (Zk (Za1 [true,false,false] xs) st.heap) 40 (Zcs [true,false,false] xs) []) T 121 false d st:=zao Zq.h121
@[simp] theorem x93(xs:List AV):Zc (orc T) T 93 xs d st=bL (Zfj st.heap [true,false] xs) fun ys=>Ze2 ys (Zk (Za1 [true,false] xs) st.heap) (Zc5 (Zk (Za1 [true,false] xs) st.heap) 40 (Zcs [true,false] xs) []) T 93 false d st:=zao Zq.h93
end
theorem zkv{m:List UInt32}{j:Nat}(w:UInt32):(List.replicate (j+1) 0++m).set j w=List.replicate j 0++w::m:=by
 rw[List.set_append_left j w (by simp),List.replicate_succ',Ya0 j w (by simp)];simp
theorem zkw{m:List UInt32}{j:Nat}:(List.replicate (j+1) (0:UInt32)++m)[j]? = some 0:=by
 rw[Yo (by simp),Ydr,if_pos (by omega)]
section
variable{T:Tbl}[Zo T][Zz T][Zy T][Zq T]
def Zlb(a:List UInt32)(x:Nat)(y:Nat×Nat×List UInt32):St:=
 ⟨[(0,.sl (Zb a) .an),(1,u32 x),(4,.bs (.loc 12) 1 1 0 a.length),(5,u32 y.2.1),(7,.i .i64 ((y.1:Int)-1))],[(.loc 12,⟨1,.own,1,Zb (List.replicate y.1 0++y.2.2)⟩)],3⟩
end
section
variable{T:Tbl}[Zo T]
theorem z3q(a:List UInt32)(x:Nat)(hx:x<4294967296)(hl:a.length≤1000000):∀y:Nat×Nat×List UInt32,
  (y.1≤a.length∧y.2.1<x∧y.2.2.length=a.length-y.1∧val (a.drop y.1)=x*val y.2.2+y.2.1) →
  ∃r,(∃(c:Nat) (m:List UInt32),r=(Ex.n,(⟨[(4,.bs (.loc 12) 1 1 0 a.length),(5,u32 c)],[(.loc 12,⟨1,.own,1,Zb m⟩)],3⟩:St)) ∧
   m.length=a.length∧c<x∧val a=x*val m+c)∧Zp T 0 0 (.norm false [4,5]) l90_0 (Zlb a x y)=some r:=by
 refine zaz _ _ (fun y=>y.1) _ ?_
 rintro⟨k,c,m⟩ ⟨hk,hc,hm,hv⟩
 simp only at hk hc hm hv;cases k with
 | zero=>
  right;refine⟨_,⟨c,m,rfl,by omega,hc,hv⟩,?_,?_⟩<;>simp -implicitDefEqProofs[l90_0,Zlb]
 | succ j=>
  left;have hja:j<a.length:=by omega
  have hy:=zam (a[j]'hja);have hd:=Ym hja;have hw:IntKind.wrap .i64 ((j:Int)-1)=(j:Int)-1:=zac _ (by omega);have hs:=zkv (m:=m) (j:=j) (w32 ((c*4294967296+(a[j]'hja).toNat)/x));have hq:(c*4294967296+(a[j]'hja).toNat)/x<4294967296:=by
   refine Ybc ?_;omega
  have hdv:=zm3 (T:=T) c (a[j]'hja).toNat x hc hy hx;refine⟨(j,(c*4294967296+(a[j]'hja).toNat)%x,w32 ((c*4294967296+(a[j]'hja).toNat)/x)::m),⟨by omega,Ybf _ (by omega),by grind,?_⟩,Yv j,?_⟩
  ·grind[zas,zag,Nat.div_add_mod]
  ·simp -implicitDefEqProofs[l90_0,Zlb,hja,hw,hs,zkw,hdv,zbn _ _ _ hq]
end
section
variable{T:Tbl}[Zo T][Zq T]
theorem zm7(a:List UInt32)(x:Nat)(hx:x<4294967296)(h0:0<x)(hl:a.length≤1000000) :
  Za T 90 [.sl (Zb a) .an,u32 x]=some (.tup [.sl (Zb (ofN (val a/x))) .an,u32 (val a%x),.b true]):=by
 obtain⟨_,⟨c,m,rfl,hm,hc,hv⟩,hr⟩:=z3q (T:=T) a x hx hl (a.length,0,[]) ⟨Yd _,h0,by simp,by rw[Y2,zcb,Ya9,Yan]⟩;have e1:val a/x=val m:=by grind[Nat.mul_add_div,Nat.div_eq_of_lt]
 have e2:val a%x=c:=by rw[hv,Nat.mul_add_mod,Yx hc]
 have hnm:=zbd (T:=T) m (by omega);unfold Zlb at hr;simp at hr;have hx0:x≠0:=by omega
 have w1:IntKind.wrap .i64 ((a.length:Int)-1)=(a.length:Int)-1:=zac _ (by omega);have p1:(a.length:Int)≤4294967296:=by omega
 have htk:List.take a.length m=m:=Yb (by omega);rw[e1,e2,zab Zq.h90 rfl,b90];simp -implicitDefEqProofs[hr,hx0,w1,p1,htk,hm,hnm]
end
section
variable{T:Tbl}[Zo T][Zz T][Zy T][Zq T]
theorem zm8{p M w X s t y v D D':Nat}(h:M+X*t=s+p*D)(e:w+X*y+D=v+4294967296*D'):(M+p*w)+X*(t+p*y)=(s+p*v)+p*4294967296*D':=by
 grind
def Zlc(P S b:List UInt32)(x:Nat)(y:Nat×(Nat×Nat)×List UInt32):St:=
 ⟨[(0,.bs (.bor 0) 0 1 0 (P.length+S.length)),(1,.i .i64 P.length),(2,.sl (Zb b) .an),(3,u32 x),(9,u32 y.2.1.1),(10,u32 y.2.1.2),(15,.sl (Zb b) .an),(16,.i .i64 b.length),(17,.i .i64 y.1)],
  [(.bor 0,⟨0,.own,1,Zb (P++(y.2.2++S.drop y.1))⟩)],4⟩
end
section
variable{T:Tbl}[Zo T]
theorem z3r(P S b:List UInt32)(x:Nat)(hx:x<4294967296)(hS:b.length<S.length)(hl:P.length+S.length≤1000000):∀y:Nat×(Nat×Nat)×List UInt32,
  (y.1≤b.length∧y.2.1.1<4294967296∧y.2.1.2≤1∧y.2.2.length=y.1∧val y.2.2+x*val (b.take y.1)=val (S.take y.1)+4294967296^y.1*(y.2.1.2+y.2.1.1)) →
  ∃r,(∃(C B:Nat) (m:List UInt32),r=(Ex.n,(⟨[(0,.bs (.bor 0) 0 1 0 (P.length+S.length)),(1,.i .i64 P.length),(2,.sl (Zb b) .an),(9,u32 C),(10,u32 B)],[(.bor 0,⟨0,.own,1,Zb (P++(m++S.drop b.length))⟩)],4⟩:St)) ∧
   C<4294967296∧B≤1∧m.length=b.length∧val m+x*val b=val (S.take b.length)+4294967296^b.length*(B+C))∧Zp T 1 0 (.norm false [0,1,2,9,10]) l120_0 (Zlc P S b x y)=some r:=by
 refine zaz _ _ (fun y=>b.length-y.1) _ ?_
 rintro⟨i,⟨C,B⟩,m⟩ ⟨hi,hC,hB,hm,hv⟩
 simp only at hi hC hB hm hv;by_cases h0:i<b.length
 ·left;have hb:b[i]? = some (b[i]'h0):=Ya h0;have hiS:i<S.length:=by omega
  have hs:S[i]? = some (S[i]'hiS):=Ya hiS;have hg:=zf7 (P:=P) hm hiS;have hw:IntKind.wrap .i64 ((i:Int)+1)=((i+1:Nat):Int):=zac _ (by omega);have hw2:IntKind.wrap .i64 ((P.length:Int)+i)=((P.length+i:Nat):Int):=zac _ (by omega);have hlt2:(P.length:Int)+i<(P.length:Int)+S.length:=by omega
  have hlb:=zam (b[i]'h0);have hls:=zam (S[i]'hiS);have hmul:=zjq hx hlb;have c1:=zh1 (T:=T) x (b[i]'h0).toNat C 0 hx hlb hC (by decide);rw[Yab]at c1;obtain⟨lo,hlo⟩:∃lo,lo=(x*(b[i]'h0).toNat+C)%4294967296:=⟨_,rfl⟩;obtain⟨C',hC'⟩:∃C',C'=(x*(b[i]'h0).toNat+C)/4294967296:=⟨_,rfl⟩;rw[←hlo,←hC']at c1;have c2:=zfl (T:=T) (S[i]'hiS).toNat lo B hls (by omega) (by omega);obtain⟨w,hwd⟩:∃w,w=((S[i]'hiS).toNat+8589934592-(lo+B))%4294967296:=⟨_,rfl⟩;obtain⟨B',hB'⟩:∃B',B'=2-((S[i]'hiS).toNat+8589934592-(lo+B))/4294967296:=⟨_,rfl⟩;rw[←hwd,←hB']at c2;have hwl:w<4294967296:=by omega
  have hset:=zf8 (P:=P) (w32 w) hm hiS;refine⟨(i+1,(C',B'),m++[w32 w]),⟨h0,by grind,by simp only;omega,by grind,?_⟩,by omega,?_⟩
  ·simp only;rw[zak,zaf hb,zaf hs,Yai,hm,zas,zcb,Ya9,Yab,zag hwl];exact zm8 hv (by omega)
  ·simp -implicitDefEqProofs[l120_0,Zlc,h0,hw,hw2,hlt2,hg,c1,c2,hset,zbn _ _ _ hwl]
 ·right;have:i=b.length:=by omega
  subst this;rw[Yb (Yd b.length)]at hv;refine⟨_,⟨C,B,m,rfl,hC,hB,hm,hv⟩,?_,?_⟩<;>simp -implicitDefEqProofs[l120_0,Zlc]
end
section
variable{T:Tbl}[Zo T][Zq T]
theorem zws(P S b:List UInt32)(x:Nat)(hx:x<4294967296)(hS:b.length<S.length)(hl:P.length+S.length≤1000000) :
  ∃(B:Nat) (m:List UInt32),B≤1∧m.length=b.length+1∧val m+x*val b=val (S.take (b.length+1))+4294967296^(b.length+1)*B ∧
   Z0 T 120 [.bs (.bor 0) 0 1 0 (P.length+S.length),.i .i64 P.length,.sl (Zb b) .an,u32 x] [(.bor 0,⟨0,.own,1,Zb (P++S)⟩)] =
    some (.b (decide (0<B)),[(.bor 0,⟨0,.own,1,Zb (P++(m++S.drop (b.length+1)))⟩)]):=by
 obtain⟨_,⟨C,B,m,rfl,hC,hB,hm,hv⟩,hr⟩:=z3r (T:=T) P S b x hx hS hl (0,(0,0),[]) ⟨Y1 _,Nat.zero_lt_succ _,Y1 _,rfl,by simp⟩;unfold Zlc at hr;simp at hr;have hs:S[b.length]? = some (S[b.length]'hS):=Ya hS;have hls:=zam (S[b.length]'hS);have hg:=zf7 (P:=P) hm hS;have hw2:IntKind.wrap .i64 ((P.length:Int)+b.length)=((P.length+b.length:Nat):Int):=zac _ (by omega);have hlt2:(P.length:Int)+b.length<(P.length:Int)+S.length:=by omega
 have c2:=zfl (T:=T) (S[b.length]'hS).toNat C B hls hC (by omega);obtain⟨w,hwd⟩:∃w,w=((S[b.length]'hS).toNat+8589934592-(C+B))%4294967296:=⟨_,rfl⟩;obtain⟨B',hB'⟩:∃B',B'=2-((S[b.length]'hS).toNat+8589934592-(C+B))/4294967296:=⟨_,rfl⟩;rw[←hwd,←hB']at c2;have hwl:w<4294967296:=by omega
 have hset:=zf8 (P:=P) (w32 w) hm hS;refine⟨B',m++[w32 w],by omega,by grind,?_,?_⟩
 ·rw[zak,zaf hs,Yai,hm,zas,zcb,Ya9,Yab,zag hwl];have:=zm8 (y:=0) (w:=w) (v:=(S[b.length]'hS).toNat) (D':=B') hv (by omega);omega
 ·rw[zal Zq.h120 rfl,b120];simp -implicitDefEqProofs[hr,hw2,hlt2,hg,c2,hset,zbn _ _ _ hwl]
end
section
variable{T:Tbl}[Zo T][Zz T][Zy T][Zq T]
theorem zm9{p M w s t y v D D':Nat}(h:M+p*D=s+t)(e:w+4294967296*D'=v+y+D):(M+p*w)+p*4294967296*D'=(s+p*v)+(t+p*y):=by
 grind
def Zld(P S b:List UInt32)(y:Nat×Nat×List UInt32):St:=
 ⟨[(0,.bs (.bor 0) 0 1 0 (P.length+S.length)),(1,.i .i64 P.length),(2,.sl (Zb b) .an),(6,u32 y.2.1),(9,.sl (Zb b) .an),(10,.i .i64 b.length),(11,.i .i64 y.1)],
  [(.bor 0,⟨0,.own,1,Zb (P++(y.2.2++S.drop y.1))⟩)],4⟩
end
section
variable{T:Tbl}[Zo T]
theorem z3s(P S b:List UInt32)(hS:b.length<S.length)(hl:P.length+S.length≤1000000):∀y:Nat×Nat×List UInt32,
  (y.1≤b.length∧y.2.1≤1∧y.2.2.length=y.1∧val y.2.2+4294967296^y.1*y.2.1=val (S.take y.1)+val (b.take y.1)) →
  ∃r,(∃(C:Nat) (m:List UInt32),r=(Ex.n,(⟨[(0,.bs (.bor 0) 0 1 0 (P.length+S.length)),(1,.i .i64 P.length),(2,.sl (Zb b) .an),(6,u32 C)],[(.bor 0,⟨0,.own,1,Zb (P++(m++S.drop b.length))⟩)],4⟩:St)) ∧
   C≤1∧m.length=b.length∧val m+4294967296^b.length*C=val (S.take b.length)+val b)∧Zp T 1 0 (.norm false [0,1,2,6]) l121_0 (Zld P S b y)=some r:=by
 refine zaz _ _ (fun y=>b.length-y.1) _ ?_
 rintro⟨i,C,m⟩ ⟨hi,hC,hm,hv⟩
 simp only at hi hC hm hv;by_cases h0:i<b.length
 ·left;have hb:b[i]? = some (b[i]'h0):=Ya h0;have hiS:i<S.length:=by omega
  have hs:S[i]? = some (S[i]'hiS):=Ya hiS;have hg:=zf7 (P:=P) hm hiS;have hw:IntKind.wrap .i64 ((i:Int)+1)=((i+1:Nat):Int):=zac _ (by omega);have hw2:IntKind.wrap .i64 ((P.length:Int)+i)=((P.length+i:Nat):Int):=zac _ (by omega);have hlt2:(P.length:Int)+i<(P.length:Int)+S.length:=by omega
  have hlb:=zam (b[i]'h0);have hls:=zam (S[i]'hiS);have c2:=zd4 (T:=T) (S[i]'hiS).toNat (b[i]'h0).toNat C hls hlb (by omega);obtain⟨w,hwd⟩:∃w,w=((S[i]'hiS).toNat+(b[i]'h0).toNat+C)%4294967296:=⟨_,rfl⟩;obtain⟨C',hC'⟩:∃C',C'=((S[i]'hiS).toNat+(b[i]'h0).toNat+C)/4294967296:=⟨_,rfl⟩;rw[←hwd,←hC']at c2;have hwl:w<4294967296:=by omega
  have hset:=zf8 (P:=P) (w32 w) hm hiS;refine⟨(i+1,C',m++[w32 w]),⟨h0,by grind,by grind,?_⟩,by omega,?_⟩
  ·simp only;rw[zak,zaf hb,zaf hs,Yai,hm,zas,zcb,Ya9,Yab,zag hwl];exact zm9 hv (by omega)
  ·simp -implicitDefEqProofs[l121_0,Zld,h0,hw,hw2,hlt2,hg,c2,hset,zbn _ _ _ hwl]
 ·right;have:i=b.length:=by omega
  subst this;rw[Yb (Yd b.length)]at hv;refine⟨_,⟨C,m,rfl,hC,hm,hv⟩,?_,?_⟩<;>simp -implicitDefEqProofs[l121_0,Zld]
end
section
variable{T:Tbl}[Zo T][Zq T]
theorem zwt(P S b:List UInt32)(hS:b.length<S.length)(hl:P.length+S.length≤1000000) :
  ∃(D:Nat) (m:List UInt32),D≤1∧m.length=b.length+1∧val m+4294967296^(b.length+1)*D=val (S.take (b.length+1))+val b ∧
   Z0 T 121 [.bs (.bor 0) 0 1 0 (P.length+S.length),.i .i64 P.length,.sl (Zb b) .an] [(.bor 0,⟨0,.own,1,Zb (P++S)⟩)] =
    some (.tup [],[(.bor 0,⟨0,.own,1,Zb (P++(m++S.drop (b.length+1)))⟩)]):=by
 obtain⟨_,⟨C,m,rfl,hC,hm,hv⟩,hr⟩:=z3s (T:=T) P S b hS hl (0,0,[]) ⟨Y1 _,Y1 _,rfl,by simp⟩;unfold Zld at hr;simp at hr;have hs:S[b.length]? = some (S[b.length]'hS):=Ya hS;have hls:=zam (S[b.length]'hS);have hg:=zf7 (P:=P) hm hS;have hw2:IntKind.wrap .i64 ((P.length:Int)+b.length)=((P.length+b.length:Nat):Int):=zac _ (by omega);have hlt2:(P.length:Int)+b.length<(P.length:Int)+S.length:=by omega
 obtain⟨w,hwd⟩:∃w,w=((S[b.length]'hS).toNat+C)%4294967296:=⟨_,rfl⟩;have hwl:w<4294967296:=by omega
 have hset:=zf8 (P:=P) (w32 w) hm hS;refine⟨((S[b.length]'hS).toNat+C)/4294967296,m++[w32 w],by omega,by grind,?_,?_⟩
 ·rw[zak,zaf hs,Yai,hm,zas,zcb,Ya9,Yab,zag hwl];have:=zm9 (y:=0) (w:=w) (v:=(S[b.length]'hS).toNat) (D':=((S[b.length]'hS).toNat+C)/4294967296) hv (by omega);omega
 ·rw[zal Zq.h121 rfl,b121];simp -implicitDefEqProofs[hr,hw2,hlt2,hg,←hwd,hset,zbn _ _ _ hwl]
end
theorem zh0(q b1 b0:Nat):q*(b1*4294967296+b0)=q*b1*4294967296+q*b0:=by
 rw[Yao q,←Yav q]
theorem zkr{a2 a1 a0 b1 b0 q r:Nat}(h:q*b1+r=a2*4294967296+a1)(hle:q*b0≤r*4294967296+a0) :
  q*(b1*4294967296+b0)≤(a2*4294967296+a1)*4294967296+a0:=by
 refine Yc (Nat.le_of_eq (zh0 q b1 b0)) ?_;revert h hle;generalize q*b1=u;generalize q*b0=v;omega
theorem zy8{a2 a1 a0 b1 b0 q r:Nat}(h:q*b1+r=a2*4294967296+a1)(hgt:r*4294967296+a0<q*b0) :
  (a2*4294967296+a1)*4294967296+a0<q*(b1*4294967296+b0):=by
 refine Nat.lt_of_lt_of_eq ?_ (zh0 q b1 b0).symm;revert h hgt;generalize q*b1=u;generalize q*b0=v;omega
theorem zwb{q b0 r a0:Nat}(h0:a0<4294967296):(q*b0/4294967296<r∨q*b0/4294967296=r∧q*b0%4294967296≤a0)↔q*b0≤r*4294967296+a0:=by
 generalize q*b0=m;omega
section
variable{T:Tbl}[Zo T][Zz T][Zy T][Zq T]
def Zhq(a0 b1 b0:Nat)(y:Nat×Nat):St:=⟨[(2,u32 a0),(3,u32 b1),(4,u32 b0),(11,u32 y.1),(12,u32 y.2)],[],2⟩
end
section
variable{T:Tbl}[Zo T]
theorem zwc(a2 a1 a0 b1 b0 g:Nat)(h0:a0<4294967296)(hb1:b1<4294967296)(hb0:b0<4294967296)
  (F1:∀q,q<4294967296→g≤q→q*(b1*4294967296+b0)≤(a2*4294967296+a1)*4294967296+a0→q=g)
  (F2:∀q,(a2*4294967296+a1)*4294967296+a0<q*(b1*4294967296+b0)→g<q):∀y:Nat×Nat,
  (y.1<4294967296∧y.2<4294967296∧y.1*b1+y.2=a2*4294967296+a1∧g≤y.1) →
  ∃r,(r=(Ex.n,(⟨[(11,u32 g)],[],2⟩:St)))∧Zp T 0 0 (.norm false [11]) l119_0 (Zhq a0 b1 b0 y)=some r:=by
 refine zaz _ _ (fun y=>y.1) _ ?_
 rintro⟨q,r⟩ ⟨hq,hr,hv,hg⟩
 simp only at hq hr hv hg;have c1:=zh1 (T:=T) q b0 0 0 hq hb0 (by decide) (by decide);have c2:=zd4 (T:=T) r b1 0 hr hb1 (by decide);rw[Yab]at c1;rw[Yab]at c2;have hcmp:=zwb (q:=q) (b0:=b0) (r:=r) h0;obtain⟨hi,hhi⟩:∃hi,hi=q*b0/4294967296:=⟨_,rfl⟩;obtain⟨lo,hlo⟩:∃lo,lo=q*b0%4294967296:=⟨_,rfl⟩;rw[←hhi,←hlo]at c1 hcmp;have hlol:lo<4294967296:=by omega
 have hhil:hi<4294967296:=by
  have:=zjq hq hb0;omega
 by_cases hle:q*b0≤r*4294967296+a0
 ·right;have hqg:=F1 q hq hg (zkr hv hle);subst hqg;have hc:=hcmp.2 hle;clear hhi hlo;rcases hc with hc | ⟨rfl,hc2⟩
  ·refine⟨_,rfl,?_,?_⟩<;>simp -implicitDefEqProofs[l119_0,Zhq,c1,hc]
  ·refine⟨_,rfl,?_,?_⟩<;>simp -implicitDefEqProofs[l119_0,Zhq,c1,hc2]
 ·have hgt:r*4294967296+a0<q*b0:=by omega
  have hlt:=F2 q (zy8 hv hgt);have hc:¬ (hi<r∨hi=r∧lo≤a0):=fun h=>hle (hcmp.1 h);have hq1:q-1<4294967296:=by omega
  have hs:Zgy q 1=q-1:=by unfold Zgy;omega
  have hqb:(q-1)*b1+(r+b1)=a2*4294967296+a1:=by
   have:q*b1=(q-1)*b1+b1:=by
    rw[←Nat.succ_mul];congr 1;omega
   omega
  by_cases hcar:4294967296≤r+b1
  ·right;have hmul:=zjq hq1 hb0;have hqg:=F1 (q-1) hq1 (by omega) (zkr hqb (by
    generalize (q-1)*b0=v at *
    omega))
   have m2:0<(r+b1)/4294967296:=Nat.div_pos hcar (by decide);have m3:(r+b1)/4294967296<4294967296:=by omega
   have hr2:¬ hi<r:=fun h=>hc (.inl h);clear hhi hlo;refine⟨_,rfl,?_,?_⟩<;>by_cases he:hi=r
   ·have hc3:¬ lo≤a0:=fun h=>hc (.inr ⟨he,h⟩);subst he;simp -implicitDefEqProofs[l119_0,Zhq,c1,c2,hs,hc3,m2]
   ·simp -implicitDefEqProofs[l119_0,Zhq,c1,c2,hs,hr2,he,m2]
   ·have hc3:¬ lo≤a0:=fun h=>hc (.inr ⟨he,h⟩);subst he;simp -implicitDefEqProofs[l119_0,Zhq,c1,c2,hs,hc3,m2,hqg]
   ·simp -implicitDefEqProofs[l119_0,Zhq,c1,c2,hs,hr2,he,m2,hqg]
  ·left;refine⟨(q-1,r+b1),⟨hq1,by simp only;omega,hqb,by simp only;omega⟩,by simp only;omega,?_⟩;have m1:(r+b1)%4294967296=r+b1:=Yx (by omega);have m2:(r+b1)/4294967296=0:=Ybw (by omega);rw[m1,m2]at c2;have hr2:¬ hi<r:=fun h=>hc (.inl h);clear hhi hlo;by_cases he:hi=r
   ·have hc3:¬ lo≤a0:=fun h=>hc (.inr ⟨he,h⟩);subst he;simp -implicitDefEqProofs[l119_0,Zhq,c1,c2,hs,hc3]
   ·simp -implicitDefEqProofs[l119_0,Zhq,c1,c2,hs,hr2,he]
end
section
variable{T:Tbl}[Zo T][Zz T][Zy T][Zq T]
theorem z3l{n two:Nat}(h:0<two):(∀q,q<4294967296→min 4294967295 (n/two)≤q→q*two≤n→q=min 4294967295 (n/two))∧(∀q,n<q*two→min 4294967295 (n/two)<q):=by
 constructor
 ·intro q hq hg hle;have:=(Ybz h).2 hle;omega
 ·intro q hlt;have:=(Ya7 h).2 hlt;omega
theorem zy9{A a0 b1 b0:Nat}(h0:a0<4294967296)(hp:0<b1):A*4294967296+a0<(A/b1+1)*(b1*4294967296+b0):=by
 have h1:A<(A/b1+1)*b1:=by rw[Yam];exact Nat.lt_mul_div_succ A hp
 refine Nat.lt_of_lt_of_eq ?_ (zh0 (A/b1+1) b1 b0).symm;generalize (A/b1+1)*b1=u at *
 generalize (A/b1+1)*b0=v at *
 omega
end
section
variable{T:Tbl}[Zo T][Zq T]
theorem zso(a2 a1 a0 b1 b0:Nat)(h2:a2<4294967296)(h1:a1<4294967296)(h0:a0<4294967296)(hb1:b1<4294967296)(hb0:b0<4294967296)(hp:0<b1) :
  Za T 119 [u32 a2,u32 a1,u32 a0,u32 b1,u32 b0]=some (u32 (min 4294967295 (((a2*4294967296+a1)*4294967296+a0)/(b1*4294967296+b0)))):=by
 obtain⟨F1,F2⟩:=z3l (n:=(a2*4294967296+a1)*4294967296+a0) (two:=b1*4294967296+b0) (by omega);have hgle:=Yea 4294967295 (((a2*4294967296+a1)*4294967296+a0)/(b1*4294967296+b0));generalize min 4294967295 (((a2*4294967296+a1)*4294967296+a0)/(b1*4294967296+b0))=g at *
 by_cases hlt:a2<b1
 ·have hd:=zm3 (T:=T) a2 a1 b1 hlt h1 hb1;have hql:(a2*4294967296+a1)/b1<4294967296:=z1b hlt h1;have hrl:(a2*4294967296+a1)%b1<b1:=Ybf _ hp;have hdm:=Yb1 (a2*4294967296+a1) b1;rw[Yam]at hdm;obtain⟨_,rfl,hr⟩:=zwc (T:=T) a2 a1 a0 b1 b0 g h0 hb1 hb0 F1 F2 ((a2*4294967296+a1)/b1,(a2*4294967296+a1)%b1) ⟨hql,by simp only;omega,hdm,by have:=F2 _ (zy9 (A:=a2*4294967296+a1) (b0:=b0) h0 hp);simp only;omega⟩;unfold Zhq at hr;simp at hr;rw[zab Zq.h119 rfl,b119];simp -implicitDefEqProofs[hd,hr]
 ·have hd:=zst (T:=T) a2 a1 b1 (by omega) h2 h1;have ha:=zd4 (T:=T) a1 b1 0 h1 hb1 (by decide);rw[Yab]at ha;by_cases hbig:b1<a2∨4294967296≤a1+b1
  ·have hg:4294967295=g:=by
    refine F1 4294967295 (by decide) hgle ?_;refine zkr (r:=a2*4294967296+a1-4294967295*b1) (by omega) ?_;omega
   subst hg;rw[zab Zq.h119 rfl,b119];rcases Yt b1 a2 with hb | hb
   ·simp -implicitDefEqProofs[hd,ha,hb]
   ·have hc:4294967296≤a1+b1:=by omega
    have hb2:¬ b1<a2:=by omega
    have m2:0<(a1+b1)/4294967296:=Nat.div_pos hc (by decide);simp -implicitDefEqProofs[hd,ha,hb2,m2]
  ·have hb2:¬ b1<a2:=fun h=>hbig (.inl h);have hc:a1+b1<4294967296:=by omega
   have m1:(a1+b1)%4294967296=a1+b1:=Yx hc;have m2:(a1+b1)/4294967296=0:=Ybw hc;rw[m1,m2]at ha;obtain⟨_,rfl,hr⟩:=zwc (T:=T) a2 a1 a0 b1 b0 g h0 hb1 hb0 F1 F2 (4294967295,a1+b1) ⟨Yv 4294967295,hc,by simp only;omega,hgle⟩;unfold Zhq at hr;simp at hr;have hb3:a2≤b1:=by omega
   rw[zab Zq.h119 rfl,b119];simp -implicitDefEqProofs[hd,ha,hb2,hr]
end
theorem zxh{V b d three two v0 b0:Nat}(hV:V=three*d+v0)(hv:v0<d)(hb:b=two*d+b0)(hb0:b0<d)(h2:4294967296≤two)(hlt:V<4294967296*b) :
  V/b≤min 4294967295 (three/two)∧min 4294967295 (three/two)≤V/b+1:=by
 have hd:0<d:=by omega
 have htp:0<two:=by omega
 have hbp:0<b:=by
  have:=Nat.mul_pos htp hd;omega
 have hq:V/b<4294967296:=Ybc (by rw[Yam];exact hlt);have hqb:V/b*b≤V:=Nat.div_mul_le_self V b;have hqb2:V<(V/b+1)*b:=by rw[Yam];exact Nat.lt_mul_div_succ V hbp
 generalize V/b=q at *
 constructor
 ·refine Nat.le_min.2 ⟨by omega,(Ybz htp).2 ?_⟩;have h3:q*two*d<(three+1)*d:=by
   have:q*two*d≤q*b:=by rw[hb,Yao,Yav];omega
   rw[Ybr,Ydd];omega
  have:=Nat.lt_of_mul_lt_mul_right h3;omega
 ·generalize hx:min 4294967295 (three/two)=x;have hx1:x≤three/two:=by rw[←hx];exact Nat.min_le_right _ _
  have hx2:x≤4294967295:=by rw[←hx];exact Yea _ _
  have hx3:x*two≤three:=(Ybz htp).1 hx1;rcases Yt (q+1) x with h | h
  ·exfalso;have e1:(q+2)*two≤x*two:=Yae _ h;have e2:(q+2)*two*d≤three*d:=Yae _ (Yc e1 hx3);have e3:(q+1)*b=(q+1)*two*d+(q+1)*b0:=by rw[hb,Yao,Yav]
   have e4:(q+1)*b0≤(q+1)*d:=Yaz _ (Ydk hb0);have e5:(q+2)*two*d=(q+1)*two*d+two*d:=by rw[show q+2=(q+1)+1 from rfl,Ybr (q+1) 1 two,Ydd,Ybr]
   have e6:(q+1)*d≤two*d:=Yae _ (by omega);omega
  ·exact h
theorem zzk{vA vA' t p V x r vb vm T:Nat}(h0:vA=t+p*V)(h1:vA'=t+p*r)(hV:V=vb*x+r)(hT:T=vA+p*4294967296*(vm*vb)) :
  T=vA'+p*((x+4294967296*vm)*vb):=by grind
theorem zwj{V b x Bo vm p:Nat}(hb:0<b)(h1:V/b≤x)(h2:x≤V/b+1)(_hp:V<p)(hm:vm<p)(hBo:Bo≤1)(h:vm+x*b=V+p*Bo) :
  (Bo=0→x=V/b∧vm=V%b)∧(Bo=1→x=V/b+1∧vm+b=V%b+p):=by
 have hd:=Yb1 V b;constructor
 ·intro h0;subst h0;have hx:x=V/b:=by
   have:x*b≤V:=by omega
   have:=(Ybz hb).2 this;omega
  grind
 ·intro h0;subst h0;have hx:x=V/b+1:=by
   grind
  grind
theorem zwk{vm b r p D vm':Nat}(_hr:r<p)(h:vm+b=r+p)(hm:vm'<p)(hD:D≤1)(hg:vm'+p*D=vm+b):vm'=r:=by
 rcases Ybj D with h0 | h0
 all_goals grind
theorem zm4{α:Type}{A:List α}{i k:Nat}(h:i=k)(hi:i<A.length)(hk:k<A.length):A[i]'hi=A[k]'hk:=by grind
theorem zku(A:List UInt32)(j n:Nat):val (A.drop j)=val ((A.drop j).take n)+4294967296^((A.drop j).take n).length*val (A.drop (j+n)):=by
 grind[List.take_append_drop,zak,List.drop_drop]
theorem zsv{q x:Nat}(h:x=q+1)(hx:x<4294967296):Zgy x 1=q:=by unfold Zgy;omega
theorem zwl{A m1:List UInt32}{j n:Nat}(hm1:m1.length=n+1)(hj:j+n<A.length) :
  (A.take j++(m1++A.drop (j+(n+1)))).take j=A.take j∧(A.take j++(m1++A.drop (j+(n+1)))).drop (j+(n+1))=A.drop (j+(n+1)) ∧
  ((A.take j++(m1++A.drop (j+(n+1)))).drop j).take (n+1)=m1∧(A.take j++(m1++A.drop (j+(n+1)))).length=A.length:=by
 have htj:(A.take j).length=j:=by grind
 refine⟨?_,?_,?_,?_⟩
 ·rw[Yc4 (by omega),Yb (by omega)]
 ·rw[←Ydn,Ybo (by omega),Ya4 (l:=A.take j) (by omega),Ybt,Ybo (by omega),Ya4 (by omega),Ybt]
 all_goals grind
theorem zwm{D:List UInt32}{n:Nat}(h:n+2<D.length):val (D.take (n+3))=(((D[n+2]'h).toNat*4294967296+(D[n+1]'(by omega)).toNat)*4294967296+(D[n]'(by omega)).toNat)*4294967296^n+val (D.take n):=by
 grind[zaf]
theorem z3n{D:List UInt32}{n:Nat}(h:n+1<D.length):val (D.take (n+2))=((D[n+1]'h).toNat*4294967296+(D[n]'(by omega)).toNat)*4294967296^n+val (D.take n):=by
 grind[zaf]
section
variable{T:Tbl}[Zo T][Zq T]
theorem zsw(A b:List UInt32)(j x:Nat)(hx:x<4294967296)(hj:j+b.length<A.length)(hl:A.length≤1000000) :
  ∃(B:Nat) (m:List UInt32),B≤1∧m.length=b.length+1∧val m+x*val b=val ((A.drop j).take (b.length+1))+4294967296^(b.length+1)*B ∧
   Z0 T 120 [.bs (.bor 0) 0 1 0 A.length,.i .i64 j,.sl (Zb b) .an,u32 x] [(.bor 0,⟨0,.own,1,Zb A⟩)] =
    some (.b (decide (0<B)),[(.bor 0,⟨0,.own,1,Zb (A.take j++(m++A.drop (j+(b.length+1))))⟩)]):=by
 have h1:(A.take j).length=j:=by grind
 have h2:(A.drop j).length=A.length-j:=by simp
 obtain⟨B,m,hB,hm,hv,hc⟩:=zws (T:=T) (A.take j) (A.drop j) b x hx (by omega) (by omega)
 grind[List.take_append_drop,List.drop_drop]
end
section
variable{T:Tbl}[Zo T][Zq T]
theorem zsx(A b:List UInt32)(j:Nat)(hj:j+b.length<A.length)(hl:A.length≤1000000) :
  ∃(D:Nat) (m:List UInt32),D≤1∧m.length=b.length+1∧val m+4294967296^(b.length+1)*D=val ((A.drop j).take (b.length+1))+val b ∧
   Z0 T 121 [.bs (.bor 0) 0 1 0 A.length,.i .i64 j,.sl (Zb b) .an] [(.bor 0,⟨0,.own,1,Zb A⟩)] =
    some (.tup [],[(.bor 0,⟨0,.own,1,Zb (A.take j++(m++A.drop (j+(b.length+1))))⟩)]):=by
 have h1:(A.take j).length=j:=by grind
 have h2:(A.drop j).length=A.length-j:=by simp
 obtain⟨D,m,hD,hm,hv,hc⟩:=zwt (T:=T) (A.take j) (A.drop j) b (by omega) (by omega);rw[h1,h2,show j+(A.length-j)=A.length by omega,Yaw,Ydn]at hc;exact⟨D,m,hD,hm,hv,hc⟩
end
section
variable{T:Tbl}[Zo T][Zz T][Zy T][Zq T]
def Zjz(b:List UInt32)(LA LQ:Nat)(y:Nat×List UInt32×List UInt32):St:=
 ⟨[(0,.bs (.bor 0) 0 1 0 LA),(1,.sl (Zb b) .an),(5,.i .i64 b.length),(6,.bs (.loc 15) 3 1 0 LQ),(7,.i .i64 ((y.1:Int)-1))],
  [(.bor 0,⟨0,.own,1,Zb y.2.1⟩),(.loc 15,⟨3,.own,1,Zb (List.replicate y.1 0++y.2.2)⟩)],5⟩
end
section
variable{T:Tbl}[Zo T][Zq T]
set_option maxHeartbeats 2000000 in
theorem z3o(A0 b:List UInt32)(LQ nb:Nat)(hnb:b.length=nb+2)(hb1:0<(b[nb+1]'(by omega)).toNat)(hl:A0.length≤1000000)(hA0:A0.length=LQ+b.length):∀y:Nat×List UInt32×List UInt32,
  (y.1≤LQ∧y.2.1.length=A0.length∧y.2.2.length=LQ-y.1∧val (y.2.1.drop y.1)<val b∧val A0=val y.2.1+4294967296^y.1*(val y.2.2*val b)) →
  ∃r,(∃Q A:List UInt32,r=(Ex.n,(⟨[(6,.bs (.loc 15) 3 1 0 LQ)],[(.bor 0,⟨0,.own,1,Zb A⟩),(.loc 15,⟨3,.own,1,Zb Q⟩)],5⟩:St)) ∧
   Q.length=LQ∧A.length=A0.length∧val Q=val A0/val b∧val A=val A0%val b)∧Zp T 1 0 (.norm false [6]) l93_0 (Zjz b A0.length LQ y)=some r:=by
 refine zaz _ _ (fun y=>y.1) _ ?_
 rintro⟨k,A,m⟩ ⟨hk,hA,hm,hlt,hv⟩
 simp only at hk hA hm hlt hv;have hbp:0<val b:=by omega
 cases k with
 | zero=>
  right;rw[Yd9,Ydd]at hv;rw[Ybp]at hlt;refine⟨_,⟨m,A,rfl,by omega,hA,?_,?_⟩,?_,?_⟩
  ·rw[hv,Nat.add_mul_div_right _ _ hbp,Ybw hlt,Yan]
  ·rw[hv,Nat.add_mul_mod_self_right,Yx hlt]
  ·simp -implicitDefEqProofs[l93_0,Zjz]
  ·simp -implicitDefEqProofs[l93_0,Zjz]
 | succ j=>
  left
  -- the window
  have hD:(A.drop j).length=A.length-j:=by simp
  have hDn:nb+2<(A.drop j).length:=by omega
  have hVlt:val (A.drop j)<4294967296*val b:=by
   have:=Ym (show j<A.length by omega);rw[this,zas];have:=zam (A[j]'(by omega));omega
  have hbB:=za2 b;rw[hnb]at hbB;have hsplit:=zku A j (nb+3);have hlen3:((A.drop j).take (nb+3)).length=nb+3:=by simp;omega
  rw[hlen3]at hsplit;have hz:val (A.drop (j+(nb+3)))=0:=by
   rcases Ybj (val (A.drop (j+(nb+3)))) with h | h
   ·exact h
   ·exfalso;have h1:=Yaz (4294967296^(nb+3)) h;rw[Yai 4294967296 (nb+2)]at h1 hsplit;generalize 4294967296^(nb+2)=p at *
    generalize p*4294967296*val (A.drop (j+(nb+3)))=u at *
    omega
  rw[hz,Ya9,Yab]at hsplit;have h3:=zwm hDn;have h2:=z3n (D:=b) (n:=nb) (by omega);rw[zbk (a:=b) (i:=nb+2) (by omega)]at h2;have hv0:=za2 ((A.drop j).take nb);have hb0:=za2 (b.take nb);rw[show ((A.drop j).take nb).length=nb by simp;omega]at hv0;rw[show (b.take nb).length=nb by simp;omega]at hb0;obtain⟨V,hV⟩:∃V,V=val (A.drop j):=⟨_,rfl⟩;rw[←hV]at hsplit hVlt;rw[←hsplit]at h3;have hg:=zxh (V:=V) (b:=val b) h3 hv0 h2 hb0 (by omega) hVlt;obtain⟨p0,hp0⟩:∃p,p=j+b.length:=⟨_,rfl⟩;obtain⟨p1,hp1⟩:∃p,p=j+(nb+1):=⟨_,rfl⟩;obtain⟨p2,hp2⟩:∃p,p=j+nb:=⟨_,rfl⟩;obtain⟨q1,hq1⟩:∃p,p=nb+1:=⟨_,rfl⟩;have c1:p0<A.length:=by omega
  have c2:p1<A.length:=by omega
  have c3:p2<A.length:=by omega
  have c4:q1<b.length:=by omega
  have c5:nb<b.length:=by omega
  have e1:(A.drop j)[nb+2]'hDn=A[p0]'c1:=Ydp.trans (zm4 (by omega) _ _);have e2:(A.drop j)[nb+1]'(by omega)=A[p1]'c2:=Ydp.trans (zm4 (by omega) _ _);have e3:(A.drop j)[nb]'(by omega)=A[p2]'c3:=Ydp.trans (zm4 (by omega) _ _);have e4:b[nb+1]'(by omega)=b[q1]'c4:=zm4 (by omega) _ _;rw[e1,e2,e3,e4]at hg;rw[e4]at hb1;have hgs:=zso (T:=T) (A[p0]'c1).toNat (A[p1]'c2).toNat (A[p2]'c3).toNat (b[q1]'c4).toNat (b[nb]'c5).toNat (zam _) (zam _) (zam _) (zam _) (zam _) hb1;obtain⟨x,hxd⟩:∃x,x=min 4294967295 ((((A[p0]'c1).toNat*4294967296+(A[p1]'c2).toNat)*4294967296+(A[p2]'c3).toNat)/((b[q1]'c4).toNat*4294967296+(b[nb]'c5).toNat)):=⟨_,rfl⟩;rw[←hxd]at hg hgs;have hx:x<4294967296:=by rw[hxd];exact Ydl (Yea _ _) (by decide)
  clear hxd;obtain⟨Bo,m1,hBo,hm1,hvm1,hct⟩:=zsw (T:=T) A b j x hx (by omega) (by omega);rw[hnb,show nb+2+1=nb+3 from rfl,←hsplit]at hvm1;have hm1l:=za2 m1;rw[hm1,hnb,show nb+2+1=nb+3 from rfl]at hm1l;have hVp:V<4294967296^(nb+3):=by
   rw[Yai 4294967296 (nb+2)];generalize 4294967296^(nb+2)=p at *
   omega
  have hpk:=zwj hbp hg.1 hg.2 hVp hm1l hBo hvm1;have hql:V/val b<4294967296:=Ybc (by rw[Yam];exact hVlt);have hzb:val (A.drop (j+(b.length+1)))=0:=by rw[hnb];exact hz
  have htj:(A.take j).length=j:=by simp;omega
  have fin:∀m2:List UInt32,m2.length=b.length+1→val m2=V%val b →
    (A.take j++(m2++A.drop (j+(b.length+1)))).length=A0.length∧val ((A.take j++(m2++A.drop (j+(b.length+1)))).drop j)<val b ∧
    val A0=val (A.take j++(m2++A.drop (j+(b.length+1))))+4294967296^j*(val (w32 (V/val b)::m)*val b):=by
   intro m2 hm2 hvm2;refine⟨by simp[hm2];omega,?_,?_⟩
   ·rw[Ybo (by omega),Ya4 (by omega),Ybt,zak,hzb,Ya9,Yab,hvm2];exact Ybf _ hbp
   ·have t1:val A=val (A.take j)+4294967296^j*V:=by rw[hV];exact zni A j (by omega)
    have t2:val (A.take j++(m2++A.drop (j+(b.length+1))))=val (A.take j)+4294967296^j*(V%val b):=by
     rw[zak,zak,hzb,Ya9,Yab,hvm2,htj]
    rw[zas,zag hql];exact zzk t1 t2 (Yb1 V (val b)).symm hv
  clear hv hvm1 hsplit h3 h2 hg hbB hVlt hlt hzb hz hv0 hb0 hm1l hVp;have hw1:IntKind.wrap .i64 ((j:Int)-1)=(j:Int)-1:=zac _ (by omega);have hw2:IntKind.wrap .i64 ((j:Int)+b.length)=((p0:Nat):Int):=by rw[zac _ (by omega)];omega
  have hw3:IntKind.wrap .i64 ((p0:Int)-1)=((p1:Nat):Int):=by rw[zac _ (by omega)];omega
  have hw4:IntKind.wrap .i64 ((p0:Int)-2)=((p2:Nat):Int):=by rw[zac _ (by omega)];omega
  have hw5:IntKind.wrap .i64 ((b.length:Int)-1)=((q1:Nat):Int):=by rw[zac _ (by omega)];omega
  have hw6:IntKind.wrap .i64 ((b.length:Int)-2)=((nb:Nat):Int):=by rw[zac _ (by omega)];omega
  have hj1:j<LQ:=by omega
  rw[hA]at hct;have hml:(w32 (V/val b)::m).length=LQ-j:=by simp[hm];omega
  have hjb:j+b.length<A.length:=by omega
  have hnb3:nb+3=b.length+1:=by omega
  have d1:p0<A0.length:=by omega
  have d2:p1<A0.length:=by omega
  have d3:p2<A0.length:=by omega
  rcases Ybj Bo with h0 | h0
  ·obtain⟨hxq,hvm⟩:=hpk.1 h0;subst h0;subst hxq;have hset:=zkv (m:=m) (j:=j) (w32 (V/val b));obtain⟨f1,f2,f3⟩:=fin m1 hm1 hvm;refine⟨(j,A.take j++(m1++A.drop (j+(b.length+1))),w32 (V/val b)::m),⟨Ydk hj1,f1,hml,f2,f3⟩,Yv j,?_⟩;simp -implicitDefEqProofs[l93_0,Zjz,hw1,hw2,hw3,hw4,hw5,hw6,c4,c5,d1,d2,d3,hA,hj1,hgs,hct,hset,zkw,zbn _ _ _ hx]
  ·have h1:Bo=1:=by omega
   obtain⟨hxq,hvm⟩:=hpk.2 h1;subst h1;have hset:=zkv (m:=m) (j:=j) (w32 (V/val b));obtain⟨t1,t2,t3,t4⟩:=zwl (A:=A) hm1 hjb;rw[hA]at t4;obtain⟨D,m2,hD,hm2,hvm2,hcg⟩:=zsx (T:=T) (A.take j++(m1++A.drop (j+(b.length+1)))) b j (by rw[t4,←hA];exact hjb) (by rw[t4];exact hl);rw[t1,t2,t4]at hcg;rw[t3]at hvm2;have hm2l:=za2 m2;rw[hm2]at hm2l;have hVb:=Ybf V hbp;have hbq:val b<4294967296^(b.length+1):=Yl (za2 b) (Y7 (by decide) (Yba _));rw[hnb3]at hvm;have hv2:=zwk (Nat.lt_trans hVb hbq) hvm hm2l hD hvm2;have hsx:=zsv hxq hx;obtain⟨f1,f2,f3⟩:=fin m2 hm2 hv2;refine⟨(j,A.take j++(m2++A.drop (j+(b.length+1))),w32 (V/val b)::m),⟨Ydk hj1,f1,hml,f2,f3⟩,Yv j,?_⟩;simp -implicitDefEqProofs[l93_0,Zjz,hw1,hw2,hw3,hw4,hw5,hw6,c4,c5,d1,d2,d3,hA,hj1,hgs,hct,hsx,hcg,hset,zkw,zbn _ _ _ hql]
end
section
variable{T:Tbl}[Zo T][Zq T]
theorem zwn(A b:List UInt32)(LQ nb:Nat)(hnb:b.length=nb+2)(hb1:0<(b[nb+1]'(by omega)).toNat)(hl:A.length≤1000000)(hA:A.length=LQ+b.length)(hlt:val (A.drop LQ)<val b) :
  ∃Q R:List UInt32,Q.length=LQ∧R.length=A.length∧val Q=val A/val b∧val R=val A%val b ∧
   Z0 T 93 [.bs (.bor 0) 0 1 0 A.length,.sl (Zb b) .an] [(.bor 0,⟨0,.own,1,Zb A⟩)]=some (.bs (.loc 15) 3 1 0 LQ,[(.bor 0,⟨0,.own,1,Zb R⟩),(.loc 15,⟨3,.own,1,Zb Q⟩)]):=by
 obtain⟨_,⟨Q,R,rfl,hQ,hR,hq,hr⟩,hlp⟩:=z3o (T:=T) A b LQ nb hnb hb1 hl hA (LQ,A,[]) ⟨Yd _,rfl,by simp,hlt,by simp⟩;have hw:IntKind.wrap .i64 ((A.length:Int)-b.length)=(LQ:Int):=by rw[zac _ (by omega)];omega
 have hw1:IntKind.wrap .i64 ((LQ:Int)-1)=(LQ:Int)-1:=zac _ (by omega);have h1:(LQ:Int)≤4294967296:=by omega
 refine⟨Q,R,hQ,hR,hq,hr,?_⟩;unfold Zjz at hlp;simp at hlp;rw[zal Zq.h93 rfl,b93];simp -implicitDefEqProofs[hw,hw1,h1,hlp]
end
def b2071:AX:=
 (.seq
 (.reg [rg 2 (.mov (.c (.sl [] .nl)))])
 (.seq
 (.reg [mv 3 0,rg 4 (.call 86 [(.t 3)]),rg 5 (.call 2106 [(.t 4),(.c (.i .i64 0))]),mv 2 5])
 (.pre (.norm false [2]) .ret)))
def l2092_0:AX:=
 (.note
 (.seq
 (.reg [rg 27 (.bin .lss (.t 26) (.t 25))])
 (.seq
 (.cond (.t 27)
 .skip
 (.exit 0))
 (.seq
 (.block 1
 (.seq
 (.reg [mv 28 26,rg 29 (.iad 1 (.t 24) (.t 26)),rg 30 (.load none (.t 29)),mv 8 28,mv 9 30])
 (.seq
 (.reg [mv 31 9,rg 32 (.conv .u64 (.t 31)),mv 33 6,rg 34 (.bin .shl (.t 32) (.t 33)),mv 10 34])
 (.seq
 (.reg [mv 35 7,mv 36 5,mv 37 8,rg 38 (.bin .add (.t 36) (.t 37)),rg 39 (.iad 1 (.t 35) (.t 38)),rg 40 (.load none (.t 39)),mv 41 10,rg 42 (.conv .u32 (.t 41)),rg 43 (.bin .or (.t 40) (.t 42)),rg 44 (.iad 1 (.t 35) (.t 38)),so (.store 1 (.t 44) (.t 43))])
 (.reg [mv 45 7,mv 46 5,mv 47 8,rg 48 (.bin .add (.t 46) (.t 47)),rg 49 (.bin .add (.t 48) (.c (.i .i64 1))),mv 50 10,rg 51 (.bin .shr (.t 50) (.c (u64 32))),rg 52 (.conv .u32 (.t 51)),rg 53 (.iad 1 (.t 45) (.t 49)),so (.store 1 (.t 53) (.t 52))])))))
 (.reg [rg 54 (.bin .add (.t 26) (.c (.i .i64 1))),mv 26 54]))))
 (.norm false [5,6,7,24,25,26]))
def b2092:AX:=
 (.seq
 (.reg [rg 4 (.mov (.c (.sl [] .nl)))])
 (.seq
 (.reg [mv 11 1,rg 12 (.mm true [(.t 11),(.c (.i .i64 0))]),rg 13 (.mm false [(.t 12),(.c (.i .i64 4096))]),mv 1 13])
 (.seq
 (.reg [mv 14 1,rg 15 (.bin .quo (.t 14) (.c (.i .i64 32))),mv 16 1,rg 17 (.bin .rem (.t 16) (.c (.i .i64 32))),mv 5 15,mv 6 17])
 (.seq
 (.reg [mv 18 5,mv 19 0,rg 20 (.len (.t 19)),rg 21 (.bin .add (.t 18) (.t 20)),rg 22 (.bin .add (.t 21) (.c (.i .i64 1))),rg 23 (.mks 1 [(u32 0)] (.t 22) (.t 22)),mv 7 23])
 (.seq
 (.seq
 (.reg [mv 24 0,rg 25 (.len (.t 24)),rg 26 (.mov (.c (.i .i64 0)))])
 (.lp 0 (.norm false [5,6,7,24,25,26]) l2092_0 (.norm false [7])))
 (.seq
 (.reg [mv 55 7,rg 56 (.call 2071 [(.t 55)]),mv 4 56])
 (.pre (.norm false [4]) .ret)))))))
def b62:AX:=
 (.seq
 (.reg [rg 4 (.mov (.c (.sl [] .nl))),rg 5 (.mov (.c (.sl [] .nl))),rg 6 (.mov (.c (.b false)))])
 (.seq
 (.reg [mv 12 1,rg 13 (.call 71 [(.t 12)]),mv 1 13])
 (.seq
 (.block 0
 (.seq
 (.reg [mv 15 1,rg 16 (.len (.t 15)),rg 17 (.bin .eql (.t 16) (.c (.i .i64 0))),mv 14 17])
 (.cond (.t 14)
 (.seq
 (.reg [rg 4 (.mov (.c (.sl [] .nl))),rg 5 (.mov (.c (.sl [] .nl))),rg 6 (.mov (.c (.b false)))])
 (.pre (.norm false [4,5,6]) .ret))
 (.seq
 (.reg [mv 19 0,mv 20 1,rg 21 (.call 87 [(.t 19),(.t 20)]),rg 22 (.bin .lss (.t 21) (.c (.i .i64 0))),mv 18 22])
 (.cond (.t 18)
 (.seq
 (.reg [mv 23 0,rg 24 (.call 71 [(.t 23)]),rg 4 (.mov (.c (.sl [] .nl))),mv 5 24,rg 6 (.mov (.c (.b true)))])
 (.pre (.norm false [4,5,6]) .ret))
 (.seq
 (.reg [mv 26 1,rg 27 (.len (.t 26)),rg 28 (.bin .eql (.t 27) (.c (.i .i64 1))),mv 25 28])
 (.cond (.t 25)
 (.seq
 (.reg [mv 30 0,mv 31 1,rg 32 (.iad 1 (.t 31) (.c (.i .i64 0))),rg 33 (.load none (.t 32)),rg 34 (.call 90 [(.t 30),(.t 33)]),mv 29 34,rg 35 (.ext (.t 29) 0),rg 36 (.ext (.t 29) 1),rg 37 (.ext (.t 29) 2),mv 7 35,mv 8 36,mv 9 37])
 (.seq
 (.reg [mv 38 7,mv 39 8,rg 40 (.conv .u64 (.t 39)),rg 41 (.call 72 [(.t 40)]),mv 4 38,mv 5 41,rg 6 (.mov (.c (.b true)))])
 (.pre (.norm false [4,5,6]) .ret)))
 .skip)))))))
 (.seq
 (.reg [mv 42 1,mv 43 1,rg 44 (.len (.t 43)),rg 45 (.bin .sub (.t 44) (.c (.i .i64 1))),rg 46 (.iad 1 (.t 42) (.t 45)),rg 47 (.load none (.t 46)),rg 48 (.call 91 [(.t 47)]),rg 49 (.bin .sub (.c (.i .i64 32)) (.t 48)),mv 10 49])
 (.seq
 (.reg [mv 50 0,mv 51 10,rg 52 (.call 2092 [(.t 50),(.t 51)]),rg 53 (.bsl 1 [(u32 0)] 1 [(0,(.c (u32 0)))]),rg 54 (.app 1 (.t 52) (.t 53)),mv 11 54])
 (.seq
 (.reg [mv 55 11,mv 56 1,mv 57 10,rg 58 (.call 2092 [(.t 56),(.t 57)]),rg 59 (.call 93 [(.t 55),(.t 58)]),mv 4 59])
 (.seq
 (.reg [mv 60 4,rg 61 (.call 71 [(.t 60)]),mv 62 11,mv 63 10,rg 64 (.call 94 [(.t 62),(.t 63)]),mv 4 61,mv 5 64,rg 6 (.mov (.c (.b true)))])
 (.pre (.norm false [4,5,6]) .ret))))))))
def row2071:AFx:=⟨1,6,[.t 2],b2071,(some [false]),false⟩
def row2092:AFx:=⟨2,57,[.t 4],b2092,(some [false,false]),false⟩
def row62:AFx:=⟨2,65,[.t 4,.t 5,.t 6],b62,none,false⟩
class Zu (T:Tbl):Prop where
 h2071:T 2071=some row2071
 h2092:T 2092=some row2092
 h62:T 62=some row62
section
variable{T:Tbl}[Zu T]{d:Option Nat}{st:St}
@[simp] theorem x2071(xs:List AV):Zc (orc T) T 2071 xs d st=bL (Zfj st.heap [false] xs) fun ys=>Ze2 ys (Zk (Za1 [false] xs) st.heap) (Zc5 (Zk (Za1 [false] xs) st.heap) 40 (Zcs [false] xs) []) T 2071 false d st:=zao Zu.h2071
@[simp] theorem x2092(xs:List AV):Zc (orc T) T 2092 xs d st=bL (Zfj st.heap [false,false] xs) fun ys=>Ze2 ys (Zk (Za1 [false,false] xs) st.heap) (Zc5 (Zk (Za1 [false,false] xs) st.heap) 40 (Zcs [false,false] xs) []) T 2092 false d st:=zao Zu.h2092
@[simp] theorem x62(xs:List AV):Zc (orc T) T 62 xs d st=cP T 62 false xs d st:=zaa Zu.h62
end
theorem z3t(x:Nat):x<2^Za6 x:=by
 unfold Za6;split
 ·subst x;decide
 ·exact Ydz
theorem zwu{x:Nat}(h:x<4294967296):Za6 x≤32:=by
 unfold Za6;split
 ·omega
 ·rename_i h0;have:=(Ydt h0 (k:=32)).2 (by simpa using h);omega
theorem z1c{n k:Nat}(h:(ofN n).length=k+1):4294967296^k≤n:=by
 rcases Yt n (4294967296^k) with h1 | h1
 ·have:=zap h1;omega
 ·exact h1
theorem z9f{b:List UInt32}{nb:Nat}(h:b.length=nb+2)(hb:b=ofN (val b)) :
  (ofN (val b*2^(32-Za6 (b[nb+1]'(by omega)).toNat))).length=nb+2:=by
 have hl:=zwu (zam (b[nb+1]'(by omega)));have hs:=z3t (b[nb+1]'(by omega)).toNat;have h1:val b=val (b.take (nb+1))+4294967296^(nb+1)*(b[nb+1]'(by omega)).toNat:=by
  have:=zaf (Ya (show nb+1<b.length by omega))
  rwa [zbk (by omega)]at this
 have h2:=za2 (b.take (nb+1));rw[show (b.take (nb+1)).length=nb+1 by simp;omega]at h2;generalize (b[nb+1]'(by omega)).toNat=t at *
 refine Nat.le_antisymm (zap ?_) ?_
 ·have h3:val b<4294967296^(nb+1)*2^Za6 t:=by
   have:4294967296^(nb+1)*(t+1)≤4294967296^(nb+1)*2^Za6 t:=Yaz _ hs;rw[Yao,Yda]at this;omega
  have h4:2^Za6 t*2^(32-Za6 t)=4294967296:=by
   rw[←Yce,show Za6 t+(32-Za6 t)=32 by omega]
  have h5:=Yde h3 (Ybn (n:=32-Za6 t) (show 0<2 by decide));rw[Yav,h4,←Yai]at h5;exact h5
 ·have h3:val b≤val b*2^(32-Za6 t):=Yds _ (Ybn (by decide));have:=zbb h3;rw[←hb]at this;omega
theorem z3u{b:List UInt32}{nb:Nat}(h:b.length=nb+2)(hb:b=ofN (val b)):0<(b[nb+1]'(by omega)).toNat:=by
 have h1:val b=val (b.take (nb+1))+4294967296^(nb+1)*(b[nb+1]'(by omega)).toNat:=by
  have:=zaf (Ya (show nb+1<b.length by omega))
  rwa [zbk (by omega)]at this
 have h2:=za2 (b.take (nb+1));rw[show (b.take (nb+1)).length=nb+1 by simp;omega]at h2;have h3:4294967296^(nb+1)≤val b:=z1c (by rw[←hb];omega);rcases Ybj (b[nb+1]'(by omega)).toNat with h0 | h0
 ·rw[h0,Ya9]at h1;omega
 ·exact h0
theorem zh2(l:List UInt32):val (l++[0])=val l:=by rw[zak];simp
theorem z9g{A b:List UInt32}{nb L:Nat}(hA:(A++[0]).length=L+b.length)(hb:b.length=nb+2)(hbo:b=ofN (val b)):val ((A++[0]).drop L)<val b:=by
 have hl:L≤A.length:=by simp at hA;omega
 rw[Ybo hl,zh2];have h1:=za2 (A.drop L);have h2:(A.drop L).length=nb+1:=by simp at hA ⊢;omega
 rw[h2]at h1;exact Yl h1 (z1c (by rw[←hbo];omega))
section
variable{T:Tbl}[Zo T][Zu T]
theorem zna(a:List UInt32)(hl:a.length≤1000000):Z0 T 2071 [.sl (Zb a) .an] [] =
  some (.bs (.fld (.loc 5) 10) 1 1 0 (ofN (val a)).length,[(.fld (.loc 5) 10,⟨1,.own,1,Zb (ofN (val a))⟩)]):=by
 have h1:=zad a;have h2:=zco (T:=T) (ofN (val a)) 0 (by omega);simp only[Yy,Yab,List.replicate_zero,Ya5]at h2;rw[zal Zu.h2071 rfl,b2071];simp -implicitDefEqProofs[zbo a (by omega),h2]
end
section
variable{T:Tbl}[Zo T][Zu T]
theorem zh3(a:List UInt32)(n:Nat)(hn:n≤4096)(hl:a.length≤100000):Z0 T 2092 [.sl (Zb a) .an,.i .i64 n] [] =
  some (.bs (.fld (.fld (.loc 56) 0) 6010) 1 1 0 (ofN (val a*2^n)).length,[(.fld (.fld (.loc 56) 0) 6010,⟨1,.own,1,Zb (ofN (val a*2^n))⟩)]):=by
 obtain⟨_,⟨c,m,rfl,hm,hc,hv⟩,hr⟩:=z34 (T:=T) (List.replicate (n/32) 0) a (n%32) (Ybf _ (by decide)) (by simp;omega) (0,0,[]) ⟨Y1 _,Ybn (by decide),rfl,by simp⟩;have hc32:c<4294967296:=Yl hc (by
  have:2^(n%32)≤2^32:=Y7 (by decide) (by omega);simpa using this)
 have hval:val (List.replicate (n/32) 0++(m++[w32 c]))=val a*2^n:=by
  rw[zak,zdo,Ycv,zak,hm];simp only[zas,zcb,Ya9,Yab,zag hc32,Yan];rw[hv,z39,←Yav,←Yce,show 32*(n/32)+n%32=n by omega,Yam]
 have hlen:(List.replicate (n/32) 0++(m++[w32 c])).length=n/32+a.length+1:=by simp[hm];omega
 have hnm:=zna (T:=T) (List.replicate (n/32) 0++(m++[w32 c])) (by omega);rw[hval]at hnm;rw[show l92_0=l2092_0 from rfl]at hr;unfold Zlg at hr;generalize List.replicate (n/32) 0++(m++[w32 c])=Q at *
 simp at hr;have hz:List.replicate (n/32) (0:UInt32)++w32 0::List.replicate a.length 0=List.replicate (n/32+a.length+1) 0:=by
  have:w32 0=0:=rfl;rw[this,←Ycl,List.replicate_append_replicate,Yaq]
 rw[hz]at hr;have hn2:¬ (4096:Int)<(n:Int):=by omega
 have hq:(n:Int).tdiv 32=(n:Int)/32:=Ydg (by omega);have hm2:(n:Int).tmod 32=(n:Int)%32:=Ydh (by omega);have w1:IntKind.wrap .i64 ((n:Int)/32)=(n:Int)/32:=zac (n/32) (by omega);have w2:IntKind.wrap .i64 ((n:Int)/32+a.length)=(n:Int)/32+a.length:=zac _ (by omega);have w3:IntKind.wrap .i64 ((n:Int)/32+a.length+1)=(n:Int)/32+a.length+1:=zac _ (by omega);have p1:(0:Int)≤(n:Int)/32+a.length+1:=by omega
 have p2:(n:Int)/32+a.length+1≤4294967296:=by omega
 have p3:((n:Int)/32+a.length+1).toNat=n/32+a.length+1:=by omega
 have htk:List.take (n/32+a.length+1) Q=Q:=Yb (by omega);rw[zal Zu.h2092 rfl,b2092];simp -implicitDefEqProofs[hn2,hq,hm2,w1,w2,w3,p1,p2,p3,hr,hnm,htk,hlen]
end
section
variable{T:Tbl}[Zo T][Zz T][Zy T][Zq T][Zu T]
theorem zfn(a b:List UInt32)(ha:a.length≤90000)(hb:b.length≤90000):Za T 62 [.sl (Zb a) .an,.sl (Zb b) .an] =
  some (if val b=0 then .tup [.sl [] .an,.sl [] .an,.b false] else .tup [.sl (Zb (ofN (val a/val b))) .an,.sl (Zb (ofN (val a%val b))) .an,.b true]):=by
 have hnb:=zbd (T:=T) b (by omega);have hna:=zbd (T:=T) a (by omega);have hlb:=zad b;have hla:=zad a;have hcmp:=zf6 (T:=T) a (ofN (val b)) (by omega) (by omega);rw[zae]at hcmp;rw[zab Zu.h62 rfl,b62];by_cases h0:val b=0
 ·rw[h0]at hnb;simp -implicitDefEqProofs[hnb,h0]
 ·have h0':ofN (val b)≠[]:=fun h=>h0 (zba.1 h);have hl0:(ofN (val b)).length≠0:=fun h=>h0' (Yah h);by_cases hlt:val a<val b
  ·have hd:=Ybw hlt;have hm:=Yx hlt;simp -implicitDefEqProofs[hnb,h0,hl0,hcmp,zdm,hlt,hna,hd,hm]
  ·rcases Yt 1 (ofN (val b)).length with h1 | h1
   ·obtain⟨b',hb'⟩:∃b',b'=ofN (val b):=⟨_,rfl⟩;have hvb:val b'=val b:=by rw[hb',zae]
    have hbo:b'=ofN (val b'):=by rw[hvb,hb']
    rw[←hb']at hnb hcmp hl0 h1 hlb;obtain⟨nb,hnbl⟩:∃nb,b'.length=nb+2:=⟨b'.length-2,by omega⟩;have hll:=zqv (T:=T) (b'[nb+1]'(by omega));have hbl:=zwu (zam (b'[nb+1]'(by omega)));have hup:=z9f hnbl hbo;obtain⟨s,hs⟩:∃s,s=32-Za6 (b'[nb+1]'(by omega)).toNat:=⟨_,rfl⟩;obtain⟨l,hll2⟩:∃l,l=Za6 (b'[nb+1]'(by omega)).toNat:=⟨_,rfl⟩;rw[←hs]at hup;rw[←hll2]at hll hs hbl;obtain⟨B,hB⟩:∃B,B=ofN (val b'*2^s):=⟨_,rfl⟩;obtain⟨A,hA⟩:∃A,A=ofN (val a*2^s):=⟨_,rfl⟩;have hua:=zh3 (T:=T) a s (by omega) (by omega);have hub:=zh3 (T:=T) b' s (by omega) (by omega);rw[←hA]at hua;rw[←hB]at hub hup;have hBo:B=ofN (val B):=by rw[hB,zae]
    have hvA:val A=val a*2^s:=by rw[hA,zae]
    have hvB:val B=val b'*2^s:=by rw[hB,zae]
    have hAB:B.length≤A.length:=by
     rw[hA,hB];exact zbb (Yae _ (by omega))
    have hAl:A.length≤a.length+1:=by
     rw[hA];refine zap ?_;have h2:2^s≤2^32:=Y7 (by decide) (by omega);rw[Yai];exact Ydl (Yaz _ h2) (Yde (za2 a) (by decide))
    have hpos:=z3u (hup) hBo;obtain⟨Q,R,hQ,hR,hvQ,hvR,hlong⟩:=zwn (T:=T) (A++[0]) B (A.length+1-B.length) nb hup hpos (by simp;omega) (by simp;omega) (z9g (by simp;omega) hup hBo);rw[zh2,hvA,hvB,hvb,Nat.mul_div_mul_right _ _ (Ybn (by decide))]at hvQ;rw[zh2,hvA,hvB,hvb,Nat.mul_mod_mul_right]at hvR;have hnq:=zbd (T:=T) Q (by omega);have hAl1:(A++[(0:UInt32)]).length=A.length+1:=by simp
    rw[hAl1]at hlong hR;have hdn:=zxe (T:=T) R s (by omega) (by omega);rw[hvR,Nat.mul_div_cancel _ (Ybn (by decide))]at hdn;rw[hvQ]at hnq;obtain⟨q1,hq1⟩:∃p,p=nb+1:=⟨_,rfl⟩;have c1:q1<b'.length:=by omega
    have hwt:b'[nb+1]'(by omega)=b'[q1]'c1:=zm4 (by omega) _ _;rw[hwt]at hll;have w1:IntKind.wrap .i64 ((b'.length:Int)-1)=(q1:Int):=by rw[zac _ (by omega)];omega
    have w2:IntKind.wrap .i64 (32-(l:Int))=(s:Int):=by rw[zac _ (by omega)];omega
    have c3:A.length≤4294967295:=by omega
    have c4:w32 0=0:=rfl;have c5:A.length+1≤A.length+1-B.length+B.length:=by omega
    have c2:¬ ((b'.length:Int)=1):=by omega
    have t1:List.take (A.length+1) R=R:=Yb (by omega);have t2:List.take (A.length+1-B.length) Q=Q:=Yb (by omega);simp -implicitDefEqProofs[hnb,h0,hl0,hcmp,zdm,hlt,w1,w2,c1,c2,c3,c4,c5,hll,hua,hub,hlong,hnq,hdn,t1,t2,hQ,hR]
   ·have hl1:(ofN (val b)).length=1:=by omega
    obtain⟨w,hw⟩:=Ybe.1 hl1;have hvb:val b=w.toNat:=by
     have:=zae (val b);rw[hw]at this;simp at this;omega
    have hwl:=zam w;have hwd:=zm7 (T:=T) a (val b) (by omega) (by omega) (by omega);have hof:=zgg (T:=T) (val a%val b) (by have:=Ybf (val a) (show 0<val b by omega);omega);have m1:val a%val b%18446744073709551616=val a%val b:=Yx (by have:=Ybf (val a) (show 0<val b by omega);omega);rw[hw]at hnb hcmp;rw[←hvb]at hwl;simp -implicitDefEqProofs[hnb,h0,hcmp,zdm,hlt,hwd,←hvb,hof,m1]
end
def Zjl(n:Nat):List UInt8:=if h:n<10 then [UInt8.ofNat (48+n)] else UInt8.ofNat (48+n%10)::Zjl (n/10)
termination_by n
decreasing_by omega
def Z8(n:Nat):List UInt8:=(Zjl n).reverse
def Zf1:List AV→Option UInt32
 | [.i .u32 n]=>if 0≤n∧n<4294967296 then some (w32 n.toNat) else none
 | _=>none
def prim68:List AV→Option AV
 | [.sl els .an]=>if els.length≤1000 then (els.mapM Zf1).map fun l=>.s (Z8 (val l)) else none
 | _=>none
theorem ztg(l:List UInt32):(Zb l).mapM Zf1=some l:=by
 induction l with
 | nil=>rfl
 | cons x l ih=>
  have hx:=zam x;have h1:Zf1 [u32 x.toNat]=some x:=by
   unfold Zf1 u32;simp only;rw[if_pos ⟨by omega,by omega⟩];simp
  have e:Zb (x::l)=[u32 x.toNat]::Zb l:=rfl;rw[e,Ybh,h1,ih]
  rfl
theorem zd5(a:List UInt32)(h:a.length≤1000):prim68 [.sl (Zb a) .an]=some (.s (Z8 (val a))):=by
 unfold prim68;simp only[zhw,h,if_true,ztg,Yb0]
def Zmp:Nat→List UInt8→Int
 | _,[]=>-1
 | k,c::r=>if c.toNat<48∨57<c.toNat∨k=60 then k else Zmp (k+1) r
def Zjm(l:List UInt8):Int:=if l=[] then 0 else Zmp 0 l
def rd(l:List UInt8):Nat:=l.foldl (fun n c=>n*10+(c.toNat-48)) 0
theorem z4c(l:List UInt8):∀n,l.foldl (fun n c=>n*10+(c.toNat-48)) n=n*10^l.length+rd l:=by
 induction l with
 | nil=>intro n;simp[rd]
 | cons c l ih=>
  intro n;simp only[Yax,Yi,rd];rw[ih,ih (0*10+(c.toNat-48)),Yai]
  grind
theorem zxi(a b:List UInt8):rd (a++b)=rd a*10^b.length+rd b:=by
 unfold rd;rw[List.foldl_append,z4c]
 rfl
theorem z4d(a:List UInt8)(c:UInt8):rd (a++[c])=rd a*10+(c.toNat-48):=by
 rw[zxi];simp[rd]
theorem zj0{n:Nat}(h:n<10):Zjl n=[UInt8.ofNat (48+n)]:=by rw[Zjl,dif_pos h]
theorem zq2{n:Nat}(h:¬ n<10):Zjl n=UInt8.ofNat (48+n%10)::Zjl (n/10):=by rw[Zjl,dif_neg h]
theorem zdp{n:Nat}(h:n<10):Z8 n=[UInt8.ofNat (48+n)]:=by rw[Z8,zj0 h];rfl
theorem zie{n:Nat}(h:¬ n<10):Z8 n=Z8 (n/10)++[UInt8.ofNat (48+n%10)]:=by rw[Z8,zq2 h];simp[Z8]
def txN(n:Nat)(s:List UInt8):List UInt8:=if n=0∧s≠[] then s else Z8 n++s
def Zdk:Nat→Nat→List UInt8
 | 0,_=>[]
 | k+1,x=>Zdk k (x/10)++[UInt8.ofNat (48+x%10)]
def u8c(l:List UInt8):List AV:=l.map fun b=>u8 b.toNat
@[simp] theorem z6g(l:List UInt8):(u8c l).length=l.length:=by simp[u8c]
@[simp] theorem zaln(l:List UInt8):(u8c l).flatMap rfC=[]:=by induction l with | nil=>rfl | cons x l ih=>simp[u8c]
@[simp] theorem zaij{σn:BId→BId}{σg:Nat→Nat}(l:List UInt8):(u8c l).map (fun c=>rlC σn σg (wkA c))=u8c l:=by induction l with | nil=>rfl | cons x l ih=>simp[u8c]
@[simp] theorem z0e(l:List UInt8):(u8c l).all pureC=true:=by induction l with | nil=>rfl | cons x l ih=>simp[u8c]
@[simp] theorem z9t(l:List UInt8):(∀x,x∈u8c l→pureC x=true)=True:=by
 have:=z0e l;rw[Yn]at this;simpa using this
theorem z4e{l:List UInt8}{j d:Nat}(h:d<256)(hj:j<l.length):(u8c l).take j++u8 d::(u8c l).drop (j+1)=u8c (l.set j (UInt8.ofNat d)):=by
 rw[Ycm,if_pos hj];simp[u8c,List.map_take,List.map_drop,Yx h]
theorem zeu:∀k x,(Zdk k x).length=k
 | 0,_=>rfl
 | k+1,x=>by simp[Zdk,zeu k]
theorem zif(x:Nat):Zdk 0 x=[]:=rfl
theorem zd6(k x:Nat):Zdk (k+1) x=Zdk k (x/10)++[UInt8.ofNat (48+x%10)]:=rfl
theorem z0f{m:List UInt8}{j:Nat}(w:UInt8):(List.replicate (j+1) 0++m).set j w=List.replicate j 0++w::m:=by
 rw[List.set_append_left j w (by simp),List.replicate_succ',Ya0 j w (by simp)];simp
theorem z0g(m:List UInt8):((u8c m).map fun c=>[c]).mapM Zd2=some m:=by
 induction m with
 | nil=>rfl
 | cons b m ih=>
  have e:((u8c (b::m)).map fun c=>[c])=[u8 b.toNat]::((u8c m).map fun c=>[c]):=rfl;rw[e,Ybh,ih];simp[Zd2,u8]
def l101_0:AX:=
 (.note
 (.seq
 (.seq
 (.reg [mv 5 4,rg 6 (.bin .geq (.t 5) (.c (.i .i64 0)))])
 (.cond (.t 6)
 .skip
 (.exit 0)))
 (.seq
 (.block 1
 (.seq
 (.reg [mv 9 4,mv 10 0,rg 11 (.bin .rem (.t 10) (.c (u32 10))),rg 12 (.bin .add (.c (u32 48)) (.t 11)),rg 13 (.conv .u8 (.t 12)),rg 14 (.iaa 1 9 (.t 3) (.t 9)),so (.store 1 (.t 14) (.t 13))])
 (.reg [mv 15 0,rg 16 (.bin .quo (.t 15) (.c (u32 10))),mv 0 16])))
 (.reg [mv 7 4,rg 8 (.bin .sub (.t 7) (.c (.i .i64 1))),mv 4 8])))
 (.norm false [0,3,4]))
def b101:AX:=
 (.seq
 (.reg [rg 2 (.mov (.c (.s [])))])
 (.seq
 (.reg [rg 3 (.alloc [(u8 0),(u8 0),(u8 0),(u8 0),(u8 0),(u8 0),(u8 0),(u8 0),(u8 0)])])
 (.seq
 (.seq
 (.reg [rg 4 (.mov (.c (.i .i64 8)))])
 (.lp 0 (.norm false [0,3,4]) l101_0 (.norm false [3])))
 (.seq
 (.reg [rg 17 (.xop (.arsl 9) [(.t 3)]),rg 18 (.xop .bstr [(.t 17)]),mv 2 18])
 (.pre (.norm false [2]) .ret)))))
def row101:AFx:=⟨1,19,[.t 2],b101,none,false⟩
class Zb3 (T:Tbl):Prop where
 h101:T 101=some row101
section
variable{T:Tbl}[Zb3 T]{d:Option Nat}{st:St}
@[simp] theorem x101(xs:List AV):Zc (orc T) T 101 xs d st=cP T 101 false xs d st:=zaa Zb3.h101
end
def row68:AFx:=⟨0,0,[],.prim prim68,none,false⟩
class Zai (T:Tbl):Prop where
 h68:T 68=some row68
section
variable{T:Tbl}[Zai T]{d:Option Nat}{st:St}
@[simp] theorem x68(xs:List AV):Zc (orc T) T 68 xs d st=cP T 68 false xs d st:=zaa Zai.h68
theorem p68(xs:List AV):Za T 68 xs=prim68 xs:=zf2 Zai.h68
end
def b103:AX:=
 (.seq
 (.reg [rg 4 (.mov (.c (.s [])))])
 (.seq
 (.seq
 (.reg [mv 7 0,rg 8 (.bin .eql (.t 7) (.c (.s []))),mv 9 8,gd 10 9 false (.mov (.t 1)),gd 11 9 false (.bin .eql (.t 10) (.c (.s []))),rg 12 (.pick (.t 9) (.c (.b true)) (.t 11))])
 (.cond (.t 12)
 (.seq
 (.reg [mv 13 0,mv 4 13])
 (.pre (.norm false [4]) .ret))
 .skip))
 (.seq
 (.seq
 (.reg [mv 14 1,rg 15 (.lens (.t 14)),rg 16 (.bin .eql (.t 15) (.c (.i .i64 1))),mv 17 16,gd 18 17 true (.mov (.t 1)),gd 19 17 true (.ixs (.t 18) (.c (.i .i64 0))),gd 20 17 true (.bin .lss (.t 19) (.c (u8 128))),rg 21 (.pick (.t 17) (.t 20) (.c (.b false)))])
 (.cond (.t 21)
 (.seq
 (.reg [mv 22 0,mv 23 1,rg 24 (.ixs (.t 23) (.c (.i .i64 0))),rg 25 (.call 125 [(.t 22),(.t 24)]),mv 4 25])
 (.pre (.norm false [4]) .ret))
 .skip))
 (.seq
 (.seq
 (.reg [mv 27 1,rg 28 (.call 126 [(.t 27)]),mv 26 28,rg 29 (.ext (.t 26) 0),rg 30 (.ext (.t 26) 1),rg 5 (.alloc [(.b false),(.b false),(.b false),(.b false),(.b false),(.b false),(.b false),(.b false),(.b false),(.b false),(.b false),(.b false),(.b false),(.b false),(.b false),(.b false),(.b false),(.b false),(.b false),(.b false),(.b false),(.b false),(.b false),(.b false),(.b false),(.b false),(.b false),(.b false),(.b false),(.b false),(.b false),(.b false),(.b false),(.b false),(.b false),(.b false),(.b false),(.b false),(.b false),(.b false),(.b false),(.b false),(.b false),(.b false),(.b false),(.b false),(.b false),(.b false),(.b false),(.b false),(.b false),(.b false),(.b false),(.b false),(.b false),(.b false),(.b false),(.b false),(.b false),(.b false),(.b false),(.b false),(.b false),(.b false),(.b false),(.b false),(.b false),(.b false),(.b false),(.b false),(.b false),(.b false),(.b false),(.b false),(.b false),(.b false),(.b false),(.b false),(.b false),(.b false),(.b false),(.b false),(.b false),(.b false),(.b false),(.b false),(.b false),(.b false),(.b false),(.b false),(.b false),(.b false),(.b false),(.b false),(.b false),(.b false),(.b false),(.b false),(.b false),(.b false),(.b false),(.b false),(.b false),(.b false),(.b false),(.b false),(.b false),(.b false),(.b false),(.b false),(.b false),(.b false),(.b false),(.b false),(.b false),(.b false),(.b false),(.b false),(.b false),(.b false),(.b false),(.b false),(.b false),(.b false),(.b false),(.b false),(.b false),(.b false),(.b false),(.b false),(.b false),(.b false),(.b false),(.b false),(.b false),(.b false),(.b false),(.b false),(.b false),(.b false),(.b false),(.b false),(.b false),(.b false),(.b false),(.b false),(.b false),(.b false),(.b false),(.b false),(.b false),(.b false),(.b false),(.b false),(.b false),(.b false),(.b false),(.b false),(.b false),(.b false),(.b false),(.b false),(.b false),(.b false),(.b false),(.b false),(.b false),(.b false),(.b false),(.b false),(.b false),(.b false),(.b false),(.b false),(.b false),(.b false),(.b false),(.b false),(.b false),(.b false),(.b false),(.b false),(.b false),(.b false),(.b false),(.b false),(.b false),(.b false),(.b false),(.b false),(.b false),(.b false),(.b false),(.b false),(.b false),(.b false),(.b false),(.b false),(.b false),(.b false),(.b false),(.b false),(.b false),(.b false),(.b false),(.b false),(.b false),(.b false),(.b false),(.b false),(.b false),(.b false),(.b false),(.b false),(.b false),(.b false),(.b false),(.b false),(.b false),(.b false),(.b false),(.b false),(.b false),(.b false),(.b false),(.b false),(.b false),(.b false),(.b false),(.b false),(.b false),(.b false),(.b false),(.b false),(.b false),(.b false),(.b false),(.b false),(.b false),(.b false),(.b false),(.b false),(.b false),(.b false),(.b false),(.b false),(.b false),(.b false),(.b false),(.b false),(.b false),(.b false),(.b false),(.b false),(.b false),(.b false)]),so (.store 256 (.t 5) (.t 29)),mv 6 30])
 (.seq
 (.reg [mv 31 6])
 (.cond (.t 31)
 (.seq
 (.reg [mv 32 0,rg 33 (.call 127 [(.t 32),(.t 5)]),mv 4 33])
 (.pre (.norm false [4]) .ret))
 .skip)))
 (.seq
 (.reg [mv 34 0,mv 35 1,rg 36 (.call 128 [(.t 34),(.t 35)]),mv 4 36])
 (.pre (.norm false [4]) .ret))))))
def l125_0:AX:=
 (.note
 (.seq
 (.seq
 (.reg [mv 5 0,rg 6 (.lens (.t 5)),rg 7 (.bin .gtr (.t 6) (.c (.i .i64 0))),mv 8 7,gd 9 8 true (.mov (.t 0)),gd 10 8 true (.ixs (.t 9) (.c (.i .i64 0))),gd 11 8 true (.mov (.t 1)),gd 12 8 true (.bin .eql (.t 10) (.t 11)),rg 13 (.pick (.t 8) (.t 12) (.c (.b false)))])
 (.cond (.t 13)
 .skip
 (.exit 0)))
 (.block 1
 (.reg [mv 14 0,rg 15 (.slstr (.t 14) (some (.c (.i .i64 1))) none),mv 0 15])))
 (.norm false [0,1]))
def b125:AX:=
 (.seq
 (.reg [rg 4 (.mov (.c (.s [])))])
 (.seq
 (.lp 0 (.norm false [0,1]) l125_0 (.norm false [0]))
 (.seq
 (.reg [mv 16 0,mv 4 16])
 (.pre (.norm false [4]) .ret))))
def row103:AFx:=⟨2,37,[.t 4],b103,none,false⟩
def row125:AFx:=⟨2,17,[.t 4],b125,none,false⟩
class Zia (T:Tbl):Prop where
 h103:T 103=some row103
 h125:T 125=some row125
section
variable{T:Tbl}[Zia T]{d:Option Nat}{st:St}
@[simp] theorem x125(xs:List AV):Zc (orc T) T 125 xs d st=cP T 125 false xs d st:=zaa Zia.h125
end
class Zb6 (T:Tbl):Prop where
section
variable{T:Tbl}[Zb6 T]
def atW(a:List UInt32)(i:Nat):Nat:=(a[i]?.map UInt32.toNat).getD 0
end
section
variable{T:Tbl}[Zb6 T]
def Zno(a b:List UInt32)(n:Nat)(y:Nat×Nat×List UInt32):St:=
 ⟨[(0,.sl (Zb a) .an),(1,.sl (Zb b) .an),(5,.i .i64 n),(6,.bs (.loc 16) 1 1 0 n),(7,u64 y.2.1),(8,.i .i64 y.1)],[(.loc 16,⟨1,.own,1,Zb y.2.2⟩)],3⟩
def Znp(a b:List UInt32)(n:Nat)(y:Nat×Nat×List UInt32):St:=
 ⟨[(0,.sl (Zb a) .an),(1,.sl (Zb b) .an),(5,.i .i64 n),(6,.bs (.loc 17) 1 1 0 n),(7,u64 y.2.1),(8,.i .i64 y.1)],[(.loc 17,⟨1,.own,1,Zb y.2.2⟩)],3⟩
end
class Zb7 (T:Tbl):Prop extends Zb6 T where
section
variable{T:Tbl}[Zb7 T]
def Zor(P S a b:List UInt32)(y:Nat×Nat×List UInt32):St:=
 ⟨[(0,.sl (Zb a) .an),(1,.sl (Zb b) .an),(5,.bs (.loc 14) 1 1 0 (P.length+S.length)),(6,.i .i64 P.length),(7,u64 y.2.1),(8,.i .i64 y.1)],[(.loc 14,⟨1,.own,1,Zb (P++(y.2.2++S.drop y.1))⟩)],3⟩
end
section
variable{T:Tbl}[Zb7 T]
def Znq(a b:List UInt32)(y:Nat×List UInt32):St:=
 ⟨[(0,.sl (Zb a) .an),(1,.sl (Zb b) .an),(5,.bs (.loc 14) 1 1 0 (a.length+b.length)),(6,.i .i64 y.1)],[(.loc 14,⟨1,.own,1,Zb (y.2++List.replicate (a.length-y.1) 0)⟩)],3⟩
end
class Zbo (T:Tbl):Prop extends Zb7 T where
section
variable{T:Tbl}[Zbo T]
def Zpt(a:List UInt32)(y:Nat×Nat×List UInt32):St:=
 ⟨[(0,.bs (.bor 0) 0 1 0 a.length),(4,u32 y.2.1),(5,.i .i64 y.1)],[(.bor 0,⟨0,.own,1,Zb (y.2.2++a.drop y.1)⟩)],4⟩
end
section
variable{T:Tbl}[Zbo T]
def Zpu(a b:List UInt32)(y:Nat×Nat×List UInt32):St:=
 ⟨[(0,.bs (.bor 0) 0 1 0 a.length),(1,.sl (Zb b) .an),(4,u64 y.2.1),(5,.i .i64 y.1)],[(.bor 0,⟨0,.own,1,Zb (y.2.2++a.drop y.1)⟩)],4⟩
def Zpv(x i:Nat)(y:Nat):St:=⟨[(1,.i .i64 i),(5,u32 (x/2^y)),(6,.i .i64 y)],[],2⟩
end
section
variable{T:Tbl}[Zbo T]
def Zpw(a:List UInt32)(y:Nat):St:=⟨[(0,.sl (Zb a) .an),(3,.i .i64 y)],[],2⟩
end
section
variable{T:Tbl}[Zbo T]
def Zpx(a b:List UInt32)(y:Nat×List UInt32×List UInt32):St:=
 ⟨[(0,.sl (Zb a) .an),(1,.sl (Zb b) .an),(6,.bs (.loc 11) 1 1 0 a.length),(7,.bs (.loc 15) 2 1 0 (b.length+1)),(8,.i .i64 ((y.1:Int)-1))],[(.loc 11,⟨1,.own,1,Zb y.2.1⟩),(.loc 15,⟨2,.own,1,Zb y.2.2⟩)],4⟩
end
class Zb8 (T:Tbl):Prop extends Zbo T where
def b129:AX:=
 (.seq
 (.reg [rg 2 (.mov (.c (.i .i64 0)))])
 (.seq
 (.reg [mv 3 0,rg 4 (.call 68 [(.t 3)]),rg 5 (.lens (.t 4)),mv 2 5])
 (.pre (.norm false [2]) .ret)))
def row129:AFx:=⟨1,6,[.t 2],b129,none,false⟩
class Zb5 (T:Tbl):Prop where
 h129:T 129=some row129
section
variable{T:Tbl}[Zb5 T]{d:Option Nat}{st:St}{xs:List AV}{ps:List Opd}{e:Env}{h:Heap}{ol:List Heap}
@[simp] theorem x129:Zc (orc T) T 129 xs d st=cP T 129 false xs d st:=zaa Zb5.h129
end
def b76:AX:=
 (.seq
 (.reg [rg 2 (.mov (.c (.i .i64 0)))])
 (.seq
 (.seq
 (.reg [mv 3 0])
 (.block 0
 (.seq
 (.seq
 (.reg [rg 5 (.bin .eql (.t 3) (.c (.i .i64 1))),mv 4 5])
 (.cond (.t 4)
 .skip
 (.seq
 (.reg [rg 6 (.bin .eql (.t 3) (.c (.i .i64 2))),mv 4 6])
 (.cond (.t 4)
 .skip
 (.seq
 (.reg [rg 7 (.bin .eql (.t 3) (.c (.i .i64 3))),mv 4 7])
 (.cond (.t 4)
 .skip
 (.seq
 (.reg [rg 8 (.bin .eql (.t 3) (.c (.i .i64 4))),mv 4 8])
 (.cond (.t 4)
 .skip
 (.reg [rg 9 (.bin .eql (.t 3) (.c (.i .i64 5))),mv 4 9])))))))))
 (.cond (.t 4)
 (.seq
 (.reg [rg 2 (.mov (.c (.i .i64 0)))])
 (.pre (.norm false [2]) .ret))
 (.seq
 (.seq
 (.reg [rg 11 (.bin .eql (.t 3) (.c (.i .i64 6))),mv 10 11])
 (.cond (.t 10)
 .skip
 (.reg [rg 12 (.bin .eql (.t 3) (.c (.i .i64 11))),mv 10 12])))
 (.cond (.t 10)
 (.seq
 (.reg [rg 2 (.mov (.c (.i .i64 1)))])
 (.pre (.norm false [2]) .ret))
 (.seq
 (.seq
 (.reg [rg 14 (.bin .eql (.t 3) (.c (.i .i64 7))),mv 13 14])
 (.cond (.t 13)
 .skip
 (.seq
 (.reg [rg 15 (.bin .eql (.t 3) (.c (.i .i64 8))),mv 13 15])
 (.cond (.t 13)
 .skip
 (.seq
 (.reg [rg 16 (.bin .eql (.t 3) (.c (.i .i64 9))),mv 13 16])
 (.cond (.t 13)
 .skip
 (.reg [rg 17 (.bin .eql (.t 3) (.c (.i .i64 10))),mv 13 17])))))))
 (.cond (.t 13)
 (.seq
 (.reg [rg 2 (.mov (.c (.i .i64 2)))])
 (.pre (.norm false [2]) .ret))
 .skip))))))))
 (.seq
 (.reg [rg 2 (.mov (.c (.i .i64 (-1))))])
 (.pre (.norm false [2]) .ret))))
def l74_0:AX:=
 (.note
 (.seq
 (.reg [rg 10 (.bin .lss (.t 9) (.t 8))])
 (.seq
 (.cond (.t 10)
 .skip
 (.exit 0))
 (.seq
 (.block 1
 (.seq
 (.reg [mv 11 9,rg 12 (.iad 3 (.t 7) (.t 9)),rg 13 (.load (some 3) (.t 12)),rg 5 (.alloc [(.i .i64 0),(.i .i64 0),(.sl [] .nl)]),mv 4 11,so (.store 3 (.t 5) (.t 13))])
 (.seq
 (.reg [rg 14 (.fad 0 (.t 5)),rg 15 (.load none (.t 14)),rg 16 (.call 76 [(.t 15)]),mv 6 16])
 (.seq
 (.seq
 (.reg [mv 17 6,rg 18 (.bin .lss (.t 17) (.c (.i .i64 0))),mv 19 18,gd 20 19 false (.mov (.t 6)),gd 21 19 false (.mov (.t 3)),gd 22 19 false (.bin .gtr (.t 20) (.t 21)),rg 23 (.pick (.t 19) (.c (.b true)) (.t 22))])
 (.cond (.t 23)
 (.seq
 (.reg [mv 24 4,mv 2 24])
 (.pre (.norm false [2]) .ret))
 .skip))
 (.reg [mv 25 3,mv 26 6,rg 27 (.bin .sub (.c (.i .i64 1)) (.t 26)),rg 28 (.bin .add (.t 25) (.t 27)),mv 3 28])))))
 (.reg [rg 29 (.bin .add (.t 9) (.c (.i .i64 1))),mv 9 29]))))
 (.norm false [0,3,7,8,9]))
def b74:AX:=
 (.seq
 (.reg [rg 2 (.mov (.c (.i .i64 0)))])
 (.seq
 (.reg [rg 3 (.mov (.c (.i .i64 0)))])
 (.seq
 (.seq
 (.reg [mv 7 0,rg 8 (.len (.t 7)),rg 9 (.mov (.c (.i .i64 0)))])
 (.lp 0 (.norm false [0,3,7,8,9]) l74_0 (.norm false [0,3])))
 (.seq
 (.seq
 (.reg [mv 30 3,rg 31 (.bin .neq (.t 30) (.c (.i .i64 1)))])
 (.cond (.t 31)
 (.seq
 (.reg [mv 32 0,rg 33 (.len (.t 32)),mv 2 33])
 (.pre (.norm false [2]) .ret))
 .skip))
 (.seq
 (.reg [rg 2 (.mov (.c (.i .i64 (-1))))])
 (.pre (.norm false [2]) .ret))))))
def b44:AX:=
 (.seq
 (.reg [rg 2 (.mov (.c (.b false)))])
 (.seq
 (.reg [mv 3 0,rg 4 (.call 74 [(.t 3)]),rg 5 (.bin .lss (.t 4) (.c (.i .i64 0))),mv 2 5])
 (.pre (.norm false [2]) .ret)))
def b108:AX:=
 (.seq
 (.reg [rg 4 (.mov (.c (.b false)))])
 (.seq
 (.reg [mv 5 0,rg 6 (.bin .geq (.t 5) (.c (.i .i64 0))),mv 7 6,gd 8 7 true (.mov (.t 0)),gd 9 7 true (.mov (.t 1)),gd 10 7 true (.bin .lss (.t 8) (.t 9)),rg 11 (.pick (.t 7) (.t 10) (.c (.b false))),mv 4 11])
 (.pre (.norm false [4]) .ret)))
def b107:AX:=
 (.seq
 (.reg [rg 2 (.mov (.c (.b false)))])
 (.seq
 (.reg [mv 3 0,rg 4 (.call 71 [(.t 3)]),rg 5 (.len (.t 4)),mv 6 0,rg 7 (.len (.t 6)),rg 8 (.bin .eql (.t 5) (.t 7)),mv 9 8,gd 10 9 true (.mov (.t 0)),gd 11 9 true (.call 129 [(.t 10)]),gd 12 9 true (.bin .leq (.t 11) (.c (.i .i64 60))),rg 13 (.pick (.t 9) (.t 12) (.c (.b false))),mv 2 13])
 (.pre (.norm false [2]) .ret)))
def b75:AX:=
 (.seq
 (.reg [rg 4 (.xop (.box 3) [(.t 0)]),rg 8 (.mov (.c (.b false)))])
 (.seq
 (.seq
 (.reg [rg 9 (.fad 0 (.t 4)),rg 10 (.load none (.t 9)),rg 11 (.bin .neq (.t 10) (.c (.i .i64 1))),mv 12 11,gd 13 12 true (.fad 2 (.t 4)),gd 14 12 true (.load none (.t 13)),gd 15 12 true (.len (.t 14)),gd 16 12 true (.bin .gtr (.t 15) (.c (.i .i64 0))),rg 17 (.pick (.t 12) (.t 16) (.c (.b false)))])
 (.cond (.t 17)
 (.seq
 (.reg [rg 8 (.mov (.c (.b false)))])
 (.pre (.norm false [8]) .ret))
 .skip))
 (.seq
 (.seq
 (.reg [rg 18 (.fad 0 (.t 4)),rg 19 (.load none (.t 18))])
 (.block 0
 (.seq
 (.reg [rg 21 (.bin .eql (.t 19) (.c (.i .i64 1))),mv 20 21])
 (.cond (.t 20)
 (.seq
 (.reg [rg 22 (.fad 1 (.t 4)),rg 23 (.load none (.t 22)),rg 24 (.bin .eql (.t 23) (.c (.i .i64 0))),mv 25 24,gd 26 25 true (.fad 2 (.t 4)),gd 27 25 true (.load none (.t 26)),gd 28 25 true (.call 107 [(.t 27)]),rg 29 (.pick (.t 25) (.t 28) (.c (.b false))),mv 8 29])
 (.pre (.norm false [8]) .ret))
 (.seq
 (.reg [rg 31 (.bin .eql (.t 19) (.c (.i .i64 3))),mv 30 31])
 (.cond (.t 30)
 (.seq
 (.reg [rg 32 (.fad 1 (.t 4)),rg 33 (.load none (.t 32)),mv 34 1,rg 35 (.call 108 [(.t 33),(.t 34)]),mv 8 35])
 (.pre (.norm false [8]) .ret))
 (.seq
 (.reg [rg 37 (.bin .eql (.t 19) (.c (.i .i64 4))),mv 36 37])
 (.cond (.t 36)
 (.seq
 (.reg [rg 38 (.fad 1 (.t 4)),rg 39 (.load none (.t 38)),mv 40 2,rg 41 (.call 108 [(.t 39),(.t 40)]),mv 8 41])
 (.pre (.norm false [8]) .ret))
 (.seq
 (.reg [rg 43 (.bin .eql (.t 19) (.c (.i .i64 5))),mv 42 43])
 (.cond (.t 42)
 (.seq
 (.reg [rg 44 (.fad 1 (.t 4)),rg 45 (.load none (.t 44)),mv 46 3,rg 47 (.call 108 [(.t 45),(.t 46)]),mv 8 47])
 (.pre (.norm false [8]) .ret))
 (.seq
 (.reg [rg 49 (.bin .eql (.t 19) (.c (.i .i64 11))),mv 48 49])
 (.cond (.t 48)
 (.seq
 (.reg [rg 50 (.fad 1 (.t 4)),rg 51 (.load none (.t 50)),rg 52 (.bin .geq (.t 51) (.c (.i .i64 (-8)))),mv 53 52,gd 54 53 true (.fad 1 (.t 4)),gd 55 53 true (.load none (.t 54)),gd 56 53 true (.bin .leq (.t 55) (.c (.i .i64 8))),rg 57 (.pick (.t 53) (.t 56) (.c (.b false))),mv 8 57])
 (.pre (.norm false [8]) .ret))
 .skip))))))))))))
 (.seq
 (.reg [rg 58 (.fad 1 (.t 4)),rg 59 (.load none (.t 58)),rg 60 (.bin .eql (.t 59) (.c (.i .i64 0))),mv 61 60,gd 62 61 true (.fad 0 (.t 4)),gd 63 61 true (.load none (.t 62)),gd 64 61 true (.call 76 [(.t 63)]),gd 65 61 true (.bin .geq (.t 64) (.c (.i .i64 0))),rg 66 (.pick (.t 61) (.t 65) (.c (.b false))),mv 8 66])
 (.pre (.norm false [8]) .ret)))))
def l46_0:AX:=
 (.note
 (.seq
 (.reg [rg 17 (.bin .lss (.t 16) (.t 15))])
 (.seq
 (.cond (.t 17)
 .skip
 (.exit 0))
 (.seq
 (.block 1
 (.seq
 (.reg [mv 18 16,rg 19 (.iad 3 (.t 14) (.t 16)),rg 20 (.load (some 3) (.t 19)),rg 11 (.alloc [(.i .i64 0),(.i .i64 0),(.sl [] .nl)]),mv 10 18,so (.store 3 (.t 11) (.t 20))])
 (.seq
 (.reg [mv 21 10,mv 22 9,rg 23 (.bin .eql (.t 21) (.t 22)),mv 24 23,gd 25 24 false (.load (some 3) (.t 11)),gd 26 24 false (.mov (.t 1)),gd 27 24 false (.mov (.t 2)),gd 28 24 false (.mov (.t 3)),gd 29 24 false (.call 75 [(.t 25),(.t 26),(.t 27),(.t 28)]),gd 30 24 false (.un .not (.t 29)),rg 31 (.pick (.t 24) (.c (.b true)) (.t 30))])
 (.cond (.t 31)
 (.seq
 (.reg [mv 32 10,mv 8 32])
 (.pre (.norm false [8]) .ret))
 .skip))))
 (.reg [rg 33 (.bin .add (.t 16) (.c (.i .i64 1))),mv 16 33]))))
 (.norm false [1,2,3,9,14,15,16]))
def b46:AX:=
 (.seq
 (.reg [rg 8 (.mov (.c (.i .i64 0)))])
 (.seq
 (.reg [mv 12 0,rg 13 (.call 74 [(.t 12)]),mv 9 13])
 (.seq
 (.seq
 (.reg [mv 14 0,rg 15 (.len (.t 14)),rg 16 (.mov (.c (.i .i64 0)))])
 (.lp 0 (.norm false [1,2,3,9,14,15,16]) l46_0 (.norm false [9])))
 (.seq
 (.reg [mv 34 9,mv 8 34])
 (.pre (.norm false [8]) .ret)))))
def row76:AFx:=⟨1,18,[.t 2],b76,none,false⟩
def row74:AFx:=⟨1,34,[.t 2],b74,none,false⟩
def row44:AFx:=⟨1,6,[.t 2],b44,none,false⟩
def row108:AFx:=⟨2,12,[.t 4],b108,none,false⟩
def row107:AFx:=⟨1,14,[.t 2],b107,none,false⟩
def row75:AFx:=⟨4,67,[.t 8],b75,none,false⟩
def row46:AFx:=⟨4,35,[.t 8],b46,none,false⟩
class Zaj (T:Tbl):Prop where
 h76:T 76=some row76
 h74:T 74=some row74
 h44:T 44=some row44
 h108:T 108=some row108
 h107:T 107=some row107
 h75:T 75=some row75
 h46:T 46=some row46
section
variable{T:Tbl}[Zaj T]{d:Option Nat}{st:St}{xs:List AV}{ps:List Opd}{e:Env}{h:Heap}{ol:List Heap}
@[simp] theorem x76:Zc (orc T) T 76 xs d st=cP T 76 false xs d st:=zaa Zaj.h76
@[simp] theorem x74:Zc (orc T) T 74 xs d st=cP T 74 false xs d st:=zaa Zaj.h74
@[simp] theorem x44:Zc (orc T) T 44 xs d st=cP T 44 false xs d st:=zaa Zaj.h44
@[simp] theorem x108:Zc (orc T) T 108 xs d st=cP T 108 false xs d st:=zaa Zaj.h108
@[simp] theorem x107:Zc (orc T) T 107 xs d st=cP T 107 false xs d st:=zaa Zaj.h107
@[simp] theorem x75:Zc (orc T) T 75 xs d st=cP T 75 false xs d st:=zaa Zaj.h75
@[simp] theorem x46:Zc (orc T) T 46 xs d st=cP T 46 false xs d st:=zaa Zaj.h46
end
def l483_0:AX:=
 (.note
 (.seq
 (.reg [rg 9 (.bin .lss (.t 8) (.t 7))])
 (.seq
 (.cond (.t 9)
 .skip
 (.exit 0))
 (.seq
 (.block 1
 (.seq
 (.reg [rg 10 (.iad 3 (.t 6) (.t 8)),rg 11 (.load (some 3) (.t 10)),rg 5 (.alloc [(.i .i64 0),(.i .i64 0),(.sl [] .nl)]),so (.store 3 (.t 5) (.t 11))])
 (.drawT [mv 12 3,rg 13 (.fad 0 (.t 5)),rg 14 (.load none (.t 13)),rg 15 (.fad 1 (.t 5)),rg 16 (.load none (.t 15)),rg 17 (.fad 2 (.t 5)),rg 18 (.load none (.t 17)),rg 19 (.app 1 (.c (.sl [] .nl)) (.t 18)),rg 20 (.build [(.i .i64 0),(.i .i64 0),(.sl [] .nl)] [(0,1,(.t 14)),(1,1,(.t 16)),(2,1,(.t 19))]),rg 21 (.bsl 3 [(.i .i64 0),(.i .i64 0),(.sl [] .nl)] 1 [(0,(.t 20))])]
 [rg 22 (.app 3 (.t 12) (.t 21)),mv 3 22])))
 (.reg [rg 23 (.bin .add (.t 8) (.c (.i .i64 1))),mv 8 23]))))
 (.norm false [3,6,7,8]))
def b483:AX:=
 (.seq
 (.reg [rg 2 (.mov (.c (.sl [] .nl)))])
 (.seq
 (.note (.reg [rg 3 (.mov (.c (.sl [] .nl)))]) (.nil 3 3))
 (.seq
 (.seq
 (.reg [mv 6 0,rg 7 (.len (.t 6)),rg 8 (.mov (.c (.i .i64 0)))])
 (.lp 0 (.norm false [3,6,7,8]) l483_0 (.norm false [3])))
 (.seq
 (.reg [mv 24 3,mv 2 24])
 (.pre (.norm false [2]) .ret)))))
def l493_0:AX:=
 (.note
 (.seq
 (.reg [rg 12 (.bin .lss (.t 11) (.t 10))])
 (.seq
 (.cond (.t 12)
 .skip
 (.exit 0))
 (.seq
 (.block 1
 (.seq
 (.reg [rg 13 (.iad 2 (.t 9) (.t 11)),rg 14 (.load (some 2) (.t 13)),rg 5 (.alloc [(.s []),(.sl [] .nl)]),so (.store 2 (.t 5) (.t 14))])
 (.reg [mv 15 3,rg 16 (.fad 1 (.t 5)),rg 17 (.load none (.t 16)),rg 18 (.call 483 [(.t 17)]),rg 19 (.bsl 1 [(.sl [] .nl)] 1 [(0,(.t 18))]),rg 20 (.app 1 (.t 15) (.t 19)),mv 3 20])))
 (.reg [rg 21 (.bin .add (.t 11) (.c (.i .i64 1))),mv 11 21]))))
 (.norm false [1,3,9,10,11]))
def l493_1:AX:=
 (.note
 (.seq
 (.reg [rg 26 (.bin .lss (.t 25) (.t 24))])
 (.seq
 (.cond (.t 26)
 .skip
 (.exit 2))
 (.seq
 (.block 3
 (.seq
 (.reg [rg 27 (.iad 1 (.t 23) (.t 25)),rg 28 (.load none (.t 27)),mv 7 28])
 (.reg [mv 29 3,mv 30 7,rg 31 (.call 483 [(.t 30)]),rg 32 (.bsl 1 [(.sl [] .nl)] 1 [(0,(.t 31))]),rg 33 (.app 1 (.t 29) (.t 32)),mv 3 33])))
 (.reg [rg 34 (.bin .add (.t 25) (.c (.i .i64 1))),mv 25 34]))))
 (.norm false [3,23,24,25]))
def b493:AX:=
 (.seq
 (.reg [rg 1 (.xop (.box 2) [(.t 0)]),rg 2 (.mov (.c (.sl [] .nl)))])
 (.seq
 (.note (.reg [rg 3 (.mov (.c (.sl [] .nl)))]) (.nil 3 1))
 (.seq
 (.seq
 (.reg [rg 8 (.fad 0 (.t 1)),rg 9 (.load none (.t 8)),rg 10 (.len (.t 9)),rg 11 (.mov (.c (.i .i64 0)))])
 (.lp 0 (.norm false [1,3,9,10,11]) l493_0 (.norm false [1,3])))
 (.seq
 (.seq
 (.reg [rg 22 (.fad 1 (.t 1)),rg 23 (.load none (.t 22)),rg 24 (.len (.t 23)),rg 25 (.mov (.c (.i .i64 0)))])
 (.lp 2 (.norm false [3,23,24,25]) l493_1 (.norm false [3])))
 (.seq
 (.reg [mv 35 3,mv 2 35])
 (.pre (.norm false [2]) .ret))))))
def l491_0:AX:=
 (.note
 (.seq
 (.reg [rg 10 (.bin .lss (.t 9) (.t 8))])
 (.seq
 (.cond (.t 10)
 .skip
 (.exit 0))
 (.seq
 (.block 1
 (.seq
 (.reg [rg 11 (.iad 1 (.t 7) (.t 9)),rg 12 (.load none (.t 11)),mv 5 12])
 (.reg [mv 13 3,mv 14 5,rg 15 (.len (.t 14)),rg 16 (.bin .add (.t 13) (.t 15)),mv 3 16])))
 (.reg [rg 17 (.bin .add (.t 9) (.c (.i .i64 1))),mv 9 17]))))
 (.norm false [3,7,8,9]))
def b491:AX:=
 (.seq
 (.reg [rg 1 (.xop (.box 2) [(.t 0)]),rg 2 (.mov (.c (.i .i64 0)))])
 (.seq
 (.reg [rg 3 (.mov (.c (.i .i64 0)))])
 (.seq
 (.seq
 (.reg [rg 6 (.load (some 2) (.t 1)),rg 7 (.call 493 [(.t 6)]),rg 8 (.len (.t 7)),rg 9 (.mov (.c (.i .i64 0)))])
 (.lp 0 (.norm false [3,7,8,9]) l491_0 (.norm false [3])))
 (.seq
 (.reg [mv 18 3,mv 2 18])
 (.pre (.norm false [2]) .ret)))))
def l492_0:AX:=
 (.note
 (.seq
 (.reg [rg 20 (.bin .lss (.t 19) (.t 18))])
 (.seq
 (.cond (.t 20)
 .skip
 (.exit 2))
 (.seq
 (.block 3
 (.seq
 (.reg [mv 21 6,mv 22 3,mv 23 3,rg 24 (.len (.t 23)),rg 25 (.bin .sub (.t 24) (.c (.i .i64 1))),rg 26 (.iad 1 (.t 22) (.t 25)),rg 27 (.load none (.t 26)),rg 28 (.mm true [(.t 21),(.t 27)]),mv 6 28])
 (.reg [mv 29 3,mv 30 3,rg 31 (.len (.t 30)),rg 32 (.bin .sub (.t 31) (.c (.i .i64 1))),rg 33 (.slc 1 (.t 29) none (some (.t 32)) none),mv 3 33])))
 (.reg [rg 34 (.bin .add (.t 19) (.c (.i .i64 1))),mv 19 34]))))
 (.norm false [3,6,10,11,12,18,19]))
def l492_1:AX:=
 (.note
 (.seq
 (.reg [rg 13 (.bin .lss (.t 12) (.t 11))])
 (.seq
 (.cond (.t 13)
 .skip
 (.exit 0))
 (.seq
 (.block 1
 (.seq
 (.reg [rg 14 (.iad 3 (.t 10) (.t 12)),rg 15 (.load (some 3) (.t 14)),rg 5 (.alloc [(.i .i64 0),(.i .i64 0),(.sl [] .nl)]),so (.store 3 (.t 5) (.t 15))])
 (.seq
 (.reg [rg 6 (.mov (.c (.i .i64 0)))])
 (.seq
 (.seq
 (.reg [rg 16 (.fad 0 (.t 5)),rg 17 (.load none (.t 16)),rg 18 (.call 76 [(.t 17)]),rg 19 (.mov (.c (.i .i64 0)))])
 (.lp 2 (.norm false [3,6,10,11,12,18,19]) l492_0 (.norm false [3,6,10,11,12])))
 (.reg [mv 35 3,mv 36 6,rg 37 (.bin .add (.t 36) (.c (.i .i64 1))),rg 38 (.bsl 1 [(.i .i64 0)] 1 [(0,(.t 37))]),rg 39 (.app 1 (.t 35) (.t 38)),mv 3 39])))))
 (.reg [rg 40 (.bin .add (.t 12) (.c (.i .i64 1))),mv 12 40]))))
 (.norm false [3,10,11,12]))
def b492:AX:=
 (.seq
 (.reg [rg 2 (.mov (.c (.i .i64 0)))])
 (.seq
 (.seq
 (.reg [mv 7 0,rg 8 (.call 44 [(.t 7)]),rg 9 (.un .not (.t 8))])
 (.cond (.t 9)
 (.seq
 (.reg [rg 2 (.mov (.c (.i .i64 0)))])
 (.pre (.norm false [2]) .ret))
 .skip))
 (.seq
 (.note (.reg [rg 3 (.mov (.c (.sl [] .nl)))]) (.nil 3 1))
 (.seq
 (.seq
 (.reg [mv 10 0,rg 11 (.len (.t 10)),rg 12 (.mov (.c (.i .i64 0)))])
 (.lp 0 (.norm false [3,10,11,12]) l492_1 (.norm false [3])))
 (.seq
 (.reg [mv 41 3,rg 42 (.iad 1 (.t 41) (.c (.i .i64 0))),rg 43 (.load none (.t 42)),mv 2 43])
 (.pre (.norm false [2]) .ret))))))
def row483:AFx:=⟨1,25,[.t 2],b483,none,false⟩
def row493:AFx:=⟨1,36,[.t 2],b493,none,false⟩
def row491:AFx:=⟨1,19,[.t 2],b491,none,false⟩
def row492:AFx:=⟨1,44,[.t 2],b492,none,false⟩
class Zbp (T:Tbl):Prop where
 h483:T 483=some row483
 h493:T 493=some row493
 h491:T 491=some row491
 h492:T 492=some row492
section
variable{T:Tbl}[Zbp T]{d:Option Nat}{st:St}{xs:List AV}{ps:List Opd}{e:Env}{h:Heap}{ol:List Heap}
@[simp] theorem x483:Zc (orc T) T 483 xs d st=cP T 483 false xs d st:=zaa Zbp.h483
@[simp] theorem x493:Zc (orc T) T 493 xs d st=cP T 493 false xs d st:=zaa Zbp.h493
@[simp] theorem x491:Zc (orc T) T 491 xs d st=cP T 491 false xs d st:=zaa Zbp.h491
@[simp] theorem x492:Zc (orc T) T 492 xs d st=cP T 492 false xs d st:=zaa Zbp.h492
end
def l10_0:AX:=
 (.note
 (.seq
 (.seq
 (.reg [mv 8 7,mv 9 0,rg 10 (.len (.t 9)),rg 11 (.bin .lss (.t 8) (.t 10)),mv 12 11,gd 13 12 true (.mov (.t 7)),gd 14 12 true (.mov (.t 1)),gd 15 12 true (.bin .lss (.t 13) (.t 14)),rg 16 (.pick (.t 12) (.t 15) (.c (.b false)))])
 (.cond (.t 16)
 .skip
 (.exit 0)))
 (.seq
 (.block 1
 (.seq
 (.reg [mv 19 0,mv 20 7,rg 21 (.iad 3 (.t 19) (.t 20)),rg 22 (.fad 2 (.t 21)),rg 23 (.load none (.t 22)),rg 24 (.len (.t 23)),mv 25 2,rg 26 (.bin .gtr (.t 24) (.t 25))])
 (.cond (.t 26)
 (.seq
 (.reg [rg 6 (.mov (.c (.b true)))])
 (.pre (.norm false [6]) .ret))
 .skip)))
 (.reg [mv 17 7,rg 18 (.bin .add (.t 17) (.c (.i .i64 1))),mv 7 18])))
 (.norm false [0,1,2,7]))
def b10:AX:=
 (.seq
 (.reg [rg 6 (.mov (.c (.b false)))])
 (.seq
 (.seq
 (.reg [rg 7 (.mov (.c (.i .i64 0)))])
 (.lp 0 (.norm false [0,1,2,7]) l10_0 (.norm false [0,1])))
 (.seq
 (.reg [mv 27 0,rg 28 (.len (.t 27)),mv 29 1,rg 30 (.bin .gtr (.t 28) (.t 29)),mv 6 30])
 (.pre (.norm false [6]) .ret))))
def row10:AFx:=⟨3,31,[.t 6],b10,none,false⟩
class Ze4 (T:Tbl):Prop where
 h10:T 10=some row10
section
variable{T:Tbl}[Ze4 T]{d:Option Nat}{st:St}{xs:List AV}{ps:List Opd}{e:Env}{h:Heap}{ol:List Heap}
@[simp] theorem x10:Zc (orc T) T 10 xs d st=cP T 10 false xs d st:=zaa Ze4.h10
end
def l13_0:AX:=
 (.note
 (.seq
 (.seq
 (.reg [mv 5 4,mv 6 0,rg 7 (.len (.t 6)),rg 8 (.bin .lss (.t 5) (.t 7))])
 (.cond (.t 8)
 .skip
 (.exit 0)))
 (.seq
 (.block 1
 (.drawT [mv 11 3,mv 12 0,mv 13 4,rg 14 (.iad 3 (.t 12) (.t 13)),rg 15 (.fad 0 (.t 14)),rg 16 (.load none (.t 15)),mv 17 0,mv 18 4,rg 19 (.iad 3 (.t 17) (.t 18)),rg 20 (.fad 1 (.t 19)),rg 21 (.load none (.t 20)),mv 22 0,mv 23 4,rg 24 (.iad 3 (.t 22) (.t 23)),rg 25 (.fad 2 (.t 24)),rg 26 (.load none (.t 25)),rg 27 (.build [(.i .i64 0),(.i .i64 0),(.sl [] .nl)] [(0,1,(.t 16)),(1,1,(.t 21)),(2,1,(.t 26))]),rg 28 (.bsl 3 [(.i .i64 0),(.i .i64 0),(.sl [] .nl)] 1 [(0,(.t 27))])]
 [rg 29 (.app 3 (.t 11) (.t 28)),mv 3 29]))
 (.reg [mv 9 4,rg 10 (.bin .add (.t 9) (.c (.i .i64 1))),mv 4 10])))
 (.norm false [0,3,4]))
def b13:AX:=
 (.seq
 (.reg [rg 2 (.mov (.c (.sl [] .nl)))])
 (.seq
 (.note (.reg [rg 3 (.mov (.c (.sl [] .nl)))]) (.nil 3 3))
 (.seq
 (.seq
 (.reg [rg 4 (.mov (.c (.i .i64 0)))])
 (.lp 0 (.norm false [0,3,4]) l13_0 (.norm false [3])))
 (.seq
 (.reg [mv 30 3,mv 2 30])
 (.pre (.norm false [2]) .ret)))))
def row13:AFx:=⟨1,31,[.t 2],b13,none,false⟩
class Ze3 (T:Tbl):Prop where
 h13:T 13=some row13
section
variable{T:Tbl}[Ze3 T]{d:Option Nat}{st:St}{xs:List AV}{ps:List Opd}{e:Env}{h:Heap}{ol:List Heap}
@[simp] theorem x13:Zc (orc T) T 13 xs d st=cP T 13 false xs d st:=zaa Ze3.h13
@[simp] theorem y13:opD (orc T) T (.call 13 ps) e h ol=dP T 13 false ps e:=zau Ze3.h13
end
def b485:AX:=
 (.seq
 (.reg [rg 3 (.xop (.box 2) [(.t 0)]),rg 6 (.mov (.c (.b false)))])
 (.seq
 (.reg [mv 7 1,rg 8 (.bin .geq (.t 7) (.c (.i .i64 1))),mv 9 8,gd 10 9 true (.mov (.t 1)),gd 11 9 true (.bin .leq (.t 10) (.c (.i .i64 6))),rg 12 (.pick (.t 9) (.t 11) (.c (.b false))),mv 13 12,gd 14 13 true (.mov (.t 2)),gd 15 13 true (.bin .geq (.t 14) (.c (.i .i64 0))),rg 16 (.pick (.t 13) (.t 15) (.c (.b false))),mv 17 16,gd 18 17 true (.mov (.t 2)),gd 19 17 true (.bin .leq (.t 18) (.c (.i .i64 6))),rg 20 (.pick (.t 17) (.t 19) (.c (.b false))),mv 21 20,gd 22 21 true (.fad 1 (.t 3)),gd 23 21 true (.load none (.t 22)),gd 24 21 true (.len (.t 23)),gd 25 21 true (.mov (.t 1)),gd 26 21 true (.bin .eql (.t 24) (.t 25)),rg 27 (.pick (.t 21) (.t 26) (.c (.b false))),mv 28 27,gd 29 28 true (.fad 0 (.t 3)),gd 30 28 true (.load none (.t 29)),gd 31 28 true (.len (.t 30)),gd 32 28 true (.bin .leq (.t 31) (.c (.i .i64 10))),rg 33 (.pick (.t 28) (.t 32) (.c (.b false))),mv 34 33,gd 35 34 true (.load (some 2) (.t 3)),gd 36 34 true (.call 491 [(.t 35)]),gd 37 34 true (.bin .leq (.t 36) (.c (.i .i64 300))),rg 38 (.pick (.t 34) (.t 37) (.c (.b false))),mv 6 38])
 (.pre (.norm false [6]) .ret)))
def b486:AX:=
 (.seq
 (.reg [rg 2 (.mov (.c (.b false)))])
 (.seq
 (.seq
 (.reg [mv 3 0])
 (.block 0
 (.seq
 (.seq
 (.reg [rg 5 (.bin .eql (.t 3) (.c (.s [116]))),mv 4 5])
 (.cond (.t 4)
 .skip
 (.seq
 (.reg [rg 6 (.bin .eql (.t 3) (.c (.s [121]))),mv 4 6])
 (.cond (.t 4)
 .skip
 (.seq
 (.reg [rg 7 (.bin .eql (.t 3) (.c (.s [112]))),mv 4 7])
 (.cond (.t 4)
 .skip
 (.reg [rg 8 (.bin .eql (.t 3) (.c (.s [108,101,116]))),mv 4 8])))))))
 (.cond (.t 4)
 (.seq
 (.reg [rg 2 (.mov (.c (.b false)))])
 (.pre (.norm false [2]) .ret))
 .skip))))
 (.seq
 (.reg [mv 9 0,rg 10 (.build [(.i .i64 0),(.s []),(.i .i64 0)] [(0,1,(.c (.i .i64 2))),(1,1,(.t 9))]),rg 11 (.call 172 [(.t 10)]),mv 2 11])
 (.pre (.norm false [2]) .ret))))
def l487_0:AX:=
 (.note
 (.seq
 (.reg [rg 8 (.bin .lss (.t 7) (.t 6))])
 (.seq
 (.cond (.t 8)
 .skip
 (.exit 0))
 (.seq
 (.block 1
 (.seq
 (.reg [mv 9 7,mv 5 9])
 (.seq
 (.drawT [mv 10 0,mv 11 5,rg 12 (.iad 2 (.t 10) (.t 11)),rg 13 (.fad 0 (.t 12)),rg 14 (.load none (.t 13)),mv 15 0,mv 16 1,rg 17 (.iad 2 (.t 15) (.t 16)),rg 18 (.fad 0 (.t 17)),rg 19 (.load none (.t 18))]
 [rg 20 (.bin .eql (.t 14) (.t 19))])
 (.cond (.t 20)
 (.seq
 (.reg [rg 4 (.mov (.c (.b true)))])
 (.pre (.norm false [4]) .ret))
 .skip))))
 (.reg [rg 21 (.bin .add (.t 7) (.c (.i .i64 1))),mv 7 21]))))
 (.norm false [0,1,6,7]))
def b487:AX:=
 (.seq
 (.reg [rg 4 (.mov (.c (.b false)))])
 (.seq
 (.seq
 (.reg [mv 6 1,rg 7 (.mov (.c (.i .i64 0)))])
 (.lp 0 (.norm false [0,1,6,7]) l487_0 (.norm false [])))
 (.seq
 (.reg [rg 4 (.mov (.c (.b false)))])
 (.pre (.norm false [4]) .ret))))
def b488:AX:=
 (.seq
 (.reg [rg 10 (.alloc [(.i .i64 0),(.i .i64 0),(.i .i64 0),(.i .i64 0)])])
 (.seq
 (.reg [mv 12 0,mv 13 2,mv 14 3,mv 15 4,rg 16 (.call 46 [(.t 12),(.t 13),(.t 14),(.t 15)]),mv 11 16])
 (.seq
 (.seq
 (.reg [mv 17 11,rg 18 (.bin .lss (.t 17) (.c (.i .i64 0))),mv 19 18,gd 20 19 true (.mov (.t 0)),gd 21 19 true (.call 492 [(.t 20)]),gd 22 19 true (.bin .gtr (.t 21) (.c (.i .i64 40))),rg 23 (.pick (.t 19) (.t 22) (.c (.b false)))])
 (.cond (.t 23)
 (.reg [mv 24 0,rg 25 (.len (.t 24)),mv 11 25])
 .skip))
 (.seq
 (.seq
 (.reg [mv 26 11,rg 27 (.bin .lss (.t 26) (.c (.i .i64 0)))])
 (.cond (.t 27)
 (.seq
 (.reg [rg 28 (.build [(.i .i64 0),(.i .i64 0),(.i .i64 0),(.i .i64 0)] []),so (.store 4 (.t 10) (.t 28))])
 (.pre (.norm false [10]) .ret))
 .skip))
 (.seq
 (.reg [mv 29 1,mv 30 11,rg 31 (.build [(.i .i64 0),(.i .i64 0),(.i .i64 0),(.i .i64 0)] [(0,1,(.c (.i .i64 2))),(1,1,(.t 29)),(3,1,(.t 30))]),so (.store 4 (.t 10) (.t 31))])
 (.pre (.norm false [10]) .ret))))))
def l477_0:AX:=
 (.note
 (.seq
 (.reg [rg 23 (.bin .lss (.t 22) (.t 21))])
 (.seq
 (.cond (.t 23)
 .skip
 (.exit 0))
 (.seq
 (.block 1
 (.seq
 (.reg [mv 24 22,rg 25 (.iad 2 (.t 20) (.t 22)),rg 26 (.load (some 2) (.t 25)),rg 8 (.alloc [(.s []),(.sl [] .nl)]),mv 7 24,so (.store 2 (.t 8) (.t 26))])
 (.seq
 (.seq
 (.reg [rg 27 (.fad 0 (.t 8)),rg 28 (.load none (.t 27)),rg 29 (.call 486 [(.t 28)]),rg 30 (.un .not (.t 29)),mv 31 30,gd 32 31 false (.fad 0 (.t 3)),gd 33 31 false (.load none (.t 32)),gd 34 31 false (.mov (.t 7)),gd 35 31 false (.call 487 [(.t 33),(.t 34)]),rg 36 (.pick (.t 31) (.c (.b true)) (.t 35))])
 (.cond (.t 36)
 (.seq
 (.reg [mv 37 7,rg 38 (.bin .add (.t 37) (.c (.i .i64 1))),rg 39 (.build [(.i .i64 0),(.i .i64 0),(.i .i64 0),(.i .i64 0)] [(0,1,(.c (.i .i64 2))),(1,1,(.t 38)),(2,1,(.c (.i .i64 1)))]),so (.store 4 (.t 6) (.t 39))])
 (.pre (.norm false [6]) .ret))
 .skip))
 (.seq
 (.reg [rg 40 (.fad 1 (.t 8)),rg 41 (.load none (.t 40)),mv 42 7,rg 43 (.bin .add (.t 42) (.c (.i .i64 1))),mv 44 1,mv 45 2,mv 46 7,rg 47 (.call 488 [(.t 41),(.t 43),(.t 44),(.t 45),(.t 46)]),rg 9 (.alloc [(.i .i64 0),(.i .i64 0),(.i .i64 0),(.i .i64 0)]),so (.store 4 (.t 9) (.t 47))])
 (.seq
 (.reg [rg 48 (.load (some 4) (.t 9)),rg 49 (.build [(.i .i64 0),(.i .i64 0),(.i .i64 0),(.i .i64 0)] []),rg 50 (.eqs true [(0,.int),(1,.int),(2,.int),(3,.int)] (.t 48) (.t 49))])
 (.cond (.t 50)
 (.seq
 (.reg [rg 51 (.load (some 4) (.t 9)),so (.store 4 (.t 6) (.t 51))])
 (.pre (.norm false [6]) .ret))
 .skip))))))
 (.reg [rg 52 (.bin .add (.t 22) (.c (.i .i64 1))),mv 22 52]))))
 (.norm false [1,2,3,6,20,21,22]))
def l477_1:AX:=
 (.note
 (.seq
 (.reg [rg 57 (.bin .lss (.t 56) (.t 55))])
 (.seq
 (.cond (.t 57)
 .skip
 (.exit 2))
 (.seq
 (.block 3
 (.seq
 (.reg [mv 58 56,rg 59 (.iad 1 (.t 54) (.t 56)),rg 60 (.load none (.t 59)),mv 10 58,mv 11 60])
 (.seq
 (.reg [mv 61 11,rg 62 (.fad 0 (.t 3)),rg 63 (.load none (.t 62)),rg 64 (.len (.t 63)),mv 65 10,rg 66 (.bin .add (.t 64) (.t 65)),rg 67 (.bin .add (.t 66) (.c (.i .i64 1))),mv 68 1,mv 69 2,rg 70 (.fad 0 (.t 3)),rg 71 (.load none (.t 70)),rg 72 (.len (.t 71)),rg 73 (.call 488 [(.t 61),(.t 67),(.t 68),(.t 69),(.t 72)]),rg 12 (.alloc [(.i .i64 0),(.i .i64 0),(.i .i64 0),(.i .i64 0)]),so (.store 4 (.t 12) (.t 73))])
 (.seq
 (.reg [rg 74 (.load (some 4) (.t 12)),rg 75 (.build [(.i .i64 0),(.i .i64 0),(.i .i64 0),(.i .i64 0)] []),rg 76 (.eqs true [(0,.int),(1,.int),(2,.int),(3,.int)] (.t 74) (.t 75))])
 (.cond (.t 76)
 (.seq
 (.reg [rg 77 (.load (some 4) (.t 12)),so (.store 4 (.t 6) (.t 77))])
 (.pre (.norm false [6]) .ret))
 .skip)))))
 (.reg [rg 78 (.bin .add (.t 56) (.c (.i .i64 1))),mv 56 78]))))
 (.norm false [1,2,3,6,54,55,56]))
def b477:AX:=
 (.seq
 (.reg [rg 3 (.xop (.box 2) [(.t 0)]),rg 6 (.alloc [(.i .i64 0),(.i .i64 0),(.i .i64 0),(.i .i64 0)])])
 (.seq
 (.seq
 (.reg [rg 13 (.load (some 2) (.t 3)),mv 14 1,mv 15 2,rg 16 (.call 485 [(.t 13),(.t 14),(.t 15)]),rg 17 (.un .not (.t 16))])
 (.cond (.t 17)
 (.seq
 (.reg [rg 18 (.build [(.i .i64 0),(.i .i64 0),(.i .i64 0),(.i .i64 0)] [(0,1,(.c (.i .i64 2)))]),so (.store 4 (.t 6) (.t 18))])
 (.pre (.norm false [6]) .ret))
 .skip))
 (.seq
 (.seq
 (.reg [rg 19 (.fad 0 (.t 3)),rg 20 (.load none (.t 19)),rg 21 (.len (.t 20)),rg 22 (.mov (.c (.i .i64 0)))])
 (.lp 0 (.norm false [1,2,3,6,20,21,22]) l477_0 (.norm false [1,2,3,6])))
 (.seq
 (.seq
 (.reg [rg 53 (.fad 1 (.t 3)),rg 54 (.load none (.t 53)),rg 55 (.len (.t 54)),rg 56 (.mov (.c (.i .i64 0)))])
 (.lp 2 (.norm false [1,2,3,6,54,55,56]) l477_1 (.norm false [6])))
 (.seq
 (.reg [rg 79 (.build [(.i .i64 0),(.i .i64 0),(.i .i64 0),(.i .i64 0)] []),so (.store 4 (.t 6) (.t 79))])
 (.pre (.norm false [6]) .ret))))))
def row485:AFx:=⟨3,39,[.t 6],b485,none,false⟩
def row486:AFx:=⟨1,12,[.t 2],b486,none,false⟩
def row487:AFx:=⟨2,22,[.t 4],b487,none,false⟩
def row488:AFx:=⟨5,32,[.cell 10 (some 4)],b488,none,false⟩
def row477:AFx:=⟨3,80,[.cell 6 (some 4)],b477,none,false⟩
class Zbi (T:Tbl):Prop where
 h485:T 485=some row485
 h486:T 486=some row486
 h487:T 487=some row487
 h488:T 488=some row488
 h477:T 477=some row477
section
variable{T:Tbl}[Zbi T]{d:Option Nat}{st:St}{xs:List AV}{ps:List Opd}{e:Env}{h:Heap}{ol:List Heap}
@[simp] theorem x485:Zc (orc T) T 485 xs d st=cP T 485 false xs d st:=zaa Zbi.h485
@[simp] theorem x486:Zc (orc T) T 486 xs d st=cP T 486 false xs d st:=zaa Zbi.h486
@[simp] theorem x487:Zc (orc T) T 487 xs d st=cP T 487 false xs d st:=zaa Zbi.h487
@[simp] theorem x488:Zc (orc T) T 488 xs d st=cP T 488 false xs d st:=zaa Zbi.h488
@[simp] theorem x477:Zc (orc T) T 477 xs d st=cP T 477 false xs d st:=zaa Zbi.h477
end
def isD(c:UInt8):Bool:=decide (48≤c.toNat)&&decide (c.toNat≤57)
def isL(c:UInt8):Bool:=decide (97≤c.toNat)&&decide (c.toNat≤122) || decide (65≤c.toNat)&&decide (c.toNat≤90) || decide (c.toNat=95)
def Zjv:List UInt8:=[43,45,42,47,94,40,41,91,93,44,59,61]
def isS(c:UInt8):Bool:=Zjv.contains c
def Zbf(c:UInt8):Nat:=if isD c then 1 else if isL c then 2 else if isS c then 3 else 0
def Zge(k:Nat)(c:UInt8):Bool:=decide (k=1)&&isD c || decide (k=2)&&(isL c || isD c)
def Zfc(k:Nat):Nat:=if k=1 then 60 else if k=2 then 12 else 1
def isB(c:UInt8):Bool:=decide (c=32) || decide (c=9) || decide (c=10) || decide (c=13)
abbrev Wd:=Nat×List UInt8×Nat
def Zi8:Bool→List UInt8→Nat
 | _,[]=>0
 | note,c::r=>
  let note':=if c=35 then true else if c=10 then false else note
  if (note' || isB c)=true then 1+Zi8 note' r else 0
def Zdg(k:Nat)(r:List UInt8):Nat:=1+(r.takeWhile (Zge k)).length
def Zly(l:List UInt8)(i:Nat)(acc:List Wd):Except Nat (List Wd):=
 match l with
 | []=>.ok acc
 | c::r=>
  if Zbf c=0 then .error i
  else if Zfc (Zbf c)<Zdg (Zbf c) r then .error (i+Zfc (Zbf c))
  else Zly ((r.drop (Zdg (Zbf c) r-1)).drop (Zi8 false (r.drop (Zdg (Zbf c) r-1)))) (i+Zdg (Zbf c) r+Zi8 false (r.drop (Zdg (Zbf c) r-1)))
   (acc++[(Zbf c,(c::r).take (Zdg (Zbf c) r),i)])
termination_by l.length
decreasing_by grind
def Zk6(c:UInt8)(i:Nat)(acc:List Wd):List Wd:=
 match acc.getLast? with
 | some (k,t,a)=>if a+t.length=i∧Zge k c=true then acc.dropLast++[(k,t++[c],a)] else acc++[(Zbf c,[c],i)]
 | none=>acc++[(Zbf c,[c],i)]
def Zmy(acc:List Wd):Bool:=
 match acc.getLast? with
 | some (k,t,_)=>decide (k=0) || decide (Zfc k<t.length)
 | none=>false
def Zmz:List UInt8→Nat→Bool→List Wd→Except Nat (List Wd)
 | [],_,_,acc=>.ok acc
 | c::r,i,note,acc=>
  let note':=if c=35 then true else if c=10 then false else note
  if (note' || isB c)=true then Zmz r (i+1) note' acc
  else if Zmy (Zk6 c i acc)=true then .error i
  else Zmz r (i+1) note' (Zk6 c i acc)
def Zo7(acc:List Wd)(i:Nat)(l:List UInt8):Prop:=∀k t a,acc.getLast? = some (k,t,a)→a+t.length=i→∀c r,l=c::r→Zge k c=false
def prim187:List AV→Option AV
 | [.i .u8 n]=>if 0≤n∧n<256 then some (.b (isS (UInt8.ofNat n.toNat))) else none
 | _=>none
theorem zti(c:UInt8):prim187 [u8 c.toNat]=some (.b (isS c)):=by
 have:=c.toNat_lt;simp only[prim187,u8];rw[if_pos ⟨by omega,by omega⟩];simp
def prim184:List AV→Option AV
 | [.s l,.s [c]]=>if l.length≤1000000 then some (.tup [.s (l.takeWhile (· != c)),.s ((l.dropWhile (· != c)).drop 1),.b (l.contains c)]) else none
 | _=>none
def textOf:List AV→Option (List UInt8)
 | [.s l]=>if l.length≤10000 then some l else none
 | _=>none
def prim183:List AV→Option AV
 | [.sl els .an,.s sep]=>if els.length≤1000∧sep.length≤100 then (els.mapM textOf).map fun ts=>.s (List.intercalate sep ts) else none
 | _=>none
def Zbu(l:List (List UInt8)):List (List AV):=l.map fun s=>[.s s]
@[simp] theorem zc7(l:List (List UInt8)):(Zbu l).length=l.length:=by simp[Zbu]
@[simp] theorem z0m(l:List (List UInt8)):wkL (Zbu l)=Zbu l:=by
 induction l with
 | nil=>rfl
 | cons x l ih=>simpa[Zbu,wkL,wkR]using ih
theorem ztj(l:List (List UInt8))(s:List UInt8):wkL (List.take l.length (Zbu l)++[[AV.s s]])=Zbu (l++[s]):=by
 rw[Yb (by simp),show Zbu l++[[AV.s s]]=Zbu (l++[s]) by simp[Zbu],z0m]
theorem zpi(l:List (List UInt8))(h:∀s∈l,s.length≤10000):(Zbu l).mapM textOf=some l:=by
 induction l with
 | nil=>rfl
 | cons x l ih=>
  grind[textOf,Zbu]
theorem zj1:∀{els:List (List AV)} {ts:List (List UInt8)},els.mapM textOf=some ts→els=Zbu ts∧∀t∈ts,t.length≤10000
 | [],ts,h=>by cases h;exact⟨rfl,by simp⟩
 | r::els,ts,h=>by
  rw[Ybh]at h;obtain⟨x,hx,h1⟩:=bind_some h;obtain⟨y,hy,h2⟩:=bind_some h1;cases h2;obtain⟨e1,e2⟩:=zj1 hy;unfold textOf at hx;split at hx
  ·split at hx
   ·cases hx;rename_i hl;subst e1;exact⟨rfl,fun t ht=>(Y6.1 ht).elim (fun h=>h▸hl) (e2 t)⟩
   ·cases hx
  ·cases hx
theorem ztk(l:List (List UInt8))(sep:List UInt8)(h:∀s∈l,s.length≤10000)(hl:l.length≤1000)(hs:sep.length≤100):prim183 [.sl (Zbu l) .an,.s sep]=some (.s (List.intercalate sep l)):=by
 grind[prim183,zc7,zpi]
def row183:AFx:=⟨0,0,[],.prim prim183,none,false⟩
class Zbz (T:Tbl):Prop where
 h183:T 183=some row183
section
variable{T:Tbl}[Zbz T]{d:Option Nat}{st:St}{xs:List AV}{ps:List Opd}{e:Env}{h:Heap}{ol:List Heap}
@[simp] theorem x183:Zc (orc T) T 183 xs d st=cP T 183 false xs d st:=zaa Zbz.h183
theorem p183(xs:List AV):Za T 183 xs=prim183 xs:=zf2 Zbz.h183
end
def b185:AX:=
 (.seq
 (.reg [rg 2 (.mov (.c (.b false)))])
 (.seq
 (.reg [mv 3 0,rg 4 (.bin .geq (.t 3) (.c (u8 48))),mv 5 4,gd 6 5 true (.mov (.t 0)),gd 7 5 true (.bin .leq (.t 6) (.c (u8 57))),rg 8 (.pick (.t 5) (.t 7) (.c (.b false))),mv 2 8])
 (.pre (.norm false [2]) .ret)))
def b186:AX:=
 (.seq
 (.reg [rg 2 (.mov (.c (.b false)))])
 (.seq
 (.reg [mv 3 0,rg 4 (.bin .geq (.t 3) (.c (u8 97))),mv 5 4,gd 6 5 true (.mov (.t 0)),gd 7 5 true (.bin .leq (.t 6) (.c (u8 122))),rg 8 (.pick (.t 5) (.t 7) (.c (.b false))),mv 9 8,gd 10 9 false (.mov (.t 0)),gd 11 9 false (.bin .geq (.t 10) (.c (u8 65))),gd 12 9 false (.mov (.t 11)),gd 13 12 true (.mov (.t 0)),gd 14 12 true (.bin .leq (.t 13) (.c (u8 90))),gd 15 9 false (.pick (.t 12) (.t 14) (.c (.b false))),rg 16 (.pick (.t 9) (.c (.b true)) (.t 15)),mv 17 16,gd 18 17 false (.mov (.t 0)),gd 19 17 false (.bin .eql (.t 18) (.c (u8 95))),rg 20 (.pick (.t 17) (.c (.b true)) (.t 19)),mv 2 20])
 (.pre (.norm false [2]) .ret)))
def b177:AX:=
 (.seq
 (.reg [rg 2 (.mov (.c (.i .i64 0)))])
 (.seq
 (.block 0
 (.seq
 (.reg [mv 4 0,rg 5 (.call 185 [(.t 4)]),mv 3 5])
 (.cond (.t 3)
 (.seq
 (.reg [rg 2 (.mov (.c (.i .i64 1)))])
 (.pre (.norm false [2]) .ret))
 (.seq
 (.reg [mv 7 0,rg 8 (.call 186 [(.t 7)]),mv 6 8])
 (.cond (.t 6)
 (.seq
 (.reg [rg 2 (.mov (.c (.i .i64 2)))])
 (.pre (.norm false [2]) .ret))
 (.seq
 (.reg [mv 10 0,rg 11 (.call 187 [(.t 10)]),mv 9 11])
 (.cond (.t 9)
 (.seq
 (.reg [rg 2 (.mov (.c (.i .i64 3)))])
 (.pre (.norm false [2]) .ret))
 .skip)))))))
 (.seq
 (.reg [rg 2 (.mov (.c (.i .i64 0)))])
 (.pre (.norm false [2]) .ret))))
def b188:AX:=
 (.seq
 (.reg [rg 4 (.mov (.c (.b false)))])
 (.seq
 (.reg [mv 5 0,rg 6 (.bin .eql (.t 5) (.c (.i .i64 1))),mv 7 6,gd 8 7 true (.mov (.t 1)),gd 9 7 true (.call 185 [(.t 8)]),rg 10 (.pick (.t 7) (.t 9) (.c (.b false))),mv 11 10,gd 12 11 false (.mov (.t 0)),gd 13 11 false (.bin .eql (.t 12) (.c (.i .i64 2))),gd 14 11 false (.mov (.t 13)),gd 15 14 true (.mov (.t 1)),gd 16 14 true (.call 186 [(.t 15)]),gd 17 14 true (.mov (.t 16)),gd 18 17 false (.mov (.t 1)),gd 19 17 false (.call 185 [(.t 18)]),gd 20 14 true (.pick (.t 17) (.c (.b true)) (.t 19)),gd 21 11 false (.pick (.t 14) (.t 20) (.c (.b false))),rg 22 (.pick (.t 11) (.c (.b true)) (.t 21)),mv 4 22])
 (.pre (.norm false [4]) .ret)))
def b179:AX:=
 (.seq
 (.reg [rg 2 (.mov (.c (.i .i64 0)))])
 (.seq
 (.seq
 (.reg [mv 3 0])
 (.block 0
 (.seq
 (.reg [rg 5 (.bin .eql (.t 3) (.c (.i .i64 1))),mv 4 5])
 (.cond (.t 4)
 (.seq
 (.reg [rg 2 (.mov (.c (.i .i64 60)))])
 (.pre (.norm false [2]) .ret))
 (.seq
 (.reg [rg 7 (.bin .eql (.t 3) (.c (.i .i64 2))),mv 6 7])
 (.cond (.t 6)
 (.seq
 (.reg [rg 2 (.mov (.c (.i .i64 12)))])
 (.pre (.norm false [2]) .ret))
 .skip))))))
 (.seq
 (.reg [rg 2 (.mov (.c (.i .i64 1)))])
 (.pre (.norm false [2]) .ret))))
def l178_0:AX:=
 (.note
 (.seq
 (.seq
 (.reg [mv 6 5,mv 7 0,rg 8 (.lens (.t 7)),rg 9 (.bin .lss (.t 6) (.t 8)),mv 10 9,gd 11 10 true (.mov (.t 1)),gd 12 10 true (.mov (.t 0)),gd 13 10 true (.mov (.t 5)),gd 14 10 true (.ixs (.t 12) (.t 13)),gd 15 10 true (.call 188 [(.t 11),(.t 14)]),rg 16 (.pick (.t 10) (.t 15) (.c (.b false)))])
 (.cond (.t 16)
 .skip
 (.exit 0)))
 (.block 1
 (.reg [mv 17 5,rg 18 (.bin .add (.t 17) (.c (.i .i64 1))),mv 5 18])))
 (.norm false [0,1,5]))
def b178:AX:=
 (.seq
 (.reg [rg 4 (.mov (.c (.i .i64 0)))])
 (.seq
 (.reg [rg 5 (.mov (.c (.i .i64 1)))])
 (.seq
 (.lp 0 (.norm false [0,1,5]) l178_0 (.norm false [5]))
 (.seq
 (.reg [mv 19 5,mv 4 19])
 (.pre (.norm false [4]) .ret)))))
def b172:AX:=
 (.seq
 (.reg [rg 1 (.xop (.box 3) [(.t 0)]),rg 2 (.mov (.c (.b false)))])
 (.seq
 (.seq
 (.drawT [rg 3 (.fad 1 (.t 1)),rg 4 (.load none (.t 3)),rg 5 (.bin .eql (.t 4) (.c (.s []))),mv 6 5,gd 7 6 false (.fad 0 (.t 1)),gd 8 6 false (.load none (.t 7)),gd 9 6 false (.bin .eql (.t 8) (.c (.i .i64 0))),rg 10 (.pick (.t 6) (.c (.b true)) (.t 9)),mv 11 10,gd 12 11 false (.fad 1 (.t 1)),gd 13 11 false (.load none (.t 12)),gd 14 11 false (.ixs (.t 13) (.c (.i .i64 0))),gd 15 11 false (.call 177 [(.t 14)]),gd 16 11 false (.fad 0 (.t 1)),gd 17 11 false (.load none (.t 16))]
 [gd 18 11 false (.bin .neq (.t 15) (.t 17)),rg 19 (.pick (.t 11) (.c (.b true)) (.t 18))])
 (.cond (.t 19)
 (.seq
 (.reg [rg 2 (.mov (.c (.b false)))])
 (.pre (.norm false [2]) .ret))
 .skip))
 (.seq
 (.drawT [rg 20 (.fad 1 (.t 1)),rg 21 (.load none (.t 20)),rg 22 (.fad 0 (.t 1)),rg 23 (.load none (.t 22)),rg 24 (.call 178 [(.t 21),(.t 23)]),rg 25 (.fad 1 (.t 1)),rg 26 (.load none (.t 25)),rg 27 (.lens (.t 26)),rg 28 (.bin .eql (.t 24) (.t 27)),mv 29 28,gd 30 29 true (.fad 1 (.t 1)),gd 31 29 true (.load none (.t 30)),gd 32 29 true (.lens (.t 31)),gd 33 29 true (.fad 0 (.t 1)),gd 34 29 true (.load none (.t 33)),gd 35 29 true (.call 179 [(.t 34)])]
 [gd 36 29 true (.bin .leq (.t 32) (.t 35)),rg 37 (.pick (.t 29) (.t 36) (.c (.b false))),mv 2 37])
 (.pre (.norm false [2]) .ret))))
def row185:AFx:=⟨1,9,[.t 2],b185,none,false⟩
def row186:AFx:=⟨1,21,[.t 2],b186,none,false⟩
def row187:AFx:=⟨0,0,[],.prim prim187,none,false⟩
def row177:AFx:=⟨1,12,[.t 2],b177,none,false⟩
def row188:AFx:=⟨2,23,[.t 4],b188,none,false⟩
def row179:AFx:=⟨1,8,[.t 2],b179,none,false⟩
def row178:AFx:=⟨2,20,[.t 4],b178,none,false⟩
def row172:AFx:=⟨1,38,[.t 2],b172,none,false⟩
class Zc2 (T:Tbl):Prop where
 h185:T 185=some row185
 h186:T 186=some row186
 h187:T 187=some row187
 h177:T 177=some row177
 h188:T 188=some row188
 h179:T 179=some row179
 h178:T 178=some row178
 h172:T 172=some row172
section
variable{T:Tbl}[Zc2 T]{d:Option Nat}{st:St}{xs:List AV}{ps:List Opd}{e:Env}{h:Heap}{ol:List Heap}
@[simp] theorem x185:Zc (orc T) T 185 xs d st=cP T 185 false xs d st:=zaa Zc2.h185
@[simp] theorem x186:Zc (orc T) T 186 xs d st=cP T 186 false xs d st:=zaa Zc2.h186
@[simp] theorem x187:Zc (orc T) T 187 xs d st=cP T 187 false xs d st:=zaa Zc2.h187
theorem p187(xs:List AV):Za T 187 xs=prim187 xs:=zf2 Zc2.h187
@[simp] theorem y177:opD (orc T) T (.call 177 ps) e h ol=dP T 177 false ps e:=zau Zc2.h177
@[simp] theorem x188:Zc (orc T) T 188 xs d st=cP T 188 false xs d st:=zaa Zc2.h188
@[simp] theorem y179:opD (orc T) T (.call 179 ps) e h ol=dP T 179 false ps e:=zau Zc2.h179
@[simp] theorem y178:opD (orc T) T (.call 178 ps) e h ol=dP T 178 false ps e:=zau Zc2.h178
@[simp] theorem x172:Zc (orc T) T 172 xs d st=cP T 172 false xs d st:=zaa Zc2.h172
end
class Zl5 (T:Tbl):Prop where
def l466_0:AX:=
 (.note
 (.seq
 (.seq
 (.reg [mv 23 9,rg 24 (.fad 0 (.t 4)),rg 25 (.load none (.t 24)),rg 26 (.len (.t 25)),rg 27 (.bin .lss (.t 23) (.t 26))])
 (.cond (.t 27)
 .skip
 (.exit 0)))
 (.seq
 (.block 1
 (.seq
 (.reg [rg 30 (.fad 0 (.t 4)),rg 31 (.load none (.t 30)),mv 32 9,rg 33 (.iad 2 (.t 31) (.t 32)),rg 34 (.fad 0 (.t 33)),rg 35 (.load none (.t 34)),rg 36 (.lens (.t 35)),rg 37 (.bin .gtr (.t 36) (.c (.i .i64 100))),mv 38 37,gd 39 38 false (.fad 0 (.t 4)),gd 40 38 false (.load none (.t 39)),gd 41 38 false (.mov (.t 9)),gd 42 38 false (.iad 2 (.t 40) (.t 41)),gd 43 38 false (.fad 1 (.t 42)),gd 44 38 false (.load none (.t 43)),gd 45 38 false (.mov (.t 2)),gd 46 38 false (.mov (.t 3)),gd 47 38 false (.call 10 [(.t 44),(.t 45),(.t 46)]),rg 48 (.pick (.t 38) (.c (.b true)) (.t 47))])
 (.cond (.t 48)
 (.seq
 (.reg [rg 8 (.mov (.c (.b true)))])
 (.pre (.norm false [8]) .ret))
 .skip)))
 (.reg [mv 28 9,rg 29 (.bin .add (.t 28) (.c (.i .i64 1))),mv 9 29])))
 (.norm false [2,3,4,9]))
def l466_1:AX:=
 (.note
 (.seq
 (.seq
 (.reg [mv 49 10,rg 50 (.fad 1 (.t 4)),rg 51 (.load none (.t 50)),rg 52 (.len (.t 51)),rg 53 (.bin .lss (.t 49) (.t 52))])
 (.cond (.t 53)
 .skip
 (.exit 2)))
 (.seq
 (.block 3
 (.seq
 (.reg [rg 56 (.fad 1 (.t 4)),rg 57 (.load none (.t 56)),mv 58 10,rg 59 (.iad 1 (.t 57) (.t 58)),rg 60 (.load none (.t 59)),mv 61 2,mv 62 3,rg 63 (.call 10 [(.t 60),(.t 61),(.t 62)])])
 (.cond (.t 63)
 (.seq
 (.reg [rg 8 (.mov (.c (.b true)))])
 (.pre (.norm false [8]) .ret))
 .skip)))
 (.reg [mv 54 10,rg 55 (.bin .add (.t 54) (.c (.i .i64 1))),mv 10 55])))
 (.norm false [2,3,4,10]))
def b466:AX:=
 (.seq
 (.reg [rg 4 (.xop (.box 2) [(.t 0)]),rg 8 (.mov (.c (.b false)))])
 (.seq
 (.seq
 (.reg [rg 11 (.fad 0 (.t 4)),rg 12 (.load none (.t 11)),rg 13 (.len (.t 12)),mv 14 1,rg 15 (.bin .gtr (.t 13) (.t 14)),mv 16 15,gd 17 16 false (.fad 1 (.t 4)),gd 18 16 false (.load none (.t 17)),gd 19 16 false (.len (.t 18)),gd 20 16 false (.mov (.t 1)),gd 21 16 false (.bin .gtr (.t 19) (.t 20)),rg 22 (.pick (.t 16) (.c (.b true)) (.t 21))])
 (.cond (.t 22)
 (.seq
 (.reg [rg 8 (.mov (.c (.b true)))])
 (.pre (.norm false [8]) .ret))
 .skip))
 (.seq
 (.seq
 (.reg [rg 9 (.mov (.c (.i .i64 0)))])
 (.lp 0 (.norm false [2,3,4,9]) l466_0 (.norm false [2,3,4])))
 (.seq
 (.seq
 (.reg [rg 10 (.mov (.c (.i .i64 0)))])
 (.lp 2 (.norm false [2,3,4,10]) l466_1 (.norm false [])))
 (.seq
 (.reg [rg 8 (.mov (.c (.b false)))])
 (.pre (.norm false [8]) .ret))))))
def row466:AFx:=⟨4,64,[.t 8],b466,none,false⟩
class Ze5 (T:Tbl):Prop where
 h466:T 466=some row466
section
variable{T:Tbl}[Ze5 T]{d:Option Nat}{st:St}{xs:List AV}{ps:List Opd}{e:Env}{h:Heap}{ol:List Heap}
@[simp] theorem x466:Zc (orc T) T 466 xs d st=cP T 466 false xs d st:=zaa Ze5.h466
end
def l468_0:AX:=
 (.note
 (.seq
 (.seq
 (.reg [mv 6 4,rg 7 (.fad 0 (.t 1)),rg 8 (.load none (.t 7)),rg 9 (.len (.t 8)),rg 10 (.bin .lss (.t 6) (.t 9))])
 (.cond (.t 10)
 .skip
 (.exit 0)))
 (.seq
 (.block 1
 (.drawT [rg 13 (.fad 0 (.t 3)),rg 14 (.load none (.t 13)),rg 15 (.fad 0 (.t 1)),rg 16 (.load none (.t 15)),mv 17 4,rg 18 (.iad 2 (.t 16) (.t 17)),rg 19 (.fad 0 (.t 18)),rg 20 (.load none (.t 19)),rg 21 (.fad 0 (.t 1)),rg 22 (.load none (.t 21)),mv 23 4,rg 24 (.iad 2 (.t 22) (.t 23)),rg 25 (.fad 1 (.t 24)),rg 26 (.load none (.t 25)),rg 27 (.call 13 [(.t 26)]),rg 28 (.build [(.s []),(.sl [] .nl)] [(0,1,(.t 20)),(1,1,(.t 27))]),rg 29 (.bsl 2 [(.s []),(.sl [] .nl)] 1 [(0,(.t 28))])]
 [rg 30 (.app 2 (.t 14) (.t 29)),rg 31 (.fad 0 (.t 3)),so (.store 1 (.t 31) (.t 30))]))
 (.reg [mv 11 4,rg 12 (.bin .add (.t 11) (.c (.i .i64 1))),mv 4 12])))
 (.norm false [1,2,3,4]))
def l468_1:AX:=
 (.note
 (.seq
 (.seq
 (.reg [mv 32 5,rg 33 (.fad 1 (.t 1)),rg 34 (.load none (.t 33)),rg 35 (.len (.t 34)),rg 36 (.bin .lss (.t 32) (.t 35))])
 (.cond (.t 36)
 .skip
 (.exit 2)))
 (.seq
 (.block 3
 (.drawT [rg 39 (.fad 1 (.t 3)),rg 40 (.load none (.t 39)),rg 41 (.fad 1 (.t 1)),rg 42 (.load none (.t 41)),mv 43 5,rg 44 (.iad 1 (.t 42) (.t 43)),rg 45 (.load none (.t 44)),rg 46 (.call 13 [(.t 45)]),rg 47 (.bsl 1 [(.sl [] .nl)] 1 [(0,(.t 46))])]
 [rg 48 (.app 1 (.t 40) (.t 47)),rg 49 (.fad 1 (.t 3)),so (.store 1 (.t 49) (.t 48))]))
 (.reg [mv 37 5,rg 38 (.bin .add (.t 37) (.c (.i .i64 1))),mv 5 38])))
 (.norm false [1,2,3,5]))
def b468:AX:=
 (.seq
 (.reg [rg 1 (.xop (.box 2) [(.t 0)]),rg 2 (.alloc [(.sl [] .nl),(.sl [] .nl)])])
 (.seq
 (.reg [rg 3 (.alloc [(.sl [] .nl),(.sl [] .nl)])])
 (.seq
 (.seq
 (.reg [rg 4 (.mov (.c (.i .i64 0)))])
 (.pre (.fld 3 0 0 2) (.pre (.fld 3 0 1 1) (.lp 0 (.norm false [1,2,3,4]) l468_0 (.norm false [1,2,3])))))
 (.seq
 (.seq
 (.reg [rg 5 (.mov (.c (.i .i64 0)))])
 (.lp 2 (.norm false [1,2,3,5]) l468_1 (.norm false [2,3])))
 (.seq
 (.reg [rg 50 (.load (some 2) (.t 3)),so (.store 2 (.t 2) (.t 50))])
 (.pre (.norm false [2]) .ret))))))
def row468:AFx:=⟨1,51,[.cell 2 (some 2)],b468,none,false⟩
class Zgl (T:Tbl):Prop where
 h468:T 468=some row468
section
variable{T:Tbl}[Zgl T]{d:Option Nat}{st:St}{xs:List AV}{ps:List Opd}{e:Env}{h:Heap}{ol:List Heap}
@[simp] theorem x468:Zc (orc T) T 468 xs d st=cP T 468 false xs d st:=zaa Zgl.h468
end
section
variable{T:Tbl}
theorem zv0(x0:Nat)(_hx0:x0<4294967296):∀y:Nat×Nat×List UInt8,(y.1≤9∧y.2.1<4294967296∧y.2.2.length=9-y.1∧Zdk y.1 y.2.1++y.2.2=Zdk 9 x0) →
  Zp T 0 0 (.norm false [3]) l101_0 ⟨[(0,u32 y.2.1),(3,.ptr (.loc 3) 1 9 0 0),(4,.i .i64 ((y.1:Int)-1))],[(.loc 3,⟨1,.str,9,[u8c (List.replicate y.1 0++y.2.2)]⟩)],3⟩ =
   some (.n,⟨[(3,.ptr (.loc 3) 1 9 0 0)],[(.loc 3,⟨1,.str,9,[u8c (Zdk 9 x0)]⟩)],3⟩):=by
 refine zbm (fun y:Nat×Nat×List UInt8=>⟨[(0,u32 y.2.1),(3,.ptr (.loc 3) 1 9 0 0),(4,.i .i64 ((y.1:Int)-1))],[(.loc 3,⟨1,.str,9,[u8c (List.replicate y.1 0++y.2.2)]⟩)],3⟩) _ (fun y=>y.1) _ ?_
 rintro⟨k,x,m⟩ ⟨hk,hx,hm,hd⟩
 simp only at hk hx hm hd;cases k with
 | zero=>
  right;have hd:m=Zdk 9 x0:=by simpa only[zif,Ybt]using hd
  subst hd;generalize Zdk 9 x0=m;constructor<;>simp -implicitDefEqProofs[l101_0]
 | succ j=>
  left;have hw:IntKind.wrap .i64 ((j:Int)-1)=(j:Int)-1:=zac _ (by omega);have h1:(j:Int)<9:=by omega
  have h2:j≤8:=by omega
  have hd1:48+x%10<256:=by omega
  have hs:=(z4e (l:=List.replicate (j+1) 0++m) (j:=j) hd1 (by simp;omega)).trans (congrArg u8c (z0f (j:=j) (m:=m) (UInt8.ofNat (48+x%10))));have m1:(48+x%10)%4294967296=48+x%10:=Yx (by omega);have m2:(48+x%10)%256=48+x%10:=Yx (by omega);have m3:x/10%4294967296=x/10:=Yx (by omega);have hlen:j+1+m.length=9:=by omega
  refine⟨(j,x/10,UInt8.ofNat (48+x%10)::m),⟨by simp only;omega,by simp only;omega,by simp;omega,?_⟩,Yv j,?_,rfl⟩
  ·simp only;rw[←hd,zd6,Y5]
   rfl
  ·simp -implicitDefEqProofs[l101_0,hw,h1,h2,hs,m1,m2,m3,hlen]
end
section
variable{T:Tbl}[Zb3 T]
theorem zot(x:Nat)(hx:x<4294967296):Za T 101 [u32 x]=some (.s (Zdk 9 x)):=by
 have h:=zv0 (T:=T) x hx (9,x,[]) ⟨Yd _,hx,rfl,by simp⟩;have e:u8c (List.replicate 9 0++[])=[u8 0,u8 0,u8 0,u8 0,u8 0,u8 0,u8 0,u8 0,u8 0]:=rfl;simp only[e]at h;rw[zab Zb3.h101 rfl,b101];have h8:IntKind.wrap .i64 8=8:=by decide
 have hl9:=zeu 9 x;generalize hm:Zdk 9 x=m at *
 have t9:List.take 9 ((u8c m).map fun c=>[c])=(u8c m).map fun c=>[c]:=Yb (by simp[hl9]);have hr:=z0g m;simp at h;simp -implicitDefEqProofs[h,hr,hl9,t9]
end
section
variable{T:Tbl}[Zo T][Zy T][Zb3 T]
def Zpg(l:List UInt8)(o:List UInt32)(i0 k:Nat):St:=
 ⟨[(0,.s l),(3,.ptr (.loc 3) 1 4 0 0),(5,.sl (Zb o) .an),(6,.i .i64 (i0+k:Nat)),(7,u32 (rd ((l.drop i0).take k))),(8,u32 (10^k)),(9,.i .i64 k)],[(.loc 3,⟨1,.str,4,[[.i .i64 0,.i .i64 0,.i .i64 0,.i .i64 0]]⟩)],3⟩
end
def sg(n:Bool)(k:Nat):Int:=if n then -(k:Int) else k
def wv(n:Bool)(a:List UInt32):Int:=sg n (val a)
abbrev wh(n:Bool)(a:List UInt32):AV:=.agg [.b n,.sl (Zb a) .an]
abbrev ez(z:Int):AV:=wh (decide (z<0)) (ofN z.natAbs)
def sgI(z:Int):Int:=if z<0 then -1 else if z=0 then 0 else 1
theorem zq3(n:Bool)(k:Nat):decide (sg n k<0)=(n&&decide (k≠0)):=by
 cases n
 ·simp[sg]
 ·by_cases h:k=0<;>simp[sg,h];omega
theorem zq4(n:Bool)(k:Nat):(sg n k).natAbs=k:=by cases n<;>simp[sg]
@[simp] theorem zig(z:Int):wv (decide (z<0)) (ofN z.natAbs)=z:=by
 unfold wv;rw[zae];by_cases h:z<0
 ·simp[sg,h];omega
 ·simp[sg,h];omega
theorem z1g(n:Bool)(a:List UInt32):(wv n a).natAbs=val a:=zq4 n _
theorem z0h(n:Bool)(k:Nat):ez (sg n k)=wh (n&&decide (k≠0)) (ofN k):=by
 unfold ez;rw[zq3,zq4]
theorem zpd(n:Bool)(x y:Nat):sg n (x+y)=sg n x+sg n y:=by cases n<;>simp[sg]<;>omega
theorem zxj{n m:Bool}(h:n≠m){x y:Nat}(hxy:x<y):sg m (y-x)=sg n x+sg m y:=by
 cases n<;>cases m<;>simp[sg]at h ⊢<;>omega
theorem zxk{n m:Bool}(h:n≠m){x y:Nat}(hxy:¬ x<y):sg n (x-y)=sg n x+sg m y:=by
 cases n<;>cases m<;>simp[sg]at h ⊢<;>omega
theorem z9u(n:Bool)(x:Nat):sg (!n) x=- sg n x:=by cases n<;>simp[sg]
theorem z1h(n m:Bool)(x y:Nat):sg (n != m) (x*y)=sg n x*sg m y:=by cases n<;>cases m<;>simp[sg,Int.mul_neg,Int.neg_mul]
theorem z1i(n:Bool)(x:Nat):sgI (sg n x)=if x=0 then 0 else if n then -1 else 1:=by
 unfold sgI;cases n<;>simp[sg]<;>split<;>(try split)<;>omega
def Zgz(z:Int):List UInt8:=if z<0 then 45::Z8 z.natAbs else Z8 z.natAbs
theorem znj{n:Nat}:∀{k:Nat},n<10^(k+1)→(Z8 n).length≤k+1:=by
 induction n using Nat.strongRecOn with
 | _ n ih=>
  intro k h;by_cases h0:n<10
  ·rw[zdp h0];simp
  ·rw[zie h0];cases k with
   | zero=>simp at h;omega
   | succ k=>
    have:=ih (n/10) (by omega) (k:=k) (Ybc (by rw[Yam,←Yai];exact h));simp;omega
theorem zev{a:List UInt32}(h:a.length≤1000):(Z8 (val a)).length≤10000:=by
 obtain⟨K,hK⟩:∃K,K=9999:=⟨_,rfl⟩;have h1:=za2 a;have h2:4294967296^a.length≤(10^10)^a.length:=Ydf (by decide) _;rw[←Ycs]at h2;have h3:10^(10*a.length)≤10^(K+1):=Y7 (by decide) (by omega);have h4:=znj (k:=K) (Yl h1 (Yc h2 h3));clear h1 h2 h3;omega
theorem zdq{x y:Int}{L:Nat}(hx:(ofN x.natAbs).length≤L)(hy:(ofN y.natAbs).length≤L):(ofN (x+y).natAbs).length≤L+1:=by
 refine zap ?_;have h1:=za2 (ofN x.natAbs);have h2:=za2 (ofN y.natAbs);rw[zae]at h1 h2;have h3:4294967296^(ofN x.natAbs).length≤4294967296^L:=Y7 (by decide) hx;have h4:4294967296^(ofN y.natAbs).length≤4294967296^L:=Y7 (by decide) hy;rw[Yai];generalize 4294967296^L=p at *
 omega
theorem zih(x:Int):ofN (-x).natAbs=ofN x.natAbs:=by rw[Int.natAbs_neg]
theorem zav{x y:Int}{L M:Nat}(hx:(ofN x.natAbs).length≤L)(hy:(ofN y.natAbs).length≤M):(ofN (x*y).natAbs).length≤L+M:=by
 refine zap ?_;have h1:=za2 (ofN x.natAbs);have h2:=za2 (ofN y.natAbs);rw[zae]at h1 h2;rw[Yee,Yce];exact Nat.mul_lt_mul'' (Yl h1 (Y7 (by decide) hx)) (Yl h2 (Y7 (by decide) hy))
theorem zbz(n:Bool)(a:List UInt32):(ofN (wv n a).natAbs).length≤a.length:=by rw[z1g];exact zad a
def Zlt(l:List UInt8):Int:=sg (l.head? = some 45) (rd (if l.head? = some 45 then l.tail else l))
def Zk1(l:List UInt8):Int:=Zjm (if l.head? = some 45 then l.tail else l)
def Zmq(l:List UInt8):Int:=if l.head? = some 45 then 1 else 0
def b55:AX:=
 (.seq
 (.reg [rg 4 (.alloc [(.b false),(.sl [] .nl)])])
 (.seq
 (.reg [mv 5 0,mv 6 5,gd 7 6 true (.mov (.t 1)),gd 8 6 true (.len (.t 7)),gd 9 6 true (.bin .gtr (.t 8) (.c (.i .i64 0))),rg 10 (.pick (.t 6) (.t 9) (.c (.b false))),mv 11 1,rg 12 (.build [(.b false),(.sl [] .nl)] [(0,1,(.t 10)),(1,1,(.t 11))]),so (.store 2 (.t 4) (.t 12))])
 (.pre (.norm false [4]) .ret)))
def b38:AX:=
 (.seq
 (.reg [rg 1 (.xop (.box 2) [(.t 0)]),rg 2 (.alloc [(.b false),(.sl [] .nl)])])
 (.seq
 (.drawT [rg 3 (.fad 0 (.t 1)),rg 4 (.load none (.t 3)),rg 5 (.fad 1 (.t 1)),rg 6 (.load none (.t 5)),rg 7 (.call 71 [(.t 6)])]
 [rg 8 (.call 55 [(.t 4),(.t 7)]),so (.store 2 (.t 2) (.t 8))])
 (.pre (.norm false [2]) .ret)))
def b40:AX:=
 (.seq
 (.reg [rg 1 (.xop (.box 2) [(.t 0)]),rg 2 (.alloc [(.b false),(.sl [] .nl)])])
 (.seq
 (.drawT [rg 3 (.fad 0 (.t 1)),rg 4 (.load none (.t 3)),rg 5 (.un .not (.t 4)),rg 6 (.fad 1 (.t 1)),rg 7 (.load none (.t 6)),rg 8 (.call 71 [(.t 7)])]
 [rg 9 (.call 55 [(.t 5),(.t 8)]),so (.store 2 (.t 2) (.t 9))])
 (.pre (.norm false [2]) .ret)))
def b23:AX:=
 (.seq
 (.reg [rg 2 (.xop (.box 2) [(.t 0)]),rg 3 (.xop (.box 2) [(.t 1)]),rg 4 (.alloc [(.b false),(.sl [] .nl)])])
 (.seq
 (.seq
 (.reg [rg 7 (.fad 0 (.t 2)),rg 8 (.load none (.t 7)),rg 9 (.fad 0 (.t 3)),rg 10 (.load none (.t 9)),rg 11 (.eqb false (.t 8) (.t 10))])
 (.cond (.t 11)
 (.seq
 (.drawT [rg 12 (.fad 0 (.t 2)),rg 13 (.load none (.t 12)),rg 14 (.fad 1 (.t 2)),rg 15 (.load none (.t 14)),rg 16 (.fad 1 (.t 3)),rg 17 (.load none (.t 16)),rg 18 (.bsl 1 [(.sl [] .nl)] 2 [(0,(.t 15)),(1,(.t 17))]),rg 19 (.call 56 [(.t 18)])]
 [rg 20 (.call 55 [(.t 13),(.t 19)]),so (.store 2 (.t 4) (.t 20))])
 (.pre (.norm false [4]) .ret))
 .skip))
 (.seq
 (.reg [rg 22 (.fad 1 (.t 2)),rg 23 (.load none (.t 22)),rg 24 (.fad 1 (.t 3)),rg 25 (.load none (.t 24)),rg 26 (.call 57 [(.t 23),(.t 25)]),mv 21 26,rg 27 (.ext (.t 21) 0),rg 28 (.ext (.t 21) 1),mv 5 27,mv 6 28])
 (.seq
 (.seq
 (.reg [mv 29 6,rg 30 (.bin .lss (.t 29) (.c (.i .i64 0)))])
 (.cond (.t 30)
 (.seq
 (.reg [rg 31 (.fad 0 (.t 3)),rg 32 (.load none (.t 31)),mv 33 5,rg 34 (.call 55 [(.t 32),(.t 33)]),so (.store 2 (.t 4) (.t 34))])
 (.pre (.norm false [4]) .ret))
 .skip))
 (.seq
 (.reg [rg 35 (.fad 0 (.t 2)),rg 36 (.load none (.t 35)),mv 37 5,rg 38 (.call 55 [(.t 36),(.t 37)]),so (.store 2 (.t 4) (.t 38))])
 (.pre (.norm false [4]) .ret))))))
def b25:AX:=
 (.seq
 (.reg [rg 2 (.xop (.box 2) [(.t 0)]),rg 3 (.xop (.box 2) [(.t 1)]),rg 4 (.alloc [(.b false),(.sl [] .nl)])])
 (.seq
 (.drawT [rg 5 (.load (some 2) (.t 2)),rg 6 (.load (some 2) (.t 3)),rg 7 (.call 40 [(.t 6)])]
 [rg 8 (.call 23 [(.t 5),(.t 7)]),so (.store 2 (.t 4) (.t 8))])
 (.pre (.norm false [4]) .ret)))
def b27:AX:=
 (.seq
 (.reg [rg 2 (.xop (.box 2) [(.t 0)]),rg 3 (.xop (.box 2) [(.t 1)]),rg 4 (.alloc [(.b false),(.sl [] .nl)])])
 (.seq
 (.drawT [rg 5 (.fad 0 (.t 2)),rg 6 (.load none (.t 5)),rg 7 (.fad 0 (.t 3)),rg 8 (.load none (.t 7)),rg 9 (.eqb true (.t 6) (.t 8)),rg 10 (.fad 1 (.t 2)),rg 11 (.load none (.t 10)),rg 12 (.fad 1 (.t 3)),rg 13 (.load none (.t 12)),rg 14 (.call 60 [(.t 11),(.t 13)])]
 [rg 15 (.call 55 [(.t 9),(.t 14)]),so (.store 2 (.t 4) (.t 15))])
 (.pre (.norm false [4]) .ret)))
def b37:AX:=
 (.seq
 (.reg [rg 1 (.xop (.box 2) [(.t 0)]),rg 2 (.mov (.c (.i .i64 0)))])
 (.seq
 (.block 0
 (.seq
 (.reg [rg 4 (.fad 1 (.t 1)),rg 5 (.load none (.t 4)),rg 6 (.call 70 [(.t 5)]),mv 3 6])
 (.cond (.t 3)
 (.seq
 (.reg [rg 2 (.mov (.c (.i .i64 0)))])
 (.pre (.norm false [2]) .ret))
 (.seq
 (.reg [rg 8 (.fad 0 (.t 1)),rg 9 (.load none (.t 8)),mv 7 9])
 (.cond (.t 7)
 (.seq
 (.reg [rg 2 (.mov (.c (.i .i64 (-1))))])
 (.pre (.norm false [2]) .ret))
 .skip)))))
 (.seq
 (.reg [rg 2 (.mov (.c (.i .i64 1)))])
 (.pre (.norm false [2]) .ret))))
def b41:AX:=
 (.seq
 (.reg [rg 2 (.alloc [(.b false),(.sl [] .nl)])])
 (.seq
 (.seq
 (.reg [mv 3 0,rg 4 (.bin .lss (.t 3) (.c (.i .i64 0)))])
 (.cond (.t 4)
 (.seq
 (.reg [mv 5 0,rg 6 (.conv .u64 (.t 5)),rg 7 (.un .neg (.t 6)),rg 8 (.call 72 [(.t 7)]),rg 9 (.call 55 [(.c (.b true)),(.t 8)]),so (.store 2 (.t 2) (.t 9))])
 (.pre (.norm false [2]) .ret))
 .skip))
 (.seq
 (.reg [mv 10 0,rg 11 (.conv .u64 (.t 10)),rg 12 (.call 72 [(.t 11)]),rg 13 (.call 55 [(.c (.b false)),(.t 12)]),so (.store 2 (.t 2) (.t 13))])
 (.pre (.norm false [2]) .ret))))
def b36:AX:=
 (.seq
 (.reg [rg 2 (.xop (.box 2) [(.t 0)]),rg 3 (.xop (.box 2) [(.t 1)]),rg 4 (.mov (.c (.i .i64 0)))])
 (.seq
 (.reg [rg 5 (.load (some 2) (.t 2)),rg 6 (.load (some 2) (.t 3)),rg 7 (.call 25 [(.t 5),(.t 6)]),rg 8 (.call 37 [(.t 7)]),mv 4 8])
 (.pre (.norm false [4]) .ret)))
def b34:AX:=
 (.seq
 (.reg [rg 1 (.xop (.box 2) [(.t 0)]),rg 2 (.mov (.c (.s [])))])
 (.seq
 (.reg [rg 4 (.fad 1 (.t 1)),rg 5 (.load none (.t 4)),rg 6 (.call 68 [(.t 5)]),mv 3 6])
 (.seq
 (.seq
 (.reg [rg 7 (.load (some 2) (.t 1)),rg 8 (.call 37 [(.t 7)]),rg 9 (.bin .lss (.t 8) (.c (.i .i64 0)))])
 (.cond (.t 9)
 (.seq
 (.reg [mv 10 3,rg 11 (.bin .add (.c (.s [45])) (.t 10)),mv 2 11])
 (.pre (.norm false [2]) .ret))
 .skip))
 (.seq
 (.reg [mv 12 3,mv 2 12])
 (.pre (.norm false [2]) .ret)))))
def row55:AFx:=⟨2,13,[.cell 4 (some 2)],b55,none,false⟩
def row38:AFx:=⟨1,9,[.cell 2 (some 2)],b38,none,false⟩
def row40:AFx:=⟨1,10,[.cell 2 (some 2)],b40,none,false⟩
def row23:AFx:=⟨2,39,[.cell 4 (some 2)],b23,none,false⟩
def row25:AFx:=⟨2,9,[.cell 4 (some 2)],b25,none,false⟩
def row27:AFx:=⟨2,16,[.cell 4 (some 2)],b27,none,false⟩
def row37:AFx:=⟨1,10,[.t 2],b37,none,false⟩
def row41:AFx:=⟨1,14,[.cell 2 (some 2)],b41,none,false⟩
def row36:AFx:=⟨2,9,[.t 4],b36,none,false⟩
def row34:AFx:=⟨1,13,[.t 2],b34,none,false⟩
class Zj (T:Tbl):Prop where
 h55:T 55=some row55
 h38:T 38=some row38
 h40:T 40=some row40
 h23:T 23=some row23
 h25:T 25=some row25
 h27:T 27=some row27
 h37:T 37=some row37
 h41:T 41=some row41
 h36:T 36=some row36
 h34:T 34=some row34
section
variable{T:Tbl}[Zj T]{d:Option Nat}{st:St}
@[simp] theorem x55(xs:List AV):Zc (orc T) T 55 xs d st=cP T 55 false xs d st:=zaa Zj.h55
@[simp] theorem x38(xs:List AV):Zc (orc T) T 38 xs d st=cP T 38 false xs d st:=zaa Zj.h38
@[simp] theorem x40(xs:List AV):Zc (orc T) T 40 xs d st=cP T 40 false xs d st:=zaa Zj.h40
@[simp] theorem y40{e:Env}{h:Heap}{older:List Heap}(args:List Opd):opD (orc T) T (.call 40 args) e h older=dR (Za T 40 ((args.map (ev e.get)).map (wkIf false))) (args.map (ev e.get)):=zau Zj.h40
@[simp] theorem x23(xs:List AV):Zc (orc T) T 23 xs d st=cP T 23 false xs d st:=zaa Zj.h23
@[simp] theorem y23{e:Env}{h:Heap}{older:List Heap}(args:List Opd):opD (orc T) T (.call 23 args) e h older=dR (Za T 23 ((args.map (ev e.get)).map (wkIf false))) (args.map (ev e.get)):=zau Zj.h23
@[simp] theorem x25(xs:List AV):Zc (orc T) T 25 xs d st=cP T 25 false xs d st:=zaa Zj.h25
@[simp] theorem y25{e:Env}{h:Heap}{older:List Heap}(args:List Opd):opD (orc T) T (.call 25 args) e h older=dR (Za T 25 ((args.map (ev e.get)).map (wkIf false))) (args.map (ev e.get)):=zau Zj.h25
@[simp] theorem x27(xs:List AV):Zc (orc T) T 27 xs d st=cP T 27 false xs d st:=zaa Zj.h27
@[simp] theorem x37(xs:List AV):Zc (orc T) T 37 xs d st=cP T 37 false xs d st:=zaa Zj.h37
@[simp] theorem x41(xs:List AV):Zc (orc T) T 41 xs d st=cP T 41 false xs d st:=zaa Zj.h41
@[simp] theorem x36(xs:List AV):Zc (orc T) T 36 xs d st=cP T 36 false xs d st:=zaa Zj.h36
@[simp] theorem x34(xs:List AV):Zc (orc T) T 34 xs d st=cP T 34 false xs d st:=zaa Zj.h34
end
def l198_0:AX:=
 (.note
 (.seq
 (.seq
 (.reg [mv 5 1,rg 6 (.bin .neq (.t 5) (.c (u64 0)))])
 (.cond (.t 6)
 .skip
 (.exit 0)))
 (.block 1
 (.drawT [mv 7 1,mv 8 0,mv 9 1,rg 10 (.bin .rem (.t 8) (.t 9)),mv 0 7]
 [mv 1 10])))
 (.norm false [0,1]))
def b198:AX:=
 (.seq
 (.reg [rg 4 (.mov (.c (u64 0)))])
 (.seq
 (.lp 0 (.norm false [0,1]) l198_0 (.norm false [0]))
 (.seq
 (.reg [mv 11 0,mv 4 11])
 (.pre (.norm false [4]) .ret))))
def l199_0:AX:=
 (.note
 (.seq
 (.seq
 (.reg [mv 19 1,rg 20 (.len (.t 19)),rg 21 (.bin .gtr (.t 20) (.c (.i .i64 2)))])
 (.cond (.t 21)
 .skip
 (.exit 0)))
 (.block 1
 (.seq
 (.reg [mv 23 0,mv 24 1,rg 25 (.call 62 [(.t 23),(.t 24)]),mv 22 25,rg 26 (.ext (.t 22) 0),rg 27 (.ext (.t 22) 1),rg 28 (.ext (.t 22) 2),mv 5 26,mv 6 27,mv 7 28])
 (.reg [mv 29 1,mv 30 6,mv 0 29,mv 1 30]))))
 (.norm false [0,1]))
def b199:AX:=
 (.seq
 (.reg [rg 4 (.mov (.c (.sl [] .nl)))])
 (.seq
 (.reg [mv 15 0,rg 16 (.call 71 [(.t 15)]),mv 17 1,rg 18 (.call 71 [(.t 17)]),mv 0 16,mv 1 18])
 (.seq
 (.lp 0 (.norm false [0,1]) l199_0 (.norm false [0,1]))
 (.seq
 (.seq
 (.reg [mv 31 1,rg 32 (.len (.t 31)),rg 33 (.bin .eql (.t 32) (.c (.i .i64 0)))])
 (.cond (.t 33)
 (.seq
 (.reg [mv 34 0,mv 4 34])
 (.pre (.norm false [4]) .ret))
 .skip))
 (.seq
 (.reg [mv 36 0,mv 37 1,rg 38 (.call 62 [(.t 36),(.t 37)]),mv 35 38,rg 39 (.ext (.t 35) 0),rg 40 (.ext (.t 35) 1),rg 41 (.ext (.t 35) 2),mv 8 39,mv 9 40,mv 10 41])
 (.seq
 (.reg [mv 43 1,rg 44 (.call 73 [(.t 43)]),mv 42 44,rg 45 (.ext (.t 42) 0),rg 46 (.ext (.t 42) 1),mv 11 45,mv 12 46])
 (.seq
 (.reg [mv 48 9,rg 49 (.call 73 [(.t 48)]),mv 47 49,rg 50 (.ext (.t 47) 0),rg 51 (.ext (.t 47) 1),mv 13 50,mv 14 51])
 (.seq
 (.reg [mv 52 11,mv 53 13,rg 54 (.call 198 [(.t 52),(.t 53)]),rg 55 (.call 72 [(.t 54)]),mv 4 55])
 (.pre (.norm false [4]) .ret)))))))))
def b200:AX:=
 (.seq
 (.reg [rg 2 (.mov (.c (.b false)))])
 (.seq
 (.reg [mv 3 0,rg 4 (.len (.t 3)),rg 5 (.bin .eql (.t 4) (.c (.i .i64 1))),mv 6 5,gd 7 6 true (.mov (.t 0)),gd 8 6 true (.iad 1 (.t 7) (.c (.i .i64 0))),gd 9 6 true (.load none (.t 8)),gd 10 6 true (.bin .eql (.t 9) (.c (u32 1))),rg 11 (.pick (.t 6) (.t 10) (.c (.b false))),mv 2 11])
 (.pre (.norm false [2]) .ret)))
def b201:AX:=
 (.seq
 (.reg [rg 4 (.mov (.c (.sl [] .nl))),rg 5 (.mov (.c (.sl [] .nl)))])
 (.seq
 (.reg [mv 7 0,mv 8 1,rg 9 (.call 199 [(.t 7),(.t 8)]),mv 6 9])
 (.seq
 (.block 0
 (.seq
 (.reg [mv 11 6,rg 12 (.len (.t 11)),rg 13 (.bin .eql (.t 12) (.c (.i .i64 0))),mv 10 13])
 (.cond (.t 10)
 (.seq
 (.reg [rg 4 (.mov (.c (.sl [] .nl))),rg 5 (.mov (.c (.sl [] .nl)))])
 (.pre (.norm false [4,5]) .ret))
 (.seq
 (.reg [mv 15 6,rg 16 (.call 200 [(.t 15)]),mv 14 16])
 (.cond (.t 14)
 (.seq
 (.reg [mv 17 0,rg 18 (.call 71 [(.t 17)]),mv 19 1,rg 20 (.call 71 [(.t 19)]),mv 4 18,mv 5 20])
 (.pre (.norm false [4,5]) .ret))
 .skip)))))
 (.seq
 (.reg [mv 22 0,mv 23 6,rg 24 (.call 62 [(.t 22),(.t 23)]),mv 21 24,rg 25 (.ext (.t 21) 0),rg 26 (.ext (.t 21) 1),rg 27 (.ext (.t 21) 2),mv 4 25])
 (.seq
 (.reg [mv 29 1,mv 30 6,rg 31 (.call 62 [(.t 29),(.t 30)]),mv 28 31,rg 32 (.ext (.t 28) 0),rg 33 (.ext (.t 28) 1),rg 34 (.ext (.t 28) 2),mv 5 32])
 (.seq
 (.reg [mv 35 4,mv 36 5,mv 4 35,mv 5 36])
 (.pre (.norm false [4,5]) .ret)))))))
def row198:AFx:=⟨2,12,[.t 4],b198,none,false⟩
def row199:AFx:=⟨2,56,[.t 4],b199,none,false⟩
def row200:AFx:=⟨1,12,[.t 2],b200,none,false⟩
def row201:AFx:=⟨2,37,[.t 4,.t 5],b201,none,false⟩
class Zn (T:Tbl):Prop where
 h198:T 198=some row198
 h199:T 199=some row199
 h200:T 200=some row200
 h201:T 201=some row201
section
variable{T:Tbl}[Zn T]{d:Option Nat}{st:St}{xs:List AV}{ps:List Opd}{e:Env}{h:Heap}{ol:List Heap}
@[simp] theorem x198:Zc (orc T) T 198 xs d st=cP T 198 false xs d st:=zaa Zn.h198
@[simp] theorem x199:Zc (orc T) T 199 xs d st=cP T 199 false xs d st:=zaa Zn.h199
@[simp] theorem x200:Zc (orc T) T 200 xs d st=cP T 200 false xs d st:=zaa Zn.h200
@[simp] theorem x201:Zc (orc T) T 201 xs d st=cP T 201 false xs d st:=zaa Zn.h201
end
def b202:AX:=
 (.seq
 (.reg [rg 2 (.xop (.box 2) [(.t 0)]),rg 4 (.alloc [(.b false),(.sl [] .nl),(.sl [] .nl)])])
 (.seq
 (.reg [rg 8 (.fad 1 (.t 2)),rg 9 (.load none (.t 8)),mv 10 1,rg 11 (.call 201 [(.t 9),(.t 10)]),mv 7 11,rg 12 (.ext (.t 7) 0),rg 13 (.ext (.t 7) 1),mv 5 12,mv 6 13])
 (.seq
 (.reg [rg 14 (.fad 0 (.t 2)),rg 15 (.load none (.t 14)),mv 16 5,rg 17 (.build [(.b false),(.sl [] .nl)] [(0,1,(.t 15)),(1,1,(.t 16))]),rg 18 (.call 38 [(.t 17)]),mv 19 6,rg 20 (.build [(.b false),(.sl [] .nl),(.sl [] .nl)] [(0,2,(.t 18)),(2,1,(.t 19))]),so (.store 3 (.t 4) (.t 20))])
 (.pre (.norm false [4]) .ret))))
def b203:AX:=
 (.seq
 (.reg [rg 1 (.xop (.box 3) [(.t 0)]),rg 2 (.alloc [(.b false),(.sl [] .nl)]),rg 3 (.mov (.c (.sl [] .nl)))])
 (.seq
 (.seq
 (.reg [rg 4 (.fad 2 (.t 1)),rg 5 (.load none (.t 4)),rg 6 (.call 70 [(.t 5)])])
 (.cond (.t 6)
 (.seq
 (.reg [rg 7 (.build [(.b false),(.sl [] .nl)] []),rg 8 (.call 72 [(.c (u64 1))]),so (.store 2 (.t 2) (.t 7)),mv 3 8])
 (.pre (.norm false [2,3]) .ret))
 .skip))
 (.seq
 (.draw [⟨rg 9 (.fad 0 (.t 1)),0,0⟩,⟨rg 10 (.load (some 2) (.t 9)),0,0⟩,⟨rg 11 (.fad 2 (.t 1)),0,1⟩,⟨rg 12 (.load none (.t 11)),0,1⟩,⟨so (.store 2 (.t 2) (.t 10)),0,1⟩,⟨mv 3 12,1,1⟩])
 (.pre (.norm false [2,3]) .ret))))
def b205:AX:=
 (.seq
 (.reg [rg 2 (.alloc [(.b false),(.sl [] .nl),(.sl [] .nl)])])
 (.seq
 (.reg [mv 3 0,rg 4 (.call 41 [(.t 3)]),rg 5 (.call 72 [(.c (u64 1))]),rg 6 (.build [(.b false),(.sl [] .nl),(.sl [] .nl)] [(0,2,(.t 4)),(2,1,(.t 5))]),so (.store 3 (.t 2) (.t 6))])
 (.pre (.norm false [2]) .ret)))
def b207:AX:=
 (.seq
 (.reg [rg 1 (.xop (.box 3) [(.t 0)]),rg 2 (.alloc [(.b false),(.sl [] .nl),(.sl [] .nl)])])
 (.seq
 (.reg [rg 3 (.load (some 3) (.t 1)),rg 4 (.call 203 [(.t 3)]),rg 5 (.ext (.t 4) 0),rg 6 (.ext (.t 4) 1),rg 7 (.call 202 [(.t 5),(.t 6)]),so (.store 3 (.t 2) (.t 7))])
 (.pre (.norm false [2]) .ret)))
def b209:AX:=
 (.seq
 (.reg [rg 1 (.xop (.box 3) [(.t 0)]),rg 2 (.mov (.c (.i .i64 0)))])
 (.seq
 (.reg [rg 6 (.load (some 3) (.t 1)),rg 7 (.call 203 [(.t 6)]),mv 5 7,rg 8 (.ext (.t 5) 0),rg 9 (.ext (.t 5) 1),rg 3 (.alloc [(.b false),(.sl [] .nl)]),so (.store 2 (.t 3) (.t 8)),mv 4 9])
 (.seq
 (.reg [rg 10 (.load (some 2) (.t 3)),rg 11 (.call 37 [(.t 10)]),mv 2 11])
 (.pre (.norm false [2]) .ret))))
def b210:AX:=
 (.seq
 (.reg [rg 2 (.xop (.box 2) [(.t 0)]),rg 4 (.alloc [(.b false),(.sl [] .nl)])])
 (.seq
 (.reg [rg 5 (.load (some 2) (.t 2)),mv 6 1,rg 7 (.build [(.b false),(.sl [] .nl)] [(1,1,(.t 6))]),rg 8 (.call 27 [(.t 5),(.t 7)]),so (.store 2 (.t 4) (.t 8))])
 (.pre (.norm false [4]) .ret)))
def b211:AX:=
 (.seq
 (.reg [rg 2 (.xop (.box 3) [(.t 0)]),rg 3 (.xop (.box 3) [(.t 1)]),rg 4 (.mov (.c (.i .i64 0)))])
 (.seq
 (.reg [rg 10 (.load (some 3) (.t 2)),rg 11 (.call 203 [(.t 10)]),mv 9 11,rg 12 (.ext (.t 9) 0),rg 13 (.ext (.t 9) 1),rg 5 (.alloc [(.b false),(.sl [] .nl)]),so (.store 2 (.t 5) (.t 12)),mv 6 13])
 (.seq
 (.reg [rg 15 (.load (some 3) (.t 3)),rg 16 (.call 203 [(.t 15)]),mv 14 16,rg 17 (.ext (.t 14) 0),rg 18 (.ext (.t 14) 1),rg 7 (.alloc [(.b false),(.sl [] .nl)]),so (.store 2 (.t 7) (.t 17)),mv 8 18])
 (.seq
 (.drawT [rg 19 (.load (some 2) (.t 5)),mv 20 8,rg 21 (.call 210 [(.t 19),(.t 20)]),rg 22 (.load (some 2) (.t 7)),mv 23 6]
 [rg 24 (.call 210 [(.t 22),(.t 23)]),rg 25 (.call 36 [(.t 21),(.t 24)]),mv 4 25])
 (.pre (.norm false [4]) .ret)))))
def b212:AX:=
 (.seq
 (.reg [rg 2 (.xop (.box 3) [(.t 0)]),rg 3 (.xop (.box 3) [(.t 1)]),rg 4 (.mov (.c (.b false)))])
 (.seq
 (.reg [rg 5 (.load (some 3) (.t 2)),rg 6 (.load (some 3) (.t 3)),rg 7 (.call 211 [(.t 5),(.t 6)]),rg 8 (.bin .eql (.t 7) (.c (.i .i64 0))),mv 4 8])
 (.pre (.norm false [4]) .ret)))
def b213:AX:=
 (.seq
 (.reg [rg 1 (.xop (.box 3) [(.t 0)]),rg 2 (.alloc [(.b false),(.sl [] .nl),(.sl [] .nl)])])
 (.seq
 (.reg [rg 4 (.load (some 3) (.t 1)),rg 5 (.call 207 [(.t 4)]),rg 3 (.alloc [(.b false),(.sl [] .nl),(.sl [] .nl)]),so (.store 3 (.t 3) (.t 5))])
 (.seq
 (.reg [rg 6 (.fad 0 (.t 3)),rg 7 (.load (some 2) (.t 6)),rg 8 (.call 40 [(.t 7)]),rg 9 (.fad 0 (.t 3)),so (.store 2 (.t 9) (.t 8))])
 (.seq
 (.reg [rg 10 (.load (some 3) (.t 3)),so (.store 3 (.t 2) (.t 10))])
 (.pre (.norm false [2]) .ret)))))
def b215:AX:=
 (.seq
 (.reg [rg 2 (.xop (.box 3) [(.t 0)]),rg 3 (.xop (.box 3) [(.t 1)]),rg 4 (.alloc [(.b false),(.sl [] .nl),(.sl [] .nl)])])
 (.seq
 (.reg [rg 10 (.load (some 3) (.t 2)),rg 11 (.call 203 [(.t 10)]),mv 9 11,rg 12 (.ext (.t 9) 0),rg 13 (.ext (.t 9) 1),rg 5 (.alloc [(.b false),(.sl [] .nl)]),so (.store 2 (.t 5) (.t 12)),mv 6 13])
 (.seq
 (.reg [rg 15 (.load (some 3) (.t 3)),rg 16 (.call 203 [(.t 15)]),mv 14 16,rg 17 (.ext (.t 14) 0),rg 18 (.ext (.t 14) 1),rg 7 (.alloc [(.b false),(.sl [] .nl)]),so (.store 2 (.t 7) (.t 17)),mv 8 18])
 (.seq
 (.drawT [rg 19 (.load (some 2) (.t 5)),mv 20 8,rg 21 (.call 210 [(.t 19),(.t 20)]),rg 22 (.load (some 2) (.t 7)),mv 23 6,rg 24 (.call 210 [(.t 22),(.t 23)]),rg 25 (.call 23 [(.t 21),(.t 24)]),mv 26 6,mv 27 8]
 [rg 28 (.call 60 [(.t 26),(.t 27)]),rg 29 (.call 202 [(.t 25),(.t 28)]),so (.store 3 (.t 4) (.t 29))])
 (.pre (.norm false [4]) .ret)))))
def b216:AX:=
 (.seq
 (.reg [rg 2 (.xop (.box 3) [(.t 0)]),rg 3 (.xop (.box 3) [(.t 1)]),rg 4 (.alloc [(.b false),(.sl [] .nl),(.sl [] .nl)])])
 (.seq
 (.reg [rg 10 (.load (some 3) (.t 2)),rg 11 (.call 203 [(.t 10)]),mv 9 11,rg 12 (.ext (.t 9) 0),rg 13 (.ext (.t 9) 1),rg 5 (.alloc [(.b false),(.sl [] .nl)]),so (.store 2 (.t 5) (.t 12)),mv 6 13])
 (.seq
 (.reg [rg 15 (.load (some 3) (.t 3)),rg 16 (.call 203 [(.t 15)]),mv 14 16,rg 17 (.ext (.t 14) 0),rg 18 (.ext (.t 14) 1),rg 7 (.alloc [(.b false),(.sl [] .nl)]),so (.store 2 (.t 7) (.t 17)),mv 8 18])
 (.seq
 (.drawT [rg 19 (.load (some 2) (.t 5)),mv 20 8,rg 21 (.call 210 [(.t 19),(.t 20)]),rg 22 (.load (some 2) (.t 7)),mv 23 6,rg 24 (.call 210 [(.t 22),(.t 23)]),rg 25 (.call 25 [(.t 21),(.t 24)]),mv 26 6,mv 27 8]
 [rg 28 (.call 60 [(.t 26),(.t 27)]),rg 29 (.call 202 [(.t 25),(.t 28)]),so (.store 3 (.t 4) (.t 29))])
 (.pre (.norm false [4]) .ret)))))
def b217:AX:=
 (.seq
 (.reg [rg 2 (.xop (.box 3) [(.t 0)]),rg 3 (.xop (.box 3) [(.t 1)]),rg 4 (.alloc [(.b false),(.sl [] .nl),(.sl [] .nl)])])
 (.seq
 (.reg [rg 10 (.load (some 3) (.t 2)),rg 11 (.call 203 [(.t 10)]),mv 9 11,rg 12 (.ext (.t 9) 0),rg 13 (.ext (.t 9) 1),rg 5 (.alloc [(.b false),(.sl [] .nl)]),so (.store 2 (.t 5) (.t 12)),mv 6 13])
 (.seq
 (.reg [rg 15 (.load (some 3) (.t 3)),rg 16 (.call 203 [(.t 15)]),mv 14 16,rg 17 (.ext (.t 14) 0),rg 18 (.ext (.t 14) 1),rg 7 (.alloc [(.b false),(.sl [] .nl)]),so (.store 2 (.t 7) (.t 17)),mv 8 18])
 (.seq
 (.reg [rg 19 (.load (some 2) (.t 5)),rg 20 (.load (some 2) (.t 7)),rg 21 (.call 27 [(.t 19),(.t 20)]),mv 22 6,mv 23 8,rg 24 (.call 60 [(.t 22),(.t 23)]),rg 25 (.call 202 [(.t 21),(.t 24)]),so (.store 3 (.t 4) (.t 25))])
 (.pre (.norm false [4]) .ret)))))
def b218:AX:=
 (.seq
 (.reg [rg 2 (.xop (.box 3) [(.t 0)]),rg 3 (.xop (.box 3) [(.t 1)]),rg 4 (.alloc [(.b false),(.sl [] .nl),(.sl [] .nl)]),rg 5 (.mov (.c (.b false)))])
 (.seq
 (.reg [rg 12 (.load (some 3) (.t 2)),rg 13 (.call 203 [(.t 12)]),mv 11 13,rg 14 (.ext (.t 11) 0),rg 15 (.ext (.t 11) 1),rg 6 (.alloc [(.b false),(.sl [] .nl)]),so (.store 2 (.t 6) (.t 14)),mv 7 15])
 (.seq
 (.reg [rg 17 (.load (some 3) (.t 3)),rg 18 (.call 203 [(.t 17)]),mv 16 18,rg 19 (.ext (.t 16) 0),rg 20 (.ext (.t 16) 1),rg 8 (.alloc [(.b false),(.sl [] .nl)]),so (.store 2 (.t 8) (.t 19)),mv 9 20])
 (.seq
 (.seq
 (.reg [rg 21 (.load (some 2) (.t 8)),rg 22 (.call 37 [(.t 21)]),rg 23 (.bin .eql (.t 22) (.c (.i .i64 0)))])
 (.cond (.t 23)
 (.seq
 (.reg [rg 24 (.call 205 [(.c (.i .i64 0))]),so (.store 3 (.t 4) (.t 24)),rg 5 (.mov (.c (.b false)))])
 (.pre (.norm false [4,5]) .ret))
 .skip))
 (.seq
 (.reg [rg 25 (.load (some 2) (.t 6)),mv 26 9,rg 27 (.call 210 [(.t 25),(.t 26)]),rg 10 (.alloc [(.b false),(.sl [] .nl)]),so (.store 2 (.t 10) (.t 27))])
 (.seq
 (.reg [rg 28 (.fad 0 (.t 10)),rg 29 (.load none (.t 28)),rg 30 (.fad 0 (.t 8)),rg 31 (.load none (.t 30)),rg 32 (.eqb true (.t 29) (.t 31)),rg 33 (.fad 0 (.t 10)),so (.store 1 (.t 33) (.t 32))])
 (.seq
 (.drawT [rg 34 (.load (some 2) (.t 10)),mv 35 7,rg 36 (.fad 1 (.t 8)),rg 37 (.load none (.t 36)),rg 38 (.call 60 [(.t 35),(.t 37)])]
 [rg 39 (.call 202 [(.t 34),(.t 38)]),so (.store 3 (.t 4) (.t 39)),rg 5 (.mov (.c (.b true)))])
 (.pre (.norm false [4,5]) .ret))))))))
def row202:AFx:=⟨2,21,[.cell 4 (some 3)],b202,none,false⟩
def row203:AFx:=⟨1,13,[.cell 2 (some 2),.t 3],b203,none,false⟩
def row205:AFx:=⟨1,7,[.cell 2 (some 3)],b205,none,false⟩
def row207:AFx:=⟨1,8,[.cell 2 (some 3)],b207,none,false⟩
def row209:AFx:=⟨1,12,[.t 2],b209,none,false⟩
def row210:AFx:=⟨2,9,[.cell 4 (some 2)],b210,none,false⟩
def row211:AFx:=⟨2,26,[.t 4],b211,none,false⟩
def row212:AFx:=⟨2,9,[.t 4],b212,none,false⟩
def row213:AFx:=⟨1,11,[.cell 2 (some 3)],b213,none,false⟩
def row215:AFx:=⟨2,30,[.cell 4 (some 3)],b215,none,false⟩
def row216:AFx:=⟨2,30,[.cell 4 (some 3)],b216,none,false⟩
def row217:AFx:=⟨2,26,[.cell 4 (some 3)],b217,none,false⟩
def row218:AFx:=⟨2,40,[.cell 4 (some 3),.t 5],b218,none,false⟩
class Zs (T:Tbl):Prop where
 h202:T 202=some row202
 h203:T 203=some row203
 h205:T 205=some row205
 h207:T 207=some row207
 h209:T 209=some row209
 h210:T 210=some row210
 h211:T 211=some row211
 h212:T 212=some row212
 h213:T 213=some row213
 h215:T 215=some row215
 h216:T 216=some row216
 h217:T 217=some row217
 h218:T 218=some row218
section
variable{T:Tbl}[Zs T]{d:Option Nat}{st:St}{xs:List AV}{ps:List Opd}{e:Env}{h:Heap}{ol:List Heap}
@[simp] theorem x202:Zc (orc T) T 202 xs d st=cP T 202 false xs d st:=zaa Zs.h202
@[simp] theorem x203:Zc (orc T) T 203 xs d st=cP T 203 false xs d st:=zaa Zs.h203
@[simp] theorem x205:Zc (orc T) T 205 xs d st=cP T 205 false xs d st:=zaa Zs.h205
@[simp] theorem y205:opD (orc T) T (.call 205 ps) e h ol=dP T 205 false ps e:=zau Zs.h205
@[simp] theorem x207:Zc (orc T) T 207 xs d st=cP T 207 false xs d st:=zaa Zs.h207
@[simp] theorem y207:opD (orc T) T (.call 207 ps) e h ol=dP T 207 false ps e:=zau Zs.h207
@[simp] theorem x209:Zc (orc T) T 209 xs d st=cP T 209 false xs d st:=zaa Zs.h209
@[simp] theorem x210:Zc (orc T) T 210 xs d st=cP T 210 false xs d st:=zaa Zs.h210
@[simp] theorem y210:opD (orc T) T (.call 210 ps) e h ol=dP T 210 false ps e:=zau Zs.h210
@[simp] theorem x211:Zc (orc T) T 211 xs d st=cP T 211 false xs d st:=zaa Zs.h211
@[simp] theorem x212:Zc (orc T) T 212 xs d st=cP T 212 false xs d st:=zaa Zs.h212
@[simp] theorem x213:Zc (orc T) T 213 xs d st=cP T 213 false xs d st:=zaa Zs.h213
@[simp] theorem x215:Zc (orc T) T 215 xs d st=cP T 215 false xs d st:=zaa Zs.h215
@[simp] theorem x216:Zc (orc T) T 216 xs d st=cP T 216 false xs d st:=zaa Zs.h216
@[simp] theorem x217:Zc (orc T) T 217 xs d st=cP T 217 false xs d st:=zaa Zs.h217
@[simp] theorem x218:Zc (orc T) T 218 xs d st=cP T 218 false xs d st:=zaa Zs.h218
end
def b204:AX:=
 (.seq
 (.reg [rg 2 (.xop (.box 2) [(.t 0)]),rg 4 (.alloc [(.b false),(.sl [] .nl),(.sl [] .nl)]),rg 5 (.mov (.c (.b false)))])
 (.seq
 (.seq
 (.reg [mv 6 1,rg 7 (.call 70 [(.t 6)])])
 (.cond (.t 7)
 (.seq
 (.reg [rg 8 (.call 205 [(.c (.i .i64 0))]),so (.store 3 (.t 4) (.t 8)),rg 5 (.mov (.c (.b false)))])
 (.pre (.norm false [4,5]) .ret))
 .skip))
 (.seq
 (.reg [rg 9 (.load (some 2) (.t 2)),mv 10 1,rg 11 (.call 202 [(.t 9),(.t 10)]),so (.store 3 (.t 4) (.t 11)),rg 5 (.mov (.c (.b true)))])
 (.pre (.norm false [4,5]) .ret))))
def row204:AFx:=⟨2,12,[.cell 4 (some 3),.t 5],b204,none,false⟩
class Za5 (T:Tbl):Prop where
 h204:T 204=some row204
section
variable{T:Tbl}[Za5 T]{d:Option Nat}{st:St}{xs:List AV}{ps:List Opd}{e:Env}{h:Heap}{ol:List Heap}
@[simp] theorem x204:Zc (orc T) T 204 xs d st=cP T 204 false xs d st:=zaa Za5.h204
end
def b208:AX:=
 (.seq
 (.reg [rg 1 (.xop (.box 3) [(.t 0)]),rg 2 (.mov (.c (.b false)))])
 (.seq
 (.reg [rg 4 (.load (some 3) (.t 1)),rg 5 (.call 207 [(.t 4)]),rg 3 (.alloc [(.b false),(.sl [] .nl),(.sl [] .nl)]),so (.store 3 (.t 3) (.t 5))])
 (.seq
 (.reg [rg 6 (.fad 0 (.t 1)),rg 7 (.fad 0 (.t 6)),rg 8 (.load none (.t 7)),rg 9 (.fad 0 (.t 3)),rg 10 (.fad 0 (.t 9)),rg 11 (.load none (.t 10)),rg 12 (.eqb false (.t 8) (.t 11)),mv 13 12,gd 14 13 true (.fad 0 (.t 1)),gd 15 13 true (.fad 1 (.t 14)),gd 16 13 true (.load none (.t 15)),gd 17 13 true (.len (.t 16)),gd 18 13 true (.fad 0 (.t 3)),gd 19 13 true (.fad 1 (.t 18)),gd 20 13 true (.load none (.t 19)),gd 21 13 true (.len (.t 20)),gd 22 13 true (.bin .eql (.t 17) (.t 21)),rg 23 (.pick (.t 13) (.t 22) (.c (.b false))),mv 24 23,gd 25 24 true (.fad 2 (.t 1)),gd 26 24 true (.load none (.t 25)),gd 27 24 true (.len (.t 26)),gd 28 24 true (.fad 2 (.t 3)),gd 29 24 true (.load none (.t 28)),gd 30 24 true (.len (.t 29)),gd 31 24 true (.bin .eql (.t 27) (.t 30)),rg 32 (.pick (.t 24) (.t 31) (.c (.b false))),mv 33 32,gd 34 33 true (.fad 0 (.t 1)),gd 35 33 true (.fad 1 (.t 34)),gd 36 33 true (.load none (.t 35)),gd 37 33 true (.fad 0 (.t 3)),gd 38 33 true (.fad 1 (.t 37)),gd 39 33 true (.load none (.t 38)),gd 40 33 true (.call 87 [(.t 36),(.t 39)]),gd 41 33 true (.bin .eql (.t 40) (.c (.i .i64 0))),rg 42 (.pick (.t 33) (.t 41) (.c (.b false))),mv 43 42,gd 44 43 true (.fad 2 (.t 1)),gd 45 43 true (.load none (.t 44)),gd 46 43 true (.fad 2 (.t 3)),gd 47 43 true (.load none (.t 46)),gd 48 43 true (.call 87 [(.t 45),(.t 47)]),gd 49 43 true (.bin .eql (.t 48) (.c (.i .i64 0))),rg 50 (.pick (.t 43) (.t 49) (.c (.b false))),mv 2 50])
 (.pre (.norm false [2]) .ret))))
def l219_0:AX:=
 (.note
 (.seq
 (.reg [rg 9 (.bin .lss (.t 8) (.t 7))])
 (.seq
 (.cond (.t 9)
 .skip
 (.exit 0))
 (.seq
 (.block 1
 (.reg [mv 10 5,mv 11 0,rg 12 (.call 60 [(.t 10),(.t 11)]),mv 5 12]))
 (.reg [rg 13 (.bin .add (.t 8) (.c (.i .i64 1))),mv 8 13]))))
 (.norm false [0,5,7,8]))
def b219:AX:=
 (.seq
 (.reg [rg 4 (.mov (.c (.sl [] .nl)))])
 (.seq
 (.reg [rg 6 (.call 72 [(.c (u64 1))]),mv 5 6])
 (.seq
 (.seq
 (.reg [mv 7 1,rg 8 (.mov (.c (.i .i64 0)))])
 (.lp 0 (.norm false [0,5,7,8]) l219_0 (.norm false [5])))
 (.seq
 (.reg [mv 14 5,mv 4 14])
 (.pre (.norm false [4]) .ret)))))
def b220:AX:=
 (.seq
 (.reg [rg 2 (.xop (.box 3) [(.t 0)]),rg 4 (.alloc [(.b false),(.sl [] .nl),(.sl [] .nl)]),rg 5 (.mov (.c (.b false)))])
 (.seq
 (.seq
 (.reg [mv 10 1,rg 11 (.bin .lss (.t 10) (.c (.i .i64 (-8)))),mv 12 11,gd 13 12 false (.mov (.t 1)),gd 14 12 false (.bin .gtr (.t 13) (.c (.i .i64 8))),rg 15 (.pick (.t 12) (.c (.b true)) (.t 14)),mv 16 15,gd 17 16 false (.mov (.t 1)),gd 18 16 false (.bin .lss (.t 17) (.c (.i .i64 0))),gd 19 16 false (.mov (.t 18)),gd 20 19 true (.load (some 3) (.t 2)),gd 21 19 true (.call 209 [(.t 20)]),gd 22 19 true (.bin .eql (.t 21) (.c (.i .i64 0))),gd 23 16 false (.pick (.t 19) (.t 22) (.c (.b false))),rg 24 (.pick (.t 16) (.c (.b true)) (.t 23))])
 (.cond (.t 24)
 (.seq
 (.reg [rg 25 (.call 205 [(.c (.i .i64 0))]),so (.store 3 (.t 4) (.t 25)),rg 5 (.mov (.c (.b false)))])
 (.pre (.norm false [4,5]) .ret))
 .skip))
 (.seq
 (.reg [rg 26 (.load (some 3) (.t 2)),rg 27 (.call 207 [(.t 26)]),rg 6 (.alloc [(.b false),(.sl [] .nl),(.sl [] .nl)]),so (.store 3 (.t 6) (.t 27))])
 (.seq
 (.reg [mv 28 1,mv 29 1,rg 30 (.un .neg (.t 29)),rg 31 (.mm true [(.t 28),(.t 30)]),mv 7 31])
 (.seq
 (.drawT [rg 32 (.fad 0 (.t 6)),rg 33 (.fad 1 (.t 32)),rg 34 (.load none (.t 33)),mv 35 7,rg 36 (.call 219 [(.t 34),(.t 35)]),rg 37 (.fad 2 (.t 6)),rg 38 (.load none (.t 37)),mv 39 7]
 [rg 40 (.call 219 [(.t 38),(.t 39)]),mv 8 36,mv 9 40])
 (.seq
 (.seq
 (.reg [mv 41 1,rg 42 (.bin .lss (.t 41) (.c (.i .i64 0)))])
 (.cond (.t 42)
 (.reg [mv 43 9,mv 44 8,mv 8 43,mv 9 44])
 .skip))
 (.seq
 (.reg [rg 45 (.fad 0 (.t 6)),rg 46 (.fad 0 (.t 45)),rg 47 (.load none (.t 46)),mv 48 47,gd 49 48 true (.mov (.t 7)),gd 50 48 true (.bin .rem (.t 49) (.c (.i .i64 2))),gd 51 48 true (.bin .eql (.t 50) (.c (.i .i64 1))),rg 52 (.pick (.t 48) (.t 51) (.c (.b false))),mv 53 8,rg 54 (.build [(.b false),(.sl [] .nl)] [(0,1,(.t 52)),(1,1,(.t 53))]),rg 55 (.call 38 [(.t 54)]),mv 56 9,rg 57 (.build [(.b false),(.sl [] .nl),(.sl [] .nl)] [(0,2,(.t 55)),(2,1,(.t 56))]),so (.store 3 (.t 4) (.t 57)),rg 5 (.mov (.c (.b true)))])
 (.pre (.norm false [4,5]) .ret))))))))
def row208:AFx:=⟨1,51,[.t 2],b208,none,false⟩
def row219:AFx:=⟨2,15,[.t 4],b219,none,false⟩
def row220:AFx:=⟨2,58,[.cell 4 (some 3),.t 5],b220,none,false⟩
class Z6 (T:Tbl):Prop where
 h208:T 208=some row208
 h219:T 219=some row219
 h220:T 220=some row220
section
variable{T:Tbl}[Z6 T]{d:Option Nat}{st:St}{xs:List AV}{ps:List Opd}{e:Env}{h:Heap}{ol:List Heap}
@[simp] theorem x208:Zc (orc T) T 208 xs d st=cP T 208 false xs d st:=zaa Z6.h208
@[simp] theorem x219:Zc (orc T) T 219 xs d st=cP T 219 false xs d st:=zaa Z6.h219
@[simp] theorem y219:opD (orc T) T (.call 219 ps) e h ol=dP T 219 false ps e:=zau Z6.h219
@[simp] theorem x220:Zc (orc T) T 220 xs d st=cP T 220 false xs d st:=zaa Z6.h220
end
def b223:AX:=
 (.seq
 (.reg [rg 1 (.xop (.box 3) [(.t 0)]),rg 2 (.mov (.c (.i .i64 0)))])
 (.seq
 (.drawT [rg 3 (.fad 0 (.t 1)),rg 4 (.fad 1 (.t 3)),rg 5 (.load none (.t 4)),rg 6 (.call 356 [(.t 5)]),rg 7 (.fad 2 (.t 1)),rg 8 (.load none (.t 7))]
 [rg 9 (.call 356 [(.t 8)]),rg 10 (.bin .add (.t 6) (.t 9)),mv 2 10])
 (.pre (.norm false [2]) .ret)))
def row223:AFx:=⟨1,11,[.t 2],b223,none,false⟩
class Zan (T:Tbl):Prop where
 h223:T 223=some row223
section
variable{T:Tbl}[Zan T]{d:Option Nat}{st:St}{xs:List AV}{ps:List Opd}{e:Env}{h:Heap}{ol:List Heap}
@[simp] theorem x223:Zc (orc T) T 223 xs d st=cP T 223 false xs d st:=zaa Zan.h223
end
def b356:AX:=
 (.seq
 (.reg [rg 2 (.mov (.c (.i .i64 0)))])
 (.seq
 (.reg [mv 4 0,rg 5 (.call 71 [(.t 4)]),mv 0 5])
 (.seq
 (.reg [mv 6 0,rg 7 (.len (.t 6)),mv 3 7])
 (.seq
 (.seq
 (.reg [mv 8 3,rg 9 (.bin .eql (.t 8) (.c (.i .i64 0)))])
 (.cond (.t 9)
 (.seq
 (.reg [rg 2 (.mov (.c (.i .i64 0)))])
 (.pre (.norm false [2]) .ret))
 .skip))
 (.seq
 (.reg [mv 10 3,rg 11 (.bin .sub (.t 10) (.c (.i .i64 1))),rg 12 (.bin .mul (.c (.i .i64 32)) (.t 11)),mv 13 0,mv 14 3,rg 15 (.bin .sub (.t 14) (.c (.i .i64 1))),rg 16 (.iad 1 (.t 13) (.t 15)),rg 17 (.load none (.t 16)),rg 18 (.call 91 [(.t 17)]),rg 19 (.bin .add (.t 12) (.t 18)),mv 2 19])
 (.pre (.norm false [2]) .ret))))))
def row356:AFx:=⟨1,20,[.t 2],b356,none,false⟩
class Zcl (T:Tbl):Prop where
 h356:T 356=some row356
section
variable{T:Tbl}[Zcl T]{d:Option Nat}{st:St}{xs:List AV}{ps:List Opd}{e:Env}{h:Heap}{ol:List Heap}
@[simp] theorem x356:Zc (orc T) T 356 xs d st=cP T 356 false xs d st:=zaa Zcl.h356
@[simp] theorem y356:opD (orc T) T (.call 356 ps) e h ol=dP T 356 false ps e:=zau Zcl.h356
end
class Zc3 (T:Tbl):Prop where
section
variable{T:Tbl}[Zb8 T]
def Zos(N:Nat)(y:Nat×Nat×List UInt32)(P:List UInt32):St:=
 ⟨[(0,.bs (.bor 0) 0 1 0 N),(3,u64 y.2.1),(4,.i .i64 ((y.1:Int)-1))],[(.bor 0,⟨0,.own,1,Zb (P.take y.1++y.2.2)⟩)],4⟩
end
section
variable{T:Tbl}[Zb8 T]
def Zp1(b:BId)(x:List UInt32)(s:List UInt8):St:=⟨[(3,.bs b 1 1 0 x.length),(4,.s s)],[(b,⟨1,.own,1,Zb x⟩)],3⟩
end
class Zdf (T:Tbl):Prop extends Zb8 T where
def b247:AX:=
 (.seq
 (.reg [rg 2 (.xop (.box 3) [(.t 0)]),rg 4 (.mov (.c (.b false)))])
 (.seq
 (.reg [rg 5 (.fad 1 (.t 2)),rg 6 (.load none (.t 5)),rg 7 (.len (.t 6)),mv 8 1,rg 9 (.bin .gtr (.t 7) (.t 8)),mv 10 9,gd 11 10 false (.fad 2 (.t 2)),gd 12 10 false (.load none (.t 11)),gd 13 10 false (.len (.t 12)),gd 14 10 false (.mov (.t 1)),gd 15 10 false (.bin .gtr (.t 13) (.t 14)),rg 16 (.pick (.t 10) (.c (.b true)) (.t 15)),mv 4 16])
 (.pre (.norm false [4]) .ret)))
def row247:AFx:=⟨2,17,[.t 4],b247,none,false⟩
class Zcg (T:Tbl):Prop where
 h247:T 247=some row247
section
variable{T:Tbl}[Zcg T]{d:Option Nat}{st:St}{xs:List AV}{ps:List Opd}{e:Env}{h:Heap}{ol:List Heap}
@[simp] theorem x247:Zc (orc T) T 247 xs d st=cP T 247 false xs d st:=zaa Zcg.h247
end
def l286_0:AX:=
 (.note
 (.seq
 (.seq
 (.reg [mv 8 7,mv 9 0,rg 10 (.len (.t 9)),rg 11 (.bin .lss (.t 8) (.t 10)),mv 12 11,gd 13 12 true (.mov (.t 7)),gd 14 12 true (.mov (.t 1)),gd 15 12 true (.bin .lss (.t 13) (.t 14)),rg 16 (.pick (.t 12) (.t 15) (.c (.b false)))])
 (.cond (.t 16)
 .skip
 (.exit 0)))
 (.seq
 (.block 1
 (.seq
 (.reg [mv 19 0,mv 20 7,rg 21 (.iad 3 (.t 19) (.t 20)),rg 22 (.load (some 3) (.t 21)),mv 23 2,rg 24 (.call 247 [(.t 22),(.t 23)])])
 (.cond (.t 24)
 (.seq
 (.reg [rg 6 (.mov (.c (.b true)))])
 (.pre (.norm false [6]) .ret))
 .skip)))
 (.reg [mv 17 7,rg 18 (.bin .add (.t 17) (.c (.i .i64 1))),mv 7 18])))
 (.norm false [0,1,2,7]))
def b286:AX:=
 (.seq
 (.reg [rg 6 (.mov (.c (.b false)))])
 (.seq
 (.seq
 (.reg [rg 7 (.mov (.c (.i .i64 0)))])
 (.lp 0 (.norm false [0,1,2,7]) l286_0 (.norm false [0,1])))
 (.seq
 (.reg [mv 25 0,rg 26 (.len (.t 25)),mv 27 1,rg 28 (.bin .gtr (.t 26) (.t 27)),mv 6 28])
 (.pre (.norm false [6]) .ret))))
def row286:AFx:=⟨3,29,[.t 6],b286,none,false⟩
class Zch (T:Tbl):Prop where
 h286:T 286=some row286
section
variable{T:Tbl}[Zch T]{d:Option Nat}{st:St}{xs:List AV}{ps:List Opd}{e:Env}{h:Heap}{ol:List Heap}
@[simp] theorem x286:Zc (orc T) T 286 xs d st=cP T 286 false xs d st:=zaa Zch.h286
end
def b248:AX:=
 (.seq
 (.reg [rg 1 (.xop (.box 3) [(.t 0)]),rg 2 (.alloc [(.b false),(.sl [] .nl),(.sl [] .nl)])])
 (.seq
 (.reg [rg 3 (.fad 0 (.t 1)),rg 4 (.load none (.t 3)),rg 5 (.fad 1 (.t 1)),rg 6 (.load none (.t 5)),rg 7 (.build [(.b false),(.sl [] .nl)] [(0,1,(.t 4)),(1,1,(.t 6))]),rg 8 (.fad 2 (.t 1)),rg 9 (.load none (.t 8)),rg 10 (.build [(.b false),(.sl [] .nl),(.sl [] .nl)] [(0,2,(.t 7)),(2,1,(.t 9))]),so (.store 3 (.t 2) (.t 10))])
 (.pre (.norm false [2]) .ret)))
def row248:AFx:=⟨1,11,[.cell 2 (some 3)],b248,none,false⟩
class Zds (T:Tbl):Prop where
 h248:T 248=some row248
section
variable{T:Tbl}[Zds T]{d:Option Nat}{st:St}{xs:List AV}{ps:List Opd}{e:Env}{h:Heap}{ol:List Heap}
@[simp] theorem x248:Zc (orc T) T 248 xs d st=cP T 248 false xs d st:=zaa Zds.h248
@[simp] theorem y248:opD (orc T) T (.call 248 ps) e h ol=dP T 248 false ps e:=zau Zds.h248
end
def l287_0:AX:=
 (.note
 (.seq
 (.seq
 (.reg [mv 5 4,mv 6 0,rg 7 (.len (.t 6)),rg 8 (.bin .lss (.t 5) (.t 7))])
 (.cond (.t 8)
 .skip
 (.exit 0)))
 (.seq
 (.block 1
 (.reg [mv 11 3,mv 12 0,mv 13 4,rg 14 (.iad 3 (.t 12) (.t 13)),rg 15 (.load (some 3) (.t 14)),rg 16 (.call 248 [(.t 15)]),rg 17 (.bsl 3 [(.b false),(.sl [] .nl),(.sl [] .nl)] 1 [(0,(.t 16))]),rg 18 (.app 3 (.t 11) (.t 17)),mv 3 18]))
 (.reg [mv 9 4,rg 10 (.bin .add (.t 9) (.c (.i .i64 1))),mv 4 10])))
 (.norm false [0,3,4]))
def b287:AX:=
 (.seq
 (.reg [rg 2 (.mov (.c (.sl [] .nl)))])
 (.seq
 (.note (.reg [rg 3 (.mov (.c (.sl [] .nl)))]) (.nil 3 3))
 (.seq
 (.seq
 (.reg [rg 4 (.mov (.c (.i .i64 0)))])
 (.lp 0 (.norm false [0,3,4]) l287_0 (.norm false [3])))
 (.seq
 (.reg [mv 19 3,mv 2 19])
 (.pre (.norm false [2]) .ret)))))
def row287:AFx:=⟨1,20,[.t 2],b287,none,false⟩
class Zdt (T:Tbl):Prop where
 h287:T 287=some row287
section
variable{T:Tbl}[Zdt T]{d:Option Nat}{st:St}{xs:List AV}{ps:List Opd}{e:Env}{h:Heap}{ol:List Heap}
@[simp] theorem x287:Zc (orc T) T 287 xs d st=cP T 287 false xs d st:=zaa Zdt.h287
@[simp] theorem y287:opD (orc T) T (.call 287 ps) e h ol=dP T 287 false ps e:=zau Zdt.h287
end
def b421:AX:=
 (.seq
 (.reg [rg 1 (.xop (.box 4) [(.t 0)]),rg 2 (.mov (.c (.b false)))])
 (.seq
 (.reg [rg 3 (.load (some 4) (.t 1)),rg 4 (.call 430 [(.t 3)]),rg 5 (.bin .eql (.t 4) (.c (.i .i64 (-1)))),mv 2 5])
 (.pre (.norm false [2]) .ret)))
def l430_0:AX:=
 (.note
 (.seq
 (.reg [rg 13 (.bin .lss (.t 12) (.t 11))])
 (.seq
 (.cond (.t 13)
 .skip
 (.exit 0))
 (.seq
 (.block 1
 (.seq
 (.reg [mv 14 12,mv 3 14])
 (.seq
 (.reg [rg 15 (.load (some 4) (.t 1)),mv 16 3,rg 17 (.call 434 [(.t 15),(.t 16)]),rg 18 (.un .not (.t 17))])
 (.cond (.t 18)
 (.seq
 (.reg [mv 19 3,mv 2 19])
 (.pre (.norm false [2]) .ret))
 .skip))))
 (.reg [rg 20 (.bin .add (.t 12) (.c (.i .i64 1))),mv 12 20]))))
 (.norm false [1,11,12]))
def l430_1:AX:=
 (.note
 (.seq
 (.reg [rg 25 (.bin .lss (.t 24) (.t 23))])
 (.seq
 (.cond (.t 25)
 .skip
 (.exit 2))
 (.seq
 (.block 3
 (.seq
 (.reg [rg 26 (.iad 1 (.t 22) (.t 24)),rg 27 (.load none (.t 26)),mv 5 27])
 (.seq
 (.reg [mv 28 5,rg 29 (.fad 0 (.t 1)),rg 30 (.load none (.t 29)),rg 31 (.len (.t 30)),rg 32 (.call 435 [(.t 28),(.t 31)]),rg 33 (.un .not (.t 32))])
 (.cond (.t 33)
 (.seq
 (.reg [rg 34 (.fad 0 (.t 1)),rg 35 (.load none (.t 34)),rg 36 (.len (.t 35)),mv 2 36])
 (.pre (.norm false [2]) .ret))
 .skip))))
 (.reg [rg 37 (.bin .add (.t 24) (.c (.i .i64 1))),mv 24 37]))))
 (.norm false [1,22,23,24]))
def b430:AX:=
 (.seq
 (.reg [rg 1 (.xop (.box 4) [(.t 0)]),rg 2 (.mov (.c (.i .i64 0)))])
 (.seq
 (.seq
 (.reg [rg 6 (.load (some 4) (.t 1)),rg 7 (.call 433 [(.t 6)]),rg 8 (.un .not (.t 7))])
 (.cond (.t 8)
 (.seq
 (.reg [rg 2 (.mov (.c (.i .i64 (-2))))])
 (.pre (.norm false [2]) .ret))
 .skip))
 (.seq
 (.seq
 (.reg [rg 9 (.fad 0 (.t 1)),rg 10 (.load none (.t 9)),rg 11 (.len (.t 10)),rg 12 (.mov (.c (.i .i64 0)))])
 (.lp 0 (.norm false [1,11,12]) l430_0 (.norm false [1])))
 (.seq
 (.seq
 (.reg [rg 21 (.fad 1 (.t 1)),rg 22 (.load none (.t 21)),rg 23 (.len (.t 22)),rg 24 (.mov (.c (.i .i64 0)))])
 (.lp 2 (.norm false [1,22,23,24]) l430_1 (.norm false [])))
 (.seq
 (.reg [rg 2 (.mov (.c (.i .i64 (-1))))])
 (.pre (.norm false [2]) .ret))))))
def b433:AX:=
 (.seq
 (.reg [rg 1 (.xop (.box 4) [(.t 0)]),rg 2 (.mov (.c (.b false)))])
 (.seq
 (.reg [rg 3 (.fad 2 (.t 1)),rg 4 (.load none (.t 3)),rg 5 (.bin .sub (.t 4) (.c (.i .i64 1))),rg 6 (.call 435 [(.t 5),(.c (.i .i64 6))]),mv 7 6,gd 8 7 true (.fad 3 (.t 1)),gd 9 7 true (.load none (.t 8)),gd 10 7 true (.call 435 [(.t 9),(.c (.i .i64 7))]),rg 11 (.pick (.t 7) (.t 10) (.c (.b false))),mv 12 11,gd 13 12 true (.fad 1 (.t 1)),gd 14 12 true (.load none (.t 13)),gd 15 12 true (.len (.t 14)),gd 16 12 true (.fad 2 (.t 1)),gd 17 12 true (.load none (.t 16)),gd 18 12 true (.bin .eql (.t 15) (.t 17)),rg 19 (.pick (.t 12) (.t 18) (.c (.b false))),mv 20 19,gd 21 20 true (.fad 0 (.t 1)),gd 22 20 true (.load none (.t 21)),gd 23 20 true (.len (.t 22)),gd 24 20 true (.bin .leq (.t 23) (.c (.i .i64 300))),rg 25 (.pick (.t 20) (.t 24) (.c (.b false))),mv 2 25])
 (.pre (.norm false [2]) .ret)))
def l434_0:AX:=
 (.note
 (.seq
 (.reg [rg 33 (.bin .lss (.t 32) (.t 31))])
 (.seq
 (.cond (.t 33)
 .skip
 (.exit 0))
 (.seq
 (.block 1
 (.seq
 (.reg [rg 34 (.iad 1 (.t 30) (.t 32)),rg 35 (.load none (.t 34)),mv 7 35])
 (.seq
 (.reg [mv 36 7,mv 37 1,rg 38 (.call 435 [(.t 36),(.t 37)]),rg 39 (.un .not (.t 38))])
 (.cond (.t 39)
 (.seq
 (.reg [rg 4 (.mov (.c (.b false)))])
 (.pre (.norm false [4]) .ret))
 .skip))))
 (.reg [rg 40 (.bin .add (.t 32) (.c (.i .i64 1))),mv 32 40]))))
 (.norm false [1,2,5,30,31,32]))
def b434:AX:=
 (.seq
 (.reg [rg 2 (.xop (.box 4) [(.t 0)]),rg 4 (.mov (.c (.b false)))])
 (.seq
 (.reg [rg 8 (.fad 0 (.t 2)),rg 9 (.load none (.t 8)),mv 10 1,rg 11 (.iad 6 (.t 9) (.t 10)),rg 12 (.load (some 6) (.t 11)),rg 5 (.alloc [(.i .i64 0),(.i .i64 0),(.i .i64 0),(.b false),(.sl [] .nl),(.sl [] .nl)]),so (.store 6 (.t 5) (.t 12))])
 (.seq
 (.seq
 (.reg [rg 13 (.fad 0 (.t 5)),rg 14 (.load none (.t 13)),rg 15 (.bin .eql (.t 14) (.c (.i .i64 1)))])
 (.cond (.t 15)
 (.seq
 (.reg [rg 16 (.load (some 6) (.t 5)),rg 17 (.call 437 [(.t 16)]),rg 18 (.build [(.i .i64 0),(.i .i64 0),(.i .i64 0)] [(0,1,(.c (.i .i64 1)))]),rg 19 (.eqs false [(0,.int),(1,.int),(2,.int)] (.t 17) (.t 18)),mv 20 19,gd 21 20 true (.fad 3 (.t 5)),gd 22 20 true (.load (some 3) (.t 21)),gd 23 20 true (.call 208 [(.t 22)]),rg 24 (.pick (.t 20) (.t 23) (.c (.b false))),mv 4 24])
 (.pre (.norm false [4]) .ret))
 .skip))
 (.seq
 (.seq
 (.reg [rg 25 (.fad 3 (.t 5)),rg 26 (.load (some 3) (.t 25)),rg 27 (.call 438 [(.t 26)]),rg 28 (.un .not (.t 27))])
 (.cond (.t 28)
 (.seq
 (.reg [rg 4 (.mov (.c (.b false)))])
 (.pre (.norm false [4]) .ret))
 .skip))
 (.seq
 (.seq
 (.reg [rg 29 (.load (some 6) (.t 5)),rg 30 (.call 439 [(.t 29)]),rg 31 (.len (.t 30)),rg 32 (.mov (.c (.i .i64 0)))])
 (.lp 0 (.norm false [1,2,5,30,31,32]) l434_0 (.norm false [2,5])))
 (.seq
 (.seq
 (.reg [rg 41 (.fad 0 (.t 5)),rg 42 (.load none (.t 41))])
 (.block 2
 (.seq
 (.reg [rg 44 (.bin .eql (.t 42) (.c (.i .i64 2))),mv 43 44])
 (.cond (.t 43)
 (.seq
 (.reg [rg 45 (.load (some 6) (.t 5)),rg 46 (.call 437 [(.t 45)]),rg 47 (.build [(.i .i64 0),(.i .i64 0),(.i .i64 0)] [(0,1,(.c (.i .i64 2)))]),rg 48 (.eqs false [(0,.int),(1,.int),(2,.int)] (.t 46) (.t 47)),mv 4 48])
 (.pre (.norm false [4]) .ret))
 (.seq
 (.reg [rg 50 (.bin .eql (.t 42) (.c (.i .i64 3))),mv 49 50])
 (.cond (.t 49)
 (.seq
 (.reg [rg 51 (.fad 1 (.t 5)),rg 52 (.load none (.t 51)),rg 53 (.fad 2 (.t 2)),rg 54 (.load none (.t 53)),rg 55 (.call 435 [(.t 52),(.t 54)]),mv 56 55,gd 57 56 true (.fad 2 (.t 5)),gd 58 56 true (.load none (.t 57)),gd 59 56 true (.bin .eql (.t 58) (.c (.i .i64 0))),rg 60 (.pick (.t 56) (.t 59) (.c (.b false))),mv 4 60])
 (.pre (.norm false [4]) .ret))
 (.seq
 (.reg [rg 62 (.bin .eql (.t 42) (.c (.i .i64 4))),mv 61 62])
 (.cond (.t 61)
 (.seq
 (.reg [rg 63 (.fad 1 (.t 5)),rg 64 (.load none (.t 63)),rg 65 (.fad 3 (.t 2)),rg 66 (.load none (.t 65)),rg 67 (.call 435 [(.t 64),(.t 66)]),mv 68 67,gd 69 68 true (.fad 2 (.t 5)),gd 70 68 true (.load none (.t 69)),gd 71 68 true (.bin .eql (.t 70) (.c (.i .i64 0))),rg 72 (.pick (.t 68) (.t 71) (.c (.b false))),mv 4 72])
 (.pre (.norm false [4]) .ret))
 (.seq
 (.reg [rg 74 (.bin .eql (.t 42) (.c (.i .i64 6))),mv 73 74])
 (.cond (.t 73)
 (.seq
 (.reg [rg 75 (.fad 2 (.t 5)),rg 76 (.load none (.t 75)),rg 77 (.bin .eql (.t 76) (.c (.i .i64 0))),mv 4 77])
 (.pre (.norm false [4]) .ret))
 (.seq
 (.reg [rg 79 (.bin .eql (.t 42) (.c (.i .i64 11))),mv 78 79])
 (.cond (.t 78)
 (.seq
 (.reg [rg 80 (.fad 2 (.t 5)),rg 81 (.load none (.t 80)),rg 82 (.bin .geq (.t 81) (.c (.i .i64 (-8)))),mv 83 82,gd 84 83 true (.fad 2 (.t 5)),gd 85 83 true (.load none (.t 84)),gd 86 83 true (.bin .leq (.t 85) (.c (.i .i64 8))),rg 87 (.pick (.t 83) (.t 86) (.c (.b false))),mv 4 87])
 (.pre (.norm false [4]) .ret))
 .skip))))))))))))
 (.seq
 (.reg [rg 88 (.load (some 6) (.t 5)),rg 89 (.call 439 [(.t 88)]),rg 90 (.len (.t 89)),rg 91 (.bin .eql (.t 90) (.c (.i .i64 2))),mv 4 91])
 (.pre (.norm false [4]) .ret))))))))
def b435:AX:=
 (.seq
 (.reg [rg 4 (.mov (.c (.b false)))])
 (.seq
 (.reg [mv 5 0,rg 6 (.bin .geq (.t 5) (.c (.i .i64 0))),mv 7 6,gd 8 7 true (.mov (.t 0)),gd 9 7 true (.mov (.t 1)),gd 10 7 true (.bin .lss (.t 8) (.t 9)),rg 11 (.pick (.t 7) (.t 10) (.c (.b false))),mv 4 11])
 (.pre (.norm false [4]) .ret)))
def b437:AX:=
 (.seq
 (.reg [rg 1 (.xop (.box 6) [(.t 0)]),rg 2 (.alloc [(.i .i64 0),(.i .i64 0),(.i .i64 0)])])
 (.seq
 (.reg [rg 3 (.fad 0 (.t 1)),rg 4 (.load none (.t 3)),rg 5 (.fad 1 (.t 1)),rg 6 (.load none (.t 5)),rg 7 (.fad 2 (.t 1)),rg 8 (.load none (.t 7)),rg 9 (.build [(.i .i64 0),(.i .i64 0),(.i .i64 0)] [(0,1,(.t 4)),(1,1,(.t 6)),(2,1,(.t 8))]),so (.store 3 (.t 2) (.t 9))])
 (.pre (.norm false [2]) .ret)))
def b438:AX:=
 (.seq
 (.reg [rg 1 (.xop (.box 3) [(.t 0)]),rg 2 (.mov (.c (.b false)))])
 (.seq
 (.reg [rg 3 (.fad 0 (.t 1)),rg 4 (.fad 0 (.t 3)),rg 5 (.load none (.t 4)),rg 6 (.un .not (.t 5)),mv 7 6,gd 8 7 true (.fad 0 (.t 1)),gd 9 7 true (.fad 1 (.t 8)),gd 10 7 true (.load none (.t 9)),gd 11 7 true (.len (.t 10)),gd 12 7 true (.bin .eql (.t 11) (.c (.i .i64 0))),rg 13 (.pick (.t 7) (.t 12) (.c (.b false))),mv 14 13,gd 15 14 true (.fad 2 (.t 1)),gd 16 14 true (.load none (.t 15)),gd 17 14 true (.len (.t 16)),gd 18 14 true (.bin .eql (.t 17) (.c (.i .i64 0))),rg 19 (.pick (.t 14) (.t 18) (.c (.b false))),mv 2 19])
 (.pre (.norm false [2]) .ret)))
def b439:AX:=
 (.seq
 (.reg [rg 1 (.xop (.box 6) [(.t 0)]),rg 2 (.mov (.c (.sl [] .nl)))])
 (.seq
 (.seq
 (.reg [rg 3 (.fad 0 (.t 1)),rg 4 (.load none (.t 3))])
 (.block 0
 (.seq
 (.seq
 (.reg [rg 6 (.bin .eql (.t 4) (.c (.i .i64 6))),mv 5 6])
 (.cond (.t 5)
 .skip
 (.reg [rg 7 (.bin .eql (.t 4) (.c (.i .i64 11))),mv 5 7])))
 (.cond (.t 5)
 (.seq
 (.reg [rg 8 (.fad 1 (.t 1)),rg 9 (.load none (.t 8)),rg 10 (.bsl 1 [(.i .i64 0)] 1 [(0,(.t 9))]),mv 2 10])
 (.pre (.norm false [2]) .ret))
 (.seq
 (.seq
 (.reg [rg 12 (.bin .eql (.t 4) (.c (.i .i64 7))),mv 11 12])
 (.cond (.t 11)
 .skip
 (.seq
 (.reg [rg 13 (.bin .eql (.t 4) (.c (.i .i64 8))),mv 11 13])
 (.cond (.t 11)
 .skip
 (.seq
 (.reg [rg 14 (.bin .eql (.t 4) (.c (.i .i64 9))),mv 11 14])
 (.cond (.t 11)
 .skip
 (.reg [rg 15 (.bin .eql (.t 4) (.c (.i .i64 10))),mv 11 15])))))))
 (.cond (.t 11)
 (.seq
 (.reg [rg 16 (.fad 1 (.t 1)),rg 17 (.load none (.t 16)),rg 18 (.fad 2 (.t 1)),rg 19 (.load none (.t 18)),rg 20 (.bsl 1 [(.i .i64 0)] 2 [(0,(.t 17)),(1,(.t 19))]),mv 2 20])
 (.pre (.norm false [2]) .ret))
 .skip))))))
 (.seq
 (.reg [rg 2 (.mov (.c (.sl [] .nl)))])
 (.pre (.norm false [2]) .ret))))
def row421:AFx:=⟨1,6,[.t 2],b421,none,false⟩
def row430:AFx:=⟨1,38,[.t 2],b430,none,false⟩
def row433:AFx:=⟨1,26,[.t 2],b433,none,false⟩
def row434:AFx:=⟨2,92,[.t 4],b434,none,false⟩
def row435:AFx:=⟨2,12,[.t 4],b435,none,false⟩
def row437:AFx:=⟨1,10,[.cell 2 (some 3)],b437,none,false⟩
def row438:AFx:=⟨1,20,[.t 2],b438,none,false⟩
def row439:AFx:=⟨1,21,[.t 2],b439,none,false⟩
class Zaa (T:Tbl):Prop where
 h421:T 421=some row421
 h430:T 430=some row430
 h433:T 433=some row433
 h434:T 434=some row434
 h435:T 435=some row435
 h437:T 437=some row437
 h438:T 438=some row438
 h439:T 439=some row439
section
variable{T:Tbl}[Zaa T]{d:Option Nat}{st:St}{xs:List AV}{ps:List Opd}{e:Env}{h:Heap}{ol:List Heap}
@[simp] theorem x421:Zc (orc T) T 421 xs d st=cP T 421 false xs d st:=zaa Zaa.h421
@[simp] theorem x430:Zc (orc T) T 430 xs d st=cP T 430 false xs d st:=zaa Zaa.h430
@[simp] theorem x433:Zc (orc T) T 433 xs d st=cP T 433 false xs d st:=zaa Zaa.h433
@[simp] theorem x434:Zc (orc T) T 434 xs d st=cP T 434 false xs d st:=zaa Zaa.h434
@[simp] theorem x435:Zc (orc T) T 435 xs d st=cP T 435 false xs d st:=zaa Zaa.h435
@[simp] theorem x437:Zc (orc T) T 437 xs d st=cP T 437 false xs d st:=zaa Zaa.h437
@[simp] theorem x438:Zc (orc T) T 438 xs d st=cP T 438 false xs d st:=zaa Zaa.h438
@[simp] theorem x439:Zc (orc T) T 439 xs d st=cP T 439 false xs d st:=zaa Zaa.h439
end
def b406:AX:=
 (.seq
 (.reg [rg 2 (.mov (.c (.raw (.pointer none))))])
 (.seq
 (.reg [mv 3 0,rg 4 (.mm true [(.t 3),(.c (.i .i64 0))]),rg 5 (.mm false [(.t 4),(.c (.i .i64 4096))]),rg 6 (.build [(.i .i64 0),(.i .i64 0),(.i .i64 0)] [(2,1,(.t 5))]),rg 7 (.xop (.box 3) [(.t 6)]),mv 2 7])
 (.pre (.norm false [2]) .ret)))
def b411:AX:=
 (.seq
 (.reg [rg 3 (.xop (.box 3) [(.t 1)]),rg 4 (.mov (.c (.b false)))])
 (.seq
 (.reg [rg 6 (.load (some 3) (.t 3)),rg 7 (.call 223 [(.t 6)]),mv 5 7])
 (.seq
 (.reg [mv 8 0,rg 9 (.nilc (.t 8)),rg 10 (.fad 0 (.t 9)),mv 11 5,rg 12 (.call 426 [(.t 10),(.t 11)])])
 (.seq
 (.reg [mv 13 5,mv 14 0,rg 15 (.nilc (.t 14)),rg 16 (.fad 2 (.t 15)),rg 17 (.load none (.t 16)),rg 18 (.bin .leq (.t 13) (.t 17)),mv 4 18])
 (.pre (.norm false [4]) .ret)))))
def b426:AX:=
 (.seq
 (.reg [mv 4 0,rg 5 (.nilc (.t 4)),rg 6 (.fad 0 (.t 5)),rg 7 (.load none (.t 6)),rg 8 (.bin .add (.t 7) (.c (.i .i64 1))),rg 9 (.nilc (.t 4)),rg 10 (.fad 0 (.t 9)),so (.store 1 (.t 10) (.t 8))])
 (.reg [mv 11 0,mv 12 0,rg 13 (.nilc (.t 12)),rg 14 (.fad 1 (.t 13)),rg 15 (.load none (.t 14)),mv 16 1,rg 17 (.mm true [(.t 15),(.t 16)]),rg 18 (.nilc (.t 11)),rg 19 (.fad 1 (.t 18)),so (.store 1 (.t 19) (.t 17))]))
def row406:AFx:=⟨1,8,[.t 2],b406,(some [false]),false⟩
def row411:AFx:=⟨2,19,[.t 4],b411,(some [true,false]),false⟩
def row426:AFx:=⟨2,20,[],b426,(some [true,false]),false⟩
class Zaf (T:Tbl):Prop where
 h406:T 406=some row406
 h411:T 411=some row411
 h426:T 426=some row426
section
variable{T:Tbl}[Zaf T]{d:Option Nat}{st:St}{xs:List AV}{ps:List Opd}{e:Env}{h:Heap}{ol:List Heap}
@[simp] theorem x406:Zc (orc T) T 406 xs d st=cL T 406 false [false] xs d st:=zao Zaf.h406
@[simp] theorem x411:Zc (orc T) T 411 xs d st=cL T 411 false [true,false] xs d st:=zao Zaf.h411
@[simp] theorem x426:Zc (orc T) T 426 xs d st=cL T 426 false [true,false] xs d st:=zao Zaf.h426
end
def b405:AX:=
 (.seq
 (.reg [rg 1 (.xop (.box 5) [(.t 0)]),rg 2 (.alloc [(.b false),(.sl [] .nl),(.sl [] .nl),(.sl [] .nl),(.sl [] .nl)])])
 (.seq
 (.drawT [rg 3 (.fad 0 (.t 1)),rg 4 (.load (some 3) (.t 3)),rg 5 (.call 207 [(.t 4)]),rg 6 (.fad 3 (.t 1)),rg 7 (.load none (.t 6)),rg 8 (.call 420 [(.t 7)]),rg 9 (.fad 4 (.t 1)),rg 10 (.load none (.t 9))]
 [rg 11 (.call 420 [(.t 10)]),rg 12 (.build [(.b false),(.sl [] .nl),(.sl [] .nl),(.sl [] .nl),(.sl [] .nl)] [(0,3,(.t 5)),(3,1,(.t 8)),(4,1,(.t 11))]),so (.store 5 (.t 2) (.t 12))])
 (.pre (.norm false [2]) .ret)))
def l420_0:AX:=
 (.note
 (.seq
 (.reg [rg 9 (.bin .lss (.t 8) (.t 7))])
 (.seq
 (.cond (.t 9)
 .skip
 (.exit 0))
 (.seq
 (.block 1
 (.seq
 (.reg [rg 10 (.iad 3 (.t 6) (.t 8)),rg 11 (.load (some 3) (.t 10)),rg 5 (.alloc [(.b false),(.sl [] .nl),(.sl [] .nl)]),so (.store 3 (.t 5) (.t 11))])
 (.reg [mv 12 3,rg 13 (.load (some 3) (.t 5)),rg 14 (.call 207 [(.t 13)]),rg 15 (.bsl 3 [(.b false),(.sl [] .nl),(.sl [] .nl)] 1 [(0,(.t 14))]),rg 16 (.app 3 (.t 12) (.t 15)),mv 3 16])))
 (.reg [rg 17 (.bin .add (.t 8) (.c (.i .i64 1))),mv 8 17]))))
 (.norm false [3,6,7,8]))
def b420:AX:=
 (.seq
 (.reg [rg 2 (.mov (.c (.sl [] .nl)))])
 (.seq
 (.note (.reg [rg 3 (.mov (.c (.sl [] .nl)))]) (.nil 3 3))
 (.seq
 (.seq
 (.reg [mv 6 0,rg 7 (.len (.t 6)),rg 8 (.mov (.c (.i .i64 0)))])
 (.lp 0 (.norm false [3,6,7,8]) l420_0 (.norm false [3])))
 (.seq
 (.reg [mv 18 3,mv 2 18])
 (.pre (.norm false [2]) .ret)))))
def row405:AFx:=⟨1,13,[.cell 2 (some 5)],b405,none,false⟩
def row420:AFx:=⟨1,19,[.t 2],b420,none,false⟩
class Zbc (T:Tbl):Prop where
 h405:T 405=some row405
 h420:T 420=some row420
section
variable{T:Tbl}[Zbc T]{d:Option Nat}{st:St}{xs:List AV}{ps:List Opd}{e:Env}{h:Heap}{ol:List Heap}
@[simp] theorem x405:Zc (orc T) T 405 xs d st=cP T 405 false xs d st:=zaa Zbc.h405
@[simp] theorem x420:Zc (orc T) T 420 xs d st=cP T 420 false xs d st:=zaa Zbc.h420
@[simp] theorem y420:opD (orc T) T (.call 420 ps) e h ol=dP T 420 false ps e:=zau Zbc.h420
end
def b490:AX:=
 (.seq
 (.reg [rg 2 (.alloc [(.b false),(.sl [] .nl),(.sl [] .nl)])])
 (.seq
 (.reg [mv 5 0,rg 6 (.nilc (.t 5)),rg 7 (.fad 8 (.t 6)),rg 8 (.load none (.t 7)),rg 9 (.len (.t 8)),rg 10 (.bin .sub (.t 9) (.c (.i .i64 1))),mv 3 10])
 (.seq
 (.reg [mv 11 0,rg 12 (.nilc (.t 11)),rg 13 (.fad 8 (.t 12)),rg 14 (.load none (.t 13)),mv 15 3,rg 16 (.iad 3 (.t 14) (.t 15)),rg 17 (.load (some 3) (.t 16)),rg 4 (.alloc [(.b false),(.sl [] .nl),(.sl [] .nl)]),so (.store 3 (.t 4) (.t 17))])
 (.seq
 (.reg [mv 18 0,mv 19 0,rg 20 (.nilc (.t 19)),rg 21 (.fad 8 (.t 20)),rg 22 (.load none (.t 21)),mv 23 3,rg 24 (.slc 3 (.t 22) none (some (.t 23)) none),rg 25 (.nilc (.t 18)),rg 26 (.fad 8 (.t 25)),so (.store 1 (.t 26) (.t 24))])
 (.seq
 (.reg [rg 27 (.load (some 3) (.t 4)),so (.store 3 (.t 2) (.t 27))])
 (.pre (.norm false [2]) .ret))))))
def b489:AX:=
 (.seq
 (.reg [rg 3 (.xop (.box 3) [(.t 1)]),rg 4 (.alloc [(.b false),(.sl [] .nl),(.sl [] .nl)])])
 (.seq
 (.seq
 (.reg [rg 7 (.fad 0 (.t 3)),rg 8 (.load none (.t 7))])
 (.block 0
 (.seq
 (.reg [rg 10 (.bin .eql (.t 8) (.c (.i .i64 1))),mv 9 10])
 (.cond (.t 9)
 (.seq
 (.reg [rg 12 (.fad 2 (.t 3)),rg 13 (.load none (.t 12)),rg 14 (.build [(.b false),(.sl [] .nl)] [(1,1,(.t 13))]),rg 15 (.bsl 1 [(u32 0)] 1 [(0,(.c (u32 1)))]),rg 16 (.call 204 [(.t 14),(.t 15)]),mv 11 16,rg 17 (.ext (.t 11) 0),rg 18 (.ext (.t 11) 1),rg 5 (.alloc [(.b false),(.sl [] .nl),(.sl [] .nl)]),so (.store 3 (.t 5) (.t 17)),mv 6 18])
 (.seq
 (.reg [rg 19 (.load (some 3) (.t 5)),so (.store 3 (.t 4) (.t 19))])
 (.pre (.norm false [4]) .ret)))
 (.seq
 (.reg [rg 21 (.bin .eql (.t 8) (.c (.i .i64 3))),mv 20 21])
 (.cond (.t 20)
 (.seq
 (.drawT [mv 22 0,rg 23 (.nilc (.t 22)),rg 24 (.fad 0 (.t 23)),rg 25 (.fad 3 (.t 24)),rg 26 (.load none (.t 25)),rg 27 (.fad 1 (.t 3)),rg 28 (.load none (.t 27))]
 [rg 29 (.iad 3 (.t 26) (.t 28)),rg 30 (.load (some 3) (.t 29)),so (.store 3 (.t 4) (.t 30))])
 (.pre (.norm false [4]) .ret))
 (.seq
 (.reg [rg 32 (.bin .eql (.t 8) (.c (.i .i64 4))),mv 31 32])
 (.cond (.t 31)
 (.seq
 (.drawT [mv 33 0,rg 34 (.nilc (.t 33)),rg 35 (.fad 0 (.t 34)),rg 36 (.fad 4 (.t 35)),rg 37 (.load none (.t 36)),rg 38 (.fad 1 (.t 3)),rg 39 (.load none (.t 38))]
 [rg 40 (.iad 3 (.t 37) (.t 39)),rg 41 (.load (some 3) (.t 40)),so (.store 3 (.t 4) (.t 41))])
 (.pre (.norm false [4]) .ret))
 (.seq
 (.reg [rg 43 (.bin .eql (.t 8) (.c (.i .i64 5))),mv 42 43])
 (.cond (.t 42)
 (.seq
 (.drawT [mv 44 0,rg 45 (.nilc (.t 44)),rg 46 (.fad 5 (.t 45)),rg 47 (.load none (.t 46)),rg 48 (.fad 1 (.t 3)),rg 49 (.load none (.t 48))]
 [rg 50 (.iad 3 (.t 47) (.t 49)),rg 51 (.load (some 3) (.t 50)),so (.store 3 (.t 4) (.t 51))])
 (.pre (.norm false [4]) .ret))
 .skip))))))))))
 (.seq
 (.reg [mv 52 0,rg 53 (.nilc (.t 52)),rg 54 (.fad 0 (.t 53)),rg 55 (.fad 0 (.t 54)),rg 56 (.load (some 3) (.t 55)),so (.store 3 (.t 4) (.t 56))])
 (.pre (.norm false [4]) .ret))))
def b484:AX:=
 (.seq
 (.reg [rg 3 (.xop (.box 3) [(.t 1)]),rg 4 (.alloc [(.b false),(.sl [] .nl),(.sl [] .nl)]),rg 5 (.mov (.c (.b false)))])
 (.seq
 (.seq
 (.reg [rg 9 (.fad 0 (.t 3)),rg 10 (.load none (.t 9)),rg 11 (.call 76 [(.t 10)])])
 (.block 0
 (.seq
 (.reg [rg 13 (.bin .eql (.t 11) (.c (.i .i64 0))),mv 12 13])
 (.cond (.t 12)
 (.seq
 (.reg [mv 14 0,rg 15 (.load (some 3) (.t 3)),rg 16 (.call 489 [(.t 14),(.t 15)]),so (.store 3 (.t 4) (.t 16)),rg 5 (.mov (.c (.b true)))])
 (.pre (.norm false [4,5]) .ret))
 (.seq
 (.reg [rg 18 (.bin .eql (.t 11) (.c (.i .i64 1))),mv 17 18])
 (.cond (.t 17)
 (.seq
 (.reg [mv 19 0,rg 20 (.call 490 [(.t 19)]),rg 6 (.alloc [(.b false),(.sl [] .nl),(.sl [] .nl)]),so (.store 3 (.t 6) (.t 20))])
 (.seq
 (.seq
 (.reg [rg 21 (.fad 0 (.t 3)),rg 22 (.load none (.t 21)),rg 23 (.bin .eql (.t 22) (.c (.i .i64 6)))])
 (.cond (.t 23)
 (.seq
 (.reg [rg 24 (.load (some 3) (.t 6)),rg 25 (.call 213 [(.t 24)]),so (.store 3 (.t 4) (.t 25)),rg 5 (.mov (.c (.b true)))])
 (.pre (.norm false [4,5]) .ret))
 .skip))
 (.seq
 (.reg [rg 26 (.load (some 3) (.t 6)),rg 27 (.fad 1 (.t 3)),rg 28 (.load none (.t 27)),rg 29 (.call 220 [(.t 26),(.t 28)]),rg 30 (.ext (.t 29) 0),rg 31 (.ext (.t 29) 1),so (.store 3 (.t 4) (.t 30)),mv 5 31])
 (.pre (.norm false [4,5]) .ret))))
 .skip))))))
 (.seq
 (.reg [mv 32 0,rg 33 (.call 490 [(.t 32)]),rg 7 (.alloc [(.b false),(.sl [] .nl),(.sl [] .nl)]),so (.store 3 (.t 7) (.t 33))])
 (.seq
 (.reg [mv 34 0,rg 35 (.call 490 [(.t 34)]),rg 8 (.alloc [(.b false),(.sl [] .nl),(.sl [] .nl)]),so (.store 3 (.t 8) (.t 35))])
 (.seq
 (.seq
 (.reg [rg 36 (.fad 0 (.t 3)),rg 37 (.load none (.t 36))])
 (.block 1
 (.seq
 (.reg [rg 39 (.bin .eql (.t 37) (.c (.i .i64 7))),mv 38 39])
 (.cond (.t 38)
 (.seq
 (.reg [rg 40 (.load (some 3) (.t 8)),rg 41 (.load (some 3) (.t 7)),rg 42 (.call 215 [(.t 40),(.t 41)]),so (.store 3 (.t 4) (.t 42)),rg 5 (.mov (.c (.b true)))])
 (.pre (.norm false [4,5]) .ret))
 (.seq
 (.reg [rg 44 (.bin .eql (.t 37) (.c (.i .i64 8))),mv 43 44])
 (.cond (.t 43)
 (.seq
 (.reg [rg 45 (.load (some 3) (.t 8)),rg 46 (.load (some 3) (.t 7)),rg 47 (.call 216 [(.t 45),(.t 46)]),so (.store 3 (.t 4) (.t 47)),rg 5 (.mov (.c (.b true)))])
 (.pre (.norm false [4,5]) .ret))
 (.seq
 (.reg [rg 49 (.bin .eql (.t 37) (.c (.i .i64 9))),mv 48 49])
 (.cond (.t 48)
 (.seq
 (.reg [rg 50 (.load (some 3) (.t 8)),rg 51 (.load (some 3) (.t 7)),rg 52 (.call 217 [(.t 50),(.t 51)]),so (.store 3 (.t 4) (.t 52)),rg 5 (.mov (.c (.b true)))])
 (.pre (.norm false [4,5]) .ret))
 .skip))))))))
 (.seq
 (.reg [rg 53 (.load (some 3) (.t 8)),rg 54 (.load (some 3) (.t 7)),rg 55 (.call 218 [(.t 53),(.t 54)]),rg 56 (.ext (.t 55) 0),rg 57 (.ext (.t 55) 1),so (.store 3 (.t 4) (.t 56)),mv 5 57])
 (.pre (.norm false [4,5]) .ret)))))))
def l473_0:AX:=
 (.note
 (.seq
 (.reg [rg 21 (.bin .lss (.t 20) (.t 19))])
 (.seq
 (.cond (.t 21)
 .skip
 (.exit 0))
 (.seq
 (.block 1
 (.seq
 (.reg [rg 22 (.iad 3 (.t 18) (.t 20)),rg 23 (.load (some 3) (.t 22)),rg 7 (.alloc [(.i .i64 0),(.i .i64 0),(.sl [] .nl)]),so (.store 3 (.t 7) (.t 23))])
 (.seq
 (.reg [mv 25 0,rg 26 (.load (some 3) (.t 7)),rg 27 (.call 484 [(.t 25),(.t 26)]),mv 24 27,rg 28 (.ext (.t 24) 0),rg 29 (.ext (.t 24) 1),rg 8 (.alloc [(.b false),(.sl [] .nl),(.sl [] .nl)]),so (.store 3 (.t 8) (.t 28)),mv 9 29])
 (.seq
 (.block 2
 (.seq
 (.reg [mv 31 9,rg 32 (.un .not (.t 31)),mv 30 32])
 (.cond (.t 30)
 (.seq
 (.draw [⟨rg 33 (.call 205 [(.c (.i .i64 0))]),0,0⟩,⟨mv 34 0,0,1⟩,⟨rg 35 (.nilc (.t 34)),0,1⟩,⟨rg 36 (.fad 7 (.t 35)),0,1⟩,⟨rg 37 (.load none (.t 36)),0,1⟩,⟨rg 38 (.build [(.i .i64 0),(.i .i64 0),(.i .i64 0),(.i .i64 0)] [(0,1,(.c (.i .i64 3))),(3,1,(.t 37))]),0,1⟩,⟨so (.store 3 (.t 4) (.t 33)),0,1⟩,⟨so (.store 4 (.t 5) (.t 38)),1,2⟩])
 (.pre (.norm false [4,5]) .ret))
 (.seq
 (.drawT [mv 40 0,rg 41 (.nilc (.t 40)),rg 42 (.fad 6 (.t 41)),rg 43 (.load none (.t 42)),rg 44 (.load (some 3) (.t 8))]
 [rg 45 (.call 411 [(.t 43),(.t 44)]),rg 46 (.un .not (.t 45)),mv 39 46])
 (.cond (.t 39)
 (.seq
 (.draw [⟨rg 47 (.call 205 [(.c (.i .i64 0))]),0,0⟩,⟨mv 48 0,0,1⟩,⟨rg 49 (.nilc (.t 48)),0,1⟩,⟨rg 50 (.fad 7 (.t 49)),0,1⟩,⟨rg 51 (.load none (.t 50)),0,1⟩,⟨rg 52 (.build [(.i .i64 0),(.i .i64 0),(.i .i64 0),(.i .i64 0)] [(0,1,(.c (.i .i64 6))),(3,1,(.t 51))]),0,1⟩,⟨so (.store 3 (.t 4) (.t 47)),0,1⟩,⟨so (.store 4 (.t 5) (.t 52)),1,2⟩])
 (.pre (.norm false [4,5]) .ret))
 .skip)))))
 (.seq
 (.reg [mv 53 0,rg 54 (.nilc (.t 53)),rg 55 (.fad 7 (.t 54)),rg 56 (.load none (.t 55)),rg 57 (.bin .add (.t 56) (.c (.i .i64 1))),rg 58 (.nilc (.t 53)),rg 59 (.fad 7 (.t 58)),so (.store 1 (.t 59) (.t 57))])
 (.draw [⟨mv 60 0,0,1⟩,⟨mv 61 0,0,0⟩,⟨rg 62 (.nilc (.t 61)),0,0⟩,⟨rg 63 (.fad 8 (.t 62)),0,0⟩,⟨rg 64 (.load none (.t 63)),0,0⟩,⟨rg 65 (.load (some 3) (.t 8)),0,0⟩,⟨rg 66 (.bsl 3 [(.b false),(.sl [] .nl),(.sl [] .nl)] 1 [(0,(.t 65))]),0,0⟩,⟨rg 67 (.app 3 (.t 64) (.t 66)),0,1⟩,⟨rg 68 (.nilc (.t 60)),1,1⟩,⟨rg 69 (.fad 8 (.t 68)),1,1⟩,⟨so (.store 1 (.t 69) (.t 67)),1,2⟩]))))))
 (.reg [rg 70 (.bin .add (.t 20) (.c (.i .i64 1))),mv 20 70]))))
 (.norm false [0,4,5,18,19,20]))
def b473:AX:=
 (.seq
 (.reg [rg 4 (.alloc [(.b false),(.sl [] .nl),(.sl [] .nl)]),rg 5 (.alloc [(.i .i64 0),(.i .i64 0),(.i .i64 0),(.i .i64 0)])])
 (.seq
 (.reg [mv 10 0,mv 11 0,rg 12 (.nilc (.t 11)),rg 13 (.fad 8 (.t 12)),rg 14 (.load none (.t 13)),rg 15 (.slc 3 (.t 14) none (some (.c (.i .i64 0))) none),rg 16 (.nilc (.t 10)),rg 17 (.fad 8 (.t 16)),so (.store 1 (.t 17) (.t 15))])
 (.seq
 (.seq
 (.reg [mv 18 1,rg 19 (.len (.t 18)),rg 20 (.mov (.c (.i .i64 0)))])
 (.lp 0 (.norm false [0,4,5,18,19,20]) l473_0 (.norm false [0,4,5])))
 (.seq
 (.reg [mv 71 0,rg 72 (.nilc (.t 71)),rg 73 (.fad 8 (.t 72)),rg 74 (.load none (.t 73)),rg 75 (.iad 3 (.t 74) (.c (.i .i64 0))),rg 76 (.load (some 3) (.t 75)),rg 77 (.build [(.i .i64 0),(.i .i64 0),(.i .i64 0),(.i .i64 0)] []),so (.store 3 (.t 4) (.t 76)),so (.store 4 (.t 5) (.t 77))])
 (.pre (.norm false [4,5]) .ret)))))
def l467_0:AX:=
 (.note
 (.seq
 (.reg [rg 41 (.bin .lss (.t 40) (.t 39))])
 (.seq
 (.cond (.t 41)
 .skip
 (.exit 0))
 (.seq
 (.block 1
 (.seq
 (.reg [rg 42 (.iad 2 (.t 38) (.t 40)),rg 43 (.load (some 2) (.t 42)),rg 11 (.alloc [(.s []),(.sl [] .nl)]),so (.store 2 (.t 11) (.t 43))])
 (.seq
 (.reg [mv 45 9,rg 46 (.fad 1 (.t 11)),rg 47 (.load none (.t 46)),rg 48 (.call 473 [(.t 45),(.t 47)]),mv 44 48,rg 49 (.ext (.t 44) 0),rg 50 (.ext (.t 44) 1),rg 12 (.alloc [(.b false),(.sl [] .nl),(.sl [] .nl)]),rg 13 (.alloc [(.i .i64 0),(.i .i64 0),(.i .i64 0),(.i .i64 0)]),so (.store 3 (.t 12) (.t 49)),so (.store 4 (.t 13) (.t 50))])
 (.seq
 (.seq
 (.reg [rg 51 (.load (some 4) (.t 13)),rg 52 (.build [(.i .i64 0),(.i .i64 0),(.i .i64 0),(.i .i64 0)] []),rg 53 (.eqs true [(0,.int),(1,.int),(2,.int),(3,.int)] (.t 51) (.t 52))])
 (.cond (.t 53)
 (.seq
 (.drawT [rg 54 (.load (some 4) (.t 13)),rg 6 (.mov (.c (.sl [] .nl)))]
 [so (.store 4 (.t 7) (.t 54))])
 (.pre (.norm false [6,7]) .ret))
 .skip))
 (.draw [⟨mv 55 9,0,1⟩,⟨mv 56 9,0,0⟩,⟨rg 57 (.nilc (.t 56)),0,0⟩,⟨rg 58 (.fad 5 (.t 57)),0,0⟩,⟨rg 59 (.load none (.t 58)),0,0⟩,⟨rg 60 (.load (some 3) (.t 12)),0,0⟩,⟨rg 61 (.bsl 3 [(.b false),(.sl [] .nl),(.sl [] .nl)] 1 [(0,(.t 60))]),0,0⟩,⟨rg 62 (.app 3 (.t 59) (.t 61)),0,1⟩,⟨rg 63 (.nilc (.t 55)),1,1⟩,⟨rg 64 (.fad 5 (.t 63)),1,1⟩,⟨so (.store 1 (.t 64) (.t 62)),1,2⟩])))))
 (.reg [rg 65 (.bin .add (.t 40) (.c (.i .i64 1))),mv 40 65]))))
 (.norm false [3,7,9,38,39,40]))
def l467_1:AX:=
 (.note
 (.seq
 (.reg [rg 70 (.bin .lss (.t 69) (.t 68))])
 (.seq
 (.cond (.t 70)
 .skip
 (.exit 2))
 (.seq
 (.block 3
 (.seq
 (.reg [rg 71 (.iad 1 (.t 67) (.t 69)),rg 72 (.load none (.t 71)),mv 16 72])
 (.seq
 (.reg [mv 74 9,mv 75 16,rg 76 (.call 473 [(.t 74),(.t 75)]),mv 73 76,rg 77 (.ext (.t 73) 0),rg 78 (.ext (.t 73) 1),rg 17 (.alloc [(.b false),(.sl [] .nl),(.sl [] .nl)]),rg 18 (.alloc [(.i .i64 0),(.i .i64 0),(.i .i64 0),(.i .i64 0)]),so (.store 3 (.t 17) (.t 77)),so (.store 4 (.t 18) (.t 78))])
 (.seq
 (.seq
 (.reg [rg 79 (.load (some 4) (.t 18)),rg 80 (.build [(.i .i64 0),(.i .i64 0),(.i .i64 0),(.i .i64 0)] []),rg 81 (.eqs true [(0,.int),(1,.int),(2,.int),(3,.int)] (.t 79) (.t 80))])
 (.cond (.t 81)
 (.seq
 (.drawT [rg 82 (.load (some 4) (.t 18)),rg 6 (.mov (.c (.sl [] .nl)))]
 [so (.store 4 (.t 7) (.t 82))])
 (.pre (.norm false [6,7]) .ret))
 .skip))
 (.reg [mv 83 14,rg 84 (.load (some 3) (.t 17)),rg 85 (.bsl 3 [(.b false),(.sl [] .nl),(.sl [] .nl)] 1 [(0,(.t 84))]),rg 86 (.app 3 (.t 83) (.t 85)),mv 14 86])))))
 (.reg [rg 87 (.bin .add (.t 69) (.c (.i .i64 1))),mv 69 87]))))
 (.norm false [7,9,14,67,68,69]))
def b467:AX:=
 (.seq
 (.reg [rg 3 (.xop (.box 2) [(.t 0)]),rg 4 (.xop (.box 5) [(.t 1)]),rg 6 (.mov (.c (.sl [] .nl))),rg 7 (.alloc [(.i .i64 0),(.i .i64 0),(.i .i64 0),(.i .i64 0)])])
 (.seq
 (.seq
 (.reg [rg 19 (.load (some 2) (.t 3)),rg 20 (.fad 3 (.t 4)),rg 21 (.load none (.t 20)),rg 22 (.len (.t 21)),rg 23 (.fad 4 (.t 4)),rg 24 (.load none (.t 23)),rg 25 (.len (.t 24)),rg 26 (.call 477 [(.t 19),(.t 22),(.t 25)]),rg 8 (.alloc [(.i .i64 0),(.i .i64 0),(.i .i64 0),(.i .i64 0)]),so (.store 4 (.t 8) (.t 26))])
 (.seq
 (.reg [rg 27 (.load (some 4) (.t 8)),rg 28 (.build [(.i .i64 0),(.i .i64 0),(.i .i64 0),(.i .i64 0)] []),rg 29 (.eqs true [(0,.int),(1,.int),(2,.int),(3,.int)] (.t 27) (.t 28))])
 (.cond (.t 29)
 (.seq
 (.drawT [rg 30 (.load (some 4) (.t 8)),rg 6 (.mov (.c (.sl [] .nl)))]
 [so (.store 4 (.t 7) (.t 30))])
 (.pre (.norm false [6,7]) .ret))
 .skip)))
 (.seq
 (.reg [rg 31 (.load (some 5) (.t 4)),rg 32 (.call 405 [(.t 31)]),mv 33 2,rg 34 (.call 406 [(.t 33)]),rg 35 (.build [(.b false),(.sl [] .nl),(.sl [] .nl),(.sl [] .nl),(.sl [] .nl),(.sl [] .nl),(.raw (.pointer none)),(.i .i64 0),(.sl [] .nl)] [(0,5,(.t 32)),(6,1,(.t 34))]),rg 36 (.xop (.box 9) [(.t 35)]),mv 9 36])
 (.seq
 (.seq
 (.reg [rg 37 (.fad 0 (.t 3)),rg 38 (.load none (.t 37)),rg 39 (.len (.t 38)),rg 40 (.mov (.c (.i .i64 0)))])
 (.pre (.fld 9 0 5 3) (.pre (.fld 9 0 8 3) (.lp 0 (.norm false [3,7,9,38,39,40]) l467_0 (.norm false [3,7,9])))))
 (.seq
 (.note (.reg [rg 14 (.mov (.c (.sl [] .nl)))]) (.nil 14 3))
 (.seq
 (.seq
 (.reg [rg 66 (.fad 1 (.t 3)),rg 67 (.load none (.t 66)),rg 68 (.len (.t 67)),rg 69 (.mov (.c (.i .i64 0)))])
 (.lp 2 (.norm false [7,9,14,67,68,69]) l467_1 (.norm false [7,14])))
 (.seq
 (.reg [mv 88 14,rg 89 (.build [(.i .i64 0),(.i .i64 0),(.i .i64 0),(.i .i64 0)] []),mv 6 88,so (.store 4 (.t 7) (.t 89))])
 (.pre (.norm false [6,7]) .ret))))))))
def row490:AFx:=⟨1,28,[.cell 2 (some 3)],b490,(some [true]),false⟩
def row489:AFx:=⟨2,57,[.cell 4 (some 3)],b489,(some [true,false]),false⟩
def row484:AFx:=⟨2,58,[.cell 4 (some 3),.t 5],b484,(some [true,false]),false⟩
def row473:AFx:=⟨2,78,[.cell 4 (some 3),.cell 5 (some 4)],b473,(some [true,false]),false⟩
def row467:AFx:=⟨3,90,[.t 6,.cell 7 (some 4)],b467,none,false⟩
class Z4 (T:Tbl):Prop where
 h490:T 490=some row490
 h489:T 489=some row489
 h484:T 484=some row484
 h473:T 473=some row473
 h467:T 467=some row467
section
variable{T:Tbl}[Z4 T]{d:Option Nat}{st:St}{xs:List AV}{ps:List Opd}{e:Env}{h:Heap}{ol:List Heap}
@[simp] theorem x490:Zc (orc T) T 490 xs d st=cL T 490 false [true] xs d st:=zao Z4.h490
@[simp] theorem x489:Zc (orc T) T 489 xs d st=cL T 489 false [true,false] xs d st:=zao Z4.h489
@[simp] theorem x484:Zc (orc T) T 484 xs d st=cL T 484 false [true,false] xs d st:=zao Z4.h484
@[simp] theorem x473:Zc (orc T) T 473 xs d st=cL T 473 false [true,false] xs d st:=zao Z4.h473
@[simp] theorem x467:Zc (orc T) T 467 xs d st=cP T 467 false xs d st:=zaa Z4.h467
end
def b380:AX:=
 (.seq
 (.reg [rg 3 (.xop (.box 5) [(.t 0)]),rg 6 (.mov (.c (.b false)))])
 (.seq
 (.reg [rg 7 (.fad 0 (.t 3)),rg 8 (.load (some 3) (.t 7)),mv 9 2,rg 10 (.call 247 [(.t 8),(.t 9)]),mv 11 10,gd 12 11 false (.fad 3 (.t 3)),gd 13 11 false (.load none (.t 12)),gd 14 11 false (.mov (.t 1)),gd 15 11 false (.mov (.t 2)),gd 16 11 false (.call 286 [(.t 13),(.t 14),(.t 15)]),rg 17 (.pick (.t 11) (.c (.b true)) (.t 16)),mv 18 17,gd 19 18 false (.fad 4 (.t 3)),gd 20 18 false (.load none (.t 19)),gd 21 18 false (.mov (.t 1)),gd 22 18 false (.mov (.t 2)),gd 23 18 false (.call 286 [(.t 20),(.t 21),(.t 22)]),rg 24 (.pick (.t 18) (.c (.b true)) (.t 23)),mv 6 24])
 (.pre (.norm false [6]) .ret)))
def b383:AX:=
 (.seq
 (.reg [rg 1 (.xop (.box 5) [(.t 0)]),rg 2 (.alloc [(.b false),(.sl [] .nl),(.sl [] .nl),(.sl [] .nl),(.sl [] .nl)])])
 (.seq
 (.drawT [rg 3 (.fad 0 (.t 1)),rg 4 (.load (some 3) (.t 3)),rg 5 (.call 248 [(.t 4)]),rg 6 (.fad 3 (.t 1)),rg 7 (.load none (.t 6)),rg 8 (.call 287 [(.t 7)]),rg 9 (.fad 4 (.t 1)),rg 10 (.load none (.t 9))]
 [rg 11 (.call 287 [(.t 10)]),rg 12 (.build [(.b false),(.sl [] .nl),(.sl [] .nl),(.sl [] .nl),(.sl [] .nl)] [(0,3,(.t 5)),(3,1,(.t 8)),(4,1,(.t 11))]),so (.store 5 (.t 2) (.t 12))])
 (.pre (.norm false [2]) .ret)))
def row380:AFx:=⟨3,25,[.t 6],b380,none,false⟩
def row383:AFx:=⟨1,13,[.cell 2 (some 5)],b383,none,false⟩
class Zej (T:Tbl):Prop where
 h380:T 380=some row380
 h383:T 383=some row383
section
variable{T:Tbl}[Zej T]{d:Option Nat}{st:St}{xs:List AV}{ps:List Opd}{e:Env}{h:Heap}{ol:List Heap}
@[simp] theorem x380:Zc (orc T) T 380 xs d st=cP T 380 false xs d st:=zaa Zej.h380
@[simp] theorem x383:Zc (orc T) T 383 xs d st=cP T 383 false xs d st:=zaa Zej.h383
end
def b251:AX:=
 (.seq
 (.reg [rg 1 (.xop (.box 3) [(.t 0)]),rg 2 (.mov (.c (.s [])))])
 (.seq
 (.reg [rg 4 (.load (some 3) (.t 1)),rg 5 (.call 207 [(.t 4)]),so (.store 3 (.t 1) (.t 5))])
 (.seq
 (.reg [rg 6 (.fad 0 (.t 1)),rg 7 (.load (some 2) (.t 6)),rg 8 (.call 34 [(.t 7)]),mv 3 8])
 (.seq
 (.seq
 (.drawT [rg 9 (.fad 2 (.t 1)),rg 10 (.load none (.t 9)),rg 11 (.call 72 [(.c (u64 1))])]
 [rg 12 (.call 87 [(.t 10),(.t 11)]),rg 13 (.bin .neq (.t 12) (.c (.i .i64 0)))])
 (.cond (.t 13)
 (.reg [mv 14 3,rg 15 (.fad 2 (.t 1)),rg 16 (.load none (.t 15)),rg 17 (.call 68 [(.t 16)]),rg 18 (.bin .add (.c (.s [47])) (.t 17)),rg 19 (.bin .add (.t 14) (.t 18)),mv 3 19])
 .skip))
 (.seq
 (.reg [mv 20 3,mv 2 20])
 (.pre (.norm false [2]) .ret))))))
def l265_0:AX:=
 (.note
 (.seq
 (.reg [rg 14 (.bin .lss (.t 13) (.t 12))])
 (.seq
 (.cond (.t 14)
 .skip
 (.exit 0))
 (.seq
 (.block 1
 (.seq
 (.reg [mv 15 13,mv 5 15])
 (.seq
 (.drawT [mv 16 0,mv 17 5,rg 18 (.iad 3 (.t 16) (.t 17)),rg 19 (.load (some 3) (.t 18)),mv 20 1,mv 21 5,rg 22 (.iad 3 (.t 20) (.t 21)),rg 23 (.load (some 3) (.t 22))]
 [rg 24 (.call 212 [(.t 19),(.t 23)]),rg 25 (.un .not (.t 24))])
 (.cond (.t 25)
 (.seq
 (.reg [rg 4 (.mov (.c (.b false)))])
 (.pre (.norm false [4]) .ret))
 .skip))))
 (.reg [rg 26 (.bin .add (.t 13) (.c (.i .i64 1))),mv 13 26]))))
 (.norm false [0,1,12,13]))
def b265:AX:=
 (.seq
 (.reg [rg 4 (.mov (.c (.b false)))])
 (.seq
 (.seq
 (.reg [mv 6 0,rg 7 (.len (.t 6)),mv 8 1,rg 9 (.len (.t 8)),rg 10 (.bin .neq (.t 7) (.t 9))])
 (.cond (.t 10)
 (.seq
 (.reg [rg 4 (.mov (.c (.b false)))])
 (.pre (.norm false [4]) .ret))
 .skip))
 (.seq
 (.seq
 (.reg [mv 11 0,rg 12 (.len (.t 11)),rg 13 (.mov (.c (.i .i64 0)))])
 (.lp 0 (.norm false [0,1,12,13]) l265_0 (.norm false [])))
 (.seq
 (.reg [rg 4 (.mov (.c (.b true)))])
 (.pre (.norm false [4]) .ret)))))
def l274_0:AX:=
 (.note
 (.seq
 (.reg [rg 9 (.bin .lss (.t 8) (.t 7))])
 (.seq
 (.cond (.t 9)
 .skip
 (.exit 0))
 (.seq
 (.block 1
 (.seq
 (.reg [rg 10 (.iad 3 (.t 6) (.t 8)),rg 11 (.load (some 3) (.t 10)),rg 5 (.alloc [(.b false),(.sl [] .nl),(.sl [] .nl)]),so (.store 3 (.t 5) (.t 11))])
 (.reg [mv 12 3,rg 13 (.load (some 3) (.t 5)),rg 14 (.call 251 [(.t 13)]),rg 15 (.bsl 1 [(.s [])] 1 [(0,(.t 14))]),rg 16 (.app 1 (.t 12) (.t 15)),mv 3 16])))
 (.reg [rg 17 (.bin .add (.t 8) (.c (.i .i64 1))),mv 8 17]))))
 (.norm false [3,6,7,8]))
def b274:AX:=
 (.seq
 (.reg [rg 2 (.mov (.c (.s [])))])
 (.seq
 (.note (.reg [rg 3 (.mov (.c (.sl [] .nl)))]) (.nil 3 1))
 (.seq
 (.seq
 (.reg [mv 6 0,rg 7 (.len (.t 6)),rg 8 (.mov (.c (.i .i64 0)))])
 (.lp 0 (.norm false [3,6,7,8]) l274_0 (.norm false [3])))
 (.seq
 (.reg [mv 18 3,rg 19 (.call 183 [(.t 18),(.c (.s [44]))]),mv 2 19])
 (.pre (.norm false [2]) .ret)))))
def row251:AFx:=⟨1,21,[.t 2],b251,none,false⟩
def row265:AFx:=⟨2,27,[.t 4],b265,none,false⟩
def row274:AFx:=⟨1,20,[.t 2],b274,none,false⟩
class Zdu (T:Tbl):Prop where
 h251:T 251=some row251
 h265:T 265=some row265
 h274:T 274=some row274
section
variable{T:Tbl}[Zdu T]{d:Option Nat}{st:St}{xs:List AV}{ps:List Opd}{e:Env}{h:Heap}{ol:List Heap}
@[simp] theorem x251:Zc (orc T) T 251 xs d st=cP T 251 false xs d st:=zaa Zdu.h251
@[simp] theorem x265:Zc (orc T) T 265 xs d st=cP T 265 false xs d st:=zaa Zdu.h265
@[simp] theorem x274:Zc (orc T) T 274 xs d st=cP T 274 false xs d st:=zaa Zdu.h274
end
class Zlp (T:Tbl):Prop where
def l644_0:AX:=
 (.note
 (.seq
 (.reg [rg 30 (.bin .lss (.t 29) (.t 28))])
 (.seq
 (.cond (.t 30)
 .skip
 (.exit 0))
 (.seq
 (.block 1
 (.seq
 (.reg [rg 31 (.iad 2 (.t 27) (.t 29)),rg 32 (.load (some 2) (.t 31)),rg 10 (.alloc [(.s []),(.sl [] .nl)]),so (.store 2 (.t 10) (.t 32))])
 (.drawN [⟨mv 33 8,0,1⟩,⟨mv 34 8,0,0⟩,⟨rg 35 (.nilc (.t 34)),0,0⟩,⟨rg 36 (.fad 2 (.t 35)),0,0⟩,⟨rg 37 (.load none (.t 36)),0,0⟩,⟨mv 38 8,0,0⟩,⟨rg 39 (.fad 1 (.t 10)),0,0⟩,⟨rg 40 (.load none (.t 39)),0,0⟩]
 (rg 41 (.call 648 [(.t 38),(.t 40)]))
 [⟨rg 42 (.bsl 1 [(.i .i64 0)] 1 [(0,(.t 41))]),0,0⟩,⟨rg 43 (.app 1 (.t 37) (.t 42)),0,1⟩,⟨rg 44 (.nilc (.t 33)),1,1⟩,⟨rg 45 (.fad 2 (.t 44)),1,1⟩,⟨so (.store 1 (.t 45) (.t 43)),1,2⟩])))
 (.reg [rg 46 (.bin .add (.t 29) (.c (.i .i64 1))),mv 29 46]))))
 (.norm false [1,2,4,6,8,27,28,29]))
def l644_1:AX:=
 (.note
 (.seq
 (.reg [rg 56 (.bin .lss (.t 55) (.t 54))])
 (.seq
 (.cond (.t 56)
 .skip
 (.exit 2))
 (.seq
 (.block 3
 (.seq
 (.reg [rg 57 (.iad 1 (.t 53) (.t 55)),rg 58 (.load none (.t 57)),mv 13 58])
 (.drawC [rg 59 (.fad 1 (.t 11)),rg 60 (.load none (.t 59)),mv 61 8,mv 62 13]
 (rg 63 (.call 648 [(.t 61),(.t 62)]))
 [rg 64 (.bsl 1 [(.i .i64 0)] 1 [(0,(.t 63))])]
 [rg 65 (.app 1 (.t 60) (.t 64)),rg 66 (.fad 1 (.t 11)),so (.store 1 (.t 66) (.t 65))])))
 (.reg [rg 67 (.bin .add (.t 55) (.c (.i .i64 1))),mv 55 67]))))
 (.norm false [4,6,8,11,53,54,55]))
def b644:AX:=
 (.seq
 (.reg [rg 2 (.xop (.box 2) [(.t 0)]),rg 4 (.alloc [(.sl [] .nl),(.sl [] .nl),(.i .i64 0),(.i .i64 0)]),rg 5 (.mov (.c (.sl [] .nl))),rg 6 (.alloc [(.i .i64 0),(.i .i64 0),(.i .i64 0),(.i .i64 0)])])
 (.seq
 (.seq
 (.reg [rg 14 (.load (some 2) (.t 2)),rg 15 (.fad 1 (.t 2)),rg 16 (.load none (.t 15)),rg 17 (.len (.t 16)),mv 18 1,rg 19 (.call 477 [(.t 14),(.t 17),(.t 18)]),rg 7 (.alloc [(.i .i64 0),(.i .i64 0),(.i .i64 0),(.i .i64 0)]),so (.store 4 (.t 7) (.t 19))])
 (.seq
 (.reg [rg 20 (.load (some 4) (.t 7)),rg 21 (.build [(.i .i64 0),(.i .i64 0),(.i .i64 0),(.i .i64 0)] []),rg 22 (.eqs true [(0,.int),(1,.int),(2,.int),(3,.int)] (.t 20) (.t 21))])
 (.cond (.t 22)
 (.seq
 (.draw [⟨rg 23 (.build [(.sl [] .nl),(.sl [] .nl),(.i .i64 0),(.i .i64 0)] []),0,0⟩,⟨rg 24 (.load (some 4) (.t 7)),0,1⟩,⟨so (.store 4 (.t 4) (.t 23)),0,1⟩,⟨rg 5 (.mov (.c (.sl [] .nl))),1,1⟩,⟨so (.store 4 (.t 6) (.t 24)),1,2⟩])
 (.pre (.norm false [4,5,6]) .ret))
 .skip)))
 (.seq
 (.note (.note (.note (.reg [rg 25 (.call 647 []),mv 8 25]) (.fld 8 0 0 6)) (.fld 8 0 2 1)) (.fld 8 0 3 1))
 (.seq
 (.seq
 (.reg [rg 26 (.fad 0 (.t 2)),rg 27 (.load none (.t 26)),rg 28 (.len (.t 27)),rg 29 (.mov (.c (.i .i64 0)))])
 (.lp 0 (.norm false [1,2,4,6,8,27,28,29]) l644_0 (.norm false [1,2,4,6,8])))
 (.seq
 (.note (.reg [rg 47 (.fad 1 (.t 2)),rg 48 (.load none (.t 47)),rg 49 (.len (.t 48)),mv 50 1,rg 51 (.build [(.sl [] .nl),(.sl [] .nl),(.i .i64 0),(.i .i64 0)] [(2,1,(.t 49)),(3,1,(.t 50))]),rg 11 (.alloc [(.sl [] .nl),(.sl [] .nl),(.i .i64 0),(.i .i64 0)]),so (.store 4 (.t 11) (.t 51))]) (.fld 11 0 1 1))
 (.seq
 (.seq
 (.reg [rg 52 (.fad 1 (.t 2)),rg 53 (.load none (.t 52)),rg 54 (.len (.t 53)),rg 55 (.mov (.c (.i .i64 0)))])
 (.lp 2 (.norm false [4,6,8,11,53,54,55]) l644_1 (.norm false [4,6,8,11])))
 (.seq
 (.reg [mv 68 8,rg 69 (.nilc (.t 68)),rg 70 (.fad 0 (.t 69)),rg 71 (.load none (.t 70)),rg 72 (.fad 0 (.t 11)),so (.store 1 (.t 72) (.t 71))])
 (.seq
 (.draw [⟨rg 73 (.load (some 4) (.t 11)),0,0⟩,⟨mv 74 8,0,1⟩,⟨rg 75 (.nilc (.t 74)),0,1⟩,⟨rg 76 (.fad 3 (.t 75)),0,1⟩,⟨rg 77 (.load none (.t 76)),0,1⟩,⟨rg 78 (.build [(.i .i64 0),(.i .i64 0),(.i .i64 0),(.i .i64 0)] []),0,1⟩,⟨so (.store 4 (.t 4) (.t 73)),0,1⟩,⟨mv 5 77,1,1⟩,⟨so (.store 4 (.t 6) (.t 78)),1,2⟩])
 (.pre (.norm false [4,5,6]) .ret)))))))))
def b647:AX:=
 (.seq
 (.reg [rg 0 (.mov (.c (.raw (.pointer none))))])
 (.seq
 (.reg [rg 1 (.xop .mmap []),rg 2 (.build [(.sl [] .nl),(.raw (.map none)),(.sl [] .nl),(.sl [] .nl)] [(1,1,(.t 1))]),rg 3 (.xop (.box 4) [(.t 2)]),mv 0 3])
 (.pre (.norm true [0]) .ret)))
def l648_0:AX:=
 (.note
 (.seq
 (.reg [rg 12 (.bin .lss (.t 11) (.t 10))])
 (.seq
 (.cond (.t 12)
 .skip
 (.exit 0))
 (.seq
 (.block 1
 (.seq
 (.reg [rg 13 (.iad 3 (.t 9) (.t 11)),rg 14 (.load (some 3) (.t 13)),rg 7 (.alloc [(.i .i64 0),(.i .i64 0),(.sl [] .nl)]),so (.store 3 (.t 7) (.t 14))])
 (.seq
 (.reg [mv 15 0,rg 16 (.load (some 3) (.t 7)),mv 17 5,rg 18 (.call 649 [(.t 15),(.t 16),(.t 17)]),mv 8 18])
 (.seq
 (.reg [mv 19 0,mv 20 0,rg 21 (.nilc (.t 20)),rg 22 (.fad 3 (.t 21)),rg 23 (.load none (.t 22)),mv 24 8,rg 25 (.bsl 1 [(.i .i64 0)] 1 [(0,(.t 24))]),rg 26 (.app 1 (.t 23) (.t 25)),rg 27 (.nilc (.t 19)),rg 28 (.fad 3 (.t 27)),so (.store 1 (.t 28) (.t 26))])
 (.reg [mv 29 5,mv 30 5,rg 31 (.len (.t 30)),rg 32 (.fad 0 (.t 7)),rg 33 (.load none (.t 32)),rg 34 (.call 76 [(.t 33)]),rg 35 (.bin .sub (.t 31) (.t 34)),rg 36 (.slc 1 (.t 29) none (some (.t 35)) none),mv 37 8,rg 38 (.bsl 1 [(.i .i64 0)] 1 [(0,(.t 37))]),rg 39 (.app 1 (.t 36) (.t 38)),mv 5 39])))))
 (.reg [rg 40 (.bin .add (.t 11) (.c (.i .i64 1))),mv 11 40]))))
 (.norm false [0,5,9,10,11]))
def b648:AX:=
 (.seq
 (.reg [rg 4 (.mov (.c (.i .i64 0)))])
 (.seq
 (.note (.reg [rg 5 (.mov (.c (.sl [] .nl)))]) (.nil 5 1))
 (.seq
 (.seq
 (.reg [mv 9 1,rg 10 (.len (.t 9)),rg 11 (.mov (.c (.i .i64 0)))])
 (.lp 0 (.norm false [0,5,9,10,11]) l648_0 (.norm false [5])))
 (.seq
 (.reg [mv 41 5,rg 42 (.iad 1 (.t 41) (.c (.i .i64 0))),rg 43 (.load none (.t 42)),mv 4 43])
 (.pre (.norm false [4]) .ret)))))
def b649:AX:=
 (.seq
 (.reg [rg 4 (.xop (.box 3) [(.t 1)]),rg 6 (.mov (.c (.i .i64 0)))])
 (.seq
 (.reg [mv 8 2,rg 9 (.len (.t 8)),mv 7 9])
 (.seq
 (.block 0
 (.seq
 (.reg [rg 11 (.fad 0 (.t 4)),rg 12 (.load none (.t 11)),rg 13 (.bin .eql (.t 12) (.c (.i .i64 5))),mv 10 13])
 (.cond (.t 10)
 (.seq
 (.drawT [mv 14 0,rg 15 (.nilc (.t 14)),rg 16 (.fad 2 (.t 15)),rg 17 (.load none (.t 16)),rg 18 (.fad 1 (.t 4)),rg 19 (.load none (.t 18))]
 [rg 20 (.iad 1 (.t 17) (.t 19)),rg 21 (.load none (.t 20)),mv 6 21])
 (.pre (.norm false [6]) .ret))
 (.seq
 (.reg [rg 23 (.fad 0 (.t 4)),rg 24 (.load none (.t 23)),rg 25 (.call 76 [(.t 24)]),rg 26 (.bin .eql (.t 25) (.c (.i .i64 0))),mv 22 26])
 (.cond (.t 22)
 (.seq
 (.reg [mv 27 0,rg 28 (.load (some 3) (.t 4)),rg 29 (.call 651 [(.t 28)]),rg 30 (.call 650 [(.t 27),(.t 29)]),mv 6 30])
 (.pre (.norm false [6]) .ret))
 (.seq
 (.reg [rg 32 (.fad 0 (.t 4)),rg 33 (.load none (.t 32)),rg 34 (.call 76 [(.t 33)]),rg 35 (.bin .eql (.t 34) (.c (.i .i64 1))),mv 31 35])
 (.cond (.t 31)
 (.seq
 (.drawT [mv 36 0,rg 37 (.fad 0 (.t 4)),rg 38 (.load none (.t 37)),mv 39 2,mv 40 7,rg 41 (.bin .sub (.t 40) (.c (.i .i64 1))),rg 42 (.iad 1 (.t 39) (.t 41)),rg 43 (.load none (.t 42)),rg 44 (.fad 1 (.t 4)),rg 45 (.load none (.t 44)),rg 46 (.build [(.i .i64 0),(.i .i64 0),(.i .i64 0),(.b false),(.sl [] .nl),(.sl [] .nl)] [(0,1,(.t 38)),(1,1,(.t 43)),(2,1,(.t 45))])]
 [rg 47 (.call 650 [(.t 36),(.t 46)]),mv 6 47])
 (.pre (.norm false [6]) .ret))
 .skip)))))))
 (.seq
 (.drawT [mv 48 0,rg 49 (.fad 0 (.t 4)),rg 50 (.load none (.t 49)),mv 51 2,mv 52 7,rg 53 (.bin .sub (.t 52) (.c (.i .i64 2))),rg 54 (.iad 1 (.t 51) (.t 53)),rg 55 (.load none (.t 54)),mv 56 2,mv 57 7,rg 58 (.bin .sub (.t 57) (.c (.i .i64 1))),rg 59 (.iad 1 (.t 56) (.t 58)),rg 60 (.load none (.t 59)),rg 61 (.build [(.i .i64 0),(.i .i64 0),(.i .i64 0),(.b false),(.sl [] .nl),(.sl [] .nl)] [(0,1,(.t 50)),(1,1,(.t 55)),(2,1,(.t 60))])]
 [rg 62 (.call 650 [(.t 48),(.t 61)]),mv 6 62])
 (.pre (.norm false [6]) .ret)))))
def b650:AX:=
 (.seq
 (.reg [rg 3 (.xop (.box 6) [(.t 1)]),rg 4 (.mov (.c (.i .i64 0)))])
 (.seq
 (.reg [rg 8 (.fad 0 (.t 3)),rg 9 (.load none (.t 8)),rg 10 (.fad 1 (.t 3)),rg 11 (.load none (.t 10)),rg 12 (.fad 2 (.t 3)),rg 13 (.load none (.t 12)),rg 14 (.build [(.i .i64 0),(.i .i64 0),(.i .i64 0),(.s [])] [(0,1,(.t 9)),(1,1,(.t 11)),(2,1,(.t 13)),(3,1,(.c (.s [])))]),rg 5 (.alloc [(.i .i64 0),(.i .i64 0),(.i .i64 0),(.s [])]),so (.store 4 (.t 5) (.t 14))])
 (.seq
 (.seq
 (.reg [rg 15 (.fad 0 (.t 3)),rg 16 (.load none (.t 15)),rg 17 (.bin .eql (.t 16) (.c (.i .i64 1)))])
 (.cond (.t 17)
 (.reg [rg 18 (.fad 3 (.t 3)),rg 19 (.fad 0 (.t 18)),rg 20 (.fad 1 (.t 19)),rg 21 (.load none (.t 20)),rg 22 (.call 68 [(.t 21)]),rg 23 (.fad 3 (.t 5)),so (.store 1 (.t 23) (.t 22))])
 .skip))
 (.seq
 (.seq
 (.drawT [mv 25 0,rg 26 (.nilc (.t 25)),rg 27 (.fad 1 (.t 26)),rg 28 (.load none (.t 27)),rg 29 (.load (some 4) (.t 5)),rg 30 (.look (.fs [(0,.int),(1,.int),(2,.int),(3,.str)]) (.i .i64 0) true (.t 28) (.t 29)),mv 24 30,rg 31 (.ext (.t 24) 0),rg 32 (.ext (.t 24) 1),mv 6 31]
 [mv 7 32])
 (.seq
 (.reg [mv 33 7])
 (.cond (.t 33)
 (.seq
 (.reg [mv 34 6,mv 4 34])
 (.pre (.norm false [4]) .ret))
 .skip)))
 (.seq
 (.drawT [mv 35 0,rg 36 (.nilc (.t 35)),rg 37 (.fad 1 (.t 36)),rg 38 (.load none (.t 37)),rg 39 (.load (some 4) (.t 5)),mv 40 0,rg 41 (.nilc (.t 40)),rg 42 (.fad 0 (.t 41)),rg 43 (.load none (.t 42)),rg 44 (.len (.t 43))]
 [so (.xop (.mupd (.fs [(0,.int),(1,.int),(2,.int),(3,.str)])) [(.t 38),(.t 39),(.t 44)])])
 (.seq
 (.draw [⟨mv 45 0,0,1⟩,⟨mv 46 0,0,0⟩,⟨rg 47 (.nilc (.t 46)),0,0⟩,⟨rg 48 (.fad 0 (.t 47)),0,0⟩,⟨rg 49 (.load none (.t 48)),0,0⟩,⟨rg 50 (.load (some 6) (.t 3)),0,0⟩,⟨rg 51 (.bsl 6 [(.i .i64 0),(.i .i64 0),(.i .i64 0),(.b false),(.sl [] .nl),(.sl [] .nl)] 1 [(0,(.t 50))]),0,0⟩,⟨rg 52 (.app 6 (.t 49) (.t 51)),0,1⟩,⟨rg 53 (.nilc (.t 45)),1,1⟩,⟨rg 54 (.fad 0 (.t 53)),1,1⟩,⟨so (.store 1 (.t 54) (.t 52)),1,2⟩])
 (.seq
 (.reg [mv 55 0,rg 56 (.nilc (.t 55)),rg 57 (.fad 0 (.t 56)),rg 58 (.load none (.t 57)),rg 59 (.len (.t 58)),rg 60 (.bin .sub (.t 59) (.c (.i .i64 1))),mv 4 60])
 (.pre (.norm false [4]) .ret))))))))
def b651:AX:=
 (.seq
 (.reg [rg 1 (.xop (.box 3) [(.t 0)]),rg 2 (.alloc [(.i .i64 0),(.i .i64 0),(.i .i64 0),(.b false),(.sl [] .nl),(.sl [] .nl)])])
 (.seq
 (.seq
 (.reg [rg 5 (.fad 0 (.t 1)),rg 6 (.load none (.t 5))])
 (.block 0
 (.seq
 (.reg [rg 8 (.bin .eql (.t 6) (.c (.i .i64 1))),mv 7 8])
 (.cond (.t 7)
 (.seq
 (.reg [rg 10 (.fad 2 (.t 1)),rg 11 (.load none (.t 10)),rg 12 (.build [(.b false),(.sl [] .nl)] [(1,1,(.t 11))]),rg 13 (.bsl 1 [(u32 0)] 1 [(0,(.c (u32 1)))]),rg 14 (.call 204 [(.t 12),(.t 13)]),mv 9 14,rg 15 (.ext (.t 9) 0),rg 16 (.ext (.t 9) 1),rg 3 (.alloc [(.b false),(.sl [] .nl),(.sl [] .nl)]),so (.store 3 (.t 3) (.t 15)),mv 4 16])
 (.seq
 (.reg [rg 17 (.load (some 3) (.t 3)),rg 18 (.build [(.i .i64 0),(.i .i64 0),(.i .i64 0),(.b false),(.sl [] .nl),(.sl [] .nl)] [(0,1,(.c (.i .i64 1))),(3,3,(.t 17))]),so (.store 6 (.t 2) (.t 18))])
 (.pre (.norm false [2]) .ret)))
 (.seq
 (.reg [rg 20 (.bin .eql (.t 6) (.c (.i .i64 2))),mv 19 20])
 (.cond (.t 19)
 (.seq
 (.reg [rg 21 (.build [(.i .i64 0),(.i .i64 0),(.i .i64 0),(.b false),(.sl [] .nl),(.sl [] .nl)] [(0,1,(.c (.i .i64 2)))]),so (.store 6 (.t 2) (.t 21))])
 (.pre (.norm false [2]) .ret))
 .skip))))))
 (.seq
 (.reg [rg 22 (.fad 0 (.t 1)),rg 23 (.load none (.t 22)),rg 24 (.fad 1 (.t 1)),rg 25 (.load none (.t 24)),rg 26 (.build [(.i .i64 0),(.i .i64 0),(.i .i64 0),(.b false),(.sl [] .nl),(.sl [] .nl)] [(0,1,(.t 23)),(1,1,(.t 25))]),so (.store 6 (.t 2) (.t 26))])
 (.pre (.norm false [2]) .ret))))
def row644:AFx:=⟨2,79,[.cell 4 (some 4),.t 5,.cell 6 (some 4)],b644,none,false⟩
def row647:AFx:=⟨0,4,[.t 0],b647,(some []),true⟩
def row648:AFx:=⟨2,44,[.t 4],b648,(some [true,false]),false⟩
def row649:AFx:=⟨3,63,[.t 6],b649,(some [true,false,true]),false⟩
def row650:AFx:=⟨2,61,[.t 4],b650,(some [true,false]),false⟩
def row651:AFx:=⟨1,27,[.cell 2 (some 6)],b651,none,false⟩
class Zav (T:Tbl):Prop where
 h644:T 644=some row644
 h647:T 647=some row647
 h648:T 648=some row648
 h649:T 649=some row649
 h650:T 650=some row650
 h651:T 651=some row651
section
variable{T:Tbl}[Zav T]{d:Option Nat}{st:St}{xs:List AV}{ps:List Opd}{e:Env}{h:Heap}{ol:List Heap}
@[simp] theorem x644:Zc (orc T) T 644 xs d st=cP T 644 false xs d st:=zaa Zav.h644
@[simp] theorem x647:Zc (orc T) T 647 xs d st=cL T 647 true [] xs d st:=zao Zav.h647
@[simp] theorem x648:Zc (orc T) T 648 xs d st=cL T 648 false [true,false] xs d st:=zao Zav.h648
@[simp] theorem x649:Zc (orc T) T 649 xs d st=cL T 649 false [true,false,true] xs d st:=zao Zav.h649
@[simp] theorem x650:Zc (orc T) T 650 xs d st=cL T 650 false [true,false] xs d st:=zao Zav.h650
@[simp] theorem x651:Zc (orc T) T 651 xs d st=cP T 651 false xs d st:=zaa Zav.h651
end
def b384:AX:=
 (.seq
 (.reg [rg 3 (.xop (.box 4) [(.t 0)]),rg 4 (.xop (.box 5) [(.t 1)]),rg 6 (.mov (.c (.sl [] .nl))),rg 7 (.alloc [(.i .i64 0),(.i .i64 0),(.i .i64 0),(.i .i64 0)])])
 (.seq
 (.reg [rg 9 (.load (some 5) (.t 4)),rg 10 (.call 405 [(.t 9)]),so (.store 5 (.t 4) (.t 10))])
 (.seq
 (.reg [mv 11 2,rg 12 (.call 406 [(.t 11)]),rg 13 (.build [(.raw (.pointer none))] [(0,1,(.t 12))]),rg 14 (.build [(.raw (.pointer none))] [(0,1,(.t 13))]),rg 8 (.alloc [(.raw (.pointer none))]),so (.store 1 (.t 8) (.t 14))])
 (.seq
 (.reg [rg 15 (.load (some 1) (.t 8)),rg 16 (.load (some 4) (.t 3)),rg 17 (.fad 0 (.t 4)),rg 18 (.load (some 3) (.t 17)),rg 19 (.fad 3 (.t 4)),rg 20 (.load none (.t 19)),rg 21 (.fad 4 (.t 4)),rg 22 (.load none (.t 21)),rg 23 (.build [(.b false),(.sl [] .nl),(.sl [] .nl),(.sl [] .nl),(.sl [] .nl)] [(0,3,(.t 18)),(3,1,(.t 20)),(4,1,(.t 22))]),rg 24 (.call 407 [(.t 15),(.t 16),(.t 23)]),rg 25 (.ext (.t 24) 0),rg 26 (.ext (.t 24) 1),mv 6 25,so (.store 4 (.t 7) (.t 26))])
 (.pre (.norm false [6,7]) .ret)))))
def b389:AX:=
 (.seq
 (.reg [rg 3 (.xop (.box 4) [(.t 0)]),rg 4 (.xop (.box 5) [(.t 1)]),rg 6 (.mov (.c (.sl [] .nl))),rg 7 (.alloc [(.i .i64 0),(.i .i64 0),(.i .i64 0),(.i .i64 0)])])
 (.seq
 (.reg [rg 11 (.load (some 4) (.t 3)),rg 12 (.load (some 5) (.t 4)),mv 13 2,rg 14 (.call 384 [(.t 11),(.t 12),(.t 13)]),mv 10 14,rg 15 (.ext (.t 10) 0),rg 16 (.ext (.t 10) 1),rg 9 (.alloc [(.i .i64 0),(.i .i64 0),(.i .i64 0),(.i .i64 0)]),mv 8 15,so (.store 4 (.t 9) (.t 16))])
 (.seq
 (.seq
 (.reg [rg 17 (.load (some 4) (.t 9)),rg 18 (.build [(.i .i64 0),(.i .i64 0),(.i .i64 0),(.i .i64 0)] []),rg 19 (.eqs true [(0,.int),(1,.int),(2,.int),(3,.int)] (.t 17) (.t 18))])
 (.cond (.t 19)
 (.seq
 (.drawT [rg 20 (.load (some 4) (.t 9)),rg 6 (.mov (.c (.sl [] .nl)))]
 [so (.store 4 (.t 7) (.t 20))])
 (.pre (.norm false [6,7]) .ret))
 .skip))
 (.seq
 (.drawT [rg 21 (.load (some 4) (.t 3)),mv 22 8,rg 23 (.call 409 [(.t 21),(.t 22)]),rg 24 (.load (some 4) (.t 9)),mv 6 23]
 [so (.store 4 (.t 7) (.t 24))])
 (.pre (.norm false [6,7]) .ret)))))
def l407_0:AX:=
 (.note
 (.seq
 (.reg [rg 37 (.bin .lss (.t 36) (.t 35))])
 (.seq
 (.cond (.t 37)
 .skip
 (.exit 0))
 (.seq
 (.block 1
 (.seq
 (.reg [mv 38 36,rg 39 (.iad 6 (.t 34) (.t 36)),rg 40 (.load (some 6) (.t 39)),rg 10 (.alloc [(.i .i64 0),(.i .i64 0),(.i .i64 0),(.b false),(.sl [] .nl),(.sl [] .nl)]),mv 9 38,so (.store 6 (.t 10) (.t 40))])
 (.seq
 (.reg [rg 42 (.load (some 1) (.t 3)),rg 43 (.load (some 6) (.t 10)),rg 44 (.load (some 5) (.t 5)),mv 45 8,rg 46 (.call 422 [(.t 42),(.t 43),(.t 44),(.t 45)]),mv 41 46,rg 47 (.ext (.t 41) 0),rg 48 (.ext (.t 41) 1),rg 11 (.alloc [(.b false),(.sl [] .nl),(.sl [] .nl)]),so (.store 3 (.t 11) (.t 47)),mv 12 48])
 (.seq
 (.block 2
 (.seq
 (.reg [mv 50 12,rg 51 (.un .not (.t 50)),mv 49 51])
 (.cond (.t 49)
 (.seq
 (.reg [mv 52 9,rg 53 (.build [(.i .i64 0),(.i .i64 0),(.i .i64 0),(.i .i64 0)] [(0,1,(.c (.i .i64 3))),(3,1,(.t 52))]),rg 6 (.mov (.c (.sl [] .nl))),so (.store 4 (.t 7) (.t 53))])
 (.pre (.norm false [6,7]) .ret))
 (.seq
 (.reg [rg 55 (.fad 0 (.t 3)),rg 56 (.load (some 1) (.t 55)),rg 57 (.ifc 1 (.t 56)),rg 58 (.load (some 3) (.t 11)),rg 59 (.inv "Fits" 1 442 (.t 57) [(.t 58)]),rg 60 (.un .not (.t 59)),mv 54 60])
 (.cond (.t 54)
 (.seq
 (.reg [mv 61 9,rg 62 (.build [(.i .i64 0),(.i .i64 0),(.i .i64 0),(.i .i64 0)] [(0,1,(.c (.i .i64 6))),(3,1,(.t 61))]),rg 6 (.mov (.c (.sl [] .nl))),so (.store 4 (.t 7) (.t 62))])
 (.pre (.norm false [6,7]) .ret))
 .skip)))))
 (.reg [mv 63 8,rg 64 (.load (some 3) (.t 11)),rg 65 (.bsl 3 [(.b false),(.sl [] .nl),(.sl [] .nl)] 1 [(0,(.t 64))]),rg 66 (.app 3 (.t 63) (.t 65)),mv 8 66])))))
 (.reg [rg 67 (.bin .add (.t 36) (.c (.i .i64 1))),mv 36 67]))))
 (.norm false [3,5,7,8,34,35,36]))
def b407:AX:=
 (.seq
 (.reg [rg 3 (.xop (.box 1) [(.t 0)]),rg 4 (.xop (.box 4) [(.t 1)]),rg 5 (.xop (.box 5) [(.t 2)]),rg 6 (.mov (.c (.sl [] .nl))),rg 7 (.alloc [(.i .i64 0),(.i .i64 0),(.i .i64 0),(.i .i64 0)])])
 (.seq
 (.seq
 (.reg [rg 13 (.load (some 4) (.t 4)),rg 14 (.call 421 [(.t 13)]),rg 15 (.un .not (.t 14)),mv 16 15,gd 17 16 false (.fad 3 (.t 5)),gd 18 16 false (.load none (.t 17)),gd 19 16 false (.len (.t 18)),gd 20 16 false (.fad 2 (.t 4)),gd 21 16 false (.load none (.t 20)),gd 22 16 false (.bin .neq (.t 19) (.t 21)),rg 23 (.pick (.t 16) (.c (.b true)) (.t 22)),mv 24 23,gd 25 24 false (.fad 4 (.t 5)),gd 26 24 false (.load none (.t 25)),gd 27 24 false (.len (.t 26)),gd 28 24 false (.fad 3 (.t 4)),gd 29 24 false (.load none (.t 28)),gd 30 24 false (.bin .neq (.t 27) (.t 29)),rg 31 (.pick (.t 24) (.c (.b true)) (.t 30))])
 (.cond (.t 31)
 (.seq
 (.reg [rg 32 (.build [(.i .i64 0),(.i .i64 0),(.i .i64 0),(.i .i64 0)] [(0,1,(.c (.i .i64 2)))]),rg 6 (.mov (.c (.sl [] .nl))),so (.store 4 (.t 7) (.t 32))])
 (.pre (.norm false [6,7]) .ret))
 .skip))
 (.seq
 (.note (.reg [rg 8 (.mov (.c (.sl [] .nl)))]) (.nil 8 3))
 (.seq
 (.seq
 (.reg [rg 33 (.fad 0 (.t 4)),rg 34 (.load none (.t 33)),rg 35 (.len (.t 34)),rg 36 (.mov (.c (.i .i64 0)))])
 (.lp 0 (.norm false [3,5,7,8,34,35,36]) l407_0 (.norm false [7,8])))
 (.seq
 (.reg [mv 68 8,rg 69 (.build [(.i .i64 0),(.i .i64 0),(.i .i64 0),(.i .i64 0)] []),mv 6 68,so (.store 4 (.t 7) (.t 69))])
 (.pre (.norm false [6,7]) .ret))))))
def l409_0:AX:=
 (.note
 (.seq
 (.reg [rg 23 (.bin .lss (.t 22) (.t 21))])
 (.seq
 (.cond (.t 23)
 .skip
 (.exit 0))
 (.seq
 (.block 1
 (.seq
 (.reg [rg 24 (.iad 1 (.t 20) (.t 22)),rg 25 (.load none (.t 24)),mv 7 25])
 (.reg [mv 26 5,mv 27 1,mv 28 7,rg 29 (.iad 3 (.t 27) (.t 28)),rg 30 (.load (some 3) (.t 29)),rg 31 (.call 207 [(.t 30)]),rg 32 (.bsl 3 [(.b false),(.sl [] .nl),(.sl [] .nl)] 1 [(0,(.t 31))]),rg 33 (.app 3 (.t 26) (.t 32)),mv 5 33])))
 (.reg [rg 34 (.bin .add (.t 22) (.c (.i .i64 1))),mv 22 34]))))
 (.norm false [1,5,20,21,22]))
def b409:AX:=
 (.seq
 (.reg [rg 2 (.xop (.box 4) [(.t 0)]),rg 4 (.mov (.c (.sl [] .nl)))])
 (.seq
 (.seq
 (.reg [rg 8 (.load (some 4) (.t 2)),rg 9 (.call 421 [(.t 8)]),rg 10 (.un .not (.t 9)),mv 11 10,gd 12 11 false (.mov (.t 1)),gd 13 11 false (.len (.t 12)),gd 14 11 false (.fad 0 (.t 2)),gd 15 11 false (.load none (.t 14)),gd 16 11 false (.len (.t 15)),gd 17 11 false (.bin .neq (.t 13) (.t 16)),rg 18 (.pick (.t 11) (.c (.b true)) (.t 17))])
 (.cond (.t 18)
 (.seq
 (.reg [rg 4 (.mov (.c (.sl [] .nl)))])
 (.pre (.norm false [4]) .ret))
 .skip))
 (.seq
 (.note (.reg [rg 5 (.mov (.c (.sl [] .nl)))]) (.nil 5 3))
 (.seq
 (.seq
 (.reg [rg 19 (.fad 1 (.t 2)),rg 20 (.load none (.t 19)),rg 21 (.len (.t 20)),rg 22 (.mov (.c (.i .i64 0)))])
 (.lp 0 (.norm false [1,5,20,21,22]) l409_0 (.norm false [5])))
 (.seq
 (.reg [mv 35 5,mv 4 35])
 (.pre (.norm false [4]) .ret))))))
def b422:AX:=
 (.seq
 (.reg [rg 4 (.xop (.box 1) [(.t 0)]),rg 5 (.xop (.box 6) [(.t 1)]),rg 6 (.xop (.box 5) [(.t 2)]),rg 8 (.alloc [(.b false),(.sl [] .nl),(.sl [] .nl)]),rg 9 (.mov (.c (.b false)))])
 (.seq
 (.seq
 (.reg [rg 10 (.fad 0 (.t 5)),rg 11 (.load none (.t 10))])
 (.block 0
 (.seq
 (.reg [rg 13 (.bin .eql (.t 11) (.c (.i .i64 6))),mv 12 13])
 (.cond (.t 12)
 (.seq
 (.drawT [rg 14 (.fad 0 (.t 4)),rg 15 (.load (some 1) (.t 14)),rg 16 (.ifc 1 (.t 15)),mv 17 3,rg 18 (.fad 1 (.t 5)),rg 19 (.load none (.t 18)),rg 20 (.iad 3 (.t 17) (.t 19)),rg 21 (.load (some 3) (.t 20))]
 [rg 22 (.inv "Neg" 1 444 (.t 16) [(.t 21)]),so (.store 3 (.t 8) (.t 22)),rg 9 (.mov (.c (.b true)))])
 (.pre (.norm false [8,9]) .ret))
 (.seq
 (.reg [rg 24 (.bin .eql (.t 11) (.c (.i .i64 11))),mv 23 24])
 (.cond (.t 23)
 (.seq
 (.drawT [rg 25 (.fad 0 (.t 4)),rg 26 (.load (some 1) (.t 25)),rg 27 (.ifc 1 (.t 26)),mv 28 3,rg 29 (.fad 1 (.t 5)),rg 30 (.load none (.t 29)),rg 31 (.iad 3 (.t 28) (.t 30)),rg 32 (.load (some 3) (.t 31)),rg 33 (.fad 2 (.t 5)),rg 34 (.load none (.t 33)),rg 35 (.inv "Pow" 1 446 (.t 27) [(.t 32),(.t 34)]),rg 36 (.ext (.t 35) 0),rg 37 (.ext (.t 35) 1)]
 [so (.store 3 (.t 8) (.t 36)),mv 9 37])
 (.pre (.norm false [8,9]) .ret))
 (.seq
 (.reg [rg 39 (.bin .eql (.t 11) (.c (.i .i64 7))),mv 38 39])
 (.cond (.t 38)
 (.seq
 (.drawT [rg 40 (.fad 0 (.t 4)),rg 41 (.load (some 1) (.t 40)),rg 42 (.ifc 1 (.t 41)),mv 43 3,rg 44 (.fad 1 (.t 5)),rg 45 (.load none (.t 44)),rg 46 (.iad 3 (.t 43) (.t 45)),rg 47 (.load (some 3) (.t 46)),mv 48 3,rg 49 (.fad 2 (.t 5)),rg 50 (.load none (.t 49)),rg 51 (.iad 3 (.t 48) (.t 50)),rg 52 (.load (some 3) (.t 51))]
 [rg 53 (.inv "Add" 1 441 (.t 42) [(.t 47),(.t 52)]),so (.store 3 (.t 8) (.t 53)),rg 9 (.mov (.c (.b true)))])
 (.pre (.norm false [8,9]) .ret))
 (.seq
 (.reg [rg 55 (.bin .eql (.t 11) (.c (.i .i64 8))),mv 54 55])
 (.cond (.t 54)
 (.seq
 (.drawT [rg 56 (.fad 0 (.t 4)),rg 57 (.load (some 1) (.t 56)),rg 58 (.ifc 1 (.t 57)),mv 59 3,rg 60 (.fad 1 (.t 5)),rg 61 (.load none (.t 60)),rg 62 (.iad 3 (.t 59) (.t 61)),rg 63 (.load (some 3) (.t 62)),mv 64 3,rg 65 (.fad 2 (.t 5)),rg 66 (.load none (.t 65)),rg 67 (.iad 3 (.t 64) (.t 66)),rg 68 (.load (some 3) (.t 67))]
 [rg 69 (.inv "Sub" 1 448 (.t 58) [(.t 63),(.t 68)]),so (.store 3 (.t 8) (.t 69)),rg 9 (.mov (.c (.b true)))])
 (.pre (.norm false [8,9]) .ret))
 (.seq
 (.reg [rg 71 (.bin .eql (.t 11) (.c (.i .i64 9))),mv 70 71])
 (.cond (.t 70)
 (.seq
 (.drawT [rg 72 (.fad 0 (.t 4)),rg 73 (.load (some 1) (.t 72)),rg 74 (.ifc 1 (.t 73)),mv 75 3,rg 76 (.fad 1 (.t 5)),rg 77 (.load none (.t 76)),rg 78 (.iad 3 (.t 75) (.t 77)),rg 79 (.load (some 3) (.t 78)),mv 80 3,rg 81 (.fad 2 (.t 5)),rg 82 (.load none (.t 81)),rg 83 (.iad 3 (.t 80) (.t 82)),rg 84 (.load (some 3) (.t 83))]
 [rg 85 (.inv "Mul" 1 443 (.t 74) [(.t 79),(.t 84)]),so (.store 3 (.t 8) (.t 85)),rg 9 (.mov (.c (.b true)))])
 (.pre (.norm false [8,9]) .ret))
 (.seq
 (.reg [rg 87 (.bin .eql (.t 11) (.c (.i .i64 10))),mv 86 87])
 (.cond (.t 86)
 (.seq
 (.drawT [rg 88 (.fad 0 (.t 4)),rg 89 (.load (some 1) (.t 88)),rg 90 (.ifc 1 (.t 89)),mv 91 3,rg 92 (.fad 1 (.t 5)),rg 93 (.load none (.t 92)),rg 94 (.iad 3 (.t 91) (.t 93)),rg 95 (.load (some 3) (.t 94)),mv 96 3,rg 97 (.fad 2 (.t 5)),rg 98 (.load none (.t 97)),rg 99 (.iad 3 (.t 96) (.t 98)),rg 100 (.load (some 3) (.t 99)),rg 101 (.inv "Quo" 1 447 (.t 90) [(.t 95),(.t 100)]),rg 102 (.ext (.t 101) 0),rg 103 (.ext (.t 101) 1)]
 [so (.store 3 (.t 8) (.t 102)),mv 9 103])
 (.pre (.norm false [8,9]) .ret))
 .skip))))))))))))))
 (.seq
 (.reg [rg 104 (.load (some 1) (.t 4)),rg 105 (.load (some 6) (.t 5)),rg 106 (.load (some 5) (.t 6)),rg 107 (.call 431 [(.t 104),(.t 105),(.t 106)]),so (.store 3 (.t 8) (.t 107)),rg 9 (.mov (.c (.b true)))])
 (.pre (.norm false [8,9]) .ret))))
def b431:AX:=
 (.seq
 (.reg [rg 3 (.xop (.box 1) [(.t 0)]),rg 4 (.xop (.box 6) [(.t 1)]),rg 5 (.xop (.box 5) [(.t 2)]),rg 6 (.alloc [(.b false),(.sl [] .nl),(.sl [] .nl)])])
 (.seq
 (.seq
 (.reg [rg 7 (.fad 0 (.t 4)),rg 8 (.load none (.t 7))])
 (.block 0
 (.seq
 (.reg [rg 10 (.bin .eql (.t 8) (.c (.i .i64 1))),mv 9 10])
 (.cond (.t 9)
 (.seq
 (.reg [rg 11 (.fad 0 (.t 3)),rg 12 (.load (some 1) (.t 11)),rg 13 (.ifc 1 (.t 12)),rg 14 (.fad 3 (.t 4)),rg 15 (.load (some 3) (.t 14)),rg 16 (.inv "Of" 1 445 (.t 13) [(.t 15)]),so (.store 3 (.t 6) (.t 16))])
 (.pre (.norm false [6]) .ret))
 (.seq
 (.reg [rg 18 (.bin .eql (.t 8) (.c (.i .i64 3))),mv 17 18])
 (.cond (.t 17)
 (.seq
 (.reg [rg 19 (.fad 3 (.t 5)),rg 20 (.load none (.t 19)),rg 21 (.fad 1 (.t 4)),rg 22 (.load none (.t 21)),rg 23 (.iad 3 (.t 20) (.t 22)),rg 24 (.load (some 3) (.t 23)),so (.store 3 (.t 6) (.t 24))])
 (.pre (.norm false [6]) .ret))
 (.seq
 (.reg [rg 26 (.bin .eql (.t 8) (.c (.i .i64 4))),mv 25 26])
 (.cond (.t 25)
 (.seq
 (.reg [rg 27 (.fad 4 (.t 5)),rg 28 (.load none (.t 27)),rg 29 (.fad 1 (.t 4)),rg 30 (.load none (.t 29)),rg 31 (.iad 3 (.t 28) (.t 30)),rg 32 (.load (some 3) (.t 31)),so (.store 3 (.t 6) (.t 32))])
 (.pre (.norm false [6]) .ret))
 .skip))))))))
 (.seq
 (.reg [rg 33 (.fad 0 (.t 5)),rg 34 (.load (some 3) (.t 33)),so (.store 3 (.t 6) (.t 34))])
 (.pre (.norm false [6]) .ret))))
def b441:AX:=
 (.seq
 (.reg [rg 3 (.xop (.box 1) [(.t 0)]),rg 4 (.xop (.box 3) [(.t 1)]),rg 5 (.xop (.box 3) [(.t 2)]),rg 6 (.alloc [(.b false),(.sl [] .nl),(.sl [] .nl)])])
 (.seq
 (.reg [rg 7 (.load (some 3) (.t 4)),rg 8 (.load (some 3) (.t 5)),rg 9 (.call 215 [(.t 7),(.t 8)]),so (.store 3 (.t 6) (.t 9))])
 (.pre (.norm false [6]) .ret)))
def b442:AX:=
 (.seq
 (.reg [rg 2 (.xop (.box 1) [(.t 0)]),rg 3 (.xop (.box 3) [(.t 1)]),rg 4 (.mov (.c (.b false)))])
 (.seq
 (.reg [rg 5 (.fad 0 (.t 2)),rg 6 (.load none (.t 5)),rg 7 (.load (some 3) (.t 3)),rg 8 (.call 411 [(.t 6),(.t 7)]),mv 4 8])
 (.pre (.norm false [4]) .ret)))
def b443:AX:=
 (.seq
 (.reg [rg 3 (.xop (.box 1) [(.t 0)]),rg 4 (.xop (.box 3) [(.t 1)]),rg 5 (.xop (.box 3) [(.t 2)]),rg 6 (.alloc [(.b false),(.sl [] .nl),(.sl [] .nl)])])
 (.seq
 (.reg [rg 7 (.load (some 3) (.t 4)),rg 8 (.load (some 3) (.t 5)),rg 9 (.call 217 [(.t 7),(.t 8)]),so (.store 3 (.t 6) (.t 9))])
 (.pre (.norm false [6]) .ret)))
def b444:AX:=
 (.seq
 (.reg [rg 2 (.xop (.box 1) [(.t 0)]),rg 3 (.xop (.box 3) [(.t 1)]),rg 4 (.alloc [(.b false),(.sl [] .nl),(.sl [] .nl)])])
 (.seq
 (.reg [rg 5 (.load (some 3) (.t 3)),rg 6 (.call 213 [(.t 5)]),so (.store 3 (.t 4) (.t 6))])
 (.pre (.norm false [4]) .ret)))
def b445:AX:=
 (.seq
 (.reg [rg 2 (.xop (.box 1) [(.t 0)]),rg 3 (.xop (.box 3) [(.t 1)]),rg 4 (.alloc [(.b false),(.sl [] .nl),(.sl [] .nl)])])
 (.seq
 (.reg [rg 5 (.load (some 3) (.t 3)),rg 6 (.call 207 [(.t 5)]),so (.store 3 (.t 4) (.t 6))])
 (.pre (.norm false [4]) .ret)))
def b446:AX:=
 (.seq
 (.reg [rg 3 (.xop (.box 1) [(.t 0)]),rg 4 (.xop (.box 3) [(.t 1)]),rg 6 (.alloc [(.b false),(.sl [] .nl),(.sl [] .nl)]),rg 7 (.mov (.c (.b false)))])
 (.seq
 (.reg [rg 8 (.load (some 3) (.t 4)),mv 9 2,rg 10 (.call 220 [(.t 8),(.t 9)]),rg 11 (.ext (.t 10) 0),rg 12 (.ext (.t 10) 1),so (.store 3 (.t 6) (.t 11)),mv 7 12])
 (.pre (.norm false [6,7]) .ret)))
def b447:AX:=
 (.seq
 (.reg [rg 3 (.xop (.box 1) [(.t 0)]),rg 4 (.xop (.box 3) [(.t 1)]),rg 5 (.xop (.box 3) [(.t 2)]),rg 6 (.alloc [(.b false),(.sl [] .nl),(.sl [] .nl)]),rg 7 (.mov (.c (.b false)))])
 (.seq
 (.reg [rg 8 (.load (some 3) (.t 4)),rg 9 (.load (some 3) (.t 5)),rg 10 (.call 218 [(.t 8),(.t 9)]),rg 11 (.ext (.t 10) 0),rg 12 (.ext (.t 10) 1),so (.store 3 (.t 6) (.t 11)),mv 7 12])
 (.pre (.norm false [6,7]) .ret)))
def b448:AX:=
 (.seq
 (.reg [rg 3 (.xop (.box 1) [(.t 0)]),rg 4 (.xop (.box 3) [(.t 1)]),rg 5 (.xop (.box 3) [(.t 2)]),rg 6 (.alloc [(.b false),(.sl [] .nl),(.sl [] .nl)])])
 (.seq
 (.reg [rg 7 (.load (some 3) (.t 4)),rg 8 (.load (some 3) (.t 5)),rg 9 (.call 216 [(.t 7),(.t 8)]),so (.store 3 (.t 6) (.t 9))])
 (.pre (.norm false [6]) .ret)))
def row384:AFx:=⟨3,27,[.t 6,.cell 7 (some 4)],b384,none,false⟩
def row389:AFx:=⟨3,25,[.t 6,.cell 7 (some 4)],b389,none,false⟩
def row407:AFx:=⟨3,70,[.t 6,.cell 7 (some 4)],b407,(some [true,false,false]),false⟩
def row409:AFx:=⟨2,36,[.t 4],b409,none,false⟩
def row422:AFx:=⟨4,108,[.cell 8 (some 3),.t 9],b422,none,false⟩
def row431:AFx:=⟨3,35,[.cell 6 (some 3)],b431,none,false⟩
def row441:AFx:=⟨3,10,[.cell 6 (some 3)],b441,none,false⟩
def row442:AFx:=⟨2,9,[.t 4],b442,(some [true,false]),false⟩
def row443:AFx:=⟨3,10,[.cell 6 (some 3)],b443,none,false⟩
def row444:AFx:=⟨2,7,[.cell 4 (some 3)],b444,none,false⟩
def row445:AFx:=⟨2,7,[.cell 4 (some 3)],b445,none,false⟩
def row446:AFx:=⟨3,13,[.cell 6 (some 3),.t 7],b446,none,false⟩
def row447:AFx:=⟨3,13,[.cell 6 (some 3),.t 7],b447,none,false⟩
def row448:AFx:=⟨3,10,[.cell 6 (some 3)],b448,none,false⟩
class Za2 (T:Tbl):Prop where
 h384:T 384=some row384
 h389:T 389=some row389
 h407:T 407=some row407
 h409:T 409=some row409
 h422:T 422=some row422
 h431:T 431=some row431
 h441:T 441=some row441
 h442:T 442=some row442
 h443:T 443=some row443
 h444:T 444=some row444
 h445:T 445=some row445
 h446:T 446=some row446
 h447:T 447=some row447
 h448:T 448=some row448
section
variable{T:Tbl}[Za2 T]{d:Option Nat}{st:St}{xs:List AV}{ps:List Opd}{e:Env}{h:Heap}{ol:List Heap}
@[simp] theorem x384:Zc (orc T) T 384 xs d st=cP T 384 false xs d st:=zaa Za2.h384
@[simp] theorem y384:opD (orc T) T (.call 384 ps) e h ol=dP T 384 false ps e:=zau Za2.h384
@[simp] theorem x389:Zc (orc T) T 389 xs d st=cP T 389 false xs d st:=zaa Za2.h389
@[simp] theorem x407:Zc (orc T) T 407 xs d st=cL T 407 false [true,false,false] xs d st:=zao Za2.h407
@[simp] theorem y409:opD (orc T) T (.call 409 ps) e h ol=dP T 409 false ps e:=zau Za2.h409
@[simp] theorem x422:Zc (orc T) T 422 xs d st=cP T 422 false xs d st:=zaa Za2.h422
@[simp] theorem x431:Zc (orc T) T 431 xs d st=cP T 431 false xs d st:=zaa Za2.h431
@[simp] theorem x441:Zc (orc T) T 441 xs d st=cP T 441 false xs d st:=zaa Za2.h441
@[simp] theorem x442:Zc (orc T) T 442 xs d st=cL T 442 false [true,false] xs d st:=zao Za2.h442
@[simp] theorem x443:Zc (orc T) T 443 xs d st=cP T 443 false xs d st:=zaa Za2.h443
@[simp] theorem x444:Zc (orc T) T 444 xs d st=cP T 444 false xs d st:=zaa Za2.h444
@[simp] theorem x445:Zc (orc T) T 445 xs d st=cP T 445 false xs d st:=zaa Za2.h445
@[simp] theorem z446(xs:List AV):dI T 446 xs=dR (Za T 446 (xs.map (wkIf false))) xs:=z8x Za2.h446
@[simp] theorem z447(xs:List AV):dI T 447 xs=dR (Za T 447 (xs.map (wkIf false))) xs:=z8x Za2.h447
@[simp] theorem x448:Zc (orc T) T 448 xs d st=cP T 448 false xs d st:=zaa Za2.h448
end
def meths1:List RV:=[.cell 1 (some 445),.cell 2 (some 444),.cell 3 (some 441),.cell 4 (some 448),.cell 5 (some 443),.cell 6 (some 447),.cell 7 (some 446),.cell 8 (some 442)]
class Zix (T:Tbl):Prop where
 h1:∃t,T 1000001=some ⟨t,0,meths1,.bad,none,false⟩
section
variable{T:Tbl}[Zix T]
theorem zd3(x:String×Nat):x∈Zae T 1↔x∈[("Of",445),("Neg",444),("Add",441),("Sub",448),("Mul",443),("Quo",447),("Pow",446),("Fits",442)]:=by
 obtain⟨t,ht⟩:=Zix.h1 (T:=T)
 rw[zy0 ht]
 rfl
@[simp] theorem zan5:(("Of",445)∈Zae T 1)=True:=by simp[zd3]
@[simp] theorem zalg:(("Neg",444)∈Zae T 1)=True:=by simp[zd3]
@[simp] theorem zalh:(("Add",441)∈Zae T 1)=True:=by simp[zd3]
@[simp] theorem zali:(("Sub",448)∈Zae T 1)=True:=by simp[zd3]
@[simp] theorem zalj:(("Mul",443)∈Zae T 1)=True:=by simp[zd3]
@[simp] theorem zalk:(("Quo",447)∈Zae T 1)=True:=by simp[zd3]
@[simp] theorem zall:(("Pow",446)∈Zae T 1)=True:=by simp[zd3]
@[simp] theorem zaib:(("Fits",442)∈Zae T 1)=True:=by simp[zd3]
end
def b381:AX:=
 (.seq
 (.reg [rg 0 (.mov (.c (.b false)))])
 (.seq
 (.reg [rg 7 (.build [(.i .i64 0),(.i .i64 0),(.i .i64 0),(.b false),(.sl [] .nl),(.sl [] .nl)] [(0,1,(.c (.i .i64 3)))]),rg 8 (.build [(.i .i64 0),(.i .i64 0),(.i .i64 0),(.b false),(.sl [] .nl),(.sl [] .nl)] [(0,1,(.c (.i .i64 2)))]),rg 9 (.build [(.i .i64 0),(.i .i64 0),(.i .i64 0),(.b false),(.sl [] .nl),(.sl [] .nl)] [(0,1,(.c (.i .i64 10))),(2,1,(.c (.i .i64 1)))]),rg 10 (.bsl 6 [(.i .i64 0),(.i .i64 0),(.i .i64 0),(.b false),(.sl [] .nl),(.sl [] .nl)] 3 [(0,(.t 7)),(1,(.t 8)),(2,(.t 9))]),rg 11 (.bsl 1 [(.i .i64 0)] 1 [(0,(.c (.i .i64 2)))]),rg 12 (.build [(.sl [] .nl),(.sl [] .nl),(.i .i64 0),(.i .i64 0)] [(0,1,(.t 10)),(1,1,(.t 11)),(2,1,(.c (.i .i64 1)))]),rg 1 (.alloc [(.sl [] .nl),(.sl [] .nl),(.i .i64 0),(.i .i64 0)]),so (.store 4 (.t 1) (.t 12))])
 (.seq
 (.reg [rg 13 (.call 205 [(.c (.i .i64 6))]),rg 14 (.bsl 3 [(.b false),(.sl [] .nl),(.sl [] .nl)] 1 [(0,(.t 13))]),mv 2 14])
 (.seq
 (.draw [⟨rg 16 (.load (some 4) (.t 1)),0,1⟩,⟨rg 17 (.call 205 [(.c (.i .i64 2))]),0,1⟩,⟨mv 18 2,0,1⟩,⟨rg 19 (.build [(.b false),(.sl [] .nl),(.sl [] .nl),(.sl [] .nl),(.sl [] .nl)] [(0,3,(.t 17)),(3,1,(.t 18))]),0,1⟩,⟨rg 20 (.call 384 [(.t 16),(.t 19),(.c (.i .i64 100))]),0,1⟩,⟨mv 15 20,0,1⟩,⟨rg 21 (.ext (.t 15) 0),0,1⟩,⟨rg 22 (.ext (.t 15) 1),0,1⟩,⟨rg 4 (.alloc [(.i .i64 0),(.i .i64 0),(.i .i64 0),(.i .i64 0)]),0,1⟩,⟨mv 3 21,1,1⟩,⟨so (.store 4 (.t 4) (.t 22)),1,2⟩])
 (.seq
 (.reg [rg 24 (.load (some 4) (.t 1)),mv 25 2,rg 26 (.build [(.b false),(.sl [] .nl),(.sl [] .nl),(.sl [] .nl),(.sl [] .nl)] [(3,1,(.t 25))]),rg 27 (.call 384 [(.t 24),(.t 26),(.c (.i .i64 100))]),mv 23 27,rg 28 (.ext (.t 23) 0),rg 29 (.ext (.t 23) 1),rg 6 (.alloc [(.i .i64 0),(.i .i64 0),(.i .i64 0),(.i .i64 0)]),mv 5 28,so (.store 4 (.t 6) (.t 29))])
 (.seq
 (.reg [rg 30 (.load (some 4) (.t 4)),rg 31 (.build [(.i .i64 0),(.i .i64 0),(.i .i64 0),(.i .i64 0)] []),rg 32 (.eqs false [(0,.int),(1,.int),(2,.int),(3,.int)] (.t 30) (.t 31)),mv 33 32,gd 34 33 true (.mov (.t 3)),gd 35 33 true (.call 274 [(.t 34)]),gd 36 33 true (.bin .eql (.t 35) (.c (.s [54,44,50,44,51]))),rg 37 (.pick (.t 33) (.t 36) (.c (.b false))),mv 38 37,gd 39 38 true (.load (some 4) (.t 6)),gd 40 38 true (.build [(.i .i64 0),(.i .i64 0),(.i .i64 0),(.i .i64 0)] [(0,1,(.c (.i .i64 3))),(3,1,(.c (.i .i64 2)))]),gd 41 38 true (.eqs false [(0,.int),(1,.int),(2,.int),(3,.int)] (.t 39) (.t 40)),rg 42 (.pick (.t 38) (.t 41) (.c (.b false))),mv 0 42])
 (.pre (.norm false [0]) .ret)))))))
def row381:AFx:=⟨0,43,[.t 0],b381,none,false⟩
class Zgm (T:Tbl):Prop where
 h381:T 381=some row381
section
variable{T:Tbl}[Zgm T]{d:Option Nat}{st:St}{xs:List AV}{ps:List Opd}{e:Env}{h:Heap}{ol:List Heap}
@[simp] theorem x381:Zc (orc T) T 381 xs d st=cP T 381 false xs d st:=zaa Zgm.h381
end
def b676:AX:=
 (.seq
 (.reg [rg 3 (.xop (.box 2) [(.t 0)]),rg 4 (.xop (.box 5) [(.t 1)]),rg 6 (.mov (.c (.b false)))])
 (.seq
 (.seq
 (.reg [rg 16 (.load (some 2) (.t 3)),rg 17 (.call 466 [(.t 16),(.c (.i .i64 6)),(.c (.i .i64 15)),(.c (.i .i64 2))]),mv 18 17,gd 19 18 false (.load (some 5) (.t 4)),gd 20 18 false (.call 380 [(.t 19),(.c (.i .i64 6)),(.c (.i .i64 2))]),rg 21 (.pick (.t 18) (.c (.b true)) (.t 20)),mv 22 21,gd 23 22 false (.mov (.t 2)),gd 24 22 false (.bin .gtr (.t 23) (.c (.i .i64 400))),rg 25 (.pick (.t 22) (.c (.b true)) (.t 24))])
 (.cond (.t 25)
 (.seq
 (.reg [rg 26 (.call 381 []),mv 6 26])
 (.pre (.norm false [6]) .ret))
 .skip))
 (.seq
 (.reg [rg 27 (.load (some 2) (.t 3)),rg 28 (.call 468 [(.t 27)]),rg 7 (.alloc [(.sl [] .nl),(.sl [] .nl)]),so (.store 2 (.t 7) (.t 28))])
 (.seq
 (.reg [rg 29 (.load (some 5) (.t 4)),rg 30 (.call 383 [(.t 29)]),rg 8 (.alloc [(.b false),(.sl [] .nl),(.sl [] .nl),(.sl [] .nl),(.sl [] .nl)]),so (.store 5 (.t 8) (.t 30))])
 (.seq
 (.reg [rg 32 (.load (some 2) (.t 7)),rg 33 (.fad 4 (.t 4)),rg 34 (.load none (.t 33)),rg 35 (.len (.t 34)),rg 36 (.call 644 [(.t 32),(.t 35)]),mv 31 36,rg 37 (.ext (.t 31) 0),rg 38 (.ext (.t 31) 1),rg 39 (.ext (.t 31) 2),rg 9 (.alloc [(.sl [] .nl),(.sl [] .nl),(.i .i64 0),(.i .i64 0)]),rg 11 (.alloc [(.i .i64 0),(.i .i64 0),(.i .i64 0),(.i .i64 0)]),so (.store 4 (.t 9) (.t 37)),mv 10 38,so (.store 4 (.t 11) (.t 39))])
 (.seq
 (.reg [rg 41 (.load (some 4) (.t 9)),rg 42 (.load (some 5) (.t 8)),mv 43 2,rg 44 (.call 389 [(.t 41),(.t 42),(.t 43)]),mv 40 44,rg 45 (.ext (.t 40) 0),rg 46 (.ext (.t 40) 1),rg 13 (.alloc [(.i .i64 0),(.i .i64 0),(.i .i64 0),(.i .i64 0)]),mv 12 45,so (.store 4 (.t 13) (.t 46))])
 (.seq
 (.reg [rg 48 (.load (some 2) (.t 7)),rg 49 (.load (some 5) (.t 8)),mv 50 2,rg 51 (.call 467 [(.t 48),(.t 49),(.t 50)]),mv 47 51,rg 52 (.ext (.t 47) 0),rg 53 (.ext (.t 47) 1),rg 15 (.alloc [(.i .i64 0),(.i .i64 0),(.i .i64 0),(.i .i64 0)]),mv 14 52,so (.store 4 (.t 15) (.t 53))])
 (.seq
 (.seq
 (.reg [rg 54 (.load (some 4) (.t 11)),rg 55 (.build [(.i .i64 0),(.i .i64 0),(.i .i64 0),(.i .i64 0)] []),rg 56 (.eqs true [(0,.int),(1,.int),(2,.int),(3,.int)] (.t 54) (.t 55)),mv 57 56,gd 58 57 false (.fad 3 (.t 4)),gd 59 57 false (.load none (.t 58)),gd 60 57 false (.len (.t 59)),gd 61 57 false (.fad 1 (.t 3)),gd 62 57 false (.load none (.t 61)),gd 63 57 false (.len (.t 62)),gd 64 57 false (.bin .neq (.t 60) (.t 63)),rg 65 (.pick (.t 57) (.c (.b true)) (.t 64))])
 (.cond (.t 65)
 (.seq
 (.reg [rg 66 (.load (some 4) (.t 13)),rg 67 (.build [(.i .i64 0),(.i .i64 0),(.i .i64 0),(.i .i64 0)] [(0,1,(.c (.i .i64 2)))]),rg 68 (.eqs false [(0,.int),(1,.int),(2,.int),(3,.int)] (.t 66) (.t 67)),mv 69 68,gd 70 69 true (.fad 0 (.t 15)),gd 71 69 true (.load none (.t 70)),gd 72 69 true (.bin .eql (.t 71) (.c (.i .i64 2))),rg 73 (.pick (.t 69) (.t 72) (.c (.b false))),mv 74 73,gd 75 74 true (.call 381 []),rg 76 (.pick (.t 74) (.t 75) (.c (.b false))),mv 6 76])
 (.pre (.norm false [6]) .ret))
 .skip))
 (.seq
 (.seq
 (.reg [rg 77 (.load (some 4) (.t 15)),rg 78 (.build [(.i .i64 0),(.i .i64 0),(.i .i64 0),(.i .i64 0)] []),rg 79 (.eqs true [(0,.int),(1,.int),(2,.int),(3,.int)] (.t 77) (.t 78))])
 (.cond (.t 79)
 (.seq
 (.drawT [mv 80 12,rg 81 (.len (.t 80)),rg 82 (.bin .eql (.t 81) (.c (.i .i64 0))),mv 83 82,gd 84 83 true (.fad 3 (.t 15)),gd 85 83 true (.load none (.t 84)),gd 86 83 true (.bin .geq (.t 85) (.c (.i .i64 0))),rg 87 (.pick (.t 83) (.t 86) (.c (.b false))),mv 88 87,gd 89 88 true (.fad 3 (.t 15)),gd 90 88 true (.load none (.t 89)),gd 91 88 true (.mov (.t 10)),gd 92 88 true (.len (.t 91)),gd 93 88 true (.bin .lss (.t 90) (.t 92)),rg 94 (.pick (.t 88) (.t 93) (.c (.b false))),mv 95 94,gd 96 95 true (.load (some 4) (.t 13)),gd 97 95 true (.fad 0 (.t 15)),gd 98 95 true (.load none (.t 97)),gd 99 95 true (.mov (.t 10)),gd 100 95 true (.fad 3 (.t 15)),gd 101 95 true (.load none (.t 100)),gd 102 95 true (.iad 1 (.t 99) (.t 101)),gd 103 95 true (.load none (.t 102)),gd 104 95 true (.build [(.i .i64 0),(.i .i64 0),(.i .i64 0),(.i .i64 0)] [(0,1,(.t 98)),(3,1,(.t 103))])]
 [gd 105 95 true (.eqs false [(0,.int),(1,.int),(2,.int),(3,.int)] (.t 96) (.t 104)),rg 106 (.pick (.t 95) (.t 105) (.c (.b false))),mv 107 106,gd 108 107 true (.call 381 []),rg 109 (.pick (.t 107) (.t 108) (.c (.b false))),mv 6 109])
 (.pre (.norm false [6]) .ret))
 .skip))
 (.seq
 (.reg [rg 110 (.load (some 4) (.t 13)),rg 111 (.build [(.i .i64 0),(.i .i64 0),(.i .i64 0),(.i .i64 0)] []),rg 112 (.eqs false [(0,.int),(1,.int),(2,.int),(3,.int)] (.t 110) (.t 111)),mv 113 112,gd 114 113 true (.mov (.t 12)),gd 115 113 true (.mov (.t 14)),gd 116 113 true (.call 265 [(.t 114),(.t 115)]),rg 117 (.pick (.t 113) (.t 116) (.c (.b false))),mv 118 117,gd 119 118 true (.call 381 []),rg 120 (.pick (.t 118) (.t 119) (.c (.b false))),mv 6 120])
 (.pre (.norm false [6]) .ret)))))))))))
def row676:AFx:=⟨3,121,[.t 6],b676,none,false⟩
class Zcv (T:Tbl):Prop where
 h676:T 676=some row676
section
variable{T:Tbl}[Zcv T]{d:Option Nat}{st:St}{xs:List AV}{ps:List Opd}{e:Env}{h:Heap}{ol:List Heap}
end
end Go.Ab