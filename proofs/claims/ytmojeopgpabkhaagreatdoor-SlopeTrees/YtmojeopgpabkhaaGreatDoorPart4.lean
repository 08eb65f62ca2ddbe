/-
  A calculus of values, boxes and code, and what functions of the program compute, proved in it.
  Conditions: none beyond those that the theorems state. (Part 4.)
-/
import Derived.Test.YtmojeopgpabkhaaGreatDoorPart3

set_option linter.unusedSectionVars false
set_option linter.unusedVariables false
set_option linter.unusedSimpArgs false
set_option linter.unnecessarySimpa false
set_option linter.defProp false
set_option maxRecDepth 100000

namespace Go.Ab
def z9g(w:Nat):4294967296^w=2^(32*w):=by
 rw[Ydb]
def zqf(a:List UInt32)(w:Nat)(h:w<=a.length):val a=val (a.take w)+4294967296^w*val (a.drop w):=by
 have:=zal (a.take w) (a.drop w);rw[Yaw,Yae,Ycg h]at this;exact this
def z9h(a:List UInt32)(w:Nat)(h:w<=a.length):val a/4294967296^w=val (a.drop w):=by
 have hp:0<4294967296^w:=Ybs (by decide);have hlt:=za6 (a.take w);rw[Yae,Ycg h]at hlt;rw[zqf a w h,Ydp _ _ hp,Yb4 hlt,Yad]
def z54{a b n:Nat}(h:a<2^n):a ||| 2^n*b=a+2^n*b:=by
 rw[Nat.or_comm,<-Ycr h,Ybi]
def z9i{x c n:Nat}(hx:x<4294967296)(hn:n<32)(hc:c<2^n) :
  x*2^n<18446744073709551616/\(c ||| x*2^n%4294967296)=c+x*2^n%4294967296/\c+x*2^n%4294967296<4294967296/\x*2^n/4294967296<2^n/\2^n<4294967296:=by
 have hp:2^(n+(32-n))=4294967296:=by rw[show n+(32-n)=32 by omega]
 rw[Ycs]at hp;have hq:0<2^n:=Ybs (by decide);have hr:1<2^(32-n):=Nat.one_lt_two_pow (by omega);have e1:x*2^n%4294967296=2^n*(x%2^(32-n)):=by rw[<-hp,Yas x,Nat.mul_mod_mul_left]
 have e2:=z54 (b:=x%2^(32-n)) hc;rw[<-e1]at e2;have hlt:2^n<4294967296:=by
  have h1:=Ya5 (2^n) (show 2<=2^(32-n) from hr);rw[hp]at h1;omega
 refine⟨?_,e2,?_,?_,hlt⟩
 ·have:=Nat.mul_lt_mul'' hx hlt;simpa using this
 ·rw[e1];have h1:x%2^(32-n)+1<=2^(32-n):=Ybl _ (by omega);have h2:=Ya5 (2^n) h1;rw[hp,Yar,Ydu]at h2;omega
 ·exact Ybh (by rw[Yas x];rw[Yas 4294967296];exact Nat.mul_lt_mul_of_pos_left hx hq)
def z1m{x y R b:Nat}(hb:b<32)(hx:x<4294967296) :
  (x+4294967296*(y+4294967296*R))/2^b=(x+y*4294967296)/2^b%4294967296+4294967296*((y+4294967296*R)/2^b):=by
 have hq:0<2^b:=Ybs (by decide);have h1:(x+4294967296*(y+4294967296*R))/4294967296=y+4294967296*R:=by omega
 have h2:(x+4294967296*(y+4294967296*R))/2^b/4294967296=(y+4294967296*R)/2^b:=by
  rw[Ycl,Yas (2^b),<-Ycl,h1]
 have hp:2^b*2^(32-b)=4294967296:=by rw[<-Ycs,show b+(32-b)=32 by omega]
 have h3:x+4294967296*(y+4294967296*R)=(x+y*4294967296)+2^b*(4294967296*(2^(32-b)*R)):=by
  have:2^b*(4294967296*(2^(32-b)*R))=4294967296*(4294967296*R):=by
   rw[Nat.mul_left_comm,<-Ya3 (2^b),hp]
  omega
 have h4:(x+4294967296*(y+4294967296*R))/2^b%4294967296=(x+y*4294967296)/2^b%4294967296:=by
  rw[h3,Ydp _ _ hq,Nat.add_mul_mod_self_left]
 have h5:=Nat.mod_add_div ((x+4294967296*(y+4294967296*R))/2^b) 4294967296;rw[h2,h4]at h5;exact h5.symm
def zua{P m R:List UInt32}{i:Nat}{c:UInt32}(hm:m.length=i):(P++(m++c::R))[P.length+i]? = some c:=by
 grind
def znm{P m R:List UInt32}{i:Nat}{c:UInt32}(w:UInt32)(hm:m.length=i):(P++(m++c::R)).set (P.length+i) w=P++(m++w::R):=by
 rw[Ya1 (P.length+i) w (by omega),Ybw,Ya1 i w (by omega),hm,Yb0,Yb7]
def z4p{P m R:List UInt32}{i:Nat}{c d:UInt32}(w:UInt32)(hm:m.length=i):(P++(m++c::d::R)).set (P.length+i+1) w=P++(m++c::w::R):=by
 rw[Yav,Ya1 (P.length+(i+1)) w (by omega),Ybw,Ya1 (i+1) w (by omega),hm,show i+1-i=1 by omega]
 rfl
def z4q{P m R:List UInt32}{i:Nat}{c d:UInt32}(hm:m.length=i):(P++(m++c::d::R))[P.length+i+1]? = some d:=by
 grind
theorem zi1(n:Nat):w32 (n%4294967296)=w32 n:=z53 (by rw[zel,Nat.mod_mod])
section
variable{T:Tbl}[Zr T][Zw T]
def Zns(P a:List UInt32)(n:Nat)(y:Nat×Nat×List UInt32):St:=
 ⟨[(5,.i .i64 P.length),(6,.i .i64 n),(7,.bs (.loc 23) 1 1 0 (P.length+a.length+1)),(24,.sl (Zb a) .an),(25,.i .i64 a.length),(26,.i .i64 y.1)],[(.loc 23,⟨1,.own,1,Zb (P++(y.2.2++w32 y.2.1::List.replicate (a.length-y.1) 0))⟩)],3⟩
end
section
variable{T:Tbl}
def z9c(P a:List UInt32)(n:Nat)(hn:n<32)(hl:P.length+a.length<=1000000):∀y:Nat×Nat×List UInt32,
  (y.1<=a.length/\y.2.1<2^n/\y.2.2.length=y.1/\val y.2.2+4294967296^y.1*y.2.1=2^n*val (a.take y.1)) ->
  ∃r,(∃(c:Nat) (m:List UInt32),r=(Ex.n,(⟨[(7,.bs (.loc 23) 1 1 0 (P.length+a.length+1))],[(.loc 23,⟨1,.own,1,Zb (P++(m++[w32 c]))⟩)],3⟩:St)) /\
   m.length=a.length/\c<2^n/\val m+4294967296^a.length*c=2^n*val a)/\Zx T 0 0 (.norm false [7]) l92_0 (Zns P a n y)=some r:=by
 refine zay _ _ (fun y=>a.length-y.1) _ ?_
 rintro⟨i,c,m⟩ ⟨hi,hc,hm,hv⟩
 simp only at hi hc hm hv;by_cases h0:i<a.length
 ·left;have ha:a[i]? = some (a[i]'h0):=Ya h0;obtain⟨u1,u2,u3,u4,u5⟩:=z9i (zam (a[i]'h0)) hn hc;have hx:=zam (a[i]'h0);have hrep:List.replicate (a.length-i) (0:UInt32)=0::List.replicate (a.length-(i+1)) 0:=by
   rw[show a.length-i=a.length-(i+1)+1 by omega,Ya6]
  have hw:IntKind.wrap .i64 ((i:Int)+1)=((i+1:Nat):Int):=zab _ (by omega);have hw2:IntKind.wrap .i64 ((P.length:Int)+i)=((P.length+i:Nat):Int):=zab _ (by omega);have hw3:IntKind.wrap .i64 ((P.length:Int)+i+1)=((P.length+i+1:Nat):Int):=zab _ (by omega);have hg:=zua (P:=P) (c:=w32 c) (R:=0::List.replicate (a.length-(i+1)) 0) hm;have hg3:=z4q (P:=P) (c:=w32 (c+(a[i]'h0).toNat*2^n%4294967296)) (d:=0) (R:=List.replicate (a.length-(i+1)) 0) hm;have hs1:=znm (P:=P) (c:=w32 c) (R:=0::List.replicate (a.length-(i+1)) 0) (w32 (c+(a[i]'h0).toNat*2^n%4294967296)) hm;have hs2:=z4p (P:=P) (c:=w32 (c+(a[i]'h0).toNat*2^n%4294967296)) (d:=0) (R:=List.replicate (a.length-(i+1)) 0) (w32 ((a[i]'h0).toNat*2^n/4294967296)) hm;have hmin:min n 64=n:=by omega
  have hlt1:(P.length:Int)+i<(P.length:Int)+a.length+1:=by omega
  have hlt2:(P.length:Int)+i<(P.length:Int)+a.length:=by omega
  have m1:(a[i]'h0).toNat%18446744073709551616=(a[i]'h0).toNat:=Y4 (by omega);have m2:=Y4 u1;have m3:=Y4 u3;have hcc:c<4294967296:=by omega
  have m4:(a[i]'h0).toNat*2^n/4294967296%4294967296=(a[i]'h0).toNat*2^n/4294967296:=Y4 (by omega);have m5:(a[i]'h0).toNat*2^n/4294967296<4294967296:=by omega
  refine⟨(i+1,(a[i]'h0).toNat*2^n/4294967296,m++[w32 (c+(a[i]'h0).toNat*2^n%4294967296)]),⟨h0,u4,by grind,?_⟩,by omega,?_⟩
  ·grind[zal,zag,zaq,zb0,zah,Nat.div_add_mod]
  ·simp -implicitDefEqProofs[l92_0,Zns,h0,hrep,hw,hw2,hw3,hg,hg3,hs1,hs2,zbw _ _ _ u3,zbw _ _ _ m5,hmin,hlt1,hlt2,m1,m2,m3,m4,u2,zah hcc]
 ·right;have:i=a.length:=by omega
  subst this;rw[Yc (Yh a.length)]at hv;refine⟨_,⟨c,m,rfl,hm,hc,hv⟩,?_,?_⟩<;>simp -implicitDefEqProofs[l92_0,Zns]
end
section
variable{T:Tbl}[Zr T][Zw T]
def Zna(a:List UInt32)(W n:Nat)(y:Nat×List UInt32):St:=
 ⟨[(0,.sl (Zb a) .an),(5,.i .i64 W),(6,.i .i64 n),(7,.bs (.loc 24) 1 1 0 (a.length-W)),(26,.i .i64 (a.length-W:Nat)),(27,.i .i64 y.1)],[(.loc 24,⟨1,.own,1,Zb (y.2++List.replicate (a.length-W-y.1) 0)⟩)],3⟩
end
section
variable{T:Tbl}
def z1i(a:List UInt32)(W n:Nat)(hn:n<32)(hW:W<=a.length)(hl:a.length<=1000000):∀y:Nat×List UInt32,
  (y.1<=a.length-W/\y.2.length=y.1/\val y.2+4294967296^y.1*(val (a.drop (W+y.1))/2^n)=val (a.drop W)/2^n) ->
  ∃r,(∃m:List UInt32,r=(Ex.n,(⟨[(7,.bs (.loc 24) 1 1 0 (a.length-W))],[(.loc 24,⟨1,.own,1,Zb m⟩)],3⟩:St)) /\
   m.length=a.length-W/\val m=val (a.drop W)/2^n)/\Zx T 0 0 (.norm false [7]) l94_0 (Zna a W n y)=some r:=by
 refine zay _ _ (fun y=>a.length-W-y.1) _ ?_
 rintro⟨i,m⟩ ⟨hi,hm,hv⟩
 by_cases h0:i<a.length-W
 ·left;have hWi:W+i<a.length:=by omega
  have ha:a[W+i]? = some (a[W+i]'hWi):=Ya hWi;have hx:=zam (a[W+i]'hWi);have hd:=Yo hWi;have hrep:List.replicate (a.length-W-i) (0:UInt32)=0::List.replicate (a.length-W-(i+1)) 0:=by
   rw[show a.length-W-i=a.length-W-(i+1)+1 by omega,Ya6]
  have hw:IntKind.wrap .i64 ((i:Int)+1)=((i+1:Nat):Int):=zab _ (by omega);have hw2:IntKind.wrap .i64 ((W:Int)+i)=((W+i:Nat):Int):=zab _ (by omega);have hw3:IntKind.wrap .i64 ((W:Int)+i+1)=((W+i+1:Nat):Int):=zab _ (by omega);have hg:=zua (P:=[]) (c:=0) (R:=List.replicate (a.length-W-(i+1)) 0) hm;have hmin:min n 64=n:=by omega
  have hlt1:(W:Int)+i<(a.length:Int):=by omega
  have hlt3:((W:Int)+i).toNat=W+i:=by omega
  have m1:(a[W+i]'hWi).toNat%18446744073709551616=(a[W+i]'hWi).toNat:=Y4 (by omega);have fin:∀y R:Nat,val (a.drop (W+i+1))=y+4294967296*R->val (m++[w32 (((a[W+i]'hWi).toNat+y*4294967296)/2^n%4294967296)])+4294967296^(i+1)*(val (a.drop (W+(i+1)))/2^n)=val (a.drop W)/2^n:=by
   intro y R hR;have hmod:((a[W+i]'hWi).toNat+y*4294967296)/2^n%4294967296<4294967296:=Ybl _ (by decide);have hdw:=z1m (x:=(a[W+i]'hWi).toNat) (y:=y) (R:=R) hn hx;rw[hd,zaq,hR,hdw,<-hR]at hv
   grind[zal,zaq,zb0,zah]
  by_cases h1:W+i+1<a.length
  ·have hd1:=Yo h1;have hy:=zam (a[W+i+1]'h1);have m2:(a[W+i+1]'h1).toNat%18446744073709551616=(a[W+i+1]'h1).toNat:=Y4 (by omega);have m3:(a[W+i+1]'h1).toNat*4294967296%18446744073709551616=(a[W+i+1]'h1).toNat*4294967296:=Y4 (by omega);have hor:(a[W+i]'hWi).toNat ||| (a[W+i+1]'h1).toNat*4294967296=(a[W+i]'hWi).toNat+(a[W+i+1]'h1).toNat*4294967296:=by
    have:=z54 (a:=(a[W+i]'hWi).toNat) (b:=(a[W+i+1]'h1).toNat) (n:=32) (by simp)
    grind
   have m4:((a[W+i]'hWi).toNat+(a[W+i+1]'h1).toNat*4294967296)%18446744073709551616=(a[W+i]'hWi).toNat+(a[W+i+1]'h1).toNat*4294967296:=Y4 (by omega);have hs1:=znm (P:=[]) (c:=0) (R:=List.replicate (a.length-W-(i+1)) 0) (w32 (((a[W+i]'hWi).toNat+(a[W+i+1]'h1).toNat*4294967296)/2^n%4294967296)) hm;have hlt2:(W:Int)+i+1<(a.length:Int):=by omega
   have hlt4:((W:Int)+i+1).toNat=W+i+1:=by omega
   refine⟨(i+1,m++[w32 (((a[W+i]'hWi).toNat+(a[W+i+1]'h1).toNat*4294967296)/2^n%4294967296)]),⟨h0,by grind,fin _ (val (a.drop (W+i+1+1))) (by rw[hd1,zaq])⟩,by omega,?_⟩;simp at hg;simp[zi1]at hs1;simp -implicitDefEqProofs[l94_0,Zna,h0,ha,hrep,hw,hw2,hw3,hg,hs1,zi1,hmin,hlt1,hlt2,hlt3,hlt4,m1,m2,m3,m4,hor,h1]
  ·have hs1:=znm (P:=[]) (c:=0) (R:=List.replicate (a.length-W-(i+1)) 0) (w32 ((a[W+i]'hWi).toNat/2^n%4294967296)) hm;have hlt2:¬ (W:Int)+i+1<(a.length:Int):=by omega
   have f0:=fin 0 0 (by rw[Ybk (by omega),zb0,Ybe]);refine⟨(i+1,m++[w32 ((a[W+i]'hWi).toNat/2^n%4294967296)]),⟨h0,by grind,f0⟩,by omega,?_⟩;simp at hg;simp[zi1]at hs1;simp -implicitDefEqProofs[l94_0,Zna,h0,ha,hrep,hw,hw2,hw3,hg,hs1,zi1,hmin,hlt1,hlt2,hlt3,m1]
 ·right;have:i=a.length-W:=by omega
  subst this;rw[show W+(a.length-W)=a.length by omega,Yaf,zb0,Nat.zero_div,Ybe,Yaj]at hv;refine⟨_,⟨m++List.replicate (a.length-W-(a.length-W)) 0,rfl,by grind,by grind⟩,?_,?_⟩<;>simp -implicitDefEqProofs[l94_0,Zna]
end
section
variable{T:Tbl}[Zr T][Zw T]
def z1j(a:List UInt32)(n:Nat)(h:n/32<=a.length):val (a.drop (n/32))/2^(n%32)=val a/2^n:=by
 rw[<-z9h a _ h,Ycl,z9g,<-Ycs,show 32*(n/32)+n%32=n by omega]
def z1k(a:List UInt32)(n:Nat)(hn:n<=100000000)(hl:a.length<=100000):Za T 94 [.sl (Zb a) .an,.i .i64 n]=some (.sl (Zb (ofN (val a/2^n))) .an):=by
 have hn2:¬ (n:Int)<0:=by omega
 have hq:(n:Int).tdiv 32=(n:Int)/32:=Yd1 (by omega);have hm2:(n:Int).tmod 32=(n:Int)%32:=Yd2 (by omega);have w1:IntKind.wrap .i64 ((n:Int)/32)=(n:Int)/32:=zab (n/32) (by omega);rcases Yy (n/32) a.length with h0 | h0
 ·obtain⟨_,⟨m,rfl,hm,hv⟩,hr⟩:=z1i (T:=T) a (n/32) (n%32) (Ybl _ (by decide)) (by omega) (by omega) (0,[]) ⟨Yx _,rfl,by rw[zb0,Yeq,Ydy,Yad,Yaj]⟩;rw[z1j a n (by omega)]at hv;have hnm:=zbo (T:=T) m (by omega);rw[hv]at hnm;unfold Zna at hr;have hsub:((a.length-n/32:Nat):Int)=(a.length:Int)-(n:Int)/32:=by omega
  simp[hsub]at hr;have p0:¬ (a.length:Int)<=(n:Int)/32:=by omega
  have w2:IntKind.wrap .i64 ((a.length:Int)-(n:Int)/32)=(a.length:Int)-(n:Int)/32:=zab _ (by omega);have p1:(n:Int)/32<=(a.length:Int):=by omega
  have p2:(a.length:Int)-(n:Int)/32<=4294967296:=by omega
  have p3:((a.length:Int)-(n:Int)/32).toNat=a.length-n/32:=by omega
  have htk:List.take (a.length-n/32) m=m:=Yc (by omega);have p5:a.length<=a.length-n/32+n/32:=by omega
  rw[zaa Zw.h94 rfl,b94];simp -implicitDefEqProofs[hn2,hq,hm2,w1,w2,p0,p5,p1,p2,p3,hsub,hr,hnm,htk,hm]
 ·have hz:val a/2^n=0:=by
   refine Yb4 (Yt (za6 a) ?_);rw[z9g];exact Yag (by decide) (by omega)
  have p0:(a.length:Int)<=(n:Int)/32:=by omega
  rw[hz,zg7,zaa Zw.h94 rfl,b94];simp -implicitDefEqProofs[hn2,hq,hm2,w1,p0]
end
section
def l90_0:AX:=QZ "6TlRIrngFvo3x.f383EK.VP6rGhZ5WDg3bNLHOTK7BpddtXN_0Bzu.SaliHJVYTHTl_HvDt6OtI56a"
def b90:AX:=(fun p0=>QY [p0] [] "2HIZwJWtWUWx74bcQc9aoyfMr_ljJDrSrRbegwAVERQTEEe9RL5rcZjJ95OBNbrWg8VQgw4fkRmokXl9xXwZNC") l90_0
def l119_0:AX:=QZ "5S0o4FjH573G9cCcFN_4m9tMxA0mQKuJ6xEDlXgDbXngSxht06XoJLCjqqRmTW01hu_7QijyeGTArE2xc3PvT5HS3y9CRcH299W0rEXuR2bC5v2qwxkasGVtRTQj49YLK2gzQs2aDSNMgvS2_"
def b119:AX:=(fun p0=>QY [p0] [(u32 4294967295)] "6QYF6m.UZ6hFfwfbkx315g9C9qSDDAESwwvqfbkzp4SQAyB7Dj5MAoJ1asLBZtqdUdgQtwAOmiSbubLnIYA9gPMCZpoaSpOEpxp3_vBF.iUKUM28QKv6TynqvF1KC4YklNUe.M2DcMCK.tNZvoZ3") l119_0
def l120_0:AX:=QZ "00on.IRPNV.owTlpfaB8XiAF0.WQ6fPXfsovbZ8BVT3NL1fZCWV3z2kz1t3JwQ8_cBltBxj14Jsx0qxJX0J8j_cKGmQzzk0_NLVEJiVlPI3KqzvL1kQBcRfn9pDCq8_fRkx41uv_"
def b120:AX:=(fun p0=>QY [p0] [] "uBsJBq1owwUzgAUy9amf5fusH11RVRhddvKJ5h_FZCMaY7dLfmtuiINC_6l_RA_hJqDFsuO3wTcGhCoLT.3EeMhjcEq7lJS_f7i5XCrIBQkm") l120_0
def l121_0:AX:=QZ "1ykG8ACghQPtDtYEpCPWb63IjMmXuEZcd0LifHrceVfTNKXGg9UvFmLjP6hbN2inBN_nRg4eW02BuZN5g8mVQ5omph2rpz_"
def b121:AX:=(fun p0=>QY [p0] [] "0c7vg27oeM103FSgawGnrV7Dr5ni4JTfAhmC2Um22RW_0OH5kG") l121_0
def l93_0:AX:=QZ "2HLMMbGnwdRoUx4YdBKu0NccJZ5X6KcqwJEPuKmOm_ZFuDlsVJiIm6_mL9CksMxHDlLeIWsdJKnnOoeb84hY7EII.qKMcI.jChW9ucXldDAUULJnqw0defo9NBbyCsR8Kjs83zYvULVXM2zbcF.9IZ16DVf5T2b"
def b93:AX:=(fun p0=>QY [p0] [] "4pT2nPfaTJciMXh1OIB4raKrxyWDWhEqC0Fsqsc7IJC7y3dA5KLp9bphaUXm08q04") l93_0
abbrev row90:AFx:=⟨2,37,[.t 4,.t 5,.t 6],b90,none,false⟩
abbrev row119:AFx:=⟨5,76,[.t 10],b119,none,false⟩
abbrev row120:AFx:=⟨4,66,[.t 8],b120,(some [true,false,false,false]),false⟩
abbrev row121:AFx:=⟨3,44,[],b121,(some [true,false,false]),false⟩
abbrev row93:AFx:=⟨2,70,[.t 4],b93,(some [true,false]),false⟩
class Zq (T:Tbl):Prop where
 h90:Tr T 90=some row90
 h119:Tr T 119=some row119
 h120:Tr T 120=some row120
 h121:Tr T 121=some row121
 h93:Tr T 93=some row93
attribute [simp] Zq.h90 Zq.h119 Zq.h120 Zq.h121 Zq.h93
end
def zng{m:List UInt32}{j:Nat}(w:UInt32):(List.replicate (j+1) 0++m).set j w=List.replicate j 0++w::m:=by
 rw[List.set_append_left j w (by simp),Ycw,Ya1 j w (by simp)];simp
def znh{m:List UInt32}{j:Nat}:(List.replicate (j+1) (0:UInt32)++m)[j]? = some 0:=by
 rw[Yl (by simp),Yax,if_pos (by omega)]
section
variable{T:Tbl}[Zr T][Zw T][Zv T][Zq T]
def Zno(a:List UInt32)(x:Nat)(y:Nat×Nat×List UInt32):St:=
 ⟨[(0,.sl (Zb a) .an),(1,u32 x),(4,.bs (.loc 12) 1 1 0 a.length),(5,u32 y.2.1),(7,.i .i64 ((y.1:Int)-1))],[(.loc 12,⟨1,.own,1,Zb (List.replicate y.1 0++y.2.2)⟩)],3⟩
end
section
variable{T:Tbl}[Zr T]
def z8x(a:List UInt32)(x:Nat)(hx:x<4294967296)(hl:a.length<=1000000):∀y:Nat×Nat×List UInt32,
  (y.1<=a.length/\y.2.1<x/\y.2.2.length=a.length-y.1/\val (a.drop y.1)=x*val y.2.2+y.2.1) ->
  ∃r,(∃(c:Nat) (m:List UInt32),r=(Ex.n,(⟨[(4,.bs (.loc 12) 1 1 0 a.length),(5,u32 c)],[(.loc 12,⟨1,.own,1,Zb m⟩)],3⟩:St)) /\
   m.length=a.length/\c<x/\val a=x*val m+c)/\Zx T 0 0 (.norm false [4,5]) l90_0 (Zno a x y)=some r:=by
 refine zay _ _ (fun y=>y.1) _ ?_
 rintro⟨k,c,m⟩ ⟨hk,hc,hm,hv⟩
 simp only at hk hc hm hv;cases k with
 | zero=>
  right;refine⟨_,⟨c,m,rfl,by omega,hc,hv⟩,?_,?_⟩<;>simp -implicitDefEqProofs[l90_0,Zno]
 | succ j=>
  left;have hja:j<a.length:=by omega
  have hy:=zam (a[j]'hja);have hd:=Yo hja;have hw:IntKind.wrap .i64 ((j:Int)-1)=(j:Int)-1:=zab _ (by omega);have hs:=zng (m:=m) (j:=j) (w32 ((c*4294967296+(a[j]'hja).toNat)/x));have hq:(c*4294967296+(a[j]'hja).toNat)/x<4294967296:=by
   refine Ybh ?_;omega
  have hdv:=zpv (T:=T) c (a[j]'hja).toNat x hc hy hx;refine⟨(j,(c*4294967296+(a[j]'hja).toNat)%x,w32 ((c*4294967296+(a[j]'hja).toNat)/x)::m),⟨by omega,Ybl _ (by omega),by grind,?_⟩,Y2 j,?_⟩
  ·grind[zaq,zah,Nat.div_add_mod]
  ·simp -implicitDefEqProofs[l90_0,Zno,hja,hw,hs,znh,hdv,zbw _ _ _ hq]
end
section
variable{T:Tbl}[Zr T][Zq T]
def zp0(a:List UInt32)(x:Nat)(hx:x<4294967296)(h0:0<x)(hl:a.length<=1000000) :
  Za T 90 [.sl (Zb a) .an,u32 x]=some (.tup [.sl (Zb (ofN (val a/x))) .an,u32 (val a%x),.b true]):=by
 obtain⟨_,⟨c,m,rfl,hm,hc,hv⟩,hr⟩:=z8x (T:=T) a x hx hl (a.length,0,[]) ⟨Yh _,h0,by simp,by rw[Yaf,zb0,Ybe,Yad]⟩;have e1:val a/x=val m:=by grind[Nat.mul_add_div,Nat.div_eq_of_lt]
 have e2:val a%x=c:=by rw[hv,Nat.mul_add_mod,Y4 hc]
 have hnm:=zbo (T:=T) m (by omega);unfold Zno at hr;simp at hr;have hx0:x≠0:=by omega
 have w1:IntKind.wrap .i64 ((a.length:Int)-1)=(a.length:Int)-1:=zab _ (by omega);have p1:(a.length:Int)<=4294967296:=by omega
 have htk:List.take a.length m=m:=Yc (by omega);rw[e1,e2,zaa Zq.h90 rfl,b90];simp -implicitDefEqProofs[hr,hx0,w1,p1,htk,hm,hnm]
end
section
variable{T:Tbl}[Zr T][Zw T][Zv T][Zq T]
def zp1{p M w X s t y v D D':Nat}(h:M+X*t=s+p*D)(e:w+X*y+D=v+4294967296*D'):(M+p*w)+X*(t+p*y)=(s+p*v)+p*4294967296*D':=by
 grind
def Znp(P S b:List UInt32)(x:Nat)(y:Nat×(Nat×Nat)×List UInt32):St:=
 ⟨[(0,.bs (.bor 0) 0 1 0 (P.length+S.length)),(1,.i .i64 P.length),(2,.sl (Zb b) .an),(3,u32 x),(9,u32 y.2.1.1),(10,u32 y.2.1.2),(15,.sl (Zb b) .an),(16,.i .i64 b.length),(17,.i .i64 y.1)],
  [(.bor 0,⟨0,.own,1,Zb (P++(y.2.2++S.drop y.1))⟩)],4⟩
end
section
variable{T:Tbl}[Zr T]
def z8y(P S b:List UInt32)(x:Nat)(hx:x<4294967296)(hS:b.length<S.length)(hl:P.length+S.length<=1000000):∀y:Nat×(Nat×Nat)×List UInt32,
  (y.1<=b.length/\y.2.1.1<4294967296/\y.2.1.2<=1/\y.2.2.length=y.1/\val y.2.2+x*val (b.take y.1)=val (S.take y.1)+4294967296^y.1*(y.2.1.2+y.2.1.1)) ->
  ∃r,(∃(C B:Nat) (m:List UInt32),r=(Ex.n,(⟨[(0,.bs (.bor 0) 0 1 0 (P.length+S.length)),(1,.i .i64 P.length),(2,.sl (Zb b) .an),(9,u32 C),(10,u32 B)],[(.bor 0,⟨0,.own,1,Zb (P++(m++S.drop b.length))⟩)],4⟩:St)) /\
   C<4294967296/\B<=1/\m.length=b.length/\val m+x*val b=val (S.take b.length)+4294967296^b.length*(B+C))/\Zx T 1 0 (.norm false [0,1,2,9,10]) l120_0 (Znp P S b x y)=some r:=by
 refine zay _ _ (fun y=>b.length-y.1) _ ?_
 rintro⟨i,⟨C,B⟩,m⟩ ⟨hi,hC,hB,hm,hv⟩
 simp only at hi hC hB hm hv;by_cases h0:i<b.length
 ·left;have hb:b[i]? = some (b[i]'h0):=Ya h0;have hiS:i<S.length:=by omega
  have hs:S[i]? = some (S[i]'hiS):=Ya hiS;have hg:=zhx (P:=P) hm hiS;have hw:IntKind.wrap .i64 ((i:Int)+1)=((i+1:Nat):Int):=zab _ (by omega);have hw2:IntKind.wrap .i64 ((P.length:Int)+i)=((P.length+i:Nat):Int):=zab _ (by omega);have hlt2:(P.length:Int)+i<(P.length:Int)+S.length:=by omega
  have hlb:=zam (b[i]'h0);have hls:=zam (S[i]'hiS);have hmul:=zma hx hlb;have c1:=zkk (T:=T) x (b[i]'h0).toNat C 0 hx hlb hC (by decide);rw[Yaj]at c1;obtain⟨lo,hlo⟩:∃lo,lo=(x*(b[i]'h0).toNat+C)%4294967296:=⟨_,rfl⟩;obtain⟨C',hC'⟩:∃C',C'=(x*(b[i]'h0).toNat+C)/4294967296:=⟨_,rfl⟩;rw[<-hlo,<-hC']at c1;have c2:=zg4 (T:=T) (S[i]'hiS).toNat lo B hls (by omega) (by omega);obtain⟨w,hwd⟩:∃w,w=((S[i]'hiS).toNat+8589934592-(lo+B))%4294967296:=⟨_,rfl⟩;obtain⟨B',hB'⟩:∃B',B'=2-((S[i]'hiS).toNat+8589934592-(lo+B))/4294967296:=⟨_,rfl⟩;rw[<-hwd,<-hB']at c2;have hwl:w<4294967296:=by omega
  have hset:=zhy (P:=P) (w32 w) hm hiS;refine⟨(i+1,(C',B'),m++[w32 w]),⟨h0,by grind,by simp only;omega,by grind,?_⟩,by omega,?_⟩
  ·simp only;rw[zal,zag hb,zag hs,Yap,hm,zaq,zb0,Ybe,Yaj,zah hwl];exact zp1 hv (by omega)
  ·simp -implicitDefEqProofs[l120_0,Znp,h0,hw,hw2,hlt2,hg,c1,c2,hset,zbw _ _ _ hwl]
 ·right;have:i=b.length:=by omega
  subst this;rw[Yc (Yh b.length)]at hv;refine⟨_,⟨C,B,m,rfl,hC,hB,hm,hv⟩,?_,?_⟩<;>simp -implicitDefEqProofs[l120_0,Znp]
end
section
variable{T:Tbl}[Zr T][Zq T]
def z0w(P S b:List UInt32)(x:Nat)(hx:x<4294967296)(hS:b.length<S.length)(hl:P.length+S.length<=1000000) :
  ∃(B:Nat) (m:List UInt32),B<=1/\m.length=b.length+1/\val m+x*val b=val (S.take (b.length+1))+4294967296^(b.length+1)*B /\
   Z1 T 120 [.bs (.bor 0) 0 1 0 (P.length+S.length),.i .i64 P.length,.sl (Zb b) .an,u32 x] [(.bor 0,⟨0,.own,1,Zb (P++S)⟩)] =
    some (.b (decide (0<B)),[(.bor 0,⟨0,.own,1,Zb (P++(m++S.drop (b.length+1)))⟩)]):=by
 obtain⟨_,⟨C,B,m,rfl,hC,hB,hm,hv⟩,hr⟩:=z8y (T:=T) P S b x hx hS hl (0,(0,0),[]) ⟨Yx _,Nat.zero_lt_succ _,Yx _,rfl,by simp⟩;unfold Znp at hr;simp at hr;have hs:S[b.length]? = some (S[b.length]'hS):=Ya hS;have hls:=zam (S[b.length]'hS);have hg:=zhx (P:=P) hm hS;have hw2:IntKind.wrap .i64 ((P.length:Int)+b.length)=((P.length+b.length:Nat):Int):=zab _ (by omega);have hlt2:(P.length:Int)+b.length<(P.length:Int)+S.length:=by omega
 have c2:=zg4 (T:=T) (S[b.length]'hS).toNat C B hls hC (by omega);obtain⟨w,hwd⟩:∃w,w=((S[b.length]'hS).toNat+8589934592-(C+B))%4294967296:=⟨_,rfl⟩;obtain⟨B',hB'⟩:∃B',B'=2-((S[b.length]'hS).toNat+8589934592-(C+B))/4294967296:=⟨_,rfl⟩;rw[<-hwd,<-hB']at c2;have hwl:w<4294967296:=by omega
 have hset:=zhy (P:=P) (w32 w) hm hS;refine⟨B',m++[w32 w],by omega,by grind,?_,?_⟩
 ·rw[zal,zag hs,Yap,hm,zaq,zb0,Ybe,Yaj,zah hwl];have:=zp1 (y:=0) (w:=w) (v:=(S[b.length]'hS).toNat) (D':=B') hv (by omega);omega
 ·rw[zad Zq.h120 rfl,b120];simp -implicitDefEqProofs[hr,hw2,hlt2,hg,c2,hset,zbw _ _ _ hwl]
end
section
variable{T:Tbl}[Zr T][Zw T][Zv T][Zq T]
def zp2{p M w s t y v D D':Nat}(h:M+p*D=s+t)(e:w+4294967296*D'=v+y+D):(M+p*w)+p*4294967296*D'=(s+p*v)+(t+p*y):=by
 grind
def Znq(P S b:List UInt32)(y:Nat×Nat×List UInt32):St:=
 ⟨[(0,.bs (.bor 0) 0 1 0 (P.length+S.length)),(1,.i .i64 P.length),(2,.sl (Zb b) .an),(6,u32 y.2.1),(9,.sl (Zb b) .an),(10,.i .i64 b.length),(11,.i .i64 y.1)],
  [(.bor 0,⟨0,.own,1,Zb (P++(y.2.2++S.drop y.1))⟩)],4⟩
end
section
variable{T:Tbl}[Zr T]
def z8z(P S b:List UInt32)(hS:b.length<S.length)(hl:P.length+S.length<=1000000):∀y:Nat×Nat×List UInt32,
  (y.1<=b.length/\y.2.1<=1/\y.2.2.length=y.1/\val y.2.2+4294967296^y.1*y.2.1=val (S.take y.1)+val (b.take y.1)) ->
  ∃r,(∃(C:Nat) (m:List UInt32),r=(Ex.n,(⟨[(0,.bs (.bor 0) 0 1 0 (P.length+S.length)),(1,.i .i64 P.length),(2,.sl (Zb b) .an),(6,u32 C)],[(.bor 0,⟨0,.own,1,Zb (P++(m++S.drop b.length))⟩)],4⟩:St)) /\
   C<=1/\m.length=b.length/\val m+4294967296^b.length*C=val (S.take b.length)+val b)/\Zx T 1 0 (.norm false [0,1,2,6]) l121_0 (Znq P S b y)=some r:=by
 refine zay _ _ (fun y=>b.length-y.1) _ ?_
 rintro⟨i,C,m⟩ ⟨hi,hC,hm,hv⟩
 simp only at hi hC hm hv;by_cases h0:i<b.length
 ·left;have hb:b[i]? = some (b[i]'h0):=Ya h0;have hiS:i<S.length:=by omega
  have hs:S[i]? = some (S[i]'hiS):=Ya hiS;have hg:=zhx (P:=P) hm hiS;have hw:IntKind.wrap .i64 ((i:Int)+1)=((i+1:Nat):Int):=zab _ (by omega);have hw2:IntKind.wrap .i64 ((P.length:Int)+i)=((P.length+i:Nat):Int):=zab _ (by omega);have hlt2:(P.length:Int)+i<(P.length:Int)+S.length:=by omega
  have hlb:=zam (b[i]'h0);have hls:=zam (S[i]'hiS);have c2:=ze6 (T:=T) (S[i]'hiS).toNat (b[i]'h0).toNat C hls hlb (by omega);obtain⟨w,hwd⟩:∃w,w=((S[i]'hiS).toNat+(b[i]'h0).toNat+C)%4294967296:=⟨_,rfl⟩;obtain⟨C',hC'⟩:∃C',C'=((S[i]'hiS).toNat+(b[i]'h0).toNat+C)/4294967296:=⟨_,rfl⟩;rw[<-hwd,<-hC']at c2;have hwl:w<4294967296:=by omega
  have hset:=zhy (P:=P) (w32 w) hm hiS;refine⟨(i+1,C',m++[w32 w]),⟨h0,by grind,by grind,?_⟩,by omega,?_⟩
  ·simp only;rw[zal,zag hb,zag hs,Yap,hm,zaq,zb0,Ybe,Yaj,zah hwl];exact zp2 hv (by omega)
  ·simp -implicitDefEqProofs[l121_0,Znq,h0,hw,hw2,hlt2,hg,c2,hset,zbw _ _ _ hwl]
 ·right;have:i=b.length:=by omega
  subst this;rw[Yc (Yh b.length)]at hv;refine⟨_,⟨C,m,rfl,hC,hm,hv⟩,?_,?_⟩<;>simp -implicitDefEqProofs[l121_0,Znq]
end
section
variable{T:Tbl}[Zr T][Zq T]
def z0x(P S b:List UInt32)(hS:b.length<S.length)(hl:P.length+S.length<=1000000) :
  ∃(D:Nat) (m:List UInt32),D<=1/\m.length=b.length+1/\val m+4294967296^(b.length+1)*D=val (S.take (b.length+1))+val b /\
   Z1 T 121 [.bs (.bor 0) 0 1 0 (P.length+S.length),.i .i64 P.length,.sl (Zb b) .an] [(.bor 0,⟨0,.own,1,Zb (P++S)⟩)] =
    some (.tup [],[(.bor 0,⟨0,.own,1,Zb (P++(m++S.drop (b.length+1)))⟩)]):=by
 obtain⟨_,⟨C,m,rfl,hC,hm,hv⟩,hr⟩:=z8z (T:=T) P S b hS hl (0,0,[]) ⟨Yx _,Yx _,rfl,by simp⟩;unfold Znq at hr;simp at hr;have hs:S[b.length]? = some (S[b.length]'hS):=Ya hS;have hls:=zam (S[b.length]'hS);have hg:=zhx (P:=P) hm hS;have hw2:IntKind.wrap .i64 ((P.length:Int)+b.length)=((P.length+b.length:Nat):Int):=zab _ (by omega);have hlt2:(P.length:Int)+b.length<(P.length:Int)+S.length:=by omega
 obtain⟨w,hwd⟩:∃w,w=((S[b.length]'hS).toNat+C)%4294967296:=⟨_,rfl⟩;have hwl:w<4294967296:=by omega
 have hset:=zhy (P:=P) (w32 w) hm hS;refine⟨((S[b.length]'hS).toNat+C)/4294967296,m++[w32 w],by omega,by grind,?_,?_⟩
 ·rw[zal,zag hs,Yap,hm,zaq,zb0,Ybe,Yaj,zah hwl];have:=zp2 (y:=0) (w:=w) (v:=(S[b.length]'hS).toNat) (D':=((S[b.length]'hS).toNat+C)/4294967296) hv (by omega);omega
 ·rw[zad Zq.h121 rfl,b121];simp -implicitDefEqProofs[hr,hw2,hlt2,hg,<-hwd,hset,zbw _ _ _ hwl]
end
def zki(q b1 b0:Nat):q*(b1*4294967296+b0)=q*b1*4294967296+q*b0:=by
 rw[Yar q,<-Ya3 q]
def zna{a2 a1 a0 b1 b0 q r:Nat}(h:q*b1+r=a2*4294967296+a1)(hle:q*b0<=r*4294967296+a0) :
  q*(b1*4294967296+b0)<=(a2*4294967296+a1)*4294967296+a0:=by
 refine Ye (Ycp (zki q b1 b0)) ?_;revert h hle;generalize q*b1=u;generalize q*b0=v;omega
def z3o{a2 a1 a0 b1 b0 q r:Nat}(h:q*b1+r=a2*4294967296+a1)(hgt:r*4294967296+a0<q*b0) :
  (a2*4294967296+a1)*4294967296+a0<q*(b1*4294967296+b0):=by
 refine Nat.lt_of_lt_of_eq ?_ (zki q b1 b0).symm;revert h hgt;generalize q*b1=u;generalize q*b0=v;omega
def zz9{q b0 r a0:Nat}(h0:a0<4294967296):(q*b0/4294967296<r\/q*b0/4294967296=r/\q*b0%4294967296<=a0)↔q*b0<=r*4294967296+a0:=by
 generalize q*b0=m;omega
section
variable{T:Tbl}[Zr T][Zw T][Zv T][Zq T]
def Zja(a0 b1 b0:Nat)(y:Nat×Nat):St:=⟨[(2,u32 a0),(3,u32 b1),(4,u32 b0),(11,u32 y.1),(12,u32 y.2)],[],2⟩
end
section
variable{T:Tbl}[Zr T]
def z0a(a2 a1 a0 b1 b0 g:Nat)(h0:a0<4294967296)(hb1:b1<4294967296)(hb0:b0<4294967296)
  (F1:∀q,q<4294967296->g<=q->q*(b1*4294967296+b0)<=(a2*4294967296+a1)*4294967296+a0->q=g)
  (F2:∀q,(a2*4294967296+a1)*4294967296+a0<q*(b1*4294967296+b0)->g<q):∀y:Nat×Nat,
  (y.1<4294967296/\y.2<4294967296/\y.1*b1+y.2=a2*4294967296+a1/\g<=y.1) ->
  ∃r,(r=(Ex.n,(⟨[(11,u32 g)],[],2⟩:St)))/\Zx T 0 0 (.norm false [11]) l119_0 (Zja a0 b1 b0 y)=some r:=by
 refine zay _ _ (fun y=>y.1) _ ?_
 rintro⟨q,r⟩ ⟨hq,hr,hv,hg⟩
 simp only at hq hr hv hg;have c1:=zkk (T:=T) q b0 0 0 hq hb0 (by decide) (by decide);have c2:=ze6 (T:=T) r b1 0 hr hb1 (by decide);rw[Yaj]at c1;rw[Yaj]at c2;have hcmp:=zz9 (q:=q) (b0:=b0) (r:=r) h0;obtain⟨hi,hhi⟩:∃hi,hi=q*b0/4294967296:=⟨_,rfl⟩;obtain⟨lo,hlo⟩:∃lo,lo=q*b0%4294967296:=⟨_,rfl⟩;rw[<-hhi,<-hlo]at c1 hcmp;have hlol:lo<4294967296:=by omega
 have hhil:hi<4294967296:=by
  have:=zma hq hb0;omega
 by_cases hle:q*b0<=r*4294967296+a0
 ·right;have hqg:=F1 q hq hg (zna hv hle);subst hqg;have hc:=hcmp.2 hle;clear hhi hlo;rcases hc with hc | ⟨rfl,hc2⟩
  ·refine⟨_,rfl,?_,?_⟩<;>simp -implicitDefEqProofs[l119_0,Zja,c1,hc]
  ·refine⟨_,rfl,?_,?_⟩<;>simp -implicitDefEqProofs[l119_0,Zja,c1,hc2]
 ·have hgt:r*4294967296+a0<q*b0:=by omega
  have hlt:=F2 q (z3o hv hgt);have hc:¬ (hi<r\/hi=r/\lo<=a0):=fun h=>hle (hcmp.1 h);have hq1:q-1<4294967296:=by omega
  have hs:Zic q 1=q-1:=by unfold Zic;omega
  have hqb:(q-1)*b1+(r+b1)=a2*4294967296+a1:=by
   have:q*b1=(q-1)*b1+b1:=by
    rw[<-Nat.succ_mul];congr 1;omega
   omega
  by_cases hcar:4294967296<=r+b1
  ·right;have hmul:=zma hq1 hb0;have hqg:=F1 (q-1) hq1 (by omega) (zna hqb (by
    generalize (q-1)*b0=v at *
    omega))
   have m2:0<(r+b1)/4294967296:=Nat.div_pos hcar (by decide);have m3:(r+b1)/4294967296<4294967296:=by omega
   have hr2:¬ hi<r:=fun h=>hc (.inl h);clear hhi hlo;refine⟨_,rfl,?_,?_⟩<;>by_cases he:hi=r
   ·have hc3:¬ lo<=a0:=fun h=>hc (.inr ⟨he,h⟩);subst he;simp -implicitDefEqProofs[l119_0,Zja,c1,c2,hs,hc3,m2]
   ·simp -implicitDefEqProofs[l119_0,Zja,c1,c2,hs,hr2,he,m2]
   ·have hc3:¬ lo<=a0:=fun h=>hc (.inr ⟨he,h⟩);subst he;simp -implicitDefEqProofs[l119_0,Zja,c1,c2,hs,hc3,m2,hqg]
   ·simp -implicitDefEqProofs[l119_0,Zja,c1,c2,hs,hr2,he,m2,hqg]
  ·left;refine⟨(q-1,r+b1),⟨hq1,by simp only;omega,hqb,by simp only;omega⟩,by simp only;omega,?_⟩;have m1:(r+b1)%4294967296=r+b1:=Y4 (by omega);have m2:(r+b1)/4294967296=0:=Yb4 (by omega);rw[m1,m2]at c2;have hr2:¬ hi<r:=fun h=>hc (.inl h);clear hhi hlo;by_cases he:hi=r
   ·have hc3:¬ lo<=a0:=fun h=>hc (.inr ⟨he,h⟩);subst he;simp -implicitDefEqProofs[l119_0,Zja,c1,c2,hs,hc3]
   ·simp -implicitDefEqProofs[l119_0,Zja,c1,c2,hs,hr2,he]
end
section
variable{T:Tbl}[Zr T][Zw T][Zv T][Zq T]
def z8p{n two:Nat}(h:0<two):(∀q,q<4294967296->min 4294967295 (n/two)<=q->q*two<=n->q=min 4294967295 (n/two))/\(∀q,n<q*two->min 4294967295 (n/two)<q):=by
 constructor
 ·intro q hq hg hle;have:=(Yb8 h).2 hle;omega
 ·intro q hlt;have:=(Ybc h).2 hlt;omega
def z3p{A a0 b1 b0:Nat}(h0:a0<4294967296)(hp:0<b1):A*4294967296+a0<(A/b1+1)*(b1*4294967296+b0):=by
 have h1:A<(A/b1+1)*b1:=by rw[Yas];exact Nat.lt_mul_div_succ A hp
 refine Nat.lt_of_lt_of_eq ?_ (zki (A/b1+1) b1 b0).symm;generalize (A/b1+1)*b1=u at *
 generalize (A/b1+1)*b0=v at *
 omega
end
section
variable{T:Tbl}[Zr T][Zq T]
def zwb(a2 a1 a0 b1 b0:Nat)(h2:a2<4294967296)(h1:a1<4294967296)(h0:a0<4294967296)(hb1:b1<4294967296)(hb0:b0<4294967296)(hp:0<b1) :
  Za T 119 [u32 a2,u32 a1,u32 a0,u32 b1,u32 b0]=some (u32 (min 4294967295 (((a2*4294967296+a1)*4294967296+a0)/(b1*4294967296+b0)))):=by
 obtain⟨F1,F2⟩:=z8p (n:=(a2*4294967296+a1)*4294967296+a0) (two:=b1*4294967296+b0) (by omega);have hgle:=Yer 4294967295 (((a2*4294967296+a1)*4294967296+a0)/(b1*4294967296+b0));generalize min 4294967295 (((a2*4294967296+a1)*4294967296+a0)/(b1*4294967296+b0))=g at *
 by_cases hlt:a2<b1
 ·have hd:=zpv (T:=T) a2 a1 b1 hlt h1 hb1;have hql:(a2*4294967296+a1)/b1<4294967296:=z51 hlt h1;have hrl:(a2*4294967296+a1)%b1<b1:=Ybl _ hp;have hdm:=Ycb (a2*4294967296+a1) b1;rw[Yas]at hdm;obtain⟨_,rfl,hr⟩:=z0a (T:=T) a2 a1 a0 b1 b0 g h0 hb1 hb0 F1 F2 ((a2*4294967296+a1)/b1,(a2*4294967296+a1)%b1) ⟨hql,by simp only;omega,hdm,by have:=F2 _ (z3p (A:=a2*4294967296+a1) (b0:=b0) h0 hp);simp only;omega⟩;unfold Zja at hr;simp at hr;rw[zaa Zq.h119 rfl,b119];simp -implicitDefEqProofs[hd,hr]
 ·have hd:=zwe (T:=T) a2 a1 b1 (by omega) h2 h1;have ha:=ze6 (T:=T) a1 b1 0 h1 hb1 (by decide);rw[Yaj]at ha;by_cases hbig:b1<a2\/4294967296<=a1+b1
  ·have hg:4294967295=g:=by
    refine F1 4294967295 (by decide) hgle ?_;refine zna (r:=a2*4294967296+a1-4294967295*b1) (by omega) ?_;omega
   subst hg;rw[zaa Zq.h119 rfl,b119];rcases Yy b1 a2 with hb | hb
   ·simp -implicitDefEqProofs[hd,ha,hb]
   ·have hc:4294967296<=a1+b1:=by omega
    have hb2:¬ b1<a2:=by omega
    have m2:0<(a1+b1)/4294967296:=Nat.div_pos hc (by decide);simp -implicitDefEqProofs[hd,ha,hb2,m2]
  ·have hb2:¬ b1<a2:=fun h=>hbig (.inl h);have hc:a1+b1<4294967296:=by omega
   have m1:(a1+b1)%4294967296=a1+b1:=Y4 hc;have m2:(a1+b1)/4294967296=0:=Yb4 hc;rw[m1,m2]at ha;obtain⟨_,rfl,hr⟩:=z0a (T:=T) a2 a1 a0 b1 b0 g h0 hb1 hb0 F1 F2 (4294967295,a1+b1) ⟨Y2 4294967295,hc,by simp only;omega,hgle⟩;unfold Zja at hr;simp at hr;have hb3:a2<=b1:=by omega
   rw[zaa Zq.h119 rfl,b119];simp -implicitDefEqProofs[hd,ha,hb2,hr]
end
def z1n{V b d three two v0 b0:Nat}(hV:V=three*d+v0)(hv:v0<d)(hb:b=two*d+b0)(hb0:b0<d)(h2:4294967296<=two)(hlt:V<4294967296*b) :
  V/b<=min 4294967295 (three/two)/\min 4294967295 (three/two)<=V/b+1:=by
 have hd:0<d:=by omega
 have htp:0<two:=by omega
 have hbp:0<b:=by
  have:=Nat.mul_pos htp hd;omega
 have hq:V/b<4294967296:=Ybh (by rw[Yas];exact hlt);have hqb:V/b*b<=V:=Nat.div_mul_le_self V b;have hqb2:V<(V/b+1)*b:=by rw[Yas];exact Nat.lt_mul_div_succ V hbp
 generalize V/b=q at *
 constructor
 ·refine Nat.le_min.2 ⟨by omega,(Yb8 htp).2 ?_⟩;have h3:q*two*d<(three+1)*d:=by
   have:q*two*d<=q*b:=by rw[hb,Yar,Ya3];omega
   rw[Ybb,Ydy];omega
  have:=Nat.lt_of_mul_lt_mul_right h3;omega
 ·generalize hx:min 4294967295 (three/two)=x;have hx1:x<=three/two:=by rw[<-hx];exact Nat.min_le_right _ _
  have hx2:x<=4294967295:=by rw[<-hx];exact Yer _ _
  have hx3:x*two<=three:=(Yb8 htp).1 hx1;rcases Yy (q+1) x with h | h
  ·exfalso;have e1:(q+2)*two<=x*two:=Yaa _ h;have e2:(q+2)*two*d<=three*d:=Yaa _ (Ye e1 hx3);have e3:(q+1)*b=(q+1)*two*d+(q+1)*b0:=by rw[hb,Yar,Ya3]
   have e4:(q+1)*b0<=(q+1)*d:=Ya5 _ (Yd4 hb0);have e5:(q+2)*two*d=(q+1)*two*d+two*d:=by rw[show q+2=(q+1)+1 from rfl,Ybb (q+1) 1 two,Ydy,Ybb]
   have e6:(q+1)*d<=two*d:=Yaa _ (by omega);omega
  ·exact h
def z3w{vA vA' t p V x r vb vm T:Nat}(h0:vA=t+p*V)(h1:vA'=t+p*r)(hV:V=vb*x+r)(hT:T=vA+p*4294967296*(vm*vb)) :
  T=vA'+p*((x+4294967296*vm)*vb):=by grind
def z0f{V b x Bo vm p:Nat}(hb:0<b)(h1:V/b<=x)(h2:x<=V/b+1)(_hp:V<p)(hm:vm<p)(hBo:Bo<=1)(h:vm+x*b=V+p*Bo) :
  (Bo=0->x=V/b/\vm=V%b)/\(Bo=1->x=V/b+1/\vm+b=V%b+p):=by
 have hd:=Ycb V b;constructor
 ·intro h0;subst h0;have hx:x=V/b:=by
   have:x*b<=V:=by omega
   have:=(Yb8 hb).2 this;omega
  grind
 ·intro h0;subst h0;have hx:x=V/b+1:=by
   grind
  grind
def z0g{vm b r p D vm':Nat}(_hr:r<p)(h:vm+b=r+p)(hm:vm'<p)(hD:D<=1)(hg:vm'+p*D=vm+b):vm'=r:=by
 rcases Ybr D with h0 | h0
 all_goals grind
def zpw{α:Type}{A:List α}{i k:Nat}(h:i=k)(hi:i<A.length)(hk:k<A.length):A[i]'hi=A[k]'hk:=by grind
def znd(A:List UInt32)(j n:Nat):val (A.drop j)=val ((A.drop j).take n)+4294967296^((A.drop j).take n).length*val (A.drop (j+n)):=by
 grind[List.take_append_drop,zal,List.drop_drop]
def zwg{q x:Nat}(h:x=q+1)(hx:x<4294967296):Zic x 1=q:=by unfold Zic;omega
def z0h{A m1:List UInt32}{j n:Nat}(hm1:m1.length=n+1)(hj:j+n<A.length) :
  (A.take j++(m1++A.drop (j+(n+1)))).take j=A.take j/\(A.take j++(m1++A.drop (j+(n+1)))).drop (j+(n+1))=A.drop (j+(n+1)) /\
  ((A.take j++(m1++A.drop (j+(n+1)))).drop j).take (n+1)=m1/\(A.take j++(m1++A.drop (j+(n+1)))).length=A.length:=by
 have htj:(A.take j).length=j:=by grind
 refine⟨?_,?_,?_,?_⟩
 ·rw[Ydn (by omega),Yc (by omega)]
 ·rw[<-Yeu,Ybt (by omega),Ybk (l:=A.take j) (by omega),Yal,Ybt (by omega),Ybk (by omega),Yal]
 all_goals grind
def z0i{D:List UInt32}{n:Nat}(h:n+2<D.length):val (D.take (n+3))=(((D[n+2]'h).toNat*4294967296+(D[n+1]'(by omega)).toNat)*4294967296+(D[n]'(by omega)).toNat)*4294967296^n+val (D.take n):=by
 grind[zag]
def z8q{D:List UInt32}{n:Nat}(h:n+1<D.length):val (D.take (n+2))=((D[n+1]'h).toNat*4294967296+(D[n]'(by omega)).toNat)*4294967296^n+val (D.take n):=by
 grind[zag]
section
variable{T:Tbl}[Zr T][Zq T]
def zwh(A b:List UInt32)(j x:Nat)(hx:x<4294967296)(hj:j+b.length<A.length)(hl:A.length<=1000000) :
  ∃(B:Nat) (m:List UInt32),B<=1/\m.length=b.length+1/\val m+x*val b=val ((A.drop j).take (b.length+1))+4294967296^(b.length+1)*B /\
   Z1 T 120 [.bs (.bor 0) 0 1 0 A.length,.i .i64 j,.sl (Zb b) .an,u32 x] [(.bor 0,⟨0,.own,1,Zb A⟩)] =
    some (.b (decide (0<B)),[(.bor 0,⟨0,.own,1,Zb (A.take j++(m++A.drop (j+(b.length+1))))⟩)]):=by
 have h1:(A.take j).length=j:=by grind
 have h2:(A.drop j).length=A.length-j:=by simp
 obtain⟨B,m,hB,hm,hv,hc⟩:=z0w (T:=T) (A.take j) (A.drop j) b x hx (by omega) (by omega)
 grind[List.take_append_drop,List.drop_drop]
end
section
variable{T:Tbl}[Zr T][Zq T]
def zwi(A b:List UInt32)(j:Nat)(hj:j+b.length<A.length)(hl:A.length<=1000000) :
  ∃(D:Nat) (m:List UInt32),D<=1/\m.length=b.length+1/\val m+4294967296^(b.length+1)*D=val ((A.drop j).take (b.length+1))+val b /\
   Z1 T 121 [.bs (.bor 0) 0 1 0 A.length,.i .i64 j,.sl (Zb b) .an] [(.bor 0,⟨0,.own,1,Zb A⟩)] =
    some (.tup [],[(.bor 0,⟨0,.own,1,Zb (A.take j++(m++A.drop (j+(b.length+1))))⟩)]):=by
 have h1:(A.take j).length=j:=by grind
 have h2:(A.drop j).length=A.length-j:=by simp
 obtain⟨D,m,hD,hm,hv,hc⟩:=z0x (T:=T) (A.take j) (A.drop j) b (by omega) (by omega);rw[h1,h2,show j+(A.length-j)=A.length by omega,Yaw,Yeu]at hc;exact⟨D,m,hD,hm,hv,hc⟩
end
section
variable{T:Tbl}[Zr T][Zw T][Zv T][Zq T]
def Zlx(b:List UInt32)(LA LQ:Nat)(y:Nat×List UInt32×List UInt32):St:=
 ⟨[(0,.bs (.bor 0) 0 1 0 LA),(1,.sl (Zb b) .an),(5,.i .i64 b.length),(6,.bs (.loc 15) 3 1 0 LQ),(7,.i .i64 ((y.1:Int)-1))],
  [(.bor 0,⟨0,.own,1,Zb y.2.1⟩),(.loc 15,⟨3,.own,1,Zb (List.replicate y.1 0++y.2.2)⟩)],5⟩
end
section
variable{T:Tbl}[Zr T][Zq T]
set_option maxHeartbeats 2000000 in
def z8r(A0 b:List UInt32)(LQ nb:Nat)(hnb:b.length=nb+2)(hb1:0<(b[nb+1]'(by omega)).toNat)(hl:A0.length<=1000000)(hA0:A0.length=LQ+b.length):∀y:Nat×List UInt32×List UInt32,
  (y.1<=LQ/\y.2.1.length=A0.length/\y.2.2.length=LQ-y.1/\val (y.2.1.drop y.1)<val b/\val A0=val y.2.1+4294967296^y.1*(val y.2.2*val b)) ->
  ∃r,(∃Q A:List UInt32,r=(Ex.n,(⟨[(6,.bs (.loc 15) 3 1 0 LQ)],[(.bor 0,⟨0,.own,1,Zb A⟩),(.loc 15,⟨3,.own,1,Zb Q⟩)],5⟩:St)) /\
   Q.length=LQ/\A.length=A0.length/\val Q=val A0/val b/\val A=val A0%val b)/\Zx T 1 0 (.norm false [6]) l93_0 (Zlx b A0.length LQ y)=some r:=by
 refine zay _ _ (fun y=>y.1) _ ?_
 rintro⟨k,A,m⟩ ⟨hk,hA,hm,hlt,hv⟩
 simp only at hk hA hm hlt hv;have hbp:0<val b:=by omega
 cases k with
 | zero=>
  right;rw[Yeq,Ydy]at hv;rw[Ybz]at hlt;refine⟨_,⟨m,A,rfl,by omega,hA,?_,?_⟩,?_,?_⟩
  ·rw[hv,Nat.add_mul_div_right _ _ hbp,Yb4 hlt,Yad]
  ·rw[hv,Nat.add_mul_mod_self_right,Y4 hlt]
  ·simp -implicitDefEqProofs[l93_0,Zlx]
  ·simp -implicitDefEqProofs[l93_0,Zlx]
 | succ j=>
  left
  -- the window
  have hD:(A.drop j).length=A.length-j:=by simp
  have hDn:nb+2<(A.drop j).length:=by omega
  have hVlt:val (A.drop j)<4294967296*val b:=by
   have:=Yo (show j<A.length by omega);rw[this,zaq];have:=zam (A[j]'(by omega));omega
  have hbB:=za6 b;rw[hnb]at hbB;have hsplit:=znd A j (nb+3);have hlen3:((A.drop j).take (nb+3)).length=nb+3:=by simp;omega
  rw[hlen3]at hsplit;have hz:val (A.drop (j+(nb+3)))=0:=by
   rcases Ybr (val (A.drop (j+(nb+3)))) with h | h
   ·exact h
   ·exfalso;have h1:=Ya5 (4294967296^(nb+3)) h;rw[Yap 4294967296 (nb+2)]at h1 hsplit;generalize 4294967296^(nb+2)=p at *
    generalize p*4294967296*val (A.drop (j+(nb+3)))=u at *
    omega
  rw[hz,Ybe,Yaj]at hsplit;have h3:=z0i hDn;have h2:=z8q (D:=b) (n:=nb) (by omega);rw[zbt (a:=b) (i:=nb+2) (by omega)]at h2;have hv0:=za6 ((A.drop j).take nb);have hb0:=za6 (b.take nb);rw[show ((A.drop j).take nb).length=nb by simp;omega]at hv0;rw[show (b.take nb).length=nb by simp;omega]at hb0;obtain⟨V,hV⟩:∃V,V=val (A.drop j):=⟨_,rfl⟩;rw[<-hV]at hsplit hVlt;rw[<-hsplit]at h3;have hg:=z1n (V:=V) (b:=val b) h3 hv0 h2 hb0 (by omega) hVlt;obtain⟨p0,hp0⟩:∃p,p=j+b.length:=⟨_,rfl⟩;obtain⟨p1,hp1⟩:∃p,p=j+(nb+1):=⟨_,rfl⟩;obtain⟨p2,hp2⟩:∃p,p=j+nb:=⟨_,rfl⟩;obtain⟨q1,hq1⟩:∃p,p=nb+1:=⟨_,rfl⟩;have c1:p0<A.length:=by omega
  have c2:p1<A.length:=by omega
  have c3:p2<A.length:=by omega
  have c4:q1<b.length:=by omega
  have c5:nb<b.length:=by omega
  have e1:(A.drop j)[nb+2]'hDn=A[p0]'c1:=Yeb.trans (zpw (by omega) _ _);have e2:(A.drop j)[nb+1]'(by omega)=A[p1]'c2:=Yeb.trans (zpw (by omega) _ _);have e3:(A.drop j)[nb]'(by omega)=A[p2]'c3:=Yeb.trans (zpw (by omega) _ _);have e4:b[nb+1]'(by omega)=b[q1]'c4:=zpw (by omega) _ _;rw[e1,e2,e3,e4]at hg;rw[e4]at hb1;have hgs:=zwb (T:=T) (A[p0]'c1).toNat (A[p1]'c2).toNat (A[p2]'c3).toNat (b[q1]'c4).toNat (b[nb]'c5).toNat (zam _) (zam _) (zam _) (zam _) (zam _) hb1;obtain⟨x,hxd⟩:∃x,x=min 4294967295 ((((A[p0]'c1).toNat*4294967296+(A[p1]'c2).toNat)*4294967296+(A[p2]'c3).toNat)/((b[q1]'c4).toNat*4294967296+(b[nb]'c5).toNat)):=⟨_,rfl⟩;rw[<-hxd]at hg hgs;have hx:x<4294967296:=by rw[hxd];exact Yd5 (Yer _ _) (by decide)
  clear hxd;obtain⟨Bo,m1,hBo,hm1,hvm1,hct⟩:=zwh (T:=T) A b j x hx (by omega) (by omega);rw[hnb,show nb+2+1=nb+3 from rfl,<-hsplit]at hvm1;have hm1l:=za6 m1;rw[hm1,hnb,show nb+2+1=nb+3 from rfl]at hm1l;have hVp:V<4294967296^(nb+3):=by
   rw[Yap 4294967296 (nb+2)];generalize 4294967296^(nb+2)=p at *
   omega
  have hpk:=z0f hbp hg.1 hg.2 hVp hm1l hBo hvm1;have hql:V/val b<4294967296:=Ybh (by rw[Yas];exact hVlt);have hzb:val (A.drop (j+(b.length+1)))=0:=by rw[hnb];exact hz
  have htj:(A.take j).length=j:=by simp;omega
  have fin:∀m2:List UInt32,m2.length=b.length+1->val m2=V%val b ->
    (A.take j++(m2++A.drop (j+(b.length+1)))).length=A0.length/\val ((A.take j++(m2++A.drop (j+(b.length+1)))).drop j)<val b /\
    val A0=val (A.take j++(m2++A.drop (j+(b.length+1))))+4294967296^j*(val (w32 (V/val b)::m)*val b):=by
   intro m2 hm2 hvm2;refine⟨by simp[hm2];omega,?_,?_⟩
   ·rw[Ybt (by omega),Ybk (by omega),Yal,zal,hzb,Ybe,Yaj,hvm2];exact Ybl _ hbp
   ·have t1:val A=val (A.take j)+4294967296^j*V:=by rw[hV];exact zqf A j (by omega)
    have t2:val (A.take j++(m2++A.drop (j+(b.length+1))))=val (A.take j)+4294967296^j*(V%val b):=by
     rw[zal,zal,hzb,Ybe,Yaj,hvm2,htj]
    rw[zaq,zah hql];exact z3w t1 t2 (Ycb V (val b)).symm hv
  clear hv hvm1 hsplit h3 h2 hg hbB hVlt hlt hzb hz hv0 hb0 hm1l hVp;have hw1:IntKind.wrap .i64 ((j:Int)-1)=(j:Int)-1:=zab _ (by omega);have hw2:IntKind.wrap .i64 ((j:Int)+b.length)=((p0:Nat):Int):=by rw[zab _ (by omega)];omega
  have hw3:IntKind.wrap .i64 ((p0:Int)-1)=((p1:Nat):Int):=by rw[zab _ (by omega)];omega
  have hw4:IntKind.wrap .i64 ((p0:Int)-2)=((p2:Nat):Int):=by rw[zab _ (by omega)];omega
  have hw5:IntKind.wrap .i64 ((b.length:Int)-1)=((q1:Nat):Int):=by rw[zab _ (by omega)];omega
  have hw6:IntKind.wrap .i64 ((b.length:Int)-2)=((nb:Nat):Int):=by rw[zab _ (by omega)];omega
  have hj1:j<LQ:=by omega
  rw[hA]at hct;have hml:(w32 (V/val b)::m).length=LQ-j:=by simp[hm];omega
  have hjb:j+b.length<A.length:=by omega
  have hnb3:nb+3=b.length+1:=by omega
  have d1:p0<A0.length:=by omega
  have d2:p1<A0.length:=by omega
  have d3:p2<A0.length:=by omega
  rcases Ybr Bo with h0 | h0
  ·obtain⟨hxq,hvm⟩:=hpk.1 h0;subst h0;subst hxq;have hset:=zng (m:=m) (j:=j) (w32 (V/val b));obtain⟨f1,f2,f3⟩:=fin m1 hm1 hvm;refine⟨(j,A.take j++(m1++A.drop (j+(b.length+1))),w32 (V/val b)::m),⟨Yd4 hj1,f1,hml,f2,f3⟩,Y2 j,?_⟩;simp -implicitDefEqProofs[l93_0,Zlx,hw1,hw2,hw3,hw4,hw5,hw6,c4,c5,d1,d2,d3,hA,hj1,hgs,hct,hset,znh,zbw _ _ _ hx]
  ·have h1:Bo=1:=by omega
   obtain⟨hxq,hvm⟩:=hpk.2 h1;subst h1;have hset:=zng (m:=m) (j:=j) (w32 (V/val b));obtain⟨t1,t2,t3,t4⟩:=z0h (A:=A) hm1 hjb;rw[hA]at t4;obtain⟨D,m2,hD,hm2,hvm2,hcg⟩:=zwi (T:=T) (A.take j++(m1++A.drop (j+(b.length+1)))) b j (by rw[t4,<-hA];exact hjb) (by rw[t4];exact hl);rw[t1,t2,t4]at hcg;rw[t3]at hvm2;have hm2l:=za6 m2;rw[hm2]at hm2l;have hVb:=Ybl V hbp;have hbq:val b<4294967296^(b.length+1):=Yt (za6 b) (Yag (by decide) (Ybf _));rw[hnb3]at hvm;have hv2:=z0g (Nat.lt_trans hVb hbq) hvm hm2l hD hvm2;have hsx:=zwg hxq hx;obtain⟨f1,f2,f3⟩:=fin m2 hm2 hv2;refine⟨(j,A.take j++(m2++A.drop (j+(b.length+1))),w32 (V/val b)::m),⟨Yd4 hj1,f1,hml,f2,f3⟩,Y2 j,?_⟩;simp -implicitDefEqProofs[l93_0,Zlx,hw1,hw2,hw3,hw4,hw5,hw6,c4,c5,d1,d2,d3,hA,hj1,hgs,hct,hsx,hcg,hset,znh,zbw _ _ _ hql]
end
section
variable{T:Tbl}[Zr T][Zq T]
def z0j(A b:List UInt32)(LQ nb:Nat)(hnb:b.length=nb+2)(hb1:0<(b[nb+1]'(by omega)).toNat)(hl:A.length<=1000000)(hA:A.length=LQ+b.length)(hlt:val (A.drop LQ)<val b) :
  ∃Q R:List UInt32,Q.length=LQ/\R.length=A.length/\val Q=val A/val b/\val R=val A%val b /\
   Z1 T 93 [.bs (.bor 0) 0 1 0 A.length,.sl (Zb b) .an] [(.bor 0,⟨0,.own,1,Zb A⟩)]=some (.bs (.loc 15) 3 1 0 LQ,[(.bor 0,⟨0,.own,1,Zb R⟩),(.loc 15,⟨3,.own,1,Zb Q⟩)]):=by
 obtain⟨_,⟨Q,R,rfl,hQ,hR,hq,hr⟩,hlp⟩:=z8r (T:=T) A b LQ nb hnb hb1 hl hA (LQ,A,[]) ⟨Yh _,rfl,by simp,hlt,by simp⟩;have hw:IntKind.wrap .i64 ((A.length:Int)-b.length)=(LQ:Int):=by rw[zab _ (by omega)];omega
 have hw1:IntKind.wrap .i64 ((LQ:Int)-1)=(LQ:Int)-1:=zab _ (by omega);have h1:(LQ:Int)<=4294967296:=by omega
 refine⟨Q,R,hQ,hR,hq,hr,?_⟩;unfold Zlx at hlp;simp at hlp;rw[zad Zq.h93 rfl,b93];simp -implicitDefEqProofs[hw,hw1,h1,hlp]
end
section
def b2071:AX:=QZ "0eN4G8t72xOoLQXFkOp4J"
def l2092_0:AX:=QZ "QLfcBhsB2yEEbvldcVhcSOGlsOGe1mkTs8tknmDaO4L6nwYlgZ3G.PBbf_K7ZNBW078hwrQ.mOSHBgiyVtXiz7KLHcz4vSupwXVR4q459ADKQd"
def b2092:AX:=(fun p0=>QY [p0] [(AV.i .i64 4096)] "1mZlAEfLIkfIDm9h7EMGo4m6tvzdXuktTX_HmT4_r4jDl.zfHkZc5HKSWnos8T_ITwnF.O3xRt0mLriHAHj40xvoZJ7xWkyPsM") l2092_0
def b62:AX:=QZ "0UUHvnfuIiSAGjNqw6EERt5fjuYooGu5nUJJoAOg9RUW3HCSbPsHqQopcWamlxtE8XVECFUNZV9f.6dmvNz2jxiYFLFqJ8AI2ZqgTgqrR3iqmLP9vT74Fnj09pIlMnjjF7yIlJxy4PEiiiryRKUr1tZOsA3utuaB.k.fXzuyky85Afm9spt04vpCiWuBie3pXl5BJ87pzC7_yseTHvaWTAz.ko3xsqqrkEJqM2fg3wJD8UEn_Mdl9.07HKHxDhNSxTJ3ilZU"
abbrev row2071:AFx:=⟨1,6,[.t 2],b2071,(some [false]),false⟩
abbrev row2092:AFx:=⟨2,57,[.t 4],b2092,(some [false,false]),false⟩
abbrev row62:AFx:=⟨2,65,[.t 4,.t 5,.t 6],b62,none,false⟩
class Zo (T:Tbl):Prop where
 h2071:Tr T 2071=some row2071
 h2092:Tr T 2092=some row2092
 h62:Tr T 62=some row62
attribute [simp] Zo.h2071 Zo.h2092 Zo.h62
end
def z80(x:Nat):x<2^Zbh x:=by
 unfold Zbh;split
 ·subst x;decide
 ·exact Yeg
def z0y{x:Nat}(h:x<4294967296):Zbh x<=32:=by
 unfold Zbh;split
 ·omega
 ·rename_i h0;have:=(Yed h0 (k:=32)).2 (by simpa using h);omega
def z52{n k:Nat}(h:(ofN n).length=k+1):4294967296^k<=n:=by
 rcases Yy n (4294967296^k) with h1 | h1
 ·have:=zap h1;omega
 ·exact h1
def zafi{b:List UInt32}{nb:Nat}(h:b.length=nb+2)(hb:b=ofN (val b)) :
  (ofN (val b*2^(32-Zbh (b[nb+1]'(by omega)).toNat))).length=nb+2:=by
 have hl:=z0y (zam (b[nb+1]'(by omega)));have hs:=z80 (b[nb+1]'(by omega)).toNat;have h1:val b=val (b.take (nb+1))+4294967296^(nb+1)*(b[nb+1]'(by omega)).toNat:=by
  have:=zag (Ya (show nb+1<b.length by omega))
  rwa [zbt (by omega)]at this
 have h2:=za6 (b.take (nb+1));rw[show (b.take (nb+1)).length=nb+1 by simp;omega]at h2;generalize (b[nb+1]'(by omega)).toNat=t at *
 refine Nat.le_antisymm (zap ?_) ?_
 ·have h3:val b<4294967296^(nb+1)*2^Zbh t:=by
   have:4294967296^(nb+1)*(t+1)<=4294967296^(nb+1)*2^Zbh t:=Ya5 _ hs;rw[Yar,Ydu]at this;omega
  have h4:2^Zbh t*2^(32-Zbh t)=4294967296:=by
   rw[<-Ycs,show Zbh t+(32-Zbh t)=32 by omega]
  have h5:=Ydz h3 (Ybs (n:=32-Zbh t) (show 0<2 by decide));rw[Ya3,h4,<-Yap]at h5;exact h5
 ·have h3:val b<=val b*2^(32-Zbh t):=Yec _ (Ybs (by decide));have:=zbm h3;rw[<-hb]at this;omega
def z81{b:List UInt32}{nb:Nat}(h:b.length=nb+2)(hb:b=ofN (val b)):0<(b[nb+1]'(by omega)).toNat:=by
 have h1:val b=val (b.take (nb+1))+4294967296^(nb+1)*(b[nb+1]'(by omega)).toNat:=by
  have:=zag (Ya (show nb+1<b.length by omega))
  rwa [zbt (by omega)]at this
 have h2:=za6 (b.take (nb+1));rw[show (b.take (nb+1)).length=nb+1 by simp;omega]at h2;have h3:4294967296^(nb+1)<=val b:=z52 (by rw[<-hb];omega);rcases Ybr (b[nb+1]'(by omega)).toNat with h0 | h0
 ·rw[h0,Ybe]at h1;omega
 ·exact h0
def zkm(l:List UInt32):val (l++[0])=val l:=by rw[zal];simp
def zafj{A b:List UInt32}{nb L:Nat}(hA:(A++[0]).length=L+b.length)(hb:b.length=nb+2)(hbo:b=ofN (val b)):val ((A++[0]).drop L)<val b:=by
 have hl:L<=A.length:=by simp at hA;omega
 rw[Ybt hl,zkm];have h1:=za6 (A.drop L);have h2:(A.drop L).length=nb+1:=by simp at hA ⊢;omega
 rw[h2]at h1;exact Yt h1 (z52 (by rw[<-hbo];omega))
section
variable{T:Tbl}[Zr T][Zo T]
def zp3(a:List UInt32)(hl:a.length<=1000000):Z1 T 2071 [.sl (Zb a) .an] [] =
  some (.bs (.fld (.loc 5) 10) 1 1 0 (ofN (val a)).length,[(.fld (.loc 5) 10,⟨1,.own,1,Zb (ofN (val a))⟩)]):=by
 have h1:=zac a;have h2:=zdc (T:=T) (ofN (val a)) 0 (by omega);simp only[Ym,Yaj,Yci,Yau]at h2;rw[zad Zo.h2071 rfl,b2071];simp -implicitDefEqProofs[zbx a (by omega),h2]
end
section
variable{T:Tbl}[Zr T][Zo T]
def zkn(a:List UInt32)(n:Nat)(hn:n<=4096)(hl:a.length<=100000):Z1 T 2092 [.sl (Zb a) .an,.i .i64 n] [] =
  some (.bs (.fld (.fld (.loc 56) 0) 6010) 1 1 0 (ofN (val a*2^n)).length,[(.fld (.fld (.loc 56) 0) 6010,⟨1,.own,1,Zb (ofN (val a*2^n))⟩)]):=by
 obtain⟨_,⟨c,m,rfl,hm,hc,hv⟩,hr⟩:=z9c (T:=T) (List.replicate (n/32) 0) a (n%32) (Ybl _ (by decide)) (by simp;omega) (0,0,[]) ⟨Yx _,Ybs (by decide),rfl,by simp⟩;have hc32:c<4294967296:=Yt hc (by
  have:2^(n%32)<=2^32:=Yag (by decide) (by omega);simpa using this)
 have hval:val (List.replicate (n/32) 0++(m++[w32 c]))=val a*2^n:=by
  rw[zal,zem,Yak,zal,hm];simp only[zaq,zb0,Ybe,Yaj,zah hc32,Yad];rw[hv,z9g,<-Ya3,<-Ycs,show 32*(n/32)+n%32=n by omega,Yas]
 have hlen:(List.replicate (n/32) 0++(m++[w32 c])).length=n/32+a.length+1:=by simp[hm];omega
 have hnm:=zp3 (T:=T) (List.replicate (n/32) 0++(m++[w32 c])) (by omega);rw[hval]at hnm;rw[show l92_0=l2092_0 from rfl]at hr;unfold Zns at hr;generalize List.replicate (n/32) 0++(m++[w32 c])=Q at *
 simp at hr;have hz:List.replicate (n/32) (0:UInt32)++w32 0::List.replicate a.length 0=List.replicate (n/32+a.length+1) 0:=by
  have:w32 0=0:=rfl;rw[this,<-Ya6,List.replicate_append_replicate,Yav]
 rw[hz]at hr;have hn2:¬ (4096:Int)<(n:Int):=by omega
 have hq:(n:Int).tdiv 32=(n:Int)/32:=Yd1 (by omega);have hm2:(n:Int).tmod 32=(n:Int)%32:=Yd2 (by omega);have w1:IntKind.wrap .i64 ((n:Int)/32)=(n:Int)/32:=zab (n/32) (by omega);have w2:IntKind.wrap .i64 ((n:Int)/32+a.length)=(n:Int)/32+a.length:=zab _ (by omega);have w3:IntKind.wrap .i64 ((n:Int)/32+a.length+1)=(n:Int)/32+a.length+1:=zab _ (by omega);have p1:(0:Int)<=(n:Int)/32+a.length+1:=by omega
 have p2:(n:Int)/32+a.length+1<=4294967296:=by omega
 have p3:((n:Int)/32+a.length+1).toNat=n/32+a.length+1:=by omega
 have htk:List.take (n/32+a.length+1) Q=Q:=Yc (by omega);rw[zad Zo.h2092 rfl,b2092];simp -implicitDefEqProofs[hn2,hq,hm2,w1,w2,w3,p1,p2,p3,hr,hnm,htk,hlen]
end
section
variable{T:Tbl}[Zr T][Zw T][Zv T][Zq T][Zo T]
def zg5(a b:List UInt32)(ha:a.length<=90000)(hb:b.length<=90000):Za T 62 [.sl (Zb a) .an,.sl (Zb b) .an] =
  some (if val b=0 then .tup [.sl [] .an,.sl [] .an,.b false] else .tup [.sl (Zb (ofN (val a/val b))) .an,.sl (Zb (ofN (val a%val b))) .an,.b true]):=by
 have hnb:=zbo (T:=T) b (by omega);have hna:=zbo (T:=T) a (by omega);have hlb:=zac b;have hla:=zac a;have hcmp:=zhw (T:=T) a (ofN (val b)) (by omega) (by omega);rw[zae]at hcmp;rw[zaa Zo.h62 rfl,b62];by_cases h0:val b=0
 ·rw[h0]at hnb;simp -implicitDefEqProofs[hnb,h0]
 ·have h0':ofN (val b)≠[]:=fun h=>h0 (zbl.1 h);have hl0:(ofN (val b)).length≠0:=fun h=>h0' (Yao h);by_cases hlt:val a<val b
  ·have hd:=Yb4 hlt;have hm:=Y4 hlt;simp -implicitDefEqProofs[hnb,h0,hl0,hcmp,zej,hlt,hna,hd,hm]
  ·rcases Yy 1 (ofN (val b)).length with h1 | h1
   ·obtain⟨b',hb'⟩:∃b',b'=ofN (val b):=⟨_,rfl⟩;have hvb:val b'=val b:=by rw[hb',zae]
    have hbo:b'=ofN (val b'):=by rw[hvb,hb']
    rw[<-hb']at hnb hcmp hl0 h1 hlb;obtain⟨nb,hnbl⟩:∃nb,b'.length=nb+2:=⟨b'.length-2,by omega⟩;have hll:=zt2 (T:=T) (b'[nb+1]'(by omega));have hbl:=z0y (zam (b'[nb+1]'(by omega)));have hup:=zafi hnbl hbo;obtain⟨s,hs⟩:∃s,s=32-Zbh (b'[nb+1]'(by omega)).toNat:=⟨_,rfl⟩;obtain⟨l,hll2⟩:∃l,l=Zbh (b'[nb+1]'(by omega)).toNat:=⟨_,rfl⟩;rw[<-hs]at hup;rw[<-hll2]at hll hs hbl;obtain⟨B,hB⟩:∃B,B=ofN (val b'*2^s):=⟨_,rfl⟩;obtain⟨A,hA⟩:∃A,A=ofN (val a*2^s):=⟨_,rfl⟩;have hua:=zkn (T:=T) a s (by omega) (by omega);have hub:=zkn (T:=T) b' s (by omega) (by omega);rw[<-hA]at hua;rw[<-hB]at hub hup;have hBo:B=ofN (val B):=by rw[hB,zae]
    have hvA:val A=val a*2^s:=by rw[hA,zae]
    have hvB:val B=val b'*2^s:=by rw[hB,zae]
    have hAB:B.length<=A.length:=by
     rw[hA,hB];exact zbm (Yaa _ (by omega))
    have hAl:A.length<=a.length+1:=by
     rw[hA];refine zap ?_;have h2:2^s<=2^32:=Yag (by decide) (by omega);rw[Yap];exact Yd5 (Ya5 _ h2) (Ydz (za6 a) (by decide))
    have hpos:=z81 (hup) hBo;obtain⟨Q,R,hQ,hR,hvQ,hvR,hlong⟩:=z0j (T:=T) (A++[0]) B (A.length+1-B.length) nb hup hpos (by simp;omega) (by simp;omega) (zafj (by simp;omega) hup hBo);rw[zkm,hvA,hvB,hvb,Nat.mul_div_mul_right _ _ (Ybs (by decide))]at hvQ;rw[zkm,hvA,hvB,hvb,Nat.mul_mod_mul_right]at hvR;have hnq:=zbo (T:=T) Q (by omega);have hAl1:(A++[(0:UInt32)]).length=A.length+1:=by simp
    rw[hAl1]at hlong hR;have hdn:=z1k (T:=T) R s (by omega) (by omega);rw[hvR,Nat.mul_div_cancel _ (Ybs (by decide))]at hdn;rw[hvQ]at hnq;obtain⟨q1,hq1⟩:∃p,p=nb+1:=⟨_,rfl⟩;have c1:q1<b'.length:=by omega
    have hwt:b'[nb+1]'(by omega)=b'[q1]'c1:=zpw (by omega) _ _;rw[hwt]at hll;have w1:IntKind.wrap .i64 ((b'.length:Int)-1)=(q1:Int):=by rw[zab _ (by omega)];omega
    have w2:IntKind.wrap .i64 (32-(l:Int))=(s:Int):=by rw[zab _ (by omega)];omega
    have c3:A.length<=4294967295:=by omega
    have c4:w32 0=0:=rfl;have c5:A.length+1<=A.length+1-B.length+B.length:=by omega
    have c2:¬ ((b'.length:Int)=1):=by omega
    have t1:List.take (A.length+1) R=R:=Yc (by omega);have t2:List.take (A.length+1-B.length) Q=Q:=Yc (by omega);simp -implicitDefEqProofs[hnb,h0,hl0,hcmp,zej,hlt,w1,w2,c1,c2,c3,c4,c5,hll,hua,hub,hlong,hnq,hdn,t1,t2,hQ,hR]
   ·have hl1:(ofN (val b)).length=1:=by omega
    obtain⟨w,hw⟩:=Yck.1 hl1;have hvb:val b=w.toNat:=by
     have:=zae (val b);rw[hw]at this;simp at this;omega
    have hwl:=zam w;have hwd:=zp0 (T:=T) a (val b) (by omega) (by omega) (by omega);have hof:=zic (T:=T) (val a%val b) (by have:=Ybl (val a) (show 0<val b by omega);omega);have m1:val a%val b%18446744073709551616=val a%val b:=Y4 (by have:=Ybl (val a) (show 0<val b by omega);omega);rw[hw]at hnb hcmp;rw[<-hvb]at hwl;simp -implicitDefEqProofs[hnb,h0,hcmp,zej,hlt,hwd,<-hvb,hof,m1]
end
def Zle(n:Nat):List UInt8:=if h:n<10 then [UInt8.ofNat (48+n)] else UInt8.ofNat (48+n%10)::Zle (n/10)
termination_by n
decreasing_by omega
def Zan(n:Nat):List UInt8:=(Zle n).reverse
def Zg9:List AV->Option UInt32
 | [.i .u32 n]=>if 0<=n/\n<4294967296 then some (w32 n.toNat) else none
 | _=>none
def prim68:List AV->Option AV
 | [.sl els .an]=>if els.length<=1000 then (els.mapM Zg9).map fun l=>.s (Zan (val l)) else none
 | _=>none
def zw4(l:List UInt32):(Zb l).mapM Zg9=some l:=by
 induction l with
 | nil=>rfl
 | cons x l ih=>
  have hx:=zam x;have h1:Zg9 [u32 x.toNat]=some x:=by
   unfold Zg9 u32;simp only;rw[if_pos ⟨by omega,by omega⟩];simp
  have e:Zb (x::l)=[u32 x.toNat]::Zb l:=rfl;rw[e,Ybm,h1,ih]
  rfl
def zfa(a:List UInt32)(h:a.length<=1000):prim68 [.sl (Zb a) .an]=some (.s (Zan (val a))):=by
 unfold prim68;simp only[zkb,h,if_true,zw4,Ybn]
def Zo2:Nat->List UInt8->Int
 | _,[]=>-1
 | k,c::r=>if c.toNat<48\/57<c.toNat\/k=60 then k else Zo2 (k+1) r
def Zlf(l:List UInt8):Int:=if l=[] then 0 else Zo2 0 l
def rd(l:List UInt8):Nat:=l.foldl (fun n c=>n*10+(c.toNat-48)) 0
def z9j(l:List UInt8):∀n,l.foldl (fun n c=>n*10+(c.toNat-48)) n=n*10^l.length+rd l:=by
 induction l with
 | nil=>intro n;simp[rd]
 | cons c l ih=>
  intro n;simp only[Ybg,Yg,rd];rw[ih,ih (0*10+(c.toNat-48)),Yap]
  grind
def z1o(a b:List UInt8):rd (a++b)=rd a*10^b.length+rd b:=by
 unfold rd;rw[Ydc,z9j]
 rfl
def z9k(a:List UInt8)(c:UInt8):rd (a++[c])=rd a*10+(c.toNat-48):=by
 rw[z1o];simp[rd]
def zmi{n:Nat}(h:n<10):Zle n=[UInt8.ofNat (48+n)]:=by rw[Zle,dif_pos h]
def zuc{n:Nat}(h:¬ n<10):Zle n=UInt8.ofNat (48+n%10)::Zle (n/10):=by rw[Zle,dif_neg h]
def zdw{n:Nat}(h:n<10):Zan n=[UInt8.ofNat (48+n)]:=by rw[Zan,zmi h];rfl
def zkr{n:Nat}(h:¬ n<10):Zan n=Zan (n/10)++[UInt8.ofNat (48+n%10)]:=by rw[Zan,zuc h];simp[Zan]
def txN(n:Nat)(s:List UInt8):List UInt8:=if n=0/\s≠[] then s else Zan n++s
def Ze0:Nat->Nat->List UInt8
 | 0,_=>[]
 | k+1,x=>Ze0 k (x/10)++[UInt8.ofNat (48+x%10)]
def u8c(l:List UInt8):List AV:=l.map fun b=>u8 b.toNat
@[simp] def zabx(l:List UInt8):(u8c l).length=l.length:=by simp[u8c]
@[simp] def zasd(l:List UInt8):(u8c l).flatMap rfC=[]:=by induction l with | nil=>rfl | cons x l ih=>simp[u8c]
@[simp] def zaoy{σn:BId->BId}{σg:Nat->Nat}(l:List UInt8):(u8c l).map (fun c=>rlC σn σg (wkA c))=u8c l:=by induction l with | nil=>rfl | cons x l ih=>simp[u8c]
@[simp] def z4w(l:List UInt8):(u8c l).all pureC=true:=by induction l with | nil=>rfl | cons x l ih=>simp[u8c]
@[simp] def zafx(l:List UInt8):(∀x,x∈u8c l->pureC x=true)=True:=by
 have:=z4w l;rw[Yn]at this;simpa using this
def z9l{l:List UInt8}{j d:Nat}(h:d<256)(hj:j<l.length):(u8c l).take j++u8 d::(u8c l).drop (j+1)=u8c (l.set j (UInt8.ofNat d)):=by
 rw[Yc3,if_pos hj];simp[u8c,List.map_take,List.map_drop,Y4 h]
theorem zge:∀k x,(Ze0 k x).length=k
 | 0,_=>rfl
 | k+1,x=>by simp[Ze0,zge k]
def zks(x:Nat):Ze0 0 x=[]:=rfl
def zfb(k x:Nat):Ze0 (k+1) x=Ze0 k (x/10)++[UInt8.ofNat (48+x%10)]:=rfl
def z4x{m:List UInt8}{j:Nat}(w:UInt8):(List.replicate (j+1) 0++m).set j w=List.replicate j 0++w::m:=by
 rw[List.set_append_left j w (by simp),Ycw,Ya1 j w (by simp)];simp
def z4y(m:List UInt8):((u8c m).map fun c=>[c]).mapM Zfh=some m:=by
 induction m with
 | nil=>rfl
 | cons b m ih=>
  have e:((u8c (b::m)).map fun c=>[c])=[u8 b.toNat]::((u8c m).map fun c=>[c]):=rfl;rw[e,Ybm,ih];simp[Zfh,u8]
section
def l101_0:AX:=QZ "QwGOoKDCPNtIKdH8XLLP8Vs5nyCQMVds_arV6sCNvO3Ng0n9aNonztjOe1k8Xvc"
def b101:AX:=(fun p0=>QY [p0] [] "TdnfnNO7Gm4tVmb8YHRzpLaDh.btYjhaycTfMjNqTlo37i") l101_0
abbrev row101:AFx:=⟨1,19,[.t 2],b101,none,false⟩
class Zaj (T:Tbl):Prop where
 h101:Tr T 101=some row101
attribute [simp] Zaj.h101
end
section
abbrev row68:AFx:=⟨0,0,[],.prim prim68,none,false⟩
class Z9 (T:Tbl):Prop where
 h68:Tr T 68=some row68
attribute [simp] Z9.h68
section
variable{T:Tbl}[Z9 T]{d:Option Nat}{st:St}
def p68(xs:List AV):Za T 68 xs=prim68 xs:=zl0 Z9.h68
end
end
section
def b103:AX:=QZ "1ctRgw32VzoBM2IlhFzXce610Fm0VcqmgHUnHw4YwdK5VjGp8FaafIi6_ipszLCxP5jBzT4T3K2ObOMSlfKOO5cBP0fN8aRiZlThhPDXtnwYnzPrjKITatcvdPus36pVcnBu16YBvm15xw1q.fay3qZGH3u8nSIz1JrWpxOnwPVtJa8g08vIyfGCfvDGUOM70qSwcf2tiLesKakjsY_aroyYuPKq70qHTxOcqSiMcJfnX7kZlNS"
def l125_0:AX:=QZ "0_8uutgDXtOObmX7xi49TmI_O0ZihuJJtNiQhUIEC6D6CQd"
def b125:AX:=(fun p0=>QY [p0] [] "gAzbvcweHunW0Zg4Hnx8Esj") l125_0
abbrev row103:AFx:=⟨2,37,[.t 4],b103,none,false⟩
abbrev row125:AFx:=⟨2,17,[.t 4],b125,none,false⟩
class Zjv (T:Tbl):Prop where
 h103:Tr T 103=some row103
 h125:Tr T 125=some row125
attribute [simp] Zjv.h103 Zjv.h125
end
section
variable{T:Tbl}
def zz2(x0:Nat)(_hx0:x0<4294967296):∀y:Nat×Nat×List UInt8,(y.1<=9/\y.2.1<4294967296/\y.2.2.length=9-y.1/\Ze0 y.1 y.2.1++y.2.2=Ze0 9 x0) ->
  Zx T 0 0 (.norm false [3]) l101_0 ⟨[(0,u32 y.2.1),(3,.ptr (.loc 3) 1 9 0 0),(4,.i .i64 ((y.1:Int)-1))],[(.loc 3,⟨1,.str,9,[u8c (List.replicate y.1 0++y.2.2)]⟩)],3⟩ =
   some (.n,⟨[(3,.ptr (.loc 3) 1 9 0 0)],[(.loc 3,⟨1,.str,9,[u8c (Ze0 9 x0)]⟩)],3⟩):=by
 refine zbg (fun y:Nat×Nat×List UInt8=>⟨[(0,u32 y.2.1),(3,.ptr (.loc 3) 1 9 0 0),(4,.i .i64 ((y.1:Int)-1))],[(.loc 3,⟨1,.str,9,[u8c (List.replicate y.1 0++y.2.2)]⟩)],3⟩) _ (fun y=>y.1) _ ?_
 rintro⟨k,x,m⟩ ⟨hk,hx,hm,hd⟩
 simp only at hk hx hm hd;cases k with
 | zero=>
  right;have hd:m=Ze0 9 x0:=by simpa only[zks,Yal]using hd
  subst hd;generalize Ze0 9 x0=m;constructor<;>simp -implicitDefEqProofs[l101_0]
 | succ j=>
  left;have hw:IntKind.wrap .i64 ((j:Int)-1)=(j:Int)-1:=zab _ (by omega);have h1:(j:Int)<9:=by omega
  have h2:j<=8:=by omega
  have hd1:48+x%10<256:=by omega
  have hs:=(z9l (l:=List.replicate (j+1) 0++m) (j:=j) hd1 (by simp;omega)).trans (congrArg u8c (z4x (j:=j) (m:=m) (UInt8.ofNat (48+x%10))));have m1:(48+x%10)%4294967296=48+x%10:=Y4 (by omega);have m2:(48+x%10)%256=48+x%10:=Y4 (by omega);have m3:x/10%4294967296=x/10:=Y4 (by omega);have hlen:j+1+m.length=9:=by omega
  refine⟨(j,x/10,UInt8.ofNat (48+x%10)::m),⟨by simp only;omega,by simp only;omega,by simp;omega,?_⟩,Y2 j,?_,rfl⟩
  ·simp only;rw[<-hd,zfb,Yz]
   rfl
  ·simp -implicitDefEqProofs[l101_0,hw,h1,h2,hs,m1,m2,m3,hlen]
end
section
variable{T:Tbl}[Zaj T]
def zrv(x:Nat)(hx:x<4294967296):Za T 101 [u32 x]=some (.s (Ze0 9 x)):=by
 have h:=zz2 (T:=T) x hx (9,x,[]) ⟨Yh _,hx,rfl,by simp⟩;have e:u8c (List.replicate 9 0++[])=[u8 0,u8 0,u8 0,u8 0,u8 0,u8 0,u8 0,u8 0,u8 0]:=rfl;simp only[e]at h;rw[zaa Zaj.h101 rfl,b101];have h8:IntKind.wrap .i64 8=8:=by decide
 have hl9:=zge 9 x;generalize hm:Ze0 9 x=m at *
 have t9:List.take 9 ((u8c m).map fun c=>[c])=(u8c m).map fun c=>[c]:=Yc (by simp[hl9]);have hr:=z4y m;simp at h;simp -implicitDefEqProofs[h,hr,hl9,t9]
end
section
variable{T:Tbl}[Zr T][Zv T][Zaj T]
def Zr6(l:List UInt8)(o:List UInt32)(i0 k:Nat):St:=
 ⟨[(0,.s l),(3,.ptr (.loc 3) 1 4 0 0),(5,.sl (Zb o) .an),(6,.i .i64 (i0+k:Nat)),(7,u32 (rd ((l.drop i0).take k))),(8,u32 (10^k)),(9,.i .i64 k)],[(.loc 3,⟨1,.str,4,[[.i .i64 0,.i .i64 0,.i .i64 0,.i .i64 0]]⟩)],3⟩
end
def sg(n:Bool)(k:Nat):Int:=if n then -(k:Int) else k
def wv(n:Bool)(a:List UInt32):Int:=sg n (val a)
abbrev wh(n:Bool)(a:List UInt32):AV:=.agg [.b n,.sl (Zb a) .an]
abbrev ez(z:Int):AV:=wh (decide (z<0)) (ofN z.natAbs)
def sgI(z:Int):Int:=if z<0 then -1 else if z=0 then 0 else 1
theorem zud(n:Bool)(k:Nat):decide (sg n k<0)=(n&&decide (k≠0)):=by
 cases n
 ·simp[sg]
 ·by_cases h:k=0<;>simp[sg,h];omega
theorem zue(n:Bool)(k:Nat):(sg n k).natAbs=k:=by cases n<;>simp[sg]
@[simp] theorem zkt(z:Int):wv (decide (z<0)) (ofN z.natAbs)=z:=by
 unfold wv;rw[zae];by_cases h:z<0
 ·simp[sg,h];omega
 ·simp[sg,h];omega
def z55(n:Bool)(a:List UInt32):(wv n a).natAbs=val a:=zue n _
def z4z(n:Bool)(k:Nat):ez (sg n k)=wh (n&&decide (k≠0)) (ofN k):=by
 unfold ez;rw[zud,zue]
def zsi(n:Bool)(x y:Nat):sg n (x+y)=sg n x+sg n y:=by cases n<;>simp[sg]<;>omega
def z1p{n m:Bool}(h:n≠m){x y:Nat}(hxy:x<y):sg m (y-x)=sg n x+sg m y:=by
 cases n<;>cases m<;>simp[sg]at h ⊢<;>omega
def z1q{n m:Bool}(h:n≠m){x y:Nat}(hxy:¬ x<y):sg n (x-y)=sg n x+sg m y:=by
 cases n<;>cases m<;>simp[sg]at h ⊢<;>omega
def zafy(n:Bool)(x:Nat):sg (!n) x=- sg n x:=by cases n<;>simp[sg]
def z56(n m:Bool)(x y:Nat):sg (n != m) (x*y)=sg n x*sg m y:=by cases n<;>cases m<;>simp[sg,Int.mul_neg,Int.neg_mul]
def z57(n:Bool)(x:Nat):sgI (sg n x)=if x=0 then 0 else if n then -1 else 1:=by
 unfold sgI;cases n<;>simp[sg]<;>split<;>(try split)<;>omega
def Zif(z:Int):List UInt8:=if z<0 then 45::Zan z.natAbs else Zan z.natAbs
def zqg{n:Nat}:∀{k:Nat},n<10^(k+1)->(Zan n).length<=k+1:=by
 induction n using Nat.strongRecOn with
 | _ n ih=>
  intro k h;by_cases h0:n<10
  ·rw[zdw h0];simp
  ·rw[zkr h0];cases k with
   | zero=>simp at h;omega
   | succ k=>
    have:=ih (n/10) (by omega) (k:=k) (Ybh (by rw[Yas,<-Yap];exact h));simp;omega
theorem zgf{a:List UInt32}(h:a.length<=1000):(Zan (val a)).length<=10000:=by
 obtain⟨K,hK⟩:∃K,K=9999:=⟨_,rfl⟩;have h1:=za6 a;have h2:4294967296^a.length<=(10^10)^a.length:=Yd0 (by decide) _;rw[<-Ydb]at h2;have h3:10^(10*a.length)<=10^(K+1):=Yag (by decide) (by omega);have h4:=zqg (k:=K) (Yt h1 (Ye h2 h3));clear h1 h2 h3;omega
def zen{x y:Int}{L:Nat}(hx:(ofN x.natAbs).length<=L)(hy:(ofN y.natAbs).length<=L):(ofN (x+y).natAbs).length<=L+1:=by
 refine zap ?_;have h1:=za6 (ofN x.natAbs);have h2:=za6 (ofN y.natAbs);rw[zae]at h1 h2;have h3:4294967296^(ofN x.natAbs).length<=4294967296^L:=Yag (by decide) hx;have h4:4294967296^(ofN y.natAbs).length<=4294967296^L:=Yag (by decide) hy;rw[Yap];generalize 4294967296^L=p at *
 omega
def zku(x:Int):ofN (-x).natAbs=ofN x.natAbs:=by rw[Int.natAbs_neg]
def zaw{x y:Int}{L M:Nat}(hx:(ofN x.natAbs).length<=L)(hy:(ofN y.natAbs).length<=M):(ofN (x*y).natAbs).length<=L+M:=by
 refine zap ?_;have h1:=za6 (ofN x.natAbs);have h2:=za6 (ofN y.natAbs);rw[zae]at h1 h2;rw[Yew,Ycs];exact Nat.mul_lt_mul'' (Yt h1 (Yag (by decide) hx)) (Yt h2 (Yag (by decide) hy))
def zcd(n:Bool)(a:List UInt32):(ofN (wv n a).natAbs).length<=a.length:=by rw[z55];exact zac a
def Zn4(l:List UInt8):Int:=sg (l.head? = some 45) (rd (if l.head? = some 45 then l.tail else l))
def Znb(l:List UInt8):Int:=Zlf (if l.head? = some 45 then l.tail else l)
def Zo3(l:List UInt8):Int:=if l.head? = some 45 then 1 else 0
section
def b55:AX:=QZ "4PFFAtWbh2jM2BYqV1pboJ3vFP6xokvG88BH"
def b38:AX:=QZ "0SidtOA3lLgCMHleeruh80bkw9OBB"
def b40:AX:=QZ "0EOVxKsYMVrddsEdbKPYhoxZ7fh96g6"
def b23:AX:=QZ "CyRZiIsxt3Y_ExHq0lKuBhDZz0N997PlBFk4IFh76IJ.tNz2ZTy_CJJhXbbrQuLjsMZ5.h8O88NmNEbxK_qXG5Ecfn20PoEXk4ZAB8Uw20Kyh2s7QqAtnwozOds1TV.wsb"
def b25:AX:=QZ "JkEC17QzKyYj1fQ86ZS9GVV47_qs41"
def b27:AX:=QZ "3ZTqn_Rdxox_JFg_eqnGxYgnaN0JtUm.JyIg7DwMWkT"
def b37:AX:=QY [] [(AV.i .i64 (-1))] "P7h6Gh.jahfSxZgPkbMPoSD_U.uv.QRanpnXNP8XoH7fTV6bVQ3O"
def b41:AX:=QZ "BZUJyLkd7.5H5r6XLPWg5HixJUy9L_N42KTFgXVVKgHt5ucZXf4G4"
def b36:AX:=QZ "a18LjRW._e7MxyvwDGU2FvLewQ05"
def b34:AX:=QY [] [(AV.s [45])] "4r52LQSJOx9J7KK6Go0ZK3bsmzgTkBRbIDAumEIFo79GeFA9ebbrYc8"
abbrev row55:AFx:=⟨2,13,[.cell 4 (some 2)],b55,none,false⟩
abbrev row38:AFx:=⟨1,9,[.cell 2 (some 2)],b38,none,false⟩
abbrev row40:AFx:=⟨1,10,[.cell 2 (some 2)],b40,none,false⟩
abbrev row23:AFx:=⟨2,39,[.cell 4 (some 2)],b23,none,false⟩
abbrev row25:AFx:=⟨2,9,[.cell 4 (some 2)],b25,none,false⟩
abbrev row27:AFx:=⟨2,16,[.cell 4 (some 2)],b27,none,false⟩
abbrev row37:AFx:=⟨1,10,[.t 2],b37,none,false⟩
abbrev row41:AFx:=⟨1,14,[.cell 2 (some 2)],b41,none,false⟩
abbrev row36:AFx:=⟨2,9,[.t 4],b36,none,false⟩
abbrev row34:AFx:=⟨1,13,[.t 2],b34,none,false⟩
class Ze (T:Tbl):Prop where
 h55:Tr T 55=some row55
 h38:Tr T 38=some row38
 h40:Tr T 40=some row40
 h23:Tr T 23=some row23
 h25:Tr T 25=some row25
 h27:Tr T 27=some row27
 h37:Tr T 37=some row37
 h41:Tr T 41=some row41
 h36:Tr T 36=some row36
 h34:Tr T 34=some row34
attribute [simp] Ze.h55 Ze.h38 Ze.h40 Ze.h23 Ze.h25 Ze.h27 Ze.h37 Ze.h41 Ze.h36 Ze.h34
section
variable{T:Tbl}[Ze T]{d:Option Nat}{st:St}
@[simp] def x38(xs:List AV):Zar (orc T) T 38 xs d st=cP T 38 false xs d st:=za9 Ze.h38
@[simp] def x23(xs:List AV):Zar (orc T) T 23 xs d st=cP T 23 false xs d st:=za9 Ze.h23
@[simp] def x25(xs:List AV):Zar (orc T) T 25 xs d st=cP T 25 false xs d st:=za9 Ze.h25
@[simp] def x27(xs:List AV):Zar (orc T) T 27 xs d st=cP T 27 false xs d st:=za9 Ze.h27
@[simp] def x37(xs:List AV):Zar (orc T) T 37 xs d st=cP T 37 false xs d st:=za9 Ze.h37
@[simp] def x36(xs:List AV):Zar (orc T) T 36 xs d st=cP T 36 false xs d st:=za9 Ze.h36
@[simp] def x34(xs:List AV):Zar (orc T) T 34 xs d st=cP T 34 false xs d st:=za9 Ze.h34
end
end
section
def l198_0:AX:=QZ "9Y7TJ5Q1UwBmqgs5Njq.AsdVqhvVsYa"
def b198:AX:=(fun p0=>QY [p0] [] "4zbTZQChrpM5RzQurQsR1dD") l198_0
def l199_0:AX:=QZ "nYdBkraV0Vg_Z_CPtncug3W95zmrw6FT6xia.VobcEYYxqCRAyT11FDdH8sAMc"
def b199:AX:=(fun p0=>QY [p0] [] "0LxmYk2x7xecGfTYOpJUDub2mFO6YwD892YM1KJJi5VYXPA5wJ_JYmhajpCL1qJR0sJVq6PPnRAFm_e._NNUYUh4rfTsm1EVl8wexAK0p5V0iehq4BIy3PxN7aoPRttaaOpbpb.eAuVP4CbxVKh5JE.R9gS") l199_0
def b200:AX:=QZ "BueHrcMKyzE4LgDnpKEUmswtq9EJDJVHgss"
def b201:AX:=QZ "2F_grH5Nv6hpPpxThO8veWRzn3IiuTOUdr74dEuuLm4ZBZlt21IydQfHCkdvWq54zA_t3IIXVA2Ru1lGszi9XlucaUwTe_G8N7B_pSuHQ_dsYTNFG49btG77uZ9GTtf5lBgnTMAPAZLD86vw67MQsaNF4"
abbrev row198:AFx:=⟨2,12,[.t 4],b198,none,false⟩
abbrev row199:AFx:=⟨2,56,[.t 4],b199,none,false⟩
abbrev row200:AFx:=⟨1,12,[.t 2],b200,none,false⟩
abbrev row201:AFx:=⟨2,37,[.t 4,.t 5],b201,none,false⟩
class Zh (T:Tbl):Prop where
 h198:Tr T 198=some row198
 h199:Tr T 199=some row199
 h200:Tr T 200=some row200
 h201:Tr T 201=some row201
attribute [simp] Zh.h198 Zh.h199 Zh.h200 Zh.h201
end
end Go.Ab