/-
  A calculus of values, boxes and code, and what functions of the program compute, proved in it.
  Conditions: none beyond those that the theorems state. (Part 4.)
-/
import Derived.Test.YthhddiiohgfamaaGreatDoorPart3

set_option linter.unusedSectionVars false
set_option linter.unusedVariables false
set_option linter.unusedSimpArgs false
set_option linter.unnecessarySimpa false
set_option linter.defProp false
set_option maxRecDepth 100000

namespace Go.Ab
def zp6{P m R:List UInt32}{i:Nat}{c:UInt32}(hm:m.length=i):(P++(m++c::R))[P.length+i]? = some c:=by
 grind
def zko{P m R:List UInt32}{i:Nat}{c:UInt32}(w:UInt32)(hm:m.length=i):(P++(m++c::R)).set (P.length+i) w=P++(m++w::R):=by
 rw[Yai (P.length+i) w (by omega),Ybv,Yai i w (by omega),hm,Ybe,Yb7]
def zyh{P m R:List UInt32}{i:Nat}{c d:UInt32}(w:UInt32)(hm:m.length=i):(P++(m++c::d::R)).set (P.length+i+1) w=P++(m++c::w::R):=by
 rw[Yap,Yai (P.length+(i+1)) w (by omega),Ybv,Yai (i+1) w (by omega),hm,show i+1-i=1 by omega]
 rfl
def zyi{P m R:List UInt32}{i:Nat}{c d:UInt32}(hm:m.length=i):(P++(m++c::d::R))[P.length+i+1]? = some d:=by
 grind
theorem zgn(n:Nat):w32 (n%4294967296)=w32 n:=zzk (by rw[zdt,Nat.mod_mod])
section
variable{T:Tbl}[Zn T][Zz T]
def Zkr(P a:List UInt32)(n:Nat)(y:Nat×Nat×List UInt32):St:=
 ⟨[(5,.i .i64 P.length),(6,.i .i64 n),(7,.bs (.loc 23) 1 1 0 (P.length+a.length+1)),(24,.sl (Za a) .an),(25,.i .i64 a.length),(26,.i .i64 y.1)],[(.loc 23,⟨1,.own,1,Za (P++(y.2.2++w32 y.2.1::List.replicate (a.length-y.1) 0))⟩)],3⟩
end
section
variable{T:Tbl}
def zv3(P a:List UInt32)(n:Nat)(hn:n<32)(hl:P.length+a.length<=1000000):∀y:Nat×Nat×List UInt32,
  (y.1<=a.length/\y.2.1<2^n/\y.2.2.length=y.1/\val y.2.2+4294967296^y.1*y.2.1=2^n*val (a.take y.1)) ->
  ∃r,(∃(c:Nat) (m:List UInt32),r=(Ex.n,(⟨[(7,.bs (.loc 23) 1 1 0 (P.length+a.length+1))],[(.loc 23,⟨1,.own,1,Za (P++(m++[w32 c]))⟩)],3⟩:St)) /\
   m.length=a.length/\c<2^n/\val m+4294967296^a.length*c=2^n*val a)/\Zu T 0 0 (.norm false [7]) l92_0 (Zkr P a n y)=some r:=by
 refine za6 _ _ (fun y=>a.length-y.1) _ ?_
 rintro⟨i,c,m⟩ ⟨hi,hc,hm,hv⟩
 simp only at hi hc hm hv;by_cases h0:i<a.length
 ·left;have ha:a[i]? = some (a[i]'h0):=Ya h0;obtain⟨u1,u2,u3,u4,u5⟩:=z1x (zal (a[i]'h0)) hn hc;have hx:=zal (a[i]'h0);have hrep:List.replicate (a.length-i) (0:UInt32)=0::List.replicate (a.length-(i+1)) 0:=by
   rw[show a.length-i=a.length-(i+1)+1 by omega,Yba]
  have hw:IntKind.wrap .i64 ((i:Int)+1)=((i+1:Nat):Int):=zab _ (by omega);have hw2:IntKind.wrap .i64 ((P.length:Int)+i)=((P.length+i:Nat):Int):=zab _ (by omega);have hw3:IntKind.wrap .i64 ((P.length:Int)+i+1)=((P.length+i+1:Nat):Int):=zab _ (by omega);have hg:=zp6 (P:=P) (c:=w32 c) (R:=0::List.replicate (a.length-(i+1)) 0) hm;have hg3:=zyi (P:=P) (c:=w32 (c+(a[i]'h0).toNat*2^n%4294967296)) (d:=0) (R:=List.replicate (a.length-(i+1)) 0) hm;have hs1:=zko (P:=P) (c:=w32 c) (R:=0::List.replicate (a.length-(i+1)) 0) (w32 (c+(a[i]'h0).toNat*2^n%4294967296)) hm;have hs2:=zyh (P:=P) (c:=w32 (c+(a[i]'h0).toNat*2^n%4294967296)) (d:=0) (R:=List.replicate (a.length-(i+1)) 0) (w32 ((a[i]'h0).toNat*2^n/4294967296)) hm;have hmin:min n 64=n:=by omega
  have hlt1:(P.length:Int)+i<(P.length:Int)+a.length+1:=by omega
  have hlt2:(P.length:Int)+i<(P.length:Int)+a.length:=by omega
  have m1:(a[i]'h0).toNat%18446744073709551616=(a[i]'h0).toNat:=Yu (by omega);have m2:=Yu u1;have m3:=Yu u3;have hcc:c<4294967296:=by omega
  have m4:(a[i]'h0).toNat*2^n/4294967296%4294967296=(a[i]'h0).toNat*2^n/4294967296:=Yu (by omega);have m5:(a[i]'h0).toNat*2^n/4294967296<4294967296:=by omega
  refine⟨(i+1,(a[i]'h0).toNat*2^n/4294967296,m++[w32 (c+(a[i]'h0).toNat*2^n%4294967296)]),⟨h0,u4,by grind,?_⟩,by omega,?_⟩
  ·grind[zai,zae,zan,zbx,zaf,Nat.div_add_mod]
  ·simp -implicitDefEqProofs[l92_0,Zkr,h0,hrep,hw,hw2,hw3,hg,hg3,hs1,hs2,zbm _ _ _ u3,zbm _ _ _ m5,hmin,hlt1,hlt2,m1,m2,m3,m4,u2,zaf hcc]
 ·right;have:i=a.length:=by omega
  subst this;rw[Yb (Yi a.length)]at hv;refine⟨_,⟨c,m,rfl,hm,hc,hv⟩,?_,?_⟩<;>simp -implicitDefEqProofs[l92_0,Zkr]
end
section
variable{T:Tbl}[Zn T][Zz T]
def z1t(a:List UInt32)(n:Nat)(hn:n<=4096)(hl:a.length<=100000):Zb T 92 [.sl (Za a) .an,.i .i64 n]=some (.sl (Za (ofN (val a*2^n))) .an):=by
 obtain⟨_,⟨c,m,rfl,hm,hc,hv⟩,hr⟩:=zv3 (T:=T) (List.replicate (n/32) 0) a (n%32) (Ybh _ (by decide)) (by grind) (0,0,[]) ⟨Y4 _,Ybr (by decide),rfl,by simp⟩;have hc32:c<4294967296:=Ym hc (by
  have:2^(n%32)<=2^32:=Yt (by decide) (by omega);omega)
 have hval:val (List.replicate (n/32) 0++(m++[w32 c]))=val a*2^n:=by
  rw[zai,za8,Ycj,zai,hm];simp only[zan,zbx,Ya0,Yaa,zaf hc32,Yar];rw[hv,zyl,<-Yaw,<-Yb2,show 32*(n/32)+n%32=n by omega,Yaf]
 have hlen:(List.replicate (n/32) 0++(m++[w32 c])).length=n/32+a.length+1:=by grind
 have hnm:=za7 (T:=T) (List.replicate (n/32) 0++(m++[w32 c])) (by omega);rw[hval]at hnm;unfold Zkr at hr;generalize List.replicate (n/32) 0++(m++[w32 c])=Q at *
 simp at hr;have hz:List.replicate (n/32) (0:UInt32)++w32 0::List.replicate a.length 0=List.replicate (n/32+a.length+1) 0:=by
  have:w32 0=0:=rfl;rw[this,<-Yba,Ycc,Yap]
 rw[hz]at hr;have hn2:¬ (4096:Int)<(n:Int):=by omega
 have hq:(n:Int).tdiv 32=(n:Int)/32:=Ycr (by omega);have hm2:(n:Int).tmod 32=(n:Int)%32:=Ycs (by omega);have w1:IntKind.wrap .i64 ((n:Int)/32)=(n:Int)/32:=zab (n/32) (by omega);have w2:IntKind.wrap .i64 ((n:Int)/32+a.length)=(n:Int)/32+a.length:=zab _ (by omega);have w3:IntKind.wrap .i64 ((n:Int)/32+a.length+1)=(n:Int)/32+a.length+1:=zab _ (by omega);have p1:(0:Int)<=(n:Int)/32+a.length+1:=by omega
 have p2:(n:Int)/32+a.length+1<=4294967296:=by omega
 have p3:((n:Int)/32+a.length+1).toNat=n/32+a.length+1:=by omega
 have htk:List.take (n/32+a.length+1) Q=Q:=Yb (by omega);rw[zaa Zz.h92 rfl,b92];simp -implicitDefEqProofs[hn2,hq,hm2,w1,w2,w3,p1,p2,p3,hr,hnm,htk,hlen]
def Zks(a:List UInt32)(W n:Nat)(y:Nat×List UInt32):St:=
 ⟨[(0,.sl (Za a) .an),(5,.i .i64 W),(6,.i .i64 n),(7,.bs (.loc 24) 1 1 0 (a.length-W)),(26,.i .i64 (a.length-W:Nat)),(27,.i .i64 y.1)],[(.loc 24,⟨1,.own,1,Za (y.2++List.replicate (a.length-W-y.1) 0)⟩)],3⟩
end
section
variable{T:Tbl}
def zv4(a:List UInt32)(W n:Nat)(hn:n<32)(hW:W<=a.length)(hl:a.length<=1000000):∀y:Nat×List UInt32,
  (y.1<=a.length-W/\y.2.length=y.1/\val y.2+4294967296^y.1*(val (a.drop (W+y.1))/2^n)=val (a.drop W)/2^n) ->
  ∃r,(∃m:List UInt32,r=(Ex.n,(⟨[(7,.bs (.loc 24) 1 1 0 (a.length-W))],[(.loc 24,⟨1,.own,1,Za m⟩)],3⟩:St)) /\
   m.length=a.length-W/\val m=val (a.drop W)/2^n)/\Zu T 0 0 (.norm false [7]) l94_0 (Zks a W n y)=some r:=by
 refine za6 _ _ (fun y=>a.length-W-y.1) _ ?_
 rintro⟨i,m⟩ ⟨hi,hm,hv⟩
 by_cases h0:i<a.length-W
 ·left;have hWi:W+i<a.length:=by omega
  have ha:a[W+i]? = some (a[W+i]'hWi):=Ya hWi;have hx:=zal (a[W+i]'hWi);have hd:=Yp hWi;have hrep:List.replicate (a.length-W-i) (0:UInt32)=0::List.replicate (a.length-W-(i+1)) 0:=by
   rw[show a.length-W-i=a.length-W-(i+1)+1 by omega,Yba]
  have hw:IntKind.wrap .i64 ((i:Int)+1)=((i+1:Nat):Int):=zab _ (by omega);have hw2:IntKind.wrap .i64 ((W:Int)+i)=((W+i:Nat):Int):=zab _ (by omega);have hw3:IntKind.wrap .i64 ((W:Int)+i+1)=((W+i+1:Nat):Int):=zab _ (by omega);have hg:=zp6 (P:=[]) (c:=0) (R:=List.replicate (a.length-W-(i+1)) 0) hm;have hmin:min n 64=n:=by omega
  have hlt1:(W:Int)+i<(a.length:Int):=by omega
  have hlt3:((W:Int)+i).toNat=W+i:=by omega
  have m1:(a[W+i]'hWi).toNat%18446744073709551616=(a[W+i]'hWi).toNat:=Yu (by omega);have fin:∀y R:Nat,val (a.drop (W+i+1))=y+4294967296*R->val (m++[w32 (((a[W+i]'hWi).toNat+y*4294967296)/2^n%4294967296)])+4294967296^(i+1)*(val (a.drop (W+(i+1)))/2^n)=val (a.drop W)/2^n:=by
   intro y R hR;have hmod:((a[W+i]'hWi).toNat+y*4294967296)/2^n%4294967296<4294967296:=Ybh _ (by decide);have hdw:=zv9 (x:=(a[W+i]'hWi).toNat) (y:=y) (R:=R) hn hx;rw[hd,zan,hR,hdw,<-hR]at hv
   grind[zai,zan,zbx,zaf]
  by_cases h1:W+i+1<a.length
  ·have hd1:=Yp h1;have hy:=zal (a[W+i+1]'h1);have m2:(a[W+i+1]'h1).toNat%18446744073709551616=(a[W+i+1]'h1).toNat:=Yu (by omega);have m3:(a[W+i+1]'h1).toNat*4294967296%18446744073709551616=(a[W+i+1]'h1).toNat*4294967296:=Yu (by omega);have hor:(a[W+i]'hWi).toNat ||| (a[W+i+1]'h1).toNat*4294967296=(a[W+i]'hWi).toNat+(a[W+i+1]'h1).toNat*4294967296:=by
    have:=zzl (a:=(a[W+i]'hWi).toNat) (b:=(a[W+i+1]'h1).toNat) (n:=32) (by simp)
    grind
   have m4:((a[W+i]'hWi).toNat+(a[W+i+1]'h1).toNat*4294967296)%18446744073709551616=(a[W+i]'hWi).toNat+(a[W+i+1]'h1).toNat*4294967296:=Yu (by omega);have hs1:=zko (P:=[]) (c:=0) (R:=List.replicate (a.length-W-(i+1)) 0) (w32 (((a[W+i]'hWi).toNat+(a[W+i+1]'h1).toNat*4294967296)/2^n%4294967296)) hm;have hlt2:(W:Int)+i+1<(a.length:Int):=by omega
   have hlt4:((W:Int)+i+1).toNat=W+i+1:=by omega
   refine⟨(i+1,m++[w32 (((a[W+i]'hWi).toNat+(a[W+i+1]'h1).toNat*4294967296)/2^n%4294967296)]),⟨h0,by grind,fin _ (val (a.drop (W+i+1+1))) (by rw[hd1,zan])⟩,by omega,?_⟩;simp at hg;simp[zgn]at hs1;simp -implicitDefEqProofs[l94_0,Zks,h0,ha,hrep,hw,hw2,hw3,hg,hs1,zgn,hmin,hlt1,hlt2,hlt3,hlt4,m1,m2,m3,m4,hor,h1]
  ·have hs1:=zko (P:=[]) (c:=0) (R:=List.replicate (a.length-W-(i+1)) 0) (w32 ((a[W+i]'hWi).toNat/2^n%4294967296)) hm;have hlt2:¬ (W:Int)+i+1<(a.length:Int):=by omega
   have f0:=fin 0 0 (by rw[Ya9 (by omega),zbx,Ya0]);refine⟨(i+1,m++[w32 ((a[W+i]'hWi).toNat/2^n%4294967296)]),⟨h0,by grind,f0⟩,by omega,?_⟩;simp at hg;simp[zgn]at hs1;simp -implicitDefEqProofs[l94_0,Zks,h0,ha,hrep,hw,hw2,hw3,hg,hs1,zgn,hmin,hlt1,hlt2,hlt3,m1]
 ·right;have:i=a.length-W:=by omega
  subst this;rw[show W+(a.length-W)=a.length by omega,Yah,zbx,Nat.zero_div,Ya0,Yaa]at hv;refine⟨_,⟨m++List.replicate (a.length-W-(a.length-W)) 0,rfl,by grind,by grind⟩,?_,?_⟩<;>simp -implicitDefEqProofs[l94_0,Zks]
end
section
variable{T:Tbl}[Zn T][Zz T]
def zv5(a:List UInt32)(n:Nat)(h:n/32<=a.length):val (a.drop (n/32))/2^(n%32)=val a/2^n:=by
 rw[<-z1w a _ h,Yb3,zyl,<-Yb2,show 32*(n/32)+n%32=n by omega]
def zv6(a:List UInt32)(n:Nat)(hn:n<=100000000)(hl:a.length<=100000):Zb T 94 [.sl (Za a) .an,.i .i64 n]=some (.sl (Za (ofN (val a/2^n))) .an):=by
 have hn2:¬ (n:Int)<0:=by omega
 have hq:(n:Int).tdiv 32=(n:Int)/32:=Ycr (by omega);have hm2:(n:Int).tmod 32=(n:Int)%32:=Ycs (by omega);have w1:IntKind.wrap .i64 ((n:Int)/32)=(n:Int)/32:=zab (n/32) (by omega);rcases Yv (n/32) a.length with h0 | h0
 ·obtain⟨_,⟨m,rfl,hm,hv⟩,hr⟩:=zv4 (T:=T) a (n/32) (n%32) (Ybh _ (by decide)) (by omega) (by omega) (0,[]) ⟨Y4 _,rfl,by rw[zbx,Yef,Yd1,Yar,Yaa]⟩;rw[zv5 a n (by omega)]at hv;have hnm:=za7 (T:=T) m (by omega);rw[hv]at hnm;unfold Zks at hr;have hsub:((a.length-n/32:Nat):Int)=(a.length:Int)-(n:Int)/32:=by omega
  simp[hsub]at hr;have p0:¬ (a.length:Int)<=(n:Int)/32:=by omega
  have w2:IntKind.wrap .i64 ((a.length:Int)-(n:Int)/32)=(a.length:Int)-(n:Int)/32:=zab _ (by omega);have p1:(n:Int)/32<=(a.length:Int):=by omega
  have p2:(a.length:Int)-(n:Int)/32<=4294967296:=by omega
  have p3:((a.length:Int)-(n:Int)/32).toNat=a.length-n/32:=by omega
  have htk:List.take (a.length-n/32) m=m:=Yb (by omega);have p5:a.length<=a.length-n/32+n/32:=by omega
  rw[zaa Zz.h94 rfl,b94];simp -implicitDefEqProofs[hn2,hq,hm2,w1,w2,p0,p5,p1,p2,p3,hsub,hr,hnm,htk,hm]
 ·have hz:val a/2^n=0:=by
   refine Ybs (Ym (zay a) ?_);rw[zyl];exact Yt (by decide) (by omega)
  have p0:(a.length:Int)<=(n:Int)/32:=by omega
  rw[hz,zkp,zaa Zz.h94 rfl,b94];simp -implicitDefEqProofs[hn2,hq,hm2,w1,p0]
end
section
def l90_0:AX:=QZ "BE6PWHaAAysuddfDvHkx_nkvEn_VGoXRQXahfPDId5rqhMgjzDiBEA2XercJwHGasZ_Vm5JJWzXjY"
def b90:AX:=(fun p0=>QY [p0] [] "0eTL8.HwjHkWmRhmbmEiO.wAZC4FmmX6Dpt401B_pAlhh5lmhX7oPd3T544JA0DjnV7PDRt0sC5M3oVjkCVL") l90_0
def l119_0:AX:=QZ "09nZ7BHDaqAw1J2H7iKPi_1TmTokzFUfqZZnJKxCioXcmQjluC79qPCR0YRb77gGoWACMjos7VlNDopOIGmxFZIwV8o0B.Lvn3RgCKZTVuTH6fVDAzer2sufTFs.IPxBQN9nrjkxc4pLS6U"
def b119:AX:=(fun p0=>QY [p0] [(u32 4294967295)] "YlSHnd_yffrukZKRKjtDafiNQeirHWZju_cXIFiD9XossCYgVtkDM4rE6bNtJ1gluWLFKc_1Ifw581DSlJKZ3jAUEnoa9JYHj6FY5V1eiP8acJu2Kvuw9a6rwSfVrR6IyxFEmaGQp1i9mlgBO") l119_0
def l120_0:AX:=QZ "Z3iu8vmBCZBpRDZ.rhsam5x7V.Bcpk5KBIjE9rRnrgmOeIv9QSE5ILzkL5SwtOZnDPRZT54HER4iB2H0mWmYZZSI62kJvzCpZIc5n6qITk2eN.LYZ5tdpsYuCmO6.ZLVw3_nT"
def b120:AX:=(fun p0=>QY [p0] [] "7vfRfToiiRw9fwqEObmg.eFp5jZIDubvFbV980sR2_FHRJ5rp1GK.3f4UHz6r7zMwvcc1ovb3iGpibmKFxYdODBlHGsLJaXD3LeZ.24mQ48") l120_0
def l121_0:AX:=QZ "0DNlZFtRVjIyNTQtyky92B3jRTPeb0c4LWaiukjrTa0qPrXY8wZ4OlsfQIiTsZi_GqEkrYoXXoCKkQl0o7gD8bJ3ozlKfV"
def b121:AX:=(fun p0=>QY [p0] [] "4.AhCul6l8VZ0q1zIWT4ZP2uG.tPh1N.ub_n1ru.YEfeDGVOF") l121_0
def l93_0:AX:=QZ "JNoelPedvQQQJFfrEzKZzlHutBHWGnp64yd3oFCoHGUT.lRVXdliJz7vY2zvUfnCVXo8BS.qO8QDb98.3J6zKd2rgjGSSzEohF9a0YBulFGqae8SyZtCUxkAtCrHekUOWzuxj56N8LHzU0OoZXIntDkH.T26U"
def b93:AX:=(fun p0=>QY [p0] [] "2Z65ngmjrsfiR18p9Ag9OwBc4bEkMWSyw7bFiZqzVztUZx7XzwxauedKmIDEDssk") l93_0
abbrev row90:AFx:=⟨2,37,[.t 4,.t 5,.t 6],b90,none,false⟩
abbrev row119:AFx:=⟨5,76,[.t 10],b119,none,false⟩
abbrev row120:AFx:=⟨4,66,[.t 8],b120,(some [true,false,false,false]),false⟩
abbrev row121:AFx:=⟨3,44,[],b121,(some [true,false,false]),false⟩
abbrev row93:AFx:=⟨2,70,[.t 4],b93,(some [true,false]),false⟩
class Zr (T:Tbl):Prop where
 h90:Tr T 90=some row90
 h119:Tr T 119=some row119
 h120:Tr T 120=some row120
 h121:Tr T 121=some row121
 h93:Tr T 93=some row93
attribute [simp] Zr.h90 Zr.h119 Zr.h120 Zr.h121 Zr.h93
section
variable{T:Tbl}[Zr T]{d:Option Nat}{st:St}
def f119(xs:List AV)(hn:xs.length=5):Zb T 119 xs=Zhw [.t 10] false (evX (orc T) T 0 b119 ⟨Zca xs,[],1⟩):=zaa Zr.h119 hn
end
end
def zkl{m:List UInt32}{j:Nat}(w:UInt32):(List.replicate (j+1) 0++m).set j w=List.replicate j 0++w::m:=by
 rw[List.set_append_left j w (by simp),List.replicate_succ',Yai j w (by simp)];simp
def zkm{m:List UInt32}{j:Nat}:(List.replicate (j+1) (0:UInt32)++m)[j]? = some 0:=by
 rw[Yo (by simp),Ycy,if_pos (by omega)]
section
variable{T:Tbl}[Zn T][Zz T][Zw T][Zr T]
def Zla(a:List UInt32)(x:Nat)(y:Nat×Nat×List UInt32):St:=
 ⟨[(0,.sl (Za a) .an),(1,u32 x),(4,.bs (.loc 12) 1 1 0 a.length),(5,u32 y.2.1),(7,.i .i64 ((y.1:Int)-1))],[(.loc 12,⟨1,.own,1,Za (List.replicate y.1 0++y.2.2)⟩)],3⟩
end
section
variable{T:Tbl}[Zn T]
def z1n(a:List UInt32)(x:Nat)(hx:x<4294967296)(hl:a.length<=1000000):∀y:Nat×Nat×List UInt32,
  (y.1<=a.length/\y.2.1<x/\y.2.2.length=a.length-y.1/\val (a.drop y.1)=x*val y.2.2+y.2.1) ->
  ∃r,(∃(c:Nat) (m:List UInt32),r=(Ex.n,(⟨[(4,.bs (.loc 12) 1 1 0 a.length),(5,u32 c)],[(.loc 12,⟨1,.own,1,Za m⟩)],3⟩:St)) /\
   m.length=a.length/\c<x/\val a=x*val m+c)/\Zu T 0 0 (.norm false [4,5]) l90_0 (Zla a x y)=some r:=by
 refine za6 _ _ (fun y=>y.1) _ ?_
 rintro⟨k,c,m⟩ ⟨hk,hc,hm,hv⟩
 simp only at hk hc hm hv;cases k with
 | zero=>
  right;refine⟨_,⟨c,m,rfl,by omega,hc,hv⟩,?_,?_⟩<;>simp -implicitDefEqProofs[l90_0,Zla]
 | succ j=>
  left;have hja:j<a.length:=by omega
  have hy:=zal (a[j]'hja);have hd:=Yp hja;have hw:IntKind.wrap .i64 ((j:Int)-1)=(j:Int)-1:=zab _ (by omega);have hs:=zkl (m:=m) (j:=j) (w32 ((c*4294967296+(a[j]'hja).toNat)/x));have hq:(c*4294967296+(a[j]'hja).toNat)/x<4294967296:=by
   refine Ybi ?_;omega
  have hdv:=zml (T:=T) c (a[j]'hja).toNat x hc hy hx;refine⟨(j,(c*4294967296+(a[j]'hja).toNat)%x,w32 ((c*4294967296+(a[j]'hja).toNat)/x)::m),⟨by omega,Ybh _ (by omega),by grind,?_⟩,Y1 j,?_⟩
  ·grind[zan,zaf,Nat.div_add_mod]
  ·simp -implicitDefEqProofs[l90_0,Zla,hja,hw,hs,zkm,hdv,zbm _ _ _ hq]
end
section
variable{T:Tbl}[Zn T][Zr T]
def zmt(a:List UInt32)(x:Nat)(hx:x<4294967296)(h0:0<x)(hl:a.length<=1000000) :
  Zb T 90 [.sl (Za a) .an,u32 x]=some (.tup [.sl (Za (ofN (val a/x))) .an,u32 (val a%x),.b true]):=by
 obtain⟨_,⟨c,m,rfl,hm,hc,hv⟩,hr⟩:=z1n (T:=T) a x hx hl (a.length,0,[]) ⟨Yi _,h0,by simp,by rw[Yah,zbx,Ya0,Yar]⟩;have e1:val a/x=val m:=by grind[Nat.mul_add_div,Nat.div_eq_of_lt]
 have e2:val a%x=c:=by rw[hv,Nat.mul_add_mod,Yu hc]
 have hnm:=za7 (T:=T) m (by omega);unfold Zla at hr;simp at hr;have hx0:x≠0:=by omega
 have w1:IntKind.wrap .i64 ((a.length:Int)-1)=(a.length:Int)-1:=zab _ (by omega);have p1:(a.length:Int)<=4294967296:=by omega
 have htk:List.take a.length m=m:=Yb (by omega);rw[e1,e2,zaa Zr.h90 rfl,b90];simp -implicitDefEqProofs[hr,hx0,w1,p1,htk,hm,hnm]
end
section
variable{T:Tbl}[Zn T][Zz T][Zw T][Zr T]
def zmu{p M w X s t y v D D':Nat}(h:M+X*t=s+p*D)(e:w+X*y+D=v+4294967296*D'):(M+p*w)+X*(t+p*y)=(s+p*v)+p*4294967296*D':=by
 grind
def Zlb(P S b:List UInt32)(x:Nat)(y:Nat×(Nat×Nat)×List UInt32):St:=
 ⟨[(0,.bs (.bor 0) 0 1 0 (P.length+S.length)),(1,.i .i64 P.length),(2,.sl (Za b) .an),(3,u32 x),(9,u32 y.2.1.1),(10,u32 y.2.1.2),(15,.sl (Za b) .an),(16,.i .i64 b.length),(17,.i .i64 y.1)],
  [(.bor 0,⟨0,.own,1,Za (P++(y.2.2++S.drop y.1))⟩)],4⟩
end
section
variable{T:Tbl}[Zn T]
def z1o(P S b:List UInt32)(x:Nat)(hx:x<4294967296)(hS:b.length<S.length)(hl:P.length+S.length<=1000000):∀y:Nat×(Nat×Nat)×List UInt32,
  (y.1<=b.length/\y.2.1.1<4294967296/\y.2.1.2<=1/\y.2.2.length=y.1/\val y.2.2+x*val (b.take y.1)=val (S.take y.1)+4294967296^y.1*(y.2.1.2+y.2.1.1)) ->
  ∃r,(∃(C B:Nat) (m:List UInt32),r=(Ex.n,(⟨[(0,.bs (.bor 0) 0 1 0 (P.length+S.length)),(1,.i .i64 P.length),(2,.sl (Za b) .an),(9,u32 C),(10,u32 B)],[(.bor 0,⟨0,.own,1,Za (P++(m++S.drop b.length))⟩)],4⟩:St)) /\
   C<4294967296/\B<=1/\m.length=b.length/\val m+x*val b=val (S.take b.length)+4294967296^b.length*(B+C))/\Zu T 1 0 (.norm false [0,1,2,9,10]) l120_0 (Zlb P S b x y)=some r:=by
 refine za6 _ _ (fun y=>b.length-y.1) _ ?_
 rintro⟨i,⟨C,B⟩,m⟩ ⟨hi,hC,hB,hm,hv⟩
 simp only at hi hC hB hm hv;by_cases h0:i<b.length
 ·left;have hb:b[i]? = some (b[i]'h0):=Ya h0;have hiS:i<S.length:=by omega
  have hs:S[i]? = some (S[i]'hiS):=Ya hiS;have hg:=zf1 (P:=P) hm hiS;have hw:IntKind.wrap .i64 ((i:Int)+1)=((i+1:Nat):Int):=zab _ (by omega);have hw2:IntKind.wrap .i64 ((P.length:Int)+i)=((P.length+i:Nat):Int):=zab _ (by omega);have hlt2:(P.length:Int)+i<(P.length:Int)+S.length:=by omega
  have hlb:=zal (b[i]'h0);have hls:=zal (S[i]'hiS);have hmul:=zh1 hx hlb;have c1:=zh2 (T:=T) x (b[i]'h0).toNat C 0 hx hlb hC (by decide);rw[Yaa]at c1;obtain⟨lo,hlo⟩:∃lo,lo=(x*(b[i]'h0).toNat+C)%4294967296:=⟨_,rfl⟩;obtain⟨C',hC'⟩:∃C',C'=(x*(b[i]'h0).toNat+C)/4294967296:=⟨_,rfl⟩;rw[<-hlo,<-hC']at c1;have c2:=zfk (T:=T) (S[i]'hiS).toNat lo B hls (by omega) (by omega);obtain⟨w,hwd⟩:∃w,w=((S[i]'hiS).toNat+8589934592-(lo+B))%4294967296:=⟨_,rfl⟩;obtain⟨B',hB'⟩:∃B',B'=2-((S[i]'hiS).toNat+8589934592-(lo+B))/4294967296:=⟨_,rfl⟩;rw[<-hwd,<-hB']at c2;have hwl:w<4294967296:=by omega
  have hset:=zf2 (P:=P) (w32 w) hm hiS;refine⟨(i+1,(C',B'),m++[w32 w]),⟨h0,by grind,by simp only;omega,by grind,?_⟩,by omega,?_⟩
  ·simp only;rw[zai,zae hb,zae hs,Yac,hm,zan,zbx,Ya0,Yaa,zaf hwl];exact zmu hv (by omega)
  ·simp -implicitDefEqProofs[l120_0,Zlb,h0,hw,hw2,hlt2,hg,c1,c2,hset,zbm _ _ _ hwl]
 ·right;have:i=b.length:=by omega
  subst this;rw[Yb (Yi b.length)]at hv;refine⟨_,⟨C,B,m,rfl,hC,hB,hm,hv⟩,?_,?_⟩<;>simp -implicitDefEqProofs[l120_0,Zlb]
end
section
variable{T:Tbl}[Zn T][Zr T]
def zvu(P S b:List UInt32)(x:Nat)(hx:x<4294967296)(hS:b.length<S.length)(hl:P.length+S.length<=1000000) :
  ∃(B:Nat) (m:List UInt32),B<=1/\m.length=b.length+1/\val m+x*val b=val (S.take (b.length+1))+4294967296^(b.length+1)*B /\
   Zd0 T 120 [.bs (.bor 0) 0 1 0 (P.length+S.length),.i .i64 P.length,.sl (Za b) .an,u32 x] [(.bor 0,⟨0,.own,1,Za (P++S)⟩)] =
    some (.b (decide (0<B)),[(.bor 0,⟨0,.own,1,Za (P++(m++S.drop (b.length+1)))⟩)]):=by
 obtain⟨_,⟨C,B,m,rfl,hC,hB,hm,hv⟩,hr⟩:=z1o (T:=T) P S b x hx hS hl (0,(0,0),[]) ⟨Y4 _,Nat.zero_lt_succ _,Y4 _,rfl,by simp⟩;unfold Zlb at hr;simp at hr;have hs:S[b.length]? = some (S[b.length]'hS):=Ya hS;have hls:=zal (S[b.length]'hS);have hg:=zf1 (P:=P) hm hS;have hw2:IntKind.wrap .i64 ((P.length:Int)+b.length)=((P.length+b.length:Nat):Int):=zab _ (by omega);have hlt2:(P.length:Int)+b.length<(P.length:Int)+S.length:=by omega
 have c2:=zfk (T:=T) (S[b.length]'hS).toNat C B hls hC (by omega);obtain⟨w,hwd⟩:∃w,w=((S[b.length]'hS).toNat+8589934592-(C+B))%4294967296:=⟨_,rfl⟩;obtain⟨B',hB'⟩:∃B',B'=2-((S[b.length]'hS).toNat+8589934592-(C+B))/4294967296:=⟨_,rfl⟩;rw[<-hwd,<-hB']at c2;have hwl:w<4294967296:=by omega
 have hset:=zf2 (P:=P) (w32 w) hm hS;refine⟨B',m++[w32 w],by omega,by grind,?_,?_⟩
 ·rw[zai,zae hs,Yac,hm,zan,zbx,Ya0,Yaa,zaf hwl];have:=zmu (y:=0) (w:=w) (v:=(S[b.length]'hS).toNat) (D':=B') hv (by omega);omega
 ·rw[zdp Zr.h120 rfl,b120];simp -implicitDefEqProofs[hr,hw2,hlt2,hg,c2,hset,zbm _ _ _ hwl]
end
section
variable{T:Tbl}[Zn T][Zz T][Zw T][Zr T]
def zmv{p M w s t y v D D':Nat}(h:M+p*D=s+t)(e:w+4294967296*D'=v+y+D):(M+p*w)+p*4294967296*D'=(s+p*v)+(t+p*y):=by
 grind
def Zlc(P S b:List UInt32)(y:Nat×Nat×List UInt32):St:=
 ⟨[(0,.bs (.bor 0) 0 1 0 (P.length+S.length)),(1,.i .i64 P.length),(2,.sl (Za b) .an),(6,u32 y.2.1),(9,.sl (Za b) .an),(10,.i .i64 b.length),(11,.i .i64 y.1)],
  [(.bor 0,⟨0,.own,1,Za (P++(y.2.2++S.drop y.1))⟩)],4⟩
end
section
variable{T:Tbl}[Zn T]
def z1p(P S b:List UInt32)(hS:b.length<S.length)(hl:P.length+S.length<=1000000):∀y:Nat×Nat×List UInt32,
  (y.1<=b.length/\y.2.1<=1/\y.2.2.length=y.1/\val y.2.2+4294967296^y.1*y.2.1=val (S.take y.1)+val (b.take y.1)) ->
  ∃r,(∃(C:Nat) (m:List UInt32),r=(Ex.n,(⟨[(0,.bs (.bor 0) 0 1 0 (P.length+S.length)),(1,.i .i64 P.length),(2,.sl (Za b) .an),(6,u32 C)],[(.bor 0,⟨0,.own,1,Za (P++(m++S.drop b.length))⟩)],4⟩:St)) /\
   C<=1/\m.length=b.length/\val m+4294967296^b.length*C=val (S.take b.length)+val b)/\Zu T 1 0 (.norm false [0,1,2,6]) l121_0 (Zlc P S b y)=some r:=by
 refine za6 _ _ (fun y=>b.length-y.1) _ ?_
 rintro⟨i,C,m⟩ ⟨hi,hC,hm,hv⟩
 simp only at hi hC hm hv;by_cases h0:i<b.length
 ·left;have hb:b[i]? = some (b[i]'h0):=Ya h0;have hiS:i<S.length:=by omega
  have hs:S[i]? = some (S[i]'hiS):=Ya hiS;have hg:=zf1 (P:=P) hm hiS;have hw:IntKind.wrap .i64 ((i:Int)+1)=((i+1:Nat):Int):=zab _ (by omega);have hw2:IntKind.wrap .i64 ((P.length:Int)+i)=((P.length+i:Nat):Int):=zab _ (by omega);have hlt2:(P.length:Int)+i<(P.length:Int)+S.length:=by omega
  have hlb:=zal (b[i]'h0);have hls:=zal (S[i]'hiS);have c2:=zd5 (T:=T) (S[i]'hiS).toNat (b[i]'h0).toNat C hls hlb (by omega);obtain⟨w,hwd⟩:∃w,w=((S[i]'hiS).toNat+(b[i]'h0).toNat+C)%4294967296:=⟨_,rfl⟩;obtain⟨C',hC'⟩:∃C',C'=((S[i]'hiS).toNat+(b[i]'h0).toNat+C)/4294967296:=⟨_,rfl⟩;rw[<-hwd,<-hC']at c2;have hwl:w<4294967296:=by omega
  have hset:=zf2 (P:=P) (w32 w) hm hiS;refine⟨(i+1,C',m++[w32 w]),⟨h0,by grind,by grind,?_⟩,by omega,?_⟩
  ·simp only;rw[zai,zae hb,zae hs,Yac,hm,zan,zbx,Ya0,Yaa,zaf hwl];exact zmv hv (by omega)
  ·simp -implicitDefEqProofs[l121_0,Zlc,h0,hw,hw2,hlt2,hg,c2,hset,zbm _ _ _ hwl]
 ·right;have:i=b.length:=by omega
  subst this;rw[Yb (Yi b.length)]at hv;refine⟨_,⟨C,m,rfl,hC,hm,hv⟩,?_,?_⟩<;>simp -implicitDefEqProofs[l121_0,Zlc]
end
section
variable{T:Tbl}[Zn T][Zr T]
def zvv(P S b:List UInt32)(hS:b.length<S.length)(hl:P.length+S.length<=1000000) :
  ∃(D:Nat) (m:List UInt32),D<=1/\m.length=b.length+1/\val m+4294967296^(b.length+1)*D=val (S.take (b.length+1))+val b /\
   Zd0 T 121 [.bs (.bor 0) 0 1 0 (P.length+S.length),.i .i64 P.length,.sl (Za b) .an] [(.bor 0,⟨0,.own,1,Za (P++S)⟩)] =
    some (.tup [],[(.bor 0,⟨0,.own,1,Za (P++(m++S.drop (b.length+1)))⟩)]):=by
 obtain⟨_,⟨C,m,rfl,hC,hm,hv⟩,hr⟩:=z1p (T:=T) P S b hS hl (0,0,[]) ⟨Y4 _,Y4 _,rfl,by simp⟩;unfold Zlc at hr;simp at hr;have hs:S[b.length]? = some (S[b.length]'hS):=Ya hS;have hls:=zal (S[b.length]'hS);have hg:=zf1 (P:=P) hm hS;have hw2:IntKind.wrap .i64 ((P.length:Int)+b.length)=((P.length+b.length:Nat):Int):=zab _ (by omega);have hlt2:(P.length:Int)+b.length<(P.length:Int)+S.length:=by omega
 obtain⟨w,hwd⟩:∃w,w=((S[b.length]'hS).toNat+C)%4294967296:=⟨_,rfl⟩;have hwl:w<4294967296:=by omega
 have hset:=zf2 (P:=P) (w32 w) hm hS;refine⟨((S[b.length]'hS).toNat+C)/4294967296,m++[w32 w],by omega,by grind,?_,?_⟩
 ·rw[zai,zae hs,Yac,hm,zan,zbx,Ya0,Yaa,zaf hwl];have:=zmv (y:=0) (w:=w) (v:=(S[b.length]'hS).toNat) (D':=((S[b.length]'hS).toNat+C)/4294967296) hv (by omega);omega
 ·rw[zdp Zr.h121 rfl,b121];simp -implicitDefEqProofs[hr,hw2,hlt2,hg,<-hwd,hset,zbm _ _ _ hwl]
end
def zhz(q b1 b0:Nat):q*(b1*4294967296+b0)=q*b1*4294967296+q*b0:=by
 rw[Yao q,<-Yaw q]
def zkf{a2 a1 a0 b1 b0 q r:Nat}(h:q*b1+r=a2*4294967296+a1)(hle:q*b0<=r*4294967296+a0) :
  q*(b1*4294967296+b0)<=(a2*4294967296+a1)*4294967296+a0:=by
 refine Yd (Nat.le_of_eq (zhz q b1 b0)) ?_;revert h hle;generalize q*b1=u;generalize q*b0=v;omega
def zxt{a2 a1 a0 b1 b0 q r:Nat}(h:q*b1+r=a2*4294967296+a1)(hgt:r*4294967296+a0<q*b0) :
  (a2*4294967296+a1)*4294967296+a0<q*(b1*4294967296+b0):=by
 refine Nat.lt_of_lt_of_eq ?_ (zhz q b1 b0).symm;revert h hgt;generalize q*b1=u;generalize q*b0=v;omega
def zu5{q b0 r a0:Nat}(h0:a0<4294967296):(q*b0/4294967296<r\/q*b0/4294967296=r/\q*b0%4294967296<=a0)↔q*b0<=r*4294967296+a0:=by
 generalize q*b0=m;omega
section
variable{T:Tbl}[Zn T][Zz T][Zw T][Zr T]
def Zg3(a0 b1 b0:Nat)(y:Nat×Nat):St:=⟨[(2,u32 a0),(3,u32 b1),(4,u32 b0),(11,u32 y.1),(12,u32 y.2)],[],2⟩
end
section
variable{T:Tbl}[Zn T]
def zu6(a2 a1 a0 b1 b0 g:Nat)(h0:a0<4294967296)(hb1:b1<4294967296)(hb0:b0<4294967296)
  (F1:∀q,q<4294967296->g<=q->q*(b1*4294967296+b0)<=(a2*4294967296+a1)*4294967296+a0->q=g)
  (F2:∀q,(a2*4294967296+a1)*4294967296+a0<q*(b1*4294967296+b0)->g<q):∀y:Nat×Nat,
  (y.1<4294967296/\y.2<4294967296/\y.1*b1+y.2=a2*4294967296+a1/\g<=y.1) ->
  ∃r,(r=(Ex.n,(⟨[(11,u32 g)],[],2⟩:St)))/\Zu T 0 0 (.norm false [11]) l119_0 (Zg3 a0 b1 b0 y)=some r:=by
 refine za6 _ _ (fun y=>y.1) _ ?_
 rintro⟨q,r⟩ ⟨hq,hr,hv,hg⟩
 simp only at hq hr hv hg;have c1:=zh2 (T:=T) q b0 0 0 hq hb0 (by decide) (by decide);have c2:=zd5 (T:=T) r b1 0 hr hb1 (by decide);rw[Yaa]at c1;rw[Yaa]at c2;have hcmp:=zu5 (q:=q) (b0:=b0) (r:=r) h0;obtain⟨hi,hhi⟩:∃hi,hi=q*b0/4294967296:=⟨_,rfl⟩;obtain⟨lo,hlo⟩:∃lo,lo=q*b0%4294967296:=⟨_,rfl⟩;rw[<-hhi,<-hlo]at c1 hcmp;have hlol:lo<4294967296:=by omega
 have hhil:hi<4294967296:=by
  have:=zh1 hq hb0;omega
 by_cases hle:q*b0<=r*4294967296+a0
 ·right;have hqg:=F1 q hq hg (zkf hv hle);subst hqg;have hc:=hcmp.2 hle;clear hhi hlo;rcases hc with hc | ⟨rfl,hc2⟩
  ·refine⟨_,rfl,?_,?_⟩<;>simp -implicitDefEqProofs[l119_0,Zg3,c1,hc]
  ·refine⟨_,rfl,?_,?_⟩<;>simp -implicitDefEqProofs[l119_0,Zg3,c1,hc2]
 ·have hgt:r*4294967296+a0<q*b0:=by omega
  have hlt:=F2 q (zxt hv hgt);have hc:¬ (hi<r\/hi=r/\lo<=a0):=fun h=>hle (hcmp.1 h);have hq1:q-1<4294967296:=by omega
  have hs:Zge q 1=q-1:=by unfold Zge;omega
  have hqb:(q-1)*b1+(r+b1)=a2*4294967296+a1:=by
   have:q*b1=(q-1)*b1+b1:=by
    rw[<-Nat.succ_mul];congr 1;omega
   omega
  by_cases hcar:4294967296<=r+b1
  ·right;have hmul:=zh1 hq1 hb0;have hqg:=F1 (q-1) hq1 (by omega) (zkf hqb (by
    generalize (q-1)*b0=v at *
    omega))
   have m2:0<(r+b1)/4294967296:=Nat.div_pos hcar (by decide);have m3:(r+b1)/4294967296<4294967296:=by omega
   have hr2:¬ hi<r:=fun h=>hc (.inl h);clear hhi hlo;refine⟨_,rfl,?_,?_⟩<;>by_cases he:hi=r
   ·have hc3:¬ lo<=a0:=fun h=>hc (.inr ⟨he,h⟩);subst he;simp -implicitDefEqProofs[l119_0,Zg3,c1,c2,hs,hc3,m2]
   ·simp -implicitDefEqProofs[l119_0,Zg3,c1,c2,hs,hr2,he,m2]
   ·have hc3:¬ lo<=a0:=fun h=>hc (.inr ⟨he,h⟩);subst he;simp -implicitDefEqProofs[l119_0,Zg3,c1,c2,hs,hc3,m2,hqg]
   ·simp -implicitDefEqProofs[l119_0,Zg3,c1,c2,hs,hr2,he,m2,hqg]
  ·left;refine⟨(q-1,r+b1),⟨hq1,by simp only;omega,hqb,by simp only;omega⟩,by simp only;omega,?_⟩;have m1:(r+b1)%4294967296=r+b1:=Yu (by omega);have m2:(r+b1)/4294967296=0:=Ybs (by omega);rw[m1,m2]at c2;have hr2:¬ hi<r:=fun h=>hc (.inl h);clear hhi hlo;by_cases he:hi=r
   ·have hc3:¬ lo<=a0:=fun h=>hc (.inr ⟨he,h⟩);subst he;simp -implicitDefEqProofs[l119_0,Zg3,c1,c2,hs,hc3]
   ·simp -implicitDefEqProofs[l119_0,Zg3,c1,c2,hs,hr2,he]
end
section
variable{T:Tbl}[Zn T][Zz T][Zw T][Zr T]
def z1f{n two:Nat}(h:0<two):(∀q,q<4294967296->min 4294967295 (n/two)<=q->q*two<=n->q=min 4294967295 (n/two))/\(∀q,n<q*two->min 4294967295 (n/two)<q):=by
 constructor
 ·intro q hq hg hle;have:=(Yb8 h).2 hle;omega
 ·intro q hlt;have:=(Ybb h).2 hlt;omega
def zxu{A a0 b1 b0:Nat}(h0:a0<4294967296)(hp:0<b1):A*4294967296+a0<(A/b1+1)*(b1*4294967296+b0):=by
 have h1:A<(A/b1+1)*b1:=by rw[Yaf];exact Nat.lt_mul_div_succ A hp
 refine Nat.lt_of_lt_of_eq ?_ (zhz (A/b1+1) b1 b0).symm;generalize (A/b1+1)*b1=u at *
 generalize (A/b1+1)*b0=v at *
 omega
end
section
variable{T:Tbl}[Zn T][Zr T]
def zrl(a2 a1 a0 b1 b0:Nat)(h2:a2<4294967296)(h1:a1<4294967296)(h0:a0<4294967296)(hb1:b1<4294967296)(hb0:b0<4294967296)(hp:0<b1) :
  Zb T 119 [u32 a2,u32 a1,u32 a0,u32 b1,u32 b0]=some (u32 (min 4294967295 (((a2*4294967296+a1)*4294967296+a0)/(b1*4294967296+b0)))):=by
 obtain⟨F1,F2⟩:=z1f (n:=(a2*4294967296+a1)*4294967296+a0) (two:=b1*4294967296+b0) (by omega);have hgle:=Yee 4294967295 (((a2*4294967296+a1)*4294967296+a0)/(b1*4294967296+b0));generalize min 4294967295 (((a2*4294967296+a1)*4294967296+a0)/(b1*4294967296+b0))=g at *
 by_cases hlt:a2<b1
 ·have hd:=zml (T:=T) a2 a1 b1 hlt h1 hb1;have hql:(a2*4294967296+a1)/b1<4294967296:=zzg hlt h1;have hrl:(a2*4294967296+a1)%b1<b1:=Ybh _ hp;have hdm:=Yca (a2*4294967296+a1) b1;rw[Yaf]at hdm;obtain⟨_,rfl,hr⟩:=zu6 (T:=T) a2 a1 a0 b1 b0 g h0 hb1 hb0 F1 F2 ((a2*4294967296+a1)/b1,(a2*4294967296+a1)%b1) ⟨hql,by simp only;omega,hdm,by have:=F2 _ (zxu (A:=a2*4294967296+a1) (b0:=b0) h0 hp);simp only;omega⟩;unfold Zg3 at hr;simp at hr;rw[f119 _ rfl,b119];simp -implicitDefEqProofs[hd,hr]
 ·have hd:=zro (T:=T) a2 a1 b1 (by omega) h2 h1;have ha:=zd5 (T:=T) a1 b1 0 h1 hb1 (by decide);rw[Yaa]at ha;by_cases hbig:b1<a2\/4294967296<=a1+b1
  ·have hg:4294967295=g:=by
    refine F1 4294967295 (by decide) hgle ?_;refine zkf (r:=a2*4294967296+a1-4294967295*b1) (by omega) ?_;omega
   subst hg;rw[f119 _ rfl,b119];rcases Yv b1 a2 with hb | hb
   ·simp -implicitDefEqProofs[hd,ha,hb]
   ·have hc:4294967296<=a1+b1:=by omega
    have hb2:¬ b1<a2:=by omega
    have m2:0<(a1+b1)/4294967296:=Nat.div_pos hc (by decide);simp -implicitDefEqProofs[hd,ha,hb2,m2]
  ·have hb2:¬ b1<a2:=fun h=>hbig (.inl h);have hc:a1+b1<4294967296:=by omega
   have m1:(a1+b1)%4294967296=a1+b1:=Yu hc;have m2:(a1+b1)/4294967296=0:=Ybs hc;rw[m1,m2]at ha;obtain⟨_,rfl,hr⟩:=zu6 (T:=T) a2 a1 a0 b1 b0 g h0 hb1 hb0 F1 F2 (4294967295,a1+b1) ⟨Y1 4294967295,hc,by simp only;omega,hgle⟩;unfold Zg3 at hr;simp at hr;have hb3:a2<=b1:=by omega
   rw[f119 _ rfl,b119];simp -implicitDefEqProofs[hd,ha,hb2,hr]
end
def zwa{V b d three two v0 b0:Nat}(hV:V=three*d+v0)(hv:v0<d)(hb:b=two*d+b0)(hb0:b0<d)(h2:4294967296<=two)(hlt:V<4294967296*b) :
  V/b<=min 4294967295 (three/two)/\min 4294967295 (three/two)<=V/b+1:=by
 have hd:0<d:=by omega
 have htp:0<two:=by omega
 have hbp:0<b:=by
  have:=Nat.mul_pos htp hd;omega
 have hq:V/b<4294967296:=Ybi (by rw[Yaf];exact hlt);have hqb:V/b*b<=V:=Nat.div_mul_le_self V b;have hqb2:V<(V/b+1)*b:=by rw[Yaf];exact Nat.lt_mul_div_succ V hbp
 generalize V/b=q at *
 constructor
 ·refine Nat.le_min.2 ⟨by omega,(Yb8 htp).2 ?_⟩;have h3:q*two*d<(three+1)*d:=by
   have:q*two*d<=q*b:=by rw[hb,Yao,Yaw];omega
   rw[Yby,Yd1];omega
  have:=Nat.lt_of_mul_lt_mul_right h3;omega
 ·generalize hx:min 4294967295 (three/two)=x;have hx1:x<=three/two:=by rw[<-hx];exact Nat.min_le_right _ _
  have hx2:x<=4294967295:=by rw[<-hx];exact Yee _ _
  have hx3:x*two<=three:=(Yb8 htp).1 hx1;rcases Yv (q+1) x with h | h
  ·exfalso;have e1:(q+2)*two<=x*two:=Y2 _ h;have e2:(q+2)*two*d<=three*d:=Y2 _ (Yd e1 hx3);have e3:(q+1)*b=(q+1)*two*d+(q+1)*b0:=by rw[hb,Yao,Yaw]
   have e4:(q+1)*b0<=(q+1)*d:=Ya2 _ (Yda hb0);have e5:(q+2)*two*d=(q+1)*two*d+two*d:=by rw[show q+2=(q+1)+1 from rfl,Yby (q+1) 1 two,Yd1,Yby]
   have e6:(q+1)*d<=two*d:=Y2 _ (by omega);omega
  ·exact h
def zxx{vA vA' t p V x r vb vm T:Nat}(h0:vA=t+p*V)(h1:vA'=t+p*r)(hV:V=vb*x+r)(hT:T=vA+p*4294967296*(vm*vb)) :
  T=vA'+p*((x+4294967296*vm)*vb):=by grind
def zvb{V b x Bo vm p:Nat}(hb:0<b)(h1:V/b<=x)(h2:x<=V/b+1)(_hp:V<p)(hm:vm<p)(hBo:Bo<=1)(h:vm+x*b=V+p*Bo) :
  (Bo=0->x=V/b/\vm=V%b)/\(Bo=1->x=V/b+1/\vm+b=V%b+p):=by
 have hd:=Yca V b;constructor
 ·intro h0;subst h0;have hx:x=V/b:=by
   have:x*b<=V:=by omega
   have:=(Yb8 hb).2 this;omega
  grind
 ·intro h0;subst h0;have hx:x=V/b+1:=by
   grind
  grind
def zvc{vm b r p D vm':Nat}(_hr:r<p)(h:vm+b=r+p)(hm:vm'<p)(hD:D<=1)(hg:vm'+p*D=vm+b):vm'=r:=by
 rcases Ybo D with h0 | h0
 all_goals grind
def zmm{α:Type}{A:List α}{i k:Nat}(h:i=k)(hi:i<A.length)(hk:k<A.length):A[i]'hi=A[k]'hk:=by grind
def zkh(A:List UInt32)(j n:Nat):val (A.drop j)=val ((A.drop j).take n)+4294967296^((A.drop j).take n).length*val (A.drop (j+n)):=by
 grind[List.take_append_drop,zai,List.drop_drop]
def zrq{q x:Nat}(h:x=q+1)(hx:x<4294967296):Zge x 1=q:=by unfold Zge;omega
def zvd{A m1:List UInt32}{j n:Nat}(hm1:m1.length=n+1)(hj:j+n<A.length) :
  (A.take j++(m1++A.drop (j+(n+1)))).take j=A.take j/\(A.take j++(m1++A.drop (j+(n+1)))).drop (j+(n+1))=A.drop (j+(n+1)) /\
  ((A.take j++(m1++A.drop (j+(n+1)))).drop j).take (n+1)=m1/\(A.take j++(m1++A.drop (j+(n+1)))).length=A.length:=by
 have htj:(A.take j).length=j:=by grind
 refine⟨?_,?_,?_,?_⟩
 ·rw[Ybt (by omega),Yb (by omega)]
 ·rw[<-Yei,Ybu (by omega),Ya9 (l:=A.take j) (by omega),Ybn,Ybu (by omega),Ya9 (by omega),Ybn]
 all_goals grind
def zve{D:List UInt32}{n:Nat}(h:n+2<D.length):val (D.take (n+3))=(((D[n+2]'h).toNat*4294967296+(D[n+1]'(by omega)).toNat)*4294967296+(D[n]'(by omega)).toNat)*4294967296^n+val (D.take n):=by
 grind[zae]
def z1h{D:List UInt32}{n:Nat}(h:n+1<D.length):val (D.take (n+2))=((D[n+1]'h).toNat*4294967296+(D[n]'(by omega)).toNat)*4294967296^n+val (D.take n):=by
 grind[zae]
section
variable{T:Tbl}[Zn T][Zr T]
def zrr(A b:List UInt32)(j x:Nat)(hx:x<4294967296)(hj:j+b.length<A.length)(hl:A.length<=1000000) :
  ∃(B:Nat) (m:List UInt32),B<=1/\m.length=b.length+1/\val m+x*val b=val ((A.drop j).take (b.length+1))+4294967296^(b.length+1)*B /\
   Zd0 T 120 [.bs (.bor 0) 0 1 0 A.length,.i .i64 j,.sl (Za b) .an,u32 x] [(.bor 0,⟨0,.own,1,Za A⟩)] =
    some (.b (decide (0<B)),[(.bor 0,⟨0,.own,1,Za (A.take j++(m++A.drop (j+(b.length+1))))⟩)]):=by
 have h1:(A.take j).length=j:=by grind
 have h2:(A.drop j).length=A.length-j:=by simp
 obtain⟨B,m,hB,hm,hv,hc⟩:=zvu (T:=T) (A.take j) (A.drop j) b x hx (by omega) (by omega)
 grind[List.take_append_drop,List.drop_drop]
end
section
variable{T:Tbl}[Zn T][Zr T]
def zrs(A b:List UInt32)(j:Nat)(hj:j+b.length<A.length)(hl:A.length<=1000000) :
  ∃(D:Nat) (m:List UInt32),D<=1/\m.length=b.length+1/\val m+4294967296^(b.length+1)*D=val ((A.drop j).take (b.length+1))+val b /\
   Zd0 T 121 [.bs (.bor 0) 0 1 0 A.length,.i .i64 j,.sl (Za b) .an] [(.bor 0,⟨0,.own,1,Za A⟩)] =
    some (.tup [],[(.bor 0,⟨0,.own,1,Za (A.take j++(m++A.drop (j+(b.length+1))))⟩)]):=by
 have h1:(A.take j).length=j:=by grind
 have h2:(A.drop j).length=A.length-j:=by simp
 obtain⟨D,m,hD,hm,hv,hc⟩:=zvv (T:=T) (A.take j) (A.drop j) b (by omega) (by omega);rw[h1,h2,show j+(A.length-j)=A.length by omega,Yau,Yei]at hc;exact⟨D,m,hD,hm,hv,hc⟩
end
section
variable{T:Tbl}[Zn T][Zz T][Zw T][Zr T]
def Zjm(b:List UInt32)(LA LQ:Nat)(y:Nat×List UInt32×List UInt32):St:=
 ⟨[(0,.bs (.bor 0) 0 1 0 LA),(1,.sl (Za b) .an),(5,.i .i64 b.length),(6,.bs (.loc 15) 3 1 0 LQ),(7,.i .i64 ((y.1:Int)-1))],
  [(.bor 0,⟨0,.own,1,Za y.2.1⟩),(.loc 15,⟨3,.own,1,Za (List.replicate y.1 0++y.2.2)⟩)],5⟩
end
section
variable{T:Tbl}[Zn T][Zr T]
set_option maxHeartbeats 2000000 in
def z1i(A0 b:List UInt32)(LQ nb:Nat)(hnb:b.length=nb+2)(hb1:0<(b[nb+1]'(by omega)).toNat)(hl:A0.length<=1000000)(hA0:A0.length=LQ+b.length):∀y:Nat×List UInt32×List UInt32,
  (y.1<=LQ/\y.2.1.length=A0.length/\y.2.2.length=LQ-y.1/\val (y.2.1.drop y.1)<val b/\val A0=val y.2.1+4294967296^y.1*(val y.2.2*val b)) ->
  ∃r,(∃Q A:List UInt32,r=(Ex.n,(⟨[(6,.bs (.loc 15) 3 1 0 LQ)],[(.bor 0,⟨0,.own,1,Za A⟩),(.loc 15,⟨3,.own,1,Za Q⟩)],5⟩:St)) /\
   Q.length=LQ/\A.length=A0.length/\val Q=val A0/val b/\val A=val A0%val b)/\Zu T 1 0 (.norm false [6]) l93_0 (Zjm b A0.length LQ y)=some r:=by
 refine za6 _ _ (fun y=>y.1) _ ?_
 rintro⟨k,A,m⟩ ⟨hk,hA,hm,hlt,hv⟩
 simp only at hk hA hm hlt hv;have hbp:0<val b:=by omega
 cases k with
 | zero=>
  right;rw[Yef,Yd1]at hv;rw[Yat]at hlt;refine⟨_,⟨m,A,rfl,by omega,hA,?_,?_⟩,?_,?_⟩
  ·rw[hv,Nat.add_mul_div_right _ _ hbp,Ybs hlt,Yar]
  ·rw[hv,Nat.add_mul_mod_self_right,Yu hlt]
  ·simp -implicitDefEqProofs[l93_0,Zjm]
  ·simp -implicitDefEqProofs[l93_0,Zjm]
 | succ j=>
  left
  -- the window
  have hD:(A.drop j).length=A.length-j:=by simp
  have hDn:nb+2<(A.drop j).length:=by omega
  have hVlt:val (A.drop j)<4294967296*val b:=by
   have:=Yp (show j<A.length by omega);rw[this,zan];have:=zal (A[j]'(by omega));omega
  have hbB:=zay b;rw[hnb]at hbB;have hsplit:=zkh A j (nb+3);have hlen3:((A.drop j).take (nb+3)).length=nb+3:=by simp;omega
  rw[hlen3]at hsplit;have hz:val (A.drop (j+(nb+3)))=0:=by
   rcases Ybo (val (A.drop (j+(nb+3)))) with h | h
   ·exact h
   ·exfalso;have h1:=Ya2 (4294967296^(nb+3)) h;rw[Yac 4294967296 (nb+2)]at h1 hsplit;generalize 4294967296^(nb+2)=p at *
    generalize p*4294967296*val (A.drop (j+(nb+3)))=u at *
    omega
  rw[hz,Ya0,Yaa]at hsplit;have h3:=zve hDn;have h2:=z1h (D:=b) (n:=nb) (by omega);rw[zbh (a:=b) (i:=nb+2) (by omega)]at h2;have hv0:=zay ((A.drop j).take nb);have hb0:=zay (b.take nb);rw[show ((A.drop j).take nb).length=nb by simp;omega]at hv0;rw[show (b.take nb).length=nb by simp;omega]at hb0;obtain⟨V,hV⟩:∃V,V=val (A.drop j):=⟨_,rfl⟩;rw[<-hV]at hsplit hVlt;rw[<-hsplit]at h3;have hg:=zwa (V:=V) (b:=val b) h3 hv0 h2 hb0 (by omega) hVlt;obtain⟨p0,hp0⟩:∃p,p=j+b.length:=⟨_,rfl⟩;obtain⟨p1,hp1⟩:∃p,p=j+(nb+1):=⟨_,rfl⟩;obtain⟨p2,hp2⟩:∃p,p=j+nb:=⟨_,rfl⟩;obtain⟨q1,hq1⟩:∃p,p=nb+1:=⟨_,rfl⟩;have c1:p0<A.length:=by omega
  have c2:p1<A.length:=by omega
  have c3:p2<A.length:=by omega
  have c4:q1<b.length:=by omega
  have c5:nb<b.length:=by omega
  have e1:(A.drop j)[nb+2]'hDn=A[p0]'c1:=Ydz.trans (zmm (by omega) _ _);have e2:(A.drop j)[nb+1]'(by omega)=A[p1]'c2:=Ydz.trans (zmm (by omega) _ _);have e3:(A.drop j)[nb]'(by omega)=A[p2]'c3:=Ydz.trans (zmm (by omega) _ _);have e4:b[nb+1]'(by omega)=b[q1]'c4:=zmm (by omega) _ _;rw[e1,e2,e3,e4]at hg;rw[e4]at hb1;have hgs:=zrl (T:=T) (A[p0]'c1).toNat (A[p1]'c2).toNat (A[p2]'c3).toNat (b[q1]'c4).toNat (b[nb]'c5).toNat (zal _) (zal _) (zal _) (zal _) (zal _) hb1;obtain⟨x,hxd⟩:∃x,x=min 4294967295 ((((A[p0]'c1).toNat*4294967296+(A[p1]'c2).toNat)*4294967296+(A[p2]'c3).toNat)/((b[q1]'c4).toNat*4294967296+(b[nb]'c5).toNat)):=⟨_,rfl⟩;rw[<-hxd]at hg hgs;have hx:x<4294967296:=by rw[hxd];exact Yc1 (Yee _ _) (by decide)
  clear hxd;obtain⟨Bo,m1,hBo,hm1,hvm1,hct⟩:=zrr (T:=T) A b j x hx (by omega) (by omega);rw[hnb,show nb+2+1=nb+3 from rfl,<-hsplit]at hvm1;have hm1l:=zay m1;rw[hm1,hnb,show nb+2+1=nb+3 from rfl]at hm1l;have hVp:V<4294967296^(nb+3):=by
   rw[Yac 4294967296 (nb+2)];generalize 4294967296^(nb+2)=p at *
   omega
  have hpk:=zvb hbp hg.1 hg.2 hVp hm1l hBo hvm1;have hql:V/val b<4294967296:=Ybi (by rw[Yaf];exact hVlt);have hzb:val (A.drop (j+(b.length+1)))=0:=by rw[hnb];exact hz
  have htj:(A.take j).length=j:=by simp;omega
  have fin:∀m2:List UInt32,m2.length=b.length+1->val m2=V%val b ->
    (A.take j++(m2++A.drop (j+(b.length+1)))).length=A0.length/\val ((A.take j++(m2++A.drop (j+(b.length+1)))).drop j)<val b /\
    val A0=val (A.take j++(m2++A.drop (j+(b.length+1))))+4294967296^j*(val (w32 (V/val b)::m)*val b):=by
   intro m2 hm2 hvm2;refine⟨by simp[hm2];omega,?_,?_⟩
   ·rw[Ybu (by omega),Ya9 (by omega),Ybn,zai,hzb,Ya0,Yaa,hvm2];exact Ybh _ hbp
   ·have t1:val A=val (A.take j)+4294967296^j*V:=by rw[hV];exact zm1 A j (by omega)
    have t2:val (A.take j++(m2++A.drop (j+(b.length+1))))=val (A.take j)+4294967296^j*(V%val b):=by
     rw[zai,zai,hzb,Ya0,Yaa,hvm2,htj]
    rw[zan,zaf hql];exact zxx t1 t2 (Yca V (val b)).symm hv
  clear hv hvm1 hsplit h3 h2 hg hbB hVlt hlt hzb hz hv0 hb0 hm1l hVp;have hw1:IntKind.wrap .i64 ((j:Int)-1)=(j:Int)-1:=zab _ (by omega);have hw2:IntKind.wrap .i64 ((j:Int)+b.length)=((p0:Nat):Int):=by rw[zab _ (by omega)];omega
  have hw3:IntKind.wrap .i64 ((p0:Int)-1)=((p1:Nat):Int):=by rw[zab _ (by omega)];omega
  have hw4:IntKind.wrap .i64 ((p0:Int)-2)=((p2:Nat):Int):=by rw[zab _ (by omega)];omega
  have hw5:IntKind.wrap .i64 ((b.length:Int)-1)=((q1:Nat):Int):=by rw[zab _ (by omega)];omega
  have hw6:IntKind.wrap .i64 ((b.length:Int)-2)=((nb:Nat):Int):=by rw[zab _ (by omega)];omega
  have hj1:j<LQ:=by omega
  rw[hA]at hct;have hml:(w32 (V/val b)::m).length=LQ-j:=by simp[hm];omega
  have hjb:j+b.length<A.length:=by omega
  have hnb3:nb+3=b.length+1:=by omega
  have d1:p0<A0.length:=by omega
  have d2:p1<A0.length:=by omega
  have d3:p2<A0.length:=by omega
  rcases Ybo Bo with h0 | h0
  ·obtain⟨hxq,hvm⟩:=hpk.1 h0;subst h0;subst hxq;have hset:=zkl (m:=m) (j:=j) (w32 (V/val b));obtain⟨f1,f2,f3⟩:=fin m1 hm1 hvm;refine⟨(j,A.take j++(m1++A.drop (j+(b.length+1))),w32 (V/val b)::m),⟨Yda hj1,f1,hml,f2,f3⟩,Y1 j,?_⟩;simp -implicitDefEqProofs[l93_0,Zjm,hw1,hw2,hw3,hw4,hw5,hw6,c4,c5,d1,d2,d3,hA,hj1,hgs,hct,hset,zkm,zbm _ _ _ hx]
  ·have h1:Bo=1:=by omega
   obtain⟨hxq,hvm⟩:=hpk.2 h1;subst h1;have hset:=zkl (m:=m) (j:=j) (w32 (V/val b));obtain⟨t1,t2,t3,t4⟩:=zvd (A:=A) hm1 hjb;rw[hA]at t4;obtain⟨D,m2,hD,hm2,hvm2,hcg⟩:=zrs (T:=T) (A.take j++(m1++A.drop (j+(b.length+1)))) b j (by rw[t4,<-hA];exact hjb) (by rw[t4];exact hl);rw[t1,t2,t4]at hcg;rw[t3]at hvm2;have hm2l:=zay m2;rw[hm2]at hm2l;have hVb:=Ybh V hbp;have hbq:val b<4294967296^(b.length+1):=Ym (zay b) (Yt (by decide) (Ybf _));rw[hnb3]at hvm;have hv2:=zvc (Nat.lt_trans hVb hbq) hvm hm2l hD hvm2;have hsx:=zrq hxq hx;obtain⟨f1,f2,f3⟩:=fin m2 hm2 hv2;refine⟨(j,A.take j++(m2++A.drop (j+(b.length+1))),w32 (V/val b)::m),⟨Yda hj1,f1,hml,f2,f3⟩,Y1 j,?_⟩;simp -implicitDefEqProofs[l93_0,Zjm,hw1,hw2,hw3,hw4,hw5,hw6,c4,c5,d1,d2,d3,hA,hj1,hgs,hct,hsx,hcg,hset,zkm,zbm _ _ _ hql]
end
section
variable{T:Tbl}[Zn T][Zr T]
def zvf(A b:List UInt32)(LQ nb:Nat)(hnb:b.length=nb+2)(hb1:0<(b[nb+1]'(by omega)).toNat)(hl:A.length<=1000000)(hA:A.length=LQ+b.length)(hlt:val (A.drop LQ)<val b) :
  ∃Q R:List UInt32,Q.length=LQ/\R.length=A.length/\val Q=val A/val b/\val R=val A%val b /\
   Zd0 T 93 [.bs (.bor 0) 0 1 0 A.length,.sl (Za b) .an] [(.bor 0,⟨0,.own,1,Za A⟩)]=some (.bs (.loc 15) 3 1 0 LQ,[(.bor 0,⟨0,.own,1,Za R⟩),(.loc 15,⟨3,.own,1,Za Q⟩)]):=by
 obtain⟨_,⟨Q,R,rfl,hQ,hR,hq,hr⟩,hlp⟩:=z1i (T:=T) A b LQ nb hnb hb1 hl hA (LQ,A,[]) ⟨Yi _,rfl,by simp,hlt,by simp⟩;have hw:IntKind.wrap .i64 ((A.length:Int)-b.length)=(LQ:Int):=by rw[zab _ (by omega)];omega
 have hw1:IntKind.wrap .i64 ((LQ:Int)-1)=(LQ:Int)-1:=zab _ (by omega);have h1:(LQ:Int)<=4294967296:=by omega
 refine⟨Q,R,hQ,hR,hq,hr,?_⟩;unfold Zjm at hlp;simp at hlp;rw[zdp Zr.h93 rfl,b93];simp -implicitDefEqProofs[hw,hw1,h1,hlp]
end
section
def b2071:AX:=QZ "09LGYiSnOy397GTu0uuZU"
def l2092_0:AX:=QZ "2AJVn8KZBPHJsaA9qPOkz5Dv0Ln7GWmsKDtlikV3k1mjdcrpYXS_exAOmMIObnumu4hpXHKum3v_Jigr8kg8AWqK6tnncJhhKcUbxHNMlxYT"
def b2092:AX:=(fun p0=>QY [p0] [(AV.i .i64 4096)] "YNJ4vVGLDbO9ddW6qvV1v6POmiJgZz7NsW.hm9aN9RTJAdHctxMmMu_ncL5AXjbsO.5kGDzZlLXhsFWxilqqRFxjM27DAfck") l2092_0
def b62:AX:=QZ "DViWdNdWJF.c_ChWpj51mmyVS4bH8FuN0ilIvVw85vqzBzjb_Z8JiEarQWMCVQsGX0jXtP8gfJSPNIfNcOe7GJSzURNKRy0bk3QZntm1OGGPeX5wnJUz5uRnyZuNOx9W90oe1lWKKWzuTe7WgvhZYGsXVe9AZW2IrSt97H9NOYs2_pDzweaFZdS8mn3GtXcIilpw3rBIgmOprFKhKNwvZJmRTVCtbMJfJQ8615e0ZGsUR0PxcT3S1XeRXigQIKA_DKBh"
abbrev row2071:AFx:=⟨1,6,[.t 2],b2071,(some [false]),false⟩
abbrev row2092:AFx:=⟨2,57,[.t 4],b2092,(some [false,false]),false⟩
abbrev row62:AFx:=⟨2,65,[.t 4,.t 5,.t 6],b62,none,false⟩
class Zv (T:Tbl):Prop where
 h2071:Tr T 2071=some row2071
 h2092:Tr T 2092=some row2092
 h62:Tr T 62=some row62
attribute [simp] Zv.h2071 Zv.h2092 Zv.h62
end
def z1q(x:Nat):x<2^Zab x:=by
 unfold Zab;split
 ·subst x;decide
 ·exact Ycw
def zvw{x:Nat}(h:x<4294967296):Zab x<=32:=by
 unfold Zab;split
 ·omega
 ·rename_i h0;have:=(Yek h0 (k:=32)).2 (by simpa using h);omega
def zzj{n k:Nat}(h:(ofN n).length=k+1):4294967296^k<=n:=by
 rcases Yv n (4294967296^k) with h1 | h1
 ·have:=zaj h1;omega
 ·exact h1
def z60{b:List UInt32}{nb:Nat}(h:b.length=nb+2)(hb:b=ofN (val b)) :
  (ofN (val b*2^(32-Zab (b[nb+1]'(by omega)).toNat))).length=nb+2:=by
 have hl:=zvw (zal (b[nb+1]'(by omega)));have hs:=z1q (b[nb+1]'(by omega)).toNat;have h1:val b=val (b.take (nb+1))+4294967296^(nb+1)*(b[nb+1]'(by omega)).toNat:=by
  have:=zae (Ya (show nb+1<b.length by omega))
  rwa [zbh (by omega)]at this
 have h2:=zay (b.take (nb+1));rw[show (b.take (nb+1)).length=nb+1 by simp;omega]at h2;generalize (b[nb+1]'(by omega)).toNat=t at *
 refine Nat.le_antisymm (zaj ?_) ?_
 ·have h3:val b<4294967296^(nb+1)*2^Zab t:=by
   have:4294967296^(nb+1)*(t+1)<=4294967296^(nb+1)*2^Zab t:=Ya2 _ hs;rw[Yao,Ydm]at this;omega
  have h4:2^Zab t*2^(32-Zab t)=4294967296:=by
   rw[<-Yb2,show Zab t+(32-Zab t)=32 by omega]
  have h5:=Ydp h3 (Ybr (n:=32-Zab t) (show 0<2 by decide));rw[Yaw,h4,<-Yac]at h5;exact h5
 ·have h3:val b<=val b*2^(32-Zab t):=Yd0 _ (Ybr (by decide));have:=zbb h3;rw[<-hb]at this;omega
def z1r{b:List UInt32}{nb:Nat}(h:b.length=nb+2)(hb:b=ofN (val b)):0<(b[nb+1]'(by omega)).toNat:=by
 have h1:val b=val (b.take (nb+1))+4294967296^(nb+1)*(b[nb+1]'(by omega)).toNat:=by
  have:=zae (Ya (show nb+1<b.length by omega))
  rwa [zbh (by omega)]at this
 have h2:=zay (b.take (nb+1));rw[show (b.take (nb+1)).length=nb+1 by simp;omega]at h2;have h3:4294967296^(nb+1)<=val b:=zzj (by rw[<-hb];omega);rcases Ybo (b[nb+1]'(by omega)).toNat with h0 | h0
 ·rw[h0,Ya0]at h1;omega
 ·exact h0
def zh6(l:List UInt32):val (l++[0])=val l:=by rw[zai];simp
def z61{A b:List UInt32}{nb L:Nat}(hA:(A++[0]).length=L+b.length)(hb:b.length=nb+2)(hbo:b=ofN (val b)):val ((A++[0]).drop L)<val b:=by
 have hl:L<=A.length:=by simp at hA;omega
 rw[Ybu hl,zh6];have h1:=zay (A.drop L);have h2:(A.drop L).length=nb+1:=by simp at hA ⊢;omega
 rw[h2]at h1;exact Ym h1 (zzj (by rw[<-hbo];omega))
section
variable{T:Tbl}[Zn T][Zv T]
def zmw(a:List UInt32)(hl:a.length<=1000000):Zd0 T 2071 [.sl (Za a) .an] [] =
  some (.bs (.fld (.loc 5) 10) 1 1 0 (ofN (val a)).length,[(.fld (.loc 5) 10,⟨1,.own,1,Za (ofN (val a))⟩)]):=by
 have h1:=zac a;have h2:=zco (T:=T) (ofN (val a)) 0 (by omega);simp only[Y8,Yaa,List.replicate_zero,Ybg]at h2;rw[zdp Zv.h2071 rfl,b2071];simp -implicitDefEqProofs[zbn a (by omega),h2]
end
section
variable{T:Tbl}[Zn T][Zv T]
def zh7(a:List UInt32)(n:Nat)(hn:n<=4096)(hl:a.length<=100000):Zd0 T 2092 [.sl (Za a) .an,.i .i64 n] [] =
  some (.bs (.fld (.fld (.loc 56) 0) 6010) 1 1 0 (ofN (val a*2^n)).length,[(.fld (.fld (.loc 56) 0) 6010,⟨1,.own,1,Za (ofN (val a*2^n))⟩)]):=by
 obtain⟨_,⟨c,m,rfl,hm,hc,hv⟩,hr⟩:=zv3 (T:=T) (List.replicate (n/32) 0) a (n%32) (Ybh _ (by decide)) (by simp;omega) (0,0,[]) ⟨Y4 _,Ybr (by decide),rfl,by simp⟩;have hc32:c<4294967296:=Ym hc (by
  have:2^(n%32)<=2^32:=Yt (by decide) (by omega);simpa using this)
 have hval:val (List.replicate (n/32) 0++(m++[w32 c]))=val a*2^n:=by
  rw[zai,za8,Ycj,zai,hm];simp only[zan,zbx,Ya0,Yaa,zaf hc32,Yar];rw[hv,zyl,<-Yaw,<-Yb2,show 32*(n/32)+n%32=n by omega,Yaf]
 have hlen:(List.replicate (n/32) 0++(m++[w32 c])).length=n/32+a.length+1:=by simp[hm];omega
 have hnm:=zmw (T:=T) (List.replicate (n/32) 0++(m++[w32 c])) (by omega);rw[hval]at hnm;rw[show l92_0=l2092_0 from rfl]at hr;unfold Zkr at hr;generalize List.replicate (n/32) 0++(m++[w32 c])=Q at *
 simp at hr;have hz:List.replicate (n/32) (0:UInt32)++w32 0::List.replicate a.length 0=List.replicate (n/32+a.length+1) 0:=by
  have:w32 0=0:=rfl;rw[this,<-Yba,Ycc,Yap]
 rw[hz]at hr;have hn2:¬ (4096:Int)<(n:Int):=by omega
 have hq:(n:Int).tdiv 32=(n:Int)/32:=Ycr (by omega);have hm2:(n:Int).tmod 32=(n:Int)%32:=Ycs (by omega);have w1:IntKind.wrap .i64 ((n:Int)/32)=(n:Int)/32:=zab (n/32) (by omega);have w2:IntKind.wrap .i64 ((n:Int)/32+a.length)=(n:Int)/32+a.length:=zab _ (by omega);have w3:IntKind.wrap .i64 ((n:Int)/32+a.length+1)=(n:Int)/32+a.length+1:=zab _ (by omega);have p1:(0:Int)<=(n:Int)/32+a.length+1:=by omega
 have p2:(n:Int)/32+a.length+1<=4294967296:=by omega
 have p3:((n:Int)/32+a.length+1).toNat=n/32+a.length+1:=by omega
 have htk:List.take (n/32+a.length+1) Q=Q:=Yb (by omega);rw[zdp Zv.h2092 rfl,b2092];simp -implicitDefEqProofs[hn2,hq,hm2,w1,w2,w3,p1,p2,p3,hr,hnm,htk,hlen]
end
section
variable{T:Tbl}[Zn T][Zz T][Zw T][Zr T][Zv T]
def zfn(a b:List UInt32)(ha:a.length<=90000)(hb:b.length<=90000):Zb T 62 [.sl (Za a) .an,.sl (Za b) .an] =
  some (if val b=0 then .tup [.sl [] .an,.sl [] .an,.b false] else .tup [.sl (Za (ofN (val a/val b))) .an,.sl (Za (ofN (val a%val b))) .an,.b true]):=by
 have hnb:=za7 (T:=T) b (by omega);have hna:=za7 (T:=T) a (by omega);have hlb:=zac b;have hla:=zac a;have hcmp:=zf0 (T:=T) a (ofN (val b)) (by omega) (by omega);rw[zad]at hcmp;rw[zaa Zv.h62 rfl,b62];by_cases h0:val b=0
 ·rw[h0]at hnb;simp -implicitDefEqProofs[hnb,h0]
 ·have h0':ofN (val b)≠[]:=fun h=>h0 (za4.1 h);have hl0:(ofN (val b)).length≠0:=fun h=>h0' (Yag h);by_cases hlt:val a<val b
  ·have hd:=Ybs hlt;have hm:=Yu hlt;simp -implicitDefEqProofs[hnb,h0,hl0,hcmp,zds,hlt,hna,hd,hm]
  ·rcases Yv 1 (ofN (val b)).length with h1 | h1
   ·obtain⟨b',hb'⟩:∃b',b'=ofN (val b):=⟨_,rfl⟩;have hvb:val b'=val b:=by rw[hb',zad]
    have hbo:b'=ofN (val b'):=by rw[hvb,hb']
    rw[<-hb']at hnb hcmp hl0 h1 hlb;obtain⟨nb,hnbl⟩:∃nb,b'.length=nb+2:=⟨b'.length-2,by omega⟩;have hll:=zpz (T:=T) (b'[nb+1]'(by omega));have hbl:=zvw (zal (b'[nb+1]'(by omega)));have hup:=z60 hnbl hbo;obtain⟨s,hs⟩:∃s,s=32-Zab (b'[nb+1]'(by omega)).toNat:=⟨_,rfl⟩;obtain⟨l,hll2⟩:∃l,l=Zab (b'[nb+1]'(by omega)).toNat:=⟨_,rfl⟩;rw[<-hs]at hup;rw[<-hll2]at hll hs hbl;obtain⟨B,hB⟩:∃B,B=ofN (val b'*2^s):=⟨_,rfl⟩;obtain⟨A,hA⟩:∃A,A=ofN (val a*2^s):=⟨_,rfl⟩;have hua:=zh7 (T:=T) a s (by omega) (by omega);have hub:=zh7 (T:=T) b' s (by omega) (by omega);rw[<-hA]at hua;rw[<-hB]at hub hup;have hBo:B=ofN (val B):=by rw[hB,zad]
    have hvA:val A=val a*2^s:=by rw[hA,zad]
    have hvB:val B=val b'*2^s:=by rw[hB,zad]
    have hAB:B.length<=A.length:=by
     rw[hA,hB];exact zbb (Y2 _ (by omega))
    have hAl:A.length<=a.length+1:=by
     rw[hA];refine zaj ?_;have h2:2^s<=2^32:=Yt (by decide) (by omega);rw[Yac];exact Yc1 (Ya2 _ h2) (Ydp (zay a) (by decide))
    have hpos:=z1r (hup) hBo;obtain⟨Q,R,hQ,hR,hvQ,hvR,hlong⟩:=zvf (T:=T) (A++[0]) B (A.length+1-B.length) nb hup hpos (by simp;omega) (by simp;omega) (z61 (by simp;omega) hup hBo);rw[zh6,hvA,hvB,hvb,Nat.mul_div_mul_right _ _ (Ybr (by decide))]at hvQ;rw[zh6,hvA,hvB,hvb,Nat.mul_mod_mul_right]at hvR;have hnq:=za7 (T:=T) Q (by omega);have hAl1:(A++[(0:UInt32)]).length=A.length+1:=by simp
    rw[hAl1]at hlong hR;have hdn:=zv6 (T:=T) R s (by omega) (by omega);rw[hvR,Nat.mul_div_cancel _ (Ybr (by decide))]at hdn;rw[hvQ]at hnq;obtain⟨q1,hq1⟩:∃p,p=nb+1:=⟨_,rfl⟩;have c1:q1<b'.length:=by omega
    have hwt:b'[nb+1]'(by omega)=b'[q1]'c1:=zmm (by omega) _ _;rw[hwt]at hll;have w1:IntKind.wrap .i64 ((b'.length:Int)-1)=(q1:Int):=by rw[zab _ (by omega)];omega
    have w2:IntKind.wrap .i64 (32-(l:Int))=(s:Int):=by rw[zab _ (by omega)];omega
    have c3:A.length<=4294967295:=by omega
    have c4:w32 0=0:=rfl;have c5:A.length+1<=A.length+1-B.length+B.length:=by omega
    have c2:¬ ((b'.length:Int)=1):=by omega
    have t1:List.take (A.length+1) R=R:=Yb (by omega);have t2:List.take (A.length+1-B.length) Q=Q:=Yb (by omega);simp -implicitDefEqProofs[hnb,h0,hl0,hcmp,zds,hlt,w1,w2,c1,c2,c3,c4,c5,hll,hua,hub,hlong,hnq,hdn,t1,t2,hQ,hR]
   ·have hl1:(ofN (val b)).length=1:=by omega
    obtain⟨w,hw⟩:=List.length_eq_one_iff.1 hl1;have hvb:val b=w.toNat:=by
     have:=zad (val b);rw[hw]at this;simp at this;omega
    have hwl:=zal w;have hwd:=zmt (T:=T) a (val b) (by omega) (by omega) (by omega);have hof:=zd6 (T:=T) (val a%val b) (by have:=Ybh (val a) (show 0<val b by omega);omega);have m1:val a%val b%18446744073709551616=val a%val b:=Yu (by have:=Ybh (val a) (show 0<val b by omega);omega);rw[hw]at hnb hcmp;rw[<-hvb]at hwl;simp -implicitDefEqProofs[hnb,h0,hcmp,zds,hlt,hwd,<-hvb,hof,m1]
end
def Zit(n:Nat):List UInt8:=if h:n<10 then [UInt8.ofNat (48+n)] else UInt8.ofNat (48+n%10)::Zit (n/10)
termination_by n
decreasing_by omega
def Zs(n:Nat):List UInt8:=(Zit n).reverse
def Zdp:List AV->Option UInt32
 | [.i .u32 n]=>if 0<=n/\n<4294967296 then some (w32 n.toNat) else none
 | _=>none
def prim68:List AV->Option AV
 | [.sl els .an]=>if els.length<=1000 then (els.mapM Zdp).map fun l=>.s (Zs (val l)) else none
 | _=>none
def zjo(l:List UInt32):(Za l).mapM Zdp=some l:=by
 induction l with
 | nil=>rfl
 | cons x l ih=>
  have hx:=zal x;have h1:Zdp [u32 x.toNat]=some x:=by
   unfold Zdp u32;simp only;rw[if_pos ⟨by omega,by omega⟩];simp
  have e:Za (x::l)=[u32 x.toNat]::Za l:=rfl;rw[e,Ya4,h1,ih]
  rfl
def zia(a:List UInt32)(h:a.length<=1000):prim68 [.sl (Za a) .an]=some (.s (Zs (val a))):=by
 unfold prim68;simp only[zhv,h,if_true,zjo,Ya1]
def Zcn:Nat->List UInt8->Int
 | _,[]=>-1
 | k,c::r=>if c.toNat<48\/57<c.toNat\/k=60 then k else Zcn (k+1) r
def Z1(l:List UInt8):Int:=if l=[] then 0 else Zcn 0 l
theorem zol:∀(k:Nat) (l:List UInt8),-1<=Zcn k l
 | _,[]=>by simp[Zcn]
 | k,c::r=>by
  simp only[Zcn];split
  ·omega
  ·exact zol (k+1) r
theorem zib:∀(k:Nat) (l:List UInt8),k<=60->Zcn k l<=60
 | _,[],_=>by simp[Zcn]
 | k,c::r,h=>by
  simp only[Zcn];split
  ·omega
  ·exact zib (k+1) r (by omega)
theorem zgo:∀(k:Nat) (l:List UInt8),k<=60->Zcn k l<0->k+l.length<=60/\∀c∈l,48<=c.toNat/\c.toNat<=57
 | k,[],h,_=>⟨by simpa using h,by simp⟩
 | k,c::r,h,hw=>by
  simp only[Zcn]at hw;split at hw
  ·omega
  ·rename_i hc;obtain⟨h1,h2⟩:=zgo (k+1) r (by omega) hw;refine⟨by simp;omega,fun d hd=>?_⟩;rcases Yn.1 hd with rfl | hd
   ·omega
   ·exact h2 d hd
def rd(l:List UInt8):Nat:=l.foldl (fun n c=>n*10+(c.toNat-48)) 0
def z1y(l:List UInt8):∀n,l.foldl (fun n c=>n*10+(c.toNat-48)) n=n*10^l.length+rd l:=by
 induction l with
 | nil=>intro n;simp[rd]
 | cons c l ih=>
  intro n;simp only[List.foldl_cons,Yg,rd];rw[ih,ih (0*10+(c.toNat-48)),Yac]
  grind
def zic(a b:List UInt8):rd (a++b)=rd a*10^b.length+rd b:=by
 unfold rd;rw[List.foldl_append,z1y]
 rfl
def zwb(a:List UInt8)(c:UInt8):rd (a++[c])=rd a*10+(c.toNat-48):=by
 rw[zic];simp[rd]
def zm2{l:List UInt8}{i:Nat}{c:UInt8}(h:l[i]? = some c):rd (l.take (i+1))=rd (l.take i)*10+(c.toNat-48):=by
 rw[Yco,h];exact zwb _ _
def zwc{l:List UInt8}(h:∀c∈l,48<=c.toNat/\c.toNat<=57):rd l<10^l.length:=by
 induction l with
 | nil=>simp[rd]
 | cons c l ih=>
  have h1:=ih fun d hd=>h d (Yh _ hd);have h2:=h c Yj;have:rd (c::l)=(c.toNat-48)*10^l.length+rd l:=by
   have:=zic [c] l;simpa[rd]using this
  rw[this,Yg,Yac];have h3:(c.toNat-48)*10^l.length<=9*10^l.length:=Y2 _ (by omega);omega
def zjp{n:Nat}(h:n<10):Zit n=[UInt8.ofNat (48+n)]:=by rw[Zit,dif_pos h]
def zp8{n:Nat}(h:¬ n<10):Zit n=UInt8.ofNat (48+n%10)::Zit (n/10):=by rw[Zit,dif_neg h]
def zcb{n:Nat}(h:n<10):Zs n=[UInt8.ofNat (48+n)]:=by rw[Zs,zjp h];rfl
def zd8{n:Nat}(h:¬ n<10):Zs n=Zs (n/10)++[UInt8.ofNat (48+n%10)]:=by rw[Zs,zp8 h];simp[Zs]
def txN(n:Nat)(s:List UInt8):List UInt8:=if n=0/\s≠[] then s else Zs n++s
def Zdh:Nat->Nat->List UInt8
 | 0,_=>[]
 | k+1,x=>Zdh k (x/10)++[UInt8.ofNat (48+x%10)]
def u8c(l:List UInt8):List AV:=l.map fun b=>u8 b.toNat
@[simp] def z3z(l:List UInt8):(u8c l).length=l.length:=by simp[u8c]
@[simp] def zaia(l:List UInt8):(u8c l).flatMap rfC=[]:=by induction l with | nil=>rfl | cons x l ih=>simp[u8c]
@[simp] def zafh{σn:BId->BId}{σg:Nat->Nat}(l:List UInt8):(u8c l).map (fun c=>rlC σn σg (wkA c))=u8c l:=by induction l with | nil=>rfl | cons x l ih=>simp[u8c]
@[simp] def zym(l:List UInt8):(u8c l).all pureC=true:=by induction l with | nil=>rfl | cons x l ih=>simp[u8c]
@[simp] def z63(l:List UInt8):(∀x,x∈u8c l->pureC x=true)=True:=by
 have:=zym l;rw[Yl]at this;simpa using this
def z1z{l:List UInt8}{j d:Nat}(h:d<256)(hj:j<l.length):(u8c l).take j++u8 d::(u8c l).drop (j+1)=u8c (l.set j (UInt8.ofNat d)):=by
 rw[Ycz,if_pos hj];simp[u8c,List.map_take,List.map_drop,Yu h]
theorem ze1:∀k x,(Zdh k x).length=k
 | 0,_=>rfl
 | k+1,x=>by simp[Zdh,ze1 k]
def zid(x:Nat):Zdh 0 x=[]:=rfl
def zd9(k x:Nat):Zdh (k+1) x=Zdh k (x/10)++[UInt8.ofNat (48+x%10)]:=rfl
def zyn{m:List UInt8}{j:Nat}(w:UInt8):(List.replicate (j+1) 0++m).set j w=List.replicate j 0++w::m:=by
 rw[List.set_append_left j w (by simp),List.replicate_succ',Yai j w (by simp)];simp
def zyo(m:List UInt8):((u8c m).map fun c=>[c]).mapM Zdw=some m:=by
 induction m with
 | nil=>rfl
 | cons b m ih=>
  have e:((u8c (b::m)).map fun c=>[c])=[u8 b.toNat]::((u8c m).map fun c=>[c]):=rfl;rw[e,Ya4,ih];simp[Zdw,u8]
section
def b98:AX:=QZ "wJh0J9czvRifmk9GTLR4Jf30idcCQLVpebcp5WCN8.Uxq9.a"
def b123:AX:=QZ "SqvtwUuZXZkP4KXpszkZptdASiy.Zo6JR8XsS.0pk2AJqKZx"
def b64:AX:=QZ "xn5znbucMUhNmcgOCkGeoRmMOPZ2"
def l101_0:AX:=QZ "3pWeL1u6q5MPNNoynU1CmOI4wO1UoyyMFvvHHVbZ545bHZ7KXt1vKa2rifSezW"
def b101:AX:=(fun p0=>QY [p0] [] "94RjC0eP.BSltN0O3VqViVlMiU_eEC5dmG0NPd3tzNBN") l101_0
def l99_0:AX:=QZ "0rHTGBonkgP3yvNu13y3TiFZUHhTUeZHjY8bhR1cfyy6WOZ04z0taxwxdTB_jbzpCbRvr6tY8l6PO_23ClwoD2_2_nU"
def b99:AX:=(fun p0=>QY [p0] [(AV.i .i64 (-1))] "Kt0uz4_enLExuPGTrFu4tHS_RwZAjmN2HrQwZN") l99_0
def l65_0:AX:=QZ "aRtvdnIKF0B59_qGWalbIHOqFp0JdZT4m6IY7cq2KX5WwyPFRX_m1G_06ha9D68jIhvTYw3fSFmEBrQPAV1oYRTK.lZ9koU1dE.cMX"
def l65_1:AX:=(fun p0=>QY [p0] [] "4D_hjP8K8bKlAcM3S3fSFE18O5OQNGdLLu2ZA3eoHMSCFrXZZ4csfq38JrXvV") l65_0
def b65:AX:=(fun p0=>QY [p0] [] "5Sl69UWHkhV.f_BjE0_mxZHtJpmw88U3_F_KTJ5XHu7wgbhuHRpmzhqqAmMPzxIpGCI4Ov9MKDyJv262ZXT67xN_Zu") l65_1
abbrev row98:AFx:=⟨2,15,[.t 4,.t 5],b98,none,false⟩
abbrev row123:AFx:=⟨2,18,[.t 4],b123,none,false⟩
abbrev row64:AFx:=⟨2,11,[.t 4,.t 5],b64,none,false⟩
abbrev row101:AFx:=⟨1,19,[.t 2],b101,none,false⟩
abbrev row99:AFx:=⟨1,27,[.t 2],b99,none,false⟩
abbrev row65:AFx:=⟨1,48,[.t 2,.cell 3 (some 4)],b65,none,false⟩
class Zp (T:Tbl):Prop where
 h98:Tr T 98=some row98
 h123:Tr T 123=some row123
 h64:Tr T 64=some row64
 h101:Tr T 101=some row101
 h99:Tr T 99=some row99
 h65:Tr T 65=some row65
attribute [simp] Zp.h98 Zp.h123 Zp.h64 Zp.h101 Zp.h99 Zp.h65
end
section
abbrev row68:AFx:=⟨0,0,[],.prim prim68,none,false⟩
class Zat (T:Tbl):Prop where
 h68:Tr T 68=some row68
attribute [simp] Zat.h68
section
variable{T:Tbl}[Zat T]{d:Option Nat}{st:St}
def p68(xs:List AV):Zb T 68 xs=prim68 xs:=zcs Zat.h68
end
end
section
def b103:AX:=QZ "7jY0_ozg7kqa7Jdf7Qoa9kNZ7jRBWS9waPl59bfuPTV86etT1cJ3FqIWBrsq7luWTS0JPp6DV0REN8rfHOzCCr1_SYrQ5vO7Uv.7dnYOd0Bt1udNyAKvobQQ7SkOhE0P2JNblWkwandVYEETG7p7z3rbDEkldOfBbfPDkdVD8pSOpyQv._xmnddoUIuQzZoNAcA4yT6P9PCjYgK5PcE.ZDKIzKqv1LyZgAYk3"
def l125_0:AX:=QZ "XZo0IMtZY5sxwLNj.yuMuGrRWYTFjc_.24RUVoZco3hNEY"
def b125:AX:=(fun p0=>QY [p0] [] "0mLI5qCsxfOOQvQ.u3_o9Bj") l125_0
abbrev row103:AFx:=⟨2,37,[.t 4],b103,none,false⟩
abbrev row125:AFx:=⟨2,17,[.t 4],b125,none,false⟩
class Zhi (T:Tbl):Prop where
 h103:Tr T 103=some row103
 h125:Tr T 125=some row125
attribute [simp] Zhi.h103 Zhi.h125
end
section
variable{T:Tbl}[Zp T]
def zuz(l:List UInt8)(hl:l.length<=1000000):Zb T 64 [.s l,.s [45]]=some (.tup [.s (if l.head? = some 45 then l.tail else l),.b (l.head? = some 45)]):=by
 have h1:Zb T 123 [.s l,.s [45]]=some (.b (l.head? = some 45)):=by
  rw[zaa Zp.h123 rfl,b123];cases l with
  | nil=>simp -implicitDefEqProofs
  | cons c r=>
   have h2:(1:Int)<=(r.length:Int)+1:=by omega
   by_cases hc:c=45<;>simp -implicitDefEqProofs[h2,hc]
 have h3:Zb T 98 [.s l,.s [45]]=some (.tup [.s (if l.head? = some 45 then l.tail else l),.b (l.head? = some 45)]):=by
  rw[zaa Zp.h98 rfl,b98];cases l with
  | nil=>simp -implicitDefEqProofs[h1]
  | cons c r=>
   have h2:(1:Int)<=(r.length:Int)+1:=by omega
   by_cases hc:c=45
   ·subst hc;simp -implicitDefEqProofs[h1,h2]
   ·simp -implicitDefEqProofs[h1,hc]
 rw[zaa Zp.h64 rfl,b64];simp -implicitDefEqProofs[h3]
end
section
variable{T:Tbl}
def z1a(l:List UInt8)(hl:l.length<=1000000):∀i:Nat,i<=l.length ->
  Zu T 0 0 (.norm false [0]) l99_0 ⟨[(0,.s l),(5,.i .i64 l.length),(6,.i .i64 i)],[],2⟩ =
   if 0<=Zcn i (l.drop i) then some (.r,⟨[(2,.i .i64 (Zcn i (l.drop i)))],[],2⟩) else some (.n,⟨[(0,.s l)],[],2⟩):=by
 refine za0 (fun i:Nat=>⟨[(0,.s l),(5,.i .i64 l.length),(6,.i .i64 i)],[],2⟩) _ (fun i=>l.length-i) _ ?_;intro i hi;by_cases h0:i<l.length
 ·have hg:l[i]? = some (l[i]'h0):=Ya h0;have hd:=Yp h0;have hw:IntKind.wrap .i64 ((i:Int)+1)=((i+1:Nat):Int):=zab _ (by omega);by_cases hc:(l[i]'h0).toNat<48\/57<(l[i]'h0).toNat\/i=60
  ·right;rw[hd];have e:Zcn i (l[i]'h0::List.drop (i+1) l)=i:=by simp only[Zcn];rw[if_pos hc]
   rw[e];by_cases c1:(l[i]'h0).toNat<48
   ·constructor<;>simp -implicitDefEqProofs[l99_0,h0,c1]
   ·by_cases c2:57<(l[i]'h0).toNat
    ·constructor<;>simp -implicitDefEqProofs[l99_0,h0,c1,c2]
    ·have c3:i=60:=by omega
     subst c3;have h0':(60:Int)<(l.length:Int):=by omega
     constructor<;>simp -implicitDefEqProofs[l99_0,h0,h0',c1,c2]
  ·left;have e:Zcn i (l.drop i)=Zcn (i+1) (l.drop (i+1)):=by rw[hd];simp only[Zcn];rw[if_neg hc]
   have c1:¬ (l[i]'h0).toNat<48:=fun h=>hc (.inl h);have c2:¬ 57<(l[i]'h0).toNat:=fun h=>hc (.inr (.inl h));have c3:¬ ((i:Int)=60):=fun h=>hc (.inr (.inr (by omega)));refine⟨i+1,h0,by show l.length-(i+1)<l.length-i;omega,?_,?_⟩
   ·simp -implicitDefEqProofs[l99_0,h0,c1,c2,c3,hw]
   ·simp only[e]
 ·right;have:i=l.length:=by omega
  subst this;rw[Yah];constructor<;>simp -implicitDefEqProofs[l99_0,Zcn]
end
section
variable{T:Tbl}[Zp T]
def zme(l:List UInt8)(hl:l.length<=1000000):Zb T 99 [.s l]=some (.i .i64 (Z1 l)):=by
 have h:=z1a (T:=T) l hl 0 (Y4 _);have hg:=zol 0 l;rw[Yat]at h;simp at h;rw[zaa Zp.h99 rfl,b99];unfold Z1;by_cases h0:l=[]
 ·subst h0;simp[Zcn]at h;simp -implicitDefEqProofs[h]
 ·by_cases h1:0<=Zcn 0 l
  ·rw[if_pos h1]at h;simp -implicitDefEqProofs[h,h0]
  ·rw[if_neg h1]at h;have h2:Zcn 0 l=-1:=by omega
   simp -implicitDefEqProofs[h,h0,h2]
end
section
variable{T:Tbl}
def zu0(x0:Nat)(_hx0:x0<4294967296):∀y:Nat×Nat×List UInt8,(y.1<=9/\y.2.1<4294967296/\y.2.2.length=9-y.1/\Zdh y.1 y.2.1++y.2.2=Zdh 9 x0) ->
  Zu T 0 0 (.norm false [3]) l101_0 ⟨[(0,u32 y.2.1),(3,.ptr (.loc 3) 1 9 0 0),(4,.i .i64 ((y.1:Int)-1))],[(.loc 3,⟨1,.str,9,[u8c (List.replicate y.1 0++y.2.2)]⟩)],3⟩ =
   some (.n,⟨[(3,.ptr (.loc 3) 1 9 0 0)],[(.loc 3,⟨1,.str,9,[u8c (Zdh 9 x0)]⟩)],3⟩):=by
 refine za0 (fun y:Nat×Nat×List UInt8=>⟨[(0,u32 y.2.1),(3,.ptr (.loc 3) 1 9 0 0),(4,.i .i64 ((y.1:Int)-1))],[(.loc 3,⟨1,.str,9,[u8c (List.replicate y.1 0++y.2.2)]⟩)],3⟩) _ (fun y=>y.1) _ ?_
 rintro⟨k,x,m⟩ ⟨hk,hx,hm,hd⟩
 simp only at hk hx hm hd;cases k with
 | zero=>
  right;have hd:m=Zdh 9 x0:=by simpa only[zid,Ybn]using hd
  subst hd;generalize Zdh 9 x0=m;constructor<;>simp -implicitDefEqProofs[l101_0]
 | succ j=>
  left;have hw:IntKind.wrap .i64 ((j:Int)-1)=(j:Int)-1:=zab _ (by omega);have h1:(j:Int)<9:=by omega
  have h2:j<=8:=by omega
  have hd1:48+x%10<256:=by omega
  have hs:=(z1z (l:=List.replicate (j+1) 0++m) (j:=j) hd1 (by simp;omega)).trans (congrArg u8c (zyn (j:=j) (m:=m) (UInt8.ofNat (48+x%10))));have m1:(48+x%10)%4294967296=48+x%10:=Yu (by omega);have m2:(48+x%10)%256=48+x%10:=Yu (by omega);have m3:x/10%4294967296=x/10:=Yu (by omega);have hlen:j+1+m.length=9:=by omega
  refine⟨(j,x/10,UInt8.ofNat (48+x%10)::m),⟨by simp only;omega,by simp only;omega,by simp;omega,?_⟩,Y1 j,?_,rfl⟩
  ·simp only;rw[<-hd,zd9,Ybc]
   rfl
  ·simp -implicitDefEqProofs[l101_0,hw,h1,h2,hs,m1,m2,m3,hlen]
end
section
variable{T:Tbl}[Zp T]
def zoa(x:Nat)(hx:x<4294967296):Zb T 101 [u32 x]=some (.s (Zdh 9 x)):=by
 have h:=zu0 (T:=T) x hx (9,x,[]) ⟨Yi _,hx,rfl,by simp⟩;have e:u8c (List.replicate 9 0++[])=[u8 0,u8 0,u8 0,u8 0,u8 0,u8 0,u8 0,u8 0,u8 0]:=rfl;simp only[e]at h;rw[zaa Zp.h101 rfl,b101];have h8:IntKind.wrap .i64 8=8:=by decide
 have hl9:=ze1 9 x;generalize hm:Zdh 9 x=m at *
 have t9:List.take 9 ((u8c m).map fun c=>[c])=(u8c m).map fun c=>[c]:=Yb (by simp[hl9]);have hr:=zyo m;simp at h;simp -implicitDefEqProofs[h,hr,hl9,t9]
end
section
variable{T:Tbl}[Zn T][Zw T][Zp T]
def Zka(l:List UInt8)(o:List UInt32)(i0 k:Nat):St:=
 ⟨[(0,.s l),(3,.ptr (.loc 3) 1 4 0 0),(5,.sl (Za o) .an),(6,.i .i64 (i0+k:Nat)),(7,u32 (rd ((l.drop i0).take k))),(8,u32 (10^k)),(9,.i .i64 k)],[(.loc 3,⟨1,.str,4,[[.i .i64 0,.i .i64 0,.i .i64 0,.i .i64 0]]⟩)],3⟩
end
section
variable{T:Tbl}
def z1b(l:List UInt8)(o:List UInt32)(i0 kf:Nat)(hl:l.length<=60)(hd:∀c∈l,48<=c.toNat/\c.toNat<=57)(hkf:kf=min 9 (l.length-i0))(hi0:i0<=l.length):∀k,k<=kf ->
  Zu T 0 2 (.norm false [0,3,5,6,7,8]) l65_0 (Zka l o i0 k) =
   some (.n,⟨[(0,.s l),(3,.ptr (.loc 3) 1 4 0 0),(5,.sl (Za o) .an),(6,.i .i64 (i0+kf:Nat)),(7,u32 (rd ((l.drop i0).take kf))),(8,u32 (10^kf))],[(.loc 3,⟨1,.str,4,[[.i .i64 0,.i .i64 0,.i .i64 0,.i .i64 0]]⟩)],3⟩):=by
 refine za0 (fun k=>Zka l o i0 k) _ (fun k=>kf-k) _ ?_;intro k hk;by_cases h0:k<kf
 ·left;have hi:i0+k<l.length:=by omega
  have hg:l[i0+k]? = some (l[i0+k]'hi):=Ya hi;have hgd:(l.drop i0)[k]? = some (l[i0+k]'hi):=by rw[Yaq];exact hg
  have hc:=hd _ (Y0 hi);obtain⟨p,hp⟩:∃p,p=i0+k:=⟨_,rfl⟩;have hx:=zwc (l:=(l.drop i0).take k) fun c hc=>hd c (Yb9 (Yaz hc));have hlen:((l.drop i0).take k).length=k:=by simp;omega
  rw[hlen]at hx;have hp8:10^k<=10^8:=Yt (by decide) (by omega);have hr:=zm2 hgd;have hw:IntKind.wrap .i64 ((k:Int)+1)=((k+1:Nat):Int):=zab _ (by omega);have hw2:IntKind.wrap .i64 ((p:Int)+1)=((i0+(k+1):Nat):Int):=by rw[zab _ (by omega)];omega
  have hk9:(k:Int)<9:=by omega
  have hpl:(p:Int)<l.length:=by omega
  refine⟨k+1,h0,by show kf-(k+1)<kf-k;omega,?_,rfl⟩;unfold Zka;rw[hr,Yac];subst hp;generalize hcd:(l[i0+k]'hi).toNat=c at *
  generalize rd ((l.drop i0).take k)=x at *
  generalize 10^k=t at *
  have m1:x*10%4294967296=x*10:=Yu (by omega);have m2:Zj7 c 48=c-48:=z05 (by omega) (by omega);have m3:(c-48)%4294967296=c-48:=Yu (by omega);have m4:(x*10+(c-48))%4294967296=x*10+(c-48):=Yu (by omega);have m5:t*10%4294967296=t*10:=Yu (by omega);have hpl':(i0:Int)+k<l.length:=by omega
  have hw2':IntKind.wrap .i64 ((i0:Int)+k+1)=(i0:Int)+(k+1):=by rw[zab _ (by omega)];omega
  simp -implicitDefEqProofs[l65_0,hk9,hpl',hi,hcd,m1,m2,m3,m4,m5,hw,hw2']
 ·right;have:k=kf:=by omega
  subst this;unfold Zka;generalize rd ((l.drop i0).take k)=x;generalize 10^k=t;by_cases h9:k=9
  ·subst h9;constructor<;>simp -implicitDefEqProofs[l65_0]
  ·have hk9:(k:Int)<9:=by omega
   have hpl':¬ ((i0:Int)+k<l.length):=by omega
   constructor<;>simp -implicitDefEqProofs[l65_0,hk9,hpl']
end
section
variable{T:Tbl}[Zw T]
def z1c(l:List UInt8)(hl:l.length<=60)(hd:∀c∈l,48<=c.toNat/\c.toNat<=57):∀i:Nat,i<=l.length ->
  Zu T 0 0 (.norm false [3,5]) l65_1 ⟨[(0,.s l),(3,.ptr (.loc 3) 1 4 0 0),(5,.sl (Za (ofN (rd (l.take i)))) .an),(6,.i .i64 i)],[(.loc 3,⟨1,.str,4,[[.i .i64 0,.i .i64 0,.i .i64 0,.i .i64 0]]⟩)],3⟩ =
   some (.n,⟨[(3,.ptr (.loc 3) 1 4 0 0),(5,.sl (Za (ofN (rd l))) .an)],[(.loc 3,⟨1,.str,4,[[.i .i64 0,.i .i64 0,.i .i64 0,.i .i64 0]]⟩)],3⟩):=by
 refine za0 (fun i:Nat=>⟨[(0,.s l),(3,.ptr (.loc 3) 1 4 0 0),(5,.sl (Za (ofN (rd (l.take i)))) .an),(6,.i .i64 i)],[(.loc 3,⟨1,.str,4,[[.i .i64 0,.i .i64 0,.i .i64 0,.i .i64 0]]⟩)],3⟩) _ (fun i=>l.length-i) _ ?_;intro i hi;by_cases h0:i<l.length
 ·left;obtain⟨kf,hkf⟩:∃kf,kf=min 9 (l.length-i):=⟨_,rfl⟩;have h:=z1b (T:=T) l (ofN (rd (l.take i))) i kf hl hd hkf hi 0 (Y4 _);unfold Zka at h;simp[show rd []=0 from rfl]at h;have hx:=zwc (l:=(l.drop i).take kf) fun c hc=>hd c (Yb9 (Yaz hc));have hlen:((l.drop i).take kf).length=kf:=by simp;omega
  rw[hlen]at hx;have hp8:10^kf<=10^9:=Yt (by decide) (by omega);have hol:(ofN (rd (l.take i))).length<=60:=by
   refine zaj ?_;have h1:=zwc (l:=l.take i) fun c hc=>hd c (Yaz hc);have h2:10^(l.take i).length<=10^60:=Yt (by decide) (by simp;omega);exact Ym h1 (Yd h2 (by decide))
  have hpw:=zvt (T:=T) (ofN (rd (l.take i))) (10^kf) (rd ((l.drop i).take kf)) (by omega) (by omega) (by omega);have hr:rd (l.take (i+kf))=rd (l.take i)*10^kf+rd ((l.drop i).take kf):=by
   rw[List.take_add,zic,hlen]
  rw[zad,<-hr]at hpw;refine⟨i+kf,by omega,by show l.length-(i+kf)<l.length-i;omega,?_,rfl⟩;simp -implicitDefEqProofs[l65_1,h0,h,hpw]
 ·right;have:i=l.length:=by omega
  subst this;rw[Ya5];constructor<;>simp -implicitDefEqProofs[l65_1]
end
section
variable{T:Tbl}[Zw T][Zp T]
def zhw(l:List UInt8)(hl:l.length<=1000000):Zb T 65 [.s l]=some (.tup (if 0<=Z1 l then [.sl [] .an,.agg [.i .i64 1,.i .i64 0,.i .i64 0,.i .i64 (Z1 l)]]
  else [.sl (Za (ofN (rd l))) .an,.agg [.i .i64 0,.i .i64 0,.i .i64 0,.i .i64 0]])):=by
 have hw:=zme (T:=T) l hl;rw[zaa Zp.h65 rfl,b65];by_cases h0:0<=Z1 l
 ·simp -implicitDefEqProofs[hw,h0]
 ·have h1:Zcn 0 l<0:=by
   unfold Z1 at h0;split at h0
   ·omega
   ·omega
  obtain⟨h2,h3⟩:=zgo 0 l (Y4 _) h1;have h:=z1c (T:=T) l (by omega) h3 0 (Y4 _);simp[show rd []=0 from rfl]at h;simp -implicitDefEqProofs[hw,h0,h]
end
def sg(n:Bool)(k:Nat):Int:=if n then -(k:Int) else k
def wv(n:Bool)(a:List UInt32):Int:=sg n (val a)
abbrev wh(n:Bool)(a:List UInt32):AV:=.agg [.b n,.sl (Za a) .an]
abbrev ez(z:Int):AV:=wh (decide (z<0)) (ofN z.natAbs)
def sgI(z:Int):Int:=if z<0 then -1 else if z=0 then 0 else 1
def zzm(n:Bool)(k:Nat):decide (sg n k<0)=(n&&decide (k≠0)):=by
 cases n
 ·simp[sg]
 ·by_cases h:k=0<;>simp[sg,h];omega
def zp9(n:Bool)(k:Nat):(sg n k).natAbs=k:=by cases n<;>simp[sg]
@[simp] theorem zis(z:Int):wv (decide (z<0)) (ofN z.natAbs)=z:=by
 unfold wv;rw[zad];by_cases h:z<0
 ·simp[sg,h];omega
 ·simp[sg,h];omega
def zzn(n:Bool)(a:List UInt32):(wv n a).natAbs=val a:=zp9 n _
def z64(n:Bool)(k:Nat):ez (sg n k)=wh (n&&decide (k≠0)) (ofN k):=by
 unfold ez;rw[zzm,zp9]
def zom(n:Bool)(x y:Nat):sg n (x+y)=sg n x+sg n y:=by cases n<;>simp[sg]<;>omega
def zwd{n m:Bool}(h:n≠m){x y:Nat}(hxy:x<y):sg m (y-x)=sg n x+sg m y:=by
 cases n<;>cases m<;>simp[sg]at h ⊢<;>omega
def zwe{n m:Bool}(h:n≠m){x y:Nat}(hxy:¬ x<y):sg n (x-y)=sg n x+sg m y:=by
 cases n<;>cases m<;>simp[sg]at h ⊢<;>omega
def z65(n:Bool)(x:Nat):sg (!n) x=- sg n x:=by cases n<;>simp[sg]
def z66(n m:Bool)(x y:Nat):sg (n != m) (x*y)=sg n x*sg m y:=by cases n<;>cases m<;>simp[sg,Int.mul_neg,Int.neg_mul]
def z67(n:Bool)(x:Nat):sgI (sg n x)=if x=0 then 0 else if n then -1 else 1:=by
 unfold sgI;cases n<;>simp[sg]<;>split<;>(try split)<;>omega
def Z7(z:Int):List UInt8:=if z<0 then 45::Zs z.natAbs else Zs z.natAbs
def zie{n:Nat}:∀{k:Nat},n<10^(k+1)->(Zs n).length<=k+1:=by
 induction n using Nat.strongRecOn with
 | _ n ih=>
  intro k h;by_cases h0:n<10
  ·rw[zcb h0];simp
  ·rw[zd8 h0];cases k with
   | zero=>simp at h;omega
   | succ k=>
    have:=ih (n/10) (by omega) (k:=k) (Ybi (by rw[Yaf,<-Yac];exact h));simp;omega
theorem ze2{a:List UInt32}(h:a.length<=1000):(Zs (val a)).length<=10000:=by
 obtain⟨K,hK⟩:∃K,K=9999:=⟨_,rfl⟩;have h1:=zay a;have h2:4294967296^a.length<=(10^10)^a.length:=Ydq (by decide) _;rw[<-Yc7]at h2;have h3:10^(10*a.length)<=10^(K+1):=Yt (by decide) (by omega);have h4:=zie (k:=K) (Ym h1 (Yd h2 h3));clear h1 h2 h3;omega
def zdu{x y:Int}{L:Nat}(hx:(ofN x.natAbs).length<=L)(hy:(ofN y.natAbs).length<=L):(ofN (x+y).natAbs).length<=L+1:=by
 refine zaj ?_;have h1:=zay (ofN x.natAbs);have h2:=zay (ofN y.natAbs);rw[zad]at h1 h2;have h3:4294967296^(ofN x.natAbs).length<=4294967296^L:=Yt (by decide) hx;have h4:4294967296^(ofN y.natAbs).length<=4294967296^L:=Yt (by decide) hy;rw[Yac];generalize 4294967296^L=p at *
 omega
def zif(x:Int):ofN (-x).natAbs=ofN x.natAbs:=by rw[Int.natAbs_neg]
def zbi{x y:Int}{L M:Nat}(hx:(ofN x.natAbs).length<=L)(hy:(ofN y.natAbs).length<=M):(ofN (x*y).natAbs).length<=L+M:=by
 refine zaj ?_;have h1:=zay (ofN x.natAbs);have h2:=zay (ofN y.natAbs);rw[zad]at h1 h2;rw[Int.natAbs_mul,Yb2];exact Nat.mul_lt_mul'' (Ym h1 (Yt (by decide) hx)) (Ym h2 (Yt (by decide) hy))
def zda(n:Bool)(a:List UInt32):(ofN (wv n a).natAbs).length<=a.length:=by rw[zzn];exact zac a
def Zav(l:List UInt8):Int:=sg (l.head? = some 45) (rd (if l.head? = some 45 then l.tail else l))
def Zbr(l:List UInt8):Int:=Z1 (if l.head? = some 45 then l.tail else l)
def Zcy(l:List UInt8):Int:=if l.head? = some 45 then 1 else 0
def zqa{l:List UInt8}(h0:¬ 0<=Zbr l):(ofN (Zav l).natAbs).length<=60:=by
 unfold Zbr at h0;unfold Zav;rw[zp9];generalize (if l.head? = some 45 then l.tail else l)=l' at *
 have h1:Zcn 0 l'<0:=by
  unfold Z1 at h0;split at h0
  ·omega
  ·omega
 obtain⟨h2,h3⟩:=zgo 0 l' (Y4 _) h1;refine zaj (k:=60) ?_;have h4:=zwc h3;have h5:10^l'.length<=10^60:=Yt (by decide) (by omega);exact Ym h4 (Yd h5 (by decide))
section
def b55:AX:=QZ "2oQckcSPynHKVhobK3GSGALjX.i4cUHiWa8B"
def b38:AX:=QZ "o31PIwspbyGs8VGgZukbSA3jY0ewG"
def b40:AX:=QZ "GYchEA7SXwV.XqVEIhObU6Y6Ju5LltC"
def b23:AX:=QZ "pgC0evLEQUzJ6gn0kxjeFWBVMfFA26unQHxesCsn7saVcj4AEGCipocnK2p1UCjudakxdWbWTQ_GPH.1pCwBqF_qWMM1GlmlcXXeoUGU0xWHcO3mDSdcu3XabTZPvCW9deT00"
def b25:AX:=QZ "7eJigynTxSLxPjY9q8TVTR1GKHUbgBM"
def b27:AX:=QZ "6im5EtySqgc.jkvPkncEfZXSoBXCzdSqgBpp5e60HU8Rz"
def b37:AX:=QY [] [(AV.i .i64 (-1))] "1eH1_GcF3ctVBNt3wKSNbKPKEybiOsivYjRdWygtN9oudTFlsu0kP"
def b41:AX:=QZ "R6ZrxMa0yVrtNXJOdz3QB7blTKANo6rHO.xKPjeQ4XpBjcb6XEVH"
def b36:AX:=QZ "2pqwnYyQqSgkWW8AcFgwdnhY5VgC1"
def b34:AX:=QY [] [(AV.s [45])] "2XRoNCp.uZzDpbigeqbzV9v.20gki4syqNXUml_lxVIrYYrOO_ikOo_"
def b32:AX:=QY [] [(AV.s [45])] "0IQQUg5aXC1GAOwmSGGfA8kF3UMpTaor7gb5mw85DVy6S0WCys57aZStpRlATvbWGCuH8p0ru66QjnnUJTW0XhmcPFxoX7ZvAmZXP2tC0TBO_bsroSEpPcRiMAH7BjPej2cQnIsjq3s4hHLwnpUy1bEO4A"
abbrev row55:AFx:=⟨2,13,[.cell 4 (some 2)],b55,none,false⟩
abbrev row38:AFx:=⟨1,9,[.cell 2 (some 2)],b38,none,false⟩
abbrev row40:AFx:=⟨1,10,[.cell 2 (some 2)],b40,none,false⟩
abbrev row23:AFx:=⟨2,39,[.cell 4 (some 2)],b23,none,false⟩
abbrev row25:AFx:=⟨2,9,[.cell 4 (some 2)],b25,none,false⟩
abbrev row27:AFx:=⟨2,16,[.cell 4 (some 2)],b27,none,false⟩
abbrev row37:AFx:=⟨1,10,[.t 2],b37,none,false⟩
abbrev row41:AFx:=⟨1,14,[.cell 2 (some 2)],b41,none,false⟩
abbrev row36:AFx:=⟨2,9,[.t 4],b36,none,false⟩
abbrev row34:AFx:=⟨1,13,[.t 2],b34,none,false⟩
abbrev row32:AFx:=⟨1,36,[.cell 2 (some 2),.cell 3 (some 4)],b32,none,false⟩
class Zg (T:Tbl):Prop where
 h55:Tr T 55=some row55
 h38:Tr T 38=some row38
 h40:Tr T 40=some row40
 h23:Tr T 23=some row23
 h25:Tr T 25=some row25
 h27:Tr T 27=some row27
 h37:Tr T 37=some row37
 h41:Tr T 41=some row41
 h36:Tr T 36=some row36
 h34:Tr T 34=some row34
 h32:Tr T 32=some row32
attribute [simp] Zg.h55 Zg.h38 Zg.h40 Zg.h23 Zg.h25 Zg.h27 Zg.h37 Zg.h41 Zg.h36 Zg.h34 Zg.h32
section
variable{T:Tbl}[Zg T]{d:Option Nat}{st:St}
@[simp] def x38(xs:List AV):Zah (orc T) T 38 xs d st=cP T 38 false xs d st:=zbl Zg.h38
@[simp] def x23(xs:List AV):Zah (orc T) T 23 xs d st=cP T 23 false xs d st:=zbl Zg.h23
@[simp] def x25(xs:List AV):Zah (orc T) T 25 xs d st=cP T 25 false xs d st:=zbl Zg.h25
@[simp] def x27(xs:List AV):Zah (orc T) T 27 xs d st=cP T 27 false xs d st:=zbl Zg.h27
@[simp] def x37(xs:List AV):Zah (orc T) T 37 xs d st=cP T 37 false xs d st:=zbl Zg.h37
@[simp] def x36(xs:List AV):Zah (orc T) T 36 xs d st=cP T 36 false xs d st:=zbl Zg.h36
@[simp] def x34(xs:List AV):Zah (orc T) T 34 xs d st=cP T 34 false xs d st:=zbl Zg.h34
@[simp] def x32(xs:List AV):Zah (orc T) T 32 xs d st=cP T 32 false xs d st:=zbl Zg.h32
end
end
end Go.Ab