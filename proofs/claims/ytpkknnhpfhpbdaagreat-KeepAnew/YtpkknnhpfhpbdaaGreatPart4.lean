/-
  A calculus of values, boxes and code, and what functions of the program compute, proved in it.
  Conditions: none beyond those that the theorems state. (Part 4.)
-/
import Derived.Test.YtpkknnhpfhpbdaaGreatPart3

set_option linter.unusedSectionVars false
set_option linter.unusedVariables false
set_option linter.unusedSimpArgs false
set_option linter.unnecessarySimpa false
set_option linter.defProp false
set_option maxRecDepth 100000

namespace Go.Ab
def zp5(w:Nat):4294967296^w=2^(32*w):=by
 rw[Yfj]
def zp6(a:List UInt32)(w:Nat)(h:w<=a.length):val a=val (a.take w)+4294967296^w*val (a.drop w):=by
 have:=zaj (a.take w) (a.drop w);rw[Ybb,Y3,Yb3 h]at this;exact this
def z1s(a:List UInt32)(w:Nat)(h:w<=a.length):val a/4294967296^w=val (a.drop w):=by
 have hp:0<4294967296^w:=Ybe (by decide);have hlt:=za3 (a.take w);rw[Y3,Yb3 h]at hlt;rw[zp6 a w h,Yb6 _ _ hp,Ya3 hlt,Yap]
def z1t{a:List UInt32}{i:Nat}{x:UInt32}(h:a[i/32]? = some x):val a/2^i%2=x.toNat/2^(i%32)%2:=by
 have hlt:i/32<a.length:=by
  rcases Yy (i/32) a.length with h1 | h1
  ·exact h1
  ·rw[Yc1 h1]at h;cases h
 have e:2^i=4294967296^(i/32)*2^(i%32):=by
  rw[zp5,<-Ybu];congr 1;omega
 rw[e,<-Yby,z1s a _ (by omega)];have hx:a[i/32]'hlt=x:=by rw[Yb hlt]at h;cases h;rfl
 rw[Yg hlt,hx,zao];generalize val (a.drop (i/32+1))=r;have hb:i%32<32:=Ya5 _ (by decide);generalize i%32=b at *
 have e2:4294967296*r=2^b*(2^(32-b-1)*2*r):=by
  rw[<-Yan,<-Yal,<-Ybu,show b+(32-b-1+1)=32 by omega]
 rw[e2,Yb6 _ _ (Ybe (by decide)),Nat.mul_right_comm,Yeb]
def zp7{n k:Nat}(h:n<2^(k+1))(hb:n/2^k%2=0):n<2^k:=by
 have hp:0<2^k:=Ybe (by decide);rw[Yan]at h;have h1:n/2^k<2:=Ycj h;have h2:n/2^k=0:=by
  generalize n/2^k=q at *
  omega
 rcases Yy n (2^k) with h3 | h3
 ·exact h3
 ·have:=Yfh h3 hp;omega
def z6c{a b n:Nat}(h:a<2^n):a ||| 2^n*b=a+2^n*b:=by
 rw[Nat.or_comm,<-Ycz h,Yba]
def z9y{x c n:Nat}(hx:x<4294967296)(hn:n<32)(hc:c<2^n) :
  x*2^n<18446744073709551616/\(c ||| x*2^n%4294967296)=c+x*2^n%4294967296/\c+x*2^n%4294967296<4294967296/\x*2^n/4294967296<2^n/\2^n<4294967296:=by
 have hp:2^(n+(32-n))=4294967296:=by rw[show n+(32-n)=32 by omega]
 rw[Ybu]at hp;have hq:0<2^n:=Ybe (by decide);have hr:1<2^(32-n):=Nat.one_lt_two_pow (by omega);have e1:x*2^n%4294967296=2^n*(x%2^(32-n)):=by rw[<-hp,Yaw x,Nat.mul_mod_mul_left]
 have e2:=z6c (b:=x%2^(32-n)) hc;rw[<-e1]at e2;have hlt:2^n<4294967296:=by
  have h1:=Yaq (2^n) (show 2<=2^(32-n) from hr);rw[hp]at h1;omega
 refine⟨?_,e2,?_,?_,hlt⟩
 ·have:=Nat.mul_lt_mul'' hx hlt;simpa using this
 ·rw[e1];have h1:x%2^(32-n)+1<=2^(32-n):=Ya5 _ (by omega);have h2:=Yaq (2^n) h1;rw[hp,Yas,Yd4]at h2;omega
 ·exact Ycj (by rw[Yaw x];rw[Yaw 4294967296];exact Nat.mul_lt_mul_of_pos_left hx hq)
def zp8{x y R b:Nat}(hb:b<32)(hx:x<4294967296) :
  (x+4294967296*(y+4294967296*R))/2^b=(x+y*4294967296)/2^b%4294967296+4294967296*((y+4294967296*R)/2^b):=by
 have hq:0<2^b:=Ybe (by decide);have h1:(x+4294967296*(y+4294967296*R))/4294967296=y+4294967296*R:=by omega
 have h2:(x+4294967296*(y+4294967296*R))/2^b/4294967296=(y+4294967296*R)/2^b:=by
  rw[Yby,Yaw (2^b),<-Yby,h1]
 have hp:2^b*2^(32-b)=4294967296:=by rw[<-Ybu,show b+(32-b)=32 by omega]
 have h3:x+4294967296*(y+4294967296*R)=(x+y*4294967296)+2^b*(4294967296*(2^(32-b)*R)):=by
  have:2^b*(4294967296*(2^(32-b)*R))=4294967296*(4294967296*R):=by
   rw[Nat.mul_left_comm,<-Yal (2^b),hp]
  omega
 have h4:(x+4294967296*(y+4294967296*R))/2^b%4294967296=(x+y*4294967296)/2^b%4294967296:=by
  rw[h3,Yb6 _ _ hq,Ydc]
 have h5:=Nat.mod_add_div ((x+4294967296*(y+4294967296*R))/2^b) 4294967296;rw[h2,h4]at h5;exact h5.symm
def ztl{P m R:List UInt32}{i:Nat}{c:UInt32}(hm:m.length=i):(P++(m++c::R))[P.length+i]? = some c:=by
 grind
def znk{P m R:List UInt32}{i:Nat}{c:UInt32}(w:UInt32)(hm:m.length=i):(P++(m++c::R)).set (P.length+i) w=P++(m++w::R):=by
 rw[Yav (P.length+i) w (by omega),Ybt,Yav i w (by omega),hm,Ybx,Yb4]
def z5e{P m R:List UInt32}{i:Nat}{c d:UInt32}(w:UInt32)(hm:m.length=i):(P++(m++c::d::R)).set (P.length+i+1) w=P++(m++c::w::R):=by
 rw[Ya2,Yav (P.length+(i+1)) w (by omega),Ybt,Yav (i+1) w (by omega),hm,show i+1-i=1 by omega]
 rfl
def z5f{P m R:List UInt32}{i:Nat}{c d:UInt32}(hm:m.length=i):(P++(m++c::d::R))[P.length+i+1]? = some d:=by
 grind
theorem zf6(n:Nat):w32 (n%4294967296)=w32 n:=z6b (by rw[zcp,Nat.mod_mod])
section
variable{T:Tbl}[Zu T][Z0 T]
def Zot(P a:List UInt32)(n:Nat)(y:Nat×Nat×List UInt32):St:=
 ⟨[(5,.i .i64 P.length),(6,.i .i64 n),(7,.bs (.loc 23) 1 1 0 (P.length+a.length+1)),(24,.sl (Zc a) .an),(25,.i .i64 a.length),(26,.i .i64 y.1)],[(.loc 23,⟨1,.own,1,Zc (P++(y.2.2++w32 y.2.1::List.replicate (a.length-y.1) 0))⟩)],3⟩
end
section
variable{T:Tbl}
def z9v(P a:List UInt32)(n:Nat)(hn:n<32)(hl:P.length+a.length<=1000000):∀y:Nat×Nat×List UInt32,
  (y.1<=a.length/\y.2.1<2^n/\y.2.2.length=y.1/\val y.2.2+4294967296^y.1*y.2.1=2^n*val (a.take y.1)) ->
  ∃r,(∃(c:Nat) (m:List UInt32),r=(Ex.n,(⟨[(7,.bs (.loc 23) 1 1 0 (P.length+a.length+1))],[(.loc 23,⟨1,.own,1,Zc (P++(m++[w32 c]))⟩)],3⟩:St)) /\
   m.length=a.length/\c<2^n/\val m+4294967296^a.length*c=2^n*val a)/\Ze T 0 0 (.norm false [7]) l92_0 (Zot P a n y)=some r:=by
 refine zar _ _ (fun y=>a.length-y.1) _ ?_
 rintro⟨i,c,m⟩ ⟨hi,hc,hm,hv⟩
 simp only at hi hc hm hv;by_cases h0:i<a.length
 ·left;have ha:a[i]? = some (a[i]'h0):=Yb h0;obtain⟨u1,u2,u3,u4,u5⟩:=z9y (zan (a[i]'h0)) hn hc;have hx:=zan (a[i]'h0);have hrep:List.replicate (a.length-i) (0:UInt32)=0::List.replicate (a.length-(i+1)) 0:=by
   rw[show a.length-i=a.length-(i+1)+1 by omega,Ycn]
  have hw:IntKind.wrap .i64 ((i:Int)+1)=((i+1:Nat):Int):=zab _ (by omega);have hw2:IntKind.wrap .i64 ((P.length:Int)+i)=((P.length+i:Nat):Int):=zab _ (by omega);have hw3:IntKind.wrap .i64 ((P.length:Int)+i+1)=((P.length+i+1:Nat):Int):=zab _ (by omega);have hg:=ztl (P:=P) (c:=w32 c) (R:=0::List.replicate (a.length-(i+1)) 0) hm;have hg3:=z5f (P:=P) (c:=w32 (c+(a[i]'h0).toNat*2^n%4294967296)) (d:=0) (R:=List.replicate (a.length-(i+1)) 0) hm;have hs1:=znk (P:=P) (c:=w32 c) (R:=0::List.replicate (a.length-(i+1)) 0) (w32 (c+(a[i]'h0).toNat*2^n%4294967296)) hm;have hs2:=z5e (P:=P) (c:=w32 (c+(a[i]'h0).toNat*2^n%4294967296)) (d:=0) (R:=List.replicate (a.length-(i+1)) 0) (w32 ((a[i]'h0).toNat*2^n/4294967296)) hm;have hmin:min n 64=n:=by omega
  have hlt1:(P.length:Int)+i<(P.length:Int)+a.length+1:=by omega
  have hlt2:(P.length:Int)+i<(P.length:Int)+a.length:=by omega
  have m1:(a[i]'h0).toNat%18446744073709551616=(a[i]'h0).toNat:=Yq (by omega);have m2:=Yq u1;have m3:=Yq u3;have hcc:c<4294967296:=by omega
  have m4:(a[i]'h0).toNat*2^n/4294967296%4294967296=(a[i]'h0).toNat*2^n/4294967296:=Yq (by omega);have m5:(a[i]'h0).toNat*2^n/4294967296<4294967296:=by omega
  refine⟨(i+1,(a[i]'h0).toNat*2^n/4294967296,m++[w32 (c+(a[i]'h0).toNat*2^n%4294967296)]),⟨h0,u4,by grind,?_⟩,by omega,?_⟩
  ·grind[zaj,zaf,zao,zbh,zah,Nat.div_add_mod]
  ·simp -implicitDefEqProofs[l92_0,Zot,h0,hrep,hw,hw2,hw3,hg,hg3,hs1,hs2,zbp _ _ _ u3,zbp _ _ _ m5,hmin,hlt1,hlt2,m1,m2,m3,m4,u2,zah hcc]
 ·right;have:i=a.length:=by omega
  subst this;rw[Ya (Ye a.length)]at hv;refine⟨_,⟨c,m,rfl,hm,hc,hv⟩,?_,?_⟩<;>simp -implicitDefEqProofs[l92_0,Zot]
end
section
variable{T:Tbl}[Zu T][Z0 T]
def Zn1(a:List UInt32)(W n:Nat)(y:Nat×List UInt32):St:=
 ⟨[(0,.sl (Zc a) .an),(5,.i .i64 W),(6,.i .i64 n),(7,.bs (.loc 24) 1 1 0 (a.length-W)),(26,.i .i64 (a.length-W:Nat)),(27,.i .i64 y.1)],[(.loc 24,⟨1,.own,1,Zc (y.2++List.replicate (a.length-W-y.1) 0)⟩)],3⟩
end
section
variable{T:Tbl}
def z1o(a:List UInt32)(W n:Nat)(hn:n<32)(hW:W<=a.length)(hl:a.length<=1000000):∀y:Nat×List UInt32,
  (y.1<=a.length-W/\y.2.length=y.1/\val y.2+4294967296^y.1*(val (a.drop (W+y.1))/2^n)=val (a.drop W)/2^n) ->
  ∃r,(∃m:List UInt32,r=(Ex.n,(⟨[(7,.bs (.loc 24) 1 1 0 (a.length-W))],[(.loc 24,⟨1,.own,1,Zc m⟩)],3⟩:St)) /\
   m.length=a.length-W/\val m=val (a.drop W)/2^n)/\Ze T 0 0 (.norm false [7]) l94_0 (Zn1 a W n y)=some r:=by
 refine zar _ _ (fun y=>a.length-W-y.1) _ ?_
 rintro⟨i,m⟩ ⟨hi,hm,hv⟩
 by_cases h0:i<a.length-W
 ·left;have hWi:W+i<a.length:=by omega
  have ha:a[W+i]? = some (a[W+i]'hWi):=Yb hWi;have hx:=zan (a[W+i]'hWi);have hd:=Yg hWi;have hrep:List.replicate (a.length-W-i) (0:UInt32)=0::List.replicate (a.length-W-(i+1)) 0:=by
   rw[show a.length-W-i=a.length-W-(i+1)+1 by omega,Ycn]
  have hw:IntKind.wrap .i64 ((i:Int)+1)=((i+1:Nat):Int):=zab _ (by omega);have hw2:IntKind.wrap .i64 ((W:Int)+i)=((W+i:Nat):Int):=zab _ (by omega);have hw3:IntKind.wrap .i64 ((W:Int)+i+1)=((W+i+1:Nat):Int):=zab _ (by omega);have hg:=ztl (P:=[]) (c:=0) (R:=List.replicate (a.length-W-(i+1)) 0) hm;have hmin:min n 64=n:=by omega
  have hlt1:(W:Int)+i<(a.length:Int):=by omega
  have hlt3:((W:Int)+i).toNat=W+i:=by omega
  have m1:(a[W+i]'hWi).toNat%18446744073709551616=(a[W+i]'hWi).toNat:=Yq (by omega);have fin:∀y R:Nat,val (a.drop (W+i+1))=y+4294967296*R->val (m++[w32 (((a[W+i]'hWi).toNat+y*4294967296)/2^n%4294967296)])+4294967296^(i+1)*(val (a.drop (W+(i+1)))/2^n)=val (a.drop W)/2^n:=by
   intro y R hR;have hmod:((a[W+i]'hWi).toNat+y*4294967296)/2^n%4294967296<4294967296:=Ya5 _ (by decide);have hdw:=zp8 (x:=(a[W+i]'hWi).toNat) (y:=y) (R:=R) hn hx;rw[hd,zao,hR,hdw,<-hR]at hv
   grind[zaj,zao,zbh,zah]
  by_cases h1:W+i+1<a.length
  ·have hd1:=Yg h1;have hy:=zan (a[W+i+1]'h1);have m2:(a[W+i+1]'h1).toNat%18446744073709551616=(a[W+i+1]'h1).toNat:=Yq (by omega);have m3:(a[W+i+1]'h1).toNat*4294967296%18446744073709551616=(a[W+i+1]'h1).toNat*4294967296:=Yq (by omega);have hor:(a[W+i]'hWi).toNat ||| (a[W+i+1]'h1).toNat*4294967296=(a[W+i]'hWi).toNat+(a[W+i+1]'h1).toNat*4294967296:=by
    have:=z6c (a:=(a[W+i]'hWi).toNat) (b:=(a[W+i+1]'h1).toNat) (n:=32) (by simp)
    grind
   have m4:((a[W+i]'hWi).toNat+(a[W+i+1]'h1).toNat*4294967296)%18446744073709551616=(a[W+i]'hWi).toNat+(a[W+i+1]'h1).toNat*4294967296:=Yq (by omega);have hs1:=znk (P:=[]) (c:=0) (R:=List.replicate (a.length-W-(i+1)) 0) (w32 (((a[W+i]'hWi).toNat+(a[W+i+1]'h1).toNat*4294967296)/2^n%4294967296)) hm;have hlt2:(W:Int)+i+1<(a.length:Int):=by omega
   have hlt4:((W:Int)+i+1).toNat=W+i+1:=by omega
   refine⟨(i+1,m++[w32 (((a[W+i]'hWi).toNat+(a[W+i+1]'h1).toNat*4294967296)/2^n%4294967296)]),⟨h0,by grind,fin _ (val (a.drop (W+i+1+1))) (by rw[hd1,zao])⟩,by omega,?_⟩;simp at hg;simp[zf6]at hs1;simp -implicitDefEqProofs[l94_0,Zn1,h0,ha,hrep,hw,hw2,hw3,hg,hs1,zf6,hmin,hlt1,hlt2,hlt3,hlt4,m1,m2,m3,m4,hor,h1]
  ·have hs1:=znk (P:=[]) (c:=0) (R:=List.replicate (a.length-W-(i+1)) 0) (w32 ((a[W+i]'hWi).toNat/2^n%4294967296)) hm;have hlt2:¬ (W:Int)+i+1<(a.length:Int):=by omega
   have f0:=fin 0 0 (by rw[Ya7 (by omega),zbh,Yax]);refine⟨(i+1,m++[w32 ((a[W+i]'hWi).toNat/2^n%4294967296)]),⟨h0,by grind,f0⟩,by omega,?_⟩;simp at hg;simp[zf6]at hs1;simp -implicitDefEqProofs[l94_0,Zn1,h0,ha,hrep,hw,hw2,hw3,hg,hs1,zf6,hmin,hlt1,hlt2,hlt3,m1]
 ·right;have:i=a.length-W:=by omega
  subst this;rw[show W+(a.length-W)=a.length by omega,Yw,zbh,Nat.zero_div,Yax,Yad]at hv;refine⟨_,⟨m++List.replicate (a.length-W-(a.length-W)) 0,rfl,by grind,by grind⟩,?_,?_⟩<;>simp -implicitDefEqProofs[l94_0,Zn1]
end
section
variable{T:Tbl}[Zu T][Z0 T]
def z1p(a:List UInt32)(n:Nat)(h:n/32<=a.length):val (a.drop (n/32))/2^(n%32)=val a/2^n:=by
 rw[<-z1s a _ h,Yby,zp5,<-Ybu,show 32*(n/32)+n%32=n by omega]
def z1q(a:List UInt32)(n:Nat)(hn:n<=100000000)(hl:a.length<=100000):Za T 94 [.sl (Zc a) .an,.i .i64 n]=some (.sl (Zc (ofN (val a/2^n))) .an):=by
 have hn2:¬ (n:Int)<0:=by omega
 have hq:(n:Int).tdiv 32=(n:Int)/32:=Yc5 (by omega);have hm2:(n:Int).tmod 32=(n:Int)%32:=Yc6 (by omega);have w1:IntKind.wrap .i64 ((n:Int)/32)=(n:Int)/32:=zab (n/32) (by omega);rcases Yy (n/32) a.length with h0 | h0
 ·obtain⟨_,⟨m,rfl,hm,hv⟩,hr⟩:=z1o (T:=T) a (n/32) (n%32) (Ya5 _ (by decide)) (by omega) (by omega) (0,[]) ⟨Yv _,rfl,by rw[zbh,Ydu,Yds,Yap,Yad]⟩;rw[z1p a n (by omega)]at hv;have hnm:=zb5 (T:=T) m (by omega);rw[hv]at hnm;unfold Zn1 at hr;have hsub:((a.length-n/32:Nat):Int)=(a.length:Int)-(n:Int)/32:=by omega
  simp[hsub]at hr;have p0:¬ (a.length:Int)<=(n:Int)/32:=by omega
  have w2:IntKind.wrap .i64 ((a.length:Int)-(n:Int)/32)=(a.length:Int)-(n:Int)/32:=zab _ (by omega);have p1:(n:Int)/32<=(a.length:Int):=by omega
  have p2:(a.length:Int)-(n:Int)/32<=4294967296:=by omega
  have p3:((a.length:Int)-(n:Int)/32).toNat=a.length-n/32:=by omega
  have htk:List.take (a.length-n/32) m=m:=Ya (by omega);have p5:a.length<=a.length-n/32+n/32:=by omega
  rw[zaa Z0.h94 rfl,b94];simp -implicitDefEqProofs[hn2,hq,hm2,w1,w2,p0,p5,p1,p2,p3,hsub,hr,hnm,htk,hm]
 ·have hz:val a/2^n=0:=by
   refine Ya3 (Y8 (za3 a) ?_);rw[zp5];exact Y9 (by decide) (by omega)
  have p0:(a.length:Int)<=(n:Int)/32:=by omega
  rw[hz,znl,zaa Z0.h94 rfl,b94];simp -implicitDefEqProofs[hn2,hq,hm2,w1,p0]
end
section
def l90_0:AX:=QZ "iCa9l6nnVwMYiV47I5UIKmH5mNSMIKab3L27MfPemFQrSewDw3Lep8vU2hO8AzuXq1c.JugZTy_a2T"
def b90:AX:=(fun p0=>QY [p0] [] "48c6TRhqS1QWL27M1L5hR9yHp4biZTyJ9q8MkquJLuMAmGxR4_t4DG3z.SuISnzg66jkIN93HHBGRUWevUyNf") l90_0
def l119_0:AX:=QZ "9BousCprT1gGuNM01f2eUKsIUYlHT3.cJzgdnoqZTezs1cxIrIAEAiZGU56HdRzfdTH0ULwyKdkpJpwdg1NtCR287KNmD89Z8GS6Urwac.at8d8lENIDv.1uLYwwDS73wDJZI3Di1DTOCbfV"
def b119:AX:=(fun p0=>QY [p0] [(u32 4294967295)] "0_tcjs5vuYx4dmC6NANO4ewbExijgtgZYLhtEvd5lvFdvbFNX90jmFDrIsaLwM4jS3vlvvtyieNsPCpPjnc9PEyLrBX_WlheBdyoRkUK2ISyLvpTvbIix8Q2tF0g8oynQ2viaPfJMWFF1xvAVqDBs") l119_0
def l120_0:AX:=QZ "1m9Lb8asnggX3hjpbU.9DLXv6kmQKo1.VaHarobwrRE1VKF7XkmNX9HkdkmJkUZ387.1P2Tgbw2TC3Y0oBpsEmRTFjGhCh3vHY7gSeDjo5.JscDAYpHvNh8gXU3J6xT977tNBqVEV"
def b120:AX:=(fun p0=>QY [p0] [] "0yWq__oxA8yEWoD5FkxaIUm1rURK6ggQw.w9B9utyUUq832OmK7F0fL3.PdETQ0foIW53BLY__FggXpYJp6LA4OPryG0hBtaLFmQC2dPJKZHs0") l120_0
def l121_0:AX:=QZ "CN54kndv8eKeTYfmGZ6aBcYCnKJ57mRKYo3rBeLvHHPQk8tOVub_YBG.owS8c2zhbzutxmBdC6DoBQ61DTKZMmXP6Q2levR"
def b121:AX:=(fun p0=>QY [p0] [] "6.dNNGAeviZ5gs7.1GCsEEOG2uQMnKVC4LURK2ddadeXd76sh") l121_0
def l93_0:AX:=QZ "3b.ttZV45zbhWRNWkzJHmH0kNGb0ix1FpUNJ9fjldVk5K8KN2B4DEOscOFjwc1exc4N7fYA03T76fLheA8KsI_bWGasV5o9SfHJkEqmVxuhxCh2UL3xrgiVCZhqbmzuDd94fVNr7clFz8akjUfiiFGXB31AIIQ"
def b93:AX:=(fun p0=>QY [p0] [] "2m4VKjaEuxT79UiieOGdItoaTaJUUEx55rHZD6MoLc4hLVKhTGjylpNj2DgpSf7cU") l93_0
abbrev row90:AFx:=⟨2,37,[.t 4,.t 5,.t 6],b90,none,false⟩
abbrev row119:AFx:=⟨5,76,[.t 10],b119,none,false⟩
abbrev row120:AFx:=⟨4,66,[.t 8],b120,(some [true,false,false,false]),false⟩
abbrev row121:AFx:=⟨3,44,[],b121,(some [true,false,false]),false⟩
abbrev row93:AFx:=⟨2,70,[.t 4],b93,(some [true,false]),false⟩
class Zt (T:Tbl):Prop where
 h90:Tr T 90=some row90
 h119:Tr T 119=some row119
 h120:Tr T 120=some row120
 h121:Tr T 121=some row121
 h93:Tr T 93=some row93
attribute [simp] Zt.h90 Zt.h119 Zt.h120 Zt.h121 Zt.h93
end
def znd{m:List UInt32}{j:Nat}(w:UInt32):(List.replicate (j+1) 0++m).set j w=List.replicate j 0++w::m:=by
 rw[List.set_append_left j w (by simp),Ydz,Yav j w (by simp)];simp
def zne{m:List UInt32}{j:Nat}:(List.replicate (j+1) (0:UInt32)++m)[j]? = some 0:=by
 rw[Yt (by simp),Yeo,if_pos (by omega)]
section
variable{T:Tbl}[Zu T][Z0 T][Zy T][Zt T]
def Zoi(a:List UInt32)(x:Nat)(y:Nat×Nat×List UInt32):St:=
 ⟨[(0,.sl (Zc a) .an),(1,u32 x),(4,.bs (.loc 12) 1 1 0 a.length),(5,u32 y.2.1),(7,.i .i64 ((y.1:Int)-1))],[(.loc 12,⟨1,.own,1,Zc (List.replicate y.1 0++y.2.2)⟩)],3⟩
end
section
variable{T:Tbl}[Zu T]
def z8w(a:List UInt32)(x:Nat)(hx:x<4294967296)(hl:a.length<=1000000):∀y:Nat×Nat×List UInt32,
  (y.1<=a.length/\y.2.1<x/\y.2.2.length=a.length-y.1/\val (a.drop y.1)=x*val y.2.2+y.2.1) ->
  ∃r,(∃(c:Nat) (m:List UInt32),r=(Ex.n,(⟨[(4,.bs (.loc 12) 1 1 0 a.length),(5,u32 c)],[(.loc 12,⟨1,.own,1,Zc m⟩)],3⟩:St)) /\
   m.length=a.length/\c<x/\val a=x*val m+c)/\Ze T 0 0 (.norm false [4,5]) l90_0 (Zoi a x y)=some r:=by
 refine zar _ _ (fun y=>y.1) _ ?_
 rintro⟨k,c,m⟩ ⟨hk,hc,hm,hv⟩
 simp only at hk hc hm hv;cases k with
 | zero=>
  right;refine⟨_,⟨c,m,rfl,by omega,hc,hv⟩,?_,?_⟩<;>simp -implicitDefEqProofs[l90_0,Zoi]
 | succ j=>
  left;have hja:j<a.length:=by omega
  have hy:=zan (a[j]'hja);have hd:=Yg hja;have hw:IntKind.wrap .i64 ((j:Int)-1)=(j:Int)-1:=zab _ (by omega);have hs:=znd (m:=m) (j:=j) (w32 ((c*4294967296+(a[j]'hja).toNat)/x));have hq:(c*4294967296+(a[j]'hja).toNat)/x<4294967296:=by
   refine Ycj ?_;omega
  have hdv:=zpc (T:=T) c (a[j]'hja).toNat x hc hy hx;refine⟨(j,(c*4294967296+(a[j]'hja).toNat)%x,w32 ((c*4294967296+(a[j]'hja).toNat)/x)::m),⟨by omega,Ya5 _ (by omega),by grind,?_⟩,Y7 j,?_⟩
  ·grind[zao,zah,Nat.div_add_mod]
  ·simp -implicitDefEqProofs[l90_0,Zoi,hja,hw,hs,zne,hdv,zbp _ _ _ hq]
end
section
variable{T:Tbl}[Zu T][Zt T]
def zzz(a:List UInt32)(x:Nat)(hx:x<4294967296)(h0:0<x)(hl:a.length<=1000000) :
  Za T 90 [.sl (Zc a) .an,u32 x]=some (.tup [.sl (Zc (ofN (val a/x))) .an,u32 (val a%x),.b true]):=by
 obtain⟨_,⟨c,m,rfl,hm,hc,hv⟩,hr⟩:=z8w (T:=T) a x hx hl (a.length,0,[]) ⟨Ye _,h0,by simp,by rw[Yw,zbh,Yax,Yap]⟩;have e1:val a/x=val m:=by grind[Nat.mul_add_div,Nat.div_eq_of_lt]
 have e2:val a%x=c:=by rw[hv,Nat.mul_add_mod,Yq hc]
 have hnm:=zb5 (T:=T) m (by omega);unfold Zoi at hr;simp at hr;have hx0:x≠0:=by omega
 have w1:IntKind.wrap .i64 ((a.length:Int)-1)=(a.length:Int)-1:=zab _ (by omega);have p1:(a.length:Int)<=4294967296:=by omega
 have htk:List.take a.length m=m:=Ya (by omega);rw[e1,e2,zaa Zt.h90 rfl,b90];simp -implicitDefEqProofs[hr,hx0,w1,p1,htk,hm,hnm]
end
section
variable{T:Tbl}[Zu T][Z0 T][Zy T][Zt T]
def zpj{p M w X s t y v D D':Nat}(h:M+X*t=s+p*D)(e:w+X*y+D=v+4294967296*D'):(M+p*w)+X*(t+p*y)=(s+p*v)+p*4294967296*D':=by
 grind
def Zoj(P S b:List UInt32)(x:Nat)(y:Nat×(Nat×Nat)×List UInt32):St:=
 ⟨[(0,.bs (.bor 0) 0 1 0 (P.length+S.length)),(1,.i .i64 P.length),(2,.sl (Zc b) .an),(3,u32 x),(9,u32 y.2.1.1),(10,u32 y.2.1.2),(15,.sl (Zc b) .an),(16,.i .i64 b.length),(17,.i .i64 y.1)],
  [(.bor 0,⟨0,.own,1,Zc (P++(y.2.2++S.drop y.1))⟩)],4⟩
end
section
variable{T:Tbl}[Zu T]
def z8x(P S b:List UInt32)(x:Nat)(hx:x<4294967296)(hS:b.length<S.length)(hl:P.length+S.length<=1000000):∀y:Nat×(Nat×Nat)×List UInt32,
  (y.1<=b.length/\y.2.1.1<4294967296/\y.2.1.2<=1/\y.2.2.length=y.1/\val y.2.2+x*val (b.take y.1)=val (S.take y.1)+4294967296^y.1*(y.2.1.2+y.2.1.1)) ->
  ∃r,(∃(C B:Nat) (m:List UInt32),r=(Ex.n,(⟨[(0,.bs (.bor 0) 0 1 0 (P.length+S.length)),(1,.i .i64 P.length),(2,.sl (Zc b) .an),(9,u32 C),(10,u32 B)],[(.bor 0,⟨0,.own,1,Zc (P++(m++S.drop b.length))⟩)],4⟩:St)) /\
   C<4294967296/\B<=1/\m.length=b.length/\val m+x*val b=val (S.take b.length)+4294967296^b.length*(B+C))/\Ze T 1 0 (.norm false [0,1,2,9,10]) l120_0 (Zoj P S b x y)=some r:=by
 refine zar _ _ (fun y=>b.length-y.1) _ ?_
 rintro⟨i,⟨C,B⟩,m⟩ ⟨hi,hC,hB,hm,hv⟩
 simp only at hi hC hB hm hv;by_cases h0:i<b.length
 ·left;have hb:b[i]? = some (b[i]'h0):=Yb h0;have hiS:i<S.length:=by omega
  have hs:S[i]? = some (S[i]'hiS):=Yb hiS;have hg:=zee (P:=P) hm hiS;have hw:IntKind.wrap .i64 ((i:Int)+1)=((i+1:Nat):Int):=zab _ (by omega);have hw2:IntKind.wrap .i64 ((P.length:Int)+i)=((P.length+i:Nat):Int):=zab _ (by omega);have hlt2:(P.length:Int)+i<(P.length:Int)+S.length:=by omega
  have hlb:=zan (b[i]'h0);have hls:=zan (S[i]'hiS);have hmul:=zj5 hx hlb;have c1:=zj6 (T:=T) x (b[i]'h0).toNat C 0 hx hlb hC (by decide);rw[Yad]at c1;obtain⟨lo,hlo⟩:∃lo,lo=(x*(b[i]'h0).toNat+C)%4294967296:=⟨_,rfl⟩;obtain⟨C',hC'⟩:∃C',C'=(x*(b[i]'h0).toNat+C)/4294967296:=⟨_,rfl⟩;rw[<-hlo,<-hC']at c1;have c2:=zg5 (T:=T) (S[i]'hiS).toNat lo B hls (by omega) (by omega);obtain⟨w,hwd⟩:∃w,w=((S[i]'hiS).toNat+8589934592-(lo+B))%4294967296:=⟨_,rfl⟩;obtain⟨B',hB'⟩:∃B',B'=2-((S[i]'hiS).toNat+8589934592-(lo+B))/4294967296:=⟨_,rfl⟩;rw[<-hwd,<-hB']at c2;have hwl:w<4294967296:=by omega
  have hset:=zd1 (P:=P) (w32 w) hm hiS;refine⟨(i+1,(C',B'),m++[w32 w]),⟨h0,by grind,by simp only;omega,by grind,?_⟩,by omega,?_⟩
  ·simp only;rw[zaj,zaf hb,zaf hs,Yan,hm,zao,zbh,Yax,Yad,zah hwl];exact zpj hv (by omega)
  ·simp -implicitDefEqProofs[l120_0,Zoj,h0,hw,hw2,hlt2,hg,c1,c2,hset,zbp _ _ _ hwl]
 ·right;have:i=b.length:=by omega
  subst this;rw[Ya (Ye b.length)]at hv;refine⟨_,⟨C,B,m,rfl,hC,hB,hm,hv⟩,?_,?_⟩<;>simp -implicitDefEqProofs[l120_0,Zoj]
end
section
variable{T:Tbl}[Zu T][Zt T]
def zz0(P S b:List UInt32)(x:Nat)(hx:x<4294967296)(hS:b.length<S.length)(hl:P.length+S.length<=1000000) :
  ∃(B:Nat) (m:List UInt32),B<=1/\m.length=b.length+1/\val m+x*val b=val (S.take (b.length+1))+4294967296^(b.length+1)*B /\
   Z4 T 120 [.bs (.bor 0) 0 1 0 (P.length+S.length),.i .i64 P.length,.sl (Zc b) .an,u32 x] [(.bor 0,⟨0,.own,1,Zc (P++S)⟩)] =
    some (.b (decide (0<B)),[(.bor 0,⟨0,.own,1,Zc (P++(m++S.drop (b.length+1)))⟩)]):=by
 obtain⟨_,⟨C,B,m,rfl,hC,hB,hm,hv⟩,hr⟩:=z8x (T:=T) P S b x hx hS hl (0,(0,0),[]) ⟨Yv _,Nat.zero_lt_succ _,Yv _,rfl,by simp⟩;unfold Zoj at hr;simp at hr;have hs:S[b.length]? = some (S[b.length]'hS):=Yb hS;have hls:=zan (S[b.length]'hS);have hg:=zee (P:=P) hm hS;have hw2:IntKind.wrap .i64 ((P.length:Int)+b.length)=((P.length+b.length:Nat):Int):=zab _ (by omega);have hlt2:(P.length:Int)+b.length<(P.length:Int)+S.length:=by omega
 have c2:=zg5 (T:=T) (S[b.length]'hS).toNat C B hls hC (by omega);obtain⟨w,hwd⟩:∃w,w=((S[b.length]'hS).toNat+8589934592-(C+B))%4294967296:=⟨_,rfl⟩;obtain⟨B',hB'⟩:∃B',B'=2-((S[b.length]'hS).toNat+8589934592-(C+B))/4294967296:=⟨_,rfl⟩;rw[<-hwd,<-hB']at c2;have hwl:w<4294967296:=by omega
 have hset:=zd1 (P:=P) (w32 w) hm hS;refine⟨B',m++[w32 w],by omega,by grind,?_,?_⟩
 ·rw[zaj,zaf hs,Yan,hm,zao,zbh,Yax,Yad,zah hwl];have:=zpj (y:=0) (w:=w) (v:=(S[b.length]'hS).toNat) (D':=B') hv (by omega);omega
 ·rw[zam Zt.h120 rfl,b120];simp -implicitDefEqProofs[hr,hw2,hlt2,hg,c2,hset,zbp _ _ _ hwl]
end
section
variable{T:Tbl}[Zu T][Z0 T][Zy T][Zt T]
def zpk{p M w s t y v D D':Nat}(h:M+p*D=s+t)(e:w+4294967296*D'=v+y+D):(M+p*w)+p*4294967296*D'=(s+p*v)+(t+p*y):=by
 grind
def Zok(P S b:List UInt32)(y:Nat×Nat×List UInt32):St:=
 ⟨[(0,.bs (.bor 0) 0 1 0 (P.length+S.length)),(1,.i .i64 P.length),(2,.sl (Zc b) .an),(6,u32 y.2.1),(9,.sl (Zc b) .an),(10,.i .i64 b.length),(11,.i .i64 y.1)],
  [(.bor 0,⟨0,.own,1,Zc (P++(y.2.2++S.drop y.1))⟩)],4⟩
end
section
variable{T:Tbl}[Zu T]
def z8y(P S b:List UInt32)(hS:b.length<S.length)(hl:P.length+S.length<=1000000):∀y:Nat×Nat×List UInt32,
  (y.1<=b.length/\y.2.1<=1/\y.2.2.length=y.1/\val y.2.2+4294967296^y.1*y.2.1=val (S.take y.1)+val (b.take y.1)) ->
  ∃r,(∃(C:Nat) (m:List UInt32),r=(Ex.n,(⟨[(0,.bs (.bor 0) 0 1 0 (P.length+S.length)),(1,.i .i64 P.length),(2,.sl (Zc b) .an),(6,u32 C)],[(.bor 0,⟨0,.own,1,Zc (P++(m++S.drop b.length))⟩)],4⟩:St)) /\
   C<=1/\m.length=b.length/\val m+4294967296^b.length*C=val (S.take b.length)+val b)/\Ze T 1 0 (.norm false [0,1,2,6]) l121_0 (Zok P S b y)=some r:=by
 refine zar _ _ (fun y=>b.length-y.1) _ ?_
 rintro⟨i,C,m⟩ ⟨hi,hC,hm,hv⟩
 simp only at hi hC hm hv;by_cases h0:i<b.length
 ·left;have hb:b[i]? = some (b[i]'h0):=Yb h0;have hiS:i<S.length:=by omega
  have hs:S[i]? = some (S[i]'hiS):=Yb hiS;have hg:=zee (P:=P) hm hiS;have hw:IntKind.wrap .i64 ((i:Int)+1)=((i+1:Nat):Int):=zab _ (by omega);have hw2:IntKind.wrap .i64 ((P.length:Int)+i)=((P.length+i:Nat):Int):=zab _ (by omega);have hlt2:(P.length:Int)+i<(P.length:Int)+S.length:=by omega
  have hlb:=zan (b[i]'h0);have hls:=zan (S[i]'hiS);have c2:=zfc (T:=T) (S[i]'hiS).toNat (b[i]'h0).toNat C hls hlb (by omega);obtain⟨w,hwd⟩:∃w,w=((S[i]'hiS).toNat+(b[i]'h0).toNat+C)%4294967296:=⟨_,rfl⟩;obtain⟨C',hC'⟩:∃C',C'=((S[i]'hiS).toNat+(b[i]'h0).toNat+C)/4294967296:=⟨_,rfl⟩;rw[<-hwd,<-hC']at c2;have hwl:w<4294967296:=by omega
  have hset:=zd1 (P:=P) (w32 w) hm hiS;refine⟨(i+1,C',m++[w32 w]),⟨h0,by grind,by grind,?_⟩,by omega,?_⟩
  ·simp only;rw[zaj,zaf hb,zaf hs,Yan,hm,zao,zbh,Yax,Yad,zah hwl];exact zpk hv (by omega)
  ·simp -implicitDefEqProofs[l121_0,Zok,h0,hw,hw2,hlt2,hg,c2,hset,zbp _ _ _ hwl]
 ·right;have:i=b.length:=by omega
  subst this;rw[Ya (Ye b.length)]at hv;refine⟨_,⟨C,m,rfl,hC,hm,hv⟩,?_,?_⟩<;>simp -implicitDefEqProofs[l121_0,Zok]
end
section
variable{T:Tbl}[Zu T][Zt T]
def zz1(P S b:List UInt32)(hS:b.length<S.length)(hl:P.length+S.length<=1000000) :
  ∃(D:Nat) (m:List UInt32),D<=1/\m.length=b.length+1/\val m+4294967296^(b.length+1)*D=val (S.take (b.length+1))+val b /\
   Z4 T 121 [.bs (.bor 0) 0 1 0 (P.length+S.length),.i .i64 P.length,.sl (Zc b) .an] [(.bor 0,⟨0,.own,1,Zc (P++S)⟩)] =
    some (.tup [],[(.bor 0,⟨0,.own,1,Zc (P++(m++S.drop (b.length+1)))⟩)]):=by
 obtain⟨_,⟨C,m,rfl,hC,hm,hv⟩,hr⟩:=z8y (T:=T) P S b hS hl (0,0,[]) ⟨Yv _,Yv _,rfl,by simp⟩;unfold Zok at hr;simp at hr;have hs:S[b.length]? = some (S[b.length]'hS):=Yb hS;have hls:=zan (S[b.length]'hS);have hg:=zee (P:=P) hm hS;have hw2:IntKind.wrap .i64 ((P.length:Int)+b.length)=((P.length+b.length:Nat):Int):=zab _ (by omega);have hlt2:(P.length:Int)+b.length<(P.length:Int)+S.length:=by omega
 obtain⟨w,hwd⟩:∃w,w=((S[b.length]'hS).toNat+C)%4294967296:=⟨_,rfl⟩;have hwl:w<4294967296:=by omega
 have hset:=zd1 (P:=P) (w32 w) hm hS;refine⟨((S[b.length]'hS).toNat+C)/4294967296,m++[w32 w],by omega,by grind,?_,?_⟩
 ·rw[zaj,zaf hs,Yan,hm,zao,zbh,Yax,Yad,zah hwl];have:=zpk (y:=0) (w:=w) (v:=(S[b.length]'hS).toNat) (D':=((S[b.length]'hS).toNat+C)/4294967296) hv (by omega);omega
 ·rw[zam Zt.h121 rfl,b121];simp -implicitDefEqProofs[hr,hw2,hlt2,hg,<-hwd,hset,zbp _ _ _ hwl]
end
def zj1(q b1 b0:Nat):q*(b1*4294967296+b0)=q*b1*4294967296+q*b0:=by
 rw[Yas q,<-Yal q]
def zm1{a2 a1 a0 b1 b0 q r:Nat}(h:q*b1+r=a2*4294967296+a1)(hle:q*b0<=r*4294967296+a0) :
  q*(b1*4294967296+b0)<=(a2*4294967296+a1)*4294967296+a0:=by
 refine Yd (Nat.le_of_eq (zj1 q b1 b0)) ?_;revert h hle;generalize q*b1=u;generalize q*b0=v;omega
def z3c{a2 a1 a0 b1 b0 q r:Nat}(h:q*b1+r=a2*4294967296+a1)(hgt:r*4294967296+a0<q*b0) :
  (a2*4294967296+a1)*4294967296+a0<q*(b1*4294967296+b0):=by
 refine Nat.lt_of_lt_of_eq ?_ (zj1 q b1 b0).symm;revert h hgt;generalize q*b1=u;generalize q*b0=v;omega
def zyz{q b0 r a0:Nat}(h0:a0<4294967296):(q*b0/4294967296<r\/q*b0/4294967296=r/\q*b0%4294967296<=a0)↔q*b0<=r*4294967296+a0:=by
 generalize q*b0=m;omega
section
variable{T:Tbl}[Zu T][Z0 T][Zy T][Zt T]
def Zje(a0 b1 b0:Nat)(y:Nat×Nat):St:=⟨[(2,u32 a0),(3,u32 b1),(4,u32 b0),(11,u32 y.1),(12,u32 y.2)],[],2⟩
end
section
variable{T:Tbl}[Zu T]
def zy0(a2 a1 a0 b1 b0 g:Nat)(h0:a0<4294967296)(hb1:b1<4294967296)(hb0:b0<4294967296)
  (F1:∀q,q<4294967296->g<=q->q*(b1*4294967296+b0)<=(a2*4294967296+a1)*4294967296+a0->q=g)
  (F2:∀q,(a2*4294967296+a1)*4294967296+a0<q*(b1*4294967296+b0)->g<q):∀y:Nat×Nat,
  (y.1<4294967296/\y.2<4294967296/\y.1*b1+y.2=a2*4294967296+a1/\g<=y.1) ->
  ∃r,(r=(Ex.n,(⟨[(11,u32 g)],[],2⟩:St)))/\Ze T 0 0 (.norm false [11]) l119_0 (Zje a0 b1 b0 y)=some r:=by
 refine zar _ _ (fun y=>y.1) _ ?_
 rintro⟨q,r⟩ ⟨hq,hr,hv,hg⟩
 simp only at hq hr hv hg;have c1:=zj6 (T:=T) q b0 0 0 hq hb0 (by decide) (by decide);have c2:=zfc (T:=T) r b1 0 hr hb1 (by decide);rw[Yad]at c1;rw[Yad]at c2;have hcmp:=zyz (q:=q) (b0:=b0) (r:=r) h0;obtain⟨hi,hhi⟩:∃hi,hi=q*b0/4294967296:=⟨_,rfl⟩;obtain⟨lo,hlo⟩:∃lo,lo=q*b0%4294967296:=⟨_,rfl⟩;rw[<-hhi,<-hlo]at c1 hcmp;have hlol:lo<4294967296:=by omega
 have hhil:hi<4294967296:=by
  have:=zj5 hq hb0;omega
 by_cases hle:q*b0<=r*4294967296+a0
 ·right;have hqg:=F1 q hq hg (zm1 hv hle);subst hqg;have hc:=hcmp.2 hle;clear hhi hlo;rcases hc with hc | ⟨rfl,hc2⟩
  ·refine⟨_,rfl,?_,?_⟩<;>simp -implicitDefEqProofs[l119_0,Zje,c1,hc]
  ·refine⟨_,rfl,?_,?_⟩<;>simp -implicitDefEqProofs[l119_0,Zje,c1,hc2]
 ·have hgt:r*4294967296+a0<q*b0:=by omega
  have hlt:=F2 q (z3c hv hgt);have hc:¬ (hi<r\/hi=r/\lo<=a0):=fun h=>hle (hcmp.1 h);have hq1:q-1<4294967296:=by omega
  have hs:Zii q 1=q-1:=by unfold Zii;omega
  have hqb:(q-1)*b1+(r+b1)=a2*4294967296+a1:=by
   have:q*b1=(q-1)*b1+b1:=by
    rw[<-Ydj];congr 1;omega
   omega
  by_cases hcar:4294967296<=r+b1
  ·right;have hmul:=zj5 hq1 hb0;have hqg:=F1 (q-1) hq1 (by omega) (zm1 hqb (by
    generalize (q-1)*b0=v at *
    omega))
   have m2:0<(r+b1)/4294967296:=Yfh hcar (by decide);have m3:(r+b1)/4294967296<4294967296:=by omega
   have hr2:¬ hi<r:=fun h=>hc (.inl h);clear hhi hlo;refine⟨_,rfl,?_,?_⟩<;>by_cases he:hi=r
   ·have hc3:¬ lo<=a0:=fun h=>hc (.inr ⟨he,h⟩);subst he;simp -implicitDefEqProofs[l119_0,Zje,c1,c2,hs,hc3,m2]
   ·simp -implicitDefEqProofs[l119_0,Zje,c1,c2,hs,hr2,he,m2]
   ·have hc3:¬ lo<=a0:=fun h=>hc (.inr ⟨he,h⟩);subst he;simp -implicitDefEqProofs[l119_0,Zje,c1,c2,hs,hc3,m2,hqg]
   ·simp -implicitDefEqProofs[l119_0,Zje,c1,c2,hs,hr2,he,m2,hqg]
  ·left;refine⟨(q-1,r+b1),⟨hq1,by simp only;omega,hqb,by simp only;omega⟩,by simp only;omega,?_⟩;have m1:(r+b1)%4294967296=r+b1:=Yq (by omega);have m2:(r+b1)/4294967296=0:=Ya3 (by omega);rw[m1,m2]at c2;have hr2:¬ hi<r:=fun h=>hc (.inl h);clear hhi hlo;by_cases he:hi=r
   ·have hc3:¬ lo<=a0:=fun h=>hc (.inr ⟨he,h⟩);subst he;simp -implicitDefEqProofs[l119_0,Zje,c1,c2,hs,hc3]
   ·simp -implicitDefEqProofs[l119_0,Zje,c1,c2,hs,hr2,he]
end
section
variable{T:Tbl}[Zu T][Z0 T][Zy T][Zt T]
def z8f{n two:Nat}(h:0<two):(∀q,q<4294967296->min 4294967295 (n/two)<=q->q*two<=n->q=min 4294967295 (n/two))/\(∀q,n<q*two->min 4294967295 (n/two)<q):=by
 constructor
 ·intro q hq hg hle;have:=(Ycf h).2 hle;omega
 ·intro q hlt;have:=(Yb0 h).2 hlt;omega
def z3d{A a0 b1 b0:Nat}(h0:a0<4294967296)(hp:0<b1):A*4294967296+a0<(A/b1+1)*(b1*4294967296+b0):=by
 have h1:A<(A/b1+1)*b1:=by rw[Yaw];exact Nat.lt_mul_div_succ A hp
 refine Nat.lt_of_lt_of_eq ?_ (zj1 (A/b1+1) b1 b0).symm;generalize (A/b1+1)*b1=u at *
 generalize (A/b1+1)*b0=v at *
 omega
end
section
variable{T:Tbl}[Zu T][Zt T]
def zu0(a2 a1 a0 b1 b0:Nat)(h2:a2<4294967296)(h1:a1<4294967296)(h0:a0<4294967296)(hb1:b1<4294967296)(hb0:b0<4294967296)(hp:0<b1) :
  Za T 119 [u32 a2,u32 a1,u32 a0,u32 b1,u32 b0]=some (u32 (min 4294967295 (((a2*4294967296+a1)*4294967296+a0)/(b1*4294967296+b0)))):=by
 obtain⟨F1,F2⟩:=z8f (n:=(a2*4294967296+a1)*4294967296+a0) (two:=b1*4294967296+b0) (by omega);have hgle:=Ye7 4294967295 (((a2*4294967296+a1)*4294967296+a0)/(b1*4294967296+b0));generalize min 4294967295 (((a2*4294967296+a1)*4294967296+a0)/(b1*4294967296+b0))=g at *
 by_cases hlt:a2<b1
 ·have hd:=zpc (T:=T) a2 a1 b1 hlt h1 hb1;have hql:(a2*4294967296+a1)/b1<4294967296:=z57 hlt h1;have hrl:(a2*4294967296+a1)%b1<b1:=Ya5 _ hp;have hdm:=Ybs (a2*4294967296+a1) b1;rw[Yaw]at hdm;obtain⟨_,rfl,hr⟩:=zy0 (T:=T) a2 a1 a0 b1 b0 g h0 hb1 hb0 F1 F2 ((a2*4294967296+a1)/b1,(a2*4294967296+a1)%b1) ⟨hql,by simp only;omega,hdm,by have:=F2 _ (z3d (A:=a2*4294967296+a1) (b0:=b0) h0 hp);simp only;omega⟩;unfold Zje at hr;simp at hr;rw[zaa Zt.h119 rfl,b119];simp -implicitDefEqProofs[hd,hr]
 ·have hd:=zu5 (T:=T) a2 a1 b1 (by omega) h2 h1;have ha:=zfc (T:=T) a1 b1 0 h1 hb1 (by decide);rw[Yad]at ha;by_cases hbig:b1<a2\/4294967296<=a1+b1
  ·have hg:4294967295=g:=by
    refine F1 4294967295 (by decide) hgle ?_;refine zm1 (r:=a2*4294967296+a1-4294967295*b1) (by omega) ?_;omega
   subst hg;rw[zaa Zt.h119 rfl,b119];rcases Yy b1 a2 with hb | hb
   ·simp -implicitDefEqProofs[hd,ha,hb]
   ·have hc:4294967296<=a1+b1:=by omega
    have hb2:¬ b1<a2:=by omega
    have m2:0<(a1+b1)/4294967296:=Yfh hc (by decide);simp -implicitDefEqProofs[hd,ha,hb2,m2]
  ·have hb2:¬ b1<a2:=fun h=>hbig (.inl h);have hc:a1+b1<4294967296:=by omega
   have m1:(a1+b1)%4294967296=a1+b1:=Yq hc;have m2:(a1+b1)/4294967296=0:=Ya3 hc;rw[m1,m2]at ha;obtain⟨_,rfl,hr⟩:=zy0 (T:=T) a2 a1 a0 b1 b0 g h0 hb1 hb0 F1 F2 (4294967295,a1+b1) ⟨Y7 4294967295,hc,by simp only;omega,hgle⟩;unfold Zje at hr;simp at hr;have hb3:a2<=b1:=by omega
   rw[zaa Zt.h119 rfl,b119];simp -implicitDefEqProofs[hd,ha,hb2,hr]
end
def z1u{V b d three two v0 b0:Nat}(hV:V=three*d+v0)(hv:v0<d)(hb:b=two*d+b0)(hb0:b0<d)(h2:4294967296<=two)(hlt:V<4294967296*b) :
  V/b<=min 4294967295 (three/two)/\min 4294967295 (three/two)<=V/b+1:=by
 have hd:0<d:=by omega
 have htp:0<two:=by omega
 have hbp:0<b:=by
  have:=Nat.mul_pos htp hd;omega
 have hq:V/b<4294967296:=Ycj (by rw[Yaw];exact hlt);have hqb:V/b*b<=V:=Nat.div_mul_le_self V b;have hqb2:V<(V/b+1)*b:=by rw[Yaw];exact Nat.lt_mul_div_succ V hbp
 generalize V/b=q at *
 constructor
 ·refine Nat.le_min.2 ⟨by omega,(Ycf htp).2 ?_⟩;have h3:q*two*d<(three+1)*d:=by
   have:q*two*d<=q*b:=by rw[hb,Yas,Yal];omega
   rw[Ybz,Yds];omega
  have:=Nat.lt_of_mul_lt_mul_right h3;omega
 ·generalize hx:min 4294967295 (three/two)=x;have hx1:x<=three/two:=by rw[<-hx];exact Nat.min_le_right _ _
  have hx2:x<=4294967295:=by rw[<-hx];exact Ye7 _ _
  have hx3:x*two<=three:=(Ycf htp).1 hx1;rcases Yy (q+1) x with h | h
  ·exfalso;have e1:(q+2)*two<=x*two:=Yaa _ h;have e2:(q+2)*two*d<=three*d:=Yaa _ (Yd e1 hx3);have e3:(q+1)*b=(q+1)*two*d+(q+1)*b0:=by rw[hb,Yas,Yal]
   have e4:(q+1)*b0<=(q+1)*d:=Yaq _ (Ydi hb0);have e5:(q+2)*two*d=(q+1)*two*d+two*d:=by rw[show q+2=(q+1)+1 from rfl,Ybz (q+1) 1 two,Yds,Ybz]
   have e6:(q+1)*d<=two*d:=Yaa _ (by omega);omega
  ·exact h
def z3w{vA vA' t p V x r vb vm T:Nat}(h0:vA=t+p*V)(h1:vA'=t+p*r)(hV:V=vb*x+r)(hT:T=vA+p*4294967296*(vm*vb)) :
  T=vA'+p*((x+4294967296*vm)*vb):=by grind
def zzj{V b x Bo vm p:Nat}(hb:0<b)(h1:V/b<=x)(h2:x<=V/b+1)(_hp:V<p)(hm:vm<p)(hBo:Bo<=1)(h:vm+x*b=V+p*Bo) :
  (Bo=0->x=V/b/\vm=V%b)/\(Bo=1->x=V/b+1/\vm+b=V%b+p):=by
 have hd:=Ybs V b;constructor
 ·intro h0;subst h0;have hx:x=V/b:=by
   have:x*b<=V:=by omega
   have:=(Ycf hb).2 this;omega
  grind
 ·intro h0;subst h0;have hx:x=V/b+1:=by
   grind
  grind
def zzk{vm b r p D vm':Nat}(_hr:r<p)(h:vm+b=r+p)(hm:vm'<p)(hD:D<=1)(hg:vm'+p*D=vm+b):vm'=r:=by
 rcases Ya4 D with h0 | h0
 all_goals grind
def zpd{α:Type}{A:List α}{i k:Nat}(h:i=k)(hi:i<A.length)(hk:k<A.length):A[i]'hi=A[k]'hk:=by grind
def znb(A:List UInt32)(j n:Nat):val (A.drop j)=val ((A.drop j).take n)+4294967296^((A.drop j).take n).length*val (A.drop (j+n)):=by
 grind[List.take_append_drop,zaj,List.drop_drop]
def zu7{q x:Nat}(h:x=q+1)(hx:x<4294967296):Zii x 1=q:=by unfold Zii;omega
def zzl{A m1:List UInt32}{j n:Nat}(hm1:m1.length=n+1)(hj:j+n<A.length) :
  (A.take j++(m1++A.drop (j+(n+1)))).take j=A.take j/\(A.take j++(m1++A.drop (j+(n+1)))).drop (j+(n+1))=A.drop (j+(n+1)) /\
  ((A.take j++(m1++A.drop (j+(n+1)))).drop j).take (n+1)=m1/\(A.take j++(m1++A.drop (j+(n+1)))).length=A.length:=by
 have htj:(A.take j).length=j:=by grind
 refine⟨?_,?_,?_,?_⟩
 ·rw[Ycs (by omega),Ya (by omega)]
 ·rw[<-Yfb,Yb5 (by omega),Ya7 (l:=A.take j) (by omega),Yau,Yb5 (by omega),Ya7 (by omega),Yau]
 all_goals grind
def zzm{D:List UInt32}{n:Nat}(h:n+2<D.length):val (D.take (n+3))=(((D[n+2]'h).toNat*4294967296+(D[n+1]'(by omega)).toNat)*4294967296+(D[n]'(by omega)).toNat)*4294967296^n+val (D.take n):=by
 grind[zaf]
def z8r{D:List UInt32}{n:Nat}(h:n+1<D.length):val (D.take (n+2))=((D[n+1]'h).toNat*4294967296+(D[n]'(by omega)).toNat)*4294967296^n+val (D.take n):=by
 grind[zaf]
section
variable{T:Tbl}[Zu T][Zt T]
def zu8(A b:List UInt32)(j x:Nat)(hx:x<4294967296)(hj:j+b.length<A.length)(hl:A.length<=1000000) :
  ∃(B:Nat) (m:List UInt32),B<=1/\m.length=b.length+1/\val m+x*val b=val ((A.drop j).take (b.length+1))+4294967296^(b.length+1)*B /\
   Z4 T 120 [.bs (.bor 0) 0 1 0 A.length,.i .i64 j,.sl (Zc b) .an,u32 x] [(.bor 0,⟨0,.own,1,Zc A⟩)] =
    some (.b (decide (0<B)),[(.bor 0,⟨0,.own,1,Zc (A.take j++(m++A.drop (j+(b.length+1))))⟩)]):=by
 have h1:(A.take j).length=j:=by grind
 have h2:(A.drop j).length=A.length-j:=by simp
 obtain⟨B,m,hB,hm,hv,hc⟩:=zz0 (T:=T) (A.take j) (A.drop j) b x hx (by omega) (by omega)
 grind[List.take_append_drop,List.drop_drop]
end
section
variable{T:Tbl}[Zu T][Zt T]
def zu9(A b:List UInt32)(j:Nat)(hj:j+b.length<A.length)(hl:A.length<=1000000) :
  ∃(D:Nat) (m:List UInt32),D<=1/\m.length=b.length+1/\val m+4294967296^(b.length+1)*D=val ((A.drop j).take (b.length+1))+val b /\
   Z4 T 121 [.bs (.bor 0) 0 1 0 A.length,.i .i64 j,.sl (Zc b) .an] [(.bor 0,⟨0,.own,1,Zc A⟩)] =
    some (.tup [],[(.bor 0,⟨0,.own,1,Zc (A.take j++(m++A.drop (j+(b.length+1))))⟩)]):=by
 have h1:(A.take j).length=j:=by grind
 have h2:(A.drop j).length=A.length-j:=by simp
 obtain⟨D,m,hD,hm,hv,hc⟩:=zz1 (T:=T) (A.take j) (A.drop j) b (by omega) (by omega);rw[h1,h2,show j+(A.length-j)=A.length by omega,Ybb,Yfb]at hc;exact⟨D,m,hD,hm,hv,hc⟩
end
section
variable{T:Tbl}[Zu T][Z0 T][Zy T][Zt T]
def Zmk(b:List UInt32)(LA LQ:Nat)(y:Nat×List UInt32×List UInt32):St:=
 ⟨[(0,.bs (.bor 0) 0 1 0 LA),(1,.sl (Zc b) .an),(5,.i .i64 b.length),(6,.bs (.loc 15) 3 1 0 LQ),(7,.i .i64 ((y.1:Int)-1))],
  [(.bor 0,⟨0,.own,1,Zc y.2.1⟩),(.loc 15,⟨3,.own,1,Zc (List.replicate y.1 0++y.2.2)⟩)],5⟩
end
section
variable{T:Tbl}[Zu T][Zt T]
set_option maxHeartbeats 2000000 in
def z8s(A0 b:List UInt32)(LQ nb:Nat)(hnb:b.length=nb+2)(hb1:0<(b[nb+1]'(by omega)).toNat)(hl:A0.length<=1000000)(hA0:A0.length=LQ+b.length):∀y:Nat×List UInt32×List UInt32,
  (y.1<=LQ/\y.2.1.length=A0.length/\y.2.2.length=LQ-y.1/\val (y.2.1.drop y.1)<val b/\val A0=val y.2.1+4294967296^y.1*(val y.2.2*val b)) ->
  ∃r,(∃Q A:List UInt32,r=(Ex.n,(⟨[(6,.bs (.loc 15) 3 1 0 LQ)],[(.bor 0,⟨0,.own,1,Zc A⟩),(.loc 15,⟨3,.own,1,Zc Q⟩)],5⟩:St)) /\
   Q.length=LQ/\A.length=A0.length/\val Q=val A0/val b/\val A=val A0%val b)/\Ze T 1 0 (.norm false [6]) l93_0 (Zmk b A0.length LQ y)=some r:=by
 refine zar _ _ (fun y=>y.1) _ ?_
 rintro⟨k,A,m⟩ ⟨hk,hA,hm,hlt,hv⟩
 simp only at hk hA hm hlt hv;have hbp:0<val b:=by omega
 cases k with
 | zero=>
  right;rw[Ydu,Yds]at hv;rw[Y6]at hlt;refine⟨_,⟨m,A,rfl,by omega,hA,?_,?_⟩,?_,?_⟩
  ·rw[hv,Ydw _ _ hbp,Ya3 hlt,Yap]
  ·rw[hv,Yeb,Yq hlt]
  ·simp -implicitDefEqProofs[l93_0,Zmk]
  ·simp -implicitDefEqProofs[l93_0,Zmk]
 | succ j=>
  left
  -- the window
  have hD:(A.drop j).length=A.length-j:=by simp
  have hDn:nb+2<(A.drop j).length:=by omega
  have hVlt:val (A.drop j)<4294967296*val b:=by
   have:=Yg (show j<A.length by omega);rw[this,zao];have:=zan (A[j]'(by omega));omega
  have hbB:=za3 b;rw[hnb]at hbB;have hsplit:=znb A j (nb+3);have hlen3:((A.drop j).take (nb+3)).length=nb+3:=by simp;omega
  rw[hlen3]at hsplit;have hz:val (A.drop (j+(nb+3)))=0:=by
   rcases Ya4 (val (A.drop (j+(nb+3)))) with h | h
   ·exact h
   ·exfalso;have h1:=Yaq (4294967296^(nb+3)) h;rw[Yan 4294967296 (nb+2)]at h1 hsplit;generalize 4294967296^(nb+2)=p at *
    generalize p*4294967296*val (A.drop (j+(nb+3)))=u at *
    omega
  rw[hz,Yax,Yad]at hsplit;have h3:=zzm hDn;have h2:=z8r (D:=b) (n:=nb) (by omega);rw[zbo (a:=b) (i:=nb+2) (by omega)]at h2;have hv0:=za3 ((A.drop j).take nb);have hb0:=za3 (b.take nb);rw[show ((A.drop j).take nb).length=nb by simp;omega]at hv0;rw[show (b.take nb).length=nb by simp;omega]at hb0;obtain⟨V,hV⟩:∃V,V=val (A.drop j):=⟨_,rfl⟩;rw[<-hV]at hsplit hVlt;rw[<-hsplit]at h3;have hg:=z1u (V:=V) (b:=val b) h3 hv0 h2 hb0 (by omega) hVlt;obtain⟨p0,hp0⟩:∃p,p=j+b.length:=⟨_,rfl⟩;obtain⟨p1,hp1⟩:∃p,p=j+(nb+1):=⟨_,rfl⟩;obtain⟨p2,hp2⟩:∃p,p=j+nb:=⟨_,rfl⟩;obtain⟨q1,hq1⟩:∃p,p=nb+1:=⟨_,rfl⟩;have c1:p0<A.length:=by omega
  have c2:p1<A.length:=by omega
  have c3:p2<A.length:=by omega
  have c4:q1<b.length:=by omega
  have c5:nb<b.length:=by omega
  have e1:(A.drop j)[nb+2]'hDn=A[p0]'c1:=Yen.trans (zpd (by omega) _ _);have e2:(A.drop j)[nb+1]'(by omega)=A[p1]'c2:=Yen.trans (zpd (by omega) _ _);have e3:(A.drop j)[nb]'(by omega)=A[p2]'c3:=Yen.trans (zpd (by omega) _ _);have e4:b[nb+1]'(by omega)=b[q1]'c4:=zpd (by omega) _ _;rw[e1,e2,e3,e4]at hg;rw[e4]at hb1;have hgs:=zu0 (T:=T) (A[p0]'c1).toNat (A[p1]'c2).toNat (A[p2]'c3).toNat (b[q1]'c4).toNat (b[nb]'c5).toNat (zan _) (zan _) (zan _) (zan _) (zan _) hb1;obtain⟨x,hxd⟩:∃x,x=min 4294967295 ((((A[p0]'c1).toNat*4294967296+(A[p1]'c2).toNat)*4294967296+(A[p2]'c3).toNat)/((b[q1]'c4).toNat*4294967296+(b[nb]'c5).toNat)):=⟨_,rfl⟩;rw[<-hxd]at hg hgs;have hx:x<4294967296:=by rw[hxd];exact Ydo (Ye7 _ _) (by decide)
  clear hxd;obtain⟨Bo,m1,hBo,hm1,hvm1,hct⟩:=zu8 (T:=T) A b j x hx (by omega) (by omega);rw[hnb,show nb+2+1=nb+3 from rfl,<-hsplit]at hvm1;have hm1l:=za3 m1;rw[hm1,hnb,show nb+2+1=nb+3 from rfl]at hm1l;have hVp:V<4294967296^(nb+3):=by
   rw[Yan 4294967296 (nb+2)];generalize 4294967296^(nb+2)=p at *
   omega
  have hpk:=zzj hbp hg.1 hg.2 hVp hm1l hBo hvm1;have hql:V/val b<4294967296:=Ycj (by rw[Yaw];exact hVlt);have hzb:val (A.drop (j+(b.length+1)))=0:=by rw[hnb];exact hz
  have htj:(A.take j).length=j:=by simp;omega
  have fin:∀m2:List UInt32,m2.length=b.length+1->val m2=V%val b ->
    (A.take j++(m2++A.drop (j+(b.length+1)))).length=A0.length/\val ((A.take j++(m2++A.drop (j+(b.length+1)))).drop j)<val b /\
    val A0=val (A.take j++(m2++A.drop (j+(b.length+1))))+4294967296^j*(val (w32 (V/val b)::m)*val b):=by
   intro m2 hm2 hvm2;refine⟨by simp[hm2];omega,?_,?_⟩
   ·rw[Yb5 (by omega),Ya7 (by omega),Yau,zaj,hzb,Yax,Yad,hvm2];exact Ya5 _ hbp
   ·have t1:val A=val (A.take j)+4294967296^j*V:=by rw[hV];exact zp6 A j (by omega)
    have t2:val (A.take j++(m2++A.drop (j+(b.length+1))))=val (A.take j)+4294967296^j*(V%val b):=by
     rw[zaj,zaj,hzb,Yax,Yad,hvm2,htj]
    rw[zao,zah hql];exact z3w t1 t2 (Ybs V (val b)).symm hv
  clear hv hvm1 hsplit h3 h2 hg hbB hVlt hlt hzb hz hv0 hb0 hm1l hVp;have hw1:IntKind.wrap .i64 ((j:Int)-1)=(j:Int)-1:=zab _ (by omega);have hw2:IntKind.wrap .i64 ((j:Int)+b.length)=((p0:Nat):Int):=by rw[zab _ (by omega)];omega
  have hw3:IntKind.wrap .i64 ((p0:Int)-1)=((p1:Nat):Int):=by rw[zab _ (by omega)];omega
  have hw4:IntKind.wrap .i64 ((p0:Int)-2)=((p2:Nat):Int):=by rw[zab _ (by omega)];omega
  have hw5:IntKind.wrap .i64 ((b.length:Int)-1)=((q1:Nat):Int):=by rw[zab _ (by omega)];omega
  have hw6:IntKind.wrap .i64 ((b.length:Int)-2)=((nb:Nat):Int):=by rw[zab _ (by omega)];omega
  have hj1:j<LQ:=by omega
  rw[hA]at hct;have hml:(w32 (V/val b)::m).length=LQ-j:=by simp[hm];omega
  have hjb:j+b.length<A.length:=by omega
  have hnb3:nb+3=b.length+1:=by omega
  have d1:p0<A0.length:=by omega
  have d2:p1<A0.length:=by omega
  have d3:p2<A0.length:=by omega
  rcases Ya4 Bo with h0 | h0
  ·obtain⟨hxq,hvm⟩:=hpk.1 h0;subst h0;subst hxq;have hset:=znd (m:=m) (j:=j) (w32 (V/val b));obtain⟨f1,f2,f3⟩:=fin m1 hm1 hvm;refine⟨(j,A.take j++(m1++A.drop (j+(b.length+1))),w32 (V/val b)::m),⟨Ydi hj1,f1,hml,f2,f3⟩,Y7 j,?_⟩;simp -implicitDefEqProofs[l93_0,Zmk,hw1,hw2,hw3,hw4,hw5,hw6,c4,c5,d1,d2,d3,hA,hj1,hgs,hct,hset,zne,zbp _ _ _ hx]
  ·have h1:Bo=1:=by omega
   obtain⟨hxq,hvm⟩:=hpk.2 h1;subst h1;have hset:=znd (m:=m) (j:=j) (w32 (V/val b));obtain⟨t1,t2,t3,t4⟩:=zzl (A:=A) hm1 hjb;rw[hA]at t4;obtain⟨D,m2,hD,hm2,hvm2,hcg⟩:=zu9 (T:=T) (A.take j++(m1++A.drop (j+(b.length+1)))) b j (by rw[t4,<-hA];exact hjb) (by rw[t4];exact hl);rw[t1,t2,t4]at hcg;rw[t3]at hvm2;have hm2l:=za3 m2;rw[hm2]at hm2l;have hVb:=Ya5 V hbp;have hbq:val b<4294967296^(b.length+1):=Y8 (za3 b) (Y9 (by decide) (Ybq _));rw[hnb3]at hvm;have hv2:=zzk (Nat.lt_trans hVb hbq) hvm hm2l hD hvm2;have hsx:=zu7 hxq hx;obtain⟨f1,f2,f3⟩:=fin m2 hm2 hv2;refine⟨(j,A.take j++(m2++A.drop (j+(b.length+1))),w32 (V/val b)::m),⟨Ydi hj1,f1,hml,f2,f3⟩,Y7 j,?_⟩;simp -implicitDefEqProofs[l93_0,Zmk,hw1,hw2,hw3,hw4,hw5,hw6,c4,c5,d1,d2,d3,hA,hj1,hgs,hct,hsx,hcg,hset,zne,zbp _ _ _ hql]
end
section
variable{T:Tbl}[Zu T][Zt T]
def zzn(A b:List UInt32)(LQ nb:Nat)(hnb:b.length=nb+2)(hb1:0<(b[nb+1]'(by omega)).toNat)(hl:A.length<=1000000)(hA:A.length=LQ+b.length)(hlt:val (A.drop LQ)<val b) :
  ∃Q R:List UInt32,Q.length=LQ/\R.length=A.length/\val Q=val A/val b/\val R=val A%val b /\
   Z4 T 93 [.bs (.bor 0) 0 1 0 A.length,.sl (Zc b) .an] [(.bor 0,⟨0,.own,1,Zc A⟩)]=some (.bs (.loc 15) 3 1 0 LQ,[(.bor 0,⟨0,.own,1,Zc R⟩),(.loc 15,⟨3,.own,1,Zc Q⟩)]):=by
 obtain⟨_,⟨Q,R,rfl,hQ,hR,hq,hr⟩,hlp⟩:=z8s (T:=T) A b LQ nb hnb hb1 hl hA (LQ,A,[]) ⟨Ye _,rfl,by simp,hlt,by simp⟩;have hw:IntKind.wrap .i64 ((A.length:Int)-b.length)=(LQ:Int):=by rw[zab _ (by omega)];omega
 have hw1:IntKind.wrap .i64 ((LQ:Int)-1)=(LQ:Int)-1:=zab _ (by omega);have h1:(LQ:Int)<=4294967296:=by omega
 refine⟨Q,R,hQ,hR,hq,hr,?_⟩;unfold Zmk at hlp;simp at hlp;rw[zam Zt.h93 rfl,b93];simp -implicitDefEqProofs[hw,hw1,h1,hlp]
end
section
def b2071:AX:=QZ "0fQ61kgIna7R94Q4KAAF1"
def l2092_0:AX:=QZ "0oAMYMBIFfcMA0cSilBKeA.nYwD0KC4kq6MlXDQBC5hjSUgiY2O2e8fFytJopBKpk.VT.Jg4DCuHMEV2kvE8nIAryUiOcdcY1OlVH2qYzw1XjU"
def b2092:AX:=(fun p0=>QY [p0] [(AV.i .i64 4096)] "hYGEMRNGv7B4f1c0WFcoYU1HzbQI6szzQVt4tNuhNyM57bDKfJNcrCNZxQJpjBFqulKAaFZ5GXWFS17BRqSbqLUZHwP7a2IR1") l2092_0
def b62:AX:=QZ "5h6ug2R4jNr1FywlRbljjyK_EaYpx3Mhy1l_SgMlvbq2tpcEAvb2ITIJ.U3nkvcKwh91WjUkSX0bc3RiW9CA96ToPeYvc0jaf2V7CwPFvHK0SrPGrreIklBGqMSMZ1sdmkPhAtyaUiLRlnO5DMbnigJJS0.sy43zaOwmOGhax12B90pNfY1yjNAKqoAP6GqQqAXB2dUQqIZ1hdFb_akrP955v483Xz_.kUKHA1.AAAERaiVOZM1xkX07_GpCpcHDpwbsfggs"
abbrev row2071:AFx:=⟨1,6,[.t 2],b2071,(some [false]),false⟩
abbrev row2092:AFx:=⟨2,57,[.t 4],b2092,(some [false,false]),false⟩
abbrev row62:AFx:=⟨2,65,[.t 4,.t 5,.t 6],b62,none,false⟩
class Zp (T:Tbl):Prop where
 h2071:Tr T 2071=some row2071
 h2092:Tr T 2092=some row2092
 h62:Tr T 62=some row62
attribute [simp] Zp.h2071 Zp.h2092 Zp.h62
end
def z8z(x:Nat):x<2^Zbe x:=by
 unfold Zbe;split
 ·subst x;decide
 ·exact Yeu
def zz2{x:Nat}(h:x<4294967296):Zbe x<=32:=by
 unfold Zbe;split
 ·omega
 ·rename_i h0;have:=(Yeq h0 (k:=32)).2 (by simpa using h);omega
def z58{n k:Nat}(h:(ofN n).length=k+1):4294967296^k<=n:=by
 rcases Yy n (4294967296^k) with h1 | h1
 ·have:=zas h1;omega
 ·exact h1
def zae7{b:List UInt32}{nb:Nat}(h:b.length=nb+2)(hb:b=ofN (val b)) :
  (ofN (val b*2^(32-Zbe (b[nb+1]'(by omega)).toNat))).length=nb+2:=by
 have hl:=zz2 (zan (b[nb+1]'(by omega)));have hs:=z8z (b[nb+1]'(by omega)).toNat;have h1:val b=val (b.take (nb+1))+4294967296^(nb+1)*(b[nb+1]'(by omega)).toNat:=by
  have:=zaf (Yb (show nb+1<b.length by omega))
  rwa [zbo (by omega)]at this
 have h2:=za3 (b.take (nb+1));rw[show (b.take (nb+1)).length=nb+1 by simp;omega]at h2;generalize (b[nb+1]'(by omega)).toNat=t at *
 refine Nat.le_antisymm (zas ?_) ?_
 ·have h3:val b<4294967296^(nb+1)*2^Zbe t:=by
   have:4294967296^(nb+1)*(t+1)<=4294967296^(nb+1)*2^Zbe t:=Yaq _ hs;rw[Yas,Yd4]at this;omega
  have h4:2^Zbe t*2^(32-Zbe t)=4294967296:=by
   rw[<-Ybu,show Zbe t+(32-Zbe t)=32 by omega]
  have h5:=Yd9 h3 (Ybe (n:=32-Zbe t) (show 0<2 by decide));rw[Yal,h4,<-Yan]at h5;exact h5
 ·have h3:val b<=val b*2^(32-Zbe t):=Ybc _ (Ybe (by decide));have:=zav h3;rw[<-hb]at this;omega
def z80{b:List UInt32}{nb:Nat}(h:b.length=nb+2)(hb:b=ofN (val b)):0<(b[nb+1]'(by omega)).toNat:=by
 have h1:val b=val (b.take (nb+1))+4294967296^(nb+1)*(b[nb+1]'(by omega)).toNat:=by
  have:=zaf (Yb (show nb+1<b.length by omega))
  rwa [zbo (by omega)]at this
 have h2:=za3 (b.take (nb+1));rw[show (b.take (nb+1)).length=nb+1 by simp;omega]at h2;have h3:4294967296^(nb+1)<=val b:=z58 (by rw[<-hb];omega);rcases Ya4 (b[nb+1]'(by omega)).toNat with h0 | h0
 ·rw[h0,Yax]at h1;omega
 ·exact h0
def zkb(l:List UInt32):val (l++[0])=val l:=by rw[zaj];simp
def zae8{A b:List UInt32}{nb L:Nat}(hA:(A++[0]).length=L+b.length)(hb:b.length=nb+2)(hbo:b=ofN (val b)):val ((A++[0]).drop L)<val b:=by
 have hl:L<=A.length:=by simp at hA;omega
 rw[Yb5 hl,zkb];have h1:=za3 (A.drop L);have h2:(A.drop L).length=nb+1:=by simp at hA ⊢;omega
 rw[h2]at h1;exact Y8 h1 (z58 (by rw[<-hbo];omega))
section
variable{T:Tbl}[Zu T][Zp T]
def zpl(a:List UInt32)(hl:a.length<=1000000):Z4 T 2071 [.sl (Zc a) .an] [] =
  some (.bs (.fld (.loc 5) 10) 1 1 0 (ofN (val a)).length,[(.fld (.loc 5) 10,⟨1,.own,1,Zc (ofN (val a))⟩)]):=by
 have h1:=zac a;have h2:=zdf (T:=T) (ofN (val a)) 0 (by omega);simp only[Yp,Yad,Ydg,Ya9]at h2;rw[zam Zp.h2071 rfl,b2071];simp -implicitDefEqProofs[zb4 a (by omega),h2]
end
section
variable{T:Tbl}[Zu T][Zp T]
def zkc(a:List UInt32)(n:Nat)(hn:n<=4096)(hl:a.length<=100000):Z4 T 2092 [.sl (Zc a) .an,.i .i64 n] [] =
  some (.bs (.fld (.fld (.loc 56) 0) 6010) 1 1 0 (ofN (val a*2^n)).length,[(.fld (.fld (.loc 56) 0) 6010,⟨1,.own,1,Zc (ofN (val a*2^n))⟩)]):=by
 obtain⟨_,⟨c,m,rfl,hm,hc,hv⟩,hr⟩:=z9v (T:=T) (List.replicate (n/32) 0) a (n%32) (Ya5 _ (by decide)) (by simp;omega) (0,0,[]) ⟨Yv _,Ybe (by decide),rfl,by simp⟩;have hc32:c<4294967296:=Y8 hc (by
  have:2^(n%32)<=2^32:=Y9 (by decide) (by omega);simpa using this)
 have hval:val (List.replicate (n/32) 0++(m++[w32 c]))=val a*2^n:=by
  rw[zaj,zbq,Yz,zaj,hm];simp only[zao,zbh,Yax,Yad,zah hc32,Yap];rw[hv,zp5,<-Yal,<-Ybu,show 32*(n/32)+n%32=n by omega,Yaw]
 have hlen:(List.replicate (n/32) 0++(m++[w32 c])).length=n/32+a.length+1:=by simp[hm];omega
 have hnm:=zpl (T:=T) (List.replicate (n/32) 0++(m++[w32 c])) (by omega);rw[hval]at hnm;rw[show l92_0=l2092_0 from rfl]at hr;unfold Zot at hr;generalize List.replicate (n/32) 0++(m++[w32 c])=Q at *
 simp at hr;have hz:List.replicate (n/32) (0:UInt32)++w32 0::List.replicate a.length 0=List.replicate (n/32+a.length+1) 0:=by
  have:w32 0=0:=rfl;rw[this,<-Ycn,List.replicate_append_replicate,Ya2]
 rw[hz]at hr;have hn2:¬ (4096:Int)<(n:Int):=by omega
 have hq:(n:Int).tdiv 32=(n:Int)/32:=Yc5 (by omega);have hm2:(n:Int).tmod 32=(n:Int)%32:=Yc6 (by omega);have w1:IntKind.wrap .i64 ((n:Int)/32)=(n:Int)/32:=zab (n/32) (by omega);have w2:IntKind.wrap .i64 ((n:Int)/32+a.length)=(n:Int)/32+a.length:=zab _ (by omega);have w3:IntKind.wrap .i64 ((n:Int)/32+a.length+1)=(n:Int)/32+a.length+1:=zab _ (by omega);have p1:(0:Int)<=(n:Int)/32+a.length+1:=by omega
 have p2:(n:Int)/32+a.length+1<=4294967296:=by omega
 have p3:((n:Int)/32+a.length+1).toNat=n/32+a.length+1:=by omega
 have htk:List.take (n/32+a.length+1) Q=Q:=Ya (by omega);rw[zam Zp.h2092 rfl,b2092];simp -implicitDefEqProofs[hn2,hq,hm2,w1,w2,w3,p1,p2,p3,hr,hnm,htk,hlen]
end
section
variable{T:Tbl}[Zu T][Z0 T][Zy T][Zt T][Zp T]
def zg8(a b:List UInt32)(ha:a.length<=90000)(hb:b.length<=90000):Za T 62 [.sl (Zc a) .an,.sl (Zc b) .an] =
  some (if val b=0 then .tup [.sl [] .an,.sl [] .an,.b false] else .tup [.sl (Zc (ofN (val a/val b))) .an,.sl (Zc (ofN (val a%val b))) .an,.b true]):=by
 have hnb:=zb5 (T:=T) b (by omega);have hna:=zb5 (T:=T) a (by omega);have hlb:=zac b;have hla:=zac a;have hcmp:=zj8 (T:=T) a (ofN (val b)) (by omega) (by omega);rw[zad]at hcmp;rw[zaa Zp.h62 rfl,b62];by_cases h0:val b=0
 ·rw[h0]at hnb;simp -implicitDefEqProofs[hnb,h0]
 ·have h0':ofN (val b)≠[]:=fun h=>h0 (zau.1 h);have hl0:(ofN (val b)).length≠0:=fun h=>h0' (Yaj h);by_cases hlt:val a<val b
  ·have hd:=Ya3 hlt;have hm:=Yq hlt;simp -implicitDefEqProofs[hnb,h0,hl0,hcmp,zd0,hlt,hna,hd,hm]
  ·rcases Yy 1 (ofN (val b)).length with h1 | h1
   ·obtain⟨b',hb'⟩:∃b',b'=ofN (val b):=⟨_,rfl⟩;have hvb:val b'=val b:=by rw[hb',zad]
    have hbo:b'=ofN (val b'):=by rw[hvb,hb']
    rw[<-hb']at hnb hcmp hl0 h1 hlb;obtain⟨nb,hnbl⟩:∃nb,b'.length=nb+2:=⟨b'.length-2,by omega⟩;have hll:=zs8 (T:=T) (b'[nb+1]'(by omega));have hbl:=zz2 (zan (b'[nb+1]'(by omega)));have hup:=zae7 hnbl hbo;obtain⟨s,hs⟩:∃s,s=32-Zbe (b'[nb+1]'(by omega)).toNat:=⟨_,rfl⟩;obtain⟨l,hll2⟩:∃l,l=Zbe (b'[nb+1]'(by omega)).toNat:=⟨_,rfl⟩;rw[<-hs]at hup;rw[<-hll2]at hll hs hbl;obtain⟨B,hB⟩:∃B,B=ofN (val b'*2^s):=⟨_,rfl⟩;obtain⟨A,hA⟩:∃A,A=ofN (val a*2^s):=⟨_,rfl⟩;have hua:=zkc (T:=T) a s (by omega) (by omega);have hub:=zkc (T:=T) b' s (by omega) (by omega);rw[<-hA]at hua;rw[<-hB]at hub hup;have hBo:B=ofN (val B):=by rw[hB,zad]
    have hvA:val A=val a*2^s:=by rw[hA,zad]
    have hvB:val B=val b'*2^s:=by rw[hB,zad]
    have hAB:B.length<=A.length:=by
     rw[hA,hB];exact zav (Yaa _ (by omega))
    have hAl:A.length<=a.length+1:=by
     rw[hA];refine zas ?_;have h2:2^s<=2^32:=Y9 (by decide) (by omega);rw[Yan];exact Ydo (Yaq _ h2) (Yd9 (za3 a) (by decide))
    have hpos:=z80 (hup) hBo;obtain⟨Q,R,hQ,hR,hvQ,hvR,hlong⟩:=zzn (T:=T) (A++[0]) B (A.length+1-B.length) nb hup hpos (by simp;omega) (by simp;omega) (zae8 (by simp;omega) hup hBo);rw[zkb,hvA,hvB,hvb,Nat.mul_div_mul_right _ _ (Ybe (by decide))]at hvQ;rw[zkb,hvA,hvB,hvb,Nat.mul_mod_mul_right]at hvR;have hnq:=zb5 (T:=T) Q (by omega);have hAl1:(A++[(0:UInt32)]).length=A.length+1:=by simp
    rw[hAl1]at hlong hR;have hdn:=z1q (T:=T) R s (by omega) (by omega);rw[hvR,Nat.mul_div_cancel _ (Ybe (by decide))]at hdn;rw[hvQ]at hnq;obtain⟨q1,hq1⟩:∃p,p=nb+1:=⟨_,rfl⟩;have c1:q1<b'.length:=by omega
    have hwt:b'[nb+1]'(by omega)=b'[q1]'c1:=zpd (by omega) _ _;rw[hwt]at hll;have w1:IntKind.wrap .i64 ((b'.length:Int)-1)=(q1:Int):=by rw[zab _ (by omega)];omega
    have w2:IntKind.wrap .i64 (32-(l:Int))=(s:Int):=by rw[zab _ (by omega)];omega
    have c3:A.length<=4294967295:=by omega
    have c4:w32 0=0:=rfl;have c5:A.length+1<=A.length+1-B.length+B.length:=by omega
    have c2:¬ ((b'.length:Int)=1):=by omega
    have t1:List.take (A.length+1) R=R:=Ya (by omega);have t2:List.take (A.length+1-B.length) Q=Q:=Ya (by omega);simp -implicitDefEqProofs[hnb,h0,hl0,hcmp,zd0,hlt,w1,w2,c1,c2,c3,c4,c5,hll,hua,hub,hlong,hnq,hdn,t1,t2,hQ,hR]
   ·have hl1:(ofN (val b)).length=1:=by omega
    obtain⟨w,hw⟩:=List.length_eq_one_iff.1 hl1;have hvb:val b=w.toNat:=by
     have:=zad (val b);rw[hw]at this;simp at this;omega
    have hwl:=zan w;have hwd:=zzz (T:=T) a (val b) (by omega) (by omega) (by omega);have hof:=zj7 (T:=T) (val a%val b) (by have:=Ya5 (val a) (show 0<val b by omega);omega);have m1:val a%val b%18446744073709551616=val a%val b:=Yq (by have:=Ya5 (val a) (show 0<val b by omega);omega);rw[hw]at hnb hcmp;rw[<-hvb]at hwl;simp -implicitDefEqProofs[hnb,h0,hcmp,zd0,hlt,hwd,<-hvb,hof,m1]
end
def Zqu(n:Nat):List UInt8:=if h:n<10 then [UInt8.ofNat (48+n)] else UInt8.ofNat (48+n%10)::Zqu (n/10)
termination_by n
decreasing_by omega
def Zkh(n:Nat):List UInt8:=(Zqu n).reverse
def Zpx:List AV->Option UInt32
 | [.i .u32 n]=>if 0<=n/\n<4294967296 then some (w32 n.toNat) else none
 | _=>none
def prim68:List AV->Option AV
 | [.sl els .an]=>if els.length<=1000 then (els.mapM Zpx).map fun l=>.s (Zkh (val l)) else none
 | _=>none
def Zqv:Nat->List UInt8->Int
 | _,[]=>-1
 | k,c::r=>if c.toNat<48\/57<c.toNat\/k=60 then k else Zqv (k+1) r
def Zl1(l:List UInt8):Int:=if l=[] then 0 else Zqv 0 l
def rd(l:List UInt8):Nat:=l.foldl (fun n c=>n*10+(c.toNat-48)) 0
def txN(n:Nat)(s:List UInt8):List UInt8:=if n=0/\s≠[] then s else Zkh n++s
def Zr5:Nat->Nat->List UInt8
 | 0,_=>[]
 | k+1,x=>Zr5 k (x/10)++[UInt8.ofNat (48+x%10)]
def u8c(l:List UInt8):List AV:=l.map fun b=>u8 b.toNat
class Za9 (T:Tbl):Prop where
class Zbd (T:Tbl):Prop where
section
variable{T:Tbl}[Zu T][Zy T][Za9 T]
def Ztr(l:List UInt8)(o:List UInt32)(i0 k:Nat):St:=
 ⟨[(0,.s l),(3,.ptr (.loc 3) 1 4 0 0),(5,.sl (Zc o) .an),(6,.i .i64 (i0+k:Nat)),(7,u32 (rd ((l.drop i0).take k))),(8,u32 (10^k)),(9,.i .i64 k)],[(.loc 3,⟨1,.str,4,[[.i .i64 0,.i .i64 0,.i .i64 0,.i .i64 0]]⟩)],3⟩
end
def sg(n:Bool)(k:Nat):Int:=if n then -(k:Int) else k
def wv(n:Bool)(a:List UInt32):Int:=sg n (val a)
abbrev wh(n:Bool)(a:List UInt32):AV:=.agg [.b n,.sl (Zc a) .an]
abbrev ez(z:Int):AV:=wh (decide (z<0)) (ofN z.natAbs)
def sgI(z:Int):Int:=if z<0 then -1 else if z=0 then 0 else 1
theorem ztm(n:Bool)(k:Nat):decide (sg n k<0)=(n&&decide (k≠0)):=by
 cases n
 ·simp[sg]
 ·by_cases h:k=0<;>simp[sg,h];omega
theorem ztn(n:Bool)(k:Nat):(sg n k).natAbs=k:=by cases n<;>simp[sg]
@[simp] theorem zkr(z:Int):wv (decide (z<0)) (ofN z.natAbs)=z:=by
 unfold wv;rw[zad];by_cases h:z<0
 ·simp[sg,h];omega
 ·simp[sg,h];omega
def zaf0(n:Bool)(a:List UInt32):(wv n a).natAbs=val a:=ztn n _
def z1v(n:Bool)(k:Nat):ez (sg n k)=wh (n&&decide (k≠0)) (ofN k):=by
 unfold ez;rw[ztm,ztn]
def zks(n:Bool)(x y:Nat):sg n (x+y)=sg n x+sg n y:=by cases n<;>simp[sg]<;>omega
def zp9{n m:Bool}(h:n≠m){x y:Nat}(hxy:x<y):sg m (y-x)=sg n x+sg m y:=by
 cases n<;>cases m<;>simp[sg]at h ⊢<;>omega
def zqa{n m:Bool}(h:n≠m){x y:Nat}(hxy:¬ x<y):sg n (x-y)=sg n x+sg m y:=by
 cases n<;>cases m<;>simp[sg]at h ⊢<;>omega
theorem z6d(n:Bool)(x:Nat):sg (!n) x=- sg n x:=by cases n<;>simp[sg]
theorem zto(n m:Bool)(x y:Nat):sg (n != m) (x*y)=sg n x*sg m y:=by cases n<;>cases m<;>simp[sg,Int.mul_neg,Yfg]
def z6e(n:Bool)(x:Nat):sgI (sg n x)=if x=0 then 0 else if n then -1 else 1:=by
 unfold sgI;cases n<;>simp[sg]<;>split<;>(try split)<;>omega
def Zo5(z:Int):List UInt8:=if z<0 then 45::Zkh z.natAbs else Zkh z.natAbs
def zcy{x y:Int}{L:Nat}(hx:(ofN x.natAbs).length<=L)(hy:(ofN y.natAbs).length<=L):(ofN (x+y).natAbs).length<=L+1:=by
 refine zas ?_;have h1:=za3 (ofN x.natAbs);have h2:=za3 (ofN y.natAbs);rw[zad]at h1 h2;have h3:4294967296^(ofN x.natAbs).length<=4294967296^L:=Y9 (by decide) hx;have h4:4294967296^(ofN y.natAbs).length<=4294967296^L:=Y9 (by decide) hy;rw[Yan];generalize 4294967296^L=p at *
 omega
def zkt(x:Int):ofN (-x).natAbs=ofN x.natAbs:=by rw[Int.natAbs_neg]
def za5{x y:Int}{L M:Nat}(hx:(ofN x.natAbs).length<=L)(hy:(ofN y.natAbs).length<=M):(ofN (x*y).natAbs).length<=L+M:=by
 refine zas ?_;have h1:=za3 (ofN x.natAbs);have h2:=za3 (ofN y.natAbs);rw[zad]at h1 h2;rw[Yfe,Ybu];exact Nat.mul_lt_mul'' (Y8 h1 (Y9 (by decide) hx)) (Y8 h2 (Y9 (by decide) hy))
def zb7(n:Bool)(a:List UInt32):(ofN (wv n a).natAbs).length<=a.length:=by rw[zaf0];exact zac a
def Zo6(l:List UInt8):Int:=sg (l.head? = some 45) (rd (if l.head? = some 45 then l.tail else l))
def Zn2(l:List UInt8):Int:=Zl1 (if l.head? = some 45 then l.tail else l)
def Zqw(l:List UInt8):Int:=if l.head? = some 45 then 1 else 0
section
def b55:AX:=QZ "MJHY_gVtS.Vh_zFJARCLZc5NGBIk9cXN7G0"
def b38:AX:=QZ "3ZeEbURWdMQIbT3EoW5Sn81zE8J7l"
def b40:AX:=QZ "0mjAzKb1qAR35cfOyyrgKtQ9X4r2AF4"
def b23:AX:=QZ "1zzU_dosWW6Z7X4_6__YfoCNnKfA5u52jM0QsTaoWYL6TOGeO3gkfDBa2J55HxKIAZgLQJf8dpeEIYgpweZiYUQg.bnHmbZvJ6MO0eg6zCoCRtUKpKtSUIeLs6mGQIRwPGBj"
def b25:AX:=QZ "22HVaoVwLylwspzaMVGmefDGMr.QnF4"
def b27:AX:=QZ "GyqzY7kAxKhpt9TVofii0uLs7hS9Ypr3mLDLs3Pgyl5"
def b37:AX:=QY [] [(AV.i .i64 (-1))] "XKLkhFP.DiGKQDmz_VBWJse6Al2kAHIueLuvKcueJg0q0jj79rK6"
def b41:AX:=QZ "EriHfyhrz1eY6htFG1tZrg8EZLRAdwWcleyOhdG3U7gYcFwhcBG.h"
def b36:AX:=QZ "131qqdhfd36UvOSCRkFGnvH4JGxdF"
abbrev row55:AFx:=⟨2,13,[.cell 4 (some 2)],b55,none,false⟩
abbrev row38:AFx:=⟨1,9,[.cell 2 (some 2)],b38,none,false⟩
abbrev row40:AFx:=⟨1,10,[.cell 2 (some 2)],b40,none,false⟩
abbrev row23:AFx:=⟨2,39,[.cell 4 (some 2)],b23,none,false⟩
abbrev row25:AFx:=⟨2,9,[.cell 4 (some 2)],b25,none,false⟩
abbrev row27:AFx:=⟨2,16,[.cell 4 (some 2)],b27,none,false⟩
abbrev row37:AFx:=⟨1,10,[.t 2],b37,none,false⟩
abbrev row41:AFx:=⟨1,14,[.cell 2 (some 2)],b41,none,false⟩
abbrev row36:AFx:=⟨2,9,[.t 4],b36,none,false⟩
class Zi (T:Tbl):Prop where
 h55:Tr T 55=some row55
 h38:Tr T 38=some row38
 h40:Tr T 40=some row40
 h23:Tr T 23=some row23
 h25:Tr T 25=some row25
 h27:Tr T 27=some row27
 h37:Tr T 37=some row37
 h41:Tr T 41=some row41
 h36:Tr T 36=some row36
attribute [simp] Zi.h55 Zi.h38 Zi.h40 Zi.h23 Zi.h25 Zi.h27 Zi.h37 Zi.h41 Zi.h36
end
section
def l198_0:AX:=QZ "9MUWqN.gmAFh5OSu_ZzEjTDV44Pn72T"
def b198:AX:=(fun p0=>QY [p0] [] "MA1LQv8moqUapNhA2uY5C5") l198_0
def l199_0:AX:=QZ "SA8dIuH5WTXYQcUgxjXOW2ZDRqwJDouHO8Uj97cedIycWR_biYpH0UEDoNgx.rS"
def b199:AX:=(fun p0=>QY [p0] [] "uk0HUT69oqQBpIrj90W5phA2X3GXy9v7esclvx0v2nzFYYVPt4UK098Dn54oEddKiBj3A8WO3U8w0VbtlS14PrchIRrIjkMSl5l5P1l_mNV953GBWqAcA0pJ9FyJp1.zciqOWJfF25g2ThIUDoywukKf4Ac.") l199_0
def b200:AX:=QZ "4Gh7RGwVbYk0eLsx.G_bit0jeJ5ub.CBNI"
def b201:AX:=QZ "0r4gLqGqGaDTjB9JMGhfs8jSj0YWfgHHoJ24wFOEDi7Ca9nTcDTNiAqS4NJdUo3yXJw5kdTYy3_MzQGBe3qbayMslvj_7Z4RvJVamJ9i0AkFvu0KOQu43mB7F8fhoAqaaLfiTwzlVcob5M0.1N48gU_p235"
abbrev row198:AFx:=⟨2,12,[.t 4],b198,none,false⟩
abbrev row199:AFx:=⟨2,56,[.t 4],b199,none,false⟩
abbrev row200:AFx:=⟨1,12,[.t 2],b200,none,false⟩
abbrev row201:AFx:=⟨2,37,[.t 4,.t 5],b201,none,false⟩
class Zl (T:Tbl):Prop where
 h198:Tr T 198=some row198
 h199:Tr T 199=some row199
 h200:Tr T 200=some row200
 h201:Tr T 201=some row201
attribute [simp] Zl.h198 Zl.h199 Zl.h200 Zl.h201
end
section
def b202:AX:=QZ "1Vz4vT7p8oLh4Dhg4hbOQWMIpjO7TCC.esnYYJBHdpQCjitPjgiNcDCI4P5EqNtNzutJ3n_."
def b203:AX:=QZ "71LvxElED5hKbY5T2LzjH4CXAegde39LWD7OsCaN00WG2D9v7hga8V64kjbYU201"
def b205:AX:=QZ "dniPPihQPIPmllwKS1yjk6cjEwrJW"
def b207:AX:=QZ "6yTkAKT.jATG8OIeLb.Jl4I8A2CJ"
def b209:AX:=QZ "0Txyw0xc2zEc1KuxOpX1ZI6EBji4OqOiMZezo_yvkOc4D3zoKM7Y"
def b210:AX:=QZ "3BiO0FLiIn9x8tAr2Gm1bj61Efx3"
def b211:AX:=QZ "KPN3fczgHNvhiftSxtNuZK_G8Xt3DmAobuxlzwrJQJoao7aKR7Z_AzrDp8aDOy05hMUUkkCCiDo6iLD9iD40l53x_zgHlSY1K17OxpF"
def b212:AX:=QZ "3guqO4s5vofxVuLp8h3LQ8y.2F2"
def b213:AX:=QZ "2dDUMt60EV0KNuf235P0tqgCZxwAMRGtd9aApp9Cm3zKz4PG0"
def b215:AX:=QZ "3bb_c2HoYKH3s8CEoccgKTW8LutJCR8zLOlV6EL7pWoNYjfMj3b9QbKxOSuFweu1XVGB9GUbzB5dQsTd4NoemeYQSzUe8YEQzvhnqFJfamflYdMFp5rbK9"
def b216:AX:=QZ "3bb_c2HoYKH3s8CEoccgKTW8LyyDsMEr.3wcNfERrNlWO25Ovbotu.0w9P815jeVylZuRo7ZzWm5yvGQYM6WESMxdgW_sb61oawM0dJzGuDMzdyKvoI8hH"
def b217:AX:=QZ "7Iv_sx37193j64vgwZqBMYonWxHClO4nknQth_DwJDFLYpM52bw2l_nhVcmf_GcJiGPz6pgRhn2_6f_jnCOW1iaNBcyFWvNNNHIBqZ0Bq"
def b218:AX:=QZ "1LFu57pB9cZf2YHoD_ZJYZAk76lniP1ZpQbO.WqhPJxTGO5IxqvOllSXDqPl5Fsyhf3pSQY10je2WVzmFQSrtriEGZIKb7McmrkLaZ3zsVjDzDjYQqRCUJRPlPthUiu4Dr4zSqbw_WaaXwZjgz8q70bcvDkcsfGx_LC30Dxqjr84"
abbrev row202:AFx:=⟨2,21,[.cell 4 (some 3)],b202,none,false⟩
abbrev row203:AFx:=⟨1,13,[.cell 2 (some 2),.t 3],b203,none,false⟩
abbrev row205:AFx:=⟨1,7,[.cell 2 (some 3)],b205,none,false⟩
abbrev row207:AFx:=⟨1,8,[.cell 2 (some 3)],b207,none,false⟩
abbrev row209:AFx:=⟨1,12,[.t 2],b209,none,false⟩
abbrev row210:AFx:=⟨2,9,[.cell 4 (some 2)],b210,none,false⟩
abbrev row211:AFx:=⟨2,26,[.t 4],b211,none,false⟩
abbrev row212:AFx:=⟨2,9,[.t 4],b212,none,false⟩
abbrev row213:AFx:=⟨1,11,[.cell 2 (some 3)],b213,none,false⟩
abbrev row215:AFx:=⟨2,30,[.cell 4 (some 3)],b215,none,false⟩
abbrev row216:AFx:=⟨2,30,[.cell 4 (some 3)],b216,none,false⟩
abbrev row217:AFx:=⟨2,26,[.cell 4 (some 3)],b217,none,false⟩
abbrev row218:AFx:=⟨2,40,[.cell 4 (some 3),.t 5],b218,none,false⟩
class Zs (T:Tbl):Prop where
 h202:Tr T 202=some row202
 h203:Tr T 203=some row203
 h205:Tr T 205=some row205
 h207:Tr T 207=some row207
 h209:Tr T 209=some row209
 h210:Tr T 210=some row210
 h211:Tr T 211=some row211
 h212:Tr T 212=some row212
 h213:Tr T 213=some row213
 h215:Tr T 215=some row215
 h216:Tr T 216=some row216
 h217:Tr T 217=some row217
 h218:Tr T 218=some row218
attribute [simp] Zs.h202 Zs.h203 Zs.h205 Zs.h207 Zs.h209 Zs.h210 Zs.h211 Zs.h212 Zs.h213 Zs.h215 Zs.h216 Zs.h217 Zs.h218
end
class Zet (T:Tbl):Prop where
section
def b208:AX:=QZ "4t1tLeKXfK69kR6iNCB2YkqdQuX0_xXzpuOqQqcrbUhbzrxhguVJ5zEGwvmeDhHPbVyYHPPs3G4cmFncZSs9uW93sR8PqV.e4MKzKbWY8EmiOpnfOndlDYYAZPQfifNScc3QJcgiCdqUTvyppEDLPLT_mX6ZZadxSG"
def l219_0:AX:=QZ "WpJn4T6wtgnXUpFy8YilJew_AiwsvWcwH6FMU"
def b219:AX:=(fun p0=>QY [p0] [] "_02mxo1PBoQpWem5E1mXVxju3UxV4sdNKYXDOI") l219_0
def b220:AX:=QY [] [(AV.i .i64 (-8))] "2V1AQdNho2QG22Dk.O_gwgIw.taiOcdavX8.7U1uieJrvV1QRPpJI7ZJ0Y1jhLNl7hgWMuSELEIT2P8s7iFW7J6_UcUvmM.s6dCe67HAHjGjo4TeP9QEuZ3tKR4EsznoL7dnpjmHoEHMxgpo7Qu.bnUQm2.lo_yd1WNV.aBXzcih93S3gl7FNaqgWWioGLCga5xOtwrug_au72KU2DmMF9WCO.u"
abbrev row208:AFx:=⟨1,51,[.t 2],b208,none,false⟩
abbrev row219:AFx:=⟨2,15,[.t 4],b219,none,false⟩
abbrev row220:AFx:=⟨2,58,[.cell 4 (some 3),.t 5],b220,none,false⟩
class Zad (T:Tbl):Prop where
 h208:Tr T 208=some row208
 h219:Tr T 219=some row219
 h220:Tr T 220=some row220
attribute [simp] Zad.h208 Zad.h219 Zad.h220
end
section
def b223:AX:=QZ "H4nUG9PfQJre3xDwWs9WCs0RopwKcy"
abbrev row223:AFx:=⟨1,11,[.t 2],b223,none,false⟩
class Zap (T:Tbl):Prop where
 h223:Tr T 223=some row223
attribute [simp] Zap.h223
end
section
def b356:AX:=QZ "0YTZIzsGhanf1EE7u0lYB6FNvCvr5EMdGf4W6Zq1f6VvRAeaBPsXYz7wZqzF.mr9zTHGI66jh3"
abbrev row356:AFx:=⟨1,20,[.t 2],b356,none,false⟩
class Zc5 (T:Tbl):Prop where
 h356:Tr T 356=some row356
attribute [simp] Zc5.h356
end
section
def b421:AX:=QY [] [(AV.i .i64 (-1))] "0LG4BVtRes6ynwMaszzPS8"
def l430_0:AX:=QZ "Cv0X.1dD_0cKzCVtHA3PKwGfRPcCQBs9UUERLhaEWNW8xF.1DtVVY6V"
def l430_1:AX:=QZ "Ay1BFL0YvPwMlnaCY9LfC_7VET7cKHbG1BNGp.Kt09d8fWGFSy_Ec_57DQeD8EQIT"
def b430:AX:=(fun p0 p1=>QY [p0,p1] [(AV.i .i64 (-2)),(AV.i .i64 (-1))] "1Z7uAs.kPXmVtZP.6p6BjcoX_4Kqs42H4xP9S4twpvaByXttYtIzXMvNnPlw7c0") l430_0 l430_1
def b433:AX:=QZ "9Uzwu5yQzOTrDaTTOOIl7sGbyuofPxLYltQNfAx81n5njozKsQTOOv0tqjANAA17Vsui3OvKT3y81YZbm8NC"
def l434_0:AX:=QZ "585oLE7UKll9a23If0aOmv2anETOumspXOoT8Ghyx5PNjzclx.uN7fAxYV"
def b434:AX:=(fun p0=>QY [p0] [(AV.i .i64 (-8))] "ft77r_BZzOpQ8vhFXstr_OLtZ4KqAayrsKH.1EZP1NkH4QDVyjmnbCKNTQmmTsKqwrB5R8ahn_xyGLZs8ZJwWYSKc.0KJ1_BP3t3hy7GBxrdmHh8PDGh5aRxxVjPIHEBXeKXI3vA0j18rdVpTNlnLWL6fmBE91IkLTpZJFga1K8MXw20Kcfh7LX91V7IJRG.DbHmafH.s6.UJNWboEMGia5Rlp0usT7t6csfokQ.PhhHje5ondK2v.43H4S49V17KOuWfEm2TxUFzHDH9qyljZAZSJ7GgGGEOT4X6qmlBP6hYELXN61fgvBJUaPvjxY2b3ZAK4lDqVmOxqbJwJjA.UYGbR1SYG0DXUbVu") l434_0
def b435:AX:=QZ "xL6W6F28E04F_CblbEWfBrYkGqJJv"
def b437:AX:=QZ "9NMKlO7LSSzV2S7vZuC.yCZc08P3Il0"
def b438:AX:=QZ "2IvQ5y.jxuvpVYh0AJuql4nQ0L0vHm4UtvdD1j26tj4yWX9_aTI1XPJH"
def b439:AX:=QZ "8eRLJNvW2U6x7Z_IJyqhbMpvHpl5aY1m4rJ8s_KOgveTtdQHBv3OrL9IyeOCoB5fIV8e0vIWtxXW8APXMI3gzrT_8TZeAA14RJiF2Svdt_SDqZzX5p2eJ9.0e028qjSTBS"
abbrev row421:AFx:=⟨1,6,[.t 2],b421,none,false⟩
abbrev row430:AFx:=⟨1,38,[.t 2],b430,none,false⟩
abbrev row433:AFx:=⟨1,26,[.t 2],b433,none,false⟩
abbrev row434:AFx:=⟨2,92,[.t 4],b434,none,false⟩
abbrev row435:AFx:=⟨2,12,[.t 4],b435,none,false⟩
abbrev row437:AFx:=⟨1,10,[.cell 2 (some 3)],b437,none,false⟩
abbrev row438:AFx:=⟨1,20,[.t 2],b438,none,false⟩
abbrev row439:AFx:=⟨1,21,[.t 2],b439,none,false⟩
class Zah (T:Tbl):Prop where
 h421:Tr T 421=some row421
 h430:Tr T 430=some row430
 h433:Tr T 433=some row433
 h434:Tr T 434=some row434
 h435:Tr T 435=some row435
 h437:Tr T 437=some row437
 h438:Tr T 438=some row438
 h439:Tr T 439=some row439
attribute [simp] Zah.h421 Zah.h430 Zah.h433 Zah.h434 Zah.h435 Zah.h437 Zah.h438 Zah.h439
end
section
def b406:AX:=QY [] [(AV.raw (.pointer none)),(AV.i .i64 4096)] "KQLMEe0XUGvsbTvPVR0qXzLrKot"
def b411:AX:=QZ "9OSxlI4TZUGJhva2YY0h3l1Y8Oc28TIbzZ_oFBcACtvMYVcu"
def b426:AX:=QZ "3L3hnH.tMc9XEB_Jf980lU.Sm3QssKRRv2NVCg5"
def l413_0:AX:=QZ "_AL3AGnaKnf81nwYdr1couOj4qmeWGuctErwYhSkQv9z7TJb.ue1qs2GyuEL0qH01oBS2RUkkrT"
def b413:AX:=(fun p0=>QY [p0] [] "1UPE81vNJuUQDiDZfrNigM6uSp.JCwTFep8") l413_0
abbrev row406:AFx:=⟨1,8,[.t 2],b406,(some [false]),false⟩
abbrev row411:AFx:=⟨2,19,[.t 4],b411,(some [true,false]),false⟩
abbrev row426:AFx:=⟨2,20,[],b426,(some [true,false]),false⟩
abbrev row413:AFx:=⟨2,23,[.t 4,.t 5],b413,(some [true,false]),false⟩
class Zaf (T:Tbl):Prop where
 h406:Tr T 406=some row406
 h411:Tr T 411=some row411
 h426:Tr T 426=some row426
 h413:Tr T 413=some row413
attribute [simp] Zaf.h406 Zaf.h411 Zaf.h426 Zaf.h413
end
section
def b405:AX:=QZ "Q8BFcTSkIr8aX.mvlQDU6yVLDmfJhKUWyavdGVtt87WMiOK41"
def l420_0:AX:=QZ "UQGM08vAA8kJK_DasXacAdqGoyGdV1T5cAzzIjMTux4a8w9y_Cq2a0BK6.2_kUT"
def b420:AX:=(fun p0=>QY [p0] [] "4i20n5UcHX5qxyqqHdZ7e.EzNIjLjz7v") l420_0
abbrev row405:AFx:=⟨1,13,[.cell 2 (some 5)],b405,none,false⟩
abbrev row420:AFx:=⟨1,19,[.t 2],b420,none,false⟩
class Zbl (T:Tbl):Prop where
 h405:Tr T 405=some row405
 h420:Tr T 420=some row420
attribute [simp] Zbl.h405 Zbl.h420
end
section
def b384:AX:=QY [] [(AV.raw (.pointer none))] "O6mDCcu_ZNAb9TathIv.FlG5QWZBNReXmqdLW7LnGtEo4BTF2hEFFZ0nklhwz7aInmmL3FBM8VtDhAUlqFBupKxjZtuPRlLNu4pCkTYNm"
def b389:AX:=QZ "RKkkSZuCbH8u0ibbLvKF61CgOSHmt4wAP8NNLf4OYTMduIJOUnDKEU.adOwFXbSwWPT8ax6rqfh.QNfIIz.4V7aWAX.kEq4OwVjsuY2zwtTVe89ofpHyMy56.pXJ0"
def l407_0:AX:=QZ "5o9RCnLDM9YL3qI0ZzNNFluM9ZnB4Ho93lBTPEQip4Kfh18pHsyoAn_hFkqHLq_c5hHakFHHvt08rMcShRmU8t053n5IHkN5ES8zBkyVAk0IM6JBcSCpk..VQrUToa9PGGEWYpBhhe6dIHJC3LiyBViXcdBLPNYbVd9dmE58d3M2.vcvI0W1XVDmyUECcWKj6eELVHlw..ekkkhXToB8zHzQ"
def b407:AX:=(fun p0=>QY [p0] [] "G88znSqQYArbxZOvLEgsBz45xl1KtmcjThuR4TobDuQv26VJxqXpzrJvNvzmt06X4bP3GivK3t5VvIRb3O3KJXNYYoHmblYaQL_2JtVuS0vrH6Qqq4VITnJJCpjEZxAZA6nt3IjFGJm8YPxgahJflK") l407_0
def l409_0:AX:=QZ "Oy6kTYEya7LWrTfjYxrd6K7VxRmL.nCdj2L5YeQcEmvv2jdgI3aNmOlwQ0YTK76Q"
def b409:AX:=(fun p0=>QY [p0] [] "BPewpA06PDO3tLKEiXCK.7RgQB6qKlpnyTv1qh5TCvdYBySFQGDfOGj4CKC34lLICEEaK5xuSzCvFsT2RE") l409_0
def b422:AX:=QZ "0dUwrVrd5vYADxrRqsuT7yiL5VZ5ZsmtFdv9i0OH7MUA6cQ6rP7MQpefmbSRzcG3cEVzjOu4CQYiEyod769uqBUwV2lGas4BIuBYkdgzU10W6XDllcDXIqsWZBz8NVUIIFPY_QAl2NXRux_5BkOce0QtLE3wDAW_ljamE5A2bZ.5YTaZr4ojbhBMuDk128NFYsMPU6Cv9CWwtE3l4Ce39QPan2b5xbQLAJZC7BXwqY_PsEO3pS1n1p5_yw.BffskDoFZmSCjA04a3x7sd4soiiN4uO8KP6rkLg53DUf8MoG4IqTUVwb2yBzoBUoO_FuJsdRagU6h_U6cAdmk0oEmQLXJRJH_jg6Vs8dGBXFYJPoDv7iNNI7t1emfpManP7fKy0lhrLxQCGg_W0Ir_Ky3bImx2R8"
def b431:AX:=QZ "5VTLHgE6g34c8PCkF86iOZeag_PHn9NG7Lj7IwfEsSCDTvNEF9KBIqyfeWAGKvoa58I.TnUtYZtbNjY.a2vNytRj9o9m8UnQKHD0rvw_wkTjb3KFE9WmOASnHSNowkZ5prg_"
def b441:AX:=QZ "1jQpWITrHNIcwR9vTYQa5P7Y.R7ct"
def b442:AX:=QZ "z_89EhcefktuV7pupjMaphiO7"
def b443:AX:=QZ "1jQpWITrHNMw7Mzo11hr7JEeOhxdK"
def b444:AX:=QZ "3uha2OA8T7Xv4Hhtq1cumJL"
def b445:AX:=QZ "3uha2OA8Pmj1Cum4zL1JeJ."
def b446:AX:=QZ "QwJLpuQ.prWINE3jkj8n52oAT1GM6kcPBKS8"
def b447:AX:=QZ "21P0Ub1Z8yuHY2VH_.4PZ1vAfY.16UdKogaUt.G"
def b448:AX:=QZ "1jQpWITrHNMlCeWT9HQR5EbFyQ2cO"
abbrev row384:AFx:=⟨3,27,[.t 6,.cell 7 (some 4)],b384,none,false⟩
abbrev row389:AFx:=⟨3,25,[.t 6,.cell 7 (some 4)],b389,none,false⟩
abbrev row407:AFx:=⟨3,70,[.t 6,.cell 7 (some 4)],b407,(some [true,false,false]),false⟩
abbrev row409:AFx:=⟨2,36,[.t 4],b409,none,false⟩
abbrev row422:AFx:=⟨4,108,[.cell 8 (some 3),.t 9],b422,none,false⟩
abbrev row431:AFx:=⟨3,35,[.cell 6 (some 3)],b431,none,false⟩
abbrev row441:AFx:=⟨3,10,[.cell 6 (some 3)],b441,none,false⟩
abbrev row442:AFx:=⟨2,9,[.t 4],b442,(some [true,false]),false⟩
abbrev row443:AFx:=⟨3,10,[.cell 6 (some 3)],b443,none,false⟩
abbrev row444:AFx:=⟨2,7,[.cell 4 (some 3)],b444,none,false⟩
abbrev row445:AFx:=⟨2,7,[.cell 4 (some 3)],b445,none,false⟩
abbrev row446:AFx:=⟨3,13,[.cell 6 (some 3),.t 7],b446,none,false⟩
abbrev row447:AFx:=⟨3,13,[.cell 6 (some 3),.t 7],b447,none,false⟩
abbrev row448:AFx:=⟨3,10,[.cell 6 (some 3)],b448,none,false⟩
class Zas (T:Tbl):Prop where
 h384:Tr T 384=some row384
 h389:Tr T 389=some row389
 h407:Tr T 407=some row407
 h409:Tr T 409=some row409
 h422:Tr T 422=some row422
 h431:Tr T 431=some row431
 h441:Tr T 441=some row441
 h442:Tr T 442=some row442
 h443:Tr T 443=some row443
 h444:Tr T 444=some row444
 h445:Tr T 445=some row445
 h446:Tr T 446=some row446
 h447:Tr T 447=some row447
 h448:Tr T 448=some row448
attribute [simp] Zas.h384 Zas.h389 Zas.h407 Zas.h409 Zas.h422 Zas.h431 Zas.h441 Zas.h442 Zas.h443 Zas.h444 Zas.h445 Zas.h446 Zas.h447 Zas.h448
section
variable{T:Tbl}[Zas T]{d:Option Nat}{st:St}{xs:List AV}{ps:List Opd}{e:Env}{h:Heap}{ol:List Heap}
@[simp] def z446(xs:List AV):dI T 446 xs=dR (Za T 446 (xs.map (wkIf false))) xs:=zaeg Zas.h446
@[simp] def z447(xs:List AV):dI T 447 xs=dR (Za T 447 (xs.map (wkIf false))) xs:=zaeg Zas.h447
end
end
def meths1:List RV:=[.cell 1 (some 445),.cell 2 (some 444),.cell 3 (some 441),.cell 4 (some 448),.cell 5 (some 443),.cell 6 (some 447),.cell 7 (some 446),.cell 8 (some 442)]
class Zd7 (T:Tbl):Prop where
 h1:∃t,T 1000001=some ⟨t,0,meths1,.bad,none,false⟩
section
variable{T:Tbl}[Zd7 T]
def ze8(x:String×Nat):x∈Za3 T 1↔x∈[("Of",445),("Neg",444),("Add",441),("Sub",448),("Mul",443),("Quo",447),("Pow",446),("Fits",442)]:=by
 obtain⟨t,ht⟩:=Zd7.h1 (T:=T)
 rw[z2y ht]
 rfl
@[simp] def zaug:(("Of",445)∈Za3 T 1)=True:=by simp[ze8]
@[simp] def zarp:(("Neg",444)∈Za3 T 1)=True:=by simp[ze8]
@[simp] def zarq:(("Add",441)∈Za3 T 1)=True:=by simp[ze8]
@[simp] def zarr:(("Sub",448)∈Za3 T 1)=True:=by simp[ze8]
@[simp] def zars:(("Mul",443)∈Za3 T 1)=True:=by simp[ze8]
@[simp] def zart:(("Quo",447)∈Za3 T 1)=True:=by simp[ze8]
@[simp] def zaru:(("Pow",446)∈Za3 T 1)=True:=by simp[ze8]
@[simp] def zaok:(("Fits",442)∈Za3 T 1)=True:=by simp[ze8]
end
def isD(c:UInt8):Bool:=decide (48<=c.toNat)&&decide (c.toNat<=57)
def isL(c:UInt8):Bool:=decide (97<=c.toNat)&&decide (c.toNat<=122) || decide (65<=c.toNat)&&decide (c.toNat<=90) || decide (c.toNat=95)
def Zjw:List UInt8:=[43,45,42,47,94,40,41,91,93,44,59,61]
def isS(c:UInt8):Bool:=Zjw.contains c
def Zn(c:UInt8):Nat:=if isD c then 1 else if isL c then 2 else if isS c then 3 else 0
def Zbp(k:Nat)(c:UInt8):Bool:=decide (k=1)&&isD c || decide (k=2)&&(isL c || isD c)
def Za5(k:Nat):Nat:=if k=1 then 60 else if k=2 then 12 else 1
theorem zfj(k:Nat):1<=Za5 k:=by
 grind[Za5]
def isB(c:UInt8):Bool:=decide (c=32) || decide (c=9) || decide (c=10) || decide (c=13)
abbrev Wd:=Nat×List UInt8×Nat
def Zbz:Bool->List UInt8->Nat
 | _,[]=>0
 | note,c::r=>
  let note':=if c=35 then true else if c=10 then false else note
  if (note' || isB c)=true then 1+Zbz note' r else 0
theorem zts:∀(note:Bool) (l:List UInt8),Zbz note l<=l.length
 | _,[]=>Ye _
 | note,c::r=>by
  by_cases h:((if c=35 then true else if c=10 then false else note) || isB c)=true
  ·have:=zts (if c=35 then true else if c=10 then false else note) r;simp only[Zbz,h,if_true,Yr];omega
  ·simp only[Zbz,h,if_false,Yx,Yv]
def Zab(k:Nat)(r:List UInt8):Nat:=1+(r.takeWhile (Zbp k)).length
def Zei(l:List UInt8)(i:Nat)(acc:List Wd):Except Nat (List Wd):=
 match l with
 | []=>.ok acc
 | c::r=>
  if Zn c=0 then .error i
  else if Za5 (Zn c)<Zab (Zn c) r then .error (i+Za5 (Zn c))
  else Zei ((r.drop (Zab (Zn c) r-1)).drop (Zbz false (r.drop (Zab (Zn c) r-1)))) (i+Zab (Zn c) r+Zbz false (r.drop (Zab (Zn c) r-1)))
   (acc++[(Zn c,(c::r).take (Zab (Zn c) r),i)])
termination_by l.length
decreasing_by grind
def zh5(c:UInt8)(r:List UInt8)(i:Nat)(acc:List Wd):Zei (c::r) i acc =
  if Zn c=0 then .error i
  else if Za5 (Zn c)<Zab (Zn c) r then .error (i+Za5 (Zn c))
  else Zei ((r.drop (Zab (Zn c) r-1)).drop (Zbz false (r.drop (Zab (Zn c) r-1)))) (i+Zab (Zn c) r+Zbz false (r.drop (Zab (Zn c) r-1)))
   (acc++[(Zn c,(c::r).take (Zab (Zn c) r),i)]):=by rw[Zei]
def zhf(i:Nat)(acc:List Wd):Zei [] i acc=.ok acc:=by rw[Zei]
def Zd0(c:UInt8)(i:Nat)(acc:List Wd):List Wd:=
 match acc.getLast? with
 | some (k,t,a)=>if a+t.length=i/\Zbp k c=true then acc.dropLast++[(k,t++[c],a)] else acc++[(Zn c,[c],i)]
 | none=>acc++[(Zn c,[c],i)]
def Zga(acc:List Wd):Bool:=
 match acc.getLast? with
 | some (k,t,_)=>decide (k=0) || decide (Za5 k<t.length)
 | none=>false
def Zgd:List UInt8->Nat->Bool->List Wd->Except Nat (List Wd)
 | [],_,_,acc=>.ok acc
 | c::r,i,note,acc=>
  let note':=if c=35 then true else if c=10 then false else note
  if (note' || isB c)=true then Zgd r (i+1) note' acc
  else if Zga (Zd0 c i acc)=true then .error i
  else Zgd r (i+1) note' (Zd0 c i acc)
theorem zkz:∀(l:List UInt8) (i:Nat) (note:Bool) (acc:List Wd),Zgd l i note acc=Zgd (l.drop (Zbz note l)) (i+Zbz note l) false acc
 | [],_,_,_=>rfl
 | c::r,i,note,acc=>by
  by_cases h:((if c=35 then true else if c=10 then false else note) || isB c)=true
  ·have ih:=zkz r (i+1) (if c=35 then true else if c=10 then false else note) acc;simp only[Zgd,Zbz,h,if_true];rw[ih,Yba 1,Yea,Ya2 i 1,Yba 1]
  ·have h':=h;simp only[Yb1,not_or,Ycr]at h';obtain⟨h1,h2⟩:=h';have h3:note=false:=by
    by_cases h35:c=35
    ·simp[h35]at h1
    ·by_cases h10:c=10
     ·subst h10;simp[isB]at h2
     ·simpa[h35,h10]using h1
   subst h3;simp only[Zbz,h,if_false,Y6,Yad,Yx]
def z5j{k:Nat}{c:UInt8}(h:Zbp k c=true):(isL c=true\/isD c=true):=by
 grind[Zbp]
def zaga{c:UInt8}{n:Nat}(h:c.toNat≠n)(hn:n<256):c≠UInt8.ofNat n:=fun e=>h (by simp_all)
def zwh{c:UInt8}(h:isL c=true\/isD c=true):c≠35/\c≠10/\isB c=false:=by
 have h1:48<=c.toNat:=by
  grind[isL,isD]
 have e (n:Nat) (hn:n<48):c≠UInt8.ofNat n:=zaga (by omega) (by omega);refine⟨e 35 (by decide),e 10 (by decide),?_⟩;simp only[isB,Yci,decide_eq_false_iff_not];exact⟨⟨⟨e 32 (by decide),e 9 (by decide)⟩,e 10 (by decide)⟩,e 13 (by decide)⟩
theorem ztt(k a:Nat)(acc:List Wd)(hk:k≠0):∀(r t:List UInt8),t.length<=Za5 k ->
  Zgd r (a+t.length) false (acc++[(k,t,a)]) =
   if Za5 k<t.length+(r.takeWhile (Zbp k)).length then .error (a+Za5 k)
   else Zgd (r.drop (r.takeWhile (Zbp k)).length) (a+t.length+(r.takeWhile (Zbp k)).length) false (acc++[(k,t++r.takeWhile (Zbp k),a)])
 | [],t,ht=>by
  rw[if_neg (by simp_all)];simp
 | c::r,t,ht=>by
  by_cases hc:Zbp k c=true
  ·obtain⟨h1,h2,h3⟩:=zwh (z5j hc);rw[Yca hc];have hs:Zd0 c (a+t.length) (acc++[(k,t,a)])=acc++[(k,t++[c],a)]:=by
    simp[Zd0,hc]
   have hb:Zga (acc++[(k,t++[c],a)])=decide (Za5 k<t.length+1):=by
    simp[Zga,hk]
   conv=>lhs;unfold Zgd
   simp only[h1,h2,h3,if_false,Bool.or_self,Yx,hs,hb,decide_eq_true_eq];by_cases hm:Za5 k<t.length+1
   ·grind
   ·have ih:=ztt k a acc hk r (t++[c]) (by grind)
    grind
  grind[List.takeWhile_cons_of_neg]
def zqb(l:List UInt8):∀c r,l.drop (Zbz false l)=c::r->c≠35/\isB c=false:=by
 have key:∀(l:List UInt8) (note:Bool) c r,l.drop (Zbz note l)=c::r->c≠35/\isB c=false:=by
  intro l
  induction l with
  | nil=>grind
  | cons x l ih=>
   grind[Zbz]
 grind
theorem z11(p:UInt8->Bool):∀r:List UInt8,r.take (r.takeWhile p).length=r.takeWhile p
 | []=>rfl
 | c::r=>by
  by_cases h:p c=true
  ·rw[Yca h,Yr,Yd5,z11 p r]
  ·rw[Yc4 h];rfl
theorem z12(p:UInt8->Bool):∀r:List UInt8,r.drop (r.takeWhile p).length=r.dropWhile p
 | []=>rfl
 | c::r=>by
  by_cases h:p c=true
  ·rw[Yca h,Yr,Yea,z12 p r,List.dropWhile_cons_of_pos h]
  ·rw[Yc4 h,List.dropWhile_cons_of_neg h];rfl
def Zrc(acc:List Wd)(i:Nat)(l:List UInt8):Prop:=∀k t a,acc.getLast? = some (k,t,a)->a+t.length=i->∀c r,l=c::r->Zbp k c=false
def z13:∀(n:Nat) (l:List UInt8) (i:Nat) (acc:List Wd),l.length=n->Zrc acc i l->(∀c r,l=c::r->c≠35/\isB c=false) ->
  Zgd l i false acc=Zei l i acc:=by
 intro n
 induction n using Nat.strongRecOn with
 | _ n ih=>
  intro l i acc hl hf hp;cases l with
  | nil=>unfold Zei;rfl
  | cons c r=>
   obtain⟨h1,h2⟩:=hp c r rfl;have h3:c≠10:=by intro h;subst h;simp[isB]at h2
   have hs:Zd0 c i acc=acc++[(Zn c,[c],i)]:=by
    unfold Zd0;split
    ·rename_i k t a hlast;rw[if_neg]
     rintro⟨h4,h5⟩
     rw[hf k t a hlast h4 c r rfl]at h5
     grind
    ·rfl
   have hb:Zga (acc++[(Zn c,[c],i)])=decide (Zn c=0):=by
    grind[zfj,Zga]
   conv=>lhs;unfold Zgd
   conv=>rhs;unfold Zei
   simp only[h1,h2,h3,if_false,Bool.or_self,Yx,hs,hb,decide_eq_true_eq];by_cases hk:Zn c=0
   ·grind
   ·simp only[hk,if_false];have hmost:=zfj (Zn c);have hrun:=ztt (Zn c) i acc hk r [c] (by omega);simp only[Yr,Yah,Yap,List.singleton_append]at hrun;rw[hrun];unfold Zab;by_cases hm:Za5 (Zn c)<1+(List.takeWhile (Zbp (Zn c)) r).length
    ·rw[if_pos hm,if_pos hm]
    ·rw[if_neg hm,if_neg hm];obtain⟨x,hx⟩:∃x,x=(List.takeWhile (Zbp (Zn c)) r).length:=⟨_,rfl⟩;have htk:r.take x=List.takeWhile (Zbp (Zn c)) r:=by rw[hx,z11]
     rw[<-hx,zkz,Yba 1 x,Yd5,htk,Ya2 i 1 x,Yba 1 x];refine ih _ ?_ _ _ _ rfl ?_ ?_
     ·grind
     ·intro k t a hlast hat c' r' hl';simp only[List.getLast?_append,List.getLast?_singleton,Option.some_or,Option.some.injEq,Prod.mk.injEq]at hlast;obtain⟨rfl,rfl,rfl⟩:=hlast;simp only[Yr,<-hx]at hat
      grind[z12,List.head?_dropWhile_not]
     ·exact zqb _
def z14(l:List UInt8):Zgd l 0 false []=Zei (l.drop (Zbz false l)) (Zbz false l) []:=by
 rw[zkz,Yap];exact z13 _ _ _ _ rfl (fun _ _ _ h=>by cases h) (zqb l)
def prim187:List AV->Option AV
 | [.i .u8 n]=>if 0<=n/\n<256 then some (.b (isS (UInt8.ofNat n.toNat))) else none
 | _=>none
def zwi(c:UInt8):prim187 [u8 c.toNat]=some (.b (isS c)):=by
 have:=c.toNat_lt;simp only[prim187,u8];rw[if_pos ⟨by omega,by omega⟩];simp
def prim184:List AV->Option AV
 | [.s l,.s [c]]=>if l.length<=1000000 then some (.tup [.s (l.takeWhile (· != c)),.s ((l.dropWhile (· != c)).drop 1),.b (l.contains c)]) else none
 | _=>none
def textOf:List AV->Option (List UInt8)
 | [.s l]=>if l.length<=10000 then some l else none
 | _=>none
def prim183:List AV->Option AV
 | [.sl els .an,.s sep]=>if els.length<=1000/\sep.length<=100 then (els.mapM textOf).map fun ts=>.s (List.intercalate sep ts) else none
 | _=>none
def Zlm(l:List (List UInt8)):List (List AV):=l.map fun s=>[.s s]
class Zba (T:Tbl):Prop where
section
def l263_0:AX:=QZ "lWtyY.AeZo3erN0A3bgJ9TYjRFbrzQB7qlga5M1ajXnS"
def b263:AX:=(fun p0=>QY [p0] [] "KGNcr3nxnVOkeBRSvzlO6_tVd829ltjfD9.kXLSTqdE_T1WpKlojybAwv") l263_0
def l266_0:AX:=QZ "UQGM08vAA8kJK_DasXacAdqGoyGdV1T5cAzzIjMTux4a8w9y_Cq2a0BK6.2_kUT"
def b266:AX:=(fun p0=>QY [p0] [] "4i20n5UcHX5qxyqqHdZ7e.EzNIjLjz7v") l266_0
def l267_0:AX:=QZ "mO9YUHQAVmRS2dwWu.Ak4Yrp0AihLaYu2MB1wQ7m1RHQeP9iKoqH4WA8SK.5mOY9GkOZSI8STIS.22U"
def l267_1:AX:=(fun p0=>QY [p0] [] "kP.mTzeG9KjzR7qxeFcqzJ9ugtrdQoL7MU34nlxIAfhPt9ZKvZMSGL8RMHgaEe4GYu9_TOBbwoYeCQV") l267_0
def b267:AX:=(fun p0=>QY [p0] [] "0XqJI4YtO2yAkYoFxs2sBMauQx9WmCNgq1.CHCjoHHtk7TWNS_ujWM2HptsQBJ2MV88d3MJJ") l267_1
def l269_0:AX:=QZ "1KVtK2Bo9e1pGi3Xy42j_eJCmXvz9603S0RcEcQqh6fzCLctSEpgNdnZdA2dmUdM8L6T"
def b269:AX:=(fun p0=>QY [p0] [] "XWS.Tp1TstaDPdR3nTv7ljw04lwUJyaEhs3c") l269_0
def l271_0:AX:=QZ "7qB4_wfI3vFGexVDn_WIjYIHxIFPwxFy98If5pCgF1dTeuUsWmdknqgAMS"
def l271_1:AX:=QZ "XNd0XvaT4C4S9KR8HK2crOy3XYxP8nxSutYCUnbYwZp7LHat5oM9P_lhONVwQNqhiV11AKY5PtMMU.mo407peQqGGq9DE35FQAQ"
def l271_2:AX:=(fun p0=>QY [p0] [] "NZ70.a7sGFDwV6nnO2NYR_VLgzZsBMksJm4L.mRDSylAbk9Bt8Xd7n1B92i6ZEpgGcOrlpcCg8p0HGjOnnnOLFIS") l271_1
def b271:AX:=(fun p0 p1=>QY [p0,p1] [] "8e3JJsq_0qXaxu7skqBQ5i81ig7GkdWHxCGqkHP5LKC9j1pZHwNc7xQlEiO_p97SMeP8Dc7cu84JicuDCzdsNX0FH5g23DFeEOptyNNkLzcXaWSgwAFK") l271_0 l271_2
def l2263_0:AX:=QZ "lWtyY.AeZo3erN0A3bgJ9TYjRFbrzQB7qlga5M1ajXnS"
def b2263:AX:=(fun p0=>QY [p0] [] "KGNcr3nxnVOkeBRSvzlO6_tVd829ltjfD9.kXLSTqdE_T1WpKlojybAwv") l2263_0
def l2266_0:AX:=QZ "UQGM08vAA8kJK_DasXacAdqGoyGdV1T5cAzzIjMTux4a8w9y_Cq2a0BK6.2_kUT"
def b2266:AX:=(fun p0=>QY [p0] [] "4i20n5UcHX5qxyqqHdZ7e.EzNIjLjz7v") l2266_0
abbrev row263:AFx:=⟨1,20,[.t 2],b263,none,false⟩
abbrev row266:AFx:=⟨1,19,[.t 2],b266,none,false⟩
abbrev row267:AFx:=⟨1,47,[.t 2,.t 3],b267,none,false⟩
abbrev row269:AFx:=⟨2,22,[.t 4],b269,none,false⟩
abbrev row271:AFx:=⟨3,78,[.t 6,.t 7],b271,none,false⟩
abbrev row2263:AFx:=⟨1,20,[.t 2],b2263,(some [false]),false⟩
abbrev row2266:AFx:=⟨1,19,[.t 2],b2266,(some [false]),false⟩
class Zbt (T:Tbl):Prop where
 h263:Tr T 263=some row263
 h266:Tr T 266=some row266
 h267:Tr T 267=some row267
 h269:Tr T 269=some row269
 h271:Tr T 271=some row271
 h2263:Tr T 2263=some row2263
 h2266:Tr T 2266=some row2266
attribute [simp] Zbt.h263 Zbt.h266 Zbt.h267 Zbt.h269 Zbt.h271 Zbt.h2263 Zbt.h2266
end
section
def b268:AX:=QY [] [(AV.i .i64 (-1))] "16wzVtHAH4OFh7YGfhkxSCDJwZAtJ4R0wjC9ILCQ08"
abbrev row268:AFx:=⟨2,14,[.t 4,.t 5],b268,none,false⟩
class Zgo (T:Tbl):Prop where
 h268:Tr T 268=some row268
attribute [simp] Zgo.h268
end
section
def b185:AX:=QZ "0Otpw8Yz0l8sRpzOcPleDoVIiGYJnd3.2"
def b186:AX:=QZ "xvvpyHa_BWVqDKLvKfK_ciVLmbvt5WxmI.a45wrAVkcVBB0FPcIZ2EEEsvcp.NfwUbq7atIBodwZE"
def b177:AX:=QZ "oXG9QlkMpxz3LAV2Xu3MscqioS2WTwe3EFS9Sp0C61m4KATy5x89VMTNlAXNJCV_gVtijga"
def b188:AX:=QZ "487LhKhYjoJFeHBQqvLfoxkW3I4x.bvmxGSzG3gvsJfGlSLj_fvApsN4SuijipSZGs3N"
def b179:AX:=QZ "GrDWrqoU7t9pEFMDOM2vxmrSPuWcwcAEgL3ykJlFwPqgZS.ZDonklE"
def l178_0:AX:=QZ "iEKHwmklB2zx3Ka9IRGp9IChc4SBTZB1qFiUQPwlH01ibEs2V"
def b178:AX:=(fun p0=>QY [p0] [] "1x3y8WCUncWvP6ikA.firYlD") l178_0
def b172:AX:=QZ "Fir7794qlNNxSzwDY3.9GsVWIbgoZGkJwreMAlfHLbOikikP7VBnC4ppBuR3UTms1lGSK7kklcgPZ5B43OMIDMjBFrvsclE2zxgDtpda1hhoBgHVMJNS8NqOs_Rg"
abbrev row185:AFx:=⟨1,9,[.t 2],b185,none,false⟩
abbrev row186:AFx:=⟨1,21,[.t 2],b186,none,false⟩
abbrev row187:AFx:=⟨0,0,[],.prim prim187,none,false⟩
abbrev row177:AFx:=⟨1,12,[.t 2],b177,none,false⟩
abbrev row188:AFx:=⟨2,23,[.t 4],b188,none,false⟩
abbrev row179:AFx:=⟨1,8,[.t 2],b179,none,false⟩
abbrev row178:AFx:=⟨2,20,[.t 4],b178,none,false⟩
abbrev row172:AFx:=⟨1,38,[.t 2],b172,none,false⟩
class Zde (T:Tbl):Prop where
 h185:Tr T 185=some row185
 h186:Tr T 186=some row186
 h187:Tr T 187=some row187
 h177:Tr T 177=some row177
 h188:Tr T 188=some row188
 h179:Tr T 179=some row179
 h178:Tr T 178=some row178
 h172:Tr T 172=some row172
attribute [simp] Zde.h185 Zde.h186 Zde.h187 Zde.h177 Zde.h188 Zde.h179 Zde.h178 Zde.h172
section
variable{T:Tbl}[Zde T]{d:Option Nat}{st:St}{xs:List AV}{ps:List Opd}{e:Env}{h:Heap}{ol:List Heap}
def p187(xs:List AV):Za T 187 xs=prim187 xs:=zuo Zde.h187
end
end
section
def b536:AX:=QZ "_S6yffhGlde3uI7BQD2kn"
def b551:AX:=QZ "ZxRH_Xa..7DPP_HczYO1uZ5_0SQTCIMirmS.XXl5mWi63h0Wgyso29LJMOmP.JOcZLcx4VJmv4vYBy32tQoRUQDB2INay4L8xG_oqL.827zOhcBDf6Mvdzdy.sQIxk3ofUbh4.QJlGlJESnNO6XpkTsTefUQQIIIqoHKElz4reyuhLM9c67zRyom9amvl9ziCRzS4OxtSlQTDdWGAWAAKm9lNmMg5ulm_.ODGyljzxRshO395nWfLwWWkjV1Nu_ok"
def l559_0:AX:=QZ "1gizuPrijRM6qeH8gax8gyp38Jg8Kxg_sVIb2DUyiy35xPKeZgoP2kbR"
def b559:AX:=(fun p0=>QY [p0] [] "0MYHqGKFxH6TTpIxIpStzE2hXjxxlO1bMQGk2PuHG4oci6lVDiGEPUdBjCkYQjL0ZLuP1rSRUt66fwq..Z21VrLrZAmzmT7804z8MY3WvCfYMQ1gl7wjpouzSeNWKQl0jvj1Mi9jKVQR8w9") l559_0
def l560_0:AX:=QZ "R.vhRHaaU9q1KIKykZu7Y6nVyQ1MQgfglmiNWcKmfGHyhnHzhyCYMqUO9FHfC8fqYksjMJ_1bpRmtCfU"
def l560_1:AX:=(fun p0=>QY [p0] [] "5KOgxhDf3d_bdPEyTqniYpA99TI2D1E4PZqer9isAmG75U4uKjU") l560_0
def b560:AX:=(fun p0=>QY [p0] [] "3Jenr9HFjg4fA.gORwIQxB") l560_1
def l561_0:AX:=QZ "PJkBImhuRB1Ha4Wp5kb3zS0yP298UL.NSYc6iAYYdWgsFYP6Bir.L_lODQO8OMmk03iQUQ"
def b561:AX:=(fun p0=>QY [p0] [] "pCPPmub0yzfm1tu35LdWNb6JH") l561_0
def l562_0:AX:=QZ "T5yXUGJVpdTBev7gM54K9hSxFYv5235PLVZ0QcU3A7CxKXXh7tfc.6Q"
def b562:AX:=(fun p0=>QY [p0] [] "7VjU89WgTWKs8WozoKrAWkqgC4RblNOesk.jxFsuF6lyl5e78Bo") l562_0
abbrev row536:AFx:=⟨1,6,[.t 2],b536,none,false⟩
abbrev row551:AFx:=⟨1,55,[.t 2],b551,none,false⟩
abbrev row559:AFx:=⟨1,55,[.t 2],b559,none,false⟩
abbrev row560:AFx:=⟨1,29,[.t 2],b560,none,false⟩
abbrev row561:AFx:=⟨1,23,[.t 2],b561,none,false⟩
abbrev row562:AFx:=⟨1,18,[.cell 2 (some 3)],b562,none,false⟩
class Zal (T:Tbl):Prop where
 h536:Tr T 536=some row536
 h551:Tr T 551=some row551
 h559:Tr T 559=some row559
 h560:Tr T 560=some row560
 h561:Tr T 561=some row561
 h562:Tr T 562=some row562
attribute [simp] Zal.h536 Zal.h551 Zal.h559 Zal.h560 Zal.h561 Zal.h562
end
section
def b555:AX:=QZ "JJG7UX8BBPCh44mHHdPkupXyKiB73ZRXKaDw0K2ZqdKz7hvpkHdUnYg7uowaND8veVtBVJlH7PU4ZYrTF6gE"
abbrev row555:AFx:=⟨1,23,[.t 2],b555,none,false⟩
class Zgp (T:Tbl):Prop where
 h555:Tr T 555=some row555
attribute [simp] Zgp.h555
end
section
def b524:AX:=QZ "2_62IrWhkLK6IkDttEhDO9on2GNHO4kNRVc1uAKwydtswTSWwDP2pnPW6K6RYSBtD"
def b563:AX:=QZ "0LgtkmqFSPlJZ1og0a39TiJCJVR.YHTE1zHMToWE"
abbrev row524:AFx:=⟨1,20,[.t 2],b524,none,false⟩
abbrev row563:AFx:=⟨3,12,[.cell 6 (some 5)],b563,none,false⟩
class Zeu (T:Tbl):Prop where
 h524:Tr T 524=some row524
 h563:Tr T 563=some row563
attribute [simp] Zeu.h524 Zeu.h563
end
section
def b526:AX:=QY [] [(AV.raw (.pointer none))] "NP.3qD56wMmtwQHLGNRlwDgWaA96EJtiZF0gT_I78tiffStsIXXudlJNh77nLYLiMNGJZOc51k818r7gefaEPjJaSNJyNzuD4bxiwICdYIHt8k8VDJIZrLjwm0VamPE9_qYXeTX4EKxxpD1cQ2O3Qg.TBb2wusviKcjEw49dZB8AY3WiQDPSk4_vx31.z5cHNDYKpfU7TLNWGbjhLpICgV27axiiJ7TFdlcpG2rg19bnO7mLZrqV4AXBF4oR"
def l537_0:AX:=QZ "9wWMDl_9dWR4Oi5Bey7BYxmrxUNITJuzB44Lgd1RblXPuO4plx3eL0IrhxKaY1j1LBFsAobtbTE1t_nV"
def b537:AX:=(fun p0=>QY [p0] [] "8XUbQZR0yfN9lixda1ja_IcqTDmwOCGZlaWklUCFRU_OlB.qIjdWnvSQns.tfFdV8OI6xBDxN00b8s4KvWjWKJrExTOEzo5T0UCTY_qMbT2yZqg5mh_t.eSP5FNRtRElDo2_2Pl2JL5KzgEGB7STeu.xggL6HB1l.FpFQhB4DCj7ZZ6OLXpcYYJ44XCOlgKRDkcDI.YXLvIHRdSa4q7cMQzzSdK") l537_0
def b552:AX:=QZ "WUvzzcYCbg0tT4GOGAkDTZUo1U1HD0ewkANw93AoETu_NeGhBXBWUZQLz2HOWZmliJjdQ_omxNuMVw6ribNXxe_KT9mgn2hDzjWljSgvfsawqb4Tvbb_k1f4d5y_kPhFa1Qf7uwkzQSjvLwGY2fdgTVAWuCTI9wx7nq4Agq3CmDLFWiu.yN6s0VwxlXp8SvgkLOKSLJsRfVN2giGmambdf8OaD5ORuWhAEj28BaR0RmcVMYYCPbcazh4aEVVJfAoKYMWpSL3Q.99_qx_Nvi2AqeYWWPkkD7DNlfqvNeVy.UB6bX_5UacPT8Nyg6bnqnu7MVQfpR_"
def b553:AX:=QZ "JhkqymviSMVDA6UYblzfrR_olaAXgw56lqJhKwsliy1T_xy6mkiLy0fu83CY0AO8"
def b554:AX:=QZ "4tLJOHhgKhQQM6hNdEMgxWe4nGUhzQzzimKeEP3b6NMi.5DZW9giamjadd3X12lcEf4oAS.vfNQ3mZt89tKuFxs0"
def b556:AX:=QZ "211sBACOoPiYelR7Eg876hPXlZ5tjPcsMDv2sHTsPSCcvwc_GgaQOzOpk8XYziLVfcebc_OIJ3I.8w3w1"
def b564:AX:=QZ "CB8vke9pCY8KnPcMMkSiW57bK5PxU6cyZQJLWnCKL.AKvJmqt8ZpShhiXbxeHQEBsMSWXq2ze50aGmT_ZLdvopZi0omdE"
abbrev row526:AFx:=⟨4,46,[.cell 8 (some 4),.cell 9 (some 4)],b526,none,false⟩
abbrev row537:AFx:=⟨1,72,[.cell 2 (some 4)],b537,(some [true]),false⟩
abbrev row552:AFx:=⟨2,93,[.cell 4 (some 4)],b552,(some [true,false]),false⟩
abbrev row553:AFx:=⟨2,20,[.t 4],b553,(some [true,false]),false⟩
abbrev row554:AFx:=⟨3,25,[.cell 6 (some 4)],b554,(some [true,false,false]),false⟩
abbrev row556:AFx:=⟨2,28,[.t 4],b556,(some [true,false]),false⟩
abbrev row564:AFx:=⟨4,31,[.cell 8 (some 3)],b564,none,false⟩
class Zai (T:Tbl):Prop where
 h526:Tr T 526=some row526
 h537:Tr T 537=some row537
 h552:Tr T 552=some row552
 h553:Tr T 553=some row553
 h554:Tr T 554=some row554
 h556:Tr T 556=some row556
 h564:Tr T 564=some row564
attribute [simp] Zai.h526 Zai.h537 Zai.h552 Zai.h553 Zai.h554 Zai.h556 Zai.h564
end
section
def l499_0:AX:=QZ "lxrPyS0Ek2rZRxoe6mFoVyDCEIPiAsw9hCKiP60GwntjSuts5PfwnpZQRlePphFRlnnexn1ijojsKDvs37v0.MUXnS"
def b499:AX:=(fun p0=>QY [p0] [] "0gRimlVAmKZaXH3uH1tIRNb0E7AepeMe18LMirKFIpBhMWXQYwZrI4iuUpLkkU2RnFwHMz50ssUga6PRwJ.XbPfWdfyvGD8zV2eJIMvFAxNhm7Zn_Jn_DN8jdbVlF") l499_0
def l504_0:AX:=QZ "Guq6np4lumXBiT1LxJTkRvdk.KEsCimR6GEyeHtPQkuFAWE1IaLXafqkCYQU"
def b504:AX:=(fun p0=>QY [p0] [] "6b.VVeaYwdoAJ5ZIeWuxn7FkOgzcv3looyyEbmutghKxqh5.kcazFtJxX8lVOfCvoZflwvwbnkjekG2XK815LoHPmn22SwC6o4_Uk5fkYfklN06ztjuKxJYfVAZJo") l504_0
def l506_0:AX:=QZ "0OzeXwYRXoTKS1tSzLkF_7kWJ7K2_iEUn0PmEJ_1N2JZh3x043rf7YD2jCBdeHTH3phbHA_nj.PGUexKiOlvjgNNVXXp7EFE2bAzX_JAdgEVHFnkZb.QnC8BbPjuoQd6NrXFmuUz1bkX.IwnRjIv4cD5SJUvqPMhwwKt8xhsxwxZQWfpj.45soacX_u2vuQusa_KzOUWS7n9XHYd6O4cbU"
def b506:AX:=(fun p0=>QY [p0] [] "8uWSQ.qEMn.6oHnzGnjHpCMur8F9J936UgG4T09WvLaHsLrCdcD6tmoo4zZCFMqYs27Xnvqc558bNjSTBGiTp1L5Q_4Kx26Cm0Q97uCEsMYFp5z_rsL7YaDtJywzt81Td0xoEX6KVwRWBMYf_Z5wM4Mg3SpXnUw37gNHnedqC1CJWSeEyMCRDBck_PImwBjVWv4KlYFh4M7ajOiZCnMGOy6OsdqO4LLAJpG2ouu1oEggzaf5gZHTaE8R7bHQB8jVVRNXpIePMXrv_yR1WWHQlAjybD1rpY.XEflktLKVUFe3eVrNF9pUxyKtL58N1") l506_0
def l514_0:AX:=QZ "5MKPmi4OmWMTJbMO47Ji_bxzyBRKOcZvcvUTbB5ZnBXX8kh70nJbXIaW8nalaisupzT"
def l514_1:AX:=QZ "49ZJu3zN8IXkguXlQXDX.H5leqjhfWiCqdYa6SM2h1VK5vk19RYx77XkU__wU7VlZKL2kaVFkMR"
def b514:AX:=(fun p0 p1=>QY [p0,p1] [] "O.bKvyDEVEXyM6tya6hp8o0bhobgcT6YvXjOwHMpqsLiE9qGLNELpO.RKxHGC_PJbhBRIImC9r3.7a51wa210nR1") l514_0 l514_1
def l517_0:AX:=QZ "K7vIA_xn4E6jL2XAU8KcTa9nYtlef6fOh0Ez2gIDQxErXvzVjT"
def b517:AX:=(fun p0=>QY [p0] [] "0L8QdnvDOt7icozqajq1i9F2TDxPFvBw4jSWTMvAYHgPWfZCoeU_sFuSK") l517_0
def b518:AX:=QZ "2_I06rQSYJ_Pvq_jKBtz7E"
def l525_0:AX:=QZ "XMSzFU0mzhpGpEPYXMh9HReFI.ijc1WZyc1yQXXAhDE1gZIVqbOXkdMQ5VET"
def b525:AX:=(fun p0=>QY [p0] [] "0zP.SDmYclp_CS5wZKDr3arYrHrFs2IE1I9NRo") l525_0
def b534:AX:=QZ "5bzwAqussgFsIH7F2Tgl8k"
def b535:AX:=QZ "l8iENx15Vbv8ktY1.uZDPRiqByiInoN_Z2zhDLL.V03vHU_Q.blxsKsBCSDJJM8wYk_bcMIKVTiror7xWy52e3H8jcmfXPSyV1o7.yE85VAdd6S02FgysY8EZ6mgA"
def b550:AX:=QZ "AJVOJL6xMFFlTMIKAbPrMKeYzPjy6s864suW0LkdkxLSgL.5SQltYZjlibkOb6BCrW4wzPgVFw"
-- (*retrospect/keep.Pile[retrospect/keep.Segment]).Len does not resolve
abbrev row499:AFx:=⟨2,50,[.cell 4 (some 4)],b499,none,false⟩
abbrev row504:AFx:=⟨1,50,[.t 2],b504,none,false⟩
abbrev row506:AFx:=⟨3,109,[.t 6,.cell 7 (some 4)],b506,none,false⟩
abbrev row514:AFx:=⟨2,45,[.t 4],b514,none,false⟩
abbrev row517:AFx:=⟨2,25,[.t 4],b517,none,false⟩
abbrev row518:AFx:=⟨1,6,[.t 2],b518,none,false⟩
abbrev row525:AFx:=⟨2,22,[.t 4],b525,none,false⟩
abbrev row534:AFx:=⟨2,13,[],b534,(some [true,false]),false⟩
abbrev row535:AFx:=⟨1,41,[.cell 2 (some 2),.t 3],b535,(some [true]),false⟩
abbrev row550:AFx:=⟨1,24,[.cell 2 (some 2),.t 3],b550,(some [true]),false⟩
class Zar (T:Tbl):Prop where
 h499:Tr T 499=some row499
 h504:Tr T 504=some row504
 h506:Tr T 506=some row506
 h514:Tr T 514=some row514
 h517:Tr T 517=some row517
 h518:Tr T 518=some row518
 h525:Tr T 525=some row525
 h534:Tr T 534=some row534
 h535:Tr T 535=some row535
 h550:Tr T 550=some row550
attribute [simp] Zar.h499 Zar.h504 Zar.h506 Zar.h514 Zar.h517 Zar.h518 Zar.h525 Zar.h534 Zar.h535 Zar.h550
end
section
def l513_0:AX:=QZ "QhbLpPRm.3VktI0wMBr1qi.pRCDMaQ4zoO9PdFfJLMJEwGth6EZanpqRETQHDcSmgzL40Fu5dG9fPjhr6Af23dARo9fQGoJ5gKRnEV"
def b513:AX:=(fun p0=>QY [p0] [] "NilSiLswjKWNq3rgSLMmpBecpqqy09GACmaqCbdi4pAa5KMzZzULlTl_cPd9_06LUmhGqZmLLsoADVzPJLZVp") l513_0
def l532_0:AX:=QZ "OVzByHELHn0ECIkijMts.P7pAYTNdtyfztm0hAyWsQHmfBBEBmY_5LqPzNMWm1XwNA8O60xPD9YRMYpotIkq9LHpsuHKy4rkcpOH96nPWCCPHz7k0dKBwytjTsPhS3lUUocv2KrpMDopQreeGRJytAgcJQvmLof3nvQuD14qQajB7.dt4VcwDA2S"
def b532:AX:=(fun p0=>QY [p0] [] "0iY7DoC_vOcxy.MLCp51c2vOZJIN1ThMGgtKPQRI") l532_0
def b533:AX:=QZ "WeR8gh37uaJmGepV0WY_I"
def b549:AX:=QZ "XALPUVvm_sok2ETzsB_6I2NnewiflrdPSnjA4oLBP"
abbrev row513:AFx:=⟨1,38,[.t 2,.t 3],b513,none,false⟩
abbrev row532:AFx:=⟨1,40,[.t 2],b532,none,false⟩
abbrev row533:AFx:=⟨1,6,[.t 2],b533,none,false⟩
abbrev row549:AFx:=⟨1,12,[.t 2],b549,none,false⟩
class Ze1 (T:Tbl):Prop where
 h513:Tr T 513=some row513
 h532:Tr T 532=some row532
 h533:Tr T 533=some row533
 h549:Tr T 549=some row549
attribute [simp] Ze1.h513 Ze1.h532 Ze1.h533 Ze1.h549
end
section
def l519_0:AX:=QZ "95SpsHnPyTyaMI81h1IMt8K7228Sn83O4OvNYsH9d5dHqUvEpdqcN0mdsQZ.2Dokse2nJjbXDGVs4vR"
def b519:AX:=(fun p0=>QY [p0] [] "5G8NyAZbWV4dY0kGaKwTs2hfGMtHTegoPn7wZsZ") l519_0
abbrev row519:AFx:=⟨1,20,[.t 2],b519,none,false⟩
class Zhf (T:Tbl):Prop where
 h519:Tr T 519=some row519
attribute [simp] Zhf.h519
end
section
def b496:AX:=QZ "1RYnft9LqgpoWKn0RjM.kTJmK8zjGtFzqB315fexPF1sgbwxlbu4HPyEwX.yGZJMZShR8hQ07"
def l497_0:AX:=QZ "0fGDSHvCYWQniVwqfZT2UdaLyNm6YyunXU8WULfuVXTDGgkMdBP.LUW.NvUV6rZhTP7MdOGBDwqsOcZucrp_QUjiz4nmYhekpTvhoti1.6U"
def b497:AX:=(fun p0=>QY [p0] [] "1HHt63a7TgVsl_i.45VfQVReeLuKF1M5RBPuLoY_Pp4KclgonZFeNmLK9fyCVgWUNt5LCe5e.YdoGrJv") l497_0
def l515_0:AX:=QZ "SDJgxeTtUa8jpEX9GCZaRW5gHZWj.4sThHoXxPgR5k_ukrRFgThbzg.zKZCfQ"
def b515:AX:=(fun p0=>QY [p0] [] "KX57js7SKjSknaG2P1Y_yYr3QcKCA8VNQ4Lo4PZWUgpkgR_yyeQKohreFQsL238kz7I7eEzdEby9UTwAqAGRY32Gy2tjDM4cOuru2htuTjzIdDv..okJ9WYU3tafpd.O") l515_0
def b516:AX:=QZ "XALPUVvm_sok2ETzsB_6I2NnewiflrdPSnjA4oLBP"
abbrev row496:AFx:=⟨4,26,[.t 8],b496,none,false⟩
abbrev row497:AFx:=⟨3,50,[.t 6],b497,none,false⟩
abbrev row515:AFx:=⟨3,55,[.t 6],b515,none,false⟩
abbrev row516:AFx:=⟨1,12,[.t 2],b516,none,false⟩
class Zby (T:Tbl):Prop where
 h496:Tr T 496=some row496
 h497:Tr T 497=some row497
 h515:Tr T 515=some row515
 h516:Tr T 516=some row516
attribute [simp] Zby.h496 Zby.h497 Zby.h515 Zby.h516
end
section
def l500_0:AX:=QZ "12MLxbwPoTmhwnLuQ0hxCZByXGKqwCWIqyosffPe7C_l1rQuU5ivhIqyzPBYC5uoPusqx.ltX93_wi64qscVHNGSbDNS2DZDYjJeQq_cW2hem2stPFQyfumfaZ.QLsSK57FQMaWy4viiFkwcBNY795F9vCSr4RoALA_Uigd3R6wYvnvo8GT47fYR"
def b500:AX:=(fun p0=>QY [p0] [] "5R2WxhHV9UXLUJzgz8aet.CWbJzpcuOftXuNcizwdLcWdYM.FuRVPtwfw.6ixlSEB9ZJlt5E.EbZ0tljTwF") l500_0
def b507:AX:=QZ "g_l_9q4ZuGcsBlyU8db5nD5o1SU1aXjXacshE.1h19gw4N7zk8JVVeYXuqbC3RlOe0s7Rh"
def b527:AX:=QZ "1CnNmIHxl8y_85UGL7gplw5Dhj63MgA6ain4ErTXe6vxDCGSVndBymPb9T4OYiTzAwl"
abbrev row500:AFx:=⟨1,49,[.cell 2 (some 5)],b500,none,false⟩
abbrev row507:AFx:=⟨1,15,[.cell 2 (some 11)],b507,none,false⟩
abbrev row527:AFx:=⟨1,18,[.cell 2 (some 5)],b527,none,false⟩
class Ze2 (T:Tbl):Prop where
 h500:Tr T 500=some row500
 h507:Tr T 507=some row507
 h527:Tr T 527=some row527
attribute [simp] Ze2.h500 Ze2.h507 Ze2.h527
end
section
def b498:AX:=QZ "05qAePVsoc04wS0AOzIQnxYlJbl1vrbw9B6RH_aVGhr7uMUGG7jJmFp5yVIvo_l3Y5q2_owBAcAkHGLnAm.KMiGWzK0d65ZvWy7QpxrSkUqlqEJt9c6_FKfxC2JoH_hp_NgB1"
abbrev row498:AFx:=⟨0,33,[.t 0],b498,none,false⟩
class Zgl (T:Tbl):Prop where
 h498:Tr T 498=some row498
attribute [simp] Zgl.h498
end
section
def l494_0:AX:=QZ "3Z4R25uj2GDyB7pQH30YxUxxxB8Pm6v2tJoFBjIl1Y.uANply.T521dVEnIuvvzgiDO.dicI0SJdk1bWezt6OvWvYaanbxFeolVw21tTI7_YG0x1FxQ2.DS1aAgZr.WfG8PuelQT.MTDMsHZjZ2VCWa2_UTUI5bOq8COWss88CvD9YwB6kGL10EvJY03._AsD_2mPXyhCKwqo7p3O3rdWKqtXQg5s820GXdpXGCu8wyihO7sG0KzlOb0wcqyhmxn64_Tn_rMQG8CTlr9IoiHZiFiMERGdNGT3ItL1TJGScMCp7HXc.2U4g7CV3uVHWar9uuc4SFQL5DiDlQHnjzkcMT"
def b494:AX:=(fun p0=>QY [p0] [] "kAbHm.1iJ6dZ_ApSHnJSPf1w.judaerok_DI8DVuv7mMvZ2sB.26PU89pWkC5xQoDgfUs4UOdwMtOr.ntLOQzJC.VAcvqvnhDRmqlcBbFP9MpKxFz.uFw5EOpjfPnmTTTj2wPDMf.sKQCSnzO3MMgO") ((fun p0 p1=>QY [p0,p1] [] "5nrE7FalssVCdxYhy6tUWf83cYb8vdXwbrHH2uhi9M1gvQBucrDZ6hDEy_oN2tx.3A78rakp7Lx3UAVfIFKZHegRhsokhU86Gq7U7w11ohPNIP.Bmlkvc5MpaYMN4yKFq__.wMqfTksZ.YXDeF_QUvncT0xoLEc7FGIfmXI6kA_7tjmISYj5dQxPdL2Y1s404XDuTUJRLBAF28KP_duXtz6Xs0dAINan8bAJg7Pcv3nZ2KhyLWvNIUYWrI2hF7CkCxXW6aP71GlMJ6CeEHSVTiP.6DpH7K5uih8aLiKcUfTK2sQkzwNgK2WsP_0") l494_0 (QZ "7aZDXj9EA55U4AEuHt2T6nsWpROPV9Kevi9LMfVxaBf1eTvYH8VYCAm8kQITTeOf_DWuRrAf.K1b6vGsWljadjbejUd80TFFTTJnm59aCg.K33j_wO6.t_vhYa4DtXXSHR88OZ.ayI.hYnQnm4C44k8uF4K3r_J2MZK3yG3_2qoZCa1KdFNla8e2ZX6jlTFGhElMQPpM1Wau7ip65pkjBufwNHDPjx7fqXpu0ljwZFjlMrYye9_n.KHPSxpw7qJaYNGRuqVVJQl298kE4vC0_EMWPbjKRT572eG2FM8ex1aWnN6kkYvyY2dORrn_Ea1wenclINZslXwOdLfwDJTqRsj6X0Av2KflVNZoj_i7s0.6izqKS."))
def b503:AX:=QZ "CWDFF8cL1FLe.uYlPw0iqg2GwwEDOXfLYZYark51ddjrrkczF39"
def b510:AX:=QZ "0WQkP4rhge5mxIoH.ZYIpjlcCZEVOrDeqIHku35sXHT9dYwt"
abbrev row494:AFx:=⟨4,303,[.t 8],b494,none,false⟩
abbrev row503:AFx:=⟨1,15,[.cell 2 (some 4)],b503,none,false⟩
abbrev row510:AFx:=⟨1,12,[.cell 2 (some 4)],b510,none,false⟩
class Zcp (T:Tbl):Prop where
 h494:Tr T 494=some row494
 h503:Tr T 503=some row503
 h510:Tr T 510=some row510
attribute [simp] Zcp.h494 Zcp.h503 Zcp.h510
end
section
def l43_0:AX:=QZ "2XqayF6QYNahpdz.nrY3461.OPn6qNNCwIyUCwREFAuu_t9vU"
def b43:AX:=(fun p0=>QY [p0] [] "3WgQU0f2ZzTnd5hyhHsSfvNFNGmQOhUxXsmvaoA39") l43_0
def b84:AX:=QZ "8Ln4aN7uLiC1FZkmuq4APNd36YEgBkWx688"
def l52_0:AX:=QY [] [(AV.i .i64 (-1))] "6Z1w5hxzSN.A.4Jtj3Wcd3xc1L2CklCanqXVidoHOm5i75kSFzIVM3zskANWXyXKmO85O79jrhoc8nuO9xiJb_CVUR"
def b52:AX:=(fun p0=>QY [p0] [] "_t6nkWztbH4OvlJta.vMRmzHKaPFaVnqdkI") l52_0
def l54_0:AX:=QZ "45oXSKa9ZlWdVL45d6I.LHQrM3S8AcfvwG8Est6QCcY_.nr9aCcjMKjU"
def b54:AX:=(fun p0=>QY [p0] [] "1f7iVLBYVrwlPvcCNgtFCHEu1c3zMLELoS203") l54_0
def l58_0:AX:=QY [] [(u64 4294967296)] "3dbTedo5JkkmkvyMCVfcqqPk.U3rPst3ncQ0VMJtpLhKzbi7BkuDeXjxTKtg_bUml4kASfEA_52S06h714qGQ5ykHA01aAQ"
def b58:AX:=(fun p0=>QY [p0] [] "QFlyPLXgxUs6JgnlRiXquPJEugJl9UQ9ovTCA91X1fFQ7_rJ7Ip9SxuQWZ8dV43Y") l58_0
def l59_0:AX:=QY [] [(u64 4294967296)] "1TyLErdhYfCpqgYXq8oKP4Y9YKzYlKVOVn.hTGkkNFDUdASBcfIVFSBbZ54ss7qlWw45lJ0t4f_88U1J9L9at9__TL9fIR3t0xKl4j2v8kUzK8ww0_4uYYS"
def b59:AX:=(fun p0=>QY [p0] [] "4LPk4sopbgQ1xROP2fSTWG1jturfU4evhJWXFy4yO8a10RTqCzlMYiXUs7h.ck") l59_0
abbrev row43:AFx:=⟨1,23,[.t 2],b43,none,false⟩
abbrev row84:AFx:=⟨2,13,[.t 4],b84,none,false⟩
abbrev row52:AFx:=⟨2,30,[.t 4],b52,none,false⟩
abbrev row54:AFx:=⟨2,26,[.t 4],b54,none,false⟩
abbrev row58:AFx:=⟨2,43,[.t 4],b58,none,false⟩
abbrev row59:AFx:=⟨2,47,[.t 4],b59,none,false⟩
class Zz (T:Tbl):Prop where
 h43:Tr T 43=some row43
 h84:Tr T 84=some row84
 h52:Tr T 52=some row52
 h54:Tr T 54=some row54
 h58:Tr T 58=some row58
 h59:Tr T 59=some row59
attribute [simp] Zz.h43 Zz.h84 Zz.h52 Zz.h54 Zz.h58 Zz.h59
end
section
variable{T:Tbl}
def zfd(a:List UInt32)(hl:a.length<9223372036854775808){n:Nat}(hn:n<=a.length)(h0:∀(i:Nat) (x:UInt32),n<=i->a[i]? = some x->x.toNat=0)(h1:∀x:UInt32,0<n->a[n-1]? = some x->x.toNat≠0) :
  ∀m:Nat,(n<=m/\m<=a.length)->Ze T 0 0 (.norm false [0,3]) l43_0 ⟨[(0,.sl (Zc a) .an),(3,.i .i64 (m:Int))],[],2⟩=some (.n,⟨[(0,.sl (Zc a) .an),(3,.i .i64 (n:Int))],[],2⟩):=by
 refine za4 (fun m:Nat=>⟨[(0,.sl (Zc a) .an),(3,.i .i64 (m:Int))],[],2⟩) _ (fun m=>m) _ ?_
 rintro m ⟨hm,hma⟩
 by_cases h2:m=0
 ·right;subst h2;have:n=0:=by omega
  subst this;constructor<;>simp[l43_0]
 ·have hw:IntKind.wrap .i64 ((m:Int)-1)=((m-1:Nat):Int):=by rw[zab _ (by omega)];omega
  have hm1:m-1<a.length:=by omega
  have hg:a[m-1]? = some (a[m-1]'hm1):=Yb hm1;have hpos:0<m:=by omega
  by_cases h3:m=n
  ·right;subst h3;have hx:=h1 _ hpos hg;constructor<;>simp[l43_0,hpos,hw,hm1,hx]
  ·left;refine⟨m-1,⟨by omega,by omega⟩,by omega,?_,rfl⟩;have hx:=h0 (m-1) _ (by omega) hg;simp[l43_0,hpos,hw,hm1,hx]
end
section
variable{T:Tbl}[Zz T]
def zbt(a:List UInt32)(hl:a.length<=1000000):Za T 43 [.sl (Zc a) .an]=some (.sl (Zc (ofN (val a))) .an):=by
 obtain⟨n,h1,h2,h3,h4⟩:=zhe a;have hr:=zfd (T:=T) a (by omega) h1 h3 h4 a.length ⟨h1,Ye _⟩;have hlen:(ofN (val a)).length=n:=by grind
 have hb:n<=4294967296:=by omega
 rw[zaa Zz.h43 rfl,b43];simp[hr,h1,h2,hlen,hb]
 grind
def atW(a:List UInt32)(i:Nat):Nat:=(a[i]?.map UInt32.toNat).getD 0
def zkd(a:List UInt32)(i:Nat):atW a i<4294967296:=by
 grind[atW,zan]
theorem zbm(a:List UInt32)(i:Nat):val (a.take (i+1))=val (a.take i)+4294967296^i*atW a i:=by
 grind[atW,zaf,zbo]
def zd7(a:List UInt32)(i:Nat)(_hl:a.length<=1000000):Za T 84 [.sl (Zc a) .an,.i .i64 i]=some (u32 (atW a i)):=by
 rw[zaa Zz.h84 rfl,b84];unfold atW;by_cases h:i<a.length
 ·simp[h]
 ·simp[h]
def zk7(a b:List UInt32)(hl:a.length<=1000000)(hl2:b.length<=1000000):∀m:Nat,m<=1000000 ->
  Ze T 0 0 (.norm false []) l52_0 ⟨[(0,.sl (Zc a) .an),(1,.sl (Zc b) .an),(5,.i .i64 ((m:Int)-1))],[],2⟩ =
   if val (a.take m)<val (b.take m) then some (.r,⟨[(4,.i .i64 (-1))],[],2⟩) else if val (b.take m)<val (a.take m) then some (.r,⟨[(4,.i .i64 1)],[],2⟩) else some (.n,⟨[],[],2⟩):=by
 refine za4 (fun m:Nat=>⟨[(0,.sl (Zc a) .an),(1,.sl (Zc b) .an),(5,.i .i64 ((m:Int)-1))],[],2⟩) _ (fun m=>m) _ ?_;intro m hm;cases m with
 | zero=>
  right;constructor<;>simp[l52_0]
 | succ i=>
  have hw:IntKind.wrap .i64 ((i:Int)-1)=(i:Int)-1:=zab _ (by omega);have ca:=zd7 (T:=T) a i hl;have cb:=zd7 (T:=T) b i hl2;have e1:=zbm a i;have e2:=zbm b i;have b1:=za3 (a.take i);have b2:=za3 (b.take i);have p1:4294967296^(a.take i).length<=4294967296^i:=Y9 (by decide) (by grind);have p2:4294967296^(b.take i).length<=4294967296^i:=Y9 (by decide) (by grind);rcases Ybg (atW a i) (atW b i) with h1 | h1 | h1
  ·right;have h3:=Yaq (4294967296^i) (show atW a i+1<=atW b i from h1);rw[Yas]at h3;have h2:val (a.take (i+1))<val (b.take (i+1)):=by omega
   constructor<;>simp[l52_0,ca,cb,h1,h2]
  ·left;refine⟨i,by omega,Y7 i,?_,?_⟩
   ·simp[l52_0,ca,cb,h1,hw]
   grind
  ·right;have h3:=Yaq (4294967296^i) (show atW b i+1<=atW a i from h1);rw[Yas]at h3;have h2:val (b.take (i+1))<val (a.take (i+1)):=by omega
   have h4:¬ val (a.take (i+1))<val (b.take (i+1)):=by omega
   have h5:¬ atW a i<atW b i:=by omega
   constructor<;>simp[l52_0,ca,cb,h1,h2,h4,h5]
def zfe(a b:List UInt32)(ha:a.length<=1000000)(hb:b.length<=1000000):Za T 52 [.sl (Zc a) .an,.sl (Zc b) .an]=some (.i .i64 (Zeb (val a) (val b))):=by
 have hc:=zk7 (T:=T) a b ha hb (max a.length b.length) (by omega);rw[Ya (by omega),Ya (by omega)]at hc;have e:(if (a.length:Int)<b.length then (b.length:Int) else a.length)=((max a.length b.length:Nat):Int):=by omega
 have hw:IntKind.wrap .i64 (((max a.length b.length:Nat):Int)-1)=((max a.length b.length:Nat):Int)-1:=zab _ (by omega);rw[zaa Zz.h52 rfl,b52];simp at e hw hc;simp[e,hw,hc,Zeb]
 grind
end
section
variable{T:Tbl}
def zke(a b:List UInt32)(hab:a.length=b.length)(hl:a.length<=1000000):∀i:Nat,i<=a.length ->
  Ze T 0 0 (.norm false []) l54_0 ⟨[(0,.sl (Zc a) .an),(1,.sl (Zc b) .an),(5,.i .i64 i)],[],2⟩=if a.drop i=b.drop i then some (.n,⟨[],[],2⟩) else some (.r,⟨[(4,.b false)],[],2⟩):=by
 refine za4 (fun i:Nat=>⟨[(0,.sl (Zc a) .an),(1,.sl (Zc b) .an),(5,.i .i64 i)],[],2⟩) _ (fun i=>a.length-i) _ ?_;intro i hi;by_cases h0:i<a.length
 ·have h1:i<b.length:=by omega
  have hw:IntKind.wrap .i64 ((i:Int)+1)=((i+1:Nat):Int):=zab _ (by omega);have hda:a.drop i=a[i]'h0::a.drop (i+1):=Yg h0;have hdb:b.drop i=b[i]'h1::b.drop (i+1):=Yg h1;by_cases h2:a[i]'h0=b[i]'h1
  ·left;refine⟨i+1,h0,by omega,?_,?_⟩
   ·simp[l54_0,h0,h1,h2,hw]
   grind
  ·right;have h3:¬ (a[i]'h0).toNat=(b[i]'h1).toNat:=fun h=>h2 (Yet.1 h);have h4:¬ a.drop i=b.drop i:=by grind
   constructor<;>simp[l54_0,h0,h1,h3,h4]
 ·right;have h4:a.drop i=b.drop i:=by grind
  have h5:¬ (i:Int)<a.length:=by omega
  constructor<;>simp[l54_0,h4,h5]
end
section
variable{T:Tbl}[Zz T]
def zma(a b:List UInt32)(ha:a.length<=1000000):Za T 54 [.sl (Zc a) .an,.sl (Zc b) .an]=some (.b (decide (a=b))):=by
 rw[zaa Zz.h54 rfl,b54];by_cases h:a.length=b.length
 ·have hc:=zke (T:=T) a b h ha 0 (Yv _);simp at hc;by_cases h3:a=b
  ·subst h3;simp[hc]
  ·simp[h,hc,h3]
 ·have h3:¬ a=b:=fun he=>h (by rw[he]);have h2:¬ (a.length:Int)=b.length:=by omega
  simp[h2,h3]
def Zkt(a b:List UInt32)(n:Nat)(y:Nat×Nat×List UInt32):St:=
 ⟨[(0,.sl (Zc a) .an),(1,.sl (Zc b) .an),(5,.i .i64 n),(6,.bs (.loc 16) 1 1 0 n),(7,u64 y.2.1),(8,.i .i64 y.1)],[(.loc 16,⟨1,.own,1,Zc y.2.2⟩)],3⟩
def zk8(a b:List UInt32)(n:Nat)(ha:a.length<=1000000)(hb:b.length<=1000000)(hn:n<=1000001):∀y:Nat×Nat×List UInt32,
  (y.1<=n/\y.2.1<=1/\y.2.2.length=n/\val (y.2.2.take y.1)+4294967296^y.1*y.2.1=val (a.take y.1)+val (b.take y.1)) ->
  ∃r,(∃(c:Nat) (out:List UInt32),r=(Ex.n,(⟨[(6,.bs (.loc 16) 1 1 0 n)],[(.loc 16,⟨1,.own,1,Zc out⟩)],3⟩:St)) /\
   out.length=n/\c<=1/\val out+4294967296^n*c=val (a.take n)+val (b.take n))/\Ze T 0 0 (.norm false [6]) l58_0 (Zkt a b n y)=some r:=by
 refine zar _ _ (fun y=>n-y.1) _ ?_
 rintro⟨i,c,out⟩ ⟨hi,hc,ho,hv⟩
 simp only at hi hc ho hv;by_cases h0:i<n
 ·left;have hoi:i<out.length:=by omega
  have hog:out[i]? = some (out[i]'hoi):=Yb hoi;have hw:IntKind.wrap .i64 ((i:Int)+1)=((i+1:Nat):Int):=zab _ (by omega);have ca:=zd7 (T:=T) a i ha;have cb:=zd7 (T:=T) b i hb;have la:=zkd a i;have lb:=zkd b i;have e1:=zbm a i;have e2:=zbm b i;have m1:atW a i%18446744073709551616=atW a i:=Yq (by omega);have m2:atW b i%18446744073709551616=atW b i:=Yq (by omega);have m3:(c+(atW a i+atW b i))%18446744073709551616=c+(atW a i+atW b i):=Yq (by omega);have m4:(c+(atW a i+atW b i))/4294967296%18446744073709551616=(c+(atW a i+atW b i))/4294967296:=Yq (by omega);refine⟨(i+1,(c+(atW a i+atW b i))/4294967296,out.set i (w32 (c+(atW a i+atW b i)))),⟨h0,by grind,by grind,?_⟩,by omega,?_⟩
  ·grind[zb1,zcp,Nat.div_add_mod]
  ·simp[l58_0,Zkt,h0,ca,cb,m1,m2,m3,m4,hog,hw]
 ·right;have:i=n:=by omega
  subst this;rw[Ya (by omega)]at hv;refine⟨_,⟨c,out,rfl,ho,hc,hv⟩,?_,?_⟩<;>simp[l58_0,Zkt]
def zz3{p q r x y z c:Nat}(h1:x+p*4294967296*c=y+z)(h2:c<=1)(h3:y<q)(h4:z<r)(h5:q<=p)(h6:r<=p):x=y+z:=by
 rcases(show c=0\/c=1 by omega) with h | h
 all_goals grind
def zpm(a b:List UInt32)(ha:a.length<=100000)(hb:b.length<=100000):Za T 58 [.sl (Zc a) .an,.sl (Zc b) .an]=some (.sl (Zc (ofN (val a+val b))) .an):=by
 obtain⟨n,hn⟩:∃n,n=max a.length b.length:=⟨_,rfl⟩;obtain⟨_,⟨c,out,rfl,ho,hc,hv⟩,hr⟩:=zk8 (T:=T) a b (n+1) (by omega) (by omega) (by omega) (0,0,List.replicate (n+1) 0) ⟨Yv _,Yv _,by simp,by simp⟩;unfold Zkt at hr;simp at hr;rw[Ya (by omega),Ya (by omega)]at hv;have e:(if a.length<b.length then (b.length:Int) else a.length)=(n:Int):=by omega
 have hw:IntKind.wrap .i64 ((n:Int)+1)=((n:Int)+1):=zab _ (by omega);have hn1:(0:Int)<=(n:Int)+1:=by omega
 have hn2:(n:Int)+1<=4294967296:=by omega
 have hn3:((n:Int)+1).toNat=n+1:=by omega
 have l1:=za3 a;have l2:=za3 b;have p1:4294967296^a.length<=4294967296^n:=Y9 (by decide) (by omega);have p2:4294967296^b.length<=4294967296^n:=Y9 (by decide) (by omega);have hval:val out=val a+val b:=by
  exact zz3 hv hc l1 l2 p1 p2
 have hnm:=zbt (T:=T) out (by omega);rw[hval]at hnm;have htk:List.take (n+1) out=out:=Ya (by omega);rw[zaa Zz.h58 rfl,b58];simp[e,hw,hn1,hn2,hn3,hr,ho,htk,hnm]
def Zjl(a b:List UInt32)(n:Nat)(y:Nat×Nat×List UInt32):St:=
 ⟨[(0,.sl (Zc a) .an),(1,.sl (Zc b) .an),(5,.i .i64 n),(6,.bs (.loc 17) 1 1 0 n),(7,u64 y.2.1),(8,.i .i64 y.1)],[(.loc 17,⟨1,.own,1,Zc y.2.2⟩)],3⟩
def zk9(a b:List UInt32)(n:Nat)(ha:a.length<=1000000)(hb:b.length<=1000000)(hn:n<=1000001):∀y:Nat×Nat×List UInt32,
  (y.1<=n/\y.2.1<=1/\y.2.2.length=n/\val (y.2.2.take y.1)+val (b.take y.1)=val (a.take y.1)+4294967296^y.1*y.2.1) ->
  ∃r,(∃(c:Nat) (out:List UInt32),r=(Ex.n,(⟨[(6,.bs (.loc 17) 1 1 0 n)],[(.loc 17,⟨1,.own,1,Zc out⟩)],3⟩:St)) /\
   out.length=n/\c<=1/\val out+val (b.take n)=val (a.take n)+4294967296^n*c)/\Ze T 0 0 (.norm false [6]) l59_0 (Zjl a b n y)=some r:=by
 refine zar _ _ (fun y=>n-y.1) _ ?_
 rintro⟨i,c,out⟩ ⟨hi,hc,ho,hv⟩
 simp only at hi hc ho hv;by_cases h0:i<n
 ·left;have hoi:i<out.length:=by omega
  have hog:out[i]? = some (out[i]'hoi):=Yb hoi;have hw:IntKind.wrap .i64 ((i:Int)+1)=((i+1:Nat):Int):=zab _ (by omega);have ca:=zd7 (T:=T) a i ha;have cb:=zd7 (T:=T) b i hb;have la:=zkd a i;have lb:=zkd b i;have e1:=zbm a i;have e2:=zbm b i;have m1:atW a i%18446744073709551616=atW a i:=Yq (by omega);have m2:atW b i%18446744073709551616=atW b i:=Yq (by omega);have m3:(atW b i+c)%18446744073709551616=atW b i+c:=Yq (by omega);have m4:(atW a i+4294967296)%18446744073709551616=atW a i+4294967296:=Yq (by omega);have fin:∀s d:Nat,d<=1->s<4294967296->s+(atW b i+c)=atW a i+4294967296*d ->
    val ((out.set i (w32 s)).take (i+1))+val (b.take (i+1))=val (a.take (i+1))+4294967296^(i+1)*d:=by
   grind[zb1,zah]
  by_cases h1:atW a i<atW b i+c
  ·have hs:Ze0 (atW a i+4294967296) (atW b i+c)=atW a i+4294967296-(atW b i+c):=zfs (by omega) (by omega);refine⟨(i+1,1,out.set i (w32 (atW a i+4294967296-(atW b i+c)))),⟨h0,Ye _,by grind,fin _ 1 (by omega) (by omega) (by omega)⟩,by omega,?_⟩;simp[l59_0,Zjl,h0,ca,cb,m1,m2,m3,m4,h1,hs,hog,hw]
  ·have hs:Ze0 (atW a i) (atW b i+c)=atW a i-(atW b i+c):=zfs (by omega) (by omega);refine⟨(i+1,0,out.set i (w32 (atW a i-(atW b i+c)))),⟨h0,Yv _,by grind,fin _ 0 (by omega) (by omega) (by omega)⟩,by omega,?_⟩;simp[l59_0,Zjl,h0,ca,cb,m1,m2,m3,h1,hs,hog,hw]
 ·right;have:i=n:=by omega
  subst this;rw[Ya (by omega)]at hv;refine⟨_,⟨c,out,rfl,ho,hc,hv⟩,?_,?_⟩<;>simp[l59_0,Zjl]
def zpn(a b:List UInt32)(ha:a.length<=100000)(hb:b.length<=100000)(hab:val b<=val a):Za T 59 [.sl (Zc a) .an,.sl (Zc b) .an]=some (.sl (Zc (ofN (val a-val b))) .an):=by
 obtain⟨n,hn⟩:∃n,n=max a.length b.length:=⟨_,rfl⟩;obtain⟨_,⟨c,out,rfl,ho,hc,hv⟩,hr⟩:=zk9 (T:=T) a b n (by omega) (by omega) (by omega) (0,0,List.replicate n 0) ⟨Yv _,Yv _,by simp,by simp⟩;unfold Zjl at hr;simp at hr;rw[Ya (by omega),Ya (by omega)]at hv;have e:(if a.length<b.length then (b.length:Int) else a.length)=(n:Int):=by omega
 have hn2:(n:Int)<=4294967296:=by omega
 have hlo:=za3 out;have hval:val out=val a-val b:=by
  rcases Ya4 c with h1 | h1
  all_goals grind
 have hnm:=zbt (T:=T) out (by omega);rw[hval]at hnm;have htk:List.take n out=out:=Ya (by omega);rw[zaa Zz.h59 rfl,b59];simp[e,hn2,hr,ho,htk,hnm]
end
section
def l61_0:AX:=QY [] [(u64 4294967296)] "09bv0BFzjt1YkEg2ziSDs0eMztqEJgFPjfvH.ye0v7mCI5YUeqHuF_5JZyWHLqBMuaBayc_Ill3npaUNL4wHmbJkiFsxt9Xi5AZVwDFZsknYVCjS2h7nQ"
def l61_1:AX:=(fun p0=>QY [p0] [] "1JCS6wDDClcrWAenUi0h5iQlcrVQepcHNodWXbQ53qchQtmLGEnsbDA46IcreDfioL5kVQT") l61_0
def b61:AX:=(fun p0=>QY [p0] [] "I6PHTFL2Bx.3l6dhSlhNNf_7dMwMo0nw4RTv62auVF91rh2") l61_1
abbrev row61:AFx:=⟨2,68,[.t 4],b61,none,false⟩
class Z8 (T:Tbl):Prop extends Zz T where
 h61:Tr T 61=some row61
attribute [simp] Z8.h61
end
section
variable{T:Tbl}[Z8 T]
def zz4{p m w c c' s x y t v:Nat}(h:m+p*c=s+x*t)(e:w+4294967296*c'=x*y+v+c):(m+p*w)+p*4294967296*c'=(s+p*v)+x*(t+p*y):=
 ztb (k:=0) h e
def Zmb(P S a b:List UInt32)(y:Nat×Nat×List UInt32):St:=
 ⟨[(0,.sl (Zc a) .an),(1,.sl (Zc b) .an),(5,.bs (.loc 14) 1 1 0 (P.length+S.length)),(6,.i .i64 P.length),(7,u64 y.2.1),(8,.i .i64 y.1)],[(.loc 14,⟨1,.own,1,Zc (P++(y.2.2++S.drop y.1))⟩)],3⟩
end
section
variable{T:Tbl}
def z4d(P S a b:List UInt32)(x:UInt32)(hxa:a[P.length]? = some x)(hS:b.length<S.length)(hl:P.length+S.length<=1000000):∀y:Nat×Nat×List UInt32,
  (y.1<=b.length/\y.2.1<4294967296/\y.2.2.length=y.1/\val y.2.2+4294967296^y.1*y.2.1=val (S.take y.1)+x.toNat*val (b.take y.1)) ->
  ∃r,(∃(c:Nat) (m:List UInt32),r=(Ex.n,(⟨[(0,.sl (Zc a) .an),(1,.sl (Zc b) .an),(5,.bs (.loc 14) 1 1 0 (P.length+S.length)),(6,.i .i64 P.length),(7,u64 c)],[(.loc 14,⟨1,.own,1,Zc (P++(m++S.drop b.length))⟩)],3⟩:St)) /\
   m.length=b.length/\c<4294967296/\val m+4294967296^b.length*c=val (S.take b.length)+x.toNat*val b)/\Ze T 0 2 (.norm false [0,1,5,6,7]) l61_0 (Zmb P S a b y)=some r:=by
 refine zar _ _ (fun y=>b.length-y.1) _ ?_
 rintro⟨i,c,m⟩ ⟨hi,hc,hm,hv⟩
 simp only at hi hc hm hv;have hPa:P.length<a.length:=by
  rcases Yy P.length a.length with h | h
  ·exact h
  ·rw[Yc1 h]at hxa;cases hxa
 obtain rfl:a[P.length]'hPa=x:=by rw[Yb hPa]at hxa;cases hxa;rfl
 generalize hX:a[P.length]'hPa=x at hv ⊢;by_cases h0:i<b.length
 ·left;have hb:b[i]? = some (b[i]'h0):=Yb h0;have hiS:i<S.length:=by omega
  have hs:S[i]? = some (S[i]'hiS):=Yb hiS;have hg:=zee (P:=P) hm hiS;have hw:IntKind.wrap .i64 ((i:Int)+1)=((i+1:Nat):Int):=zab _ (by omega);have hw2:IntKind.wrap .i64 ((P.length:Int)+i)=((P.length+i:Nat):Int):=zab _ (by omega);have hlb:=zan (b[i]'h0);have hls:=zan (S[i]'hiS);have hmul:=zj5 (zan x) hlb;have hset:=zd1 (P:=P) (w32 (c+(x.toNat*(b[i]'h0).toNat+(S[i]'hiS).toNat))) hm hiS;have m1:x.toNat*(b[i]'h0).toNat%18446744073709551616=x.toNat*(b[i]'h0).toNat:=Yq (by omega);have m2:(x.toNat*(b[i]'h0).toNat+(S[i]'hiS).toNat)%18446744073709551616=x.toNat*(b[i]'h0).toNat+(S[i]'hiS).toNat:=Yq (by omega);have m3:(c+(x.toNat*(b[i]'h0).toNat+(S[i]'hiS).toNat))%18446744073709551616=c+(x.toNat*(b[i]'h0).toNat+(S[i]'hiS).toNat):=Yq (by omega);have m4:(c+(x.toNat*(b[i]'h0).toNat+(S[i]'hiS).toNat))/4294967296%18446744073709551616=(c+(x.toNat*(b[i]'h0).toNat+(S[i]'hiS).toNat))/4294967296:=Yq (by omega);refine⟨(i+1,(c+(x.toNat*(b[i]'h0).toNat+(S[i]'hiS).toNat))/4294967296,m++[w32 (c+(x.toNat*(b[i]'h0).toNat+(S[i]'hiS).toNat))]),⟨h0,by simp only;omega,by simp[hm],?_⟩,by simp only;omega,?_⟩
  ·simp only;rw[zaj,zaf hb,zaf hs,Yan,hm];simp only[zao,zbh,Yax,Yad,zcp];exact zz4 hv (by have:=Ybs (c+(x.toNat*(b[i]'h0).toNat+(S[i]'hiS).toNat)) 4294967296;omega)
  ·simp at hg hset;simp -implicitDefEqProofs[l61_0,Zmb,h0,hw,hw2,hiS,hg,hset,hPa,hX,m1,m2,m3,m4]
 ·right;have hib:i=b.length:=by omega
  have hv':val m+4294967296^b.length*c=val (S.take b.length)+x.toNat*val b:=by
   rw[hib,Ya (Ye b.length)]at hv;exact hv
  refine⟨(Ex.n,⟨[(0,.sl (Zc a) .an),(1,.sl (Zc b) .an),(5,.bs (.loc 14) 1 1 0 (P.length+S.length)),(6,.i .i64 P.length),(7,u64 c)],[(.loc 14,⟨1,.own,1,Zc (P++(m++S.drop i))⟩)],3⟩),⟨c,m,by rw[hib],by rw[hm,hib],hc,hv'⟩,?_,?_⟩<;>simp -implicitDefEqProofs[l61_0,Zmb,h0]
end
section
variable{T:Tbl}[Z8 T]
def Zku(a b:List UInt32)(y:Nat×List UInt32):St:=
 ⟨[(0,.sl (Zc a) .an),(1,.sl (Zc b) .an),(5,.bs (.loc 14) 1 1 0 (a.length+b.length)),(6,.i .i64 y.1)],[(.loc 14,⟨1,.own,1,Zc (y.2++List.replicate (a.length-y.1) 0)⟩)],3⟩
end
section
variable{T:Tbl}
def zz5(a b:List UInt32)(ha:a.length<=100000)(hb:b.length<=100000):∀y:Nat×List UInt32,
  (y.1<=a.length/\y.2.length=b.length+y.1/\val y.2=val (a.take y.1)*val b) ->
  ∃r,(∃out:List UInt32,r=(Ex.n,(⟨[(5,.bs (.loc 14) 1 1 0 (a.length+b.length))],[(.loc 14,⟨1,.own,1,Zc out⟩)],3⟩:St))/\out.length=a.length+b.length/\val out=val a*val b) /\
   Ze T 0 0 (.norm false [5]) l61_1 (Zku a b y)=some r:=by
 refine zar _ _ (fun y=>a.length-y.1) _ ?_
 rintro⟨i,X⟩ ⟨hi,hX,hv⟩
 simp only at hi hX hv;by_cases h0:i<a.length
 ·left;have hag:a[i]? = some (a[i]'h0):=Yb h0;have hw:IntKind.wrap .i64 ((i:Int)+1)=((i+1:Nat):Int):=zab _ (by omega);have e2:(X.take i).length=i:=by simp;omega
  have e3:(X.drop i++List.replicate (a.length-i) 0).length=a.length+b.length-i:=by simp;omega
  obtain⟨_,⟨c,m,rfl,hm,hc,hvm⟩,hr⟩:=z4d (T:=T) (X.take i) (X.drop i++List.replicate (a.length-i) 0) a b (a[i]'h0) (by rw[e2];exact hag) (by simp;omega) (by simp;omega) (0,0,[]) ⟨Yv _,Nat.zero_lt_succ _,rfl,by simp⟩;have e1:X.take i++(X.drop i++List.replicate (a.length-i) 0)=X++List.replicate (a.length-i) 0:=by rw[<-Ybk,Ybb]
  have e4:i+(a.length+b.length-i)=a.length+b.length:=by omega
  have e6:(X.drop i++List.replicate (a.length-i) 0).take b.length=X.drop i:=by
   rw[Ycs (by simp;omega),Ya (by simp;omega)]
  have hSl:b.length<(X.drop i++List.replicate (a.length-i) 0).length:=by simp;omega
  have hg:=zee (P:=X.take i) (m:=m) hm hSl;have hset:=zd1 (P:=X.take i) (m:=m) (w32 c) hm hSl;have e5:(X.drop i++List.replicate (a.length-i) 0).drop (b.length+1)=List.replicate (a.length-(i+1)) 0:=by
   rw[List.drop_append,Ya7 (by simp;omega),List.drop_replicate];simp only[Yau,Ybv];congr 1;omega
  unfold Zmb at hr;simp only[Yau,Y6]at hr;rw[e1,e2,e3,e4]at hr;rw[e2]at hg hset;rw[e5]at hset;rw[e6]at hvm;generalize hQ:X.take i++(m++(X.drop i++List.replicate (a.length-i) 0).drop b.length)=Q at hr hg hset;have hw2:IntKind.wrap .i64 ((i:Int)+b.length)=((i+b.length:Nat):Int):=zab _ (by omega);have hlt:((i:Int)+b.length)<(a.length:Int)+b.length:=by omega
  simp at hr hg hset;refine⟨(i+1,X.take i++(m++[w32 c])),⟨h0,by simp only[Yam,e2,hm,Yc2];omega,?_⟩,by simp only;omega,?_⟩
  ·simp only;have e7:=zaj (X.take i) (X.drop i);rw[Ybb,e2]at e7;rw[zaj,e2,zaj,hm];simp only[zao,zbh,Yax,Yad,zah hc];rw[hvm,zaf hag,Ybz,<-hv,e7,Yas];rw[Yal];omega
  ·simp -implicitDefEqProofs[l61_1,Zku,h0,hw,hr,hw2,hlt,hg,hset]
 ·right;have:i=a.length:=by omega
  subst this;rw[Ya (Ye _)]at hv;refine⟨_,⟨X++List.replicate (a.length-a.length) 0,rfl,by simp;omega,by simp[hv]⟩,?_,?_⟩<;>simp -implicitDefEqProofs[l61_1,Zku]
end
section
variable{T:Tbl}[Z8 T]
def zc7(a b:List UInt32)(ha:a.length<=100000)(hb:b.length<=100000):Za T 61 [.sl (Zc a) .an,.sl (Zc b) .an]=some (.sl (Zc (ofN (val a*val b))) .an):=by
 obtain⟨_,⟨out,rfl,ho,hv⟩,hr⟩:=zz5 (T:=T) a b ha hb (0,List.replicate b.length 0) ⟨Yv _,by simp,by simp[zbq]⟩;unfold Zku at hr;simp at hr;have hw1:IntKind.wrap .i64 ((a.length:Int)+b.length)=(a.length:Int)+b.length:=zab _ (by omega);have hle:(a.length:Int)+b.length<=4294967296:=by omega
 have hn:=zbt (T:=T) out (by omega);rw[hv]at hn;have htk:List.take (a.length+b.length) out=out:=Ya (by omega);have he:b.length+a.length=a.length+b.length:=by omega
 rw[he]at hr;rw[zaa Z8.h61 rfl,b61];simp -implicitDefEqProofs[hw1,hle,hr,ho,htk,hn]
end
section
def l122_0:AX:=QZ "eW60N9_pV35RyBtp0qBiAmF5Eux.ZCYpvO3eQ8WML6IIU"
def b122:AX:=(fun p0=>QY [p0] [] "AiUlRiUQCUHYLt4Ym3C0e.i8VfpFEs.d7_eJDAMStOVSBsFypcXMGjPAtLvE38X_LEN0mKJTv3BGkP6da84UVc") l122_0
def l95_0:AX:=QZ "7iNy7.iyoxb67JIDSes_ypHafCZR4JzG6YiODoAB3CLe1vT"
def b95:AX:=(fun p0=>QY [p0] [] "4GjcgGzCOpmCvW4v8i9AP1cSRx33t4BzJh") l95_0
def l96_0:AX:=QY [] [(u32 2147483648)] "1y48JqY8.ET_VWMPMlCxGaOYQgAzD5zdi9UyJuLQRFd965JPDngKvZ7nlc6B.uh1wuVyLOhXPtK_KzV"
def b96:AX:=(fun p0=>QY [p0] [] "09bq986i1js9yNtA98WxoR") l96_0
def l97_0:AX:=QY [] [(u64 4294967296)] "4DZfh8tQOjOdCpYJWxe478sAJs3EW73cBauhrn6sfoxHt.yB3eEdA2UyJjubpDv.yqDZjMZAHUkt1DmKtJpO0i8uwP4fk.cKBoDWck1vFrpmH.GxDXjS"
def b97:AX:=(fun p0=>QY [p0] [] "19kj11pMNuG.S") l97_0
def l63_0:AX:=QZ "00V5_Pk2f9L6m7LW3gsIqMMfHC9V1N7u2AOUeX1Mabk1Ea76FHHyFYxHRf7172fU9VuC2pxu4jBNz5ZuKi7UuQU65nmI37DGvONeBJr6P6sQPAaDrg7nT"
def b63:AX:=(fun p0=>QY [p0] [] "0FzTWt6eX2vav7f6UFP2xJavFbDF3TB8_b6je.BVNJj7.rdeZwuoC7CN79qKvv3WWY0.2Z_.ig4crbMA.flG") l63_0
abbrev row122:AFx:=⟨2,32,[.t 4],b122,none,false⟩
abbrev row95:AFx:=⟨1,19,[.t 2],b95,none,false⟩
abbrev row96:AFx:=⟨2,30,[],b96,(some [true,false]),false⟩
abbrev row97:AFx:=⟨2,37,[],b97,(some [true,false]),false⟩
abbrev row63:AFx:=⟨2,54,[.t 4,.t 5],b63,none,false⟩
class Zx (T:Tbl):Prop extends Z8 T where
 h122:Tr T 122=some row122
 h95:Tr T 95=some row95
 h96:Tr T 96=some row96
 h97:Tr T 97=some row97
 h63:Tr T 63=some row63
attribute [simp] Zx.h122 Zx.h95 Zx.h96 Zx.h97 Zx.h63
end
section
def l224_0:AX:=QZ "2WcPa.1D.KUnBcVkRFCM8VWUx5ce_RJUOwVnjH_vQ"
def b224:AX:=(fun p0=>QY [p0] [] "BAD19w84tUrcZ2ANXTMM9a8BIK4WjcmXDDn7cv") l224_0
def l225_0:AX:=QY [] [(u64 4294967296)] "3xwsYWzDQnsSzTr_QwIHHDNzh4POdIkjsSmyp7qBUWZCFWRyNjyP9LFnXrZQSt54kAYEc9kZhRmwTkMwzII4bQm7GwkSiyCFDxlc2U"
def l225_1:AX:=QZ "1QL4QYMK5YSMuJvYmACT1bHiV4Ash.MYyBLgpSDnBgWp_G23z7ohIUz7WKrh9zS"
def b225:AX:=(fun p0 p1=>QY [p0,p1] [] "E96r1giGF7xZdHzCgy4wcRxXcwkwgo") l225_0 l225_1
def l226_0:AX:=QZ "0Mxt8OAX_nXz9ujfXXhYGfNSJV3PdJsw9nDsLN8Cf2S"
def b226:AX:=(fun p0=>QY [p0] [] "0l9jn1A.JlvuvGV.GuzWrQVS6DlTnCqMpoiT40HiJmHz84SHQI5Fpof") l226_0
def b227:AX:=QZ "1ucXXRZWpOIS6IUdXatacONTWns6ZsfiTkFYcey.bmolv0epWGAKN9Jf"
def l228_0:AX:=QZ "98ex1HQfMRA9uTbjjhBB_OKHEODM5qlDEjAG2s.X8Og82y4ObjcaP.Q0MmPhzJJNcH4koZG28WwJ.tVIpT4bVBDuwfTsnwb0jz3uMV"
def b228:AX:=(fun p0=>QY [p0] [] "2FNyaG3HWJ96QZJst.fxwIcMQFQzAKOQCbE.KKy6pOOvvoxQPkwk4QKiBBp9zQoXbvS8YExPEhvItaYhmBO16i.wOfjvpPZcolduSeiQ3dBSvfu8a2xgm5NoOprku4rPp3Z7rblA9mDFP01DXQSq1JA") l228_0
def b229:AX:=QZ "4Gh7RGwVbYk0eLsx.G_bit0jeJ5ub.CBNI"
def b230:AX:=QZ "EkFIYiqg5fmrbolwDHU98_Ih9RC_hx2ss4iXyanms9WMz7e5XBKutsnROLrxgJtS4B"
def l2097_0:AX:=QY [] [(u64 4294967296)] "4DZfh8tQOjOdCpYJWxe478sAJs3EW73cBauhrn6sfoxHt.yB3eEdA2UyJjubpDv.yqDZjMZAHUkt1DmKtJpO0i8uwP4fk.cKBoDWck1vFrpmH.GxDXjS"
def b2097:AX:=(fun p0=>QY [p0] [] "19kj11pMNuG.S") l2097_0
abbrev row224:AFx:=⟨1,14,[.t 2],b224,none,false⟩
abbrev row225:AFx:=⟨2,56,[.t 4],b225,(some [true,false]),false⟩
abbrev row226:AFx:=⟨1,24,[.t 2,.t 3],b226,(some [true]),false⟩
abbrev row227:AFx:=⟨2,17,[.t 4],b227,none,false⟩
abbrev row228:AFx:=⟨2,56,[.t 4],b228,none,false⟩
abbrev row229:AFx:=⟨1,12,[.t 2],b229,none,false⟩
abbrev row230:AFx:=⟨2,18,[.t 4],b230,none,false⟩
abbrev row2097:AFx:=⟨2,37,[],b2097,(some [true,true]),false⟩
class Zw (T:Tbl):Prop where
 h224:Tr T 224=some row224
 h225:Tr T 225=some row225
 h226:Tr T 226=some row226
 h227:Tr T 227=some row227
 h228:Tr T 228=some row228
 h229:Tr T 229=some row229
 h230:Tr T 230=some row230
 h2097:Tr T 2097=some row2097
attribute [simp] Zw.h224 Zw.h225 Zw.h226 Zw.h227 Zw.h228 Zw.h229 Zw.h230 Zw.h2097
end
section
variable{T:Tbl}[Zx T]
def Zol(a:List UInt32)(y:Nat×Nat×List UInt32):St:=
 ⟨[(0,.bs (.bor 0) 0 1 0 a.length),(4,u32 y.2.1),(5,.i .i64 y.1)],[(.bor 0,⟨0,.own,1,Zc (y.2.2++a.drop y.1)⟩)],4⟩
def z81{p m c c' w s x k:Nat}(h:m+p*c=2*s+k)(e:w+4294967296*c'=2*x+c):(m+p*w)+p*4294967296*c'=2*(s+p*x)+k:=by
 grind
end
section
variable{T:Tbl}
def z82(a:List UInt32)(c0:Nat)(hl:a.length<=1000000):∀y:Nat×Nat×List UInt32,
  (y.1<=a.length/\y.2.1<=1/\y.2.2.length=y.1/\val y.2.2+4294967296^y.1*y.2.1=2*val (a.take y.1)+c0) ->
  ∃r,(∃(c:Nat) (m:List UInt32),r=(Ex.n,(⟨[],[(.bor 0,⟨0,.own,1,Zc m⟩)],4⟩:St)) /\
   m.length=a.length/\c<=1/\val m+4294967296^a.length*c=2*val a+c0)/\Ze T 1 0 (.norm false []) l96_0 (Zol a y)=some r:=by
 refine zar _ _ (fun y=>a.length-y.1) _ ?_
 rintro⟨i,c,m⟩ ⟨hi,hc,hm,hv⟩
 simp only at hi hc hm hv;by_cases h0:i<a.length
 ·left;have ha:a[i]? = some (a[i]'h0):=Yb h0;have hg:=zee (P:=[]) hm h0;have hw:IntKind.wrap .i64 ((i:Int)+1)=((i+1:Nat):Int):=zab _ (by omega);have hlx:=zan (a[i]'h0);have hset:=zd1 (P:=[]) (w32 ((a[i]'h0).toNat*2%4294967296+c)) hm h0;simp at hg hset;have m1:((a[i]'h0).toNat*2%4294967296+c)%4294967296=(a[i]'h0).toNat*2%4294967296+c:=Yq (by omega);have m2:(a[i]'h0).toNat/2147483648<4294967296:=by omega
  have m3:(a[i]'h0).toNat*2%4294967296+c<4294967296:=by omega
  refine⟨(i+1,(a[i]'h0).toNat/2147483648,m++[w32 ((a[i]'h0).toNat*2%4294967296+c)]),⟨h0,by grind,by grind,?_⟩,by omega,?_⟩
  ·rw[zaj,zaf ha,Yan,hm];simp only[zao,zbh,Yax,Yad,zcp];exact z81 hv (by omega)
  ·simp -implicitDefEqProofs[l96_0,Zol,h0,hw,hg,hset,m1,m2,zbp _ _ _ m3]
 ·right;have:i=a.length:=by omega
  subst this;rw[Ya (Ye a.length)]at hv;refine⟨_,⟨c,m,rfl,hm,hc,hv⟩,?_,?_⟩<;>simp -implicitDefEqProofs[l96_0,Zol]
end
section
variable{T:Tbl}[Zx T]
def zia(a:List UInt32)(v:Bool)(hl:a.length<=1000000) :
  ∃(c:Nat) (m:List UInt32),m.length=a.length/\c<=1/\val m+4294967296^a.length*c=2*val a+(if v then 1 else 0) /\
   Z4 T 96 [.bs (.bor 0) 0 1 0 a.length,.b v] [(.bor 0,⟨0,.own,1,Zc a⟩)]=some (.tup [],[(.bor 0,⟨0,.own,1,Zc m⟩)]):=by
 obtain⟨_,⟨c,m,rfl,hm,hc,hv⟩,hr⟩:=z82 (T:=T) a (if v then 1 else 0) hl (0,(if v then 1 else 0),[]) ⟨Yv _,by grind,rfl,by simp_all⟩;refine⟨c,m,hm,hc,hv,?_⟩;unfold Zol at hr;rw[zam Zx.h96 rfl,b96];cases v
 ·simp at hr;simp -implicitDefEqProofs[hr]
 ·simp at hr;simp -implicitDefEqProofs[hr]
def Znn(a b:List UInt32)(y:Nat×Nat×List UInt32):St:=
 ⟨[(0,.bs (.bor 0) 0 1 0 a.length),(1,.sl (Zc b) .an),(4,u64 y.2.1),(5,.i .i64 y.1)],[(.bor 0,⟨0,.own,1,Zc (y.2.2++a.drop y.1)⟩)],4⟩
def z83(a b:List UInt32)(hl:a.length<=1000000)(hb:b.length<=1000000):∀y:Nat×Nat×List UInt32,
  (y.1<=a.length/\y.2.1<=1/\y.2.2.length=y.1/\val y.2.2+val (b.take y.1)=val (a.take y.1)+4294967296^y.1*y.2.1) ->
  ∃r,(∃(c:Nat) (m:List UInt32),r=(Ex.n,(⟨[],[(.bor 0,⟨0,.own,1,Zc m⟩)],4⟩:St)) /\
   m.length=a.length/\c<=1/\val m+val (b.take a.length)=val a+4294967296^a.length*c)/\Ze T 1 0 (.norm false []) l97_0 (Znn a b y)=some r:=by
 refine zar _ _ (fun y=>a.length-y.1) _ ?_
 rintro⟨i,c,m⟩ ⟨hi,hc,hm,hv⟩
 simp only at hi hc hm hv;by_cases h0:i<a.length
 ·left;have ha:a[i]? = some (a[i]'h0):=Yb h0;have hg:=zee (P:=[]) hm h0;have hw:IntKind.wrap .i64 ((i:Int)+1)=((i+1:Nat):Int):=zab _ (by omega);have cb:=zd7 (T:=T) b i hb;have la:=zan (a[i]'h0);have lb:=zkd b i;have e1:=zaf ha;have e2:=zbm b i;simp at hg;have m1:(a[i]'h0).toNat%18446744073709551616=(a[i]'h0).toNat:=Yq (by omega);have m2:atW b i%18446744073709551616=atW b i:=Yq (by omega);have m3:(atW b i+c)%18446744073709551616=atW b i+c:=Yq (by omega);have m4:((a[i]'h0).toNat+4294967296)%18446744073709551616=(a[i]'h0).toNat+4294967296:=Yq (by omega);have fin:∀s d:Nat,d<=1->s<4294967296->s+(atW b i+c)=(a[i]'h0).toNat+4294967296*d ->
    val (m++[w32 s])+val (b.take (i+1))=val (a.take (i+1))+4294967296^(i+1)*d:=by
   grind[zaj,zao,zbh,zah]
  by_cases h1:(a[i]'h0).toNat<atW b i+c
  ·have hs:Ze0 ((a[i]'h0).toNat+4294967296) (atW b i+c)=(a[i]'h0).toNat+4294967296-(atW b i+c):=zfs (by omega) (by omega);have hset:=zd1 (P:=[]) (w32 ((a[i]'h0).toNat+4294967296-(atW b i+c))) hm h0;simp at hset;refine⟨(i+1,1,m++[w32 ((a[i]'h0).toNat+4294967296-(atW b i+c))]),⟨h0,Ye _,by grind,fin _ 1 (by omega) (by omega) (by omega)⟩,by omega,?_⟩;simp -implicitDefEqProofs[l97_0,Znn,h0,cb,m1,m2,m3,m4,h1,hs,hg,hw,hset]
  ·have hs:Ze0 (a[i]'h0).toNat (atW b i+c)=(a[i]'h0).toNat-(atW b i+c):=zfs (by omega) (by omega);have hset:=zd1 (P:=[]) (w32 ((a[i]'h0).toNat-(atW b i+c))) hm h0;simp at hset;refine⟨(i+1,0,m++[w32 ((a[i]'h0).toNat-(atW b i+c))]),⟨h0,Yv _,by grind,fin _ 0 (by omega) (by omega) (by omega)⟩,by omega,?_⟩;simp -implicitDefEqProofs[l97_0,Znn,h0,cb,m1,m2,m3,h1,hs,hg,hw,hset]
 ·right;have:i=a.length:=by omega
  subst this;rw[Ya (Ye a.length)]at hv;refine⟨_,⟨c,m,rfl,hm,hc,hv⟩,?_,?_⟩<;>simp -implicitDefEqProofs[l97_0,Znn]
def zvh(a b:List UInt32)(hl:a.length<=1000000)(hb:b.length<=a.length)(hab:val b<=val a) :
  ∃m:List UInt32,m.length=a.length/\val m=val a-val b /\
   Z4 T 97 [.bs (.bor 0) 0 1 0 a.length,.sl (Zc b) .an] [(.bor 0,⟨0,.own,1,Zc a⟩)]=some (.tup [],[(.bor 0,⟨0,.own,1,Zc m⟩)]):=by
 obtain⟨_,⟨c,m,rfl,hm,hc,hv⟩,hr⟩:=z83 (T:=T) a b hl (by omega) (0,0,[]) ⟨Yv _,Yv _,rfl,by simp⟩;rw[Ya hb]at hv;have hlo:=za3 m;have hval:val m=val a-val b:=by
  rcases Ya4 c with h1 | h1
  all_goals grind
 refine⟨m,hm,hval,?_⟩;unfold Znn at hr;rw[zam Zx.h97 rfl,b97]
 simp_all
def Zom(x i:Nat)(y:Nat):St:=⟨[(1,.i .i64 i),(5,u32 (x/2^y)),(6,.i .i64 y)],[],2⟩
end
section
variable{T:Tbl}
def z84(x i:Nat)(_hi:i<=100000000)(hx:x<4294967296):∀y:Nat,y<=i%32 ->
  ∃r,(r=(Ex.n,(⟨[(5,u32 (x/2^(i%32)))],[],2⟩:St)))/\Ze T 0 0 (.norm false [5]) l122_0 (Zom x i y)=some r:=by
 refine zar _ _ (fun y=>i%32-y) _ ?_;intro j hj;have hm:((i:Int).tmod 32)=((i%32:Nat):Int):=rfl;by_cases h0:j<i%32
 ·left;have hw:IntKind.wrap .i64 ((j:Int)+1)=((j+1:Nat):Int):=zab _ (by omega);have hd:x/2^j/2=x/2^(j+1):=by rw[Yby,Yan]
  have hd2:x/2^(j+1)%4294967296=x/2^(j+1):=Yq (Ydo (Yb9 _ _) hx);refine⟨j+1,h0,by omega,?_⟩;have hj2:(j:Int)<(i:Int)%32:=by omega
  simp -implicitDefEqProofs[l122_0,Zom,hm,hw,hd,hd2,hj2]
 ·right;have:j=i%32:=by omega
  subst this;refine⟨_,rfl,?_,?_⟩<;>simp -implicitDefEqProofs[l122_0,Zom,hm]
end
section
variable{T:Tbl}[Zx T]
def zpo(a:List UInt32)(i:Nat)(hl:a.length<=1000000)(hi:i<32*a.length) :
  Za T 122 [.sl (Zc a) .an,.i .i64 i]=some (.b (decide (val a/2^i%2=1))):=by
 have h1:i/32<a.length:=by omega
 have ha:a[i/32]? = some (a[i/32]'h1):=Yb h1;obtain⟨_,rfl,hr⟩:=z84 (T:=T) (a[i/32]'h1).toNat i (by omega) (zan _) 0 (Yv _);unfold Zom at hr;simp at hr;have hq:IntKind.wrap .i64 ((i:Int)/32)=(i:Int)/32:=zab (i/32) (by omega);have hq1:((i:Int)/32).toNat=i/32:=by omega
 have hq2:(0:Int)<=(i:Int)/32:=by omega
 have hq3:(i:Int)/32<(a.length:Int):=by omega
 have hq4:¬ (a.length:Int)<=(i:Int)/32:=by omega
 have hb:=z1t ha;rw[zaa Zx.h122 rfl,b122];simp -implicitDefEqProofs[hr,hq,hq1,hq2,hq3,hq4,h1,hb]
def Zjm(a:List UInt32)(y:Nat):St:=⟨[(0,.sl (Zc a) .an),(3,.i .i64 y)],[],2⟩
def z85(a:List UInt32)(hl:a.length<=1000000):∀y:Nat,(y<=32*a.length/\val a<2^y) ->
  ∃r,(∃n:Nat,r=(Ex.n,(⟨[(3,.i .i64 n)],[],2⟩:St))/\n<=32*a.length/\val a<2^n)/\Ze T 0 0 (.norm false [3]) l95_0 (Zjm a y)=some r:=by
 refine zar _ _ (fun y=>y) _ ?_
 rintro k ⟨hk,hv⟩
 by_cases h0:k=0
 ·right;subst h0;refine⟨_,⟨0,rfl,Yv _,hv⟩,?_,?_⟩<;>simp -implicitDefEqProofs[l95_0,Zjm]
 ·obtain⟨j,rfl⟩:∃j,k=j+1:=⟨k-1,by omega⟩;have hw:IntKind.wrap .i64 (j:Int)=(j:Int):=zab _ (by omega);have hh:=zpo (T:=T) a j hl (by omega);have hp:(0:Int)<(j:Int)+1:=by omega
  by_cases h1:val a/2^j%2=1
  ·right;refine⟨_,⟨j+1,rfl,hk,hv⟩,?_,?_⟩<;>simp -implicitDefEqProofs[l95_0,Zjm,hw,hh,hp,h1]
  ·left;refine⟨j,⟨by omega,zp7 hv (by omega)⟩,by omega,?_⟩;simp -implicitDefEqProofs[l95_0,Zjm,hw,hh,hp,h1]
def zz6(a:List UInt32)(hl:a.length<=1000000):∃n:Nat,n<=32*a.length/\val a<2^n/\Za T 95 [.sl (Zc a) .an]=some (.i .i64 n):=by
 obtain⟨_,⟨n,rfl,hn,hv⟩,hr⟩:=z85 (T:=T) a hl (32*a.length) ⟨Ye _,by rw[<-zp5];exact za3 a⟩;refine⟨n,hn,hv,?_⟩;unfold Zjm at hr;simp at hr;have hw:IntKind.wrap .i64 (32*(a.length:Int))=32*(a.length:Int):=by
  grind[zab]
 rw[zaa Zx.h95 rfl,b95];simp -implicitDefEqProofs[hr,hw]
end
section
variable{T:Tbl}[Zx T]
def z4e(n:Nat)(h:n<32):Zak .shl (u32 1) (.i .i64 (n:Int))=some (u32 (2^n)):=by
 have h1:¬ (n:Int)<0:=by omega
 have h2:2^n<4294967296:=by
  have:2^n<2^32:=Nat.pow_lt_pow_right (by decide) h;simpa using this
 have h3:min n IntKind.u32.bits=n:=by
  have:IntKind.u32.bits=32:=rfl;rw[this];omega
 have h4:((1:Nat):Int)*2^n=((2^n:Nat):Int):=by simp
 unfold u32;simp only[Zak,if_neg h1,Ybl,h3,h4,zeq,Yq h2]
def zae9{v b Q L:Nat}(hb:0<b)(hq:Q=v/2/b)(hr:L=v/2%b) :
  (b<=2*L+v%2->v/b=2*Q+1/\v%b=2*L+v%2-b)/\(2*L+v%2<b->v/b=2*Q/\v%b=2*L+v%2):=by
 have h1:=Ybs (v/2) b;have h2:L<b:=by rw[hr];exact Ya5 _ hb
 rw[<-hq,<-hr]at h1;have h3:v=b*(2*Q)+(2*L+v%2):=by
  rw[<-Yal,Yaw b 2,Yal];omega
 have ht:v%2<2:=Ya5 _ (by decide);clear h1 hq hr;generalize v%2=t at *
 rw[h3];constructor
 ·intro h;have e:b*(2*Q)+(2*L+t)=(2*L+t-b)+b*(2*Q+1):=by rw[Yas,Yd4];omega
  rw[e,Yb6 _ _ hb,Ydc,Ya3 (by omega),Yq (by omega)];omega
 ·intro h;rw[Yba,Yb6 _ _ hb,Ydc,Ya3 h,Yq h];omega
def z86{a:List UInt32}{x:UInt32}(h:a[0]? = some x)(hx:x.toNat+1<4294967296):val (a.set 0 (w32 (x.toNat+1)))=val a+1:=by
 cases a with
 | nil=>cases h
 | cons y l=>
  cases h;simp only[Yb4,zao,zah hx];omega
def Zlx(a b:List UInt32)(y:Nat×List UInt32×List UInt32):St:=
 ⟨[(0,.sl (Zc a) .an),(1,.sl (Zc b) .an),(6,.bs (.loc 11) 1 1 0 a.length),(7,.bs (.loc 15) 2 1 0 (b.length+1)),(8,.i .i64 ((y.1:Int)-1))],[(.loc 11,⟨1,.own,1,Zc y.2.1⟩),(.loc 15,⟨2,.own,1,Zc y.2.2⟩)],4⟩
def z87(a b:List UInt32)(ha:a.length<=100000)(hb:b.length<=100000)(h0b:0<val b):∀y:Nat×List UInt32×List UInt32,
  (y.1<=32*a.length/\y.2.1.length=a.length/\y.2.2.length=b.length+1/\val y.2.1=val a/2^y.1/val b/\val y.2.2=val a/2^y.1%val b) ->
  ∃r,(∃Q L:List UInt32,r=(Ex.n,(⟨[(6,.bs (.loc 11) 1 1 0 a.length),(7,.bs (.loc 15) 2 1 0 (b.length+1))],[(.loc 11,⟨1,.own,1,Zc Q⟩),(.loc 15,⟨2,.own,1,Zc L⟩)],4⟩:St)) /\
   Q.length=a.length/\L.length=b.length+1/\val Q=val a/val b/\val L=val a%val b)/\Ze T 0 0 (.norm false [6,7]) l63_0 (Zlx a b y)=some r:=by
 refine zar _ _ (fun y=>y.1) _ ?_
 rintro⟨k,Q,L⟩ ⟨hk,hQ,hL,hq,hr⟩
 simp only at hk hQ hL hq hr;cases k with
 | zero=>
  right;rw[Ydu,Yfi]at hq hr;refine⟨_,⟨Q,L,rfl,hQ,hL,hq,hr⟩,?_,?_⟩<;>simp -implicitDefEqProofs[l63_0,Zlx]
 | succ j=>
  left;have h1:j/32<a.length:=by omega
  have hag:a[j/32]? = some (a[j/32]'h1):=Yb h1;have hbit:=z1t hag;have hw:IntKind.wrap .i64 ((j:Int)-1)=(j:Int)-1:=zab _ (by omega);have hsh:Zak .shl (u32 1) (.i .i64 ((j:Int)%32))=some (u32 (2^(j%32))):=z4e (j%32) (Ya5 _ (by decide));have hm:((j:Int).tmod 32)=((j%32:Nat):Int):=rfl;have hj0:IntKind.wrap .i64 ((j:Int)/32)=(j:Int)/32:=zab (j/32) (by omega);have hj1:((j:Int)/32).toNat=j/32:=by omega
  have hj2:(0:Int)<=(j:Int)/32:=by omega
  have hj3:(j:Int)/32<(a.length:Int):=by omega
  have hxl:=zan (a[j/32]'h1);obtain⟨cL,L2,hL2,hcL,hvL,hrL⟩:=zia (T:=T) L (decide ((a[j/32]'h1).toNat/2^(j%32)%2=1)) (by omega);obtain⟨cQ,Q2,hQ2,hcQ,hvQ,hrQ⟩:=zia (T:=T) Q false (by omega);have hcmp:=zfe (T:=T) L2 b (by omega) (by omega);have hpq:(2^(j%32))≠0:=Nat.ne_of_gt (Ybe (by decide));rw[hL]at hrL;rw[hQ]at hrQ;rw[hL]at hL2;rw[hQ]at hQ2;have htL:List.take (b.length+1) L2=L2:=Ya (by omega);have hres:∃Q3 L3:List UInt32,Q3.length=a.length/\L3.length=b.length+1/\val Q3=val a/2^j/val b/\val L3=val a/2^j%val b /\
    (evX (orc T) T 0 l63_0 (Zlx a b (j+1,Q,L))=some (Ex.n,Zlx a b (j,Q3,L3))):=by
   have hvb:=za3 b;have hva:=za3 a;have hLb:val L<val b:=by rw[hr];exact Ya5 _ h0b
   have hv2:val a/2^(j+1)=val a/2^j/2:=by rw[Yan,Yby]
   rw[hv2]at hq hr;have hlaw:=zae9 h0b hq hr;have hva2:val a/2^j<=val a:=Yb9 _ _;have hq2:2*val Q<=val a/2^j:=by
    have h2:val a/2^j/2/val b<=val a/2^j/2:=Yb9 _ _;omega
   have hL0:val L2=2*val L+val a/2^j%2:=by
    have hb2:(if decide ((a[j/32]'h1).toNat/2^(j%32)%2=1)=true then 1 else 0)=val a/2^j%2:=by
     rw[hbit];simp only[decide_eq_true_eq];split<;>omega
    rw[hb2,hL,Yan]at hvL;have ht:val a/2^j%2<2:=Ya5 _ (by decide);generalize val a/2^j%2=t at *
    generalize 4294967296^b.length=p at *
    rcases Ya4 cL with h | h
    ·rw[h,Yax,Yad]at hvL;exact hvL
    ·have:=Yaq (p*4294967296) h;generalize p*4294967296*cL=u at *
     omega
   have hQ0:val Q2=2*val Q:=by
    rw[hQ]at hvQ;simp at hvQ;generalize 4294967296^a.length=p at *
    rcases Ya4 cQ with h | h
    ·rw[h,Yax,Yad]at hvQ;exact hvQ
    ·have:=Yaq p h;generalize p*cQ=u at *
     omega
   rw[<-hL0]at hlaw;by_cases hle:val b<=val L2
   ·have hc:(0:Int)<=Zeb (val L2) (val b):=by
     unfold Zeb;split
     ·omega
     ·split<;>omega
    obtain⟨L3,hL3,hvL3,hrL3⟩:=zvh (T:=T) L2 b (by omega) (by omega) hle;rw[hL2]at hrL3 hL3;have h0Q:0<Q2.length:=by omega
    have hQg:Q2[0]? = some (Q2[0]'h0Q):=Yb h0Q;have hev:(Q2[0]'h0Q).toNat+1<4294967296:=by
     have:=zan (Q2[0]'h0Q);have hc:val Q2=(Q2[0]'h0Q).toNat+4294967296*val (Q2.drop 1):=by
      conv=>lhs;rw[<-Y6 (l:=Q2),Yg h0Q,zao]
     omega
    have h0a:0<a.length:=by omega
    have hQg':=hQg;have hev':=hev;generalize hqq:(Q2[0]'h0Q).toNat=qq at hev';refine⟨Q2.set 0 (w32 ((Q2[0]'h0Q).toNat+1)),L3,by simp[hQ2],hL3,by rw[z86 hQg hev,hQ0,(hlaw.1 hle).1],by rw[hvL3,(hlaw.1 hle).2],?_⟩;simp -implicitDefEqProofs[l63_0,Zlx,hw,hsh,hm,hj0,hj1,hj2,hj3,h1,hrL,hrQ,hL2,htL,hcmp,hc,hrL3,hQ2,h0a]
   ·have hc:¬ (0:Int)<=Zeb (val L2) (val b):=by unfold Zeb;rw[if_pos (by omega)];decide
    have hlt:val L2<val b:=by omega
    refine⟨Q2,L2,hQ2,hL2,by rw[hQ0,(hlaw.2 hlt).1],by rw[(hlaw.2 hlt).2],?_⟩;simp -implicitDefEqProofs[l63_0,Zlx,hw,hsh,hm,hj0,hj1,hj2,hj3,h1,hrL,hrQ,hL2,htL,hcmp,hc]
  obtain⟨Q3,L3,e1,e2,e3,e4,e5⟩:=hres;exact⟨(j,Q3,L3),⟨by simp only;omega,e1,e2,e3,e4⟩,Y7 j,e5⟩
def zz7(a b:List UInt32)(ha:a.length<=100000)(hb:b.length<=100000)(h0b:0<val b) :
  Za T 63 [.sl (Zc a) .an,.sl (Zc b) .an]=some (.tup [.sl (Zc (ofN (val a/val b))) .an,.sl (Zc (ofN (val a%val b))) .an]):=by
 obtain⟨n,hn,hvn,hln⟩:=zz6 (T:=T) a (by omega);have hd0:val a/2^n=0:=Ya3 hvn;obtain⟨_,⟨Q,L,rfl,hQ,hL,hq,hr⟩,hlp⟩:=z87 (T:=T) a b ha hb h0b (n,List.replicate a.length 0,List.replicate (b.length+1) 0)
  ⟨hn,by simp,by simp,by simp[zbq,hd0],by simp only[hd0,Nat.zero_mod];exact zbq _⟩
 have hw:IntKind.wrap .i64 ((n:Int)-1)=(n:Int)-1:=zab _ (by omega);have hw2:IntKind.wrap .i64 ((b.length:Int)+1)=((b.length+1:Nat):Int):=zab _ (by omega);have h1:(a.length:Int)<=4294967296:=by omega
 have h2:(b.length:Int)+1<=4294967296:=by omega
 have hn1:=zbt (T:=T) Q (by omega);have hn2:=zbt (T:=T) L (by omega);have t1:List.take a.length Q=Q:=Ya (by omega);have t2:List.take (b.length+1) L=L:=Ya (by omega);unfold Zlx at hlp;simp at hlp;rw[zaa Zx.h63 rfl,b63];simp -implicitDefEqProofs[hln,hw,hw2,h1,h2,hlp,hQ,hL,t1,t2,hn1,hn2,hq,hr]
end
section
def l2043_0:AX:=QZ "2XqayF6QYNahpdz.nrY3461.OPn6qNNCwIyUCwREFAuu_t9vU"
def b2043:AX:=(fun p0=>QY [p0] [] "3WgQU0f2ZzTnd5hyhHsSfvNFNGmQOhUxXsmvaoA39") l2043_0
abbrev row2043:AFx:=⟨1,23,[.t 2],b2043,(some [false]),false⟩
class Zae (T:Tbl):Prop extends Zx T where
 h2043:Tr T 2043=some row2043
attribute [simp] Zae.h2043
end
section
variable{T:Tbl}[Zae T]
def zgc(a:List UInt32)(hl:a.length<=1000000):Z4 T 2043 [.sl (Zc a) .an] [] =
  some (.bs (.loc 22) 1 1 0 (ofN (val a)).length,[(.loc 22,⟨1,.own,1,Zc (ofN (val a))⟩)]):=by
 obtain⟨n,h1,h2,h3,h4⟩:=zhe a;have hr:=zfd (T:=T) a (by omega) h1 h3 h4 a.length ⟨h1,Ye _⟩;rw[show l43_0=l2043_0 from rfl]at hr;have hlen:(ofN (val a)).length=n:=by rw[<-h2];simp;omega
 have hb:n<=4294967296:=by omega
 rw[zam Zae.h2043 rfl,b2043];simp -implicitDefEqProofs[hr,h1,h2,hb,hlen]
def Zs2(N:Nat)(y:Nat×Nat×List UInt32)(P:List UInt32):St:=
 ⟨[(0,.bs (.bor 0) 0 1 0 N),(3,u64 y.2.1),(4,.i .i64 ((y.1:Int)-1))],[(.bor 0,⟨0,.own,1,Zc (P.take y.1++y.2.2)⟩)],4⟩
end
section
variable{T:Tbl}[Zae T]
def Zua(b:BId)(x:List UInt32)(s:List UInt8):St:=⟨[(3,.bs b 1 1 0 x.length),(4,.s s)],[(b,⟨1,.own,1,Zc x⟩)],3⟩
end
section
def b39:AX:=QZ "U7ektJBPgDeg7KR5kvEIgMQkqWKiJyyKDapn7LZ3kF6HmYhU8akM"
def b24:AX:=QZ "2q7NhxGbSQgv0.daABWVdC3.0yIdEMY7JN.pN6A1oSGqV_3l3kjUDl4Bkn8TQWuryldpnZoqYV31B2_EaIFzP_l77xID.233Bq3wXqRH.Q9jLR.d_s5fO3b8egdEZSAiPF_AVMSom"
abbrev row39:AFx:=⟨1,16,[.cell 2 (some 2)],b39,none,false⟩
abbrev row24:AFx:=⟨2,43,[.cell 4 (some 2)],b24,none,false⟩
class Zag (T:Tbl):Prop extends Zae T where
 h39:Tr T 39=some row39
 h24:Tr T 24=some row24
attribute [simp] Zag.h39 Zag.h24
end
section
def b231:AX:=QZ "evhfvQJ7aqH5.roDavBIqhhC9x6JIG5v2tPbs9HvfsWzReUCAk3tglfpKwzufsAkXUd9INoyKjGwyFEjZJCUm.iFk9Oye6IEw32DokI6_Z581T5uRGSsCNzWJSHbEQetLvoWjX1ip_Utvk2WrIu3_zs3OiL_DNm"
def b232:AX:=QZ "5vj1QW5gMkEycVHXBleVJ5y5hj_NBK4tgDpKnYHbirqVJCss9kxLizxRzpUJrdn72u.F7XPfaO7SeEElSPdSibnx6"
def b233:AX:=QZ "np_6iBDjotz4QtxLh51W8Pc38So44H1JvjZQGFNVpmT0Czbp7_hMSXrYeboyqk0hdXbi.T"
def b235:AX:=QZ "F6EHWYRiQpisMu5dvOA"
def b236:AX:=QY [] [(AV.i .i64 (-1))] "1wAiAcIeU6nXVUIMj.EQ0aX4iI4hMzceKZydZ.of_8"
def b237:AX:=QZ "ZUgoJJHbWSpB.2_8GYSjWtSYZdR8k7n2OXnoN"
def b239:AX:=QZ "3goEByylnI7GfPW5mXlHCkY8FMtJtZYce7BnI0QFu_WjJCT6NqkGKAlYvJ52WXvZdnyBu2RulyJCMRXxvHtum_Biwk3IRN3YdH35IHvUsSiWkTdxgUnQ_Huluta6Z8hi_YOzHS1.C.nBZ2I2Ieb6.xAqTC8"
def b240:AX:=QZ "0Yma7HEx.xF1JQTrPC5WBX6iMjoXNFv"
def b241:AX:=QZ "2xLq7Vk_JlKEUqfqxCPqtS6p0gmjGaKdWRYVIQLFXDs8VGqbmRN9.iWzpvaY673Y"
def b242:AX:=QZ "2xLq7Vk_JlKEUqfqxCPqtS6p0dGC2rt3JKTniGHTbnPuiK57IfvNXycy24ZFbOKH"
def b247:AX:=QZ "800qrWENS6MP3l_DD8EiqKZ4mlgYkPP1S3wkqTvlu7J"
def b353:AX:=QY [] [(u64 4294967296)] "KCu9RkmReLGYJVJLElKukt6m6j1z08lno9"
abbrev row231:AFx:=⟨1,40,[.cell 2 (some 3)],b231,none,false⟩
abbrev row232:AFx:=⟨1,21,[.cell 2 (some 3)],b232,none,false⟩
abbrev row233:AFx:=⟨2,24,[.t 4],b233,none,false⟩
abbrev row235:AFx:=⟨1,7,[.t 2],b235,none,false⟩
abbrev row236:AFx:=⟨1,9,[.t 2],b236,none,false⟩
abbrev row237:AFx:=⟨1,12,[.cell 2 (some 3)],b237,none,false⟩
abbrev row239:AFx:=⟨2,38,[.cell 4 (some 3)],b239,none,false⟩
abbrev row240:AFx:=⟨2,9,[.cell 4 (some 3)],b240,none,false⟩
abbrev row241:AFx:=⟨2,22,[.cell 4 (some 3)],b241,none,false⟩
abbrev row242:AFx:=⟨2,22,[.cell 4 (some 3)],b242,none,false⟩
abbrev row247:AFx:=⟨2,17,[.t 4],b247,none,false⟩
abbrev row353:AFx:=⟨1,11,[.t 2],b353,none,false⟩
class Zq (T:Tbl):Prop where
 h231:Tr T 231=some row231
 h232:Tr T 232=some row232
 h233:Tr T 233=some row233
 h235:Tr T 235=some row235
 h236:Tr T 236=some row236
 h237:Tr T 237=some row237
 h239:Tr T 239=some row239
 h240:Tr T 240=some row240
 h241:Tr T 241=some row241
 h242:Tr T 242=some row242
 h247:Tr T 247=some row247
 h353:Tr T 353=some row353
attribute [simp] Zq.h231 Zq.h232 Zq.h233 Zq.h235 Zq.h236 Zq.h237 Zq.h239 Zq.h240 Zq.h241 Zq.h242 Zq.h247 Zq.h353
end
section
def l276_0:AX:=QZ "Ipj5e2lCRbL8kc8krpQV.YY325d.XswCloZ_RGBLrHwbk9Q8MnxEzqGLKrU"
def b276:AX:=(fun p0=>QY [p0] [] "q29dEWG0mpp3yd9qhpMPzlWTW.A") l276_0
def l278_0:AX:=QZ "n_nmtLmwTjAEV1fYfHn_jD1ounf0NlDsbLNbwm5hw7o4JhSjPBff2Q"
def b278:AX:=(fun p0=>QY [p0] [] "stDZgKaQGXoqhc5xE.PAu2Fwnx7") l278_0
def l279_0:AX:=QZ "07wXb9gPDzpIaCQxkA9BV3bROvxa6gIIAvcMur_eR9AX9SPfxA25vH5MnNIYV"
def b279:AX:=(fun p0=>QY [p0] [] "1f7iVLBYVrwlPvcCNgtFCHEu1c3zMLELoS203") l279_0
def l286_0:AX:=QZ "2igFDS9.ndBn_gZ4iQyMSuXZzMrTEhk.O7OcXZnQuAjZg1bWiaobNsbTm91EoXcSUR"
def b286:AX:=(fun p0=>QY [p0] [] "2xECEB1_qbZP5sfw_h_di5bnv.WLipJ4") l286_0
abbrev row276:AFx:=⟨1,19,[.t 2],b276,none,false⟩
abbrev row278:AFx:=⟨1,20,[.t 2],b278,none,false⟩
abbrev row279:AFx:=⟨2,27,[.t 4],b279,none,false⟩
abbrev row286:AFx:=⟨3,29,[.t 6],b286,none,false⟩
class Z9 (T:Tbl):Prop where
 h276:Tr T 276=some row276
 h278:Tr T 278=some row278
 h279:Tr T 279=some row279
 h286:Tr T 286=some row286
attribute [simp] Z9.h276 Z9.h278 Z9.h279 Z9.h286
end
class Zgm (T:Tbl):Prop where
class Zij (T:Tbl):Prop where
section
def b248:AX:=QZ "PQaOqNAYsVQh4YwQLpZ_1SCHEJzLl8CZ70BE"
def b249:AX:=QZ "Gs4SqO1meGLJ6k7ZEI1tA.h_wu2rNTRINcy"
abbrev row248:AFx:=⟨1,11,[.cell 2 (some 3)],b248,none,false⟩
abbrev row249:AFx:=⟨1,12,[.cell 2 (some 3)],b249,none,false⟩
class Zdd (T:Tbl):Prop where
 h248:Tr T 248=some row248
 h249:Tr T 249=some row249
attribute [simp] Zdd.h248 Zdd.h249
end
section
def l287_0:AX:=QZ "n_nmtLmwTjAEV1fYfHn_jD1ounf12FowKXDzCqRBJuHo3e1EwMZi2R"
def b287:AX:=(fun p0=>QY [p0] [] "stDZgKaQGXoqhc5xE.PAu2Fwnx7") l287_0
def l288_0:AX:=QZ "n_nmtLmwTjAEV1fYfHn_jD1ounf12FowKXEAz4Zx9fBGsHR52FNIER"
def b288:AX:=(fun p0=>QY [p0] [] "stDZgKaQGXoqhc5xE.PAu2Fwnx7") l288_0
def b289:AX:=QZ "3P_O_QBQHAA0dzZv3vsnrgn"
abbrev row287:AFx:=⟨1,20,[.t 2],b287,none,false⟩
abbrev row288:AFx:=⟨1,20,[.t 2],b288,none,false⟩
abbrev row289:AFx:=⟨2,9,[.t 4],b289,none,false⟩
class Zcx (T:Tbl):Prop where
 h287:Tr T 287=some row287
 h288:Tr T 288=some row288
 h289:Tr T 289=some row289
attribute [simp] Zcx.h287 Zcx.h288 Zcx.h289
end
section
def l308_0:AX:=QZ "QrsL7mafVN304YPyhjIHnJo6CUVVCtKUos7eHSp7RMIvCCMR8SUU"
def b308:AX:=(fun p0=>QY [p0] [] "_DX0seZzf4Ot7WLiNpEpShrK2_E") l308_0
def l309_0:AX:=QZ "VxMce84ILZxtOasV.u_6nwDHljgFuNZavRdusis25DhaoDs5tcn.zc1TsjQ"
def b309:AX:=(fun p0=>QY [p0] [] "1f7iVLBYVrwlPvcCNgtFCHEu1c3zMLELoS203") l309_0
abbrev row308:AFx:=⟨1,20,[.t 2],b308,none,false⟩
abbrev row309:AFx:=⟨2,27,[.t 4],b309,none,false⟩
class Zdz (T:Tbl):Prop where
 h308:Tr T 308=some row308
 h309:Tr T 309=some row309
attribute [simp] Zdz.h308 Zdz.h309
end
section
def l379_0:AX:=QZ "cmYDOOU2.ggpCJKvvVhEdgTz8BV6xXar1NpuSdRRcdKRDvS1M0Iw7EhIpbQYw3fECpuUVfV"
def b379:AX:=(fun p0=>QY [p0] [] "0kW3pqYbYjowDjutC2Vkao2rREKrckU5AXZgNN2SF6Kj3re1MzvjYXxRl") l379_0
def l382_0:AX:=QZ "DYyZ4R8UoP5.W966ysF500xvVyCzekAHlW6lRFmWfk2BjCp8kPbtVtHPikConqCB68USFlO6a96SKRMUUABVspu2l_qb26li3Sa6f9iTy0rGwPfV"
def b382:AX:=(fun p0=>QY [p0] [] "1uGhkL28_DlkLKRzLJpSjtWniIFJ4wTlA9XyNXEwKwzDwUMASQInyMIaJo1gm.zyxRzJdzwQoO") l382_0
abbrev row379:AFx:=⟨3,40,[.t 6],b379,none,false⟩
abbrev row382:AFx:=⟨1,43,[.cell 2 (some 4)],b382,none,false⟩
class Ze9 (T:Tbl):Prop where
 h379:Tr T 379=some row379
 h382:Tr T 382=some row382
attribute [simp] Ze9.h379 Ze9.h382
end
section
def b245:AX:=QZ "2Aw49GP6ZfXZEOtbBi2d.3E1whQ0K"
abbrev row245:AFx:=⟨1,10,[.t 2],b245,none,false⟩
class Zc3 (T:Tbl):Prop where
 h245:Tr T 245=some row245
attribute [simp] Zc3.h245
end
section
def l244_0:AX:=QZ "Nf9BnAB9DjdhIzYhhjmFpyo0krnWRVjYHp3HR7f2NwYAT"
def l244_1:AX:=QZ "1URj3V4Si9SfdYe5ZhIzDGGGHfVrMrajoYLf7ZcGPq7mpvU"
def b244:AX:=(fun p0 p1=>QY [p0,p1] [(AV.i .i64 (-8))] "7Z60A.cqWbC31OatpOXZqcveXTf8NBnUhN7p8RYgqO6sT_RptgKxidBc_mhd5CS9X_5CxdoTYA6oSYmLJebt6HQEefOOQKFCeS2.LCL2cKG1Ak_at1YQxJp6DS0gWTSg1") l244_0 l244_1
abbrev row244:AFx:=⟨2,42,[.cell 4 (some 3),.t 5],b244,none,false⟩
class Zdo (T:Tbl):Prop where
 h244:Tr T 244=some row244
attribute [simp] Zdo.h244
end
section
def b465:AX:=QY [] [(AV.i .i64 4096)] "0fWdHd6lv2wPro5f9lke"
def b475:AX:=QZ "D1hJQy4pUIp2DolmJu3l84B9Lcb6369qCsGgBoQWQ2pvAdeArZ_GaKeikd2zfBN9IQYrWsJ.Y102yQP9y4rkjrU3zQjneGKiUZGB_Cxh5MkdeTxq4TeZnlTPmes2fGPU_8pO8Pi.tXUC9Y2_4YOoegNc6ZGACczC6hcvZ8TR59jR79XLmUgF_wLPEivomlFsdX7zprQ.mxL4yPe0kV"
def b476:AX:=QZ "9zswBL_s8JLy4jQfShkHj_of"
abbrev row465:AFx:=⟨1,6,[.t 2],b465,none,false⟩
abbrev row475:AFx:=⟨4,42,[.cell 8 (some 3),.t 9],b475,none,false⟩
abbrev row476:AFx:=⟨2,9,[.t 4],b476,none,false⟩
class Zcy (T:Tbl):Prop where
 h465:Tr T 465=some row465
 h475:Tr T 475=some row475
 h476:Tr T 476=some row476
attribute [simp] Zcy.h465 Zcy.h475 Zcy.h476
end
section
def l544_0:AX:=QZ "Iu6YVL_5x9rtBd9_BrnEBNqOQwfz3VYrkuPwGPThi69a9znFrSHZREtxttMrf_P7fLMGr5d73cC5uXVm9FW1U0PZlpPXTFC5sXLo8R6YcZwd9AStpAm89LaVcha70RDwXzinfV9MbwK4M0GAGGxjb.jQa_06.GbIkbkFY8dpd05EngFjU"
def b544:AX:=(fun p0=>QY [p0] [] "1ySLODlZszPmZmztNZBia4Fdxdf2qYpnQcgIPI7q6OleVG") l544_0
def l547_0:AX:=QZ "0755MPMFzpaNpGdX2MSAm90Ofqukho5ZeyJBMSQ3A9db_fzEe_AoNpaXBRjLxnR"
def b547:AX:=(fun p0=>QY [p0] [] "6E8M4upbNSNq1Y9ZgTuc8iFXzVV0K7cI") l547_0
def b558:AX:=QZ "1CDpVlwslzMHygTJcj40GWJygKM1sEb4imd7sJprS4fya9WBBk1gG4v2AiUHWnqbaUWG2ucUdhRpS5S9VnGuXBwF_.QMv6plKqy2Iny4Tc.IbIkUiHBv0UdVN8PS2RVInpyFG8tjQd7oqmO9gO2cr3AXzoXzhf61FZJepdbGvlKG7DnSbKLrDd2vUPX.0qW.1LwNB0zt7CymH8aISAIhcEvgLP.UwS0u1j01qnquP75ymq9l_1mj8nN4s1KzHrDXIZu"
abbrev row544:AFx:=⟨3,46,[.t 6,.t 7,.t 8],b544,none,false⟩
abbrev row547:AFx:=⟨2,26,[.t 4],b547,none,false⟩
abbrev row558:AFx:=⟨3,76,[.cell 6 (some 3),.t 7],b558,none,false⟩
class Zbb (T:Tbl):Prop where
 h544:Tr T 544=some row544
 h547:Tr T 547=some row547
 h558:Tr T 558=some row558
attribute [simp] Zbb.h544 Zbb.h547 Zbb.h558
end
section
def b189:AX:=QZ "0Otpw8Yz0l8sRpzOcPleDoVIiGYJnd3.2"
def b190:AX:=QZ "xvvpyHa_BWVqDKLvKfK_ciVLmbvt5WxmI.a45wrAVkcVBB0FPcIZ2EEEsvcp.NfwUbq7atIBodwZE"
def l181_0:AX:=QZ "07tbmrsiteWG0CjL0L6KlfWJ7F7kjb6tIEMOjr5LRdkRpA4iAR"
def b181:AX:=(fun p0=>QY [p0] [(AV.s [43,45,42,47,94,40,41,91,93,44,59,61])] "I8it5tOhgqRxYvoSxnAYALtemyXiFlMOQ.IH51Bq7T8dMezVnC3") l181_0
def b180:AX:=QZ "487LhKhYjoJFeHBQqvLfoxkW3vJqgvgy.NVKJhmgUVo1pqF7Lvx3XkiWWDlmr9x9an3J"
def b182:AX:=QZ "PC3zdVmQaG0AdWKYrLP6LfyZnu1LrSuONdRDvSXKFe"
def l168_0:AX:=QZ "2LjuUCGmF7OW6yhyZ4__KYw0gvU7VMuCc6k.ZTNRwB4YEdepe5kcnZ1cZKqfdx9jtwufBVtHYkK4tLniArkvgAuMSAFTaVZUFAgtw7LWcg0hxH80Ab7Ca1d28Bbt1KxhuYiKs9j0L03aTmyhXX30T_.c3V18Qkl_Lmqvm0HOxqqMxWoLyFCyMmBvLt65QCgsuTTWT1B82UTz2jRUOwMKXvpEGZafWJOh5pZ_xgM6hRq1VvBwHlxyH5hIOVM4TV4kttPuMAL3FErVGCbfj3W7nSIZAcfhKu0_shHny6DnMEPzwmrwyfQCYNJjqziAT7EJXkjSaxkFN3qSVPbfKDdiH5LBbSq1whbBoKa0zNYKVD7FNbhikD2lUrYB2kH3QpO1B6CedWjT_ds_jvygH_nQ1wmMXl0a61BPnS"
def b168:AX:=(fun p0=>QY [p0] [(AV.i .i64 (-1))] "xKFozPujkqfjFAPQzFzfzS2lZ0PH9WaYn9W1iBTBEAMmYM3omaTmrr7fb8x6HhKS5") l168_0
def b173:AX:=QZ "ZJfdCPP4ky46tMhWENHrZwH73nFPlvRkW0gYGK4nPDwzO6mrq9WIZf_oG5H6gKNmANDd4gemX00PxeOhpr7QLrlPSEF306a1e8iFfadXQKJ9mrnmTkS"
abbrev row189:AFx:=⟨1,9,[.t 2],b189,none,false⟩
abbrev row190:AFx:=⟨1,21,[.t 2],b190,none,false⟩
abbrev row181:AFx:=⟨1,20,[.t 2],b181,none,false⟩
abbrev row180:AFx:=⟨2,23,[.t 4],b180,none,false⟩
abbrev row182:AFx:=⟨1,7,[.t 2],b182,none,false⟩
abbrev row168:AFx:=⟨1,123,[.t 2,.t 3],b168,none,false⟩
abbrev row173:AFx:=⟨1,36,[.t 2],b173,none,false⟩
class Za7 (T:Tbl):Prop where
 h189:Tr T 189=some row189
 h190:Tr T 190=some row190
 h181:Tr T 181=some row181
 h180:Tr T 180=some row180
 h182:Tr T 182=some row182
 h168:Tr T 168=some row168
 h173:Tr T 173=some row173
attribute [simp] Za7.h189 Za7.h190 Za7.h181 Za7.h180 Za7.h182 Za7.h168 Za7.h173
end
section
def l528_0:AX:=QZ "3jTbV_42e3zsDn2c2_EFYSFVYDKwQJyFRLaYrMmP_myXk72uB.hh__DydOMdOfvw_6RJdZ_zQ"
def l528_1:AX:=QZ "0jVypFy6X3PF9mEbYfuNxsNYmdsHwxXK3VFkrQdtwNv105Qgla467TJDaJeGDgurpAjrYH7MV"
def b528:AX:=(fun p0 p1=>QY [p0,p1] [(AV.i .i64 (-2)),(AV.i .i64 (-1))] "1IQxeRI_WUVEhmQjET7Iem.OnnyPjXrDVk8A1EaPCGeYtf3G8aCibfAEJLcYuFzhH3X7K6t2cci8zWlaSx0b6bjnHPVVMUOc4SCDmDhxk03U9V3") l528_0 l528_1
def b538:AX:=QZ "c9Egf9NQ6SeSKMr2RvM_UlOWYEsL2cT"
def b539:AX:=(fun p0=>QY [p0] [] "0s_FLKBa4mV_H1q5SLDewAp9AyizdHMMsxGNoyWuJYD.fxpP.03z1nWrcI138BSbSDt9jse9bzOpV0") (QY [] [(AV.i .i64 (-8))] "tuBEkiFdu2L_xLLPDLV1xJ7dFrGnu8wr4v0lLCK6D5y9UaTyXhNtIsCFNJhfoxYvJecyHeumc2kQ0qMdXQU.lE.hqDlHbvxXqDrbFztHlZDaiPWHdf6a784Gqg2XRz3BQ7dLYr8rSOXuvQ1kBHRjiIRdCTEkODwDsyMNQShCngzyHH5ILDI9sU64Cz3kxA4Ut0MlfobFPCl1t6BrNE4YUrLYoNRvSHwIjUn0.FwA.u1eIu2xsJVVknJHNyURiDYnmRpRnFeMJM2ZO.r.PTH0ROO402ymv7v1BIFMnXk221ofTCF1esATrrR3CSMuce2iE6yam4E4mrWW0dNop1YuINP78rUKRz2XT3NfHzFj")
abbrev row528:AFx:=⟨1,70,[.t 2],b528,none,false⟩
abbrev row538:AFx:=⟨3,15,[.t 6],b538,none,false⟩
abbrev row539:AFx:=⟨4,125,[.t 8],b539,none,false⟩
class Zcg (T:Tbl):Prop where
 h528:Tr T 528=some row528
 h538:Tr T 538=some row538
 h539:Tr T 539=some row539
attribute [simp] Zcg.h528 Zcg.h538 Zcg.h539
end
section
def l529_0:AX:=QZ "9OBM1WtqUcSwUgTdK9OZ7yJjVJWPlZluHaMP9fZAapqfizX8Td8fUR"
def l529_1:AX:=QZ "2XeQUPibA4_IR7TZRuskMiYC.Uz3EkuFA.5.LfP5XAaePK06fjkjU"
def l529_2:AX:=QZ "b3me1YFK.25qZZxG4BWoNcYrW1LAlTEUmBHJ5B8arZxDmx4sPOYuAci5Uy1KIFIuhhUejR"
def b529:AX:=(fun p0 p1 p2=>QY [p0,p1,p2] [] "7nswdVd2cYhn9.19Hgoc6vk9bR1bVHIOVo5su.D001Rkl8PQAvoEMAezKKRMjIlTSW6HaRtPwcka3WmCPrtM1VCiRrnm1SH51A4u9PBNFGPDhHGfZp4ViRWHHqfEGPETpu2Al6c.bsmSY6Hf4GdXktJftNtlSCW7DIsZSniUCLsO6qYQJ.VlS6bQNO2QO5.ndxgOQ_7xiWqjATqbOb4SS1eSgBT79LK3zktke3H94wnshz7qF4iqwnPbcfzn4sb54pl0xWYzZywTVaFj4ehJbXB0KCb0xOkQcCoURACKuzYPxPNT3GqNLPdcgg9JgKZBWxeKqHtNkXya_H") l529_0 l529_1 l529_2
def l540_0:AX:=QZ "7QFkqTb0os22kmlA3yBUrMDQhztyWt7YAto0KeWRPFJOQZgdKJ9PF5j5LyY.Ye5b_SyQmWcOp1B3vgOb6fJw1tkuf2Q"
def b540:AX:=(fun p0=>QY [p0] [] "0TNnkvwHSleu81iBl") l540_0
def l541_0:AX:=QZ "0AMwiVlZgvbkCEOxVb.DYaGOR.4kXN8nuKvhZ3yjRL8qcfSPjR"
def b541:AX:=(fun p0=>QY [p0] [] "YhSw555AyhtMOzuVIjUoz2VaGXpRK0uC8p92s1Ifus1") l541_0
abbrev row529:AFx:=⟨1,123,[.t 2],b529,none,false⟩
abbrev row540:AFx:=⟨1,29,[.t 2],b540,none,false⟩
abbrev row541:AFx:=⟨1,19,[.cell 2 (some 3)],b541,none,false⟩
class Zc6 (T:Tbl):Prop where
 h529:Tr T 529=some row529
 h540:Tr T 540=some row540
 h541:Tr T 541=some row541
attribute [simp] Zc6.h529 Zc6.h540 Zc6.h541
end
section
def b508:AX:=QY [] [(AV.i .i64 (-1))] "0cppk3h6v.WG271A2cSKakQyWpjesVKnWMO_u8BVwYuVmZGixzwtBkk59DFfJy5ATcHiGaBM"
def b545:AX:=QZ "PR0oGby1x1n8XjgKqrujRpqznEUvMvov2SWve_4m8Awg"
abbrev row508:AFx:=⟨1,22,[.t 2],b508,none,false⟩
abbrev row545:AFx:=⟨3,13,[.cell 6 (some 5)],b545,none,false⟩
class Zdf (T:Tbl):Prop where
 h508:Tr T 508=some row508
 h545:Tr T 545=some row545
attribute [simp] Zdf.h508 Zdf.h545
end
section
def l530_0:AX:=QZ "0VxAZWf.pkH3qahqrM7TZiKL5HHINu3zPHwZ9xpznxtyDWVEFHzw_xFldvbNjyHDbeewbSdCIRQtdUAFecDtihJ4DfsL18EZaAGLnij1WPZnOw9rK9gYce6Mw4cJDdsild8aEqUBFxE7utmaUyLtHjmuj_j..C5fWqyUQmTwJUX6EY3fxa2ZRt_tRIMjuXmkwEMwIhPpXmaDtaQn2qxu5T_cLPyzOMoNPGaod2d2e_zgZeDKBfjmdYHdL6GrypNnAvVBCpGYXDlK5Qb8oxSVCzYFYnbtD8PvU"
def b530:AX:=(fun p0=>QY [p0] [] "HqdxEIzqJ34PPI9Gp5ENhWd_ukirwL2f0YEL1FCCEKxpCEUkoRH1rCPOVv0DVfzA7UjcVQGajb.8HxTFDNNemL3RZU5RjCRc2iYbICz7ZBNKjw8AuSay01H0HRBnEyHJo.0V9ECEax5df_OC83IL08O4pPo32C8dEDInxFwIyOtYtfX1d030TCvZ.ENF1eixfItcYCmAllXFnps0d7GCmQdKYBXpBhVT9F6Orxyp6a0tTNNZDIZQ8p6Y49Giqkbt6ZhJAuTbZjKv_EMOO5U7hqM.F024yvGJr_5UeWsCnHbrtIEHaeojDd8ckP_kwOgyEsUIvffE9Yp.AVvF1") l530_0
def l542_0:AX:=QZ "C1gYGQ_N5fDtMJVgQtqZ2iRzBgdeRXTkBbXOcyIEwQ7.WoQgTxZ9opJqfilSQYLCGO4x8gndvYV"
def b542:AX:=(fun p0=>QY [p0] [] "0SCo1keO9KB5u4TrwDNiBzYy8NWPtW_ukFC") l542_0
def l543_0:AX:=QZ "0gsSpjObzN4LmQbZWVwTncJ3HoPmc4yPHIA2z8j7xRm_tpofoBefzHjR"
def b543:AX:=(fun p0=>QY [p0] [] "Nh8AudZy22.77Z32hea.MwtN1") l543_0
def b546:AX:=QZ "2FgbdHJamTygtBwGSE2XQnqdFeZYBA93gS56tRzA.6LJwcccx"
def l548_0:AX:=QZ "01gbYDb_NFy1FvOGQ4XXKusTGmCNt8mcJVItM6VfahNZfcmE9hPl72nqNpMGUKHzYL780oRAHsQOydByhmBamRBEMVhVrV"
def b548:AX:=(fun p0=>QY [p0] [] "e7sumNlKJwno.BaaiJkqAw_1HgN3w") l548_0
def l557_0:AX:=QZ "kbywUOYS3ROYqAxWOJsrVfFhpyYC_Z7rbWzjB.NEd98GR8QSK3jkW2_d8qrwsG2sDde6WWEioztx9_qS2bzp4YT"
def b557:AX:=(fun p0=>QY [p0] [] "0B4a4Zhj0Opi2IPPFQk0HsfXJEWhPyBCuBWaeJZVYtp5WlQtZGE4DM4.xoR") l557_0
abbrev row530:AFx:=⟨4,150,[.cell 8 (some 4),.cell 9 (some 3)],b530,none,false⟩
abbrev row542:AFx:=⟨4,31,[.t 8],b542,none,false⟩
abbrev row543:AFx:=⟨2,22,[.t 4],b543,none,false⟩
abbrev row546:AFx:=⟨4,19,[.cell 8 (some 3)],b546,none,false⟩
abbrev row548:AFx:=⟨1,34,[.t 2],b548,none,false⟩
abbrev row557:AFx:=⟨4,41,[.cell 8 (some 3)],b557,none,false⟩
class Z1 (T:Tbl):Prop where
 h530:Tr T 530=some row530
 h542:Tr T 542=some row542
 h543:Tr T 543=some row543
 h546:Tr T 546=some row546
 h548:Tr T 548=some row548
 h557:Tr T 557=some row557
attribute [simp] Z1.h530 Z1.h542 Z1.h543 Z1.h546 Z1.h548 Z1.h557
end
section
def l522_0:AX:=QZ "2sdCxc.vEkcb4V0jD9vec.L0UChQ382FXwMjI4eaIL.JkMIDNStPM7mvXKJGXRfQnzxsgSBi3yQKtgwmXDyvJZZ.Qe8j2zHcBj2i9nLfvL_MV"
def b522:AX:=(fun p0=>QY [p0] [] "DNbeI6FdqjVePEI8i6GDH.xlMZ_KX1LXRnj6kQeotPOWb3Ua6HnGpXqUHGcPafUO.fiH4lubj1lt3") l522_0
abbrev row522:AFx:=⟨1,48,[.t 2,.t 3],b522,none,false⟩
class Zgn (T:Tbl):Prop where
 h522:Tr T 522=some row522
attribute [simp] Zgn.h522
end
section
def l502_0:AX:=QZ "HkNQ6p8OTQ4L_B7v6WrtF2121X3yhEMNv57jUb9VAuihGzwqKSEBoFh_JfLGO7i1yixJG50ntEOmtqjAKF62rdRcqNmFPWeXTE1X3Oem5YhfIXm7rgieoHCnEJWmE6ljeBso01wqTJ4LahakOAuS6n9Lr1Vt3INHw.lvOGxMq4c5C8sFLpi2eOn.dhgEFFGiPPPjT"
def b502:AX:=(fun p0=>QY [p0] [] "79.tNanq8G4E_w612iRtt60_R_9ijZD9QvP_OAPp5WtNBdNZumcf.RfJJ9J1blbNxZeEgdLydyPsozHyAl3") l502_0
def l521_0:AX:=QZ "1Ng3nUBGz1CgFHbh7EleBrky_szoo8t_JwfwcKW38lcIrz7OHIgB1_X_Ve6m5HoQhfGDXCDW6xMKrR"
def b521:AX:=(fun p0=>QY [p0] [] "Xgxn.PFStqrGPFzda5cdRGv7foLBg") l521_0
abbrev row502:AFx:=⟨1,53,[.cell 2 (some 5)],b502,none,false⟩
abbrev row521:AFx:=⟨1,28,[.t 2],b521,none,false⟩
class Zdn (T:Tbl):Prop where
 h502:Tr T 502=some row502
 h521:Tr T 521=some row521
attribute [simp] Zdn.h502 Zdn.h521
end
section
def l501_0:AX:=QZ "LWEvD7tEO7FrRJukdoYcz3SKDHE6nucbofG9eKQdPL0005M8YnRKxGMLEx9y5HVRZCTte2ebB8CwHNleFpHZ_RPFq01wPzV"
def b501:AX:=(fun p0=>QY [p0] [] "VYMu2V.sK3JpfAyjDkPyXzaWdUGuGOEL4P3o9jeVZFNBxlf6gAbLe19hnU.K.qQpF5LW1thEPoT3YLsOzCAROMolRRU05rB6LswxCQp4MliK9XZWufPLEAwDaqvC.") l501_0
def l505_0:AX:=QZ "7ZdJLnxDkU4V4AdvHTvkl38P3ufUIQRIn18GK.nQHXHyFqCoTW4zBDN_YQ"
def b505:AX:=(fun p0=>QY [p0] [] "J591j8FOKxv3kQz5qNPW576wboRUpLqNmEIxQ8KK_2SZpKuZgh2S1SeoRI5Gj4a9QTW267p4hLhu71MCaEacoPh3Tb.AMjT1LvhzDFKbbjKn4GaoQSGdc5UwMFkoW2") l505_0
def l509_0:AX:=QZ "6oKYtBX2yjnAFcgk9_NWCYrEDVUDHyoG4mt6L5mPdPA5YBqQiIhPTJxYPKIuzvWJgz15fNnLLZZp06HtZgDjGThr9xYeWmdFpIRHZGVxs6j7fIlnA4UyfBwSbboSLhniTszoLJ88jDeaqpYx7jvhY7ITU.0VKqotF69waAu8A0tkOUNTOVXhC2RLP8R6ECGm5RcdZLoWjMQMf5uSsaX0Gc5Egv9QI2R"
def b509:AX:=(fun p0=>QY [p0] [] "88MUhQKpiUnfY_qFTerXqgbyEX9rNTaUfvgUp8Di6TCzjD44w2pk_pzOSgFV3vyrBt.0PuffaDeiWEchfxnG5I8VzaGAqyBno7g_SU8gHMjKpqOCxKfD3sP3OPMY2HaO4.hT1y8EAWSg.") l509_0
def b520:AX:=QZ "2_I06rQSYJ_Pvq_jKBtz7E"
def l523_0:AX:=QZ "WCna6QVT29LPZEllGYCd4.UpyHA8MlW.57O89wCGqJa3cg5NsLuV3FuBNVF376PaSpnpSnR"
def b523:AX:=(fun p0=>QY [p0] [] "0ArLJwqKVo2Fidjrl3dYx0ZQe8XjVq") l523_0
abbrev row501:AFx:=⟨2,56,[.cell 4 (some 4)],b501,none,false⟩
abbrev row505:AFx:=⟨1,55,[.t 2],b505,none,false⟩
abbrev row509:AFx:=⟨4,82,[.t 8,.cell 9 (some 4)],b509,none,false⟩
abbrev row520:AFx:=⟨1,6,[.t 2],b520,none,false⟩
abbrev row523:AFx:=⟨2,26,[.t 4],b523,none,false⟩
class Zaz (T:Tbl):Prop where
 h501:Tr T 501=some row501
 h505:Tr T 505=some row505
 h509:Tr T 509=some row509
 h520:Tr T 520=some row520
 h523:Tr T 523=some row523
attribute [simp] Zaz.h501 Zaz.h505 Zaz.h509 Zaz.h520 Zaz.h523
end
section
open Go.RowKit
def opU:AOp->List Nat
 | .call u _=>[u]
 | .ifc k _=>[1000000+k]
 | .inv _ k u _ _=>[1000000+k,u]
 | .xop (.mkf k) _ | .xop (.mkv k) _=>[1000000+k]
 | _=>[]
def cXs:AX->List Nat
 | .reg l=>l.flatMap fun o=>opU o.op
 | .draw l=>l.flatMap fun o=>opU o.ao.op
 | .drawT hd tl=>(hd.flatMap fun o=>opU o.op)++tl.flatMap fun o=>opU o.op
 | .drawM hd tl=>(hd.flatMap fun o=>opU o.op)++tl.flatMap fun o=>opU o.op
 | .drawC l1 o l2 tl=>(l1.flatMap fun o=>opU o.op)++(opU o.op++((l2.flatMap fun o=>opU o.op)++tl.flatMap fun o=>opU o.op))
 | .drawN l1 o l2=>(l1.flatMap fun o=>opU o.ao.op)++(opU o.op++l2.flatMap fun o=>opU o.ao.op)
 | .drawR hd tl=>(hd.flatMap fun o=>opU o.op)++tl.flatMap fun o=>opU o.op
 | .drawP l1 o l2 _ _ _ _ _=>(l1.flatMap fun o=>opU o.ao.op)++(opU o.op++l2.flatMap fun o=>opU o.ao.op)
 | .seq a b=>cXs a++cXs b
 | .cond _ x y=>cXs x++cXs y
 | .block _ c | .loop c | .note c _ | .pre _ c | .scope c | .lp _ _ c _=>cXs c
 | .gsc _ c r=>cXs c++cXs r
 | _=>[]
structure Agr (R:Nat->Bool) (T T':Tbl) (O O':Orc):Prop where
 tbl:∀u,R u=true->T u=T' u
 call:∀u xs hb,R u=true->O.call u xs hb=O'.call u xs hb
 loop:∀k c st,(∀u∈cXs c,R u=true)->O.loop k c st=O'.loop k c st
section
variable{R:Nat->Bool}{T T':Tbl}{O O':Orc}
theorem zjf(h:Agr R T T' O O'){u:Nat}(hu:R u=true){xs:List AV}{d:Option Nat}{st:St}:Zbx O T u xs d st=Zbx O' T' u xs d st:=by
 unfold Zbx;rw[h.tbl u hu];simp only[h.call u _ _ hu]
def z6x(h:Agr R T T' O O'){op:AOp}(hu:∀u∈opU op,R u=true){d:Option Nat}{st:St}:opX O T op d st=opX O' T' op d st:=by
 cases op<;>simp only[opX]
 case call u args=>exact zjf h (hu _ (by simp[opU]))
 case ifc k x=>unfold Zf;rw[h.tbl _ (hu _ (by simp[opU]))]
 case inv nm k u r args=>
  have e1:Zf T k=Zf T' k:=by unfold Zf;rw[h.tbl _ (hu _ (by simp[opU]))]
  have e2:Za3 T k=Za3 T' k:=by unfold Za3;rw[h.tbl _ (hu _ (by simp[opU]))]
  have e3:Zio T k=Zio T' k:=by unfold Zio;rw[h.tbl _ (hu _ (by simp[opU]))]
  grind[zjf,opU]
 case xop k xs=>
  cases k<;>simp only
  all_goals rename_i k
  all_goals
   have e1:Zf T k=Zf T' k:=by unfold Zf;rw[h.tbl _ (hu _ (by simp[opU]))]
   rw[e1]
def zxx(h:Agr R T T' O O'){o:AO}(hu:∀u∈opU o.op,R u=true){st:St}:Zie O T o st=Zie O' T' o st:=by
 unfold Zie gX;simp only[z6x h hu]
theorem zfo(h:Agr R T T' O O'):∀(l:List AO),(∀o∈l,∀u∈opU o.op,R u=true)->∀st,Zey O T l st=Zey O' T' l st
 | [],_,st=>rfl
 | o::l,hu,st=>by
  simp only[Zey];rw[zxx h (hu o Yu)];congr 1
  funext s
  exact zfo h l (fun o ho=>hu o (Yn _ ho)) s
def z6y(h:Agr R T T' O O'){op:AOp}(hu:∀u∈opU op,R u=true){e:Env}{hp:Heap}{older:List Heap}:opD O T op e hp older=opD O' T' op e hp older:=by
 by_cases hap:∃z x0 y,op=.app z x0 y
 ·obtain⟨z,x0,y,rfl⟩:=hap;by_cases hc:x0=.c (.sl [] .nl)
  ·subst hc;rfl
  ·rw[zq0 hc,zq0 hc]
 cases op<;>(try exact absurd ⟨_,_,_,rfl⟩ hap)<;>simp only[opD]
 case call u args=>
  rw[h.tbl _ (hu _ (by simp[opU]))];simp only[h.call _ _ _ (hu _ (show u∈_ by simp[opU]))]
 case ifc k x=>unfold Zf;rw[h.tbl _ (hu _ (by simp[opU]))]
 case inv nm k u r args=>
  have e1:Zf T k=Zf T' k:=by unfold Zf;rw[h.tbl _ (hu _ (by simp[opU]))]
  have e2:Za3 T k=Za3 T' k:=by unfold Za3;rw[h.tbl _ (hu _ (by simp[opU]))]
  rw[e1,e2,h.tbl u (hu u (by simp[opU]))];simp only[h.call u _ _ (hu u (by simp[opU]))]
def zjg(h:Agr R T T' O O'){o:AO}(hu:∀u∈opU o.op,R u=true){e:Env}{hp:Heap}{older:List Heap}:qX O T o e hp older=qX O' T' o e hp older:=by
 unfold qX;simp only[z6y h hu]
def zoo(h:Agr R T T' O O'){u:Nat}(hu:R u=true){ys:List AV}:Zee O T u ys=Zee O' T' u ys:=by
 unfold Zee;rw[h.tbl u hu];simp only[h.call u _ _ hu]
theorem zjh(h:Agr R T T' O O'):∀(l:List DO),(∀o∈l,∀u∈opU o.ao.op,R u=true)->∀e hp clk older pend,Zci O T l e hp clk older pend=Zci O' T' l e hp clk older pend
 | [],_,e,hp,clk,older,pend=>rfl
 | o::l,hu,e,hp,clk,older,pend=>by
  have ih:=zjh h l (fun o ho=>hu o (Yn _ ho));simp only[Zci];rw[zjg h (hu o Yu)];simp only[ih];cases o.ao.op.writes with
  | true=>rfl
  | false=>
   cases hrow:Zhd o.ao.guard o.ao.op.callN e hp (older.take (older.length-o.lo)) with
   | none=>rfl
   | some p=>
    obtain⟨_,args,hop,_⟩:=zgw hrow;have hp:R p.1=true:=hu o Yu _ (by rw[hop];simp[opU]);simp only[zoo h hp]
theorem zop(h:Agr R T T' O O')(tl:List AO)(ht:∀o∈tl,∀u∈opU o.op,R u=true):∀(l:List AO),(∀o∈l,∀u∈opU o.op,R u=true)->∀e hp clk,Zdi O T tl l e hp clk=Zdi O' T' tl l e hp clk
 | [],_,e,hp,clk=>zfo h tl ht _
 | o::l,hu,e,hp,clk=>by
  have ih:=zop h tl ht l (fun o ho=>hu o (Yn _ ho));simp only[Zdi];rw[zjg h (hu o Yu)];simp only[ih];cases hrow:Zhd o.guard o.op.callN e hp []with
  | none=>rfl
  | some p=>
   obtain⟨_,args,hop,_⟩:=zgw hrow;have hp:R p.1=true:=hu o Yu _ (by rw[hop];simp[opU]);simp only[zoo h hp]
theorem zoq(h:Agr R T T' O O')(tl:List AO)(ht:∀o∈tl,∀u∈opU o.op,R u=true):∀(l:List AO),(∀o∈l,∀u∈opU o.op,R u=true)->∀e hp clk,Zfp O T tl l e hp clk=Zfp O' T' tl l e hp clk
 | [],_,e,hp,clk=>zfo h tl ht _
 | o::l,hu,e,hp,clk=>by
  have ih:=zoq h tl ht l (fun o ho=>hu o (Yn _ ho));simp only[Zfp];rw[zjg h (hu o Yu)];simp only[ih]
def zxy(h:Agr R T T' O O'){u:Nat}(hu:R u=true){xs:List AV}{d clk:Nat}:Zg6 O T u xs d clk=Zg6 O' T' u xs d clk:=by
 unfold Zg6;rw[h.tbl u hu];simp only[h.call u _ _ hu]
theorem zor(h:Agr R T T' O O')(tl:List AO)(ht:∀o∈tl,∀u∈opU o.op,R u=true)(h0:Heap)(c0:Nat)(X:Heap):∀(l:List AO),(∀o∈l,∀u∈opU o.op,R u=true)->∀e hp clk,Zbo O T tl h0 c0 X l e hp clk=Zbo O' T' tl h0 c0 X l e hp clk
 | [],_,e,hp,clk=>zfo h tl ht _
 | o::l,hu,e,hp,clk=>by
  have ih:=zor h tl ht h0 c0 X l (fun o ho=>hu o (Yn _ ho));simp only[Zbo];rw[zjg h (hu o Yu)];simp only[ih];cases hm:o.op.maker with
  | true=>rfl
  | false=>
   cases hst:o.op.isStore with
   | true=>rfl
   | false=>
   cases hl:o.op.lentN with
   | none=>rfl
   | some ua=>
    have hua:R ua.1=true:=hu o Yu _ (by rw[zlq hl];simp[opU]);simp only[zxy h hua]
theorem zij(h:Agr R T T' O O'){K K':Env->Zay->Option St}(hK:∀e pend,K e pend=K' e pend)(hp:Heap):∀(l:List DO),(∀o∈l,∀u∈opU o.ao.op,R u=true)->∀e pend,Zer O T K hp l e pend=Zer O' T' K' hp l e pend
 | [],_,e,pend=>hK e pend
 | o::l,hu,e,pend=>by
  have ih:=zij h hK hp l (fun o ho=>hu o (Yn _ ho));simp only[Zer];rw[zjg h (hu o Yu)];simp only[ih]
theorem zos(h:Agr R T T' O O'){K K':Env->Option St}(hK:∀e,K e=K' e)(h0 h1:Heap):∀(l:List AO),(∀o∈l,∀u∈opU o.op,R u=true)->∀e,Zd2 O T K h0 h1 l e=Zd2 O' T' K' h0 h1 l e
 | [],_,e=>hK e
 | o::l,hu,e=>by
  have ih:=zos h hK h0 h1 l (fun o ho=>hu o (Yn _ ho));simp only[Zd2];rw[zjg h (hu o Yu)];simp only[ih]
def zji(h:Agr R T T' O O'){o:AO}(hu:∀u∈opU o.op,R u=true){st:St}:Zf6 O T o st=Zf6 O' T' o st:=by
 obtain⟨d,g,op⟩:=o;cases op
 case call u args=>
  cases g<;>cases d<;>simp only[Zf6];exact zjf h (hu u (by simp[opU]))
 all_goals cases g<;>cases d<;>rfl
def zxz(h:Agr R T T' O O')(l1:List AO)(o:AO)(l2 tl:List AO)(hu:∀u∈cXs (.drawC l1 o l2 tl),R u=true)(st:St):Zig O T l1 o l2 tl st=Zig O' T' l1 o l2 tl st:=by
 have u1:∀o∈l1,∀u∈opU o.op,R u=true:=fun o ho u hou=>hu u (Y5 _ (Yai.2 ⟨o,ho,hou⟩));have u2:∀u∈opU o.op,R u=true:=fun u hou=>hu u (Y2 _ (Y5 _ hou));have u3:∀o∈l2,∀u∈opU o.op,R u=true:=fun o ho u hou=>hu u (Y2 _ (Y2 _ (Y5 _ (Yai.2 ⟨o,ho,hou⟩))));have u4:∀o∈tl,∀u∈opU o.op,R u=true:=fun o ho u hou=>hu u (Y2 _ (Y2 _ (Y2 _ (Yai.2 ⟨o,ho,hou⟩))));unfold Zig;refine zij h (fun e pend=>?_) _ _ (fun o ho=>?_) _ _
 ·rw[zji h u2];congr 1
  funext s
  rw[zos h (fun e=>zfo h tl u4 _) _ _ l2 u3]
 ·obtain⟨o',ho',rfl⟩:=Yl.1 ho;exact u1 o' ho'
def zx0(h:Agr R T T' O O')(l1:List DO)(o:AO)(l2:List DO)(hu:∀u∈cXs (.drawN l1 o l2),R u=true)(st:St):Zih O T l1 o l2 st=Zih O' T' l1 o l2 st:=by
 have u1:∀o∈l1,∀u∈opU o.ao.op,R u=true:=fun o ho u hou=>hu u (Y5 _ (Yai.2 ⟨o,ho,hou⟩));have u2:∀u∈opU o.op,R u=true:=fun u hou=>hu u (Y2 _ (Y5 _ hou));have u3:∀o∈l2,∀u∈opU o.ao.op,R u=true:=fun o ho u hou=>hu u (Y2 _ (Y2 _ (Yai.2 ⟨o,ho,hou⟩)));unfold Zih;congr 1;refine zij h (fun e pend=>?_) _ _ (fun o ho=>?_) _ _
 ·rw[zji h u2];congr 1
  funext s
  rw[zjh h _ fun o ho=>?_];obtain⟨o',ho',rfl⟩:=Yl.1 ho;exact u3 o' ho'
 ·obtain⟨o',ho',rfl⟩:=Yl.1 ho;exact u1 o' ho'
theorem zot(h:Agr R T T' O O'){K K':Env->Option St}(hK:∀e,K e=K' e)(hs:List Heap)(h1:Heap):∀(l:List AO),(∀o∈l,∀u∈opU o.op,R u=true)->∀e,Zes O T K hs h1 l e=Zes O' T' K' hs h1 l e
 | [],_,e=>hK e
 | o::l,hu,e=>by
  have ih:=zot h hK hs h1 l (fun o ho=>hu o (Yn _ ho));simp only[Zes];rw[zjg h (hu o Yu)];simp only[ih]
def zx1(h:Agr R T T' O O')(l1:List DO)(o:AO)(l2:List DO)(da:Nat)(cs:List AV)(n:Nat)(xs vs:Opd)(hu:∀u∈cXs (.drawP l1 o l2 da cs n xs vs),R u=true)(st:St):Zg7 O T l1 o l2 da cs n xs vs st=Zg7 O' T' l1 o l2 da cs n xs vs st:=by
 have u1:∀o∈l1,∀u∈opU o.ao.op,R u=true:=fun o ho u hou=>hu u (Y5 _ (Yai.2 ⟨o,ho,hou⟩));have u2:∀u∈opU o.op,R u=true:=fun u hou=>hu u (Y2 _ (Y5 _ hou));have u3:∀o∈l2,∀u∈opU o.ao.op,R u=true:=fun o ho u hou=>hu u (Y2 _ (Y2 _ (Yai.2 ⟨o,ho,hou⟩)));unfold Zg7;congr 1;refine zij h (fun e pend=>?_) _ _ (fun o ho=>?_) _ _
 ·simp only[zji h u2];congr 1
  funext s1
  congr 1
  funext s2
  rw[zot h (fun e=>rfl) _ _ _ fun o ho=>?_];obtain⟨o',ho',rfl⟩:=Yl.1 ho;exact u3 o' ho'
 ·obtain⟨o',ho',rfl⟩:=Yl.1 ho;exact u1 o' ho'
theorem zct(h:Agr R T T' O O')(k:Nat):∀(c:AX),(∀u∈cXs c,R u=true)->∀st,evX O T k c st=evX O' T' k c st
 | .skip,_,st=>rfl
 | .reg l,hu,st=>by
  simp only[evX];rw[zfo h l fun o ho u hou=>hu u (Yai.2 ⟨o,ho,hou⟩)]
 | .draw l,hu,st=>by
  simp only[evX];rw[zjh h l fun o ho u hou=>hu u (Yai.2 ⟨o,ho,hou⟩)]
 | .drawT hd tl,hu,st=>by
  simp only[evX];rw[zoq h tl (fun o ho u hou=>hu u (Y2 _ (Yai.2 ⟨o,ho,hou⟩))) hd (fun o ho u hou=>hu u (Y5 _ (Yai.2 ⟨o,ho,hou⟩)))]
 | .drawM hd tl,hu,st=>by
  simp only[evX];rw[zor h tl (fun o ho u hou=>hu u (Y2 _ (Yai.2 ⟨o,ho,hou⟩))) _ _ _ hd (fun o ho u hou=>hu u (Y5 _ (Yai.2 ⟨o,ho,hou⟩)))]
 | .drawC l1 o l2 tl,hu,st=>by
  simp only[evX];rw[zxz h l1 o l2 tl hu]
 | .drawN l1 o l2,hu,st=>by
  simp only[evX];rw[zx0 h l1 o l2 hu]
 | .drawR hd tl,hu,st=>by
  simp only[evX];rw[zop h tl (fun o ho u hou=>hu u (Y2 _ (Yai.2 ⟨o,ho,hou⟩))) hd (fun o ho u hou=>hu u (Y5 _ (Yai.2 ⟨o,ho,hou⟩)))]
 | .drawP l1 o l2 da cs n xs vs,hu,st=>by
  simp only[evX];rw[zx1 h l1 o l2 da cs n xs vs hu]
 | .bad,_,st=>rfl
 | .prim f,_,st=>rfl
 | .seq a b,hu,st=>by
  simp only[evX];rw[zct h k a fun u hm=>hu u (Y5 _ hm)];congr 1
  funext r
  rw[zct h k b fun u hm=>hu u (Y2 _ hm)]
 | .cond c x y,hu,st=>by
  simp only[evX];rw[zct h k x fun u hm=>hu u (Y5 _ hm),zct h k y fun u hm=>hu u (Y2 _ hm)]
 | .block id c,hu,st=>by
  simp only[evX];rw[zct h k c hu]
 | .loop c,hu,st=>h.loop k c st hu
 | .exit id,_,st=>rfl
 | .ret,_,st=>rfl
 | .note c g,hu,st=>by
  simp only[evX];rw[zct h k c hu]
 | .pre g c,hu,st=>by
  simp only[evX];congr 1
  funext s
  exact zct h k c hu s
 | .scope c,hu,st=>by
  simp only[evX];rw[zct h k c hu]
 | .label _,_,st=>rfl
 | .goto _,_,st=>rfl
 | .gsc l c r,hu,st=>by
  simp only[evX];rw[zct h k c fun u hm=>hu u (Y5 _ hm)];congr 1
  funext s
  exact zct h k r (fun u hm=>hu u (Y2 _ hm)) s
 | .lp id g c g2,hu,st=>by
  simp only[evX,h.loop k c _ hu]
def zx2(hc:∀u af,R u=true->T u=some af->∀v∈cXs af.body,R v=true)(h:Agr R T T' O O'):Agr R T T' (Zef T O) (Zef T' O') where
 tbl:=h.tbl
 call u xs hb hu:=by
  simp only[Zef];rw[<-h.tbl u hu];cases ht:T u with
  | none=>rfl
  | some af=>
   grind[zct]
 loop k c st hu:=by
  simp only[Zef];rw[zct h k c hu];congr 1
  funext r
  rw[h.loop k c _ hu]
theorem zmw(ht:∀u,R u=true->T u=T' u)(hc:∀u af,R u=true->T u=some af->∀v∈cXs af.body,R v=true):∀n,Agr R T T' (orcN T n) (orcN T' n)
 | 0=>⟨ht,fun _ _ _ _=>rfl,fun _ _ _ _=>rfl⟩
 | n+1=>zx2 hc (zmw ht hc n)
def z6z(ht:∀u,R u=true->T u=T' u)(hc:∀u af,R u=true->T u=some af->∀v∈cXs af.body,R v=true):Agr R T T' (orc T) (orc T'):=by
 refine⟨ht,fun u xs hb hu=>?_,fun k c st hu=>?_⟩
 ·simp only[orc];congr 1
  funext n
  exact(zmw ht hc n).call u xs hb hu
 ·simp only[orc];congr 1
  funext n
  exact(zmw ht hc n).loop k c st hu
end
def zeo{l:List (Nat×AFx)}{u:Nat}{af:AFx}(h:l.lookup u=some af):(u,af)∈l:=by
 induction l with
 | nil=>cases h
 | cons q l ih=>
  grind
structure Part (l l':List (Nat×AFx)):Prop where
 sub:∀p∈l',l.lookup p.1=some p.2
 clo:(l'.all fun p=>(cXs p.2.body).all fun v=>(l'.lookup v).isSome || (l.lookup v).isNone)=true
def Part.agr{l l':List (Nat×AFx)}(h:Part l l'):Agr (fun u=>(l'.lookup u).isSome || (l.lookup u).isNone) (fun u=>l.lookup u) (fun u=>l'.lookup u) (orc fun u=>l.lookup u) (orc fun u=>l'.lookup u):=by
 refine z6z (fun v hv=>?_) (fun v a hv hva w hw=>?_)
 ·cases hv2:l'.lookup v with
  | none=>
   cases hv3:l.lookup v with
   | none=>rfl
   | some a=>grind
  | some a=>exact h.sub _ (zeo hv2)
 ·cases hv2:l'.lookup v with
  | none=>grind
  | some b=>
   have hb:=zeo hv2;have h1:=h.sub _ hb;rw[hva]at h1;cases h1;exact Yo.1 (Yo.1 h.clo _ hb) w hw
def Part.ev{l l':List (Nat×AFx)}(h:Part l l'){c:AX}(hc:((cXs c).all fun v=>(l'.lookup v).isSome)=true){st:St}{r:Option (Ex×St)}
  (he:evX (orc fun u=>l.lookup u) (fun u=>l.lookup u) 0 c st=r):evX (orc fun u=>l'.lookup u) (fun u=>l'.lookup u) 0 c st=r:=by
 rw[<-zct h.agr 0 c (fun v hv=>by grind) st];omega
def Part.call{l l':List (Nat×AFx)}(h:Part l l'){u:Nat}(hu:(l'.lookup u).isSome=true){xs:List AV}{r:Option AV}(he:Za (fun u=>l.lookup u) u xs=r):Za (fun u=>l'.lookup u) u xs=r:=by
 rw[<-he];unfold Za;rw[h.agr.call u xs [] (by grind)]
end
end Go.Ab