/-
  A calculus of values, boxes and code, and what functions of the program compute, proved in it.
  Conditions: none beyond those that the theorems state. (Part 4.)
-/
import Derived.Test.YtpkknnhpfhpbdaaGreatPart3

set_option linter.unusedSectionVars false
set_option linter.unusedVariables false
set_option linter.unusedSimpArgs false
set_option linter.unnecessarySimpa false
set_option linter.defProp false
set_option maxRecDepth 100000

namespace Go.Ab
def zp5(w:Nat):4294967296^w=2^(32*w):=by
 rw[Yfj]
def zp6(a:List UInt32)(w:Nat)(h:w<=a.length):val a=val (a.take w)+4294967296^w*val (a.drop w):=by
 have:=zaj (a.take w) (a.drop w);rw[Ybb,Y3,Yb3 h]at this;exact this
def z1s(a:List UInt32)(w:Nat)(h:w<=a.length):val a/4294967296^w=val (a.drop w):=by
 have hp:0<4294967296^w:=Ybe (by decide);have hlt:=za3 (a.take w);rw[Y3,Yb3 h]at hlt;rw[zp6 a w h,Yb6 _ _ hp,Ya3 hlt,Yap]
def z1t{a:List UInt32}{i:Nat}{x:UInt32}(h:a[i/32]? = some x):val a/2^i%2=x.toNat/2^(i%32)%2:=by
 have hlt:i/32<a.length:=by
  rcases Yy (i/32) a.length with h1 | h1
  ·exact h1
  ·rw[Yc1 h1]at h;cases h
 have e:2^i=4294967296^(i/32)*2^(i%32):=by
  rw[zp5,<-Ybu];congr 1;omega
 rw[e,<-Yby,z1s a _ (by omega)];have hx:a[i/32]'hlt=x:=by rw[Yb hlt]at h;cases h;rfl
 rw[Yg hlt,hx,zao];generalize val (a.drop (i/32+1))=r;have hb:i%32<32:=Ya5 _ (by decide);generalize i%32=b at *
 have e2:4294967296*r=2^b*(2^(32-b-1)*2*r):=by
  rw[<-Yan,<-Yal,<-Ybu,show b+(32-b-1+1)=32 by omega]
 rw[e2,Yb6 _ _ (Ybe (by decide)),Nat.mul_right_comm,Yeb]
def zp7{n k:Nat}(h:n<2^(k+1))(hb:n/2^k%2=0):n<2^k:=by
 have hp:0<2^k:=Ybe (by decide);rw[Yan]at h;have h1:n/2^k<2:=Ycj h;have h2:n/2^k=0:=by
  generalize n/2^k=q at *
  omega
 rcases Yy n (2^k) with h3 | h3
 ·exact h3
 ·have:=Yfh h3 hp;omega
def z6c{a b n:Nat}(h:a<2^n):a ||| 2^n*b=a+2^n*b:=by
 rw[Nat.or_comm,<-Ycz h,Yba]
def z9y{x c n:Nat}(hx:x<4294967296)(hn:n<32)(hc:c<2^n) :
  x*2^n<18446744073709551616/\(c ||| x*2^n%4294967296)=c+x*2^n%4294967296/\c+x*2^n%4294967296<4294967296/\x*2^n/4294967296<2^n/\2^n<4294967296:=by
 have hp:2^(n+(32-n))=4294967296:=by rw[show n+(32-n)=32 by omega]
 rw[Ybu]at hp;have hq:0<2^n:=Ybe (by decide);have hr:1<2^(32-n):=Nat.one_lt_two_pow (by omega);have e1:x*2^n%4294967296=2^n*(x%2^(32-n)):=by rw[<-hp,Yaw x,Nat.mul_mod_mul_left]
 have e2:=z6c (b:=x%2^(32-n)) hc;rw[<-e1]at e2;have hlt:2^n<4294967296:=by
  have h1:=Yaq (2^n) (show 2<=2^(32-n) from hr);rw[hp]at h1;omega
 refine⟨?_,e2,?_,?_,hlt⟩
 ·have:=Nat.mul_lt_mul'' hx hlt;simpa using this
 ·rw[e1];have h1:x%2^(32-n)+1<=2^(32-n):=Ya5 _ (by omega);have h2:=Yaq (2^n) h1;rw[hp,Yas,Yd4]at h2;omega
 ·exact Ycj (by rw[Yaw x];rw[Yaw 4294967296];exact Nat.mul_lt_mul_of_pos_left hx hq)
def zp8{x y R b:Nat}(hb:b<32)(hx:x<4294967296) :
  (x+4294967296*(y+4294967296*R))/2^b=(x+y*4294967296)/2^b%4294967296+4294967296*((y+4294967296*R)/2^b):=by
 have hq:0<2^b:=Ybe (by decide);have h1:(x+4294967296*(y+4294967296*R))/4294967296=y+4294967296*R:=by omega
 have h2:(x+4294967296*(y+4294967296*R))/2^b/4294967296=(y+4294967296*R)/2^b:=by
  rw[Yby,Yaw (2^b),<-Yby,h1]
 have hp:2^b*2^(32-b)=4294967296:=by rw[<-Ybu,show b+(32-b)=32 by omega]
 have h3:x+4294967296*(y+4294967296*R)=(x+y*4294967296)+2^b*(4294967296*(2^(32-b)*R)):=by
  have:2^b*(4294967296*(2^(32-b)*R))=4294967296*(4294967296*R):=by
   rw[Nat.mul_left_comm,<-Yal (2^b),hp]
  omega
 have h4:(x+4294967296*(y+4294967296*R))/2^b%4294967296=(x+y*4294967296)/2^b%4294967296:=by
  rw[h3,Yb6 _ _ hq,Ydc]
 have h5:=Nat.mod_add_div ((x+4294967296*(y+4294967296*R))/2^b) 4294967296;rw[h2,h4]at h5;exact h5.symm
def ztl{P m R:List UInt32}{i:Nat}{c:UInt32}(hm:m.length=i):(P++(m++c::R))[P.length+i]? = some c:=by
 grind
def znk{P m R:List UInt32}{i:Nat}{c:UInt32}(w:UInt32)(hm:m.length=i):(P++(m++c::R)).set (P.length+i) w=P++(m++w::R):=by
 rw[Yav (P.length+i) w (by omega),Ybt,Yav i w (by omega),hm,Ybx,Yb4]
def z5e{P m R:List UInt32}{i:Nat}{c d:UInt32}(w:UInt32)(hm:m.length=i):(P++(m++c::d::R)).set (P.length+i+1) w=P++(m++c::w::R):=by
 rw[Ya2,Yav (P.length+(i+1)) w (by omega),Ybt,Yav (i+1) w (by omega),hm,show i+1-i=1 by omega]
 rfl
def z5f{P m R:List UInt32}{i:Nat}{c d:UInt32}(hm:m.length=i):(P++(m++c::d::R))[P.length+i+1]? = some d:=by
 grind
theorem zf6(n:Nat):w32 (n%4294967296)=w32 n:=z6b (by rw[zcp,Nat.mod_mod])
section
variable{T:Tbl}[Zu T][Z0 T]
def Zot(P a:List UInt32)(n:Nat)(y:Nat×Nat×List UInt32):St:=
 ⟨[(5,.i .i64 P.length),(6,.i .i64 n),(7,.bs (.loc 23) 1 1 0 (P.length+a.length+1)),(24,.sl (Zc a) .an),(25,.i .i64 a.length),(26,.i .i64 y.1)],[(.loc 23,⟨1,.own,1,Zc (P++(y.2.2++w32 y.2.1::List.replicate (a.length-y.1) 0))⟩)],3⟩
end
section
variable{T:Tbl}
def z9v(P a:List UInt32)(n:Nat)(hn:n<32)(hl:P.length+a.length<=1000000):∀y:Nat×Nat×List UInt32,
  (y.1<=a.length/\y.2.1<2^n/\y.2.2.length=y.1/\val y.2.2+4294967296^y.1*y.2.1=2^n*val (a.take y.1)) ->
  ∃r,(∃(c:Nat) (m:List UInt32),r=(Ex.n,(⟨[(7,.bs (.loc 23) 1 1 0 (P.length+a.length+1))],[(.loc 23,⟨1,.own,1,Zc (P++(m++[w32 c]))⟩)],3⟩:St)) /\
   m.length=a.length/\c<2^n/\val m+4294967296^a.length*c=2^n*val a)/\Ze T 0 0 (.norm false [7]) l92_0 (Zot P a n y)=some r:=by
 refine zar _ _ (fun y=>a.length-y.1) _ ?_
 rintro⟨i,c,m⟩ ⟨hi,hc,hm,hv⟩
 simp only at hi hc hm hv;by_cases h0:i<a.length
 ·left;have ha:a[i]? = some (a[i]'h0):=Yb h0;obtain⟨u1,u2,u3,u4,u5⟩:=z9y (zan (a[i]'h0)) hn hc;have hx:=zan (a[i]'h0);have hrep:List.replicate (a.length-i) (0:UInt32)=0::List.replicate (a.length-(i+1)) 0:=by
   rw[show a.length-i=a.length-(i+1)+1 by omega,Ycn]
  have hw:IntKind.wrap .i64 ((i:Int)+1)=((i+1:Nat):Int):=zab _ (by omega);have hw2:IntKind.wrap .i64 ((P.length:Int)+i)=((P.length+i:Nat):Int):=zab _ (by omega);have hw3:IntKind.wrap .i64 ((P.length:Int)+i+1)=((P.length+i+1:Nat):Int):=zab _ (by omega);have hg:=ztl (P:=P) (c:=w32 c) (R:=0::List.replicate (a.length-(i+1)) 0) hm;have hg3:=z5f (P:=P) (c:=w32 (c+(a[i]'h0).toNat*2^n%4294967296)) (d:=0) (R:=List.replicate (a.length-(i+1)) 0) hm;have hs1:=znk (P:=P) (c:=w32 c) (R:=0::List.replicate (a.length-(i+1)) 0) (w32 (c+(a[i]'h0).toNat*2^n%4294967296)) hm;have hs2:=z5e (P:=P) (c:=w32 (c+(a[i]'h0).toNat*2^n%4294967296)) (d:=0) (R:=List.replicate (a.length-(i+1)) 0) (w32 ((a[i]'h0).toNat*2^n/4294967296)) hm;have hmin:min n 64=n:=by omega
  have hlt1:(P.length:Int)+i<(P.length:Int)+a.length+1:=by omega
  have hlt2:(P.length:Int)+i<(P.length:Int)+a.length:=by omega
  have m1:(a[i]'h0).toNat%18446744073709551616=(a[i]'h0).toNat:=Yq (by omega);have m2:=Yq u1;have m3:=Yq u3;have hcc:c<4294967296:=by omega
  have m4:(a[i]'h0).toNat*2^n/4294967296%4294967296=(a[i]'h0).toNat*2^n/4294967296:=Yq (by omega);have m5:(a[i]'h0).toNat*2^n/4294967296<4294967296:=by omega
  refine⟨(i+1,(a[i]'h0).toNat*2^n/4294967296,m++[w32 (c+(a[i]'h0).toNat*2^n%4294967296)]),⟨h0,u4,by grind,?_⟩,by omega,?_⟩
  ·grind[zaj,zaf,zao,zbh,zah,Nat.div_add_mod]
  ·simp -implicitDefEqProofs[l92_0,Zot,h0,hrep,hw,hw2,hw3,hg,hg3,hs1,hs2,zbp _ _ _ u3,zbp _ _ _ m5,hmin,hlt1,hlt2,m1,m2,m3,m4,u2,zah hcc]
 ·right;have:i=a.length:=by omega
  subst this;rw[Ya (Ye a.length)]at hv;refine⟨_,⟨c,m,rfl,hm,hc,hv⟩,?_,?_⟩<;>simp -implicitDefEqProofs[l92_0,Zot]
end
section
variable{T:Tbl}[Zu T][Z0 T]
def Zn1(a:List UInt32)(W n:Nat)(y:Nat×List UInt32):St:=
 ⟨[(0,.sl (Zc a) .an),(5,.i .i64 W),(6,.i .i64 n),(7,.bs (.loc 24) 1 1 0 (a.length-W)),(26,.i .i64 (a.length-W:Nat)),(27,.i .i64 y.1)],[(.loc 24,⟨1,.own,1,Zc (y.2++List.replicate (a.length-W-y.1) 0)⟩)],3⟩
end
section
variable{T:Tbl}
def z1o(a:List UInt32)(W n:Nat)(hn:n<32)(hW:W<=a.length)(hl:a.length<=1000000):∀y:Nat×List UInt32,
  (y.1<=a.length-W/\y.2.length=y.1/\val y.2+4294967296^y.1*(val (a.drop (W+y.1))/2^n)=val (a.drop W)/2^n) ->
  ∃r,(∃m:List UInt32,r=(Ex.n,(⟨[(7,.bs (.loc 24) 1 1 0 (a.length-W))],[(.loc 24,⟨1,.own,1,Zc m⟩)],3⟩:St)) /\
   m.length=a.length-W/\val m=val (a.drop W)/2^n)/\Ze T 0 0 (.norm false [7]) l94_0 (Zn1 a W n y)=some r:=by
 refine zar _ _ (fun y=>a.length-W-y.1) _ ?_
 rintro⟨i,m⟩ ⟨hi,hm,hv⟩
 by_cases h0:i<a.length-W
 ·left;have hWi:W+i<a.length:=by omega
  have ha:a[W+i]? = some (a[W+i]'hWi):=Yb hWi;have hx:=zan (a[W+i]'hWi);have hd:=Yg hWi;have hrep:List.replicate (a.length-W-i) (0:UInt32)=0::List.replicate (a.length-W-(i+1)) 0:=by
   rw[show a.length-W-i=a.length-W-(i+1)+1 by omega,Ycn]
  have hw:IntKind.wrap .i64 ((i:Int)+1)=((i+1:Nat):Int):=zab _ (by omega);have hw2:IntKind.wrap .i64 ((W:Int)+i)=((W+i:Nat):Int):=zab _ (by omega);have hw3:IntKind.wrap .i64 ((W:Int)+i+1)=((W+i+1:Nat):Int):=zab _ (by omega);have hg:=ztl (P:=[]) (c:=0) (R:=List.replicate (a.length-W-(i+1)) 0) hm;have hmin:min n 64=n:=by omega
  have hlt1:(W:Int)+i<(a.length:Int):=by omega
  have hlt3:((W:Int)+i).toNat=W+i:=by omega
  have m1:(a[W+i]'hWi).toNat%18446744073709551616=(a[W+i]'hWi).toNat:=Yq (by omega);have fin:∀y R:Nat,val (a.drop (W+i+1))=y+4294967296*R->val (m++[w32 (((a[W+i]'hWi).toNat+y*4294967296)/2^n%4294967296)])+4294967296^(i+1)*(val (a.drop (W+(i+1)))/2^n)=val (a.drop W)/2^n:=by
   intro y R hR;have hmod:((a[W+i]'hWi).toNat+y*4294967296)/2^n%4294967296<4294967296:=Ya5 _ (by decide);have hdw:=zp8 (x:=(a[W+i]'hWi).toNat) (y:=y) (R:=R) hn hx;rw[hd,zao,hR,hdw,<-hR]at hv
   grind[zaj,zao,zbh,zah]
  by_cases h1:W+i+1<a.length
  ·have hd1:=Yg h1;have hy:=zan (a[W+i+1]'h1);have m2:(a[W+i+1]'h1).toNat%18446744073709551616=(a[W+i+1]'h1).toNat:=Yq (by omega);have m3:(a[W+i+1]'h1).toNat*4294967296%18446744073709551616=(a[W+i+1]'h1).toNat*4294967296:=Yq (by omega);have hor:(a[W+i]'hWi).toNat ||| (a[W+i+1]'h1).toNat*4294967296=(a[W+i]'hWi).toNat+(a[W+i+1]'h1).toNat*4294967296:=by
    have:=z6c (a:=(a[W+i]'hWi).toNat) (b:=(a[W+i+1]'h1).toNat) (n:=32) (by simp)
    grind
   have m4:((a[W+i]'hWi).toNat+(a[W+i+1]'h1).toNat*4294967296)%18446744073709551616=(a[W+i]'hWi).toNat+(a[W+i+1]'h1).toNat*4294967296:=Yq (by omega);have hs1:=znk (P:=[]) (c:=0) (R:=List.replicate (a.length-W-(i+1)) 0) (w32 (((a[W+i]'hWi).toNat+(a[W+i+1]'h1).toNat*4294967296)/2^n%4294967296)) hm;have hlt2:(W:Int)+i+1<(a.length:Int):=by omega
   have hlt4:((W:Int)+i+1).toNat=W+i+1:=by omega
   refine⟨(i+1,m++[w32 (((a[W+i]'hWi).toNat+(a[W+i+1]'h1).toNat*4294967296)/2^n%4294967296)]),⟨h0,by grind,fin _ (val (a.drop (W+i+1+1))) (by rw[hd1,zao])⟩,by omega,?_⟩;simp at hg;simp[zf6]at hs1;simp -implicitDefEqProofs[l94_0,Zn1,h0,ha,hrep,hw,hw2,hw3,hg,hs1,zf6,hmin,hlt1,hlt2,hlt3,hlt4,m1,m2,m3,m4,hor,h1]
  ·have hs1:=znk (P:=[]) (c:=0) (R:=List.replicate (a.length-W-(i+1)) 0) (w32 ((a[W+i]'hWi).toNat/2^n%4294967296)) hm;have hlt2:¬ (W:Int)+i+1<(a.length:Int):=by omega
   have f0:=fin 0 0 (by rw[Ya7 (by omega),zbh,Yax]);refine⟨(i+1,m++[w32 ((a[W+i]'hWi).toNat/2^n%4294967296)]),⟨h0,by grind,f0⟩,by omega,?_⟩;simp at hg;simp[zf6]at hs1;simp -implicitDefEqProofs[l94_0,Zn1,h0,ha,hrep,hw,hw2,hw3,hg,hs1,zf6,hmin,hlt1,hlt2,hlt3,m1]
 ·right;have:i=a.length-W:=by omega
  subst this;rw[show W+(a.length-W)=a.length by omega,Yw,zbh,Nat.zero_div,Yax,Yad]at hv;refine⟨_,⟨m++List.replicate (a.length-W-(a.length-W)) 0,rfl,by grind,by grind⟩,?_,?_⟩<;>simp -implicitDefEqProofs[l94_0,Zn1]
end
section
variable{T:Tbl}[Zu T][Z0 T]
def z1p(a:List UInt32)(n:Nat)(h:n/32<=a.length):val (a.drop (n/32))/2^(n%32)=val a/2^n:=by
 rw[<-z1s a _ h,Yby,zp5,<-Ybu,show 32*(n/32)+n%32=n by omega]
def z1q(a:List UInt32)(n:Nat)(hn:n<=100000000)(hl:a.length<=100000):Za T 94 [.sl (Zc a) .an,.i .i64 n]=some (.sl (Zc (ofN (val a/2^n))) .an):=by
 have hn2:¬ (n:Int)<0:=by omega
 have hq:(n:Int).tdiv 32=(n:Int)/32:=Yc5 (by omega);have hm2:(n:Int).tmod 32=(n:Int)%32:=Yc6 (by omega);have w1:IntKind.wrap .i64 ((n:Int)/32)=(n:Int)/32:=zab (n/32) (by omega);rcases Yy (n/32) a.length with h0 | h0
 ·obtain⟨_,⟨m,rfl,hm,hv⟩,hr⟩:=z1o (T:=T) a (n/32) (n%32) (Ya5 _ (by decide)) (by omega) (by omega) (0,[]) ⟨Yv _,rfl,by rw[zbh,Ydu,Yds,Yap,Yad]⟩;rw[z1p a n (by omega)]at hv;have hnm:=zb5 (T:=T) m (by omega);rw[hv]at hnm;unfold Zn1 at hr;have hsub:((a.length-n/32:Nat):Int)=(a.length:Int)-(n:Int)/32:=by omega
  simp[hsub]at hr;have p0:¬ (a.length:Int)<=(n:Int)/32:=by omega
  have w2:IntKind.wrap .i64 ((a.length:Int)-(n:Int)/32)=(a.length:Int)-(n:Int)/32:=zab _ (by omega);have p1:(n:Int)/32<=(a.length:Int):=by omega
  have p2:(a.length:Int)-(n:Int)/32<=4294967296:=by omega
  have p3:((a.length:Int)-(n:Int)/32).toNat=a.length-n/32:=by omega
  have htk:List.take (a.length-n/32) m=m:=Ya (by omega);have p5:a.length<=a.length-n/32+n/32:=by omega
  rw[zaa Z0.h94 rfl,b94];simp -implicitDefEqProofs[hn2,hq,hm2,w1,w2,p0,p5,p1,p2,p3,hsub,hr,hnm,htk,hm]
 ·have hz:val a/2^n=0:=by
   refine Ya3 (Y8 (za3 a) ?_);rw[zp5];exact Y9 (by decide) (by omega)
  have p0:(a.length:Int)<=(n:Int)/32:=by omega
  rw[hz,znl,zaa Z0.h94 rfl,b94];simp -implicitDefEqProofs[hn2,hq,hm2,w1,p0]
end
section
def l90_0:AX:=QZ "iCa9l6nnVwMYiV47I5UIKmH5mNSMIKab3L27MfPemFQrSewDw3Lep8vU2hO8AzuXq1c.JugZTy_a2T"
def b90:AX:=(fun p0=>QY [p0] [] "48c6TRhqS1QWL27M1L5hR9yHp4biZTyJ9q8MkquJLuMAmGxR4_t4DG3z.SuISnzg66jkIN93HHBGRUWevUyNf") l90_0
def l119_0:AX:=QZ "9BousCprT1gGuNM01f2eUKsIUYlHT3.cJzgdnoqZTezs1cxIrIAEAiZGU56HdRzfdTH0ULwyKdkpJpwdg1NtCR287KNmD89Z8GS6Urwac.at8d8lENIDv.1uLYwwDS73wDJZI3Di1DTOCbfV"
def b119:AX:=(fun p0=>QY [p0] [(u32 4294967295)] "0_tcjs5vuYx4dmC6NANO4ewbExijgtgZYLhtEvd5lvFdvbFNX90jmFDrIsaLwM4jS3vlvvtyieNsPCpPjnc9PEyLrBX_WlheBdyoRkUK2ISyLvpTvbIix8Q2tF0g8oynQ2viaPfJMWFF1xvAVqDBs") l119_0
def l120_0:AX:=QZ "1m9Lb8asnggX3hjpbU.9DLXv6kmQKo1.VaHarobwrRE1VKF7XkmNX9HkdkmJkUZ387.1P2Tgbw2TC3Y0oBpsEmRTFjGhCh3vHY7gSeDjo5.JscDAYpHvNh8gXU3J6xT977tNBqVEV"
def b120:AX:=(fun p0=>QY [p0] [] "0yWq__oxA8yEWoD5FkxaIUm1rURK6ggQw.w9B9utyUUq832OmK7F0fL3.PdETQ0foIW53BLY__FggXpYJp6LA4OPryG0hBtaLFmQC2dPJKZHs0") l120_0
def l121_0:AX:=QZ "CN54kndv8eKeTYfmGZ6aBcYCnKJ57mRKYo3rBeLvHHPQk8tOVub_YBG.owS8c2zhbzutxmBdC6DoBQ61DTKZMmXP6Q2levR"
def b121:AX:=(fun p0=>QY [p0] [] "6.dNNGAeviZ5gs7.1GCsEEOG2uQMnKVC4LURK2ddadeXd76sh") l121_0
def l93_0:AX:=QZ "3b.ttZV45zbhWRNWkzJHmH0kNGb0ix1FpUNJ9fjldVk5K8KN2B4DEOscOFjwc1exc4N7fYA03T76fLheA8KsI_bWGasV5o9SfHJkEqmVxuhxCh2UL3xrgiVCZhqbmzuDd94fVNr7clFz8akjUfiiFGXB31AIIQ"
def b93:AX:=(fun p0=>QY [p0] [] "2m4VKjaEuxT79UiieOGdItoaTaJUUEx55rHZD6MoLc4hLVKhTGjylpNj2DgpSf7cU") l93_0
abbrev row90:AFx:=⟨2,37,[.t 4,.t 5,.t 6],b90,none,false⟩
abbrev row119:AFx:=⟨5,76,[.t 10],b119,none,false⟩
abbrev row120:AFx:=⟨4,66,[.t 8],b120,(some [true,false,false,false]),false⟩
abbrev row121:AFx:=⟨3,44,[],b121,(some [true,false,false]),false⟩
abbrev row93:AFx:=⟨2,70,[.t 4],b93,(some [true,false]),false⟩
class Zt (T:Tbl):Prop where
 h90:Tr T 90=some row90
 h119:Tr T 119=some row119
 h120:Tr T 120=some row120
 h121:Tr T 121=some row121
 h93:Tr T 93=some row93
attribute [simp] Zt.h90 Zt.h119 Zt.h120 Zt.h121 Zt.h93
end
def znd{m:List UInt32}{j:Nat}(w:UInt32):(List.replicate (j+1) 0++m).set j w=List.replicate j 0++w::m:=by
 rw[List.set_append_left j w (by simp),Ydz,Yav j w (by simp)];simp
def zne{m:List UInt32}{j:Nat}:(List.replicate (j+1) (0:UInt32)++m)[j]? = some 0:=by
 rw[Yt (by simp),Yeo,if_pos (by omega)]
section
variable{T:Tbl}[Zu T][Z0 T][Zy T][Zt T]
def Zoi(a:List UInt32)(x:Nat)(y:Nat×Nat×List UInt32):St:=
 ⟨[(0,.sl (Zc a) .an),(1,u32 x),(4,.bs (.loc 12) 1 1 0 a.length),(5,u32 y.2.1),(7,.i .i64 ((y.1:Int)-1))],[(.loc 12,⟨1,.own,1,Zc (List.replicate y.1 0++y.2.2)⟩)],3⟩
end
section
variable{T:Tbl}[Zu T]
def z8w(a:List UInt32)(x:Nat)(hx:x<4294967296)(hl:a.length<=1000000):∀y:Nat×Nat×List UInt32,
  (y.1<=a.length/\y.2.1<x/\y.2.2.length=a.length-y.1/\val (a.drop y.1)=x*val y.2.2+y.2.1) ->
  ∃r,(∃(c:Nat) (m:List UInt32),r=(Ex.n,(⟨[(4,.bs (.loc 12) 1 1 0 a.length),(5,u32 c)],[(.loc 12,⟨1,.own,1,Zc m⟩)],3⟩:St)) /\
   m.length=a.length/\c<x/\val a=x*val m+c)/\Ze T 0 0 (.norm false [4,5]) l90_0 (Zoi a x y)=some r:=by
 refine zar _ _ (fun y=>y.1) _ ?_
 rintro⟨k,c,m⟩ ⟨hk,hc,hm,hv⟩
 simp only at hk hc hm hv;cases k with
 | zero=>
  right;refine⟨_,⟨c,m,rfl,by omega,hc,hv⟩,?_,?_⟩<;>simp -implicitDefEqProofs[l90_0,Zoi]
 | succ j=>
  left;have hja:j<a.length:=by omega
  have hy:=zan (a[j]'hja);have hd:=Yg hja;have hw:IntKind.wrap .i64 ((j:Int)-1)=(j:Int)-1:=zab _ (by omega);have hs:=znd (m:=m) (j:=j) (w32 ((c*4294967296+(a[j]'hja).toNat)/x));have hq:(c*4294967296+(a[j]'hja).toNat)/x<4294967296:=by
   refine Ycj ?_;omega
  have hdv:=zpc (T:=T) c (a[j]'hja).toNat x hc hy hx;refine⟨(j,(c*4294967296+(a[j]'hja).toNat)%x,w32 ((c*4294967296+(a[j]'hja).toNat)/x)::m),⟨by omega,Ya5 _ (by omega),by grind,?_⟩,Y7 j,?_⟩
  ·grind[zao,zah,Nat.div_add_mod]
  ·simp -implicitDefEqProofs[l90_0,Zoi,hja,hw,hs,zne,hdv,zbp _ _ _ hq]
end
section
variable{T:Tbl}[Zu T][Zt T]
def zzz(a:List UInt32)(x:Nat)(hx:x<4294967296)(h0:0<x)(hl:a.length<=1000000) :
  Za T 90 [.sl (Zc a) .an,u32 x]=some (.tup [.sl (Zc (ofN (val a/x))) .an,u32 (val a%x),.b true]):=by
 obtain⟨_,⟨c,m,rfl,hm,hc,hv⟩,hr⟩:=z8w (T:=T) a x hx hl (a.length,0,[]) ⟨Ye _,h0,by simp,by rw[Yw,zbh,Yax,Yap]⟩;have e1:val a/x=val m:=by grind[Nat.mul_add_div,Nat.div_eq_of_lt]
 have e2:val a%x=c:=by rw[hv,Nat.mul_add_mod,Yq hc]
 have hnm:=zb5 (T:=T) m (by omega);unfold Zoi at hr;simp at hr;have hx0:x≠0:=by omega
 have w1:IntKind.wrap .i64 ((a.length:Int)-1)=(a.length:Int)-1:=zab _ (by omega);have p1:(a.length:Int)<=4294967296:=by omega
 have htk:List.take a.length m=m:=Ya (by omega);rw[e1,e2,zaa Zt.h90 rfl,b90];simp -implicitDefEqProofs[hr,hx0,w1,p1,htk,hm,hnm]
end
section
variable{T:Tbl}[Zu T][Z0 T][Zy T][Zt T]
def zpj{p M w X s t y v D D':Nat}(h:M+X*t=s+p*D)(e:w+X*y+D=v+4294967296*D'):(M+p*w)+X*(t+p*y)=(s+p*v)+p*4294967296*D':=by
 grind
def Zoj(P S b:List UInt32)(x:Nat)(y:Nat×(Nat×Nat)×List UInt32):St:=
 ⟨[(0,.bs (.bor 0) 0 1 0 (P.length+S.length)),(1,.i .i64 P.length),(2,.sl (Zc b) .an),(3,u32 x),(9,u32 y.2.1.1),(10,u32 y.2.1.2),(15,.sl (Zc b) .an),(16,.i .i64 b.length),(17,.i .i64 y.1)],
  [(.bor 0,⟨0,.own,1,Zc (P++(y.2.2++S.drop y.1))⟩)],4⟩
end
section
variable{T:Tbl}[Zu T]
def z8x(P S b:List UInt32)(x:Nat)(hx:x<4294967296)(hS:b.length<S.length)(hl:P.length+S.length<=1000000):∀y:Nat×(Nat×Nat)×List UInt32,
  (y.1<=b.length/\y.2.1.1<4294967296/\y.2.1.2<=1/\y.2.2.length=y.1/\val y.2.2+x*val (b.take y.1)=val (S.take y.1)+4294967296^y.1*(y.2.1.2+y.2.1.1)) ->
  ∃r,(∃(C B:Nat) (m:List UInt32),r=(Ex.n,(⟨[(0,.bs (.bor 0) 0 1 0 (P.length+S.length)),(1,.i .i64 P.length),(2,.sl (Zc b) .an),(9,u32 C),(10,u32 B)],[(.bor 0,⟨0,.own,1,Zc (P++(m++S.drop b.length))⟩)],4⟩:St)) /\
   C<4294967296/\B<=1/\m.length=b.length/\val m+x*val b=val (S.take b.length)+4294967296^b.length*(B+C))/\Ze T 1 0 (.norm false [0,1,2,9,10]) l120_0 (Zoj P S b x y)=some r:=by
 refine zar _ _ (fun y=>b.length-y.1) _ ?_
 rintro⟨i,⟨C,B⟩,m⟩ ⟨hi,hC,hB,hm,hv⟩
 simp only at hi hC hB hm hv;by_cases h0:i<b.length
 ·left;have hb:b[i]? = some (b[i]'h0):=Yb h0;have hiS:i<S.length:=by omega
  have hs:S[i]? = some (S[i]'hiS):=Yb hiS;have hg:=zee (P:=P) hm hiS;have hw:IntKind.wrap .i64 ((i:Int)+1)=((i+1:Nat):Int):=zab _ (by omega);have hw2:IntKind.wrap .i64 ((P.length:Int)+i)=((P.length+i:Nat):Int):=zab _ (by omega);have hlt2:(P.length:Int)+i<(P.length:Int)+S.length:=by omega
  have hlb:=zan (b[i]'h0);have hls:=zan (S[i]'hiS);have hmul:=zj5 hx hlb;have c1:=zj6 (T:=T) x (b[i]'h0).toNat C 0 hx hlb hC (by decide);rw[Yad]at c1;obtain⟨lo,hlo⟩:∃lo,lo=(x*(b[i]'h0).toNat+C)%4294967296:=⟨_,rfl⟩;obtain⟨C',hC'⟩:∃C',C'=(x*(b[i]'h0).toNat+C)/4294967296:=⟨_,rfl⟩;rw[<-hlo,<-hC']at c1;have c2:=zg5 (T:=T) (S[i]'hiS).toNat lo B hls (by omega) (by omega);obtain⟨w,hwd⟩:∃w,w=((S[i]'hiS).toNat+8589934592-(lo+B))%4294967296:=⟨_,rfl⟩;obtain⟨B',hB'⟩:∃B',B'=2-((S[i]'hiS).toNat+8589934592-(lo+B))/4294967296:=⟨_,rfl⟩;rw[<-hwd,<-hB']at c2;have hwl:w<4294967296:=by omega
  have hset:=zd1 (P:=P) (w32 w) hm hiS;refine⟨(i+1,(C',B'),m++[w32 w]),⟨h0,by grind,by simp only;omega,by grind,?_⟩,by omega,?_⟩
  ·simp only;rw[zaj,zaf hb,zaf hs,Yan,hm,zao,zbh,Yax,Yad,zah hwl];exact zpj hv (by omega)
  ·simp -implicitDefEqProofs[l120_0,Zoj,h0,hw,hw2,hlt2,hg,c1,c2,hset,zbp _ _ _ hwl]
 ·right;have:i=b.length:=by omega
  subst this;rw[Ya (Ye b.length)]at hv;refine⟨_,⟨C,B,m,rfl,hC,hB,hm,hv⟩,?_,?_⟩<;>simp -implicitDefEqProofs[l120_0,Zoj]
end
section
variable{T:Tbl}[Zu T][Zt T]
def zz0(P S b:List UInt32)(x:Nat)(hx:x<4294967296)(hS:b.length<S.length)(hl:P.length+S.length<=1000000) :
  ∃(B:Nat) (m:List UInt32),B<=1/\m.length=b.length+1/\val m+x*val b=val (S.take (b.length+1))+4294967296^(b.length+1)*B /\
   Z4 T 120 [.bs (.bor 0) 0 1 0 (P.length+S.length),.i .i64 P.length,.sl (Zc b) .an,u32 x] [(.bor 0,⟨0,.own,1,Zc (P++S)⟩)] =
    some (.b (decide (0<B)),[(.bor 0,⟨0,.own,1,Zc (P++(m++S.drop (b.length+1)))⟩)]):=by
 obtain⟨_,⟨C,B,m,rfl,hC,hB,hm,hv⟩,hr⟩:=z8x (T:=T) P S b x hx hS hl (0,(0,0),[]) ⟨Yv _,Nat.zero_lt_succ _,Yv _,rfl,by simp⟩;unfold Zoj at hr;simp at hr;have hs:S[b.length]? = some (S[b.length]'hS):=Yb hS;have hls:=zan (S[b.length]'hS);have hg:=zee (P:=P) hm hS;have hw2:IntKind.wrap .i64 ((P.length:Int)+b.length)=((P.length+b.length:Nat):Int):=zab _ (by omega);have hlt2:(P.length:Int)+b.length<(P.length:Int)+S.length:=by omega
 have c2:=zg5 (T:=T) (S[b.length]'hS).toNat C B hls hC (by omega);obtain⟨w,hwd⟩:∃w,w=((S[b.length]'hS).toNat+8589934592-(C+B))%4294967296:=⟨_,rfl⟩;obtain⟨B',hB'⟩:∃B',B'=2-((S[b.length]'hS).toNat+8589934592-(C+B))/4294967296:=⟨_,rfl⟩;rw[<-hwd,<-hB']at c2;have hwl:w<4294967296:=by omega
 have hset:=zd1 (P:=P) (w32 w) hm hS;refine⟨B',m++[w32 w],by omega,by grind,?_,?_⟩
 ·rw[zaj,zaf hs,Yan,hm,zao,zbh,Yax,Yad,zah hwl];have:=zpj (y:=0) (w:=w) (v:=(S[b.length]'hS).toNat) (D':=B') hv (by omega);omega
 ·rw[zam Zt.h120 rfl,b120];simp -implicitDefEqProofs[hr,hw2,hlt2,hg,c2,hset,zbp _ _ _ hwl]
end
section
variable{T:Tbl}[Zu T][Z0 T][Zy T][Zt T]
def zpk{p M w s t y v D D':Nat}(h:M+p*D=s+t)(e:w+4294967296*D'=v+y+D):(M+p*w)+p*4294967296*D'=(s+p*v)+(t+p*y):=by
 grind
def Zok(P S b:List UInt32)(y:Nat×Nat×List UInt32):St:=
 ⟨[(0,.bs (.bor 0) 0 1 0 (P.length+S.length)),(1,.i .i64 P.length),(2,.sl (Zc b) .an),(6,u32 y.2.1),(9,.sl (Zc b) .an),(10,.i .i64 b.length),(11,.i .i64 y.1)],
  [(.bor 0,⟨0,.own,1,Zc (P++(y.2.2++S.drop y.1))⟩)],4⟩
end
section
variable{T:Tbl}[Zu T]
def z8y(P S b:List UInt32)(hS:b.length<S.length)(hl:P.length+S.length<=1000000):∀y:Nat×Nat×List UInt32,
  (y.1<=b.length/\y.2.1<=1/\y.2.2.length=y.1/\val y.2.2+4294967296^y.1*y.2.1=val (S.take y.1)+val (b.take y.1)) ->
  ∃r,(∃(C:Nat) (m:List UInt32),r=(Ex.n,(⟨[(0,.bs (.bor 0) 0 1 0 (P.length+S.length)),(1,.i .i64 P.length),(2,.sl (Zc b) .an),(6,u32 C)],[(.bor 0,⟨0,.own,1,Zc (P++(m++S.drop b.length))⟩)],4⟩:St)) /\
   C<=1/\m.length=b.length/\val m+4294967296^b.length*C=val (S.take b.length)+val b)/\Ze T 1 0 (.norm false [0,1,2,6]) l121_0 (Zok P S b y)=some r:=by
 refine zar _ _ (fun y=>b.length-y.1) _ ?_
 rintro⟨i,C,m⟩ ⟨hi,hC,hm,hv⟩
 simp only at hi hC hm hv;by_cases h0:i<b.length
 ·left;have hb:b[i]? = some (b[i]'h0):=Yb h0;have hiS:i<S.length:=by omega
  have hs:S[i]? = some (S[i]'hiS):=Yb hiS;have hg:=zee (P:=P) hm hiS;have hw:IntKind.wrap .i64 ((i:Int)+1)=((i+1:Nat):Int):=zab _ (by omega);have hw2:IntKind.wrap .i64 ((P.length:Int)+i)=((P.length+i:Nat):Int):=zab _ (by omega);have hlt2:(P.length:Int)+i<(P.length:Int)+S.length:=by omega
  have hlb:=zan (b[i]'h0);have hls:=zan (S[i]'hiS);have c2:=zfc (T:=T) (S[i]'hiS).toNat (b[i]'h0).toNat C hls hlb (by omega);obtain⟨w,hwd⟩:∃w,w=((S[i]'hiS).toNat+(b[i]'h0).toNat+C)%4294967296:=⟨_,rfl⟩;obtain⟨C',hC'⟩:∃C',C'=((S[i]'hiS).toNat+(b[i]'h0).toNat+C)/4294967296:=⟨_,rfl⟩;rw[<-hwd,<-hC']at c2;have hwl:w<4294967296:=by omega
  have hset:=zd1 (P:=P) (w32 w) hm hiS;refine⟨(i+1,C',m++[w32 w]),⟨h0,by grind,by grind,?_⟩,by omega,?_⟩
  ·simp only;rw[zaj,zaf hb,zaf hs,Yan,hm,zao,zbh,Yax,Yad,zah hwl];exact zpk hv (by omega)
  ·simp -implicitDefEqProofs[l121_0,Zok,h0,hw,hw2,hlt2,hg,c2,hset,zbp _ _ _ hwl]
 ·right;have:i=b.length:=by omega
  subst this;rw[Ya (Ye b.length)]at hv;refine⟨_,⟨C,m,rfl,hC,hm,hv⟩,?_,?_⟩<;>simp -implicitDefEqProofs[l121_0,Zok]
end
section
variable{T:Tbl}[Zu T][Zt T]
def zz1(P S b:List UInt32)(hS:b.length<S.length)(hl:P.length+S.length<=1000000) :
  ∃(D:Nat) (m:List UInt32),D<=1/\m.length=b.length+1/\val m+4294967296^(b.length+1)*D=val (S.take (b.length+1))+val b /\
   Z4 T 121 [.bs (.bor 0) 0 1 0 (P.length+S.length),.i .i64 P.length,.sl (Zc b) .an] [(.bor 0,⟨0,.own,1,Zc (P++S)⟩)] =
    some (.tup [],[(.bor 0,⟨0,.own,1,Zc (P++(m++S.drop (b.length+1)))⟩)]):=by
 obtain⟨_,⟨C,m,rfl,hC,hm,hv⟩,hr⟩:=z8y (T:=T) P S b hS hl (0,0,[]) ⟨Yv _,Yv _,rfl,by simp⟩;unfold Zok at hr;simp at hr;have hs:S[b.length]? = some (S[b.length]'hS):=Yb hS;have hls:=zan (S[b.length]'hS);have hg:=zee (P:=P) hm hS;have hw2:IntKind.wrap .i64 ((P.length:Int)+b.length)=((P.length+b.length:Nat):Int):=zab _ (by omega);have hlt2:(P.length:Int)+b.length<(P.length:Int)+S.length:=by omega
 obtain⟨w,hwd⟩:∃w,w=((S[b.length]'hS).toNat+C)%4294967296:=⟨_,rfl⟩;have hwl:w<4294967296:=by omega
 have hset:=zd1 (P:=P) (w32 w) hm hS;refine⟨((S[b.length]'hS).toNat+C)/4294967296,m++[w32 w],by omega,by grind,?_,?_⟩
 ·rw[zaj,zaf hs,Yan,hm,zao,zbh,Yax,Yad,zah hwl];have:=zpk (y:=0) (w:=w) (v:=(S[b.length]'hS).toNat) (D':=((S[b.length]'hS).toNat+C)/4294967296) hv (by omega);omega
 ·rw[zam Zt.h121 rfl,b121];simp -implicitDefEqProofs[hr,hw2,hlt2,hg,<-hwd,hset,zbp _ _ _ hwl]
end
def zj1(q b1 b0:Nat):q*(b1*4294967296+b0)=q*b1*4294967296+q*b0:=by
 rw[Yas q,<-Yal q]
def zm1{a2 a1 a0 b1 b0 q r:Nat}(h:q*b1+r=a2*4294967296+a1)(hle:q*b0<=r*4294967296+a0) :
  q*(b1*4294967296+b0)<=(a2*4294967296+a1)*4294967296+a0:=by
 refine Yd (Nat.le_of_eq (zj1 q b1 b0)) ?_;revert h hle;generalize q*b1=u;generalize q*b0=v;omega
def z3c{a2 a1 a0 b1 b0 q r:Nat}(h:q*b1+r=a2*4294967296+a1)(hgt:r*4294967296+a0<q*b0) :
  (a2*4294967296+a1)*4294967296+a0<q*(b1*4294967296+b0):=by
 refine Nat.lt_of_lt_of_eq ?_ (zj1 q b1 b0).symm;revert h hgt;generalize q*b1=u;generalize q*b0=v;omega
def zyz{q b0 r a0:Nat}(h0:a0<4294967296):(q*b0/4294967296<r\/q*b0/4294967296=r/\q*b0%4294967296<=a0)↔q*b0<=r*4294967296+a0:=by
 generalize q*b0=m;omega
section
variable{T:Tbl}[Zu T][Z0 T][Zy T][Zt T]
def Zje(a0 b1 b0:Nat)(y:Nat×Nat):St:=⟨[(2,u32 a0),(3,u32 b1),(4,u32 b0),(11,u32 y.1),(12,u32 y.2)],[],2⟩
end
section
variable{T:Tbl}[Zu T]
def zy0(a2 a1 a0 b1 b0 g:Nat)(h0:a0<4294967296)(hb1:b1<4294967296)(hb0:b0<4294967296)
  (F1:∀q,q<4294967296->g<=q->q*(b1*4294967296+b0)<=(a2*4294967296+a1)*4294967296+a0->q=g)
  (F2:∀q,(a2*4294967296+a1)*4294967296+a0<q*(b1*4294967296+b0)->g<q):∀y:Nat×Nat,
  (y.1<4294967296/\y.2<4294967296/\y.1*b1+y.2=a2*4294967296+a1/\g<=y.1) ->
  ∃r,(r=(Ex.n,(⟨[(11,u32 g)],[],2⟩:St)))/\Ze T 0 0 (.norm false [11]) l119_0 (Zje a0 b1 b0 y)=some r:=by
 refine zar _ _ (fun y=>y.1) _ ?_
 rintro⟨q,r⟩ ⟨hq,hr,hv,hg⟩
 simp only at hq hr hv hg;have c1:=zj6 (T:=T) q b0 0 0 hq hb0 (by decide) (by decide);have c2:=zfc (T:=T) r b1 0 hr hb1 (by decide);rw[Yad]at c1;rw[Yad]at c2;have hcmp:=zyz (q:=q) (b0:=b0) (r:=r) h0;obtain⟨hi,hhi⟩:∃hi,hi=q*b0/4294967296:=⟨_,rfl⟩;obtain⟨lo,hlo⟩:∃lo,lo=q*b0%4294967296:=⟨_,rfl⟩;rw[<-hhi,<-hlo]at c1 hcmp;have hlol:lo<4294967296:=by omega
 have hhil:hi<4294967296:=by
  have:=zj5 hq hb0;omega
 by_cases hle:q*b0<=r*4294967296+a0
 ·right;have hqg:=F1 q hq hg (zm1 hv hle);subst hqg;have hc:=hcmp.2 hle;clear hhi hlo;rcases hc with hc | ⟨rfl,hc2⟩
  ·refine⟨_,rfl,?_,?_⟩<;>simp -implicitDefEqProofs[l119_0,Zje,c1,hc]
  ·refine⟨_,rfl,?_,?_⟩<;>simp -implicitDefEqProofs[l119_0,Zje,c1,hc2]
 ·have hgt:r*4294967296+a0<q*b0:=by omega
  have hlt:=F2 q (z3c hv hgt);have hc:¬ (hi<r\/hi=r/\lo<=a0):=fun h=>hle (hcmp.1 h);have hq1:q-1<4294967296:=by omega
  have hs:Zii q 1=q-1:=by unfold Zii;omega
  have hqb:(q-1)*b1+(r+b1)=a2*4294967296+a1:=by
   have:q*b1=(q-1)*b1+b1:=by
    rw[<-Ydj];congr 1;omega
   omega
  by_cases hcar:4294967296<=r+b1
  ·right;have hmul:=zj5 hq1 hb0;have hqg:=F1 (q-1) hq1 (by omega) (zm1 hqb (by
    generalize (q-1)*b0=v at *
    omega))
   have m2:0<(r+b1)/4294967296:=Yfh hcar (by decide);have m3:(r+b1)/4294967296<4294967296:=by omega
   have hr2:¬ hi<r:=fun h=>hc (.inl h);clear hhi hlo;refine⟨_,rfl,?_,?_⟩<;>by_cases he:hi=r
   ·have hc3:¬ lo<=a0:=fun h=>hc (.inr ⟨he,h⟩);subst he;simp -implicitDefEqProofs[l119_0,Zje,c1,c2,hs,hc3,m2]
   ·simp -implicitDefEqProofs[l119_0,Zje,c1,c2,hs,hr2,he,m2]
   ·have hc3:¬ lo<=a0:=fun h=>hc (.inr ⟨he,h⟩);subst he;simp -implicitDefEqProofs[l119_0,Zje,c1,c2,hs,hc3,m2,hqg]
   ·simp -implicitDefEqProofs[l119_0,Zje,c1,c2,hs,hr2,he,m2,hqg]
  ·left;refine⟨(q-1,r+b1),⟨hq1,by simp only;omega,hqb,by simp only;omega⟩,by simp only;omega,?_⟩;have m1:(r+b1)%4294967296=r+b1:=Yq (by omega);have m2:(r+b1)/4294967296=0:=Ya3 (by omega);rw[m1,m2]at c2;have hr2:¬ hi<r:=fun h=>hc (.inl h);clear hhi hlo;by_cases he:hi=r
   ·have hc3:¬ lo<=a0:=fun h=>hc (.inr ⟨he,h⟩);subst he;simp -implicitDefEqProofs[l119_0,Zje,c1,c2,hs,hc3]
   ·simp -implicitDefEqProofs[l119_0,Zje,c1,c2,hs,hr2,he]
end
section
variable{T:Tbl}[Zu T][Z0 T][Zy T][Zt T]
def z8f{n two:Nat}(h:0<two):(∀q,q<4294967296->min 4294967295 (n/two)<=q->q*two<=n->q=min 4294967295 (n/two))/\(∀q,n<q*two->min 4294967295 (n/two)<q):=by
 constructor
 ·intro q hq hg hle;have:=(Ycf h).2 hle;omega
 ·intro q hlt;have:=(Yb0 h).2 hlt;omega
def z3d{A a0 b1 b0:Nat}(h0:a0<4294967296)(hp:0<b1):A*4294967296+a0<(A/b1+1)*(b1*4294967296+b0):=by
 have h1:A<(A/b1+1)*b1:=by rw[Yaw];exact Nat.lt_mul_div_succ A hp
 refine Nat.lt_of_lt_of_eq ?_ (zj1 (A/b1+1) b1 b0).symm;generalize (A/b1+1)*b1=u at *
 generalize (A/b1+1)*b0=v at *
 omega
end
section
variable{T:Tbl}[Zu T][Zt T]
def zu0(a2 a1 a0 b1 b0:Nat)(h2:a2<4294967296)(h1:a1<4294967296)(h0:a0<4294967296)(hb1:b1<4294967296)(hb0:b0<4294967296)(hp:0<b1) :
  Za T 119 [u32 a2,u32 a1,u32 a0,u32 b1,u32 b0]=some (u32 (min 4294967295 (((a2*4294967296+a1)*4294967296+a0)/(b1*4294967296+b0)))):=by
 obtain⟨F1,F2⟩:=z8f (n:=(a2*4294967296+a1)*4294967296+a0) (two:=b1*4294967296+b0) (by omega);have hgle:=Ye7 4294967295 (((a2*4294967296+a1)*4294967296+a0)/(b1*4294967296+b0));generalize min 4294967295 (((a2*4294967296+a1)*4294967296+a0)/(b1*4294967296+b0))=g at *
 by_cases hlt:a2<b1
 ·have hd:=zpc (T:=T) a2 a1 b1 hlt h1 hb1;have hql:(a2*4294967296+a1)/b1<4294967296:=z57 hlt h1;have hrl:(a2*4294967296+a1)%b1<b1:=Ya5 _ hp;have hdm:=Ybs (a2*4294967296+a1) b1;rw[Yaw]at hdm;obtain⟨_,rfl,hr⟩:=zy0 (T:=T) a2 a1 a0 b1 b0 g h0 hb1 hb0 F1 F2 ((a2*4294967296+a1)/b1,(a2*4294967296+a1)%b1) ⟨hql,by simp only;omega,hdm,by have:=F2 _ (z3d (A:=a2*4294967296+a1) (b0:=b0) h0 hp);simp only;omega⟩;unfold Zje at hr;simp at hr;rw[zaa Zt.h119 rfl,b119];simp -implicitDefEqProofs[hd,hr]
 ·have hd:=zu5 (T:=T) a2 a1 b1 (by omega) h2 h1;have ha:=zfc (T:=T) a1 b1 0 h1 hb1 (by decide);rw[Yad]at ha;by_cases hbig:b1<a2\/4294967296<=a1+b1
  ·have hg:4294967295=g:=by
    refine F1 4294967295 (by decide) hgle ?_;refine zm1 (r:=a2*4294967296+a1-4294967295*b1) (by omega) ?_;omega
   subst hg;rw[zaa Zt.h119 rfl,b119];rcases Yy b1 a2 with hb | hb
   ·simp -implicitDefEqProofs[hd,ha,hb]
   ·have hc:4294967296<=a1+b1:=by omega
    have hb2:¬ b1<a2:=by omega
    have m2:0<(a1+b1)/4294967296:=Yfh hc (by decide);simp -implicitDefEqProofs[hd,ha,hb2,m2]
  ·have hb2:¬ b1<a2:=fun h=>hbig (.inl h);have hc:a1+b1<4294967296:=by omega
   have m1:(a1+b1)%4294967296=a1+b1:=Yq hc;have m2:(a1+b1)/4294967296=0:=Ya3 hc;rw[m1,m2]at ha;obtain⟨_,rfl,hr⟩:=zy0 (T:=T) a2 a1 a0 b1 b0 g h0 hb1 hb0 F1 F2 (4294967295,a1+b1) ⟨Y7 4294967295,hc,by simp only;omega,hgle⟩;unfold Zje at hr;simp at hr;have hb3:a2<=b1:=by omega
   rw[zaa Zt.h119 rfl,b119];simp -implicitDefEqProofs[hd,ha,hb2,hr]
end
def z1u{V b d three two v0 b0:Nat}(hV:V=three*d+v0)(hv:v0<d)(hb:b=two*d+b0)(hb0:b0<d)(h2:4294967296<=two)(hlt:V<4294967296*b) :
  V/b<=min 4294967295 (three/two)/\min 4294967295 (three/two)<=V/b+1:=by
 have hd:0<d:=by omega
 have htp:0<two:=by omega
 have hbp:0<b:=by
  have:=Nat.mul_pos htp hd;omega
 have hq:V/b<4294967296:=Ycj (by rw[Yaw];exact hlt);have hqb:V/b*b<=V:=Nat.div_mul_le_self V b;have hqb2:V<(V/b+1)*b:=by rw[Yaw];exact Nat.lt_mul_div_succ V hbp
 generalize V/b=q at *
 constructor
 ·refine Nat.le_min.2 ⟨by omega,(Ycf htp).2 ?_⟩;have h3:q*two*d<(three+1)*d:=by
   have:q*two*d<=q*b:=by rw[hb,Yas,Yal];omega
   rw[Ybz,Yds];omega
  have:=Nat.lt_of_mul_lt_mul_right h3;omega
 ·generalize hx:min 4294967295 (three/two)=x;have hx1:x<=three/two:=by rw[<-hx];exact Nat.min_le_right _ _
  have hx2:x<=4294967295:=by rw[<-hx];exact Ye7 _ _
  have hx3:x*two<=three:=(Ycf htp).1 hx1;rcases Yy (q+1) x with h | h
  ·exfalso;have e1:(q+2)*two<=x*two:=Yaa _ h;have e2:(q+2)*two*d<=three*d:=Yaa _ (Yd e1 hx3);have e3:(q+1)*b=(q+1)*two*d+(q+1)*b0:=by rw[hb,Yas,Yal]
   have e4:(q+1)*b0<=(q+1)*d:=Yaq _ (Ydi hb0);have e5:(q+2)*two*d=(q+1)*two*d+two*d:=by rw[show q+2=(q+1)+1 from rfl,Ybz (q+1) 1 two,Yds,Ybz]
   have e6:(q+1)*d<=two*d:=Yaa _ (by omega);omega
  ·exact h
def z3w{vA vA' t p V x r vb vm T:Nat}(h0:vA=t+p*V)(h1:vA'=t+p*r)(hV:V=vb*x+r)(hT:T=vA+p*4294967296*(vm*vb)) :
  T=vA'+p*((x+4294967296*vm)*vb):=by grind
def zzj{V b x Bo vm p:Nat}(hb:0<b)(h1:V/b<=x)(h2:x<=V/b+1)(_hp:V<p)(hm:vm<p)(hBo:Bo<=1)(h:vm+x*b=V+p*Bo) :
  (Bo=0->x=V/b/\vm=V%b)/\(Bo=1->x=V/b+1/\vm+b=V%b+p):=by
 have hd:=Ybs V b;constructor
 ·intro h0;subst h0;have hx:x=V/b:=by
   have:x*b<=V:=by omega
   have:=(Ycf hb).2 this;omega
  grind
 ·intro h0;subst h0;have hx:x=V/b+1:=by
   grind
  grind
def zzk{vm b r p D vm':Nat}(_hr:r<p)(h:vm+b=r+p)(hm:vm'<p)(hD:D<=1)(hg:vm'+p*D=vm+b):vm'=r:=by
 rcases Ya4 D with h0 | h0
 all_goals grind
def zpd{α:Type}{A:List α}{i k:Nat}(h:i=k)(hi:i<A.length)(hk:k<A.length):A[i]'hi=A[k]'hk:=by grind
def znb(A:List UInt32)(j n:Nat):val (A.drop j)=val ((A.drop j).take n)+4294967296^((A.drop j).take n).length*val (A.drop (j+n)):=by
 grind[List.take_append_drop,zaj,List.drop_drop]
def zu7{q x:Nat}(h:x=q+1)(hx:x<4294967296):Zii x 1=q:=by unfold Zii;omega
def zzl{A m1:List UInt32}{j n:Nat}(hm1:m1.length=n+1)(hj:j+n<A.length) :
  (A.take j++(m1++A.drop (j+(n+1)))).take j=A.take j/\(A.take j++(m1++A.drop (j+(n+1)))).drop (j+(n+1))=A.drop (j+(n+1)) /\
  ((A.take j++(m1++A.drop (j+(n+1)))).drop j).take (n+1)=m1/\(A.take j++(m1++A.drop (j+(n+1)))).length=A.length:=by
 have htj:(A.take j).length=j:=by grind
 refine⟨?_,?_,?_,?_⟩
 ·rw[Ycs (by omega),Ya (by omega)]
 ·rw[<-Yfb,Yb5 (by omega),Ya7 (l:=A.take j) (by omega),Yau,Yb5 (by omega),Ya7 (by omega),Yau]
 all_goals grind
def zzm{D:List UInt32}{n:Nat}(h:n+2<D.length):val (D.take (n+3))=(((D[n+2]'h).toNat*4294967296+(D[n+1]'(by omega)).toNat)*4294967296+(D[n]'(by omega)).toNat)*4294967296^n+val (D.take n):=by
 grind[zaf]
def z8r{D:List UInt32}{n:Nat}(h:n+1<D.length):val (D.take (n+2))=((D[n+1]'h).toNat*4294967296+(D[n]'(by omega)).toNat)*4294967296^n+val (D.take n):=by
 grind[zaf]
section
variable{T:Tbl}[Zu T][Zt T]
def zu8(A b:List UInt32)(j x:Nat)(hx:x<4294967296)(hj:j+b.length<A.length)(hl:A.length<=1000000) :
  ∃(B:Nat) (m:List UInt32),B<=1/\m.length=b.length+1/\val m+x*val b=val ((A.drop j).take (b.length+1))+4294967296^(b.length+1)*B /\
   Z4 T 120 [.bs (.bor 0) 0 1 0 A.length,.i .i64 j,.sl (Zc b) .an,u32 x] [(.bor 0,⟨0,.own,1,Zc A⟩)] =
    some (.b (decide (0<B)),[(.bor 0,⟨0,.own,1,Zc (A.take j++(m++A.drop (j+(b.length+1))))⟩)]):=by
 have h1:(A.take j).length=j:=by grind
 have h2:(A.drop j).length=A.length-j:=by simp
 obtain⟨B,m,hB,hm,hv,hc⟩:=zz0 (T:=T) (A.take j) (A.drop j) b x hx (by omega) (by omega)
 grind[List.take_append_drop,List.drop_drop]
end
section
variable{T:Tbl}[Zu T][Zt T]
def zu9(A b:List UInt32)(j:Nat)(hj:j+b.length<A.length)(hl:A.length<=1000000) :
  ∃(D:Nat) (m:List UInt32),D<=1/\m.length=b.length+1/\val m+4294967296^(b.length+1)*D=val ((A.drop j).take (b.length+1))+val b /\
   Z4 T 121 [.bs (.bor 0) 0 1 0 A.length,.i .i64 j,.sl (Zc b) .an] [(.bor 0,⟨0,.own,1,Zc A⟩)] =
    some (.tup [],[(.bor 0,⟨0,.own,1,Zc (A.take j++(m++A.drop (j+(b.length+1))))⟩)]):=by
 have h1:(A.take j).length=j:=by grind
 have h2:(A.drop j).length=A.length-j:=by simp
 obtain⟨D,m,hD,hm,hv,hc⟩:=zz1 (T:=T) (A.take j) (A.drop j) b (by omega) (by omega);rw[h1,h2,show j+(A.length-j)=A.length by omega,Ybb,Yfb]at hc;exact⟨D,m,hD,hm,hv,hc⟩
end
section
variable{T:Tbl}[Zu T][Z0 T][Zy T][Zt T]
def Zmk(b:List UInt32)(LA LQ:Nat)(y:Nat×List UInt32×List UInt32):St:=
 ⟨[(0,.bs (.bor 0) 0 1 0 LA),(1,.sl (Zc b) .an),(5,.i .i64 b.length),(6,.bs (.loc 15) 3 1 0 LQ),(7,.i .i64 ((y.1:Int)-1))],
  [(.bor 0,⟨0,.own,1,Zc y.2.1⟩),(.loc 15,⟨3,.own,1,Zc (List.replicate y.1 0++y.2.2)⟩)],5⟩
end
section
variable{T:Tbl}[Zu T][Zt T]
set_option maxHeartbeats 2000000 in
def z8s(A0 b:List UInt32)(LQ nb:Nat)(hnb:b.length=nb+2)(hb1:0<(b[nb+1]'(by omega)).toNat)(hl:A0.length<=1000000)(hA0:A0.length=LQ+b.length):∀y:Nat×List UInt32×List UInt32,
  (y.1<=LQ/\y.2.1.length=A0.length/\y.2.2.length=LQ-y.1/\val (y.2.1.drop y.1)<val b/\val A0=val y.2.1+4294967296^y.1*(val y.2.2*val b)) ->
  ∃r,(∃Q A:List UInt32,r=(Ex.n,(⟨[(6,.bs (.loc 15) 3 1 0 LQ)],[(.bor 0,⟨0,.own,1,Zc A⟩),(.loc 15,⟨3,.own,1,Zc Q⟩)],5⟩:St)) /\
   Q.length=LQ/\A.length=A0.length/\val Q=val A0/val b/\val A=val A0%val b)/\Ze T 1 0 (.norm false [6]) l93_0 (Zmk b A0.length LQ y)=some r:=by
 refine zar _ _ (fun y=>y.1) _ ?_
 rintro⟨k,A,m⟩ ⟨hk,hA,hm,hlt,hv⟩
 simp only at hk hA hm hlt hv;have hbp:0<val b:=by omega
 cases k with
 | zero=>
  right;rw[Ydu,Yds]at hv;rw[Y6]at hlt;refine⟨_,⟨m,A,rfl,by omega,hA,?_,?_⟩,?_,?_⟩
  ·rw[hv,Ydw _ _ hbp,Ya3 hlt,Yap]
  ·rw[hv,Yeb,Yq hlt]
  ·simp -implicitDefEqProofs[l93_0,Zmk]
  ·simp -implicitDefEqProofs[l93_0,Zmk]
 | succ j=>
  left
  -- the window
  have hD:(A.drop j).length=A.length-j:=by simp
  have hDn:nb+2<(A.drop j).length:=by omega
  have hVlt:val (A.drop j)<4294967296*val b:=by
   have:=Yg (show j<A.length by omega);rw[this,zao];have:=zan (A[j]'(by omega));omega
  have hbB:=za3 b;rw[hnb]at hbB;have hsplit:=znb A j (nb+3);have hlen3:((A.drop j).take (nb+3)).length=nb+3:=by simp;omega
  rw[hlen3]at hsplit;have hz:val (A.drop (j+(nb+3)))=0:=by
   rcases Ya4 (val (A.drop (j+(nb+3)))) with h | h
   ·exact h
   ·exfalso;have h1:=Yaq (4294967296^(nb+3)) h;rw[Yan 4294967296 (nb+2)]at h1 hsplit;generalize 4294967296^(nb+2)=p at *
    generalize p*4294967296*val (A.drop (j+(nb+3)))=u at *
    omega
  rw[hz,Yax,Yad]at hsplit;have h3:=zzm hDn;have h2:=z8r (D:=b) (n:=nb) (by omega);rw[zbo (a:=b) (i:=nb+2) (by omega)]at h2;have hv0:=za3 ((A.drop j).take nb);have hb0:=za3 (b.take nb);rw[show ((A.drop j).take nb).length=nb by simp;omega]at hv0;rw[show (b.take nb).length=nb by simp;omega]at hb0;obtain⟨V,hV⟩:∃V,V=val (A.drop j):=⟨_,rfl⟩;rw[<-hV]at hsplit hVlt;rw[<-hsplit]at h3;have hg:=z1u (V:=V) (b:=val b) h3 hv0 h2 hb0 (by omega) hVlt;obtain⟨p0,hp0⟩:∃p,p=j+b.length:=⟨_,rfl⟩;obtain⟨p1,hp1⟩:∃p,p=j+(nb+1):=⟨_,rfl⟩;obtain⟨p2,hp2⟩:∃p,p=j+nb:=⟨_,rfl⟩;obtain⟨q1,hq1⟩:∃p,p=nb+1:=⟨_,rfl⟩;have c1:p0<A.length:=by omega
  have c2:p1<A.length:=by omega
  have c3:p2<A.length:=by omega
  have c4:q1<b.length:=by omega
  have c5:nb<b.length:=by omega
  have e1:(A.drop j)[nb+2]'hDn=A[p0]'c1:=Yen.trans (zpd (by omega) _ _);have e2:(A.drop j)[nb+1]'(by omega)=A[p1]'c2:=Yen.trans (zpd (by omega) _ _);have e3:(A.drop j)[nb]'(by omega)=A[p2]'c3:=Yen.trans (zpd (by omega) _ _);have e4:b[nb+1]'(by omega)=b[q1]'c4:=zpd (by omega) _ _;rw[e1,e2,e3,e4]at hg;rw[e4]at hb1;have hgs:=zu0 (T:=T) (A[p0]'c1).toNat (A[p1]'c2).toNat (A[p2]'c3).toNat (b[q1]'c4).toNat (b[nb]'c5).toNat (zan _) (zan _) (zan _) (zan _) (zan _) hb1;obtain⟨x,hxd⟩:∃x,x=min 4294967295 ((((A[p0]'c1).toNat*4294967296+(A[p1]'c2).toNat)*4294967296+(A[p2]'c3).toNat)/((b[q1]'c4).toNat*4294967296+(b[nb]'c5).toNat)):=⟨_,rfl⟩;rw[<-hxd]at hg hgs;have hx:x<4294967296:=by rw[hxd];exact Ydo (Ye7 _ _) (by decide)
  clear hxd;obtain⟨Bo,m1,hBo,hm1,hvm1,hct⟩:=zu8 (T:=T) A b j x hx (by omega) (by omega);rw[hnb,show nb+2+1=nb+3 from rfl,<-hsplit]at hvm1;have hm1l:=za3 m1;rw[hm1,hnb,show nb+2+1=nb+3 from rfl]at hm1l;have hVp:V<4294967296^(nb+3):=by
   rw[Yan 4294967296 (nb+2)];generalize 4294967296^(nb+2)=p at *
   omega
  have hpk:=zzj hbp hg.1 hg.2 hVp hm1l hBo hvm1;have hql:V/val b<4294967296:=Ycj (by rw[Yaw];exact hVlt);have hzb:val (A.drop (j+(b.length+1)))=0:=by rw[hnb];exact hz
  have htj:(A.take j).length=j:=by simp;omega
  have fin:∀m2:List UInt32,m2.length=b.length+1->val m2=V%val b ->
    (A.take j++(m2++A.drop (j+(b.length+1)))).length=A0.length/\val ((A.take j++(m2++A.drop (j+(b.length+1)))).drop j)<val b /\
    val A0=val (A.take j++(m2++A.drop (j+(b.length+1))))+4294967296^j*(val (w32 (V/val b)::m)*val b):=by
   intro m2 hm2 hvm2;refine⟨by simp[hm2];omega,?_,?_⟩
   ·rw[Yb5 (by omega),Ya7 (by omega),Yau,zaj,hzb,Yax,Yad,hvm2];exact Ya5 _ hbp
   ·have t1:val A=val (A.take j)+4294967296^j*V:=by rw[hV];exact zp6 A j (by omega)
    have t2:val (A.take j++(m2++A.drop (j+(b.length+1))))=val (A.take j)+4294967296^j*(V%val b):=by
     rw[zaj,zaj,hzb,Yax,Yad,hvm2,htj]
    rw[zao,zah hql];exact z3w t1 t2 (Ybs V (val b)).symm hv
  clear hv hvm1 hsplit h3 h2 hg hbB hVlt hlt hzb hz hv0 hb0 hm1l hVp;have hw1:IntKind.wrap .i64 ((j:Int)-1)=(j:Int)-1:=zab _ (by omega);have hw2:IntKind.wrap .i64 ((j:Int)+b.length)=((p0:Nat):Int):=by rw[zab _ (by omega)];omega
  have hw3:IntKind.wrap .i64 ((p0:Int)-1)=((p1:Nat):Int):=by rw[zab _ (by omega)];omega
  have hw4:IntKind.wrap .i64 ((p0:Int)-2)=((p2:Nat):Int):=by rw[zab _ (by omega)];omega
  have hw5:IntKind.wrap .i64 ((b.length:Int)-1)=((q1:Nat):Int):=by rw[zab _ (by omega)];omega
  have hw6:IntKind.wrap .i64 ((b.length:Int)-2)=((nb:Nat):Int):=by rw[zab _ (by omega)];omega
  have hj1:j<LQ:=by omega
  rw[hA]at hct;have hml:(w32 (V/val b)::m).length=LQ-j:=by simp[hm];omega
  have hjb:j+b.length<A.length:=by omega
  have hnb3:nb+3=b.length+1:=by omega
  have d1:p0<A0.length:=by omega
  have d2:p1<A0.length:=by omega
  have d3:p2<A0.length:=by omega
  rcases Ya4 Bo with h0 | h0
  ·obtain⟨hxq,hvm⟩:=hpk.1 h0;subst h0;subst hxq;have hset:=znd (m:=m) (j:=j) (w32 (V/val b));obtain⟨f1,f2,f3⟩:=fin m1 hm1 hvm;refine⟨(j,A.take j++(m1++A.drop (j+(b.length+1))),w32 (V/val b)::m),⟨Ydi hj1,f1,hml,f2,f3⟩,Y7 j,?_⟩;simp -implicitDefEqProofs[l93_0,Zmk,hw1,hw2,hw3,hw4,hw5,hw6,c4,c5,d1,d2,d3,hA,hj1,hgs,hct,hset,zne,zbp _ _ _ hx]
  ·have h1:Bo=1:=by omega
   obtain⟨hxq,hvm⟩:=hpk.2 h1;subst h1;have hset:=znd (m:=m) (j:=j) (w32 (V/val b));obtain⟨t1,t2,t3,t4⟩:=zzl (A:=A) hm1 hjb;rw[hA]at t4;obtain⟨D,m2,hD,hm2,hvm2,hcg⟩:=zu9 (T:=T) (A.take j++(m1++A.drop (j+(b.length+1)))) b j (by rw[t4,<-hA];exact hjb) (by rw[t4];exact hl);rw[t1,t2,t4]at hcg;rw[t3]at hvm2;have hm2l:=za3 m2;rw[hm2]at hm2l;have hVb:=Ya5 V hbp;have hbq:val b<4294967296^(b.length+1):=Y8 (za3 b) (Y9 (by decide) (Ybq _));rw[hnb3]at hvm;have hv2:=zzk (Nat.lt_trans hVb hbq) hvm hm2l hD hvm2;have hsx:=zu7 hxq hx;obtain⟨f1,f2,f3⟩:=fin m2 hm2 hv2;refine⟨(j,A.take j++(m2++A.drop (j+(b.length+1))),w32 (V/val b)::m),⟨Ydi hj1,f1,hml,f2,f3⟩,Y7 j,?_⟩;simp -implicitDefEqProofs[l93_0,Zmk,hw1,hw2,hw3,hw4,hw5,hw6,c4,c5,d1,d2,d3,hA,hj1,hgs,hct,hsx,hcg,hset,zne,zbp _ _ _ hql]
end
section
variable{T:Tbl}[Zu T][Zt T]
def zzn(A b:List UInt32)(LQ nb:Nat)(hnb:b.length=nb+2)(hb1:0<(b[nb+1]'(by omega)).toNat)(hl:A.length<=1000000)(hA:A.length=LQ+b.length)(hlt:val (A.drop LQ)<val b) :
  ∃Q R:List UInt32,Q.length=LQ/\R.length=A.length/\val Q=val A/val b/\val R=val A%val b /\
   Z4 T 93 [.bs (.bor 0) 0 1 0 A.length,.sl (Zc b) .an] [(.bor 0,⟨0,.own,1,Zc A⟩)]=some (.bs (.loc 15) 3 1 0 LQ,[(.bor 0,⟨0,.own,1,Zc R⟩),(.loc 15,⟨3,.own,1,Zc Q⟩)]):=by
 obtain⟨_,⟨Q,R,rfl,hQ,hR,hq,hr⟩,hlp⟩:=z8s (T:=T) A b LQ nb hnb hb1 hl hA (LQ,A,[]) ⟨Ye _,rfl,by simp,hlt,by simp⟩;have hw:IntKind.wrap .i64 ((A.length:Int)-b.length)=(LQ:Int):=by rw[zab _ (by omega)];omega
 have hw1:IntKind.wrap .i64 ((LQ:Int)-1)=(LQ:Int)-1:=zab _ (by omega);have h1:(LQ:Int)<=4294967296:=by omega
 refine⟨Q,R,hQ,hR,hq,hr,?_⟩;unfold Zmk at hlp;simp at hlp;rw[zam Zt.h93 rfl,b93];simp -implicitDefEqProofs[hw,hw1,h1,hlp]
end
section
def b2071:AX:=QZ "0fQ61kgIna7R94Q4KAAF1"
def l2092_0:AX:=QZ "0oAMYMBIFfcMA0cSilBKeA.nYwD0KC4kq6MlXDQBC5hjSUgiY2O2e8fFytJopBKpk.VT.Jg4DCuHMEV2kvE8nIAryUiOcdcY1OlVH2qYzw1XjU"
def b2092:AX:=(fun p0=>QY [p0] [(AV.i .i64 4096)] "hYGEMRNGv7B4f1c0WFcoYU1HzbQI6szzQVt4tNuhNyM57bDKfJNcrCNZxQJpjBFqulKAaFZ5GXWFS17BRqSbqLUZHwP7a2IR1") l2092_0
def b62:AX:=QZ "5h6ug2R4jNr1FywlRbljjyK_EaYpx3Mhy1l_SgMlvbq2tpcEAvb2ITIJ.U3nkvcKwh91WjUkSX0bc3RiW9CA96ToPeYvc0jaf2V7CwPFvHK0SrPGrreIklBGqMSMZ1sdmkPhAtyaUiLRlnO5DMbnigJJS0.sy43zaOwmOGhax12B90pNfY1yjNAKqoAP6GqQqAXB2dUQqIZ1hdFb_akrP955v483Xz_.kUKHA1.AAAERaiVOZM1xkX07_GpCpcHDpwbsfggs"
abbrev row2071:AFx:=⟨1,6,[.t 2],b2071,(some [false]),false⟩
abbrev row2092:AFx:=⟨2,57,[.t 4],b2092,(some [false,false]),false⟩
abbrev row62:AFx:=⟨2,65,[.t 4,.t 5,.t 6],b62,none,false⟩
class Zp (T:Tbl):Prop where
 h2071:Tr T 2071=some row2071
 h2092:Tr T 2092=some row2092
 h62:Tr T 62=some row62
attribute [simp] Zp.h2071 Zp.h2092 Zp.h62
end
def z8z(x:Nat):x<2^Zbe x:=by
 unfold Zbe;split
 ·subst x;decide
 ·exact Yeu
def zz2{x:Nat}(h:x<4294967296):Zbe x<=32:=by
 unfold Zbe;split
 ·omega
 ·rename_i h0;have:=(Yeq h0 (k:=32)).2 (by simpa using h);omega
def z58{n k:Nat}(h:(ofN n).length=k+1):4294967296^k<=n:=by
 rcases Yy n (4294967296^k) with h1 | h1
 ·have:=zas h1;omega
 ·exact h1
def zae7{b:List UInt32}{nb:Nat}(h:b.length=nb+2)(hb:b=ofN (val b)) :
  (ofN (val b*2^(32-Zbe (b[nb+1]'(by omega)).toNat))).length=nb+2:=by
 have hl:=zz2 (zan (b[nb+1]'(by omega)));have hs:=z8z (b[nb+1]'(by omega)).toNat;have h1:val b=val (b.take (nb+1))+4294967296^(nb+1)*(b[nb+1]'(by omega)).toNat:=by
  have:=zaf (Yb (show nb+1<b.length by omega))
  rwa [zbo (by omega)]at this
 have h2:=za3 (b.take (nb+1));rw[show (b.take (nb+1)).length=nb+1 by simp;omega]at h2;generalize (b[nb+1]'(by omega)).toNat=t at *
 refine Nat.le_antisymm (zas ?_) ?_
 ·have h3:val b<4294967296^(nb+1)*2^Zbe t:=by
   have:4294967296^(nb+1)*(t+1)<=4294967296^(nb+1)*2^Zbe t:=Yaq _ hs;rw[Yas,Yd4]at this;omega
  have h4:2^Zbe t*2^(32-Zbe t)=4294967296:=by
   rw[<-Ybu,show Zbe t+(32-Zbe t)=32 by omega]
  have h5:=Yd9 h3 (Ybe (n:=32-Zbe t) (show 0<2 by decide));rw[Yal,h4,<-Yan]at h5;exact h5
 ·have h3:val b<=val b*2^(32-Zbe t):=Ybc _ (Ybe (by decide));have:=zav h3;rw[<-hb]at this;omega
def z80{b:List UInt32}{nb:Nat}(h:b.length=nb+2)(hb:b=ofN (val b)):0<(b[nb+1]'(by omega)).toNat:=by
 have h1:val b=val (b.take (nb+1))+4294967296^(nb+1)*(b[nb+1]'(by omega)).toNat:=by
  have:=zaf (Yb (show nb+1<b.length by omega))
  rwa [zbo (by omega)]at this
 have h2:=za3 (b.take (nb+1));rw[show (b.take (nb+1)).length=nb+1 by simp;omega]at h2;have h3:4294967296^(nb+1)<=val b:=z58 (by rw[<-hb];omega);rcases Ya4 (b[nb+1]'(by omega)).toNat with h0 | h0
 ·rw[h0,Yax]at h1;omega
 ·exact h0
def zkb(l:List UInt32):val (l++[0])=val l:=by rw[zaj];simp
def zae8{A b:List UInt32}{nb L:Nat}(hA:(A++[0]).length=L+b.length)(hb:b.length=nb+2)(hbo:b=ofN (val b)):val ((A++[0]).drop L)<val b:=by
 have hl:L<=A.length:=by simp at hA;omega
 rw[Yb5 hl,zkb];have h1:=za3 (A.drop L);have h2:(A.drop L).length=nb+1:=by simp at hA ⊢;omega
 rw[h2]at h1;exact Y8 h1 (z58 (by rw[<-hbo];omega))
section
variable{T:Tbl}[Zu T][Zp T]
def zpl(a:List UInt32)(hl:a.length<=1000000):Z4 T 2071 [.sl (Zc a) .an] [] =
  some (.bs (.fld (.loc 5) 10) 1 1 0 (ofN (val a)).length,[(.fld (.loc 5) 10,⟨1,.own,1,Zc (ofN (val a))⟩)]):=by
 have h1:=zac a;have h2:=zdf (T:=T) (ofN (val a)) 0 (by omega);simp only[Yp,Yad,Ydg,Ya9]at h2;rw[zam Zp.h2071 rfl,b2071];simp -implicitDefEqProofs[zb4 a (by omega),h2]
end
section
variable{T:Tbl}[Zu T][Zp T]
def zkc(a:List UInt32)(n:Nat)(hn:n<=4096)(hl:a.length<=100000):Z4 T 2092 [.sl (Zc a) .an,.i .i64 n] [] =
  some (.bs (.fld (.fld (.loc 56) 0) 6010) 1 1 0 (ofN (val a*2^n)).length,[(.fld (.fld (.loc 56) 0) 6010,⟨1,.own,1,Zc (ofN (val a*2^n))⟩)]):=by
 obtain⟨_,⟨c,m,rfl,hm,hc,hv⟩,hr⟩:=z9v (T:=T) (List.replicate (n/32) 0) a (n%32) (Ya5 _ (by decide)) (by simp;omega) (0,0,[]) ⟨Yv _,Ybe (by decide),rfl,by simp⟩;have hc32:c<4294967296:=Y8 hc (by
  have:2^(n%32)<=2^32:=Y9 (by decide) (by omega);simpa using this)
 have hval:val (List.replicate (n/32) 0++(m++[w32 c]))=val a*2^n:=by
  rw[zaj,zbq,Yz,zaj,hm];simp only[zao,zbh,Yax,Yad,zah hc32,Yap];rw[hv,zp5,<-Yal,<-Ybu,show 32*(n/32)+n%32=n by omega,Yaw]
 have hlen:(List.replicate (n/32) 0++(m++[w32 c])).length=n/32+a.length+1:=by simp[hm];omega
 have hnm:=zpl (T:=T) (List.replicate (n/32) 0++(m++[w32 c])) (by omega);rw[hval]at hnm;rw[show l92_0=l2092_0 from rfl]at hr;unfold Zot at hr;generalize List.replicate (n/32) 0++(m++[w32 c])=Q at *
 simp at hr;have hz:List.replicate (n/32) (0:UInt32)++w32 0::List.replicate a.length 0=List.replicate (n/32+a.length+1) 0:=by
  have:w32 0=0:=rfl;rw[this,<-Ycn,List.replicate_append_replicate,Ya2]
 rw[hz]at hr;have hn2:¬ (4096:Int)<(n:Int):=by omega
 have hq:(n:Int).tdiv 32=(n:Int)/32:=Yc5 (by omega);have hm2:(n:Int).tmod 32=(n:Int)%32:=Yc6 (by omega);have w1:IntKind.wrap .i64 ((n:Int)/32)=(n:Int)/32:=zab (n/32) (by omega);have w2:IntKind.wrap .i64 ((n:Int)/32+a.length)=(n:Int)/32+a.length:=zab _ (by omega);have w3:IntKind.wrap .i64 ((n:Int)/32+a.length+1)=(n:Int)/32+a.length+1:=zab _ (by omega);have p1:(0:Int)<=(n:Int)/32+a.length+1:=by omega
 have p2:(n:Int)/32+a.length+1<=4294967296:=by omega
 have p3:((n:Int)/32+a.length+1).toNat=n/32+a.length+1:=by omega
 have htk:List.take (n/32+a.length+1) Q=Q:=Ya (by omega);rw[zam Zp.h2092 rfl,b2092];simp -implicitDefEqProofs[hn2,hq,hm2,w1,w2,w3,p1,p2,p3,hr,hnm,htk,hlen]
end
section
variable{T:Tbl}[Zu T][Z0 T][Zy T][Zt T][Zp T]
def zg8(a b:List UInt32)(ha:a.length<=90000)(hb:b.length<=90000):Za T 62 [.sl (Zc a) .an,.sl (Zc b) .an] =
  some (if val b=0 then .tup [.sl [] .an,.sl [] .an,.b false] else .tup [.sl (Zc (ofN (val a/val b))) .an,.sl (Zc (ofN (val a%val b))) .an,.b true]):=by
 have hnb:=zb5 (T:=T) b (by omega);have hna:=zb5 (T:=T) a (by omega);have hlb:=zac b;have hla:=zac a;have hcmp:=zj8 (T:=T) a (ofN (val b)) (by omega) (by omega);rw[zad]at hcmp;rw[zaa Zp.h62 rfl,b62];by_cases h0:val b=0
 ·rw[h0]at hnb;simp -implicitDefEqProofs[hnb,h0]
 ·have h0':ofN (val b)≠[]:=fun h=>h0 (zau.1 h);have hl0:(ofN (val b)).length≠0:=fun h=>h0' (Yaj h);by_cases hlt:val a<val b
  ·have hd:=Ya3 hlt;have hm:=Yq hlt;simp -implicitDefEqProofs[hnb,h0,hl0,hcmp,zd0,hlt,hna,hd,hm]
  ·rcases Yy 1 (ofN (val b)).length with h1 | h1
   ·obtain⟨b',hb'⟩:∃b',b'=ofN (val b):=⟨_,rfl⟩;have hvb:val b'=val b:=by rw[hb',zad]
    have hbo:b'=ofN (val b'):=by rw[hvb,hb']
    rw[<-hb']at hnb hcmp hl0 h1 hlb;obtain⟨nb,hnbl⟩:∃nb,b'.length=nb+2:=⟨b'.length-2,by omega⟩;have hll:=zs8 (T:=T) (b'[nb+1]'(by omega));have hbl:=zz2 (zan (b'[nb+1]'(by omega)));have hup:=zae7 hnbl hbo;obtain⟨s,hs⟩:∃s,s=32-Zbe (b'[nb+1]'(by omega)).toNat:=⟨_,rfl⟩;obtain⟨l,hll2⟩:∃l,l=Zbe (b'[nb+1]'(by omega)).toNat:=⟨_,rfl⟩;rw[<-hs]at hup;rw[<-hll2]at hll hs hbl;obtain⟨B,hB⟩:∃B,B=ofN (val b'*2^s):=⟨_,rfl⟩;obtain⟨A,hA⟩:∃A,A=ofN (val a*2^s):=⟨_,rfl⟩;have hua:=zkc (T:=T) a s (by omega) (by omega);have hub:=zkc (T:=T) b' s (by omega) (by omega);rw[<-hA]at hua;rw[<-hB]at hub hup;have hBo:B=ofN (val B):=by rw[hB,zad]
    have hvA:val A=val a*2^s:=by rw[hA,zad]
    have hvB:val B=val b'*2^s:=by rw[hB,zad]
    have hAB:B.length<=A.length:=by
     rw[hA,hB];exact zav (Yaa _ (by omega))
    have hAl:A.length<=a.length+1:=by
     rw[hA];refine zas ?_;have h2:2^s<=2^32:=Y9 (by decide) (by omega);rw[Yan];exact Ydo (Yaq _ h2) (Yd9 (za3 a) (by decide))
    have hpos:=z80 (hup) hBo;obtain⟨Q,R,hQ,hR,hvQ,hvR,hlong⟩:=zzn (T:=T) (A++[0]) B (A.length+1-B.length) nb hup hpos (by simp;omega) (by simp;omega) (zae8 (by simp;omega) hup hBo);rw[zkb,hvA,hvB,hvb,Nat.mul_div_mul_right _ _ (Ybe (by decide))]at hvQ;rw[zkb,hvA,hvB,hvb,Nat.mul_mod_mul_right]at hvR;have hnq:=zb5 (T:=T) Q (by omega);have hAl1:(A++[(0:UInt32)]).length=A.length+1:=by simp
    rw[hAl1]at hlong hR;have hdn:=z1q (T:=T) R s (by omega) (by omega);rw[hvR,Nat.mul_div_cancel _ (Ybe (by decide))]at hdn;rw[hvQ]at hnq;obtain⟨q1,hq1⟩:∃p,p=nb+1:=⟨_,rfl⟩;have c1:q1<b'.length:=by omega
    have hwt:b'[nb+1]'(by omega)=b'[q1]'c1:=zpd (by omega) _ _;rw[hwt]at hll;have w1:IntKind.wrap .i64 ((b'.length:Int)-1)=(q1:Int):=by rw[zab _ (by omega)];omega
    have w2:IntKind.wrap .i64 (32-(l:Int))=(s:Int):=by rw[zab _ (by omega)];omega
    have c3:A.length<=4294967295:=by omega
    have c4:w32 0=0:=rfl;have c5:A.length+1<=A.length+1-B.length+B.length:=by omega
    have c2:¬ ((b'.length:Int)=1):=by omega
    have t1:List.take (A.length+1) R=R:=Ya (by omega);have t2:List.take (A.length+1-B.length) Q=Q:=Ya (by omega);simp -implicitDefEqProofs[hnb,h0,hl0,hcmp,zd0,hlt,w1,w2,c1,c2,c3,c4,c5,hll,hua,hub,hlong,hnq,hdn,t1,t2,hQ,hR]
   ·have hl1:(ofN (val b)).length=1:=by omega
    obtain⟨w,hw⟩:=List.length_eq_one_iff.1 hl1;have hvb:val b=w.toNat:=by
     have:=zad (val b);rw[hw]at this;simp at this;omega
    have hwl:=zan w;have hwd:=zzz (T:=T) a (val b) (by omega) (by omega) (by omega);have hof:=zj7 (T:=T) (val a%val b) (by have:=Ya5 (val a) (show 0<val b by omega);omega);have m1:val a%val b%18446744073709551616=val a%val b:=Yq (by have:=Ya5 (val a) (show 0<val b by omega);omega);rw[hw]at hnb hcmp;rw[<-hvb]at hwl;simp -implicitDefEqProofs[hnb,h0,hcmp,zd0,hlt,hwd,<-hvb,hof,m1]
end
def Zqu(n:Nat):List UInt8:=if h:n<10 then [UInt8.ofNat (48+n)] else UInt8.ofNat (48+n%10)::Zqu (n/10)
termination_by n
decreasing_by omega
def Zkh(n:Nat):List UInt8:=(Zqu n).reverse
def Zpx:List AV->Option UInt32
 | [.i .u32 n]=>if 0<=n/\n<4294967296 then some (w32 n.toNat) else none
 | _=>none
def prim68:List AV->Option AV
 | [.sl els .an]=>if els.length<=1000 then (els.mapM Zpx).map fun l=>.s (Zkh (val l)) else none
 | _=>none
def Zqv:Nat->List UInt8->Int
 | _,[]=>-1
 | k,c::r=>if c.toNat<48\/57<c.toNat\/k=60 then k else Zqv (k+1) r
def Zl1(l:List UInt8):Int:=if l=[] then 0 else Zqv 0 l
def rd(l:List UInt8):Nat:=l.foldl (fun n c=>n*10+(c.toNat-48)) 0
def txN(n:Nat)(s:List UInt8):List UInt8:=if n=0/\s≠[] then s else Zkh n++s
def Zr5:Nat->Nat->List UInt8
 | 0,_=>[]
 | k+1,x=>Zr5 k (x/10)++[UInt8.ofNat (48+x%10)]
def u8c(l:List UInt8):List AV:=l.map fun b=>u8 b.toNat
class Za9 (T:Tbl):Prop where
class Zbd (T:Tbl):Prop where
section
variable{T:Tbl}[Zu T][Zy T][Za9 T]
def Ztr(l:List UInt8)(o:List UInt32)(i0 k:Nat):St:=
 ⟨[(0,.s l),(3,.ptr (.loc 3) 1 4 0 0),(5,.sl (Zc o) .an),(6,.i .i64 (i0+k:Nat)),(7,u32 (rd ((l.drop i0).take k))),(8,u32 (10^k)),(9,.i .i64 k)],[(.loc 3,⟨1,.str,4,[[.i .i64 0,.i .i64 0,.i .i64 0,.i .i64 0]]⟩)],3⟩
end
def sg(n:Bool)(k:Nat):Int:=if n then -(k:Int) else k
def wv(n:Bool)(a:List UInt32):Int:=sg n (val a)
abbrev wh(n:Bool)(a:List UInt32):AV:=.agg [.b n,.sl (Zc a) .an]
abbrev ez(z:Int):AV:=wh (decide (z<0)) (ofN z.natAbs)
def sgI(z:Int):Int:=if z<0 then -1 else if z=0 then 0 else 1
theorem ztm(n:Bool)(k:Nat):decide (sg n k<0)=(n&&decide (k≠0)):=by
 cases n
 ·simp[sg]
 ·by_cases h:k=0<;>simp[sg,h];omega
theorem ztn(n:Bool)(k:Nat):(sg n k).natAbs=k:=by cases n<;>simp[sg]
@[simp] theorem zkr(z:Int):wv (decide (z<0)) (ofN z.natAbs)=z:=by
 unfold wv;rw[zad];by_cases h:z<0
 ·simp[sg,h];omega
 ·simp[sg,h];omega
def zaf0(n:Bool)(a:List UInt32):(wv n a).natAbs=val a:=ztn n _
def z1v(n:Bool)(k:Nat):ez (sg n k)=wh (n&&decide (k≠0)) (ofN k):=by
 unfold ez;rw[ztm,ztn]
def zks(n:Bool)(x y:Nat):sg n (x+y)=sg n x+sg n y:=by cases n<;>simp[sg]<;>omega
def zp9{n m:Bool}(h:n≠m){x y:Nat}(hxy:x<y):sg m (y-x)=sg n x+sg m y:=by
 cases n<;>cases m<;>simp[sg]at h ⊢<;>omega
def zqa{n m:Bool}(h:n≠m){x y:Nat}(hxy:¬ x<y):sg n (x-y)=sg n x+sg m y:=by
 cases n<;>cases m<;>simp[sg]at h ⊢<;>omega
theorem z6d(n:Bool)(x:Nat):sg (!n) x=- sg n x:=by cases n<;>simp[sg]
theorem zto(n m:Bool)(x y:Nat):sg (n != m) (x*y)=sg n x*sg m y:=by cases n<;>cases m<;>simp[sg,Int.mul_neg,Yfg]
def z6e(n:Bool)(x:Nat):sgI (sg n x)=if x=0 then 0 else if n then -1 else 1:=by
 unfold sgI;cases n<;>simp[sg]<;>split<;>(try split)<;>omega
def Zo5(z:Int):List UInt8:=if z<0 then 45::Zkh z.natAbs else Zkh z.natAbs
def zcy{x y:Int}{L:Nat}(hx:(ofN x.natAbs).length<=L)(hy:(ofN y.natAbs).length<=L):(ofN (x+y).natAbs).length<=L+1:=by
 refine zas ?_;have h1:=za3 (ofN x.natAbs);have h2:=za3 (ofN y.natAbs);rw[zad]at h1 h2;have h3:4294967296^(ofN x.natAbs).length<=4294967296^L:=Y9 (by decide) hx;have h4:4294967296^(ofN y.natAbs).length<=4294967296^L:=Y9 (by decide) hy;rw[Yan];generalize 4294967296^L=p at *
 omega
def zkt(x:Int):ofN (-x).natAbs=ofN x.natAbs:=by rw[Int.natAbs_neg]
def za5{x y:Int}{L M:Nat}(hx:(ofN x.natAbs).length<=L)(hy:(ofN y.natAbs).length<=M):(ofN (x*y).natAbs).length<=L+M:=by
 refine zas ?_;have h1:=za3 (ofN x.natAbs);have h2:=za3 (ofN y.natAbs);rw[zad]at h1 h2;rw[Yfe,Ybu];exact Nat.mul_lt_mul'' (Y8 h1 (Y9 (by decide) hx)) (Y8 h2 (Y9 (by decide) hy))
def zb7(n:Bool)(a:List UInt32):(ofN (wv n a).natAbs).length<=a.length:=by rw[zaf0];exact zac a
def Zo6(l:List UInt8):Int:=sg (l.head? = some 45) (rd (if l.head? = some 45 then l.tail else l))
def Zn2(l:List UInt8):Int:=Zl1 (if l.head? = some 45 then l.tail else l)
def Zqw(l:List UInt8):Int:=if l.head? = some 45 then 1 else 0
section
def b55:AX:=QZ "MJHY_gVtS.Vh_zFJARCLZc5NGBIk9cXN7G0"
def b38:AX:=QZ "3ZeEbURWdMQIbT3EoW5Sn81zE8J7l"
def b40:AX:=QZ "0mjAzKb1qAR35cfOyyrgKtQ9X4r2AF4"
def b23:AX:=QZ "1zzU_dosWW6Z7X4_6__YfoCNnKfA5u52jM0QsTaoWYL6TOGeO3gkfDBa2J55HxKIAZgLQJf8dpeEIYgpweZiYUQg.bnHmbZvJ6MO0eg6zCoCRtUKpKtSUIeLs6mGQIRwPGBj"
def b25:AX:=QZ "22HVaoVwLylwspzaMVGmefDGMr.QnF4"
def b27:AX:=QZ "GyqzY7kAxKhpt9TVofii0uLs7hS9Ypr3mLDLs3Pgyl5"
def b37:AX:=QY [] [(AV.i .i64 (-1))] "XKLkhFP.DiGKQDmz_VBWJse6Al2kAHIueLuvKcueJg0q0jj79rK6"
def b41:AX:=QZ "EriHfyhrz1eY6htFG1tZrg8EZLRAdwWcleyOhdG3U7gYcFwhcBG.h"
def b36:AX:=QZ "131qqdhfd36UvOSCRkFGnvH4JGxdF"
abbrev row55:AFx:=⟨2,13,[.cell 4 (some 2)],b55,none,false⟩
abbrev row38:AFx:=⟨1,9,[.cell 2 (some 2)],b38,none,false⟩
abbrev row40:AFx:=⟨1,10,[.cell 2 (some 2)],b40,none,false⟩
abbrev row23:AFx:=⟨2,39,[.cell 4 (some 2)],b23,none,false⟩
abbrev row25:AFx:=⟨2,9,[.cell 4 (some 2)],b25,none,false⟩
abbrev row27:AFx:=⟨2,16,[.cell 4 (some 2)],b27,none,false⟩
abbrev row37:AFx:=⟨1,10,[.t 2],b37,none,false⟩
abbrev row41:AFx:=⟨1,14,[.cell 2 (some 2)],b41,none,false⟩
abbrev row36:AFx:=⟨2,9,[.t 4],b36,none,false⟩
class Zi (T:Tbl):Prop where
 h55:Tr T 55=some row55
 h38:Tr T 38=some row38
 h40:Tr T 40=some row40
 h23:Tr T 23=some row23
 h25:Tr T 25=some row25
 h27:Tr T 27=some row27
 h37:Tr T 37=some row37
 h41:Tr T 41=some row41
 h36:Tr T 36=some row36
attribute [simp] Zi.h55 Zi.h38 Zi.h40 Zi.h23 Zi.h25 Zi.h27 Zi.h37 Zi.h41 Zi.h36
end
section
def l198_0:AX:=QZ "9MUWqN.gmAFh5OSu_ZzEjTDV44Pn72T"
def b198:AX:=(fun p0=>QY [p0] [] "MA1LQv8moqUapNhA2uY5C5") l198_0
def l199_0:AX:=QZ "SA8dIuH5WTXYQcUgxjXOW2ZDRqwJDouHO8Uj97cedIycWR_biYpH0UEDoNgx.rS"
def b199:AX:=(fun p0=>QY [p0] [] "uk0HUT69oqQBpIrj90W5phA2X3GXy9v7esclvx0v2nzFYYVPt4UK098Dn54oEddKiBj3A8WO3U8w0VbtlS14PrchIRrIjkMSl5l5P1l_mNV953GBWqAcA0pJ9FyJp1.zciqOWJfF25g2ThIUDoywukKf4Ac.") l199_0
def b200:AX:=QZ "4Gh7RGwVbYk0eLsx.G_bit0jeJ5ub.CBNI"
def b201:AX:=QZ "0r4gLqGqGaDTjB9JMGhfs8jSj0YWfgHHoJ24wFOEDi7Ca9nTcDTNiAqS4NJdUo3yXJw5kdTYy3_MzQGBe3qbayMslvj_7Z4RvJVamJ9i0AkFvu0KOQu43mB7F8fhoAqaaLfiTwzlVcob5M0.1N48gU_p235"
abbrev row198:AFx:=⟨2,12,[.t 4],b198,none,false⟩
abbrev row199:AFx:=⟨2,56,[.t 4],b199,none,false⟩
abbrev row200:AFx:=⟨1,12,[.t 2],b200,none,false⟩
abbrev row201:AFx:=⟨2,37,[.t 4,.t 5],b201,none,false⟩
class Zl (T:Tbl):Prop where
 h198:Tr T 198=some row198
 h199:Tr T 199=some row199
 h200:Tr T 200=some row200
 h201:Tr T 201=some row201
attribute [simp] Zl.h198 Zl.h199 Zl.h200 Zl.h201
end
section
def b202:AX:=QZ "1Vz4vT7p8oLh4Dhg4hbOQWMIpjO7TCC.esnYYJBHdpQCjitPjgiNcDCI4P5EqNtNzutJ3n_."
def b203:AX:=QZ "71LvxElED5hKbY5T2LzjH4CXAegde39LWD7OsCaN00WG2D9v7hga8V64kjbYU201"
def b205:AX:=QZ "dniPPihQPIPmllwKS1yjk6cjEwrJW"
def b207:AX:=QZ "6yTkAKT.jATG8OIeLb.Jl4I8A2CJ"
def b209:AX:=QZ "0Txyw0xc2zEc1KuxOpX1ZI6EBji4OqOiMZezo_yvkOc4D3zoKM7Y"
def b210:AX:=QZ "3BiO0FLiIn9x8tAr2Gm1bj61Efx3"
def b211:AX:=QZ "KPN3fczgHNvhiftSxtNuZK_G8Xt3DmAobuxlzwrJQJoao7aKR7Z_AzrDp8aDOy05hMUUkkCCiDo6iLD9iD40l53x_zgHlSY1K17OxpF"
def b212:AX:=QZ "3guqO4s5vofxVuLp8h3LQ8y.2F2"
def b213:AX:=QZ "2dDUMt60EV0KNuf235P0tqgCZxwAMRGtd9aApp9Cm3zKz4PG0"
def b215:AX:=QZ "3bb_c2HoYKH3s8CEoccgKTW8LutJCR8zLOlV6EL7pWoNYjfMj3b9QbKxOSuFweu1XVGB9GUbzB5dQsTd4NoemeYQSzUe8YEQzvhnqFJfamflYdMFp5rbK9"
def b216:AX:=QZ "3bb_c2HoYKH3s8CEoccgKTW8LyyDsMEr.3wcNfERrNlWO25Ovbotu.0w9P815jeVylZuRo7ZzWm5yvGQYM6WESMxdgW_sb61oawM0dJzGuDMzdyKvoI8hH"
def b217:AX:=QZ "7Iv_sx37193j64vgwZqBMYonWxHClO4nknQth_DwJDFLYpM52bw2l_nhVcmf_GcJiGPz6pgRhn2_6f_jnCOW1iaNBcyFWvNNNHIBqZ0Bq"
def b218:AX:=QZ "1LFu57pB9cZf2YHoD_ZJYZAk76lniP1ZpQbO.WqhPJxTGO5IxqvOllSXDqPl5Fsyhf3pSQY10je2WVzmFQSrtriEGZIKb7McmrkLaZ3zsVjDzDjYQqRCUJRPlPthUiu4Dr4zSqbw_WaaXwZjgz8q70bcvDkcsfGx_LC30Dxqjr84"
abbrev row202:AFx:=⟨2,21,[.cell 4 (some 3)],b202,none,false⟩
abbrev row203:AFx:=⟨1,13,[.cell 2 (some 2),.t 3],b203,none,false⟩
abbrev row205:AFx:=⟨1,7,[.cell 2 (some 3)],b205,none,false⟩
abbrev row207:AFx:=⟨1,8,[.cell 2 (some 3)],b207,none,false⟩
abbrev row209:AFx:=⟨1,12,[.t 2],b209,none,false⟩
abbrev row210:AFx:=⟨2,9,[.cell 4 (some 2)],b210,none,false⟩
abbrev row211:AFx:=⟨2,26,[.t 4],b211,none,false⟩
abbrev row212:AFx:=⟨2,9,[.t 4],b212,none,false⟩
abbrev row213:AFx:=⟨1,11,[.cell 2 (some 3)],b213,none,false⟩
abbrev row215:AFx:=⟨2,30,[.cell 4 (some 3)],b215,none,false⟩
abbrev row216:AFx:=⟨2,30,[.cell 4 (some 3)],b216,none,false⟩
abbrev row217:AFx:=⟨2,26,[.cell 4 (some 3)],b217,none,false⟩
abbrev row218:AFx:=⟨2,40,[.cell 4 (some 3),.t 5],b218,none,false⟩
class Zs (T:Tbl):Prop where
 h202:Tr T 202=some row202
 h203:Tr T 203=some row203
 h205:Tr T 205=some row205
 h207:Tr T 207=some row207
 h209:Tr T 209=some row209
 h210:Tr T 210=some row210
 h211:Tr T 211=some row211
 h212:Tr T 212=some row212
 h213:Tr T 213=some row213
 h215:Tr T 215=some row215
 h216:Tr T 216=some row216
 h217:Tr T 217=some row217
 h218:Tr T 218=some row218
attribute [simp] Zs.h202 Zs.h203 Zs.h205 Zs.h207 Zs.h209 Zs.h210 Zs.h211 Zs.h212 Zs.h213 Zs.h215 Zs.h216 Zs.h217 Zs.h218
end
class Zet (T:Tbl):Prop where
end Go.Ab