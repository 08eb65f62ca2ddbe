/-
  A calculus of values, boxes and code, and what functions of the program compute, proved in it.
  Conditions: none beyond those that the theorems state. (Part 4.)
-/
import Derived.Test.YthhddiiohgfamaaGreatDoorPart3
import Derived.Lib.IndexAny
import Derived.Lib.Bytealg

set_option linter.unusedSectionVars false
set_option linter.unusedVariables false
set_option linter.unusedSimpArgs false
set_option linter.unnecessarySimpa false
set_option linter.defProp false

namespace Go.Ab
def zf1{P m S:List UInt32}{i:Nat}(hm:m.length=i)(hi:i<S.length):(P++(m++S.drop i))[P.length+i]? = some (S[i]'hi):=by
 rw[Ye (by omega),Ybv,Ye (by omega),hm,Ybe,Yaq,Yaa,Ya hi]
def zf2{P m S:List UInt32}{i:Nat}(w:UInt32)(hm:m.length=i)(hi:i<S.length):(P++(m++S.drop i)).set (P.length+i) w=P++((m++[w])++S.drop (i+1)):=by
 rw[Yai (P.length+i) w (by omega),Ybv,Yai i w (by omega),hm,Ybe,Yp hi,Yb7];simp
section
variable{T:Tbl}[Zw T]
def Zja(P S a:List UInt32)(x:Nat)(y:Nat×Nat×List UInt32):St:=
 ⟨[(0,.bs (.bor 0) 0 1 0 (P.length+S.length)),(1,.i .i64 P.length),(2,.sl (Za a) .an),(3,u32 x),(4,u32 y.2.1),(12,.sl (Za a) .an),(13,.i .i64 a.length),(14,.i .i64 y.1)],
  [(.bor 0,⟨0,.own,1,Za (P++(y.2.2++S.drop y.1))⟩)],4⟩
def zyd{p m w c c' s x y t v k:Nat}(h:m+p*c=s+x*t+k)(e:w+4294967296*c'=x*y+v+c):(m+p*w)+p*4294967296*c'=(s+p*v)+x*(t+p*y)+k:=by
 have e2:p*w+p*4294967296*c'=p*(x*y)+p*v+p*c:=by rw[Yaw,<-Yao,e,Yao,Yao]
 have e3:x*(t+p*y)=x*t+p*(x*y):=by rw[Yao,<-Yaw,Yaf x p,Yaw]
 omega
def zye(P S a:List UInt32)(x c0:Nat)(hx:x<4294967296)(hS:a.length<S.length)(hl:P.length+S.length<=1000000):∀y:Nat×Nat×List UInt32,
  (y.1<=a.length/\y.2.1<4294967296/\y.2.2.length=y.1/\val y.2.2+4294967296^y.1*y.2.1=val (S.take y.1)+x*val (a.take y.1)+c0) ->
  ∃r,(∃(c:Nat) (m:List UInt32),r=(Ex.n,(⟨[(0,.bs (.bor 0) 0 1 0 (P.length+S.length)),(1,.i .i64 P.length),(2,.sl (Za a) .an),(4,u32 c)],[(.bor 0,⟨0,.own,1,Za (P++(m++S.drop a.length))⟩)],4⟩:St)) /\
   m.length=a.length/\c<4294967296/\val m+4294967296^a.length*c=val (S.take a.length)+x*val a+c0)/\Zu T 1 0 (.norm false [0,1,2,4]) l89_0 (Zja P S a x y)=some r:=by
 refine za6 _ _ (fun y=>a.length-y.1) _ ?_
 rintro⟨i,c,m⟩ ⟨hi,hc,hm,hv⟩
 simp only at hi hc hm hv;by_cases h0:i<a.length
 ·left;have ha:a[i]? = some (a[i]'h0):=Ya h0;have hiS:i<S.length:=by omega
  have hs:S[i]? = some (S[i]'hiS):=Ya hiS;have hg:=zf1 (P:=P) hm hiS;have hw:IntKind.wrap .i64 ((i:Int)+1)=((i+1:Nat):Int):=zab _ (by omega);have hw2:IntKind.wrap .i64 ((P.length:Int)+i)=((P.length+i:Nat):Int):=zab _ (by omega);have hlt:P.length+i<P.length+S.length:=by omega
  have hlt2:((P.length+i:Nat):Int)<(P.length:Int)+S.length:=by omega
  have hla:=zal (a[i]'h0);have hls:=zal (S[i]'hiS);have hmul:=zh1 hx hla;have hlen:(P++(m++S.drop i)).length=P.length+S.length:=by simp;omega
  have hcall:=zh2 (T:=T) x (a[i]'h0).toNat (S[i]'hiS).toNat c hx hla hls hc;have hset:=zf2 (P:=P) (w32 (x*(a[i]'h0).toNat+(S[i]'hiS).toNat+c)) hm hiS;refine⟨(i+1,(x*(a[i]'h0).toNat+(S[i]'hiS).toNat+c)/4294967296,m++[w32 (x*(a[i]'h0).toNat+(S[i]'hiS).toNat+c)]),⟨h0,by simp only;omega,by simp[hm],?_⟩,by simp only;omega,?_⟩
  ·simp only;rw[zai,zae ha,zae hs,Yac,hm];simp only[zan,zbx,Ya0,Yaa,zdt];exact zyd hv (by have:=Yca (x*(a[i]'h0).toNat+(S[i]'hiS).toNat+c) 4294967296;omega)
  ·simp[l89_0,Zja,h0,hw,hw2,hiS,hg,hcall,hset]
 ·right;have:i=a.length:=by omega
  subst this;rw[Yb (Yi a.length)]at hv;refine⟨_,⟨c,m,rfl,hm,hc,hv⟩,?_,?_⟩<;>simp[l89_0,Zja]
def zkk(P S a:List UInt32)(x c0:Nat)(hx:x<4294967296)(hc:c0<4294967296)(hS:a.length<S.length)(hl:P.length+S.length<=1000000) :
  ∃m,m.length=a.length+1/\val m=val (S.take a.length)+x*val a+c0 /\
   Zd0 T 89 [.bs (.bor 0) 0 1 0 (P.length+S.length),.i .i64 P.length,.sl (Za a) .an,u32 x,u32 c0] [(.bor 0,⟨0,.own,1,Za (P++S)⟩)] =
    some (.tup [],[(.bor 0,⟨0,.own,1,Za (P++(m++S.drop (a.length+1)))⟩)]):=by
 obtain⟨_,⟨c,m,rfl,hm,hc1,hv⟩,hr⟩:=zye (T:=T) P S a x c0 hx hS hl (0,c0,[]) ⟨Y4 _,hc,rfl,by simp⟩;unfold Zja at hr;simp at hr;refine⟨m++[w32 c],by simp[hm],by rw[zai,hm];simpa[zaf hc1]using hv,?_⟩;have hw2:IntKind.wrap .i64 ((P.length:Int)+a.length)=((P.length+a.length:Nat):Int):=zab _ (by omega);have hlt:P.length+a.length<P.length+S.length:=by omega
 have hlt2:((P.length+a.length:Nat):Int)<(P.length:Int)+S.length:=by omega
 have hg:=zf1 (P:=P) hm hS;have hset:=zf2 (P:=P) (w32 c) hm hS;rw[zdp Zw.h89 rfl,b89];simp[hr,hw2,hg,hS,zbm _ _ _ hc1,hset]
def Zjb(a b:List UInt32)(y:Nat×List UInt32):St:=
 ⟨[(0,.sl (Za a) .an),(5,.bs (.loc 14) 1 1 0 (a.length+b.length+1)),(15,.sl (Za b) .an),(16,.i .i64 b.length),(17,.i .i64 y.1)],[(.loc 14,⟨1,.own,1,Za (y.2++List.replicate (b.length+1-y.1) 0)⟩)],3⟩
def zyf(a b:List UInt32)(ha:a.length<=100000)(hb:b.length<=100000):∀y:Nat×List UInt32,
  (y.1<=b.length/\y.2.length=a.length+y.1/\val y.2=val a*val (b.take y.1)) ->
  ∃r,(∃out:List UInt32,r=(Ex.n,(⟨[(5,.bs (.loc 14) 1 1 0 (a.length+b.length+1))],[(.loc 14,⟨1,.own,1,Za out⟩)],3⟩:St))/\out.length=a.length+b.length+1/\val out=val a*val b) /\
   Zu T 0 0 (.norm false [5]) l60_0 (Zjb a b y)=some r:=by
 refine za6 _ _ (fun y=>b.length-y.1) _ ?_
 rintro⟨i,X⟩ ⟨hi,hX,hv⟩
 simp only at hi hX hv;by_cases h0:i<b.length
 ·left;have hbg:b[i]? = some (b[i]'h0):=Ya h0;have hw:IntKind.wrap .i64 ((i:Int)+1)=((i+1:Nat):Int):=zab _ (by omega);obtain⟨m,hm1,hm2,hc⟩:=zkk (T:=T) (X.take i) (X.drop i++List.replicate (b.length+1-i) 0) a (b[i]'h0).toNat 0 (zal _) (by decide) (by simp;omega) (by simp;omega);have e1:X.take i++(X.drop i++List.replicate (b.length+1-i) 0)=X++List.replicate (b.length+1-i) 0:=by rw[<-Ybc,Yau]
  have e2:(X.take i).length=i:=by simp;omega
  have e3:(X.drop i++List.replicate (b.length+1-i) 0).length=a.length+b.length+1-i:=by simp;omega
  have e4:i+(a.length+b.length+1-i)=a.length+b.length+1:=by omega
  have e5:(X.drop i++List.replicate (b.length+1-i) 0).drop (a.length+1)=List.replicate (b.length+1-(i+1)) 0:=by
   rw[Yd3,Ya9 (by simp;omega),List.drop_replicate];simp only[Ybn,Ybp];congr 1;omega
  have e6:(X.drop i++List.replicate (b.length+1-i) 0).take a.length=X.drop i:=by
   rw[Ybt (by simp;omega),Yb (by simp;omega)]
  rw[e1,e2,e3,e4,e5]at hc;rw[e6]at hm2;simp only[<-Ybc]at hc;refine⟨(i+1,X.take i++m),⟨h0,by simp only[Yq,e2,hm1];omega,?_⟩,by simp only;omega,?_⟩
  ·simp only;have e7:=zai (X.take i) (X.drop i);rw[Yau,e2]at e7;rw[zai,e2,hm2,zae hbg,Yao (val a),<-hv,e7,Yao,Yao];have e8:4294967296^i*((b[i]'h0).toNat*val a)=val a*(4294967296^i*(b[i]'h0).toNat):=by
    rw[Yaf (b[i]'h0).toNat,<-Yaw,Yaf (4294967296^i) (val a),Yaw]
   rw[e8];omega
  ·simp[l60_0,Zjb,h0,hw,hc]
 ·right;have:i=b.length:=by omega
  subst this;rw[Yb (Yi _)]at hv;refine⟨_,⟨X++List.replicate (b.length+1-b.length) 0,rfl,by simp;omega,by rw[zai,za8,hv];simp⟩,?_,?_⟩<;>simp[l60_0,Zjb]
def zfm(a b:List UInt32)(ha:a.length<=100000)(hb:b.length<=100000):Zb T 60 [.sl (Za a) .an,.sl (Za b) .an]=some (.sl (Za (ofN (val a*val b))) .an):=by
 obtain⟨_,⟨out,rfl,ho,hv⟩,hr⟩:=zyf (T:=T) a b ha hb (0,List.replicate a.length 0) ⟨Y4 _,by simp,by simp[za8]⟩;unfold Zjb at hr;simp at hr;have hw1:IntKind.wrap .i64 ((a.length:Int)+b.length)=(a.length:Int)+b.length:=zab _ (by omega);have hw:IntKind.wrap .i64 ((a.length:Int)+b.length+1)=(a.length:Int)+b.length+1:=zab _ (by omega);have hle:(a.length:Int)+b.length+1<=4294967296:=by omega
 have hn:=za7 (T:=T) out (by omega);rw[hv]at hn;have htk:List.take (a.length+b.length+1) out=out:=Yb (by omega);have he:a.length+(b.length+1)=a.length+b.length+1:=by omega
 rw[he]at hr;rw[zaa Zw.h60 rfl,b60];simp[hw,hw1,hle,hr,ho,htk,hn]
def zvt(a:List UInt32)(x c:Nat)(ha:a.length<=100000)(hx:x<4294967296)(hc:c<4294967296):Zb T 100 [.sl (Za a) .an,u32 x,u32 c]=some (.sl (Za (ofN (val a*x+c))) .an):=by
 obtain⟨m,hm1,hm2,hr⟩:=zkk (T:=T) [] (List.replicate (a.length+1) 0) a x c hx hc (by simp) (by simp;omega);simp at hr;have hv:val m=val a*x+c:=by
  rw[hm2];have:val ((List.replicate (a.length+1) (0:UInt32)).take a.length)=0:=by rw[List.take_replicate,za8]
  rw[this,Yaf];omega
 have hw:IntKind.wrap .i64 ((a.length:Int)+1)=(a.length:Int)+1:=zab _ (by omega);have hle:(a.length:Int)+1<=4294967296:=by omega
 have hn:=za7 (T:=T) m (by omega);rw[hv]at hn;have htk:List.take (a.length+1) m=m:=Yb (by omega);rw[zaa Zw.h100 rfl,b100];simp[hw,hle,hr,hm1,htk,hn]
end
def zyl(w:Nat):4294967296^w=2^(32*w):=by
 rw[Yc7]
def zm1(a:List UInt32)(w:Nat)(h:w<=a.length):val a=val (a.take w)+4294967296^w*val (a.drop w):=by
 have:=zai (a.take w) (a.drop w);rw[Yau,Ya3,Yds h]at this;exact this
def z1w(a:List UInt32)(w:Nat)(h:w<=a.length):val a/4294967296^w=val (a.drop w):=by
 have hp:0<4294967296^w:=Ybr (by decide);have hlt:=zay (a.take w);rw[Ya3,Yds h]at hlt;rw[zm1 a w h,Ydi _ _ hp,Ybs hlt,Yar]
def zzl{a b n:Nat}(h:a<2^n):a ||| 2^n*b=a+2^n*b:=by
 rw[Nat.or_comm,<-Ycn h,Ybj]
def z1x{x c n:Nat}(hx:x<4294967296)(hn:n<32)(hc:c<2^n) :
  x*2^n<18446744073709551616/\(c ||| x*2^n%4294967296)=c+x*2^n%4294967296/\c+x*2^n%4294967296<4294967296/\x*2^n/4294967296<2^n/\2^n<4294967296:=by
 have hp:2^(n+(32-n))=4294967296:=by rw[show n+(32-n)=32 by omega]
 rw[Yb2]at hp;have hq:0<2^n:=Ybr (by decide);have hr:1<2^(32-n):=Nat.one_lt_two_pow (by omega);have e1:x*2^n%4294967296=2^n*(x%2^(32-n)):=by rw[<-hp,Yaf x,Nat.mul_mod_mul_left]
 have e2:=zzl (b:=x%2^(32-n)) hc;rw[<-e1]at e2;have hlt:2^n<4294967296:=by
  have h1:=Ya2 (2^n) (show 2<=2^(32-n) from hr);rw[hp]at h1;omega
 refine⟨?_,e2,?_,?_,hlt⟩
 ·have:=Nat.mul_lt_mul'' hx hlt;simpa using this
 ·rw[e1];have h1:x%2^(32-n)+1<=2^(32-n):=Ybh _ (by omega);have h2:=Ya2 (2^n) h1;rw[hp,Yao,Ydn]at h2;omega
 ·exact Ybi (by rw[Yaf x];rw[Yaf 4294967296];exact Nat.mul_lt_mul_of_pos_left hx hq)
def zv9{x y R b:Nat}(hb:b<32)(hx:x<4294967296) :
  (x+4294967296*(y+4294967296*R))/2^b=(x+y*4294967296)/2^b%4294967296+4294967296*((y+4294967296*R)/2^b):=by
 have hq:0<2^b:=Ybr (by decide);have h1:(x+4294967296*(y+4294967296*R))/4294967296=y+4294967296*R:=by omega
 have h2:(x+4294967296*(y+4294967296*R))/2^b/4294967296=(y+4294967296*R)/2^b:=by
  rw[Yb3,Yaf (2^b),<-Yb3,h1]
 have hp:2^b*2^(32-b)=4294967296:=by rw[<-Yb2,show b+(32-b)=32 by omega]
 have h3:x+4294967296*(y+4294967296*R)=(x+y*4294967296)+2^b*(4294967296*(2^(32-b)*R)):=by
  have:2^b*(4294967296*(2^(32-b)*R))=4294967296*(4294967296*R):=by
   rw[Nat.mul_left_comm,<-Yaw (2^b),hp]
  omega
 have h4:(x+4294967296*(y+4294967296*R))/2^b%4294967296=(x+y*4294967296)/2^b%4294967296:=by
  rw[h3,Ydi _ _ hq,Nat.add_mul_mod_self_left]
 have h5:=Nat.mod_add_div ((x+4294967296*(y+4294967296*R))/2^b) 4294967296;rw[h2,h4]at h5;exact h5.symm
def zp6{P m R:List UInt32}{i:Nat}{c:UInt32}(hm:m.length=i):(P++(m++c::R))[P.length+i]? = some c:=by
 grind
def zko{P m R:List UInt32}{i:Nat}{c:UInt32}(w:UInt32)(hm:m.length=i):(P++(m++c::R)).set (P.length+i) w=P++(m++w::R):=by
 rw[Yai (P.length+i) w (by omega),Ybv,Yai i w (by omega),hm,Ybe,Yb7]
def zyh{P m R:List UInt32}{i:Nat}{c d:UInt32}(w:UInt32)(hm:m.length=i):(P++(m++c::d::R)).set (P.length+i+1) w=P++(m++c::w::R):=by
 rw[Yap,Yai (P.length+(i+1)) w (by omega),Ybv,Yai (i+1) w (by omega),hm,show i+1-i=1 by omega]
 rfl
def zyi{P m R:List UInt32}{i:Nat}{c d:UInt32}(hm:m.length=i):(P++(m++c::d::R))[P.length+i+1]? = some d:=by
 grind
theorem zgn(n:Nat):w32 (n%4294967296)=w32 n:=zzk (by rw[zdt,Nat.mod_mod])
section
variable{T:Tbl}[Zn T][Zz T]
def Zkr(P a:List UInt32)(n:Nat)(y:Nat×Nat×List UInt32):St:=
 ⟨[(5,.i .i64 P.length),(6,.i .i64 n),(7,.bs (.loc 23) 1 1 0 (P.length+a.length+1)),(24,.sl (Za a) .an),(25,.i .i64 a.length),(26,.i .i64 y.1)],[(.loc 23,⟨1,.own,1,Za (P++(y.2.2++w32 y.2.1::List.replicate (a.length-y.1) 0))⟩)],3⟩
end
section
variable{T:Tbl}
def zv3(P a:List UInt32)(n:Nat)(hn:n<32)(hl:P.length+a.length<=1000000):∀y:Nat×Nat×List UInt32,
  (y.1<=a.length/\y.2.1<2^n/\y.2.2.length=y.1/\val y.2.2+4294967296^y.1*y.2.1=2^n*val (a.take y.1)) ->
  ∃r,(∃(c:Nat) (m:List UInt32),r=(Ex.n,(⟨[(7,.bs (.loc 23) 1 1 0 (P.length+a.length+1))],[(.loc 23,⟨1,.own,1,Za (P++(m++[w32 c]))⟩)],3⟩:St)) /\
   m.length=a.length/\c<2^n/\val m+4294967296^a.length*c=2^n*val a)/\Zu T 0 0 (.norm false [7]) l92_0 (Zkr P a n y)=some r:=by
 refine za6 _ _ (fun y=>a.length-y.1) _ ?_
 rintro⟨i,c,m⟩ ⟨hi,hc,hm,hv⟩
 simp only at hi hc hm hv;by_cases h0:i<a.length
 ·left;have ha:a[i]? = some (a[i]'h0):=Ya h0;obtain⟨u1,u2,u3,u4,u5⟩:=z1x (zal (a[i]'h0)) hn hc;have hx:=zal (a[i]'h0);have hrep:List.replicate (a.length-i) (0:UInt32)=0::List.replicate (a.length-(i+1)) 0:=by
   rw[show a.length-i=a.length-(i+1)+1 by omega,Yba]
  have hw:IntKind.wrap .i64 ((i:Int)+1)=((i+1:Nat):Int):=zab _ (by omega);have hw2:IntKind.wrap .i64 ((P.length:Int)+i)=((P.length+i:Nat):Int):=zab _ (by omega);have hw3:IntKind.wrap .i64 ((P.length:Int)+i+1)=((P.length+i+1:Nat):Int):=zab _ (by omega);have hg:=zp6 (P:=P) (c:=w32 c) (R:=0::List.replicate (a.length-(i+1)) 0) hm;have hg3:=zyi (P:=P) (c:=w32 (c+(a[i]'h0).toNat*2^n%4294967296)) (d:=0) (R:=List.replicate (a.length-(i+1)) 0) hm;have hs1:=zko (P:=P) (c:=w32 c) (R:=0::List.replicate (a.length-(i+1)) 0) (w32 (c+(a[i]'h0).toNat*2^n%4294967296)) hm;have hs2:=zyh (P:=P) (c:=w32 (c+(a[i]'h0).toNat*2^n%4294967296)) (d:=0) (R:=List.replicate (a.length-(i+1)) 0) (w32 ((a[i]'h0).toNat*2^n/4294967296)) hm;have hmin:min n 64=n:=by omega
  have hlt1:(P.length:Int)+i<(P.length:Int)+a.length+1:=by omega
  have hlt2:(P.length:Int)+i<(P.length:Int)+a.length:=by omega
  have m1:(a[i]'h0).toNat%18446744073709551616=(a[i]'h0).toNat:=Yu (by omega);have m2:=Yu u1;have m3:=Yu u3;have hcc:c<4294967296:=by omega
  have m4:(a[i]'h0).toNat*2^n/4294967296%4294967296=(a[i]'h0).toNat*2^n/4294967296:=Yu (by omega);have m5:(a[i]'h0).toNat*2^n/4294967296<4294967296:=by omega
  refine⟨(i+1,(a[i]'h0).toNat*2^n/4294967296,m++[w32 (c+(a[i]'h0).toNat*2^n%4294967296)]),⟨h0,u4,by grind,?_⟩,by omega,?_⟩
  ·grind[zai,zae,zan,zbx,zaf,Nat.div_add_mod]
  ·simp -implicitDefEqProofs[l92_0,Zkr,h0,hrep,hw,hw2,hw3,hg,hg3,hs1,hs2,zbm _ _ _ u3,zbm _ _ _ m5,hmin,hlt1,hlt2,m1,m2,m3,m4,u2,zaf hcc]
 ·right;have:i=a.length:=by omega
  subst this;rw[Yb (Yi a.length)]at hv;refine⟨_,⟨c,m,rfl,hm,hc,hv⟩,?_,?_⟩<;>simp -implicitDefEqProofs[l92_0,Zkr]
end
section
variable{T:Tbl}[Zn T][Zz T]
def z1t(a:List UInt32)(n:Nat)(hn:n<=4096)(hl:a.length<=100000):Zb T 92 [.sl (Za a) .an,.i .i64 n]=some (.sl (Za (ofN (val a*2^n))) .an):=by
 obtain⟨_,⟨c,m,rfl,hm,hc,hv⟩,hr⟩:=zv3 (T:=T) (List.replicate (n/32) 0) a (n%32) (Ybh _ (by decide)) (by grind) (0,0,[]) ⟨Y4 _,Ybr (by decide),rfl,by simp⟩;have hc32:c<4294967296:=Ym hc (by
  have:2^(n%32)<=2^32:=Yt (by decide) (by omega);omega)
 have hval:val (List.replicate (n/32) 0++(m++[w32 c]))=val a*2^n:=by
  rw[zai,za8,Ycj,zai,hm];simp only[zan,zbx,Ya0,Yaa,zaf hc32,Yar];rw[hv,zyl,<-Yaw,<-Yb2,show 32*(n/32)+n%32=n by omega,Yaf]
 have hlen:(List.replicate (n/32) 0++(m++[w32 c])).length=n/32+a.length+1:=by grind
 have hnm:=za7 (T:=T) (List.replicate (n/32) 0++(m++[w32 c])) (by omega);rw[hval]at hnm;unfold Zkr at hr;generalize List.replicate (n/32) 0++(m++[w32 c])=Q at *
 simp at hr;have hz:List.replicate (n/32) (0:UInt32)++w32 0::List.replicate a.length 0=List.replicate (n/32+a.length+1) 0:=by
  have:w32 0=0:=rfl;rw[this,<-Yba,Ycc,Yap]
 rw[hz]at hr;have hn2:¬ (4096:Int)<(n:Int):=by omega
 have hq:(n:Int).tdiv 32=(n:Int)/32:=Ycr (by omega);have hm2:(n:Int).tmod 32=(n:Int)%32:=Ycs (by omega);have w1:IntKind.wrap .i64 ((n:Int)/32)=(n:Int)/32:=zab (n/32) (by omega);have w2:IntKind.wrap .i64 ((n:Int)/32+a.length)=(n:Int)/32+a.length:=zab _ (by omega);have w3:IntKind.wrap .i64 ((n:Int)/32+a.length+1)=(n:Int)/32+a.length+1:=zab _ (by omega);have p1:(0:Int)<=(n:Int)/32+a.length+1:=by omega
 have p2:(n:Int)/32+a.length+1<=4294967296:=by omega
 have p3:((n:Int)/32+a.length+1).toNat=n/32+a.length+1:=by omega
 have htk:List.take (n/32+a.length+1) Q=Q:=Yb (by omega);rw[zaa Zz.h92 rfl,b92];simp -implicitDefEqProofs[hn2,hq,hm2,w1,w2,w3,p1,p2,p3,hr,hnm,htk,hlen]
def Zks(a:List UInt32)(W n:Nat)(y:Nat×List UInt32):St:=
 ⟨[(0,.sl (Za a) .an),(5,.i .i64 W),(6,.i .i64 n),(7,.bs (.loc 24) 1 1 0 (a.length-W)),(26,.i .i64 (a.length-W:Nat)),(27,.i .i64 y.1)],[(.loc 24,⟨1,.own,1,Za (y.2++List.replicate (a.length-W-y.1) 0)⟩)],3⟩
end
section
variable{T:Tbl}
def zv4(a:List UInt32)(W n:Nat)(hn:n<32)(hW:W<=a.length)(hl:a.length<=1000000):∀y:Nat×List UInt32,
  (y.1<=a.length-W/\y.2.length=y.1/\val y.2+4294967296^y.1*(val (a.drop (W+y.1))/2^n)=val (a.drop W)/2^n) ->
  ∃r,(∃m:List UInt32,r=(Ex.n,(⟨[(7,.bs (.loc 24) 1 1 0 (a.length-W))],[(.loc 24,⟨1,.own,1,Za m⟩)],3⟩:St)) /\
   m.length=a.length-W/\val m=val (a.drop W)/2^n)/\Zu T 0 0 (.norm false [7]) l94_0 (Zks a W n y)=some r:=by
 refine za6 _ _ (fun y=>a.length-W-y.1) _ ?_
 rintro⟨i,m⟩ ⟨hi,hm,hv⟩
 by_cases h0:i<a.length-W
 ·left;have hWi:W+i<a.length:=by omega
  have ha:a[W+i]? = some (a[W+i]'hWi):=Ya hWi;have hx:=zal (a[W+i]'hWi);have hd:=Yp hWi;have hrep:List.replicate (a.length-W-i) (0:UInt32)=0::List.replicate (a.length-W-(i+1)) 0:=by
   rw[show a.length-W-i=a.length-W-(i+1)+1 by omega,Yba]
  have hw:IntKind.wrap .i64 ((i:Int)+1)=((i+1:Nat):Int):=zab _ (by omega);have hw2:IntKind.wrap .i64 ((W:Int)+i)=((W+i:Nat):Int):=zab _ (by omega);have hw3:IntKind.wrap .i64 ((W:Int)+i+1)=((W+i+1:Nat):Int):=zab _ (by omega);have hg:=zp6 (P:=[]) (c:=0) (R:=List.replicate (a.length-W-(i+1)) 0) hm;have hmin:min n 64=n:=by omega
  have hlt1:(W:Int)+i<(a.length:Int):=by omega
  have hlt3:((W:Int)+i).toNat=W+i:=by omega
  have m1:(a[W+i]'hWi).toNat%18446744073709551616=(a[W+i]'hWi).toNat:=Yu (by omega);have fin:∀y R:Nat,val (a.drop (W+i+1))=y+4294967296*R->val (m++[w32 (((a[W+i]'hWi).toNat+y*4294967296)/2^n%4294967296)])+4294967296^(i+1)*(val (a.drop (W+(i+1)))/2^n)=val (a.drop W)/2^n:=by
   intro y R hR;have hmod:((a[W+i]'hWi).toNat+y*4294967296)/2^n%4294967296<4294967296:=Ybh _ (by decide);have hdw:=zv9 (x:=(a[W+i]'hWi).toNat) (y:=y) (R:=R) hn hx;rw[hd,zan,hR,hdw,<-hR]at hv
   grind[zai,zan,zbx,zaf]
  by_cases h1:W+i+1<a.length
  ·have hd1:=Yp h1;have hy:=zal (a[W+i+1]'h1);have m2:(a[W+i+1]'h1).toNat%18446744073709551616=(a[W+i+1]'h1).toNat:=Yu (by omega);have m3:(a[W+i+1]'h1).toNat*4294967296%18446744073709551616=(a[W+i+1]'h1).toNat*4294967296:=Yu (by omega);have hor:(a[W+i]'hWi).toNat ||| (a[W+i+1]'h1).toNat*4294967296=(a[W+i]'hWi).toNat+(a[W+i+1]'h1).toNat*4294967296:=by
    have:=zzl (a:=(a[W+i]'hWi).toNat) (b:=(a[W+i+1]'h1).toNat) (n:=32) (by simp)
    grind
   have m4:((a[W+i]'hWi).toNat+(a[W+i+1]'h1).toNat*4294967296)%18446744073709551616=(a[W+i]'hWi).toNat+(a[W+i+1]'h1).toNat*4294967296:=Yu (by omega);have hs1:=zko (P:=[]) (c:=0) (R:=List.replicate (a.length-W-(i+1)) 0) (w32 (((a[W+i]'hWi).toNat+(a[W+i+1]'h1).toNat*4294967296)/2^n%4294967296)) hm;have hlt2:(W:Int)+i+1<(a.length:Int):=by omega
   have hlt4:((W:Int)+i+1).toNat=W+i+1:=by omega
   refine⟨(i+1,m++[w32 (((a[W+i]'hWi).toNat+(a[W+i+1]'h1).toNat*4294967296)/2^n%4294967296)]),⟨h0,by grind,fin _ (val (a.drop (W+i+1+1))) (by rw[hd1,zan])⟩,by omega,?_⟩;simp at hg;simp[zgn]at hs1;simp -implicitDefEqProofs[l94_0,Zks,h0,ha,hrep,hw,hw2,hw3,hg,hs1,zgn,hmin,hlt1,hlt2,hlt3,hlt4,m1,m2,m3,m4,hor,h1]
  ·have hs1:=zko (P:=[]) (c:=0) (R:=List.replicate (a.length-W-(i+1)) 0) (w32 ((a[W+i]'hWi).toNat/2^n%4294967296)) hm;have hlt2:¬ (W:Int)+i+1<(a.length:Int):=by omega
   have f0:=fin 0 0 (by rw[Ya9 (by omega),zbx,Ya0]);refine⟨(i+1,m++[w32 ((a[W+i]'hWi).toNat/2^n%4294967296)]),⟨h0,by grind,f0⟩,by omega,?_⟩;simp at hg;simp[zgn]at hs1;simp -implicitDefEqProofs[l94_0,Zks,h0,ha,hrep,hw,hw2,hw3,hg,hs1,zgn,hmin,hlt1,hlt2,hlt3,m1]
 ·right;have:i=a.length-W:=by omega
  subst this;rw[show W+(a.length-W)=a.length by omega,Yah,zbx,Nat.zero_div,Ya0,Yaa]at hv;refine⟨_,⟨m++List.replicate (a.length-W-(a.length-W)) 0,rfl,by grind,by grind⟩,?_,?_⟩<;>simp -implicitDefEqProofs[l94_0,Zks]
end
section
variable{T:Tbl}[Zn T][Zz T]
def zv5(a:List UInt32)(n:Nat)(h:n/32<=a.length):val (a.drop (n/32))/2^(n%32)=val a/2^n:=by
 rw[<-z1w a _ h,Yb3,zyl,<-Yb2,show 32*(n/32)+n%32=n by omega]
def zv6(a:List UInt32)(n:Nat)(hn:n<=100000000)(hl:a.length<=100000):Zb T 94 [.sl (Za a) .an,.i .i64 n]=some (.sl (Za (ofN (val a/2^n))) .an):=by
 have hn2:¬ (n:Int)<0:=by omega
 have hq:(n:Int).tdiv 32=(n:Int)/32:=Ycr (by omega);have hm2:(n:Int).tmod 32=(n:Int)%32:=Ycs (by omega);have w1:IntKind.wrap .i64 ((n:Int)/32)=(n:Int)/32:=zab (n/32) (by omega);rcases Yv (n/32) a.length with h0 | h0
 ·obtain⟨_,⟨m,rfl,hm,hv⟩,hr⟩:=zv4 (T:=T) a (n/32) (n%32) (Ybh _ (by decide)) (by omega) (by omega) (0,[]) ⟨Y4 _,rfl,by rw[zbx,Yef,Yd1,Yar,Yaa]⟩;rw[zv5 a n (by omega)]at hv;have hnm:=za7 (T:=T) m (by omega);rw[hv]at hnm;unfold Zks at hr;have hsub:((a.length-n/32:Nat):Int)=(a.length:Int)-(n:Int)/32:=by omega
  simp[hsub]at hr;have p0:¬ (a.length:Int)<=(n:Int)/32:=by omega
  have w2:IntKind.wrap .i64 ((a.length:Int)-(n:Int)/32)=(a.length:Int)-(n:Int)/32:=zab _ (by omega);have p1:(n:Int)/32<=(a.length:Int):=by omega
  have p2:(a.length:Int)-(n:Int)/32<=4294967296:=by omega
  have p3:((a.length:Int)-(n:Int)/32).toNat=a.length-n/32:=by omega
  have htk:List.take (a.length-n/32) m=m:=Yb (by omega);have p5:a.length<=a.length-n/32+n/32:=by omega
  rw[zaa Zz.h94 rfl,b94];simp -implicitDefEqProofs[hn2,hq,hm2,w1,w2,p0,p5,p1,p2,p3,hsub,hr,hnm,htk,hm]
 ·have hz:val a/2^n=0:=by
   refine Ybs (Ym (zay a) ?_);rw[zyl];exact Yt (by decide) (by omega)
  have p0:(a.length:Int)<=(n:Int)/32:=by omega
  rw[hz,zkp,zaa Zz.h94 rfl,b94];simp -implicitDefEqProofs[hn2,hq,hm2,w1,p0]
end
section
def l90_0:AX:=
 (.note
 (.seq
 (.seq
 (.reg [mv 16 7,rg 17 (.bin .geq (.t 16) (.c (.i .i64 0)))])
 (.cond (.t 17)
 .skip
 (.exit 0)))
 (.seq
 (.block 1
 (.reg [mv 21 4,mv 22 7,mv 23 5,mv 24 0,mv 25 7,rg 26 (.iad 1 (.t 24) (.t 25)),rg 27 (.load none (.t 26)),mv 28 1,rg 29 (.call 118 [(.t 23),(.t 27),(.t 28)]),mv 20 29,rg 30 (.ext (.t 20) 0),rg 31 (.ext (.t 20) 1),rg 32 (.ext (.t 20) 2),rg 33 (.iad 1 (.t 21) (.t 22)),so (.store 1 (.t 33) (.t 30)),mv 5 31]))
 (.reg [mv 18 7,rg 19 (.bin .sub (.t 18) (.c (.i .i64 1))),mv 7 19])))
 (.norm false [0,1,4,5,7]))
def b90:AX:=
 (.seq
 (.reg [rg 4 (.mov (.c (.sl [] .nl))),rg 5 (.mov (.c (u32 0))),rg 6 (.mov (.c (.b false)))])
 (.seq
 (.seq
 (.reg [mv 8 1,rg 9 (.bin .eql (.t 8) (.c (u32 0)))])
 (.cond (.t 9)
 (.seq
 (.reg [rg 4 (.mov (.c (.sl [] .nl))),rg 5 (.mov (.c (u32 0))),rg 6 (.mov (.c (.b false)))])
 (.pre (.norm false [4,5,6]) .ret))
 .skip))
 (.seq
 (.reg [mv 10 0,rg 11 (.len (.t 10)),rg 12 (.mks 1 [(u32 0)] (.t 11) (.t 11)),mv 4 12])
 (.seq
 (.seq
 (.reg [mv 13 0,rg 14 (.len (.t 13)),rg 15 (.bin .sub (.t 14) (.c (.i .i64 1))),mv 7 15])
 (.lp 0 (.norm false [0,1,4,5,7]) l90_0 (.norm false [4,5])))
 (.seq
 (.reg [mv 34 4,rg 35 (.call 71 [(.t 34)]),mv 36 5,mv 4 35,mv 5 36,rg 6 (.mov (.c (.b true)))])
 (.pre (.norm false [4,5,6]) .ret))))))
def l119_0:AX:=
 (.note
 (.block 1
 (.seq
 (.reg [mv 46 11,mv 47 4,rg 48 (.call 117 [(.t 46),(.t 47),(.c (u32 0)),(.c (u32 0))]),mv 45 48,rg 49 (.ext (.t 45) 0),rg 50 (.ext (.t 45) 1),mv 16 49,mv 17 50])
 (.seq
 (.seq
 (.reg [mv 51 16,mv 52 12,rg 53 (.bin .lss (.t 51) (.t 52)),mv 54 53,gd 55 54 false (.mov (.t 16)),gd 56 54 false (.mov (.t 12)),gd 57 54 false (.bin .eql (.t 55) (.t 56)),gd 58 54 false (.mov (.t 57)),gd 59 58 true (.mov (.t 17)),gd 60 58 true (.mov (.t 2)),gd 61 58 true (.bin .leq (.t 59) (.t 60)),gd 62 54 false (.pick (.t 58) (.t 61) (.c (.b false))),rg 63 (.pick (.t 54) (.c (.b true)) (.t 62))])
 (.cond (.t 63)
 (.exit 0)
 .skip))
 (.seq
 (.reg [mv 64 11,rg 65 (.bin .sub (.t 64) (.c (u32 1))),mv 11 65])
 (.seq
 (.reg [mv 67 12,mv 68 3,rg 69 (.call 115 [(.t 67),(.t 68),(.c (u32 0))]),mv 66 69,rg 70 (.ext (.t 66) 0),rg 71 (.ext (.t 66) 1),mv 18 70,mv 19 71])
 (.seq
 (.seq
 (.reg [mv 72 19,rg 73 (.bin .gtr (.t 72) (.c (u32 0)))])
 (.cond (.t 73)
 (.exit 0)
 .skip))
 (.reg [mv 74 18,mv 12 74])))))))
 (.norm false [2,3,4,11,12]))
def b119:AX:=
 (.seq
 (.reg [rg 10 (.mov (.c (u32 0)))])
 (.scope
 (.seq
 (.reg [mv 21 0,mv 22 1,mv 23 3,rg 24 (.call 118 [(.t 21),(.t 22),(.t 23)]),mv 20 24,rg 25 (.ext (.t 20) 0),rg 26 (.ext (.t 20) 1),rg 27 (.ext (.t 20) 2),mv 11 25,mv 12 26,mv 13 27])
 (.seq
 (.seq
 (.reg [mv 28 13,rg 29 (.un .not (.t 28))])
 (.cond (.t 29)
 (.seq
 (.reg [rg 11 (.mov (.c (u32 4294967295)))])
 (.seq
 (.reg [mv 31 1,mv 32 3,rg 33 (.call 115 [(.t 31),(.t 32),(.c (u32 0))]),mv 30 33,rg 34 (.ext (.t 30) 0),rg 35 (.ext (.t 30) 1),mv 14 34,mv 15 35])
 (.seq
 (.seq
 (.reg [mv 36 0,mv 37 3,rg 38 (.bin .gtr (.t 36) (.t 37)),mv 39 38,gd 40 39 false (.mov (.t 15)),gd 41 39 false (.bin .gtr (.t 40) (.c (u32 0))),rg 42 (.pick (.t 39) (.c (.b true)) (.t 41))])
 (.cond (.t 42)
 (.seq
 (.reg [mv 43 11,mv 10 43])
 (.pre (.norm false [10]) .ret))
 .skip))
 (.reg [mv 44 14,mv 12 44]))))
 .skip))
 (.seq
 (.label 0)
 (.seq
 (.lp 0 (.norm false [2,3,4,11,12]) l119_0 (.norm false [11]))
 (.seq
 (.reg [mv 75 11,mv 10 75])
 (.pre (.norm false [10]) .ret))))))))
def l120_0:AX:=
 (.note
 (.seq
 (.reg [rg 18 (.bin .lss (.t 17) (.t 16))])
 (.seq
 (.cond (.t 18)
 .skip
 (.exit 0))
 (.seq
 (.block 1
 (.seq
 (.reg [mv 19 17,rg 20 (.iad 1 (.t 15) (.t 17)),rg 21 (.load none (.t 20)),mv 11 19,mv 12 21])
 (.seq
 (.reg [rg 13 (.mov (.c (u32 0)))])
 (.seq
 (.reg [mv 23 3,mv 24 12,mv 25 9,rg 26 (.call 117 [(.t 23),(.t 24),(.t 25),(.c (u32 0))]),mv 22 26,rg 27 (.ext (.t 22) 0),rg 28 (.ext (.t 22) 1),mv 9 27,mv 13 28])
 (.reg [mv 30 0,mv 31 1,mv 32 11,rg 33 (.bin .add (.t 31) (.t 32)),mv 34 0,mv 35 1,mv 36 11,rg 37 (.bin .add (.t 35) (.t 36)),rg 38 (.iad 1 (.t 34) (.t 37)),rg 39 (.load none (.t 38)),mv 40 13,mv 41 10,rg 42 (.call 116 [(.t 39),(.t 40),(.t 41)]),mv 29 42,rg 43 (.ext (.t 29) 0),rg 44 (.ext (.t 29) 1),rg 45 (.iad 1 (.t 30) (.t 33)),so (.store 1 (.t 45) (.t 43)),mv 10 44])))))
 (.reg [rg 46 (.bin .add (.t 17) (.c (.i .i64 1))),mv 17 46]))))
 (.norm false [0,1,2,3,9,10,15,16,17]))
def b120:AX:=
 (.seq
 (.reg [rg 8 (.mov (.c (.b false)))])
 (.seq
 (.reg [rg 9 (.mov (.c (u32 0))),rg 10 (.mov (.c (u32 0)))])
 (.seq
 (.seq
 (.reg [mv 15 2,rg 16 (.len (.t 15)),rg 17 (.mov (.c (.i .i64 0)))])
 (.lp 0 (.norm false [0,1,2,3,9,10,15,16,17]) l120_0 (.norm false [0,1,2,9,10])))
 (.seq
 (.reg [mv 47 1,mv 48 2,rg 49 (.len (.t 48)),rg 50 (.bin .add (.t 47) (.t 49)),mv 14 50])
 (.seq
 (.reg [mv 52 0,mv 53 14,mv 54 0,mv 55 14,rg 56 (.iad 1 (.t 54) (.t 55)),rg 57 (.load none (.t 56)),mv 58 9,mv 59 10,rg 60 (.call 116 [(.t 57),(.t 58),(.t 59)]),mv 51 60,rg 61 (.ext (.t 51) 0),rg 62 (.ext (.t 51) 1),rg 63 (.iad 1 (.t 52) (.t 53)),so (.store 1 (.t 63) (.t 61)),mv 10 62])
 (.seq
 (.reg [mv 64 10,rg 65 (.bin .gtr (.t 64) (.c (u32 0))),mv 8 65])
 (.pre (.norm false [8]) .ret)))))))
def l121_0:AX:=
 (.note
 (.seq
 (.reg [rg 12 (.bin .lss (.t 11) (.t 10))])
 (.seq
 (.cond (.t 12)
 .skip
 (.exit 0))
 (.seq
 (.block 1
 (.seq
 (.reg [mv 13 11,rg 14 (.iad 1 (.t 9) (.t 11)),rg 15 (.load none (.t 14)),mv 7 13,mv 8 15])
 (.reg [mv 17 0,mv 18 1,mv 19 7,rg 20 (.bin .add (.t 18) (.t 19)),mv 21 0,mv 22 1,mv 23 7,rg 24 (.bin .add (.t 22) (.t 23)),rg 25 (.iad 1 (.t 21) (.t 24)),rg 26 (.load none (.t 25)),mv 27 8,mv 28 6,rg 29 (.call 115 [(.t 26),(.t 27),(.t 28)]),mv 16 29,rg 30 (.ext (.t 16) 0),rg 31 (.ext (.t 16) 1),rg 32 (.iad 1 (.t 17) (.t 20)),so (.store 1 (.t 32) (.t 30)),mv 6 31])))
 (.reg [rg 33 (.bin .add (.t 11) (.c (.i .i64 1))),mv 11 33]))))
 (.norm false [0,1,2,6,9,10,11]))
def b121:AX:=
 (.seq
 (.reg [rg 6 (.mov (.c (u32 0)))])
 (.seq
 (.seq
 (.reg [mv 9 2,rg 10 (.len (.t 9)),rg 11 (.mov (.c (.i .i64 0)))])
 (.lp 0 (.norm false [0,1,2,6,9,10,11]) l121_0 (.norm false [0,1,2,6])))
 (.reg [mv 34 0,mv 35 1,mv 36 2,rg 37 (.len (.t 36)),rg 38 (.bin .add (.t 35) (.t 37)),rg 39 (.iad 1 (.t 34) (.t 38)),rg 40 (.load none (.t 39)),mv 41 6,rg 42 (.bin .add (.t 40) (.t 41)),rg 43 (.iad 1 (.t 34) (.t 38)),so (.store 1 (.t 43) (.t 42))])))
def l93_0:AX:=
 (.note
 (.seq
 (.seq
 (.reg [mv 19 7,rg 20 (.bin .geq (.t 19) (.c (.i .i64 0)))])
 (.cond (.t 20)
 .skip
 (.exit 0)))
 (.seq
 (.block 1
 (.seq
 (.drawT [mv 23 0,mv 24 7,mv 25 5,rg 26 (.bin .add (.t 24) (.t 25)),rg 27 (.iad 1 (.t 23) (.t 26)),rg 28 (.load none (.t 27)),mv 29 0,mv 30 7,mv 31 5,rg 32 (.bin .add (.t 30) (.t 31)),rg 33 (.bin .sub (.t 32) (.c (.i .i64 1))),rg 34 (.iad 1 (.t 29) (.t 33)),rg 35 (.load none (.t 34)),mv 36 0,mv 37 7,mv 38 5,rg 39 (.bin .add (.t 37) (.t 38)),rg 40 (.bin .sub (.t 39) (.c (.i .i64 2))),rg 41 (.iad 1 (.t 36) (.t 40)),rg 42 (.load none (.t 41)),mv 43 1,mv 44 5,rg 45 (.bin .sub (.t 44) (.c (.i .i64 1))),rg 46 (.iad 1 (.t 43) (.t 45)),rg 47 (.load none (.t 46)),mv 48 1,mv 49 5,rg 50 (.bin .sub (.t 49) (.c (.i .i64 2))),rg 51 (.iad 1 (.t 48) (.t 50)),rg 52 (.load none (.t 51))]
 [rg 53 (.call 119 [(.t 28),(.t 35),(.t 42),(.t 47),(.t 52)]),mv 8 53])
 (.seq
 (.seq
 (.reg [mv 54 0,mv 55 7,mv 56 1,mv 57 8,rg 58 (.call 120 [(.t 54),(.t 55),(.t 56),(.t 57)])])
 (.cond (.t 58)
 (.seq
 (.reg [mv 59 8,rg 60 (.bin .sub (.t 59) (.c (u32 1))),mv 8 60])
 (.reg [mv 61 0,mv 62 7,mv 63 1,rg 64 (.call 121 [(.t 61),(.t 62),(.t 63)])]))
 .skip))
 (.reg [mv 65 6,mv 66 7,mv 67 8,rg 68 (.iad 1 (.t 65) (.t 66)),so (.store 1 (.t 68) (.t 67))]))))
 (.reg [mv 21 7,rg 22 (.bin .sub (.t 21) (.c (.i .i64 1))),mv 7 22])))
 (.norm false [0,1,5,6,7]))
def b93:AX:=
 (.seq
 (.reg [rg 4 (.mov (.c (.sl [] .nl)))])
 (.seq
 (.reg [mv 9 1,rg 10 (.len (.t 9)),mv 5 10])
 (.seq
 (.reg [mv 11 0,rg 12 (.len (.t 11)),mv 13 5,rg 14 (.bin .sub (.t 12) (.t 13)),rg 15 (.mks 1 [(u32 0)] (.t 14) (.t 14)),mv 6 15])
 (.seq
 (.seq
 (.reg [mv 16 6,rg 17 (.len (.t 16)),rg 18 (.bin .sub (.t 17) (.c (.i .i64 1))),mv 7 18])
 (.lp 0 (.norm false [0,1,5,6,7]) l93_0 (.norm false [6])))
 (.seq
 (.reg [mv 69 6,mv 4 69])
 (.pre (.norm false [4]) .ret))))))
abbrev row90:AFx:=⟨2,37,[.t 4,.t 5,.t 6],b90,none,false⟩
abbrev row119:AFx:=⟨5,76,[.t 10],b119,none,false⟩
abbrev row120:AFx:=⟨4,66,[.t 8],b120,(some [true,false,false,false]),false⟩
abbrev row121:AFx:=⟨3,44,[],b121,(some [true,false,false]),false⟩
abbrev row93:AFx:=⟨2,70,[.t 4],b93,(some [true,false]),false⟩
class Zr (T:Tbl):Prop where
 h90:Tr T 90=some row90
 h119:Tr T 119=some row119
 h120:Tr T 120=some row120
 h121:Tr T 121=some row121
 h93:Tr T 93=some row93
attribute [simp] Zr.h90 Zr.h119 Zr.h120 Zr.h121 Zr.h93
section
variable{T:Tbl}[Zr T]{d:Option Nat}{st:St}
def f119(xs:List AV)(hn:xs.length=5):Zb T 119 xs=Zhw [.t 10] false (evX (orc T) T 0 b119 ⟨Zca xs,[],1⟩):=zaa Zr.h119 hn
end
end
def zkl{m:List UInt32}{j:Nat}(w:UInt32):(List.replicate (j+1) 0++m).set j w=List.replicate j 0++w::m:=by
 rw[List.set_append_left j w (by simp),List.replicate_succ',Yai j w (by simp)];simp
def zkm{m:List UInt32}{j:Nat}:(List.replicate (j+1) (0:UInt32)++m)[j]? = some 0:=by
 rw[Yo (by simp),Ycy,if_pos (by omega)]
section
variable{T:Tbl}[Zn T][Zz T][Zw T][Zr T]
def Zla(a:List UInt32)(x:Nat)(y:Nat×Nat×List UInt32):St:=
 ⟨[(0,.sl (Za a) .an),(1,u32 x),(4,.bs (.loc 12) 1 1 0 a.length),(5,u32 y.2.1),(7,.i .i64 ((y.1:Int)-1))],[(.loc 12,⟨1,.own,1,Za (List.replicate y.1 0++y.2.2)⟩)],3⟩
end
section
variable{T:Tbl}[Zn T]
def z1n(a:List UInt32)(x:Nat)(hx:x<4294967296)(hl:a.length<=1000000):∀y:Nat×Nat×List UInt32,
  (y.1<=a.length/\y.2.1<x/\y.2.2.length=a.length-y.1/\val (a.drop y.1)=x*val y.2.2+y.2.1) ->
  ∃r,(∃(c:Nat) (m:List UInt32),r=(Ex.n,(⟨[(4,.bs (.loc 12) 1 1 0 a.length),(5,u32 c)],[(.loc 12,⟨1,.own,1,Za m⟩)],3⟩:St)) /\
   m.length=a.length/\c<x/\val a=x*val m+c)/\Zu T 0 0 (.norm false [4,5]) l90_0 (Zla a x y)=some r:=by
 refine za6 _ _ (fun y=>y.1) _ ?_
 rintro⟨k,c,m⟩ ⟨hk,hc,hm,hv⟩
 simp only at hk hc hm hv;cases k with
 | zero=>
  right;refine⟨_,⟨c,m,rfl,by omega,hc,hv⟩,?_,?_⟩<;>simp -implicitDefEqProofs[l90_0,Zla]
 | succ j=>
  left;have hja:j<a.length:=by omega
  have hy:=zal (a[j]'hja);have hd:=Yp hja;have hw:IntKind.wrap .i64 ((j:Int)-1)=(j:Int)-1:=zab _ (by omega);have hs:=zkl (m:=m) (j:=j) (w32 ((c*4294967296+(a[j]'hja).toNat)/x));have hq:(c*4294967296+(a[j]'hja).toNat)/x<4294967296:=by
   refine Ybi ?_;omega
  have hdv:=zml (T:=T) c (a[j]'hja).toNat x hc hy hx;refine⟨(j,(c*4294967296+(a[j]'hja).toNat)%x,w32 ((c*4294967296+(a[j]'hja).toNat)/x)::m),⟨by omega,Ybh _ (by omega),by grind,?_⟩,Y1 j,?_⟩
  ·grind[zan,zaf,Nat.div_add_mod]
  ·simp -implicitDefEqProofs[l90_0,Zla,hja,hw,hs,zkm,hdv,zbm _ _ _ hq]
end
section
variable{T:Tbl}[Zn T][Zr T]
def zmt(a:List UInt32)(x:Nat)(hx:x<4294967296)(h0:0<x)(hl:a.length<=1000000) :
  Zb T 90 [.sl (Za a) .an,u32 x]=some (.tup [.sl (Za (ofN (val a/x))) .an,u32 (val a%x),.b true]):=by
 obtain⟨_,⟨c,m,rfl,hm,hc,hv⟩,hr⟩:=z1n (T:=T) a x hx hl (a.length,0,[]) ⟨Yi _,h0,by simp,by rw[Yah,zbx,Ya0,Yar]⟩;have e1:val a/x=val m:=by grind[Nat.mul_add_div,Nat.div_eq_of_lt]
 have e2:val a%x=c:=by rw[hv,Nat.mul_add_mod,Yu hc]
 have hnm:=za7 (T:=T) m (by omega);unfold Zla at hr;simp at hr;have hx0:x≠0:=by omega
 have w1:IntKind.wrap .i64 ((a.length:Int)-1)=(a.length:Int)-1:=zab _ (by omega);have p1:(a.length:Int)<=4294967296:=by omega
 have htk:List.take a.length m=m:=Yb (by omega);rw[e1,e2,zaa Zr.h90 rfl,b90];simp -implicitDefEqProofs[hr,hx0,w1,p1,htk,hm,hnm]
end
section
variable{T:Tbl}[Zn T][Zz T][Zw T][Zr T]
def zmu{p M w X s t y v D D':Nat}(h:M+X*t=s+p*D)(e:w+X*y+D=v+4294967296*D'):(M+p*w)+X*(t+p*y)=(s+p*v)+p*4294967296*D':=by
 grind
def Zlb(P S b:List UInt32)(x:Nat)(y:Nat×(Nat×Nat)×List UInt32):St:=
 ⟨[(0,.bs (.bor 0) 0 1 0 (P.length+S.length)),(1,.i .i64 P.length),(2,.sl (Za b) .an),(3,u32 x),(9,u32 y.2.1.1),(10,u32 y.2.1.2),(15,.sl (Za b) .an),(16,.i .i64 b.length),(17,.i .i64 y.1)],
  [(.bor 0,⟨0,.own,1,Za (P++(y.2.2++S.drop y.1))⟩)],4⟩
end
section
variable{T:Tbl}[Zn T]
def z1o(P S b:List UInt32)(x:Nat)(hx:x<4294967296)(hS:b.length<S.length)(hl:P.length+S.length<=1000000):∀y:Nat×(Nat×Nat)×List UInt32,
  (y.1<=b.length/\y.2.1.1<4294967296/\y.2.1.2<=1/\y.2.2.length=y.1/\val y.2.2+x*val (b.take y.1)=val (S.take y.1)+4294967296^y.1*(y.2.1.2+y.2.1.1)) ->
  ∃r,(∃(C B:Nat) (m:List UInt32),r=(Ex.n,(⟨[(0,.bs (.bor 0) 0 1 0 (P.length+S.length)),(1,.i .i64 P.length),(2,.sl (Za b) .an),(9,u32 C),(10,u32 B)],[(.bor 0,⟨0,.own,1,Za (P++(m++S.drop b.length))⟩)],4⟩:St)) /\
   C<4294967296/\B<=1/\m.length=b.length/\val m+x*val b=val (S.take b.length)+4294967296^b.length*(B+C))/\Zu T 1 0 (.norm false [0,1,2,9,10]) l120_0 (Zlb P S b x y)=some r:=by
 refine za6 _ _ (fun y=>b.length-y.1) _ ?_
 rintro⟨i,⟨C,B⟩,m⟩ ⟨hi,hC,hB,hm,hv⟩
 simp only at hi hC hB hm hv;by_cases h0:i<b.length
 ·left;have hb:b[i]? = some (b[i]'h0):=Ya h0;have hiS:i<S.length:=by omega
  have hs:S[i]? = some (S[i]'hiS):=Ya hiS;have hg:=zf1 (P:=P) hm hiS;have hw:IntKind.wrap .i64 ((i:Int)+1)=((i+1:Nat):Int):=zab _ (by omega);have hw2:IntKind.wrap .i64 ((P.length:Int)+i)=((P.length+i:Nat):Int):=zab _ (by omega);have hlt2:(P.length:Int)+i<(P.length:Int)+S.length:=by omega
  have hlb:=zal (b[i]'h0);have hls:=zal (S[i]'hiS);have hmul:=zh1 hx hlb;have c1:=zh2 (T:=T) x (b[i]'h0).toNat C 0 hx hlb hC (by decide);rw[Yaa]at c1;obtain⟨lo,hlo⟩:∃lo,lo=(x*(b[i]'h0).toNat+C)%4294967296:=⟨_,rfl⟩;obtain⟨C',hC'⟩:∃C',C'=(x*(b[i]'h0).toNat+C)/4294967296:=⟨_,rfl⟩;rw[<-hlo,<-hC']at c1;have c2:=zfk (T:=T) (S[i]'hiS).toNat lo B hls (by omega) (by omega);obtain⟨w,hwd⟩:∃w,w=((S[i]'hiS).toNat+8589934592-(lo+B))%4294967296:=⟨_,rfl⟩;obtain⟨B',hB'⟩:∃B',B'=2-((S[i]'hiS).toNat+8589934592-(lo+B))/4294967296:=⟨_,rfl⟩;rw[<-hwd,<-hB']at c2;have hwl:w<4294967296:=by omega
  have hset:=zf2 (P:=P) (w32 w) hm hiS;refine⟨(i+1,(C',B'),m++[w32 w]),⟨h0,by grind,by simp only;omega,by grind,?_⟩,by omega,?_⟩
  ·simp only;rw[zai,zae hb,zae hs,Yac,hm,zan,zbx,Ya0,Yaa,zaf hwl];exact zmu hv (by omega)
  ·simp -implicitDefEqProofs[l120_0,Zlb,h0,hw,hw2,hlt2,hg,c1,c2,hset,zbm _ _ _ hwl]
 ·right;have:i=b.length:=by omega
  subst this;rw[Yb (Yi b.length)]at hv;refine⟨_,⟨C,B,m,rfl,hC,hB,hm,hv⟩,?_,?_⟩<;>simp -implicitDefEqProofs[l120_0,Zlb]
end
section
variable{T:Tbl}[Zn T][Zr T]
def zvu(P S b:List UInt32)(x:Nat)(hx:x<4294967296)(hS:b.length<S.length)(hl:P.length+S.length<=1000000) :
  ∃(B:Nat) (m:List UInt32),B<=1/\m.length=b.length+1/\val m+x*val b=val (S.take (b.length+1))+4294967296^(b.length+1)*B /\
   Zd0 T 120 [.bs (.bor 0) 0 1 0 (P.length+S.length),.i .i64 P.length,.sl (Za b) .an,u32 x] [(.bor 0,⟨0,.own,1,Za (P++S)⟩)] =
    some (.b (decide (0<B)),[(.bor 0,⟨0,.own,1,Za (P++(m++S.drop (b.length+1)))⟩)]):=by
 obtain⟨_,⟨C,B,m,rfl,hC,hB,hm,hv⟩,hr⟩:=z1o (T:=T) P S b x hx hS hl (0,(0,0),[]) ⟨Y4 _,Nat.zero_lt_succ _,Y4 _,rfl,by simp⟩;unfold Zlb at hr;simp at hr;have hs:S[b.length]? = some (S[b.length]'hS):=Ya hS;have hls:=zal (S[b.length]'hS);have hg:=zf1 (P:=P) hm hS;have hw2:IntKind.wrap .i64 ((P.length:Int)+b.length)=((P.length+b.length:Nat):Int):=zab _ (by omega);have hlt2:(P.length:Int)+b.length<(P.length:Int)+S.length:=by omega
 have c2:=zfk (T:=T) (S[b.length]'hS).toNat C B hls hC (by omega);obtain⟨w,hwd⟩:∃w,w=((S[b.length]'hS).toNat+8589934592-(C+B))%4294967296:=⟨_,rfl⟩;obtain⟨B',hB'⟩:∃B',B'=2-((S[b.length]'hS).toNat+8589934592-(C+B))/4294967296:=⟨_,rfl⟩;rw[<-hwd,<-hB']at c2;have hwl:w<4294967296:=by omega
 have hset:=zf2 (P:=P) (w32 w) hm hS;refine⟨B',m++[w32 w],by omega,by grind,?_,?_⟩
 ·rw[zai,zae hs,Yac,hm,zan,zbx,Ya0,Yaa,zaf hwl];have:=zmu (y:=0) (w:=w) (v:=(S[b.length]'hS).toNat) (D':=B') hv (by omega);omega
 ·rw[zdp Zr.h120 rfl,b120];simp -implicitDefEqProofs[hr,hw2,hlt2,hg,c2,hset,zbm _ _ _ hwl]
end
section
variable{T:Tbl}[Zn T][Zz T][Zw T][Zr T]
def zmv{p M w s t y v D D':Nat}(h:M+p*D=s+t)(e:w+4294967296*D'=v+y+D):(M+p*w)+p*4294967296*D'=(s+p*v)+(t+p*y):=by
 grind
def Zlc(P S b:List UInt32)(y:Nat×Nat×List UInt32):St:=
 ⟨[(0,.bs (.bor 0) 0 1 0 (P.length+S.length)),(1,.i .i64 P.length),(2,.sl (Za b) .an),(6,u32 y.2.1),(9,.sl (Za b) .an),(10,.i .i64 b.length),(11,.i .i64 y.1)],
  [(.bor 0,⟨0,.own,1,Za (P++(y.2.2++S.drop y.1))⟩)],4⟩
end
section
variable{T:Tbl}[Zn T]
def z1p(P S b:List UInt32)(hS:b.length<S.length)(hl:P.length+S.length<=1000000):∀y:Nat×Nat×List UInt32,
  (y.1<=b.length/\y.2.1<=1/\y.2.2.length=y.1/\val y.2.2+4294967296^y.1*y.2.1=val (S.take y.1)+val (b.take y.1)) ->
  ∃r,(∃(C:Nat) (m:List UInt32),r=(Ex.n,(⟨[(0,.bs (.bor 0) 0 1 0 (P.length+S.length)),(1,.i .i64 P.length),(2,.sl (Za b) .an),(6,u32 C)],[(.bor 0,⟨0,.own,1,Za (P++(m++S.drop b.length))⟩)],4⟩:St)) /\
   C<=1/\m.length=b.length/\val m+4294967296^b.length*C=val (S.take b.length)+val b)/\Zu T 1 0 (.norm false [0,1,2,6]) l121_0 (Zlc P S b y)=some r:=by
 refine za6 _ _ (fun y=>b.length-y.1) _ ?_
 rintro⟨i,C,m⟩ ⟨hi,hC,hm,hv⟩
 simp only at hi hC hm hv;by_cases h0:i<b.length
 ·left;have hb:b[i]? = some (b[i]'h0):=Ya h0;have hiS:i<S.length:=by omega
  have hs:S[i]? = some (S[i]'hiS):=Ya hiS;have hg:=zf1 (P:=P) hm hiS;have hw:IntKind.wrap .i64 ((i:Int)+1)=((i+1:Nat):Int):=zab _ (by omega);have hw2:IntKind.wrap .i64 ((P.length:Int)+i)=((P.length+i:Nat):Int):=zab _ (by omega);have hlt2:(P.length:Int)+i<(P.length:Int)+S.length:=by omega
  have hlb:=zal (b[i]'h0);have hls:=zal (S[i]'hiS);have c2:=zd5 (T:=T) (S[i]'hiS).toNat (b[i]'h0).toNat C hls hlb (by omega);obtain⟨w,hwd⟩:∃w,w=((S[i]'hiS).toNat+(b[i]'h0).toNat+C)%4294967296:=⟨_,rfl⟩;obtain⟨C',hC'⟩:∃C',C'=((S[i]'hiS).toNat+(b[i]'h0).toNat+C)/4294967296:=⟨_,rfl⟩;rw[<-hwd,<-hC']at c2;have hwl:w<4294967296:=by omega
  have hset:=zf2 (P:=P) (w32 w) hm hiS;refine⟨(i+1,C',m++[w32 w]),⟨h0,by grind,by grind,?_⟩,by omega,?_⟩
  ·simp only;rw[zai,zae hb,zae hs,Yac,hm,zan,zbx,Ya0,Yaa,zaf hwl];exact zmv hv (by omega)
  ·simp -implicitDefEqProofs[l121_0,Zlc,h0,hw,hw2,hlt2,hg,c2,hset,zbm _ _ _ hwl]
 ·right;have:i=b.length:=by omega
  subst this;rw[Yb (Yi b.length)]at hv;refine⟨_,⟨C,m,rfl,hC,hm,hv⟩,?_,?_⟩<;>simp -implicitDefEqProofs[l121_0,Zlc]
end
section
variable{T:Tbl}[Zn T][Zr T]
def zvv(P S b:List UInt32)(hS:b.length<S.length)(hl:P.length+S.length<=1000000) :
  ∃(D:Nat) (m:List UInt32),D<=1/\m.length=b.length+1/\val m+4294967296^(b.length+1)*D=val (S.take (b.length+1))+val b /\
   Zd0 T 121 [.bs (.bor 0) 0 1 0 (P.length+S.length),.i .i64 P.length,.sl (Za b) .an] [(.bor 0,⟨0,.own,1,Za (P++S)⟩)] =
    some (.tup [],[(.bor 0,⟨0,.own,1,Za (P++(m++S.drop (b.length+1)))⟩)]):=by
 obtain⟨_,⟨C,m,rfl,hC,hm,hv⟩,hr⟩:=z1p (T:=T) P S b hS hl (0,0,[]) ⟨Y4 _,Y4 _,rfl,by simp⟩;unfold Zlc at hr;simp at hr;have hs:S[b.length]? = some (S[b.length]'hS):=Ya hS;have hls:=zal (S[b.length]'hS);have hg:=zf1 (P:=P) hm hS;have hw2:IntKind.wrap .i64 ((P.length:Int)+b.length)=((P.length+b.length:Nat):Int):=zab _ (by omega);have hlt2:(P.length:Int)+b.length<(P.length:Int)+S.length:=by omega
 obtain⟨w,hwd⟩:∃w,w=((S[b.length]'hS).toNat+C)%4294967296:=⟨_,rfl⟩;have hwl:w<4294967296:=by omega
 have hset:=zf2 (P:=P) (w32 w) hm hS;refine⟨((S[b.length]'hS).toNat+C)/4294967296,m++[w32 w],by omega,by grind,?_,?_⟩
 ·rw[zai,zae hs,Yac,hm,zan,zbx,Ya0,Yaa,zaf hwl];have:=zmv (y:=0) (w:=w) (v:=(S[b.length]'hS).toNat) (D':=((S[b.length]'hS).toNat+C)/4294967296) hv (by omega);omega
 ·rw[zdp Zr.h121 rfl,b121];simp -implicitDefEqProofs[hr,hw2,hlt2,hg,<-hwd,hset,zbm _ _ _ hwl]
end
def zhz(q b1 b0:Nat):q*(b1*4294967296+b0)=q*b1*4294967296+q*b0:=by
 rw[Yao q,<-Yaw q]
def zkf{a2 a1 a0 b1 b0 q r:Nat}(h:q*b1+r=a2*4294967296+a1)(hle:q*b0<=r*4294967296+a0) :
  q*(b1*4294967296+b0)<=(a2*4294967296+a1)*4294967296+a0:=by
 refine Yd (Nat.le_of_eq (zhz q b1 b0)) ?_;revert h hle;generalize q*b1=u;generalize q*b0=v;omega
def zxt{a2 a1 a0 b1 b0 q r:Nat}(h:q*b1+r=a2*4294967296+a1)(hgt:r*4294967296+a0<q*b0) :
  (a2*4294967296+a1)*4294967296+a0<q*(b1*4294967296+b0):=by
 refine Nat.lt_of_lt_of_eq ?_ (zhz q b1 b0).symm;revert h hgt;generalize q*b1=u;generalize q*b0=v;omega
def zu5{q b0 r a0:Nat}(h0:a0<4294967296):(q*b0/4294967296<r\/q*b0/4294967296=r/\q*b0%4294967296<=a0)↔q*b0<=r*4294967296+a0:=by
 generalize q*b0=m;omega
section
variable{T:Tbl}[Zn T][Zz T][Zw T][Zr T]
def Zg3(a0 b1 b0:Nat)(y:Nat×Nat):St:=⟨[(2,u32 a0),(3,u32 b1),(4,u32 b0),(11,u32 y.1),(12,u32 y.2)],[],2⟩
end
section
variable{T:Tbl}[Zn T]
def zu6(a2 a1 a0 b1 b0 g:Nat)(h0:a0<4294967296)(hb1:b1<4294967296)(hb0:b0<4294967296)
  (F1:∀q,q<4294967296->g<=q->q*(b1*4294967296+b0)<=(a2*4294967296+a1)*4294967296+a0->q=g)
  (F2:∀q,(a2*4294967296+a1)*4294967296+a0<q*(b1*4294967296+b0)->g<q):∀y:Nat×Nat,
  (y.1<4294967296/\y.2<4294967296/\y.1*b1+y.2=a2*4294967296+a1/\g<=y.1) ->
  ∃r,(r=(Ex.n,(⟨[(11,u32 g)],[],2⟩:St)))/\Zu T 0 0 (.norm false [11]) l119_0 (Zg3 a0 b1 b0 y)=some r:=by
 refine za6 _ _ (fun y=>y.1) _ ?_
 rintro⟨q,r⟩ ⟨hq,hr,hv,hg⟩
 simp only at hq hr hv hg;have c1:=zh2 (T:=T) q b0 0 0 hq hb0 (by decide) (by decide);have c2:=zd5 (T:=T) r b1 0 hr hb1 (by decide);rw[Yaa]at c1;rw[Yaa]at c2;have hcmp:=zu5 (q:=q) (b0:=b0) (r:=r) h0;obtain⟨hi,hhi⟩:∃hi,hi=q*b0/4294967296:=⟨_,rfl⟩;obtain⟨lo,hlo⟩:∃lo,lo=q*b0%4294967296:=⟨_,rfl⟩;rw[<-hhi,<-hlo]at c1 hcmp;have hlol:lo<4294967296:=by omega
 have hhil:hi<4294967296:=by
  have:=zh1 hq hb0;omega
 by_cases hle:q*b0<=r*4294967296+a0
 ·right;have hqg:=F1 q hq hg (zkf hv hle);subst hqg;have hc:=hcmp.2 hle;clear hhi hlo;rcases hc with hc | ⟨rfl,hc2⟩
  ·refine⟨_,rfl,?_,?_⟩<;>simp -implicitDefEqProofs[l119_0,Zg3,c1,hc]
  ·refine⟨_,rfl,?_,?_⟩<;>simp -implicitDefEqProofs[l119_0,Zg3,c1,hc2]
 ·have hgt:r*4294967296+a0<q*b0:=by omega
  have hlt:=F2 q (zxt hv hgt);have hc:¬ (hi<r\/hi=r/\lo<=a0):=fun h=>hle (hcmp.1 h);have hq1:q-1<4294967296:=by omega
  have hs:Zge q 1=q-1:=by unfold Zge;omega
  have hqb:(q-1)*b1+(r+b1)=a2*4294967296+a1:=by
   have:q*b1=(q-1)*b1+b1:=by
    rw[<-Nat.succ_mul];congr 1;omega
   omega
  by_cases hcar:4294967296<=r+b1
  ·right;have hmul:=zh1 hq1 hb0;have hqg:=F1 (q-1) hq1 (by omega) (zkf hqb (by
    generalize (q-1)*b0=v at *
    omega))
   have m2:0<(r+b1)/4294967296:=Nat.div_pos hcar (by decide);have m3:(r+b1)/4294967296<4294967296:=by omega
   have hr2:¬ hi<r:=fun h=>hc (.inl h);clear hhi hlo;refine⟨_,rfl,?_,?_⟩<;>by_cases he:hi=r
   ·have hc3:¬ lo<=a0:=fun h=>hc (.inr ⟨he,h⟩);subst he;simp -implicitDefEqProofs[l119_0,Zg3,c1,c2,hs,hc3,m2]
   ·simp -implicitDefEqProofs[l119_0,Zg3,c1,c2,hs,hr2,he,m2]
   ·have hc3:¬ lo<=a0:=fun h=>hc (.inr ⟨he,h⟩);subst he;simp -implicitDefEqProofs[l119_0,Zg3,c1,c2,hs,hc3,m2,hqg]
   ·simp -implicitDefEqProofs[l119_0,Zg3,c1,c2,hs,hr2,he,m2,hqg]
  ·left;refine⟨(q-1,r+b1),⟨hq1,by simp only;omega,hqb,by simp only;omega⟩,by simp only;omega,?_⟩;have m1:(r+b1)%4294967296=r+b1:=Yu (by omega);have m2:(r+b1)/4294967296=0:=Ybs (by omega);rw[m1,m2]at c2;have hr2:¬ hi<r:=fun h=>hc (.inl h);clear hhi hlo;by_cases he:hi=r
   ·have hc3:¬ lo<=a0:=fun h=>hc (.inr ⟨he,h⟩);subst he;simp -implicitDefEqProofs[l119_0,Zg3,c1,c2,hs,hc3]
   ·simp -implicitDefEqProofs[l119_0,Zg3,c1,c2,hs,hr2,he]
end
section
variable{T:Tbl}[Zn T][Zz T][Zw T][Zr T]
def z1f{n two:Nat}(h:0<two):(∀q,q<4294967296->min 4294967295 (n/two)<=q->q*two<=n->q=min 4294967295 (n/two))/\(∀q,n<q*two->min 4294967295 (n/two)<q):=by
 constructor
 ·intro q hq hg hle;have:=(Yb8 h).2 hle;omega
 ·intro q hlt;have:=(Ybb h).2 hlt;omega
def zxu{A a0 b1 b0:Nat}(h0:a0<4294967296)(hp:0<b1):A*4294967296+a0<(A/b1+1)*(b1*4294967296+b0):=by
 have h1:A<(A/b1+1)*b1:=by rw[Yaf];exact Nat.lt_mul_div_succ A hp
 refine Nat.lt_of_lt_of_eq ?_ (zhz (A/b1+1) b1 b0).symm;generalize (A/b1+1)*b1=u at *
 generalize (A/b1+1)*b0=v at *
 omega
end
section
variable{T:Tbl}[Zn T][Zr T]
def zrl(a2 a1 a0 b1 b0:Nat)(h2:a2<4294967296)(h1:a1<4294967296)(h0:a0<4294967296)(hb1:b1<4294967296)(hb0:b0<4294967296)(hp:0<b1) :
  Zb T 119 [u32 a2,u32 a1,u32 a0,u32 b1,u32 b0]=some (u32 (min 4294967295 (((a2*4294967296+a1)*4294967296+a0)/(b1*4294967296+b0)))):=by
 obtain⟨F1,F2⟩:=z1f (n:=(a2*4294967296+a1)*4294967296+a0) (two:=b1*4294967296+b0) (by omega);have hgle:=Yee 4294967295 (((a2*4294967296+a1)*4294967296+a0)/(b1*4294967296+b0));generalize min 4294967295 (((a2*4294967296+a1)*4294967296+a0)/(b1*4294967296+b0))=g at *
 by_cases hlt:a2<b1
 ·have hd:=zml (T:=T) a2 a1 b1 hlt h1 hb1;have hql:(a2*4294967296+a1)/b1<4294967296:=zzg hlt h1;have hrl:(a2*4294967296+a1)%b1<b1:=Ybh _ hp;have hdm:=Yca (a2*4294967296+a1) b1;rw[Yaf]at hdm;obtain⟨_,rfl,hr⟩:=zu6 (T:=T) a2 a1 a0 b1 b0 g h0 hb1 hb0 F1 F2 ((a2*4294967296+a1)/b1,(a2*4294967296+a1)%b1) ⟨hql,by simp only;omega,hdm,by have:=F2 _ (zxu (A:=a2*4294967296+a1) (b0:=b0) h0 hp);simp only;omega⟩;unfold Zg3 at hr;simp at hr;rw[f119 _ rfl,b119];simp -implicitDefEqProofs[hd,hr]
 ·have hd:=zro (T:=T) a2 a1 b1 (by omega) h2 h1;have ha:=zd5 (T:=T) a1 b1 0 h1 hb1 (by decide);rw[Yaa]at ha;by_cases hbig:b1<a2\/4294967296<=a1+b1
  ·have hg:4294967295=g:=by
    refine F1 4294967295 (by decide) hgle ?_;refine zkf (r:=a2*4294967296+a1-4294967295*b1) (by omega) ?_;omega
   subst hg;rw[f119 _ rfl,b119];rcases Yv b1 a2 with hb | hb
   ·simp -implicitDefEqProofs[hd,ha,hb]
   ·have hc:4294967296<=a1+b1:=by omega
    have hb2:¬ b1<a2:=by omega
    have m2:0<(a1+b1)/4294967296:=Nat.div_pos hc (by decide);simp -implicitDefEqProofs[hd,ha,hb2,m2]
  ·have hb2:¬ b1<a2:=fun h=>hbig (.inl h);have hc:a1+b1<4294967296:=by omega
   have m1:(a1+b1)%4294967296=a1+b1:=Yu hc;have m2:(a1+b1)/4294967296=0:=Ybs hc;rw[m1,m2]at ha;obtain⟨_,rfl,hr⟩:=zu6 (T:=T) a2 a1 a0 b1 b0 g h0 hb1 hb0 F1 F2 (4294967295,a1+b1) ⟨Y1 4294967295,hc,by simp only;omega,hgle⟩;unfold Zg3 at hr;simp at hr;have hb3:a2<=b1:=by omega
   rw[f119 _ rfl,b119];simp -implicitDefEqProofs[hd,ha,hb2,hr]
end
def zwa{V b d three two v0 b0:Nat}(hV:V=three*d+v0)(hv:v0<d)(hb:b=two*d+b0)(hb0:b0<d)(h2:4294967296<=two)(hlt:V<4294967296*b) :
  V/b<=min 4294967295 (three/two)/\min 4294967295 (three/two)<=V/b+1:=by
 have hd:0<d:=by omega
 have htp:0<two:=by omega
 have hbp:0<b:=by
  have:=Nat.mul_pos htp hd;omega
 have hq:V/b<4294967296:=Ybi (by rw[Yaf];exact hlt);have hqb:V/b*b<=V:=Nat.div_mul_le_self V b;have hqb2:V<(V/b+1)*b:=by rw[Yaf];exact Nat.lt_mul_div_succ V hbp
 generalize V/b=q at *
 constructor
 ·refine Nat.le_min.2 ⟨by omega,(Yb8 htp).2 ?_⟩;have h3:q*two*d<(three+1)*d:=by
   have:q*two*d<=q*b:=by rw[hb,Yao,Yaw];omega
   rw[Yby,Yd1];omega
  have:=Nat.lt_of_mul_lt_mul_right h3;omega
 ·generalize hx:min 4294967295 (three/two)=x;have hx1:x<=three/two:=by rw[<-hx];exact Nat.min_le_right _ _
  have hx2:x<=4294967295:=by rw[<-hx];exact Yee _ _
  have hx3:x*two<=three:=(Yb8 htp).1 hx1;rcases Yv (q+1) x with h | h
  ·exfalso;have e1:(q+2)*two<=x*two:=Y2 _ h;have e2:(q+2)*two*d<=three*d:=Y2 _ (Yd e1 hx3);have e3:(q+1)*b=(q+1)*two*d+(q+1)*b0:=by rw[hb,Yao,Yaw]
   have e4:(q+1)*b0<=(q+1)*d:=Ya2 _ (Ydb hb0);have e5:(q+2)*two*d=(q+1)*two*d+two*d:=by rw[show q+2=(q+1)+1 from rfl,Yby (q+1) 1 two,Yd1,Yby]
   have e6:(q+1)*d<=two*d:=Y2 _ (by omega);omega
  ·exact h
def zxx{vA vA' t p V x r vb vm T:Nat}(h0:vA=t+p*V)(h1:vA'=t+p*r)(hV:V=vb*x+r)(hT:T=vA+p*4294967296*(vm*vb)) :
  T=vA'+p*((x+4294967296*vm)*vb):=by grind
def zvb{V b x Bo vm p:Nat}(hb:0<b)(h1:V/b<=x)(h2:x<=V/b+1)(_hp:V<p)(hm:vm<p)(hBo:Bo<=1)(h:vm+x*b=V+p*Bo) :
  (Bo=0->x=V/b/\vm=V%b)/\(Bo=1->x=V/b+1/\vm+b=V%b+p):=by
 have hd:=Yca V b;constructor
 ·intro h0;subst h0;have hx:x=V/b:=by
   have:x*b<=V:=by omega
   have:=(Yb8 hb).2 this;omega
  grind
 ·intro h0;subst h0;have hx:x=V/b+1:=by
   grind
  grind
def zvc{vm b r p D vm':Nat}(_hr:r<p)(h:vm+b=r+p)(hm:vm'<p)(hD:D<=1)(hg:vm'+p*D=vm+b):vm'=r:=by
 rcases Ybo D with h0 | h0
 all_goals grind
def zmm{α:Type}{A:List α}{i k:Nat}(h:i=k)(hi:i<A.length)(hk:k<A.length):A[i]'hi=A[k]'hk:=by grind
def zkh(A:List UInt32)(j n:Nat):val (A.drop j)=val ((A.drop j).take n)+4294967296^((A.drop j).take n).length*val (A.drop (j+n)):=by
 grind[List.take_append_drop,zai,List.drop_drop]
def zrq{q x:Nat}(h:x=q+1)(hx:x<4294967296):Zge x 1=q:=by unfold Zge;omega
def zvd{A m1:List UInt32}{j n:Nat}(hm1:m1.length=n+1)(hj:j+n<A.length) :
  (A.take j++(m1++A.drop (j+(n+1)))).take j=A.take j/\(A.take j++(m1++A.drop (j+(n+1)))).drop (j+(n+1))=A.drop (j+(n+1)) /\
  ((A.take j++(m1++A.drop (j+(n+1)))).drop j).take (n+1)=m1/\(A.take j++(m1++A.drop (j+(n+1)))).length=A.length:=by
 have htj:(A.take j).length=j:=by grind
 refine⟨?_,?_,?_,?_⟩
 ·rw[Ybt (by omega),Yb (by omega)]
 ·rw[<-Yei,Ybu (by omega),Ya9 (l:=A.take j) (by omega),Ybn,Ybu (by omega),Ya9 (by omega),Ybn]
 all_goals grind
def zve{D:List UInt32}{n:Nat}(h:n+2<D.length):val (D.take (n+3))=(((D[n+2]'h).toNat*4294967296+(D[n+1]'(by omega)).toNat)*4294967296+(D[n]'(by omega)).toNat)*4294967296^n+val (D.take n):=by
 grind[zae]
def z1h{D:List UInt32}{n:Nat}(h:n+1<D.length):val (D.take (n+2))=((D[n+1]'h).toNat*4294967296+(D[n]'(by omega)).toNat)*4294967296^n+val (D.take n):=by
 grind[zae]
section
variable{T:Tbl}[Zn T][Zr T]
def zrr(A b:List UInt32)(j x:Nat)(hx:x<4294967296)(hj:j+b.length<A.length)(hl:A.length<=1000000) :
  ∃(B:Nat) (m:List UInt32),B<=1/\m.length=b.length+1/\val m+x*val b=val ((A.drop j).take (b.length+1))+4294967296^(b.length+1)*B /\
   Zd0 T 120 [.bs (.bor 0) 0 1 0 A.length,.i .i64 j,.sl (Za b) .an,u32 x] [(.bor 0,⟨0,.own,1,Za A⟩)] =
    some (.b (decide (0<B)),[(.bor 0,⟨0,.own,1,Za (A.take j++(m++A.drop (j+(b.length+1))))⟩)]):=by
 have h1:(A.take j).length=j:=by grind
 have h2:(A.drop j).length=A.length-j:=by simp
 obtain⟨B,m,hB,hm,hv,hc⟩:=zvu (T:=T) (A.take j) (A.drop j) b x hx (by omega) (by omega)
 grind[List.take_append_drop,List.drop_drop]
end
section
variable{T:Tbl}[Zn T][Zr T]
def zrs(A b:List UInt32)(j:Nat)(hj:j+b.length<A.length)(hl:A.length<=1000000) :
  ∃(D:Nat) (m:List UInt32),D<=1/\m.length=b.length+1/\val m+4294967296^(b.length+1)*D=val ((A.drop j).take (b.length+1))+val b /\
   Zd0 T 121 [.bs (.bor 0) 0 1 0 A.length,.i .i64 j,.sl (Za b) .an] [(.bor 0,⟨0,.own,1,Za A⟩)] =
    some (.tup [],[(.bor 0,⟨0,.own,1,Za (A.take j++(m++A.drop (j+(b.length+1))))⟩)]):=by
 have h1:(A.take j).length=j:=by grind
 have h2:(A.drop j).length=A.length-j:=by simp
 obtain⟨D,m,hD,hm,hv,hc⟩:=zvv (T:=T) (A.take j) (A.drop j) b (by omega) (by omega);rw[h1,h2,show j+(A.length-j)=A.length by omega,Yau,Yei]at hc;exact⟨D,m,hD,hm,hv,hc⟩
end
section
variable{T:Tbl}[Zn T][Zz T][Zw T][Zr T]
def Zjm(b:List UInt32)(LA LQ:Nat)(y:Nat×List UInt32×List UInt32):St:=
 ⟨[(0,.bs (.bor 0) 0 1 0 LA),(1,.sl (Za b) .an),(5,.i .i64 b.length),(6,.bs (.loc 15) 3 1 0 LQ),(7,.i .i64 ((y.1:Int)-1))],
  [(.bor 0,⟨0,.own,1,Za y.2.1⟩),(.loc 15,⟨3,.own,1,Za (List.replicate y.1 0++y.2.2)⟩)],5⟩
end
section
variable{T:Tbl}[Zn T][Zr T]
set_option maxHeartbeats 2000000 in
def z1i(A0 b:List UInt32)(LQ nb:Nat)(hnb:b.length=nb+2)(hb1:0<(b[nb+1]'(by omega)).toNat)(hl:A0.length<=1000000)(hA0:A0.length=LQ+b.length):∀y:Nat×List UInt32×List UInt32,
  (y.1<=LQ/\y.2.1.length=A0.length/\y.2.2.length=LQ-y.1/\val (y.2.1.drop y.1)<val b/\val A0=val y.2.1+4294967296^y.1*(val y.2.2*val b)) ->
  ∃r,(∃Q A:List UInt32,r=(Ex.n,(⟨[(6,.bs (.loc 15) 3 1 0 LQ)],[(.bor 0,⟨0,.own,1,Za A⟩),(.loc 15,⟨3,.own,1,Za Q⟩)],5⟩:St)) /\
   Q.length=LQ/\A.length=A0.length/\val Q=val A0/val b/\val A=val A0%val b)/\Zu T 1 0 (.norm false [6]) l93_0 (Zjm b A0.length LQ y)=some r:=by
 refine za6 _ _ (fun y=>y.1) _ ?_
 rintro⟨k,A,m⟩ ⟨hk,hA,hm,hlt,hv⟩
 simp only at hk hA hm hlt hv;have hbp:0<val b:=by omega
 cases k with
 | zero=>
  right;rw[Yef,Yd1]at hv;rw[Yat]at hlt;refine⟨_,⟨m,A,rfl,by omega,hA,?_,?_⟩,?_,?_⟩
  ·rw[hv,Nat.add_mul_div_right _ _ hbp,Ybs hlt,Yar]
  ·rw[hv,Nat.add_mul_mod_self_right,Yu hlt]
  ·simp -implicitDefEqProofs[l93_0,Zjm]
  ·simp -implicitDefEqProofs[l93_0,Zjm]
 | succ j=>
  left
  -- the window
  have hD:(A.drop j).length=A.length-j:=by simp
  have hDn:nb+2<(A.drop j).length:=by omega
  have hVlt:val (A.drop j)<4294967296*val b:=by
   have:=Yp (show j<A.length by omega);rw[this,zan];have:=zal (A[j]'(by omega));omega
  have hbB:=zay b;rw[hnb]at hbB;have hsplit:=zkh A j (nb+3);have hlen3:((A.drop j).take (nb+3)).length=nb+3:=by simp;omega
  rw[hlen3]at hsplit;have hz:val (A.drop (j+(nb+3)))=0:=by
   rcases Ybo (val (A.drop (j+(nb+3)))) with h | h
   ·exact h
   ·exfalso;have h1:=Ya2 (4294967296^(nb+3)) h;rw[Yac 4294967296 (nb+2)]at h1 hsplit;generalize 4294967296^(nb+2)=p at *
    generalize p*4294967296*val (A.drop (j+(nb+3)))=u at *
    omega
  rw[hz,Ya0,Yaa]at hsplit;have h3:=zve hDn;have h2:=z1h (D:=b) (n:=nb) (by omega);rw[zbh (a:=b) (i:=nb+2) (by omega)]at h2;have hv0:=zay ((A.drop j).take nb);have hb0:=zay (b.take nb);rw[show ((A.drop j).take nb).length=nb by simp;omega]at hv0;rw[show (b.take nb).length=nb by simp;omega]at hb0;obtain⟨V,hV⟩:∃V,V=val (A.drop j):=⟨_,rfl⟩;rw[<-hV]at hsplit hVlt;rw[<-hsplit]at h3;have hg:=zwa (V:=V) (b:=val b) h3 hv0 h2 hb0 (by omega) hVlt;obtain⟨p0,hp0⟩:∃p,p=j+b.length:=⟨_,rfl⟩;obtain⟨p1,hp1⟩:∃p,p=j+(nb+1):=⟨_,rfl⟩;obtain⟨p2,hp2⟩:∃p,p=j+nb:=⟨_,rfl⟩;obtain⟨q1,hq1⟩:∃p,p=nb+1:=⟨_,rfl⟩;have c1:p0<A.length:=by omega
  have c2:p1<A.length:=by omega
  have c3:p2<A.length:=by omega
  have c4:q1<b.length:=by omega
  have c5:nb<b.length:=by omega
  have e1:(A.drop j)[nb+2]'hDn=A[p0]'c1:=Ydz.trans (zmm (by omega) _ _);have e2:(A.drop j)[nb+1]'(by omega)=A[p1]'c2:=Ydz.trans (zmm (by omega) _ _);have e3:(A.drop j)[nb]'(by omega)=A[p2]'c3:=Ydz.trans (zmm (by omega) _ _);have e4:b[nb+1]'(by omega)=b[q1]'c4:=zmm (by omega) _ _;rw[e1,e2,e3,e4]at hg;rw[e4]at hb1;have hgs:=zrl (T:=T) (A[p0]'c1).toNat (A[p1]'c2).toNat (A[p2]'c3).toNat (b[q1]'c4).toNat (b[nb]'c5).toNat (zal _) (zal _) (zal _) (zal _) (zal _) hb1;obtain⟨x,hxd⟩:∃x,x=min 4294967295 ((((A[p0]'c1).toNat*4294967296+(A[p1]'c2).toNat)*4294967296+(A[p2]'c3).toNat)/((b[q1]'c4).toNat*4294967296+(b[nb]'c5).toNat)):=⟨_,rfl⟩;rw[<-hxd]at hg hgs;have hx:x<4294967296:=by rw[hxd];exact Yc1 (Yee _ _) (by decide)
  clear hxd;obtain⟨Bo,m1,hBo,hm1,hvm1,hct⟩:=zrr (T:=T) A b j x hx (by omega) (by omega);rw[hnb,show nb+2+1=nb+3 from rfl,<-hsplit]at hvm1;have hm1l:=zay m1;rw[hm1,hnb,show nb+2+1=nb+3 from rfl]at hm1l;have hVp:V<4294967296^(nb+3):=by
   rw[Yac 4294967296 (nb+2)];generalize 4294967296^(nb+2)=p at *
   omega
  have hpk:=zvb hbp hg.1 hg.2 hVp hm1l hBo hvm1;have hql:V/val b<4294967296:=Ybi (by rw[Yaf];exact hVlt);have hzb:val (A.drop (j+(b.length+1)))=0:=by rw[hnb];exact hz
  have htj:(A.take j).length=j:=by simp;omega
  have fin:∀m2:List UInt32,m2.length=b.length+1->val m2=V%val b ->
    (A.take j++(m2++A.drop (j+(b.length+1)))).length=A0.length/\val ((A.take j++(m2++A.drop (j+(b.length+1)))).drop j)<val b /\
    val A0=val (A.take j++(m2++A.drop (j+(b.length+1))))+4294967296^j*(val (w32 (V/val b)::m)*val b):=by
   intro m2 hm2 hvm2;refine⟨by simp[hm2];omega,?_,?_⟩
   ·rw[Ybu (by omega),Ya9 (by omega),Ybn,zai,hzb,Ya0,Yaa,hvm2];exact Ybh _ hbp
   ·have t1:val A=val (A.take j)+4294967296^j*V:=by rw[hV];exact zm1 A j (by omega)
    have t2:val (A.take j++(m2++A.drop (j+(b.length+1))))=val (A.take j)+4294967296^j*(V%val b):=by
     rw[zai,zai,hzb,Ya0,Yaa,hvm2,htj]
    rw[zan,zaf hql];exact zxx t1 t2 (Yca V (val b)).symm hv
  clear hv hvm1 hsplit h3 h2 hg hbB hVlt hlt hzb hz hv0 hb0 hm1l hVp;have hw1:IntKind.wrap .i64 ((j:Int)-1)=(j:Int)-1:=zab _ (by omega);have hw2:IntKind.wrap .i64 ((j:Int)+b.length)=((p0:Nat):Int):=by rw[zab _ (by omega)];omega
  have hw3:IntKind.wrap .i64 ((p0:Int)-1)=((p1:Nat):Int):=by rw[zab _ (by omega)];omega
  have hw4:IntKind.wrap .i64 ((p0:Int)-2)=((p2:Nat):Int):=by rw[zab _ (by omega)];omega
  have hw5:IntKind.wrap .i64 ((b.length:Int)-1)=((q1:Nat):Int):=by rw[zab _ (by omega)];omega
  have hw6:IntKind.wrap .i64 ((b.length:Int)-2)=((nb:Nat):Int):=by rw[zab _ (by omega)];omega
  have hj1:j<LQ:=by omega
  rw[hA]at hct;have hml:(w32 (V/val b)::m).length=LQ-j:=by simp[hm];omega
  have hjb:j+b.length<A.length:=by omega
  have hnb3:nb+3=b.length+1:=by omega
  have d1:p0<A0.length:=by omega
  have d2:p1<A0.length:=by omega
  have d3:p2<A0.length:=by omega
  rcases Ybo Bo with h0 | h0
  ·obtain⟨hxq,hvm⟩:=hpk.1 h0;subst h0;subst hxq;have hset:=zkl (m:=m) (j:=j) (w32 (V/val b));obtain⟨f1,f2,f3⟩:=fin m1 hm1 hvm;refine⟨(j,A.take j++(m1++A.drop (j+(b.length+1))),w32 (V/val b)::m),⟨Ydb hj1,f1,hml,f2,f3⟩,Y1 j,?_⟩;simp -implicitDefEqProofs[l93_0,Zjm,hw1,hw2,hw3,hw4,hw5,hw6,c4,c5,d1,d2,d3,hA,hj1,hgs,hct,hset,zkm,zbm _ _ _ hx]
  ·have h1:Bo=1:=by omega
   obtain⟨hxq,hvm⟩:=hpk.2 h1;subst h1;have hset:=zkl (m:=m) (j:=j) (w32 (V/val b));obtain⟨t1,t2,t3,t4⟩:=zvd (A:=A) hm1 hjb;rw[hA]at t4;obtain⟨D,m2,hD,hm2,hvm2,hcg⟩:=zrs (T:=T) (A.take j++(m1++A.drop (j+(b.length+1)))) b j (by rw[t4,<-hA];exact hjb) (by rw[t4];exact hl);rw[t1,t2,t4]at hcg;rw[t3]at hvm2;have hm2l:=zay m2;rw[hm2]at hm2l;have hVb:=Ybh V hbp;have hbq:val b<4294967296^(b.length+1):=Ym (zay b) (Yt (by decide) (Ybf _));rw[hnb3]at hvm;have hv2:=zvc (Nat.lt_trans hVb hbq) hvm hm2l hD hvm2;have hsx:=zrq hxq hx;obtain⟨f1,f2,f3⟩:=fin m2 hm2 hv2;refine⟨(j,A.take j++(m2++A.drop (j+(b.length+1))),w32 (V/val b)::m),⟨Ydb hj1,f1,hml,f2,f3⟩,Y1 j,?_⟩;simp -implicitDefEqProofs[l93_0,Zjm,hw1,hw2,hw3,hw4,hw5,hw6,c4,c5,d1,d2,d3,hA,hj1,hgs,hct,hsx,hcg,hset,zkm,zbm _ _ _ hql]
end
section
variable{T:Tbl}[Zn T][Zr T]
def zvf(A b:List UInt32)(LQ nb:Nat)(hnb:b.length=nb+2)(hb1:0<(b[nb+1]'(by omega)).toNat)(hl:A.length<=1000000)(hA:A.length=LQ+b.length)(hlt:val (A.drop LQ)<val b) :
  ∃Q R:List UInt32,Q.length=LQ/\R.length=A.length/\val Q=val A/val b/\val R=val A%val b /\
   Zd0 T 93 [.bs (.bor 0) 0 1 0 A.length,.sl (Za b) .an] [(.bor 0,⟨0,.own,1,Za A⟩)]=some (.bs (.loc 15) 3 1 0 LQ,[(.bor 0,⟨0,.own,1,Za R⟩),(.loc 15,⟨3,.own,1,Za Q⟩)]):=by
 obtain⟨_,⟨Q,R,rfl,hQ,hR,hq,hr⟩,hlp⟩:=z1i (T:=T) A b LQ nb hnb hb1 hl hA (LQ,A,[]) ⟨Yi _,rfl,by simp,hlt,by simp⟩;have hw:IntKind.wrap .i64 ((A.length:Int)-b.length)=(LQ:Int):=by rw[zab _ (by omega)];omega
 have hw1:IntKind.wrap .i64 ((LQ:Int)-1)=(LQ:Int)-1:=zab _ (by omega);have h1:(LQ:Int)<=4294967296:=by omega
 refine⟨Q,R,hQ,hR,hq,hr,?_⟩;unfold Zjm at hlp;simp at hlp;rw[zdp Zr.h93 rfl,b93];simp -implicitDefEqProofs[hw,hw1,h1,hlp]
end
section
def b2071:AX:=
 (.seq
 (.reg [rg 2 (.mov (.c (.sl [] .nl)))])
 (.seq
 (.reg [mv 3 0,rg 4 (.call 86 [(.t 3)]),rg 5 (.call 2106 [(.t 4),(.c (.i .i64 0))]),mv 2 5])
 (.pre (.norm false [2]) .ret)))
def l2092_0:AX:=
 (.note
 (.seq
 (.reg [rg 27 (.bin .lss (.t 26) (.t 25))])
 (.seq
 (.cond (.t 27)
 .skip
 (.exit 0))
 (.seq
 (.block 1
 (.seq
 (.reg [mv 28 26,rg 29 (.iad 1 (.t 24) (.t 26)),rg 30 (.load none (.t 29)),mv 8 28,mv 9 30])
 (.seq
 (.reg [mv 31 9,rg 32 (.conv .u64 (.t 31)),mv 33 6,rg 34 (.bin .shl (.t 32) (.t 33)),mv 10 34])
 (.seq
 (.reg [mv 35 7,mv 36 5,mv 37 8,rg 38 (.bin .add (.t 36) (.t 37)),rg 39 (.iad 1 (.t 35) (.t 38)),rg 40 (.load none (.t 39)),mv 41 10,rg 42 (.conv .u32 (.t 41)),rg 43 (.bin .or (.t 40) (.t 42)),rg 44 (.iad 1 (.t 35) (.t 38)),so (.store 1 (.t 44) (.t 43))])
 (.reg [mv 45 7,mv 46 5,mv 47 8,rg 48 (.bin .add (.t 46) (.t 47)),rg 49 (.bin .add (.t 48) (.c (.i .i64 1))),mv 50 10,rg 51 (.bin .shr (.t 50) (.c (u64 32))),rg 52 (.conv .u32 (.t 51)),rg 53 (.iad 1 (.t 45) (.t 49)),so (.store 1 (.t 53) (.t 52))])))))
 (.reg [rg 54 (.bin .add (.t 26) (.c (.i .i64 1))),mv 26 54]))))
 (.norm false [5,6,7,24,25,26]))
def b2092:AX:=
 (.seq
 (.reg [rg 4 (.mov (.c (.sl [] .nl)))])
 (.seq
 (.reg [mv 11 1,rg 12 (.mm true [(.t 11),(.c (.i .i64 0))]),rg 13 (.mm false [(.t 12),(.c (.i .i64 4096))]),mv 1 13])
 (.seq
 (.reg [mv 14 1,rg 15 (.bin .quo (.t 14) (.c (.i .i64 32))),mv 16 1,rg 17 (.bin .rem (.t 16) (.c (.i .i64 32))),mv 5 15,mv 6 17])
 (.seq
 (.reg [mv 18 5,mv 19 0,rg 20 (.len (.t 19)),rg 21 (.bin .add (.t 18) (.t 20)),rg 22 (.bin .add (.t 21) (.c (.i .i64 1))),rg 23 (.mks 1 [(u32 0)] (.t 22) (.t 22)),mv 7 23])
 (.seq
 (.seq
 (.reg [mv 24 0,rg 25 (.len (.t 24)),rg 26 (.mov (.c (.i .i64 0)))])
 (.lp 0 (.norm false [5,6,7,24,25,26]) l2092_0 (.norm false [7])))
 (.seq
 (.reg [mv 55 7,rg 56 (.call 2071 [(.t 55)]),mv 4 56])
 (.pre (.norm false [4]) .ret)))))))
def b62:AX:=
 (.seq
 (.reg [rg 4 (.mov (.c (.sl [] .nl))),rg 5 (.mov (.c (.sl [] .nl))),rg 6 (.mov (.c (.b false)))])
 (.seq
 (.reg [mv 12 1,rg 13 (.call 71 [(.t 12)]),mv 1 13])
 (.seq
 (.block 0
 (.seq
 (.reg [mv 15 1,rg 16 (.len (.t 15)),rg 17 (.bin .eql (.t 16) (.c (.i .i64 0))),mv 14 17])
 (.cond (.t 14)
 (.seq
 (.reg [rg 4 (.mov (.c (.sl [] .nl))),rg 5 (.mov (.c (.sl [] .nl))),rg 6 (.mov (.c (.b false)))])
 (.pre (.norm false [4,5,6]) .ret))
 (.seq
 (.reg [mv 19 0,mv 20 1,rg 21 (.call 87 [(.t 19),(.t 20)]),rg 22 (.bin .lss (.t 21) (.c (.i .i64 0))),mv 18 22])
 (.cond (.t 18)
 (.seq
 (.reg [mv 23 0,rg 24 (.call 71 [(.t 23)]),rg 4 (.mov (.c (.sl [] .nl))),mv 5 24,rg 6 (.mov (.c (.b true)))])
 (.pre (.norm false [4,5,6]) .ret))
 (.seq
 (.reg [mv 26 1,rg 27 (.len (.t 26)),rg 28 (.bin .eql (.t 27) (.c (.i .i64 1))),mv 25 28])
 (.cond (.t 25)
 (.seq
 (.reg [mv 30 0,mv 31 1,rg 32 (.iad 1 (.t 31) (.c (.i .i64 0))),rg 33 (.load none (.t 32)),rg 34 (.call 90 [(.t 30),(.t 33)]),mv 29 34,rg 35 (.ext (.t 29) 0),rg 36 (.ext (.t 29) 1),rg 37 (.ext (.t 29) 2),mv 7 35,mv 8 36,mv 9 37])
 (.seq
 (.reg [mv 38 7,mv 39 8,rg 40 (.conv .u64 (.t 39)),rg 41 (.call 72 [(.t 40)]),mv 4 38,mv 5 41,rg 6 (.mov (.c (.b true)))])
 (.pre (.norm false [4,5,6]) .ret)))
 .skip)))))))
 (.seq
 (.reg [mv 42 1,mv 43 1,rg 44 (.len (.t 43)),rg 45 (.bin .sub (.t 44) (.c (.i .i64 1))),rg 46 (.iad 1 (.t 42) (.t 45)),rg 47 (.load none (.t 46)),rg 48 (.call 91 [(.t 47)]),rg 49 (.bin .sub (.c (.i .i64 32)) (.t 48)),mv 10 49])
 (.seq
 (.reg [mv 50 0,mv 51 10,rg 52 (.call 2092 [(.t 50),(.t 51)]),rg 53 (.bsl 1 [(u32 0)] 1 [(0,(.c (u32 0)))]),rg 54 (.app 1 (.t 52) (.t 53)),mv 11 54])
 (.seq
 (.reg [mv 55 11,mv 56 1,mv 57 10,rg 58 (.call 2092 [(.t 56),(.t 57)]),rg 59 (.call 93 [(.t 55),(.t 58)]),mv 4 59])
 (.seq
 (.reg [mv 60 4,rg 61 (.call 71 [(.t 60)]),mv 62 11,mv 63 10,rg 64 (.call 94 [(.t 62),(.t 63)]),mv 4 61,mv 5 64,rg 6 (.mov (.c (.b true)))])
 (.pre (.norm false [4,5,6]) .ret))))))))
abbrev row2071:AFx:=⟨1,6,[.t 2],b2071,(some [false]),false⟩
abbrev row2092:AFx:=⟨2,57,[.t 4],b2092,(some [false,false]),false⟩
abbrev row62:AFx:=⟨2,65,[.t 4,.t 5,.t 6],b62,none,false⟩
class Zv (T:Tbl):Prop where
 h2071:Tr T 2071=some row2071
 h2092:Tr T 2092=some row2092
 h62:Tr T 62=some row62
attribute [simp] Zv.h2071 Zv.h2092 Zv.h62
end
def z1q(x:Nat):x<2^Zab x:=by
 unfold Zab;split
 ·subst x;decide
 ·exact Ycw
def zvw{x:Nat}(h:x<4294967296):Zab x<=32:=by
 unfold Zab;split
 ·omega
 ·rename_i h0;have:=(Yek h0 (k:=32)).2 (by simpa using h);omega
def zzj{n k:Nat}(h:(ofN n).length=k+1):4294967296^k<=n:=by
 rcases Yv n (4294967296^k) with h1 | h1
 ·have:=zaj h1;omega
 ·exact h1
def z60{b:List UInt32}{nb:Nat}(h:b.length=nb+2)(hb:b=ofN (val b)) :
  (ofN (val b*2^(32-Zab (b[nb+1]'(by omega)).toNat))).length=nb+2:=by
 have hl:=zvw (zal (b[nb+1]'(by omega)));have hs:=z1q (b[nb+1]'(by omega)).toNat;have h1:val b=val (b.take (nb+1))+4294967296^(nb+1)*(b[nb+1]'(by omega)).toNat:=by
  have:=zae (Ya (show nb+1<b.length by omega))
  rwa [zbh (by omega)]at this
 have h2:=zay (b.take (nb+1));rw[show (b.take (nb+1)).length=nb+1 by simp;omega]at h2;generalize (b[nb+1]'(by omega)).toNat=t at *
 refine Nat.le_antisymm (zaj ?_) ?_
 ·have h3:val b<4294967296^(nb+1)*2^Zab t:=by
   have:4294967296^(nb+1)*(t+1)<=4294967296^(nb+1)*2^Zab t:=Ya2 _ hs;rw[Yao,Ydn]at this;omega
  have h4:2^Zab t*2^(32-Zab t)=4294967296:=by
   rw[<-Yb2,show Zab t+(32-Zab t)=32 by omega]
  have h5:=Ydq h3 (Ybr (n:=32-Zab t) (show 0<2 by decide));rw[Yaw,h4,<-Yac]at h5;exact h5
 ·have h3:val b<=val b*2^(32-Zab t):=Yd0 _ (Ybr (by decide));have:=zbb h3;rw[<-hb]at this;omega
def z1r{b:List UInt32}{nb:Nat}(h:b.length=nb+2)(hb:b=ofN (val b)):0<(b[nb+1]'(by omega)).toNat:=by
 have h1:val b=val (b.take (nb+1))+4294967296^(nb+1)*(b[nb+1]'(by omega)).toNat:=by
  have:=zae (Ya (show nb+1<b.length by omega))
  rwa [zbh (by omega)]at this
 have h2:=zay (b.take (nb+1));rw[show (b.take (nb+1)).length=nb+1 by simp;omega]at h2;have h3:4294967296^(nb+1)<=val b:=zzj (by rw[<-hb];omega);rcases Ybo (b[nb+1]'(by omega)).toNat with h0 | h0
 ·rw[h0,Ya0]at h1;omega
 ·exact h0
def zh6(l:List UInt32):val (l++[0])=val l:=by rw[zai];simp
def z61{A b:List UInt32}{nb L:Nat}(hA:(A++[0]).length=L+b.length)(hb:b.length=nb+2)(hbo:b=ofN (val b)):val ((A++[0]).drop L)<val b:=by
 have hl:L<=A.length:=by simp at hA;omega
 rw[Ybu hl,zh6];have h1:=zay (A.drop L);have h2:(A.drop L).length=nb+1:=by simp at hA ⊢;omega
 rw[h2]at h1;exact Ym h1 (zzj (by rw[<-hbo];omega))
section
variable{T:Tbl}[Zn T][Zv T]
def zmw(a:List UInt32)(hl:a.length<=1000000):Zd0 T 2071 [.sl (Za a) .an] [] =
  some (.bs (.fld (.loc 5) 10) 1 1 0 (ofN (val a)).length,[(.fld (.loc 5) 10,⟨1,.own,1,Za (ofN (val a))⟩)]):=by
 have h1:=zac a;have h2:=zcn (T:=T) (ofN (val a)) 0 (by omega);simp only[Y8,Yaa,List.replicate_zero,Ybg]at h2;rw[zdp Zv.h2071 rfl,b2071];simp -implicitDefEqProofs[zbn a (by omega),h2]
end
section
variable{T:Tbl}[Zn T][Zv T]
def zh7(a:List UInt32)(n:Nat)(hn:n<=4096)(hl:a.length<=100000):Zd0 T 2092 [.sl (Za a) .an,.i .i64 n] [] =
  some (.bs (.fld (.fld (.loc 56) 0) 6010) 1 1 0 (ofN (val a*2^n)).length,[(.fld (.fld (.loc 56) 0) 6010,⟨1,.own,1,Za (ofN (val a*2^n))⟩)]):=by
 obtain⟨_,⟨c,m,rfl,hm,hc,hv⟩,hr⟩:=zv3 (T:=T) (List.replicate (n/32) 0) a (n%32) (Ybh _ (by decide)) (by simp;omega) (0,0,[]) ⟨Y4 _,Ybr (by decide),rfl,by simp⟩;have hc32:c<4294967296:=Ym hc (by
  have:2^(n%32)<=2^32:=Yt (by decide) (by omega);simpa using this)
 have hval:val (List.replicate (n/32) 0++(m++[w32 c]))=val a*2^n:=by
  rw[zai,za8,Ycj,zai,hm];simp only[zan,zbx,Ya0,Yaa,zaf hc32,Yar];rw[hv,zyl,<-Yaw,<-Yb2,show 32*(n/32)+n%32=n by omega,Yaf]
 have hlen:(List.replicate (n/32) 0++(m++[w32 c])).length=n/32+a.length+1:=by simp[hm];omega
 have hnm:=zmw (T:=T) (List.replicate (n/32) 0++(m++[w32 c])) (by omega);rw[hval]at hnm;rw[show l92_0=l2092_0 from rfl]at hr;unfold Zkr at hr;generalize List.replicate (n/32) 0++(m++[w32 c])=Q at *
 simp at hr;have hz:List.replicate (n/32) (0:UInt32)++w32 0::List.replicate a.length 0=List.replicate (n/32+a.length+1) 0:=by
  have:w32 0=0:=rfl;rw[this,<-Yba,Ycc,Yap]
 rw[hz]at hr;have hn2:¬ (4096:Int)<(n:Int):=by omega
 have hq:(n:Int).tdiv 32=(n:Int)/32:=Ycr (by omega);have hm2:(n:Int).tmod 32=(n:Int)%32:=Ycs (by omega);have w1:IntKind.wrap .i64 ((n:Int)/32)=(n:Int)/32:=zab (n/32) (by omega);have w2:IntKind.wrap .i64 ((n:Int)/32+a.length)=(n:Int)/32+a.length:=zab _ (by omega);have w3:IntKind.wrap .i64 ((n:Int)/32+a.length+1)=(n:Int)/32+a.length+1:=zab _ (by omega);have p1:(0:Int)<=(n:Int)/32+a.length+1:=by omega
 have p2:(n:Int)/32+a.length+1<=4294967296:=by omega
 have p3:((n:Int)/32+a.length+1).toNat=n/32+a.length+1:=by omega
 have htk:List.take (n/32+a.length+1) Q=Q:=Yb (by omega);rw[zdp Zv.h2092 rfl,b2092];simp -implicitDefEqProofs[hn2,hq,hm2,w1,w2,w3,p1,p2,p3,hr,hnm,htk,hlen]
end
section
variable{T:Tbl}[Zn T][Zz T][Zw T][Zr T][Zv T]
def zfn(a b:List UInt32)(ha:a.length<=90000)(hb:b.length<=90000):Zb T 62 [.sl (Za a) .an,.sl (Za b) .an] =
  some (if val b=0 then .tup [.sl [] .an,.sl [] .an,.b false] else .tup [.sl (Za (ofN (val a/val b))) .an,.sl (Za (ofN (val a%val b))) .an,.b true]):=by
 have hnb:=za7 (T:=T) b (by omega);have hna:=za7 (T:=T) a (by omega);have hlb:=zac b;have hla:=zac a;have hcmp:=zf0 (T:=T) a (ofN (val b)) (by omega) (by omega);rw[zad]at hcmp;rw[zaa Zv.h62 rfl,b62];by_cases h0:val b=0
 ·rw[h0]at hnb;simp -implicitDefEqProofs[hnb,h0]
 ·have h0':ofN (val b)≠[]:=fun h=>h0 (za4.1 h);have hl0:(ofN (val b)).length≠0:=fun h=>h0' (Yag h);by_cases hlt:val a<val b
  ·have hd:=Ybs hlt;have hm:=Yu hlt;simp -implicitDefEqProofs[hnb,h0,hl0,hcmp,zds,hlt,hna,hd,hm]
  ·rcases Yv 1 (ofN (val b)).length with h1 | h1
   ·obtain⟨b',hb'⟩:∃b',b'=ofN (val b):=⟨_,rfl⟩;have hvb:val b'=val b:=by rw[hb',zad]
    have hbo:b'=ofN (val b'):=by rw[hvb,hb']
    rw[<-hb']at hnb hcmp hl0 h1 hlb;obtain⟨nb,hnbl⟩:∃nb,b'.length=nb+2:=⟨b'.length-2,by omega⟩;have hll:=zpz (T:=T) (b'[nb+1]'(by omega));have hbl:=zvw (zal (b'[nb+1]'(by omega)));have hup:=z60 hnbl hbo;obtain⟨s,hs⟩:∃s,s=32-Zab (b'[nb+1]'(by omega)).toNat:=⟨_,rfl⟩;obtain⟨l,hll2⟩:∃l,l=Zab (b'[nb+1]'(by omega)).toNat:=⟨_,rfl⟩;rw[<-hs]at hup;rw[<-hll2]at hll hs hbl;obtain⟨B,hB⟩:∃B,B=ofN (val b'*2^s):=⟨_,rfl⟩;obtain⟨A,hA⟩:∃A,A=ofN (val a*2^s):=⟨_,rfl⟩;have hua:=zh7 (T:=T) a s (by omega) (by omega);have hub:=zh7 (T:=T) b' s (by omega) (by omega);rw[<-hA]at hua;rw[<-hB]at hub hup;have hBo:B=ofN (val B):=by rw[hB,zad]
    have hvA:val A=val a*2^s:=by rw[hA,zad]
    have hvB:val B=val b'*2^s:=by rw[hB,zad]
    have hAB:B.length<=A.length:=by
     rw[hA,hB];exact zbb (Y2 _ (by omega))
    have hAl:A.length<=a.length+1:=by
     rw[hA];refine zaj ?_;have h2:2^s<=2^32:=Yt (by decide) (by omega);rw[Yac];exact Yc1 (Ya2 _ h2) (Ydq (zay a) (by decide))
    have hpos:=z1r (hup) hBo;obtain⟨Q,R,hQ,hR,hvQ,hvR,hlong⟩:=zvf (T:=T) (A++[0]) B (A.length+1-B.length) nb hup hpos (by simp;omega) (by simp;omega) (z61 (by simp;omega) hup hBo);rw[zh6,hvA,hvB,hvb,Nat.mul_div_mul_right _ _ (Ybr (by decide))]at hvQ;rw[zh6,hvA,hvB,hvb,Nat.mul_mod_mul_right]at hvR;have hnq:=za7 (T:=T) Q (by omega);have hAl1:(A++[(0:UInt32)]).length=A.length+1:=by simp
    rw[hAl1]at hlong hR;have hdn:=zv6 (T:=T) R s (by omega) (by omega);rw[hvR,Nat.mul_div_cancel _ (Ybr (by decide))]at hdn;rw[hvQ]at hnq;obtain⟨q1,hq1⟩:∃p,p=nb+1:=⟨_,rfl⟩;have c1:q1<b'.length:=by omega
    have hwt:b'[nb+1]'(by omega)=b'[q1]'c1:=zmm (by omega) _ _;rw[hwt]at hll;have w1:IntKind.wrap .i64 ((b'.length:Int)-1)=(q1:Int):=by rw[zab _ (by omega)];omega
    have w2:IntKind.wrap .i64 (32-(l:Int))=(s:Int):=by rw[zab _ (by omega)];omega
    have c3:A.length<=4294967295:=by omega
    have c4:w32 0=0:=rfl;have c5:A.length+1<=A.length+1-B.length+B.length:=by omega
    have c2:¬ ((b'.length:Int)=1):=by omega
    have t1:List.take (A.length+1) R=R:=Yb (by omega);have t2:List.take (A.length+1-B.length) Q=Q:=Yb (by omega);simp -implicitDefEqProofs[hnb,h0,hl0,hcmp,zds,hlt,w1,w2,c1,c2,c3,c4,c5,hll,hua,hub,hlong,hnq,hdn,t1,t2,hQ,hR]
   ·have hl1:(ofN (val b)).length=1:=by omega
    obtain⟨w,hw⟩:=List.length_eq_one_iff.1 hl1;have hvb:val b=w.toNat:=by
     have:=zad (val b);rw[hw]at this;simp at this;omega
    have hwl:=zal w;have hwd:=zmt (T:=T) a (val b) (by omega) (by omega) (by omega);have hof:=zd6 (T:=T) (val a%val b) (by have:=Ybh (val a) (show 0<val b by omega);omega);have m1:val a%val b%18446744073709551616=val a%val b:=Yu (by have:=Ybh (val a) (show 0<val b by omega);omega);rw[hw]at hnb hcmp;rw[<-hvb]at hwl;simp -implicitDefEqProofs[hnb,h0,hcmp,zds,hlt,hwd,<-hvb,hof,m1]
end
def Zit(n:Nat):List UInt8:=if h:n<10 then [UInt8.ofNat (48+n)] else UInt8.ofNat (48+n%10)::Zit (n/10)
termination_by n
decreasing_by omega
def Zs(n:Nat):List UInt8:=(Zit n).reverse
def Zdp:List AV->Option UInt32
 | [.i .u32 n]=>if 0<=n/\n<4294967296 then some (w32 n.toNat) else none
 | _=>none
def prim68:List AV->Option AV
 | [.sl els .an]=>if els.length<=1000 then (els.mapM Zdp).map fun l=>.s (Zs (val l)) else none
 | _=>none
def zjo(l:List UInt32):(Za l).mapM Zdp=some l:=by
 induction l with
 | nil=>rfl
 | cons x l ih=>
  have hx:=zal x;have h1:Zdp [u32 x.toNat]=some x:=by
   unfold Zdp u32;simp only;rw[if_pos ⟨by omega,by omega⟩];simp
  have e:Za (x::l)=[u32 x.toNat]::Za l:=rfl;rw[e,Ya4,h1,ih]
  rfl
def zia(a:List UInt32)(h:a.length<=1000):prim68 [.sl (Za a) .an]=some (.s (Zs (val a))):=by
 unfold prim68;simp only[zhv,h,if_true,zjo,Ya1]
def Zcn:Nat->List UInt8->Int
 | _,[]=>-1
 | k,c::r=>if c.toNat<48\/57<c.toNat\/k=60 then k else Zcn (k+1) r
def Z1(l:List UInt8):Int:=if l=[] then 0 else Zcn 0 l
theorem zol:∀(k:Nat) (l:List UInt8),-1<=Zcn k l
 | _,[]=>by simp[Zcn]
 | k,c::r=>by
  simp only[Zcn];split
  ·omega
  ·exact zol (k+1) r
theorem zib:∀(k:Nat) (l:List UInt8),k<=60->Zcn k l<=60
 | _,[],_=>by simp[Zcn]
 | k,c::r,h=>by
  simp only[Zcn];split
  ·omega
  ·exact zib (k+1) r (by omega)
theorem zgo:∀(k:Nat) (l:List UInt8),k<=60->Zcn k l<0->k+l.length<=60/\∀c∈l,48<=c.toNat/\c.toNat<=57
 | k,[],h,_=>⟨by simpa using h,by simp⟩
 | k,c::r,h,hw=>by
  simp only[Zcn]at hw;split at hw
  ·omega
  ·rename_i hc;obtain⟨h1,h2⟩:=zgo (k+1) r (by omega) hw;refine⟨by simp;omega,fun d hd=>?_⟩;rcases Yn.1 hd with rfl | hd
   ·omega
   ·exact h2 d hd
def rd(l:List UInt8):Nat:=l.foldl (fun n c=>n*10+(c.toNat-48)) 0
def z1y(l:List UInt8):∀n,l.foldl (fun n c=>n*10+(c.toNat-48)) n=n*10^l.length+rd l:=by
 induction l with
 | nil=>intro n;simp[rd]
 | cons c l ih=>
  intro n;simp only[List.foldl_cons,Yg,rd];rw[ih,ih (0*10+(c.toNat-48)),Yac]
  grind
def zic(a b:List UInt8):rd (a++b)=rd a*10^b.length+rd b:=by
 unfold rd;rw[List.foldl_append,z1y]
 rfl
def zwb(a:List UInt8)(c:UInt8):rd (a++[c])=rd a*10+(c.toNat-48):=by
 rw[zic];simp[rd]
def zm2{l:List UInt8}{i:Nat}{c:UInt8}(h:l[i]? = some c):rd (l.take (i+1))=rd (l.take i)*10+(c.toNat-48):=by
 rw[Yco,h];exact zwb _ _
def zwc{l:List UInt8}(h:∀c∈l,48<=c.toNat/\c.toNat<=57):rd l<10^l.length:=by
 induction l with
 | nil=>simp[rd]
 | cons c l ih=>
  have h1:=ih fun d hd=>h d (Yh _ hd);have h2:=h c Yj;have:rd (c::l)=(c.toNat-48)*10^l.length+rd l:=by
   have:=zic [c] l;simpa[rd]using this
  rw[this,Yg,Yac];have h3:(c.toNat-48)*10^l.length<=9*10^l.length:=Y2 _ (by omega);omega
def zjp{n:Nat}(h:n<10):Zit n=[UInt8.ofNat (48+n)]:=by rw[Zit,dif_pos h]
def zp8{n:Nat}(h:¬ n<10):Zit n=UInt8.ofNat (48+n%10)::Zit (n/10):=by rw[Zit,dif_neg h]
def zcb{n:Nat}(h:n<10):Zs n=[UInt8.ofNat (48+n)]:=by rw[Zs,zjp h];rfl
def zd8{n:Nat}(h:¬ n<10):Zs n=Zs (n/10)++[UInt8.ofNat (48+n%10)]:=by rw[Zs,zp8 h];simp[Zs]
def txN(n:Nat)(s:List UInt8):List UInt8:=if n=0/\s≠[] then s else Zs n++s
def Zdh:Nat->Nat->List UInt8
 | 0,_=>[]
 | k+1,x=>Zdh k (x/10)++[UInt8.ofNat (48+x%10)]
def u8c(l:List UInt8):List AV:=l.map fun b=>u8 b.toNat
@[simp] def z3z(l:List UInt8):(u8c l).length=l.length:=by simp[u8c]
@[simp] def zaia(l:List UInt8):(u8c l).flatMap rfC=[]:=by induction l with | nil=>rfl | cons x l ih=>simp[u8c]
@[simp] def zafh{σn:BId->BId}{σg:Nat->Nat}(l:List UInt8):(u8c l).map (fun c=>rlC σn σg (wkA c))=u8c l:=by induction l with | nil=>rfl | cons x l ih=>simp[u8c]
@[simp] def zym(l:List UInt8):(u8c l).all pureC=true:=by induction l with | nil=>rfl | cons x l ih=>simp[u8c]
@[simp] def z63(l:List UInt8):(∀x,x∈u8c l->pureC x=true)=True:=by
 have:=zym l;rw[Yl]at this;simpa using this
def z1z{l:List UInt8}{j d:Nat}(h:d<256)(hj:j<l.length):(u8c l).take j++u8 d::(u8c l).drop (j+1)=u8c (l.set j (UInt8.ofNat d)):=by
 rw[Ycz,if_pos hj];simp[u8c,List.map_take,List.map_drop,Yu h]
theorem ze1:∀k x,(Zdh k x).length=k
 | 0,_=>rfl
 | k+1,x=>by simp[Zdh,ze1 k]
def zid(x:Nat):Zdh 0 x=[]:=rfl
def zd9(k x:Nat):Zdh (k+1) x=Zdh k (x/10)++[UInt8.ofNat (48+x%10)]:=rfl
def zyn{m:List UInt8}{j:Nat}(w:UInt8):(List.replicate (j+1) 0++m).set j w=List.replicate j 0++w::m:=by
 rw[List.set_append_left j w (by simp),List.replicate_succ',Yai j w (by simp)];simp
def zyo(m:List UInt8):((u8c m).map fun c=>[c]).mapM Zdw=some m:=by
 induction m with
 | nil=>rfl
 | cons b m ih=>
  have e:((u8c (b::m)).map fun c=>[c])=[u8 b.toNat]::((u8c m).map fun c=>[c]):=rfl;rw[e,Ya4,ih];simp[Zdw,u8]
section
def b98:AX:=
 (.seq
 (.reg [rg 4 (.mov (.c (.s []))),rg 5 (.mov (.c (.b false)))])
 (.seq
 (.seq
 (.reg [mv 6 0,mv 7 1,rg 8 (.call 123 [(.t 6),(.t 7)]),rg 9 (.un .not (.t 8))])
 (.cond (.t 9)
 (.seq
 (.reg [mv 10 0,mv 4 10,rg 5 (.mov (.c (.b false)))])
 (.pre (.norm false [4,5]) .ret))
 .skip))
 (.seq
 (.reg [mv 11 0,mv 12 1,rg 13 (.lens (.t 12)),rg 14 (.slstr (.t 11) (some (.t 13)) none),mv 4 14,rg 5 (.mov (.c (.b true)))])
 (.pre (.norm false [4,5]) .ret))))
def b123:AX:=
 (.seq
 (.reg [rg 4 (.mov (.c (.b false)))])
 (.seq
 (.reg [mv 5 0,rg 6 (.lens (.t 5)),mv 7 1,rg 8 (.lens (.t 7)),rg 9 (.bin .geq (.t 6) (.t 8)),mv 10 9,gd 11 10 true (.mov (.t 0)),gd 12 10 true (.mov (.t 1)),gd 13 10 true (.lens (.t 12)),gd 14 10 true (.slstr (.t 11) none (some (.t 13))),gd 15 10 true (.mov (.t 1)),gd 16 10 true (.bin .eql (.t 14) (.t 15)),rg 17 (.pick (.t 10) (.t 16) (.c (.b false))),mv 4 17])
 (.pre (.norm false [4]) .ret)))
def b64:AX:=
 (.seq
 (.reg [rg 4 (.mov (.c (.s []))),rg 5 (.mov (.c (.b false)))])
 (.seq
 (.reg [mv 6 0,mv 7 1,rg 8 (.call 98 [(.t 6),(.t 7)]),rg 9 (.ext (.t 8) 0),rg 10 (.ext (.t 8) 1),mv 4 9,mv 5 10])
 (.pre (.norm false [4,5]) .ret)))
def l101_0:AX:=
 (.note
 (.seq
 (.seq
 (.reg [mv 5 4,rg 6 (.bin .geq (.t 5) (.c (.i .i64 0)))])
 (.cond (.t 6)
 .skip
 (.exit 0)))
 (.seq
 (.block 1
 (.seq
 (.reg [mv 9 4,mv 10 0,rg 11 (.bin .rem (.t 10) (.c (u32 10))),rg 12 (.bin .add (.c (u32 48)) (.t 11)),rg 13 (.conv .u8 (.t 12)),rg 14 (.iaa 1 9 (.t 3) (.t 9)),so (.store 1 (.t 14) (.t 13))])
 (.reg [mv 15 0,rg 16 (.bin .quo (.t 15) (.c (u32 10))),mv 0 16])))
 (.reg [mv 7 4,rg 8 (.bin .sub (.t 7) (.c (.i .i64 1))),mv 4 8])))
 (.norm false [0,3,4]))
def b101:AX:=
 (.seq
 (.reg [rg 2 (.mov (.c (.s [])))])
 (.seq
 (.reg [rg 3 (.alloc [(u8 0),(u8 0),(u8 0),(u8 0),(u8 0),(u8 0),(u8 0),(u8 0),(u8 0)])])
 (.seq
 (.seq
 (.reg [rg 4 (.mov (.c (.i .i64 8)))])
 (.lp 0 (.norm false [0,3,4]) l101_0 (.norm false [3])))
 (.seq
 (.reg [rg 17 (.xop (.arsl 9) [(.t 3)]),rg 18 (.xop .bstr [(.t 17)]),mv 2 18])
 (.pre (.norm false [2]) .ret)))))
def l99_0:AX:=
 (.note
 (.seq
 (.reg [rg 7 (.bin .lss (.t 6) (.t 5))])
 (.seq
 (.cond (.t 7)
 .skip
 (.exit 0))
 (.seq
 (.block 1
 (.seq
 (.reg [mv 8 6,mv 3 8])
 (.seq
 (.reg [mv 9 0,mv 10 3,rg 11 (.ixs (.t 9) (.t 10)),rg 12 (.bin .lss (.t 11) (.c (u8 48))),mv 13 12,gd 14 13 false (.mov (.t 0)),gd 15 13 false (.mov (.t 3)),gd 16 13 false (.ixs (.t 14) (.t 15)),gd 17 13 false (.bin .gtr (.t 16) (.c (u8 57))),rg 18 (.pick (.t 13) (.c (.b true)) (.t 17)),mv 19 18,gd 20 19 false (.mov (.t 3)),gd 21 19 false (.bin .eql (.t 20) (.c (.i .i64 60))),rg 22 (.pick (.t 19) (.c (.b true)) (.t 21))])
 (.cond (.t 22)
 (.seq
 (.reg [mv 23 3,mv 2 23])
 (.pre (.norm false [2]) .ret))
 .skip))))
 (.reg [rg 24 (.bin .add (.t 6) (.c (.i .i64 1))),mv 6 24]))))
 (.norm false [0,5,6]))
def b99:AX:=
 (.seq
 (.reg [rg 2 (.mov (.c (.i .i64 0)))])
 (.seq
 (.seq
 (.reg [mv 4 0,rg 5 (.lens (.t 4)),rg 6 (.mov (.c (.i .i64 0)))])
 (.lp 0 (.norm false [0,5,6]) l99_0 (.norm false [0])))
 (.seq
 (.seq
 (.reg [mv 25 0,rg 26 (.bin .eql (.t 25) (.c (.s [])))])
 (.cond (.t 26)
 (.seq
 (.reg [rg 2 (.mov (.c (.i .i64 0)))])
 (.pre (.norm false [2]) .ret))
 .skip))
 (.seq
 (.reg [rg 2 (.mov (.c (.i .i64 (-1))))])
 (.pre (.norm false [2]) .ret)))))
def l65_0:AX:=
 (.note
 (.seq
 (.seq
 (.reg [mv 20 9,rg 21 (.bin .lss (.t 20) (.c (.i .i64 9))),mv 22 21,gd 23 22 true (.mov (.t 6)),gd 24 22 true (.mov (.t 0)),gd 25 22 true (.lens (.t 24)),gd 26 22 true (.bin .lss (.t 23) (.t 25)),rg 27 (.pick (.t 22) (.t 26) (.c (.b false)))])
 (.cond (.t 27)
 .skip
 (.exit 2)))
 (.seq
 (.block 3
 (.seq
 (.reg [mv 30 7,rg 31 (.bin .mul (.t 30) (.c (u32 10))),mv 32 0,mv 33 6,rg 34 (.ixs (.t 32) (.t 33)),rg 35 (.bin .sub (.t 34) (.c (u8 48))),rg 36 (.conv .u32 (.t 35)),rg 37 (.bin .add (.t 31) (.t 36)),mv 7 37])
 (.seq
 (.reg [mv 38 8,rg 39 (.bin .mul (.t 38) (.c (u32 10))),mv 8 39])
 (.reg [mv 40 6,rg 41 (.bin .add (.t 40) (.c (.i .i64 1))),mv 6 41]))))
 (.reg [mv 28 9,rg 29 (.bin .add (.t 28) (.c (.i .i64 1))),mv 9 29])))
 (.norm false [0,3,5,6,7,8,9]))
def l65_1:AX:=
 (.note
 (.seq
 (.seq
 (.reg [mv 16 6,mv 17 0,rg 18 (.lens (.t 17)),rg 19 (.bin .lss (.t 16) (.t 18))])
 (.cond (.t 19)
 .skip
 (.exit 0)))
 (.block 1
 (.seq
 (.reg [rg 7 (.mov (.c (u32 0))),rg 8 (.mov (.c (u32 1)))])
 (.seq
 (.seq
 (.reg [rg 9 (.mov (.c (.i .i64 0)))])
 (.lp 2 (.norm false [0,3,5,6,7,8,9]) l65_0 (.norm false [0,3,5,6,7,8])))
 (.reg [mv 42 5,mv 43 8,mv 44 7,rg 45 (.call 100 [(.t 42),(.t 43),(.t 44)]),mv 5 45])))))
 (.norm false [0,3,5,6]))
def b65:AX:=
 (.seq
 (.reg [rg 2 (.mov (.c (.sl [] .nl))),rg 3 (.alloc [(.i .i64 0),(.i .i64 0),(.i .i64 0),(.i .i64 0)])])
 (.seq
 (.seq
 (.reg [mv 10 0,rg 11 (.call 99 [(.t 10)]),mv 4 11])
 (.seq
 (.reg [mv 12 4,rg 13 (.bin .geq (.t 12) (.c (.i .i64 0)))])
 (.cond (.t 13)
 (.seq
 (.reg [mv 14 4,rg 15 (.build [(.i .i64 0),(.i .i64 0),(.i .i64 0),(.i .i64 0)] [(0,1,(.c (.i .i64 1))),(3,1,(.t 14))]),rg 2 (.mov (.c (.sl [] .nl))),so (.store 4 (.t 3) (.t 15))])
 (.pre (.norm false [2,3]) .ret))
 .skip)))
 (.seq
 (.reg [rg 5 (.mov (.c (.sl [] .nl)))])
 (.seq
 (.seq
 (.reg [rg 6 (.mov (.c (.i .i64 0)))])
 (.lp 0 (.norm false [0,3,5,6]) l65_1 (.norm false [3,5])))
 (.seq
 (.reg [mv 46 5,rg 47 (.build [(.i .i64 0),(.i .i64 0),(.i .i64 0),(.i .i64 0)] []),mv 2 46,so (.store 4 (.t 3) (.t 47))])
 (.pre (.norm false [2,3]) .ret))))))
abbrev row98:AFx:=⟨2,15,[.t 4,.t 5],b98,none,false⟩
abbrev row123:AFx:=⟨2,18,[.t 4],b123,none,false⟩
abbrev row64:AFx:=⟨2,11,[.t 4,.t 5],b64,none,false⟩
abbrev row101:AFx:=⟨1,19,[.t 2],b101,none,false⟩
abbrev row99:AFx:=⟨1,27,[.t 2],b99,none,false⟩
abbrev row65:AFx:=⟨1,48,[.t 2,.cell 3 (some 4)],b65,none,false⟩
class Zp (T:Tbl):Prop where
 h98:Tr T 98=some row98
 h123:Tr T 123=some row123
 h64:Tr T 64=some row64
 h101:Tr T 101=some row101
 h99:Tr T 99=some row99
 h65:Tr T 65=some row65
attribute [simp] Zp.h98 Zp.h123 Zp.h64 Zp.h101 Zp.h99 Zp.h65
end
section
abbrev row68:AFx:=⟨0,0,[],.prim prim68,none,false⟩
class Zat (T:Tbl):Prop where
 h68:Tr T 68=some row68
attribute [simp] Zat.h68
section
variable{T:Tbl}[Zat T]{d:Option Nat}{st:St}
def p68(xs:List AV):Zb T 68 xs=prim68 xs:=zcr Zat.h68
end
end
section
def b103:AX:=
 (.seq
 (.reg [rg 4 (.mov (.c (.s [])))])
 (.seq
 (.seq
 (.reg [mv 7 0,rg 8 (.bin .eql (.t 7) (.c (.s []))),mv 9 8,gd 10 9 false (.mov (.t 1)),gd 11 9 false (.bin .eql (.t 10) (.c (.s []))),rg 12 (.pick (.t 9) (.c (.b true)) (.t 11))])
 (.cond (.t 12)
 (.seq
 (.reg [mv 13 0,mv 4 13])
 (.pre (.norm false [4]) .ret))
 .skip))
 (.seq
 (.seq
 (.reg [mv 14 1,rg 15 (.lens (.t 14)),rg 16 (.bin .eql (.t 15) (.c (.i .i64 1))),mv 17 16,gd 18 17 true (.mov (.t 1)),gd 19 17 true (.ixs (.t 18) (.c (.i .i64 0))),gd 20 17 true (.bin .lss (.t 19) (.c (u8 128))),rg 21 (.pick (.t 17) (.t 20) (.c (.b false)))])
 (.cond (.t 21)
 (.seq
 (.reg [mv 22 0,mv 23 1,rg 24 (.ixs (.t 23) (.c (.i .i64 0))),rg 25 (.call 125 [(.t 22),(.t 24)]),mv 4 25])
 (.pre (.norm false [4]) .ret))
 .skip))
 (.seq
 (.seq
 (.reg [mv 27 1,rg 28 (.call 126 [(.t 27)]),mv 26 28,rg 29 (.ext (.t 26) 0),rg 30 (.ext (.t 26) 1),rg 5 (.alloc [(.b false),(.b false),(.b false),(.b false),(.b false),(.b false),(.b false),(.b false),(.b false),(.b false),(.b false),(.b false),(.b false),(.b false),(.b false),(.b false),(.b false),(.b false),(.b false),(.b false),(.b false),(.b false),(.b false),(.b false),(.b false),(.b false),(.b false),(.b false),(.b false),(.b false),(.b false),(.b false),(.b false),(.b false),(.b false),(.b false),(.b false),(.b false),(.b false),(.b false),(.b false),(.b false),(.b false),(.b false),(.b false),(.b false),(.b false),(.b false),(.b false),(.b false),(.b false),(.b false),(.b false),(.b false),(.b false),(.b false),(.b false),(.b false),(.b false),(.b false),(.b false),(.b false),(.b false),(.b false),(.b false),(.b false),(.b false),(.b false),(.b false),(.b false),(.b false),(.b false),(.b false),(.b false),(.b false),(.b false),(.b false),(.b false),(.b false),(.b false),(.b false),(.b false),(.b false),(.b false),(.b false),(.b false),(.b false),(.b false),(.b false),(.b false),(.b false),(.b false),(.b false),(.b false),(.b false),(.b false),(.b false),(.b false),(.b false),(.b false),(.b false),(.b false),(.b false),(.b false),(.b false),(.b false),(.b false),(.b false),(.b false),(.b false),(.b false),(.b false),(.b false),(.b false),(.b false),(.b false),(.b false),(.b false),(.b false),(.b false),(.b false),(.b false),(.b false),(.b false),(.b false),(.b false),(.b false),(.b false),(.b false),(.b false),(.b false),(.b false),(.b false),(.b false),(.b false),(.b false),(.b false),(.b false),(.b false),(.b false),(.b false),(.b false),(.b false),(.b false),(.b false),(.b false),(.b false),(.b false),(.b false),(.b false),(.b false),(.b false),(.b false),(.b false),(.b false),(.b false),(.b false),(.b false),(.b false),(.b false),(.b false),(.b false),(.b false),(.b false),(.b false),(.b false),(.b false),(.b false),(.b false),(.b false),(.b false),(.b false),(.b false),(.b false),(.b false),(.b false),(.b false),(.b false),(.b false),(.b false),(.b false),(.b false),(.b false),(.b false),(.b false),(.b false),(.b false),(.b false),(.b false),(.b false),(.b false),(.b false),(.b false),(.b false),(.b false),(.b false),(.b false),(.b false),(.b false),(.b false),(.b false),(.b false),(.b false),(.b false),(.b false),(.b false),(.b false),(.b false),(.b false),(.b false),(.b false),(.b false),(.b false),(.b false),(.b false),(.b false),(.b false),(.b false),(.b false),(.b false),(.b false),(.b false),(.b false),(.b false),(.b false),(.b false),(.b false),(.b false),(.b false),(.b false),(.b false),(.b false),(.b false),(.b false),(.b false),(.b false),(.b false),(.b false),(.b false),(.b false),(.b false),(.b false),(.b false),(.b false),(.b false),(.b false),(.b false),(.b false),(.b false),(.b false),(.b false),(.b false),(.b false),(.b false),(.b false),(.b false)]),so (.store 256 (.t 5) (.t 29)),mv 6 30])
 (.seq
 (.reg [mv 31 6])
 (.cond (.t 31)
 (.seq
 (.reg [mv 32 0,rg 33 (.call 127 [(.t 32),(.t 5)]),mv 4 33])
 (.pre (.norm false [4]) .ret))
 .skip)))
 (.seq
 (.reg [mv 34 0,mv 35 1,rg 36 (.call 128 [(.t 34),(.t 35)]),mv 4 36])
 (.pre (.norm false [4]) .ret))))))
def l125_0:AX:=
 (.note
 (.seq
 (.seq
 (.reg [mv 5 0,rg 6 (.lens (.t 5)),rg 7 (.bin .gtr (.t 6) (.c (.i .i64 0))),mv 8 7,gd 9 8 true (.mov (.t 0)),gd 10 8 true (.ixs (.t 9) (.c (.i .i64 0))),gd 11 8 true (.mov (.t 1)),gd 12 8 true (.bin .eql (.t 10) (.t 11)),rg 13 (.pick (.t 8) (.t 12) (.c (.b false)))])
 (.cond (.t 13)
 .skip
 (.exit 0)))
 (.block 1
 (.reg [mv 14 0,rg 15 (.slstr (.t 14) (some (.c (.i .i64 1))) none),mv 0 15])))
 (.norm false [0,1]))
def b125:AX:=
 (.seq
 (.reg [rg 4 (.mov (.c (.s [])))])
 (.seq
 (.lp 0 (.norm false [0,1]) l125_0 (.norm false [0]))
 (.seq
 (.reg [mv 16 0,mv 4 16])
 (.pre (.norm false [4]) .ret))))
abbrev row103:AFx:=⟨2,37,[.t 4],b103,none,false⟩
abbrev row125:AFx:=⟨2,17,[.t 4],b125,none,false⟩
class Zhi (T:Tbl):Prop where
 h103:Tr T 103=some row103
 h125:Tr T 125=some row125
attribute [simp] Zhi.h103 Zhi.h125
end
section
variable{T:Tbl}[Zp T]
def zuz(l:List UInt8)(hl:l.length<=1000000):Zb T 64 [.s l,.s [45]]=some (.tup [.s (if l.head? = some 45 then l.tail else l),.b (l.head? = some 45)]):=by
 have h1:Zb T 123 [.s l,.s [45]]=some (.b (l.head? = some 45)):=by
  rw[zaa Zp.h123 rfl,b123];cases l with
  | nil=>simp -implicitDefEqProofs
  | cons c r=>
   have h2:(1:Int)<=(r.length:Int)+1:=by omega
   by_cases hc:c=45<;>simp -implicitDefEqProofs[h2,hc]
 have h3:Zb T 98 [.s l,.s [45]]=some (.tup [.s (if l.head? = some 45 then l.tail else l),.b (l.head? = some 45)]):=by
  rw[zaa Zp.h98 rfl,b98];cases l with
  | nil=>simp -implicitDefEqProofs[h1]
  | cons c r=>
   have h2:(1:Int)<=(r.length:Int)+1:=by omega
   by_cases hc:c=45
   ·subst hc;simp -implicitDefEqProofs[h1,h2]
   ·simp -implicitDefEqProofs[h1,hc]
 rw[zaa Zp.h64 rfl,b64];simp -implicitDefEqProofs[h3]
end
section
variable{T:Tbl}
def z1a(l:List UInt8)(hl:l.length<=1000000):∀i:Nat,i<=l.length ->
  Zu T 0 0 (.norm false [0]) l99_0 ⟨[(0,.s l),(5,.i .i64 l.length),(6,.i .i64 i)],[],2⟩ =
   if 0<=Zcn i (l.drop i) then some (.r,⟨[(2,.i .i64 (Zcn i (l.drop i)))],[],2⟩) else some (.n,⟨[(0,.s l)],[],2⟩):=by
 refine za0 (fun i:Nat=>⟨[(0,.s l),(5,.i .i64 l.length),(6,.i .i64 i)],[],2⟩) _ (fun i=>l.length-i) _ ?_;intro i hi;by_cases h0:i<l.length
 ·have hg:l[i]? = some (l[i]'h0):=Ya h0;have hd:=Yp h0;have hw:IntKind.wrap .i64 ((i:Int)+1)=((i+1:Nat):Int):=zab _ (by omega);by_cases hc:(l[i]'h0).toNat<48\/57<(l[i]'h0).toNat\/i=60
  ·right;rw[hd];have e:Zcn i (l[i]'h0::List.drop (i+1) l)=i:=by simp only[Zcn];rw[if_pos hc]
   rw[e];by_cases c1:(l[i]'h0).toNat<48
   ·constructor<;>simp -implicitDefEqProofs[l99_0,h0,c1]
   ·by_cases c2:57<(l[i]'h0).toNat
    ·constructor<;>simp -implicitDefEqProofs[l99_0,h0,c1,c2]
    ·have c3:i=60:=by omega
     subst c3;have h0':(60:Int)<(l.length:Int):=by omega
     constructor<;>simp -implicitDefEqProofs[l99_0,h0,h0',c1,c2]
  ·left;have e:Zcn i (l.drop i)=Zcn (i+1) (l.drop (i+1)):=by rw[hd];simp only[Zcn];rw[if_neg hc]
   have c1:¬ (l[i]'h0).toNat<48:=fun h=>hc (.inl h);have c2:¬ 57<(l[i]'h0).toNat:=fun h=>hc (.inr (.inl h));have c3:¬ ((i:Int)=60):=fun h=>hc (.inr (.inr (by omega)));refine⟨i+1,h0,by show l.length-(i+1)<l.length-i;omega,?_,?_⟩
   ·simp -implicitDefEqProofs[l99_0,h0,c1,c2,c3,hw]
   ·simp only[e]
 ·right;have:i=l.length:=by omega
  subst this;rw[Yah];constructor<;>simp -implicitDefEqProofs[l99_0,Zcn]
end
section
variable{T:Tbl}[Zp T]
def zme(l:List UInt8)(hl:l.length<=1000000):Zb T 99 [.s l]=some (.i .i64 (Z1 l)):=by
 have h:=z1a (T:=T) l hl 0 (Y4 _);have hg:=zol 0 l;rw[Yat]at h;simp at h;rw[zaa Zp.h99 rfl,b99];unfold Z1;by_cases h0:l=[]
 ·subst h0;simp[Zcn]at h;simp -implicitDefEqProofs[h]
 ·by_cases h1:0<=Zcn 0 l
  ·rw[if_pos h1]at h;simp -implicitDefEqProofs[h,h0]
  ·rw[if_neg h1]at h;have h2:Zcn 0 l=-1:=by omega
   simp -implicitDefEqProofs[h,h0,h2]
end
section
variable{T:Tbl}
def zu0(x0:Nat)(_hx0:x0<4294967296):∀y:Nat×Nat×List UInt8,(y.1<=9/\y.2.1<4294967296/\y.2.2.length=9-y.1/\Zdh y.1 y.2.1++y.2.2=Zdh 9 x0) ->
  Zu T 0 0 (.norm false [3]) l101_0 ⟨[(0,u32 y.2.1),(3,.ptr (.loc 3) 1 9 0 0),(4,.i .i64 ((y.1:Int)-1))],[(.loc 3,⟨1,.str,9,[u8c (List.replicate y.1 0++y.2.2)]⟩)],3⟩ =
   some (.n,⟨[(3,.ptr (.loc 3) 1 9 0 0)],[(.loc 3,⟨1,.str,9,[u8c (Zdh 9 x0)]⟩)],3⟩):=by
 refine za0 (fun y:Nat×Nat×List UInt8=>⟨[(0,u32 y.2.1),(3,.ptr (.loc 3) 1 9 0 0),(4,.i .i64 ((y.1:Int)-1))],[(.loc 3,⟨1,.str,9,[u8c (List.replicate y.1 0++y.2.2)]⟩)],3⟩) _ (fun y=>y.1) _ ?_
 rintro⟨k,x,m⟩ ⟨hk,hx,hm,hd⟩
 simp only at hk hx hm hd;cases k with
 | zero=>
  right;have hd:m=Zdh 9 x0:=by simpa only[zid,Ybn]using hd
  subst hd;generalize Zdh 9 x0=m;constructor<;>simp -implicitDefEqProofs[l101_0]
 | succ j=>
  left;have hw:IntKind.wrap .i64 ((j:Int)-1)=(j:Int)-1:=zab _ (by omega);have h1:(j:Int)<9:=by omega
  have h2:j<=8:=by omega
  have hd1:48+x%10<256:=by omega
  have hs:=(z1z (l:=List.replicate (j+1) 0++m) (j:=j) hd1 (by simp;omega)).trans (congrArg u8c (zyn (j:=j) (m:=m) (UInt8.ofNat (48+x%10))));have m1:(48+x%10)%4294967296=48+x%10:=Yu (by omega);have m2:(48+x%10)%256=48+x%10:=Yu (by omega);have m3:x/10%4294967296=x/10:=Yu (by omega);have hlen:j+1+m.length=9:=by omega
  refine⟨(j,x/10,UInt8.ofNat (48+x%10)::m),⟨by simp only;omega,by simp only;omega,by simp;omega,?_⟩,Y1 j,?_,rfl⟩
  ·simp only;rw[<-hd,zd9,Ybc]
   rfl
  ·simp -implicitDefEqProofs[l101_0,hw,h1,h2,hs,m1,m2,m3,hlen]
end
section
variable{T:Tbl}[Zp T]
def zoa(x:Nat)(hx:x<4294967296):Zb T 101 [u32 x]=some (.s (Zdh 9 x)):=by
 have h:=zu0 (T:=T) x hx (9,x,[]) ⟨Yi _,hx,rfl,by simp⟩;have e:u8c (List.replicate 9 0++[])=[u8 0,u8 0,u8 0,u8 0,u8 0,u8 0,u8 0,u8 0,u8 0]:=rfl;simp only[e]at h;rw[zaa Zp.h101 rfl,b101];have h8:IntKind.wrap .i64 8=8:=by decide
 have hl9:=ze1 9 x;generalize hm:Zdh 9 x=m at *
 have t9:List.take 9 ((u8c m).map fun c=>[c])=(u8c m).map fun c=>[c]:=Yb (by simp[hl9]);have hr:=zyo m;simp at h;simp -implicitDefEqProofs[h,hr,hl9,t9]
end
section
variable{T:Tbl}[Zn T][Zw T][Zp T]
def Zka(l:List UInt8)(o:List UInt32)(i0 k:Nat):St:=
 ⟨[(0,.s l),(3,.ptr (.loc 3) 1 4 0 0),(5,.sl (Za o) .an),(6,.i .i64 (i0+k:Nat)),(7,u32 (rd ((l.drop i0).take k))),(8,u32 (10^k)),(9,.i .i64 k)],[(.loc 3,⟨1,.str,4,[[.i .i64 0,.i .i64 0,.i .i64 0,.i .i64 0]]⟩)],3⟩
end
section
variable{T:Tbl}
def z1b(l:List UInt8)(o:List UInt32)(i0 kf:Nat)(hl:l.length<=60)(hd:∀c∈l,48<=c.toNat/\c.toNat<=57)(hkf:kf=min 9 (l.length-i0))(hi0:i0<=l.length):∀k,k<=kf ->
  Zu T 0 2 (.norm false [0,3,5,6,7,8]) l65_0 (Zka l o i0 k) =
   some (.n,⟨[(0,.s l),(3,.ptr (.loc 3) 1 4 0 0),(5,.sl (Za o) .an),(6,.i .i64 (i0+kf:Nat)),(7,u32 (rd ((l.drop i0).take kf))),(8,u32 (10^kf))],[(.loc 3,⟨1,.str,4,[[.i .i64 0,.i .i64 0,.i .i64 0,.i .i64 0]]⟩)],3⟩):=by
 refine za0 (fun k=>Zka l o i0 k) _ (fun k=>kf-k) _ ?_;intro k hk;by_cases h0:k<kf
 ·left;have hi:i0+k<l.length:=by omega
  have hg:l[i0+k]? = some (l[i0+k]'hi):=Ya hi;have hgd:(l.drop i0)[k]? = some (l[i0+k]'hi):=by rw[Yaq];exact hg
  have hc:=hd _ (Y0 hi);obtain⟨p,hp⟩:∃p,p=i0+k:=⟨_,rfl⟩;have hx:=zwc (l:=(l.drop i0).take k) fun c hc=>hd c (Yb9 (Yaz hc));have hlen:((l.drop i0).take k).length=k:=by simp;omega
  rw[hlen]at hx;have hp8:10^k<=10^8:=Yt (by decide) (by omega);have hr:=zm2 hgd;have hw:IntKind.wrap .i64 ((k:Int)+1)=((k+1:Nat):Int):=zab _ (by omega);have hw2:IntKind.wrap .i64 ((p:Int)+1)=((i0+(k+1):Nat):Int):=by rw[zab _ (by omega)];omega
  have hk9:(k:Int)<9:=by omega
  have hpl:(p:Int)<l.length:=by omega
  refine⟨k+1,h0,by show kf-(k+1)<kf-k;omega,?_,rfl⟩;unfold Zka;rw[hr,Yac];subst hp;generalize hcd:(l[i0+k]'hi).toNat=c at *
  generalize rd ((l.drop i0).take k)=x at *
  generalize 10^k=t at *
  have m1:x*10%4294967296=x*10:=Yu (by omega);have m2:Zj7 c 48=c-48:=z05 (by omega) (by omega);have m3:(c-48)%4294967296=c-48:=Yu (by omega);have m4:(x*10+(c-48))%4294967296=x*10+(c-48):=Yu (by omega);have m5:t*10%4294967296=t*10:=Yu (by omega);have hpl':(i0:Int)+k<l.length:=by omega
  have hw2':IntKind.wrap .i64 ((i0:Int)+k+1)=(i0:Int)+(k+1):=by rw[zab _ (by omega)];omega
  simp -implicitDefEqProofs[l65_0,hk9,hpl',hi,hcd,m1,m2,m3,m4,m5,hw,hw2']
 ·right;have:k=kf:=by omega
  subst this;unfold Zka;generalize rd ((l.drop i0).take k)=x;generalize 10^k=t;by_cases h9:k=9
  ·subst h9;constructor<;>simp -implicitDefEqProofs[l65_0]
  ·have hk9:(k:Int)<9:=by omega
   have hpl':¬ ((i0:Int)+k<l.length):=by omega
   constructor<;>simp -implicitDefEqProofs[l65_0,hk9,hpl']
end
section
variable{T:Tbl}[Zw T]
def z1c(l:List UInt8)(hl:l.length<=60)(hd:∀c∈l,48<=c.toNat/\c.toNat<=57):∀i:Nat,i<=l.length ->
  Zu T 0 0 (.norm false [3,5]) l65_1 ⟨[(0,.s l),(3,.ptr (.loc 3) 1 4 0 0),(5,.sl (Za (ofN (rd (l.take i)))) .an),(6,.i .i64 i)],[(.loc 3,⟨1,.str,4,[[.i .i64 0,.i .i64 0,.i .i64 0,.i .i64 0]]⟩)],3⟩ =
   some (.n,⟨[(3,.ptr (.loc 3) 1 4 0 0),(5,.sl (Za (ofN (rd l))) .an)],[(.loc 3,⟨1,.str,4,[[.i .i64 0,.i .i64 0,.i .i64 0,.i .i64 0]]⟩)],3⟩):=by
 refine za0 (fun i:Nat=>⟨[(0,.s l),(3,.ptr (.loc 3) 1 4 0 0),(5,.sl (Za (ofN (rd (l.take i)))) .an),(6,.i .i64 i)],[(.loc 3,⟨1,.str,4,[[.i .i64 0,.i .i64 0,.i .i64 0,.i .i64 0]]⟩)],3⟩) _ (fun i=>l.length-i) _ ?_;intro i hi;by_cases h0:i<l.length
 ·left;obtain⟨kf,hkf⟩:∃kf,kf=min 9 (l.length-i):=⟨_,rfl⟩;have h:=z1b (T:=T) l (ofN (rd (l.take i))) i kf hl hd hkf hi 0 (Y4 _);unfold Zka at h;simp[show rd []=0 from rfl]at h;have hx:=zwc (l:=(l.drop i).take kf) fun c hc=>hd c (Yb9 (Yaz hc));have hlen:((l.drop i).take kf).length=kf:=by simp;omega
  rw[hlen]at hx;have hp8:10^kf<=10^9:=Yt (by decide) (by omega);have hol:(ofN (rd (l.take i))).length<=60:=by
   refine zaj ?_;have h1:=zwc (l:=l.take i) fun c hc=>hd c (Yaz hc);have h2:10^(l.take i).length<=10^60:=Yt (by decide) (by simp;omega);exact Ym h1 (Yd h2 (by decide))
  have hpw:=zvt (T:=T) (ofN (rd (l.take i))) (10^kf) (rd ((l.drop i).take kf)) (by omega) (by omega) (by omega);have hr:rd (l.take (i+kf))=rd (l.take i)*10^kf+rd ((l.drop i).take kf):=by
   rw[List.take_add,zic,hlen]
  rw[zad,<-hr]at hpw;refine⟨i+kf,by omega,by show l.length-(i+kf)<l.length-i;omega,?_,rfl⟩;simp -implicitDefEqProofs[l65_1,h0,h,hpw]
 ·right;have:i=l.length:=by omega
  subst this;rw[Ya5];constructor<;>simp -implicitDefEqProofs[l65_1]
end
section
variable{T:Tbl}[Zw T][Zp T]
def zhw(l:List UInt8)(hl:l.length<=1000000):Zb T 65 [.s l]=some (.tup (if 0<=Z1 l then [.sl [] .an,.agg [.i .i64 1,.i .i64 0,.i .i64 0,.i .i64 (Z1 l)]]
  else [.sl (Za (ofN (rd l))) .an,.agg [.i .i64 0,.i .i64 0,.i .i64 0,.i .i64 0]])):=by
 have hw:=zme (T:=T) l hl;rw[zaa Zp.h65 rfl,b65];by_cases h0:0<=Z1 l
 ·simp -implicitDefEqProofs[hw,h0]
 ·have h1:Zcn 0 l<0:=by
   unfold Z1 at h0;split at h0
   ·omega
   ·omega
  obtain⟨h2,h3⟩:=zgo 0 l (Y4 _) h1;have h:=z1c (T:=T) l (by omega) h3 0 (Y4 _);simp[show rd []=0 from rfl]at h;simp -implicitDefEqProofs[hw,h0,h]
end
def sg(n:Bool)(k:Nat):Int:=if n then -(k:Int) else k
def wv(n:Bool)(a:List UInt32):Int:=sg n (val a)
abbrev wh(n:Bool)(a:List UInt32):AV:=.agg [.b n,.sl (Za a) .an]
abbrev ez(z:Int):AV:=wh (decide (z<0)) (ofN z.natAbs)
def sgI(z:Int):Int:=if z<0 then -1 else if z=0 then 0 else 1
def zzm(n:Bool)(k:Nat):decide (sg n k<0)=(n&&decide (k≠0)):=by
 cases n
 ·simp[sg]
 ·by_cases h:k=0<;>simp[sg,h];omega
def zp9(n:Bool)(k:Nat):(sg n k).natAbs=k:=by cases n<;>simp[sg]
@[simp] theorem zis(z:Int):wv (decide (z<0)) (ofN z.natAbs)=z:=by
 unfold wv;rw[zad];by_cases h:z<0
 ·simp[sg,h];omega
 ·simp[sg,h];omega
def zzn(n:Bool)(a:List UInt32):(wv n a).natAbs=val a:=zp9 n _
def z64(n:Bool)(k:Nat):ez (sg n k)=wh (n&&decide (k≠0)) (ofN k):=by
 unfold ez;rw[zzm,zp9]
def zom(n:Bool)(x y:Nat):sg n (x+y)=sg n x+sg n y:=by cases n<;>simp[sg]<;>omega
def zwd{n m:Bool}(h:n≠m){x y:Nat}(hxy:x<y):sg m (y-x)=sg n x+sg m y:=by
 cases n<;>cases m<;>simp[sg]at h ⊢<;>omega
def zwe{n m:Bool}(h:n≠m){x y:Nat}(hxy:¬ x<y):sg n (x-y)=sg n x+sg m y:=by
 cases n<;>cases m<;>simp[sg]at h ⊢<;>omega
def z65(n:Bool)(x:Nat):sg (!n) x=- sg n x:=by cases n<;>simp[sg]
def z66(n m:Bool)(x y:Nat):sg (n != m) (x*y)=sg n x*sg m y:=by cases n<;>cases m<;>simp[sg,Int.mul_neg,Int.neg_mul]
def z67(n:Bool)(x:Nat):sgI (sg n x)=if x=0 then 0 else if n then -1 else 1:=by
 unfold sgI;cases n<;>simp[sg]<;>split<;>(try split)<;>omega
def Z7(z:Int):List UInt8:=if z<0 then 45::Zs z.natAbs else Zs z.natAbs
def zie{n:Nat}:∀{k:Nat},n<10^(k+1)->(Zs n).length<=k+1:=by
 induction n using Nat.strongRecOn with
 | _ n ih=>
  intro k h;by_cases h0:n<10
  ·rw[zcb h0];simp
  ·rw[zd8 h0];cases k with
   | zero=>simp at h;omega
   | succ k=>
    have:=ih (n/10) (by omega) (k:=k) (Ybi (by rw[Yaf,<-Yac];exact h));simp;omega
theorem ze2{a:List UInt32}(h:a.length<=1000):(Zs (val a)).length<=10000:=by
 obtain⟨K,hK⟩:∃K,K=9999:=⟨_,rfl⟩;have h1:=zay a;have h2:4294967296^a.length<=(10^10)^a.length:=Ydr (by decide) _;rw[<-Yc7]at h2;have h3:10^(10*a.length)<=10^(K+1):=Yt (by decide) (by omega);have h4:=zie (k:=K) (Ym h1 (Yd h2 h3));clear h1 h2 h3;omega
def zdu{x y:Int}{L:Nat}(hx:(ofN x.natAbs).length<=L)(hy:(ofN y.natAbs).length<=L):(ofN (x+y).natAbs).length<=L+1:=by
 refine zaj ?_;have h1:=zay (ofN x.natAbs);have h2:=zay (ofN y.natAbs);rw[zad]at h1 h2;have h3:4294967296^(ofN x.natAbs).length<=4294967296^L:=Yt (by decide) hx;have h4:4294967296^(ofN y.natAbs).length<=4294967296^L:=Yt (by decide) hy;rw[Yac];generalize 4294967296^L=p at *
 omega
def zif(x:Int):ofN (-x).natAbs=ofN x.natAbs:=by rw[Int.natAbs_neg]
def zbi{x y:Int}{L M:Nat}(hx:(ofN x.natAbs).length<=L)(hy:(ofN y.natAbs).length<=M):(ofN (x*y).natAbs).length<=L+M:=by
 refine zaj ?_;have h1:=zay (ofN x.natAbs);have h2:=zay (ofN y.natAbs);rw[zad]at h1 h2;rw[Int.natAbs_mul,Yb2];exact Nat.mul_lt_mul'' (Ym h1 (Yt (by decide) hx)) (Ym h2 (Yt (by decide) hy))
def zda(n:Bool)(a:List UInt32):(ofN (wv n a).natAbs).length<=a.length:=by rw[zzn];exact zac a
def Zav(l:List UInt8):Int:=sg (l.head? = some 45) (rd (if l.head? = some 45 then l.tail else l))
def Zbr(l:List UInt8):Int:=Z1 (if l.head? = some 45 then l.tail else l)
def Zcy(l:List UInt8):Int:=if l.head? = some 45 then 1 else 0
def zqa{l:List UInt8}(h0:¬ 0<=Zbr l):(ofN (Zav l).natAbs).length<=60:=by
 unfold Zbr at h0;unfold Zav;rw[zp9];generalize (if l.head? = some 45 then l.tail else l)=l' at *
 have h1:Zcn 0 l'<0:=by
  unfold Z1 at h0;split at h0
  ·omega
  ·omega
 obtain⟨h2,h3⟩:=zgo 0 l' (Y4 _) h1;refine zaj (k:=60) ?_;have h4:=zwc h3;have h5:10^l'.length<=10^60:=Yt (by decide) (by omega);exact Ym h4 (Yd h5 (by decide))
section
def b55:AX:=
 (.seq
 (.reg [rg 4 (.alloc [(.b false),(.sl [] .nl)])])
 (.seq
 (.reg [mv 5 0,mv 6 5,gd 7 6 true (.mov (.t 1)),gd 8 6 true (.len (.t 7)),gd 9 6 true (.bin .gtr (.t 8) (.c (.i .i64 0))),rg 10 (.pick (.t 6) (.t 9) (.c (.b false))),mv 11 1,rg 12 (.build [(.b false),(.sl [] .nl)] [(0,1,(.t 10)),(1,1,(.t 11))]),so (.store 2 (.t 4) (.t 12))])
 (.pre (.norm false [4]) .ret)))
def b38:AX:=
 (.seq
 (.reg [rg 1 (.xop (.box 2) [(.t 0)]),rg 2 (.alloc [(.b false),(.sl [] .nl)])])
 (.seq
 (.drawT [rg 3 (.fad 0 (.t 1)),rg 4 (.load none (.t 3)),rg 5 (.fad 1 (.t 1)),rg 6 (.load none (.t 5)),rg 7 (.call 71 [(.t 6)])]
 [rg 8 (.call 55 [(.t 4),(.t 7)]),so (.store 2 (.t 2) (.t 8))])
 (.pre (.norm false [2]) .ret)))
def b40:AX:=
 (.seq
 (.reg [rg 1 (.xop (.box 2) [(.t 0)]),rg 2 (.alloc [(.b false),(.sl [] .nl)])])
 (.seq
 (.drawT [rg 3 (.fad 0 (.t 1)),rg 4 (.load none (.t 3)),rg 5 (.un .not (.t 4)),rg 6 (.fad 1 (.t 1)),rg 7 (.load none (.t 6)),rg 8 (.call 71 [(.t 7)])]
 [rg 9 (.call 55 [(.t 5),(.t 8)]),so (.store 2 (.t 2) (.t 9))])
 (.pre (.norm false [2]) .ret)))
def b23:AX:=
 (.seq
 (.reg [rg 2 (.xop (.box 2) [(.t 0)]),rg 3 (.xop (.box 2) [(.t 1)]),rg 4 (.alloc [(.b false),(.sl [] .nl)])])
 (.seq
 (.seq
 (.reg [rg 7 (.fad 0 (.t 2)),rg 8 (.load none (.t 7)),rg 9 (.fad 0 (.t 3)),rg 10 (.load none (.t 9)),rg 11 (.eqb false (.t 8) (.t 10))])
 (.cond (.t 11)
 (.seq
 (.drawT [rg 12 (.fad 0 (.t 2)),rg 13 (.load none (.t 12)),rg 14 (.fad 1 (.t 2)),rg 15 (.load none (.t 14)),rg 16 (.fad 1 (.t 3)),rg 17 (.load none (.t 16)),rg 18 (.bsl 1 [(.sl [] .nl)] 2 [(0,(.t 15)),(1,(.t 17))]),rg 19 (.call 56 [(.t 18)])]
 [rg 20 (.call 55 [(.t 13),(.t 19)]),so (.store 2 (.t 4) (.t 20))])
 (.pre (.norm false [4]) .ret))
 .skip))
 (.seq
 (.reg [rg 22 (.fad 1 (.t 2)),rg 23 (.load none (.t 22)),rg 24 (.fad 1 (.t 3)),rg 25 (.load none (.t 24)),rg 26 (.call 57 [(.t 23),(.t 25)]),mv 21 26,rg 27 (.ext (.t 21) 0),rg 28 (.ext (.t 21) 1),mv 5 27,mv 6 28])
 (.seq
 (.seq
 (.reg [mv 29 6,rg 30 (.bin .lss (.t 29) (.c (.i .i64 0)))])
 (.cond (.t 30)
 (.seq
 (.reg [rg 31 (.fad 0 (.t 3)),rg 32 (.load none (.t 31)),mv 33 5,rg 34 (.call 55 [(.t 32),(.t 33)]),so (.store 2 (.t 4) (.t 34))])
 (.pre (.norm false [4]) .ret))
 .skip))
 (.seq
 (.reg [rg 35 (.fad 0 (.t 2)),rg 36 (.load none (.t 35)),mv 37 5,rg 38 (.call 55 [(.t 36),(.t 37)]),so (.store 2 (.t 4) (.t 38))])
 (.pre (.norm false [4]) .ret))))))
def b25:AX:=
 (.seq
 (.reg [rg 2 (.xop (.box 2) [(.t 0)]),rg 3 (.xop (.box 2) [(.t 1)]),rg 4 (.alloc [(.b false),(.sl [] .nl)])])
 (.seq
 (.drawT [rg 5 (.load (some 2) (.t 2)),rg 6 (.load (some 2) (.t 3)),rg 7 (.call 40 [(.t 6)])]
 [rg 8 (.call 23 [(.t 5),(.t 7)]),so (.store 2 (.t 4) (.t 8))])
 (.pre (.norm false [4]) .ret)))
def b27:AX:=
 (.seq
 (.reg [rg 2 (.xop (.box 2) [(.t 0)]),rg 3 (.xop (.box 2) [(.t 1)]),rg 4 (.alloc [(.b false),(.sl [] .nl)])])
 (.seq
 (.drawT [rg 5 (.fad 0 (.t 2)),rg 6 (.load none (.t 5)),rg 7 (.fad 0 (.t 3)),rg 8 (.load none (.t 7)),rg 9 (.eqb true (.t 6) (.t 8)),rg 10 (.fad 1 (.t 2)),rg 11 (.load none (.t 10)),rg 12 (.fad 1 (.t 3)),rg 13 (.load none (.t 12)),rg 14 (.call 60 [(.t 11),(.t 13)])]
 [rg 15 (.call 55 [(.t 9),(.t 14)]),so (.store 2 (.t 4) (.t 15))])
 (.pre (.norm false [4]) .ret)))
def b37:AX:=
 (.seq
 (.reg [rg 1 (.xop (.box 2) [(.t 0)]),rg 2 (.mov (.c (.i .i64 0)))])
 (.seq
 (.block 0
 (.seq
 (.reg [rg 4 (.fad 1 (.t 1)),rg 5 (.load none (.t 4)),rg 6 (.call 70 [(.t 5)]),mv 3 6])
 (.cond (.t 3)
 (.seq
 (.reg [rg 2 (.mov (.c (.i .i64 0)))])
 (.pre (.norm false [2]) .ret))
 (.seq
 (.reg [rg 8 (.fad 0 (.t 1)),rg 9 (.load none (.t 8)),mv 7 9])
 (.cond (.t 7)
 (.seq
 (.reg [rg 2 (.mov (.c (.i .i64 (-1))))])
 (.pre (.norm false [2]) .ret))
 .skip)))))
 (.seq
 (.reg [rg 2 (.mov (.c (.i .i64 1)))])
 (.pre (.norm false [2]) .ret))))
def b41:AX:=
 (.seq
 (.reg [rg 2 (.alloc [(.b false),(.sl [] .nl)])])
 (.seq
 (.seq
 (.reg [mv 3 0,rg 4 (.bin .lss (.t 3) (.c (.i .i64 0)))])
 (.cond (.t 4)
 (.seq
 (.reg [mv 5 0,rg 6 (.conv .u64 (.t 5)),rg 7 (.un .neg (.t 6)),rg 8 (.call 72 [(.t 7)]),rg 9 (.call 55 [(.c (.b true)),(.t 8)]),so (.store 2 (.t 2) (.t 9))])
 (.pre (.norm false [2]) .ret))
 .skip))
 (.seq
 (.reg [mv 10 0,rg 11 (.conv .u64 (.t 10)),rg 12 (.call 72 [(.t 11)]),rg 13 (.call 55 [(.c (.b false)),(.t 12)]),so (.store 2 (.t 2) (.t 13))])
 (.pre (.norm false [2]) .ret))))
def b36:AX:=
 (.seq
 (.reg [rg 2 (.xop (.box 2) [(.t 0)]),rg 3 (.xop (.box 2) [(.t 1)]),rg 4 (.mov (.c (.i .i64 0)))])
 (.seq
 (.reg [rg 5 (.load (some 2) (.t 2)),rg 6 (.load (some 2) (.t 3)),rg 7 (.call 25 [(.t 5),(.t 6)]),rg 8 (.call 37 [(.t 7)]),mv 4 8])
 (.pre (.norm false [4]) .ret)))
def b34:AX:=
 (.seq
 (.reg [rg 1 (.xop (.box 2) [(.t 0)]),rg 2 (.mov (.c (.s [])))])
 (.seq
 (.reg [rg 4 (.fad 1 (.t 1)),rg 5 (.load none (.t 4)),rg 6 (.call 68 [(.t 5)]),mv 3 6])
 (.seq
 (.seq
 (.reg [rg 7 (.load (some 2) (.t 1)),rg 8 (.call 37 [(.t 7)]),rg 9 (.bin .lss (.t 8) (.c (.i .i64 0)))])
 (.cond (.t 9)
 (.seq
 (.reg [mv 10 3,rg 11 (.bin .add (.c (.s [45])) (.t 10)),mv 2 11])
 (.pre (.norm false [2]) .ret))
 .skip))
 (.seq
 (.reg [mv 12 3,mv 2 12])
 (.pre (.norm false [2]) .ret)))))
def b32:AX:=
 (.seq
 (.reg [rg 2 (.alloc [(.b false),(.sl [] .nl)]),rg 3 (.alloc [(.i .i64 0),(.i .i64 0),(.i .i64 0),(.i .i64 0)])])
 (.seq
 (.reg [mv 9 0,rg 10 (.call 64 [(.t 9),(.c (.s [45]))]),mv 8 10,rg 11 (.ext (.t 8) 0),rg 12 (.ext (.t 8) 1),mv 4 11,mv 5 12])
 (.seq
 (.reg [mv 14 4,rg 15 (.call 65 [(.t 14)]),mv 13 15,rg 16 (.ext (.t 13) 0),rg 17 (.ext (.t 13) 1),rg 7 (.alloc [(.i .i64 0),(.i .i64 0),(.i .i64 0),(.i .i64 0)]),mv 6 16,so (.store 4 (.t 7) (.t 17))])
 (.seq
 (.seq
 (.reg [rg 18 (.load (some 4) (.t 7)),rg 19 (.build [(.i .i64 0),(.i .i64 0),(.i .i64 0),(.i .i64 0)] []),rg 20 (.eqs true [(0,.int),(1,.int),(2,.int),(3,.int)] (.t 18) (.t 19))])
 (.cond (.t 20)
 (.seq
 (.reg [rg 21 (.fad 3 (.t 7)),rg 22 (.load none (.t 21)),mv 23 0,rg 24 (.lens (.t 23)),mv 25 4,rg 26 (.lens (.t 25)),rg 27 (.bin .sub (.t 24) (.t 26)),rg 28 (.bin .add (.t 22) (.t 27)),rg 29 (.fad 3 (.t 7)),so (.store 1 (.t 29) (.t 28))])
 (.seq
 (.draw [⟨rg 30 (.build [(.b false),(.sl [] .nl)] []),0,0⟩,⟨rg 31 (.load (some 4) (.t 7)),0,1⟩,⟨so (.store 2 (.t 2) (.t 30)),0,1⟩,⟨so (.store 4 (.t 3) (.t 31)),1,2⟩])
 (.pre (.norm false [2,3]) .ret)))
 .skip))
 (.seq
 (.reg [mv 32 5,mv 33 6,rg 34 (.call 55 [(.t 32),(.t 33)]),rg 35 (.build [(.i .i64 0),(.i .i64 0),(.i .i64 0),(.i .i64 0)] []),so (.store 2 (.t 2) (.t 34)),so (.store 4 (.t 3) (.t 35))])
 (.pre (.norm false [2,3]) .ret))))))
abbrev row55:AFx:=⟨2,13,[.cell 4 (some 2)],b55,none,false⟩
abbrev row38:AFx:=⟨1,9,[.cell 2 (some 2)],b38,none,false⟩
abbrev row40:AFx:=⟨1,10,[.cell 2 (some 2)],b40,none,false⟩
abbrev row23:AFx:=⟨2,39,[.cell 4 (some 2)],b23,none,false⟩
abbrev row25:AFx:=⟨2,9,[.cell 4 (some 2)],b25,none,false⟩
abbrev row27:AFx:=⟨2,16,[.cell 4 (some 2)],b27,none,false⟩
abbrev row37:AFx:=⟨1,10,[.t 2],b37,none,false⟩
abbrev row41:AFx:=⟨1,14,[.cell 2 (some 2)],b41,none,false⟩
abbrev row36:AFx:=⟨2,9,[.t 4],b36,none,false⟩
abbrev row34:AFx:=⟨1,13,[.t 2],b34,none,false⟩
abbrev row32:AFx:=⟨1,36,[.cell 2 (some 2),.cell 3 (some 4)],b32,none,false⟩
class Zg (T:Tbl):Prop where
 h55:Tr T 55=some row55
 h38:Tr T 38=some row38
 h40:Tr T 40=some row40
 h23:Tr T 23=some row23
 h25:Tr T 25=some row25
 h27:Tr T 27=some row27
 h37:Tr T 37=some row37
 h41:Tr T 41=some row41
 h36:Tr T 36=some row36
 h34:Tr T 34=some row34
 h32:Tr T 32=some row32
attribute [simp] Zg.h55 Zg.h38 Zg.h40 Zg.h23 Zg.h25 Zg.h27 Zg.h37 Zg.h41 Zg.h36 Zg.h34 Zg.h32
section
variable{T:Tbl}[Zg T]{d:Option Nat}{st:St}
@[simp] def x38(xs:List AV):Zah (orc T) T 38 xs d st=cP T 38 false xs d st:=zbl Zg.h38
@[simp] def x23(xs:List AV):Zah (orc T) T 23 xs d st=cP T 23 false xs d st:=zbl Zg.h23
@[simp] def x25(xs:List AV):Zah (orc T) T 25 xs d st=cP T 25 false xs d st:=zbl Zg.h25
@[simp] def x27(xs:List AV):Zah (orc T) T 27 xs d st=cP T 27 false xs d st:=zbl Zg.h27
@[simp] def x37(xs:List AV):Zah (orc T) T 37 xs d st=cP T 37 false xs d st:=zbl Zg.h37
@[simp] def x36(xs:List AV):Zah (orc T) T 36 xs d st=cP T 36 false xs d st:=zbl Zg.h36
@[simp] def x34(xs:List AV):Zah (orc T) T 34 xs d st=cP T 34 false xs d st:=zbl Zg.h34
@[simp] def x32(xs:List AV):Zah (orc T) T 32 xs d st=cP T 32 false xs d st:=zbl Zg.h32
end
end
section
def l198_0:AX:=
 (.note
 (.seq
 (.seq
 (.reg [mv 5 1,rg 6 (.bin .neq (.t 5) (.c (u64 0)))])
 (.cond (.t 6)
 .skip
 (.exit 0)))
 (.block 1
 (.drawT [mv 7 1,mv 8 0,mv 9 1,rg 10 (.bin .rem (.t 8) (.t 9)),mv 0 7]
 [mv 1 10])))
 (.norm false [0,1]))
def b198:AX:=
 (.seq
 (.reg [rg 4 (.mov (.c (u64 0)))])
 (.seq
 (.lp 0 (.norm false [0,1]) l198_0 (.norm false [0]))
 (.seq
 (.reg [mv 11 0,mv 4 11])
 (.pre (.norm false [4]) .ret))))
def l199_0:AX:=
 (.note
 (.seq
 (.seq
 (.reg [mv 19 1,rg 20 (.len (.t 19)),rg 21 (.bin .gtr (.t 20) (.c (.i .i64 2)))])
 (.cond (.t 21)
 .skip
 (.exit 0)))
 (.block 1
 (.seq
 (.reg [mv 23 0,mv 24 1,rg 25 (.call 62 [(.t 23),(.t 24)]),mv 22 25,rg 26 (.ext (.t 22) 0),rg 27 (.ext (.t 22) 1),rg 28 (.ext (.t 22) 2),mv 5 26,mv 6 27,mv 7 28])
 (.reg [mv 29 1,mv 30 6,mv 0 29,mv 1 30]))))
 (.norm false [0,1]))
def b199:AX:=
 (.seq
 (.reg [rg 4 (.mov (.c (.sl [] .nl)))])
 (.seq
 (.reg [mv 15 0,rg 16 (.call 71 [(.t 15)]),mv 17 1,rg 18 (.call 71 [(.t 17)]),mv 0 16,mv 1 18])
 (.seq
 (.lp 0 (.norm false [0,1]) l199_0 (.norm false [0,1]))
 (.seq
 (.seq
 (.reg [mv 31 1,rg 32 (.len (.t 31)),rg 33 (.bin .eql (.t 32) (.c (.i .i64 0)))])
 (.cond (.t 33)
 (.seq
 (.reg [mv 34 0,mv 4 34])
 (.pre (.norm false [4]) .ret))
 .skip))
 (.seq
 (.reg [mv 36 0,mv 37 1,rg 38 (.call 62 [(.t 36),(.t 37)]),mv 35 38,rg 39 (.ext (.t 35) 0),rg 40 (.ext (.t 35) 1),rg 41 (.ext (.t 35) 2),mv 8 39,mv 9 40,mv 10 41])
 (.seq
 (.reg [mv 43 1,rg 44 (.call 73 [(.t 43)]),mv 42 44,rg 45 (.ext (.t 42) 0),rg 46 (.ext (.t 42) 1),mv 11 45,mv 12 46])
 (.seq
 (.reg [mv 48 9,rg 49 (.call 73 [(.t 48)]),mv 47 49,rg 50 (.ext (.t 47) 0),rg 51 (.ext (.t 47) 1),mv 13 50,mv 14 51])
 (.seq
 (.reg [mv 52 11,mv 53 13,rg 54 (.call 198 [(.t 52),(.t 53)]),rg 55 (.call 72 [(.t 54)]),mv 4 55])
 (.pre (.norm false [4]) .ret)))))))))
def b200:AX:=
 (.seq
 (.reg [rg 2 (.mov (.c (.b false)))])
 (.seq
 (.reg [mv 3 0,rg 4 (.len (.t 3)),rg 5 (.bin .eql (.t 4) (.c (.i .i64 1))),mv 6 5,gd 7 6 true (.mov (.t 0)),gd 8 6 true (.iad 1 (.t 7) (.c (.i .i64 0))),gd 9 6 true (.load none (.t 8)),gd 10 6 true (.bin .eql (.t 9) (.c (u32 1))),rg 11 (.pick (.t 6) (.t 10) (.c (.b false))),mv 2 11])
 (.pre (.norm false [2]) .ret)))
def b201:AX:=
 (.seq
 (.reg [rg 4 (.mov (.c (.sl [] .nl))),rg 5 (.mov (.c (.sl [] .nl)))])
 (.seq
 (.reg [mv 7 0,mv 8 1,rg 9 (.call 199 [(.t 7),(.t 8)]),mv 6 9])
 (.seq
 (.block 0
 (.seq
 (.reg [mv 11 6,rg 12 (.len (.t 11)),rg 13 (.bin .eql (.t 12) (.c (.i .i64 0))),mv 10 13])
 (.cond (.t 10)
 (.seq
 (.reg [rg 4 (.mov (.c (.sl [] .nl))),rg 5 (.mov (.c (.sl [] .nl)))])
 (.pre (.norm false [4,5]) .ret))
 (.seq
 (.reg [mv 15 6,rg 16 (.call 200 [(.t 15)]),mv 14 16])
 (.cond (.t 14)
 (.seq
 (.reg [mv 17 0,rg 18 (.call 71 [(.t 17)]),mv 19 1,rg 20 (.call 71 [(.t 19)]),mv 4 18,mv 5 20])
 (.pre (.norm false [4,5]) .ret))
 .skip)))))
 (.seq
 (.reg [mv 22 0,mv 23 6,rg 24 (.call 62 [(.t 22),(.t 23)]),mv 21 24,rg 25 (.ext (.t 21) 0),rg 26 (.ext (.t 21) 1),rg 27 (.ext (.t 21) 2),mv 4 25])
 (.seq
 (.reg [mv 29 1,mv 30 6,rg 31 (.call 62 [(.t 29),(.t 30)]),mv 28 31,rg 32 (.ext (.t 28) 0),rg 33 (.ext (.t 28) 1),rg 34 (.ext (.t 28) 2),mv 5 32])
 (.seq
 (.reg [mv 35 4,mv 36 5,mv 4 35,mv 5 36])
 (.pre (.norm false [4,5]) .ret)))))))
abbrev row198:AFx:=⟨2,12,[.t 4],b198,none,false⟩
abbrev row199:AFx:=⟨2,56,[.t 4],b199,none,false⟩
abbrev row200:AFx:=⟨1,12,[.t 2],b200,none,false⟩
abbrev row201:AFx:=⟨2,37,[.t 4,.t 5],b201,none,false⟩
class Zm (T:Tbl):Prop where
 h198:Tr T 198=some row198
 h199:Tr T 199=some row199
 h200:Tr T 200=some row200
 h201:Tr T 201=some row201
attribute [simp] Zm.h198 Zm.h199 Zm.h200 Zm.h201
end
section
def b202:AX:=
 (.seq
 (.reg [rg 2 (.xop (.box 2) [(.t 0)]),rg 4 (.alloc [(.b false),(.sl [] .nl),(.sl [] .nl)])])
 (.seq
 (.reg [rg 8 (.fad 1 (.t 2)),rg 9 (.load none (.t 8)),mv 10 1,rg 11 (.call 201 [(.t 9),(.t 10)]),mv 7 11,rg 12 (.ext (.t 7) 0),rg 13 (.ext (.t 7) 1),mv 5 12,mv 6 13])
 (.seq
 (.reg [rg 14 (.fad 0 (.t 2)),rg 15 (.load none (.t 14)),mv 16 5,rg 17 (.build [(.b false),(.sl [] .nl)] [(0,1,(.t 15)),(1,1,(.t 16))]),rg 18 (.call 38 [(.t 17)]),mv 19 6,rg 20 (.build [(.b false),(.sl [] .nl),(.sl [] .nl)] [(0,2,(.t 18)),(2,1,(.t 19))]),so (.store 3 (.t 4) (.t 20))])
 (.pre (.norm false [4]) .ret))))
def b203:AX:=
 (.seq
 (.reg [rg 1 (.xop (.box 3) [(.t 0)]),rg 2 (.alloc [(.b false),(.sl [] .nl)]),rg 3 (.mov (.c (.sl [] .nl)))])
 (.seq
 (.seq
 (.reg [rg 4 (.fad 2 (.t 1)),rg 5 (.load none (.t 4)),rg 6 (.call 70 [(.t 5)])])
 (.cond (.t 6)
 (.seq
 (.reg [rg 7 (.build [(.b false),(.sl [] .nl)] []),rg 8 (.call 72 [(.c (u64 1))]),so (.store 2 (.t 2) (.t 7)),mv 3 8])
 (.pre (.norm false [2,3]) .ret))
 .skip))
 (.seq
 (.draw [⟨rg 9 (.fad 0 (.t 1)),0,0⟩,⟨rg 10 (.load (some 2) (.t 9)),0,0⟩,⟨rg 11 (.fad 2 (.t 1)),0,1⟩,⟨rg 12 (.load none (.t 11)),0,1⟩,⟨so (.store 2 (.t 2) (.t 10)),0,1⟩,⟨mv 3 12,1,1⟩])
 (.pre (.norm false [2,3]) .ret))))
def b205:AX:=
 (.seq
 (.reg [rg 2 (.alloc [(.b false),(.sl [] .nl),(.sl [] .nl)])])
 (.seq
 (.reg [mv 3 0,rg 4 (.call 41 [(.t 3)]),rg 5 (.call 72 [(.c (u64 1))]),rg 6 (.build [(.b false),(.sl [] .nl),(.sl [] .nl)] [(0,2,(.t 4)),(2,1,(.t 5))]),so (.store 3 (.t 2) (.t 6))])
 (.pre (.norm false [2]) .ret)))
def b207:AX:=
 (.seq
 (.reg [rg 1 (.xop (.box 3) [(.t 0)]),rg 2 (.alloc [(.b false),(.sl [] .nl),(.sl [] .nl)])])
 (.seq
 (.reg [rg 3 (.load (some 3) (.t 1)),rg 4 (.call 203 [(.t 3)]),rg 5 (.ext (.t 4) 0),rg 6 (.ext (.t 4) 1),rg 7 (.call 202 [(.t 5),(.t 6)]),so (.store 3 (.t 2) (.t 7))])
 (.pre (.norm false [2]) .ret)))
def b209:AX:=
 (.seq
 (.reg [rg 1 (.xop (.box 3) [(.t 0)]),rg 2 (.mov (.c (.i .i64 0)))])
 (.seq
 (.reg [rg 6 (.load (some 3) (.t 1)),rg 7 (.call 203 [(.t 6)]),mv 5 7,rg 8 (.ext (.t 5) 0),rg 9 (.ext (.t 5) 1),rg 3 (.alloc [(.b false),(.sl [] .nl)]),so (.store 2 (.t 3) (.t 8)),mv 4 9])
 (.seq
 (.reg [rg 10 (.load (some 2) (.t 3)),rg 11 (.call 37 [(.t 10)]),mv 2 11])
 (.pre (.norm false [2]) .ret))))
def b210:AX:=
 (.seq
 (.reg [rg 2 (.xop (.box 2) [(.t 0)]),rg 4 (.alloc [(.b false),(.sl [] .nl)])])
 (.seq
 (.reg [rg 5 (.load (some 2) (.t 2)),mv 6 1,rg 7 (.build [(.b false),(.sl [] .nl)] [(1,1,(.t 6))]),rg 8 (.call 27 [(.t 5),(.t 7)]),so (.store 2 (.t 4) (.t 8))])
 (.pre (.norm false [4]) .ret)))
def b211:AX:=
 (.seq
 (.reg [rg 2 (.xop (.box 3) [(.t 0)]),rg 3 (.xop (.box 3) [(.t 1)]),rg 4 (.mov (.c (.i .i64 0)))])
 (.seq
 (.reg [rg 10 (.load (some 3) (.t 2)),rg 11 (.call 203 [(.t 10)]),mv 9 11,rg 12 (.ext (.t 9) 0),rg 13 (.ext (.t 9) 1),rg 5 (.alloc [(.b false),(.sl [] .nl)]),so (.store 2 (.t 5) (.t 12)),mv 6 13])
 (.seq
 (.reg [rg 15 (.load (some 3) (.t 3)),rg 16 (.call 203 [(.t 15)]),mv 14 16,rg 17 (.ext (.t 14) 0),rg 18 (.ext (.t 14) 1),rg 7 (.alloc [(.b false),(.sl [] .nl)]),so (.store 2 (.t 7) (.t 17)),mv 8 18])
 (.seq
 (.drawT [rg 19 (.load (some 2) (.t 5)),mv 20 8,rg 21 (.call 210 [(.t 19),(.t 20)]),rg 22 (.load (some 2) (.t 7)),mv 23 6]
 [rg 24 (.call 210 [(.t 22),(.t 23)]),rg 25 (.call 36 [(.t 21),(.t 24)]),mv 4 25])
 (.pre (.norm false [4]) .ret)))))
def b212:AX:=
 (.seq
 (.reg [rg 2 (.xop (.box 3) [(.t 0)]),rg 3 (.xop (.box 3) [(.t 1)]),rg 4 (.mov (.c (.b false)))])
 (.seq
 (.reg [rg 5 (.load (some 3) (.t 2)),rg 6 (.load (some 3) (.t 3)),rg 7 (.call 211 [(.t 5),(.t 6)]),rg 8 (.bin .eql (.t 7) (.c (.i .i64 0))),mv 4 8])
 (.pre (.norm false [4]) .ret)))
def b215:AX:=
 (.seq
 (.reg [rg 2 (.xop (.box 3) [(.t 0)]),rg 3 (.xop (.box 3) [(.t 1)]),rg 4 (.alloc [(.b false),(.sl [] .nl),(.sl [] .nl)])])
 (.seq
 (.reg [rg 10 (.load (some 3) (.t 2)),rg 11 (.call 203 [(.t 10)]),mv 9 11,rg 12 (.ext (.t 9) 0),rg 13 (.ext (.t 9) 1),rg 5 (.alloc [(.b false),(.sl [] .nl)]),so (.store 2 (.t 5) (.t 12)),mv 6 13])
 (.seq
 (.reg [rg 15 (.load (some 3) (.t 3)),rg 16 (.call 203 [(.t 15)]),mv 14 16,rg 17 (.ext (.t 14) 0),rg 18 (.ext (.t 14) 1),rg 7 (.alloc [(.b false),(.sl [] .nl)]),so (.store 2 (.t 7) (.t 17)),mv 8 18])
 (.seq
 (.drawT [rg 19 (.load (some 2) (.t 5)),mv 20 8,rg 21 (.call 210 [(.t 19),(.t 20)]),rg 22 (.load (some 2) (.t 7)),mv 23 6,rg 24 (.call 210 [(.t 22),(.t 23)]),rg 25 (.call 23 [(.t 21),(.t 24)]),mv 26 6,mv 27 8]
 [rg 28 (.call 60 [(.t 26),(.t 27)]),rg 29 (.call 202 [(.t 25),(.t 28)]),so (.store 3 (.t 4) (.t 29))])
 (.pre (.norm false [4]) .ret)))))
def b217:AX:=
 (.seq
 (.reg [rg 2 (.xop (.box 3) [(.t 0)]),rg 3 (.xop (.box 3) [(.t 1)]),rg 4 (.alloc [(.b false),(.sl [] .nl),(.sl [] .nl)])])
 (.seq
 (.reg [rg 10 (.load (some 3) (.t 2)),rg 11 (.call 203 [(.t 10)]),mv 9 11,rg 12 (.ext (.t 9) 0),rg 13 (.ext (.t 9) 1),rg 5 (.alloc [(.b false),(.sl [] .nl)]),so (.store 2 (.t 5) (.t 12)),mv 6 13])
 (.seq
 (.reg [rg 15 (.load (some 3) (.t 3)),rg 16 (.call 203 [(.t 15)]),mv 14 16,rg 17 (.ext (.t 14) 0),rg 18 (.ext (.t 14) 1),rg 7 (.alloc [(.b false),(.sl [] .nl)]),so (.store 2 (.t 7) (.t 17)),mv 8 18])
 (.seq
 (.reg [rg 19 (.load (some 2) (.t 5)),rg 20 (.load (some 2) (.t 7)),rg 21 (.call 27 [(.t 19),(.t 20)]),mv 22 6,mv 23 8,rg 24 (.call 60 [(.t 22),(.t 23)]),rg 25 (.call 202 [(.t 21),(.t 24)]),so (.store 3 (.t 4) (.t 25))])
 (.pre (.norm false [4]) .ret)))))
abbrev row202:AFx:=⟨2,21,[.cell 4 (some 3)],b202,none,false⟩
abbrev row203:AFx:=⟨1,13,[.cell 2 (some 2),.t 3],b203,none,false⟩
abbrev row205:AFx:=⟨1,7,[.cell 2 (some 3)],b205,none,false⟩
abbrev row207:AFx:=⟨1,8,[.cell 2 (some 3)],b207,none,false⟩
abbrev row209:AFx:=⟨1,12,[.t 2],b209,none,false⟩
abbrev row210:AFx:=⟨2,9,[.cell 4 (some 2)],b210,none,false⟩
abbrev row211:AFx:=⟨2,26,[.t 4],b211,none,false⟩
abbrev row212:AFx:=⟨2,9,[.t 4],b212,none,false⟩
abbrev row215:AFx:=⟨2,30,[.cell 4 (some 3)],b215,none,false⟩
abbrev row217:AFx:=⟨2,26,[.cell 4 (some 3)],b217,none,false⟩
class Zy (T:Tbl):Prop where
 h202:Tr T 202=some row202
 h203:Tr T 203=some row203
 h205:Tr T 205=some row205
 h207:Tr T 207=some row207
 h209:Tr T 209=some row209
 h210:Tr T 210=some row210
 h211:Tr T 211=some row211
 h212:Tr T 212=some row212
 h215:Tr T 215=some row215
 h217:Tr T 217=some row217
attribute [simp] Zy.h202 Zy.h203 Zy.h205 Zy.h207 Zy.h209 Zy.h210 Zy.h211 Zy.h212 Zy.h215 Zy.h217
section
variable{T:Tbl}[Zy T]{d:Option Nat}{st:St}{xs:List AV}{ps:List Opd}{e:Env}{h:Heap}{ol:List Heap}
def f217(xs:List AV)(hn:xs.length=2):Zb T 217 xs=Zhw [.cell 4 (some 3)] false (evX (orc T) T 0 b217 ⟨Zca xs,[],1⟩):=zaa Zy.h217 hn
end
end
section
def b204:AX:=
 (.seq
 (.reg [rg 2 (.xop (.box 2) [(.t 0)]),rg 4 (.alloc [(.b false),(.sl [] .nl),(.sl [] .nl)]),rg 5 (.mov (.c (.b false)))])
 (.seq
 (.seq
 (.reg [mv 6 1,rg 7 (.call 70 [(.t 6)])])
 (.cond (.t 7)
 (.seq
 (.reg [rg 8 (.call 205 [(.c (.i .i64 0))]),so (.store 3 (.t 4) (.t 8)),rg 5 (.mov (.c (.b false)))])
 (.pre (.norm false [4,5]) .ret))
 .skip))
 (.seq
 (.reg [rg 9 (.load (some 2) (.t 2)),mv 10 1,rg 11 (.call 202 [(.t 9),(.t 10)]),so (.store 3 (.t 4) (.t 11)),rg 5 (.mov (.c (.b true)))])
 (.pre (.norm false [4,5]) .ret))))
abbrev row204:AFx:=⟨2,12,[.cell 4 (some 3),.t 5],b204,none,false⟩
class Zcr (T:Tbl):Prop where
 h204:Tr T 204=some row204
attribute [simp] Zcr.h204
end
section
def b208:AX:=
 (.seq
 (.reg [rg 1 (.xop (.box 3) [(.t 0)]),rg 2 (.mov (.c (.b false)))])
 (.seq
 (.reg [rg 4 (.load (some 3) (.t 1)),rg 5 (.call 207 [(.t 4)]),rg 3 (.alloc [(.b false),(.sl [] .nl),(.sl [] .nl)]),so (.store 3 (.t 3) (.t 5))])
 (.seq
 (.reg [rg 6 (.fad 0 (.t 1)),rg 7 (.fad 0 (.t 6)),rg 8 (.load none (.t 7)),rg 9 (.fad 0 (.t 3)),rg 10 (.fad 0 (.t 9)),rg 11 (.load none (.t 10)),rg 12 (.eqb false (.t 8) (.t 11)),mv 13 12,gd 14 13 true (.fad 0 (.t 1)),gd 15 13 true (.fad 1 (.t 14)),gd 16 13 true (.load none (.t 15)),gd 17 13 true (.len (.t 16)),gd 18 13 true (.fad 0 (.t 3)),gd 19 13 true (.fad 1 (.t 18)),gd 20 13 true (.load none (.t 19)),gd 21 13 true (.len (.t 20)),gd 22 13 true (.bin .eql (.t 17) (.t 21)),rg 23 (.pick (.t 13) (.t 22) (.c (.b false))),mv 24 23,gd 25 24 true (.fad 2 (.t 1)),gd 26 24 true (.load none (.t 25)),gd 27 24 true (.len (.t 26)),gd 28 24 true (.fad 2 (.t 3)),gd 29 24 true (.load none (.t 28)),gd 30 24 true (.len (.t 29)),gd 31 24 true (.bin .eql (.t 27) (.t 30)),rg 32 (.pick (.t 24) (.t 31) (.c (.b false))),mv 33 32,gd 34 33 true (.fad 0 (.t 1)),gd 35 33 true (.fad 1 (.t 34)),gd 36 33 true (.load none (.t 35)),gd 37 33 true (.fad 0 (.t 3)),gd 38 33 true (.fad 1 (.t 37)),gd 39 33 true (.load none (.t 38)),gd 40 33 true (.call 87 [(.t 36),(.t 39)]),gd 41 33 true (.bin .eql (.t 40) (.c (.i .i64 0))),rg 42 (.pick (.t 33) (.t 41) (.c (.b false))),mv 43 42,gd 44 43 true (.fad 2 (.t 1)),gd 45 43 true (.load none (.t 44)),gd 46 43 true (.fad 2 (.t 3)),gd 47 43 true (.load none (.t 46)),gd 48 43 true (.call 87 [(.t 45),(.t 47)]),gd 49 43 true (.bin .eql (.t 48) (.c (.i .i64 0))),rg 50 (.pick (.t 43) (.t 49) (.c (.b false))),mv 2 50])
 (.pre (.norm false [2]) .ret))))
abbrev row208:AFx:=⟨1,51,[.t 2],b208,none,false⟩
class Za1 (T:Tbl):Prop where
 h208:Tr T 208=some row208
attribute [simp] Za1.h208
end
class Zbp (T:Tbl):Prop where
def prim344:List AV->Option AV
 | [.s s,.s [47,46]]=>if s.length<=1000000 then some (.i .i64 (Lib.indexAny s [47,46])) else none
 | _=>none
def prim194:List AV->Option AV
 | [.s s,.s [c]]=>some (.i .i64 (Lib.indexByte s c))
 | _=>none
def prim361:List AV->Option AV
 | [.s s,.s [c]]=>some (.i .i64 (Lib.countByte s c))
 | _=>none
def prim343:List AV->Option AV
 | [.s [48],.i .i64 n]=>if 0<=n/\n<=64 then some (.s (List.replicate n.toNat 48)) else none
 | _=>none
section
abbrev row344:AFx:=⟨0,0,[],.prim prim344,none,false⟩
abbrev row194:AFx:=⟨0,0,[],.prim prim194,none,false⟩
abbrev row361:AFx:=⟨0,0,[],.prim prim361,none,false⟩
class Zdg (T:Tbl):Prop where
 h344:Tr T 344=some row344
 h194:Tr T 194=some row194
 h361:Tr T 361=some row361
attribute [simp] Zdg.h344 Zdg.h194 Zdg.h361
section
variable{T:Tbl}[Zdg T]{d:Option Nat}{st:St}{xs:List AV}{ps:List Opd}{e:Env}{h:Heap}{ol:List Heap}
def p344(xs:List AV):Zb T 344 xs=prim344 xs:=zcr Zdg.h344
def p194(xs:List AV):Zb T 194 xs=prim194 xs:=zcr Zdg.h194
def p361(xs:List AV):Zb T 361 xs=prim361 xs:=zcr Zdg.h361
end
end
section
def b346:AX:=
 (.seq
 (.reg [rg 4 (.mov (.c (.sl [] .nl)))])
 (.seq
 (.reg [mv 5 0,mv 6 1,rg 7 (.call 354 [(.t 5),(.t 6),(.c (.i .i64 0)),(.c (.i .i64 (-1)))]),mv 4 7])
 (.pre (.norm false [4]) .ret)))
def l354_0:AX:=
 (.note
 (.seq
 (.seq
 (.reg [mv 34 10,mv 35 3,rg 36 (.bin .lss (.t 34) (.t 35))])
 (.cond (.t 36)
 .skip
 (.exit 0)))
 (.block 1
 (.seq
 (.reg [mv 37 0,mv 38 1,rg 39 (.call 362 [(.t 37),(.t 38)]),mv 11 39])
 (.seq
 (.seq
 (.reg [mv 40 11,rg 41 (.bin .lss (.t 40) (.c (.i .i64 0)))])
 (.cond (.t 41)
 (.exit 0)
 .skip))
 (.seq
 (.reg [mv 42 9,mv 43 10,mv 44 0,mv 45 11,mv 46 2,rg 47 (.bin .add (.t 45) (.t 46)),rg 48 (.slstr (.t 44) none (some (.t 47))),rg 49 (.iad 1 (.t 42) (.t 43)),so (.store 1 (.t 49) (.t 48))])
 (.seq
 (.reg [mv 50 0,mv 51 11,mv 52 1,rg 53 (.lens (.t 52)),rg 54 (.bin .add (.t 51) (.t 53)),rg 55 (.slstr (.t 50) (some (.t 54)) none),mv 0 55])
 (.reg [mv 56 10,rg 57 (.bin .add (.t 56) (.c (.i .i64 1))),mv 10 57])))))))
 (.norm false [0,1,2,3,9,10]))
def b354:AX:=
 (.seq
 (.reg [rg 8 (.mov (.c (.sl [] .nl)))])
 (.seq
 (.seq
 (.reg [mv 12 3,rg 13 (.bin .eql (.t 12) (.c (.i .i64 0)))])
 (.cond (.t 13)
 (.seq
 (.reg [rg 8 (.mov (.c (.sl [] .nl)))])
 (.pre (.norm false [8]) .ret))
 .skip))
 (.seq
 (.seq
 (.reg [mv 14 1,rg 15 (.bin .eql (.t 14) (.c (.s [])))])
 (.cond (.t 15)
 (.seq
 (.reg [mv 16 0,mv 17 3,rg 18 (.call 360 [(.t 16),(.t 17)]),mv 8 18])
 (.pre (.norm false [8]) .ret))
 .skip))
 (.seq
 (.seq
 (.reg [mv 19 3,rg 20 (.bin .lss (.t 19) (.c (.i .i64 0)))])
 (.cond (.t 20)
 (.reg [mv 21 0,mv 22 1,rg 23 (.call 361 [(.t 21),(.t 22)]),rg 24 (.bin .add (.t 23) (.c (.i .i64 1))),mv 3 24])
 .skip))
 (.seq
 (.reg [mv 25 3,mv 26 0,rg 27 (.lens (.t 26)),rg 28 (.bin .add (.t 27) (.c (.i .i64 1))),rg 29 (.mm false [(.t 25),(.t 28)]),mv 3 29])
 (.seq
 (.reg [mv 30 3,rg 31 (.mks 1 [(.s [])] (.t 30) (.t 30)),mv 9 31])
 (.seq
 (.reg [mv 32 3,rg 33 (.bin .sub (.t 32) (.c (.i .i64 1))),mv 3 33])
 (.seq
 (.reg [rg 10 (.mov (.c (.i .i64 0)))])
 (.seq
 (.lp 0 (.norm false [0,1,2,3,9,10]) l354_0 (.norm false [0,9,10]))
 (.seq
 (.reg [mv 58 9,mv 59 10,mv 60 0,rg 61 (.iad 1 (.t 58) (.t 59)),so (.store 1 (.t 61) (.t 60))])
 (.seq
 (.reg [mv 62 9,mv 63 10,rg 64 (.bin .add (.t 63) (.c (.i .i64 1))),rg 65 (.slc 1 (.t 62) none (some (.t 64)) none),mv 8 65])
 (.pre (.norm false [8]) .ret))))))))))))
def b362:AX:=
 (.seq
 (.reg [rg 4 (.mov (.c (.i .i64 0)))])
 (.seq
 (.reg [mv 5 0,mv 6 1,rg 7 (.call 194 [(.t 5),(.t 6)]),mv 4 7])
 (.pre (.norm false [4]) .ret)))
def b345:AX:=
 (.seq
 (.reg [rg 4 (.mov (.c (.b false)))])
 (.seq
 (.reg [mv 5 0,mv 6 1,rg 7 (.call 123 [(.t 5),(.t 6)]),mv 4 7])
 (.pre (.norm false [4]) .ret)))
abbrev row346:AFx:=⟨2,8,[.t 4],b346,none,false⟩
abbrev row354:AFx:=⟨4,66,[.t 8],b354,none,false⟩
abbrev row362:AFx:=⟨2,8,[.t 4],b362,none,false⟩
abbrev row345:AFx:=⟨2,8,[.t 4],b345,none,false⟩
class Zap (T:Tbl):Prop where
 h346:Tr T 346=some row346
 h354:Tr T 354=some row354
 h362:Tr T 362=some row362
 h345:Tr T 345=some row345
attribute [simp] Zap.h346 Zap.h354 Zap.h362 Zap.h345
end
section
def l258_0:AX:=
 (.note
 (.seq
 (.seq
 (.reg [mv 36 8,rg 37 (.bin .geq (.t 36) (.c (.i .i64 0)))])
 (.cond (.t 37)
 .skip
 (.exit 0)))
 (.seq
 (.block 1
 (.seq
 (.reg [mv 40 7,rg 41 (.call 357 [(.t 40)]),mv 7 41])
 (.seq
 (.reg [mv 42 1,mv 43 8,rg 44 (.bin .shr (.t 42) (.t 43)),rg 45 (.bin .and (.t 44) (.c (.i .i64 1))),rg 46 (.bin .eql (.t 45) (.c (.i .i64 1)))])
 (.cond (.t 46)
 (.reg [mv 47 7,mv 48 0,rg 49 (.call 60 [(.t 47),(.t 48)]),mv 7 49])
 .skip))))
 (.reg [mv 38 8,rg 39 (.bin .sub (.t 38) (.c (.i .i64 1))),mv 8 39])))
 (.norm false [0,1,7,8]))
def b258:AX:=
 (.seq
 (.reg [rg 4 (.mov (.c (.sl [] .nl))),rg 5 (.mov (.c (.b false)))])
 (.seq
 (.reg [mv 9 0,rg 10 (.call 356 [(.t 9)]),mv 6 10])
 (.seq
 (.seq
 (.reg [mv 11 1,rg 12 (.bin .lss (.t 11) (.c (.i .i64 0))),mv 13 12,gd 14 13 false (.mov (.t 6)),gd 15 13 false (.bin .gtr (.t 14) (.c (.i .i64 1))),gd 16 13 false (.mov (.t 15)),gd 17 16 true (.mov (.t 1)),gd 18 16 true (.mov (.t 6)),gd 19 16 true (.bin .quo (.c (.i .i64 65536)) (.t 18)),gd 20 16 true (.bin .gtr (.t 17) (.t 19)),gd 21 13 false (.pick (.t 16) (.t 20) (.c (.b false))),rg 22 (.pick (.t 13) (.c (.b true)) (.t 21))])
 (.cond (.t 22)
 (.seq
 (.reg [rg 4 (.mov (.c (.sl [] .nl))),rg 5 (.mov (.c (.b false)))])
 (.pre (.norm false [4,5]) .ret))
 .skip))
 (.seq
 (.reg [rg 23 (.call 72 [(.c (u64 1))]),mv 7 23])
 (.seq
 (.seq
 (.reg [mv 24 6,rg 25 (.bin .lss (.t 24) (.c (.i .i64 2)))])
 (.cond (.t 25)
 (.seq
 (.seq
 (.reg [mv 26 1,rg 27 (.bin .gtr (.t 26) (.c (.i .i64 0)))])
 (.cond (.t 27)
 (.reg [mv 28 0,rg 29 (.call 71 [(.t 28)]),mv 7 29])
 .skip))
 (.seq
 (.reg [mv 30 7,mv 4 30,rg 5 (.mov (.c (.b true)))])
 (.pre (.norm false [4,5]) .ret)))
 .skip))
 (.seq
 (.seq
 (.reg [mv 31 1,rg 32 (.conv .u64 (.t 31)),rg 33 (.call 72 [(.t 32)]),rg 34 (.call 356 [(.t 33)]),rg 35 (.bin .sub (.t 34) (.c (.i .i64 1))),mv 8 35])
 (.lp 0 (.norm false [0,1,7,8]) l258_0 (.norm false [7])))
 (.seq
 (.reg [mv 50 7,mv 4 50,rg 5 (.mov (.c (.b true)))])
 (.pre (.norm false [4,5]) .ret))))))))
def b356:AX:=
 (.seq
 (.reg [rg 2 (.mov (.c (.i .i64 0)))])
 (.seq
 (.reg [mv 4 0,rg 5 (.call 71 [(.t 4)]),mv 0 5])
 (.seq
 (.reg [mv 6 0,rg 7 (.len (.t 6)),mv 3 7])
 (.seq
 (.seq
 (.reg [mv 8 3,rg 9 (.bin .eql (.t 8) (.c (.i .i64 0)))])
 (.cond (.t 9)
 (.seq
 (.reg [rg 2 (.mov (.c (.i .i64 0)))])
 (.pre (.norm false [2]) .ret))
 .skip))
 (.seq
 (.reg [mv 10 3,rg 11 (.bin .sub (.t 10) (.c (.i .i64 1))),rg 12 (.bin .mul (.c (.i .i64 32)) (.t 11)),mv 13 0,mv 14 3,rg 15 (.bin .sub (.t 14) (.c (.i .i64 1))),rg 16 (.iad 1 (.t 13) (.t 15)),rg 17 (.load none (.t 16)),rg 18 (.call 91 [(.t 17)]),rg 19 (.bin .add (.t 12) (.t 18)),mv 2 19])
 (.pre (.norm false [2]) .ret))))))
def l357_0:AX:=
 (.note
 (.seq
 (.reg [rg 18 (.bin .lss (.t 17) (.t 16))])
 (.seq
 (.cond (.t 18)
 .skip
 (.exit 0))
 (.seq
 (.block 1
 (.seq
 (.reg [mv 19 17,rg 20 (.iad 1 (.t 15) (.t 17)),rg 21 (.load none (.t 20)),mv 4 19,mv 5 21])
 (.reg [mv 22 3,mv 23 4,rg 24 (.bin .mul (.c (.i .i64 2)) (.t 23)),rg 25 (.bin .add (.t 24) (.c (.i .i64 1))),mv 26 0,mv 27 4,rg 28 (.bin .add (.t 27) (.c (.i .i64 1))),rg 29 (.slc 1 (.t 26) (some (.t 28)) none none),mv 30 5,rg 31 (.call 89 [(.t 22),(.t 25),(.t 29),(.t 30),(.c (u32 0))])])))
 (.reg [rg 32 (.bin .add (.t 17) (.c (.i .i64 1))),mv 17 32]))))
 (.norm false [0,3,15,16,17]))
def l357_1:AX:=
 (.note
 (.seq
 (.reg [rg 42 (.bin .lss (.t 41) (.t 40))])
 (.seq
 (.cond (.t 42)
 .skip
 (.exit 2))
 (.seq
 (.block 3
 (.seq
 (.reg [mv 43 41,rg 44 (.iad 1 (.t 39) (.t 41)),rg 45 (.load none (.t 44)),mv 8 43,mv 9 45])
 (.reg [mv 47 7,mv 48 8,rg 49 (.bin .mul (.c (.i .i64 2)) (.t 48)),rg 50 (.bin .add (.t 49) (.c (.i .i64 1))),mv 51 7,mv 52 8,rg 53 (.bin .mul (.c (.i .i64 2)) (.t 52)),mv 54 9,mv 55 9,rg 56 (.call 117 [(.t 54),(.t 55),(.c (u32 0)),(.c (u32 0))]),mv 46 56,rg 57 (.ext (.t 46) 0),rg 58 (.ext (.t 46) 1),rg 59 (.iad 1 (.t 47) (.t 50)),so (.store 1 (.t 59) (.t 57)),rg 60 (.iad 1 (.t 51) (.t 53)),so (.store 1 (.t 60) (.t 58))])))
 (.reg [rg 61 (.bin .add (.t 41) (.c (.i .i64 1))),mv 41 61]))))
 (.norm false [6,7,39,40,41]))
def b357:AX:=
 (.seq
 (.reg [rg 2 (.mov (.c (.sl [] .nl)))])
 (.seq
 (.reg [mv 10 0,rg 11 (.len (.t 10)),rg 12 (.bin .mul (.c (.i .i64 2)) (.t 11)),rg 13 (.bin .add (.t 12) (.c (.i .i64 1))),rg 14 (.mks 1 [(u32 0)] (.t 13) (.t 13)),mv 3 14])
 (.seq
 (.seq
 (.reg [mv 15 0,rg 16 (.len (.t 15)),rg 17 (.mov (.c (.i .i64 0)))])
 (.lp 0 (.norm false [0,3,15,16,17]) l357_0 (.norm false [0,3])))
 (.seq
 (.reg [mv 33 3,rg 34 (.call 92 [(.t 33),(.c (.i .i64 1))]),mv 6 34])
 (.seq
 (.reg [mv 35 0,rg 36 (.len (.t 35)),rg 37 (.bin .mul (.c (.i .i64 2)) (.t 36)),rg 38 (.mks 1 [(u32 0)] (.t 37) (.t 37)),mv 7 38])
 (.seq
 (.seq
 (.reg [mv 39 0,rg 40 (.len (.t 39)),rg 41 (.mov (.c (.i .i64 0)))])
 (.lp 2 (.norm false [6,7,39,40,41]) l357_1 (.norm false [6,7])))
 (.seq
 (.reg [mv 62 6,mv 63 7,rg 64 (.bsl 1 [(.sl [] .nl)] 2 [(0,(.t 62)),(1,(.t 63))]),rg 65 (.call 56 [(.t 64)]),mv 2 65])
 (.pre (.norm false [2]) .ret))))))))
abbrev row258:AFx:=⟨2,51,[.t 4,.t 5],b258,none,false⟩
abbrev row356:AFx:=⟨1,20,[.t 2],b356,none,false⟩
abbrev row357:AFx:=⟨1,66,[.t 2],b357,none,false⟩
class Zcj (T:Tbl):Prop where
 h258:Tr T 258=some row258
 h356:Tr T 356=some row356
 h357:Tr T 357=some row357
attribute [simp] Zcj.h258 Zcj.h356 Zcj.h357
end
section
def b252:AX:=
 (.seq
 (.reg [rg 2 (.mov (.c (.sl [] .nl)))])
 (.seq
 (.reg [rg 6 (.call 72 [(.c (u64 10))]),mv 7 0,rg 8 (.call 258 [(.t 6),(.t 7)]),mv 5 8,rg 9 (.ext (.t 5) 0),rg 10 (.ext (.t 5) 1),mv 3 9,mv 4 10])
 (.seq
 (.reg [mv 11 3,mv 2 11])
 (.pre (.norm false [2]) .ret))))
def b253:AX:=
 (.seq
 (.reg [rg 4 (.mov (.c (.sl [] .nl))),rg 5 (.alloc [(.i .i64 0),(.i .i64 0),(.i .i64 0),(.i .i64 0)])])
 (.seq
 (.reg [mv 9 0,mv 10 1,rg 11 (.slstr (.t 9) (some (.t 10)) none),rg 12 (.call 65 [(.t 11)]),mv 8 12,rg 13 (.ext (.t 8) 0),rg 14 (.ext (.t 8) 1),rg 7 (.alloc [(.i .i64 0),(.i .i64 0),(.i .i64 0),(.i .i64 0)]),mv 6 13,so (.store 4 (.t 7) (.t 14))])
 (.seq
 (.seq
 (.reg [rg 15 (.load (some 4) (.t 7)),rg 16 (.build [(.i .i64 0),(.i .i64 0),(.i .i64 0),(.i .i64 0)] []),rg 17 (.eqs true [(0,.int),(1,.int),(2,.int),(3,.int)] (.t 15) (.t 16))])
 (.cond (.t 17)
 (.reg [rg 18 (.fad 3 (.t 7)),rg 19 (.load none (.t 18)),mv 20 1,rg 21 (.bin .add (.t 19) (.t 20)),rg 22 (.fad 3 (.t 7)),so (.store 1 (.t 22) (.t 21))])
 .skip))
 (.seq
 (.drawT [mv 23 6,rg 24 (.load (some 4) (.t 7)),mv 4 23]
 [so (.store 4 (.t 5) (.t 24))])
 (.pre (.norm false [4,5]) .ret)))))
def b254:AX:=
 (.seq
 (.reg [rg 3 (.xop (.box 2) [(.t 0)]),rg 6 (.alloc [(.b false),(.sl [] .nl),(.sl [] .nl)]),rg 7 (.alloc [(.i .i64 0),(.i .i64 0),(.i .i64 0),(.i .i64 0)])])
 (.seq
 (.reg [mv 13 1,mv 14 2,rg 15 (.call 253 [(.t 13),(.t 14)]),mv 12 15,rg 16 (.ext (.t 12) 0),rg 17 (.ext (.t 12) 1),rg 9 (.alloc [(.i .i64 0),(.i .i64 0),(.i .i64 0),(.i .i64 0)]),mv 8 16,so (.store 4 (.t 9) (.t 17))])
 (.seq
 (.seq
 (.reg [rg 18 (.load (some 4) (.t 9)),rg 19 (.build [(.i .i64 0),(.i .i64 0),(.i .i64 0),(.i .i64 0)] []),rg 20 (.eqs true [(0,.int),(1,.int),(2,.int),(3,.int)] (.t 18) (.t 19))])
 (.cond (.t 20)
 (.seq
 (.draw [⟨rg 21 (.call 205 [(.c (.i .i64 0))]),0,0⟩,⟨rg 22 (.load (some 4) (.t 9)),0,1⟩,⟨so (.store 3 (.t 6) (.t 21)),0,1⟩,⟨so (.store 4 (.t 7) (.t 22)),1,2⟩])
 (.pre (.norm false [6,7]) .ret))
 .skip))
 (.seq
 (.reg [rg 24 (.load (some 2) (.t 3)),mv 25 8,rg 26 (.call 204 [(.t 24),(.t 25)]),mv 23 26,rg 27 (.ext (.t 23) 0),rg 28 (.ext (.t 23) 1),rg 10 (.alloc [(.b false),(.sl [] .nl),(.sl [] .nl)]),so (.store 3 (.t 10) (.t 27)),mv 11 28])
 (.seq
 (.seq
 (.reg [mv 29 11,rg 30 (.un .not (.t 29))])
 (.cond (.t 30)
 (.seq
 (.reg [rg 31 (.load (some 3) (.t 10)),mv 32 2,rg 33 (.build [(.i .i64 0),(.i .i64 0),(.i .i64 0),(.i .i64 0)] [(0,1,(.c (.i .i64 2))),(3,1,(.t 32))]),so (.store 3 (.t 6) (.t 31)),so (.store 4 (.t 7) (.t 33))])
 (.pre (.norm false [6,7]) .ret))
 .skip))
 (.seq
 (.reg [rg 34 (.load (some 3) (.t 10)),rg 35 (.build [(.i .i64 0),(.i .i64 0),(.i .i64 0),(.i .i64 0)] []),so (.store 3 (.t 6) (.t 34)),so (.store 4 (.t 7) (.t 35))])
 (.pre (.norm false [6,7]) .ret)))))))
def b255:AX:=
 (.seq
 (.reg [rg 4 (.xop (.box 2) [(.t 0)]),rg 8 (.alloc [(.b false),(.sl [] .nl),(.sl [] .nl)]),rg 9 (.alloc [(.i .i64 0),(.i .i64 0),(.i .i64 0),(.i .i64 0)])])
 (.seq
 (.reg [mv 17 2,mv 18 3,rg 19 (.call 253 [(.t 17),(.t 18)]),mv 16 19,rg 20 (.ext (.t 16) 0),rg 21 (.ext (.t 16) 1),rg 11 (.alloc [(.i .i64 0),(.i .i64 0),(.i .i64 0),(.i .i64 0)]),mv 10 20,so (.store 4 (.t 11) (.t 21))])
 (.seq
 (.seq
 (.reg [rg 22 (.load (some 4) (.t 11)),rg 23 (.build [(.i .i64 0),(.i .i64 0),(.i .i64 0),(.i .i64 0)] []),rg 24 (.eqs true [(0,.int),(1,.int),(2,.int),(3,.int)] (.t 22) (.t 23))])
 (.cond (.t 24)
 (.seq
 (.draw [⟨rg 25 (.call 205 [(.c (.i .i64 0))]),0,0⟩,⟨rg 26 (.load (some 4) (.t 11)),0,1⟩,⟨so (.store 3 (.t 8) (.t 25)),0,1⟩,⟨so (.store 4 (.t 9) (.t 26)),1,2⟩])
 (.pre (.norm false [8,9]) .ret))
 .skip))
 (.seq
 (.reg [mv 27 2,rg 28 (.lens (.t 27)),mv 29 3,rg 30 (.bin .sub (.t 28) (.t 29)),rg 31 (.call 252 [(.t 30)]),mv 12 31])
 (.seq
 (.reg [rg 32 (.fad 1 (.t 4)),rg 33 (.load none (.t 32)),mv 34 12,rg 35 (.call 60 [(.t 33),(.t 34)]),mv 36 10,rg 37 (.bsl 1 [(.sl [] .nl)] 2 [(0,(.t 35)),(1,(.t 36))]),rg 38 (.call 56 [(.t 37)]),mv 13 38])
 (.seq
 (.reg [mv 40 1,mv 41 13,rg 42 (.build [(.b false),(.sl [] .nl)] [(0,1,(.t 40)),(1,1,(.t 41))]),mv 43 12,rg 44 (.call 204 [(.t 42),(.t 43)]),mv 39 44,rg 45 (.ext (.t 39) 0),rg 46 (.ext (.t 39) 1),rg 14 (.alloc [(.b false),(.sl [] .nl),(.sl [] .nl)]),so (.store 3 (.t 14) (.t 45)),mv 15 46])
 (.seq
 (.reg [rg 47 (.load (some 3) (.t 14)),rg 48 (.build [(.i .i64 0),(.i .i64 0),(.i .i64 0),(.i .i64 0)] []),so (.store 3 (.t 8) (.t 47)),so (.store 4 (.t 9) (.t 48))])
 (.pre (.norm false [8,9]) .ret))))))))
def b256:AX:=
 (.seq
 (.reg [rg 2 (.alloc [(.b false),(.sl [] .nl),(.sl [] .nl)]),rg 3 (.alloc [(.i .i64 0),(.i .i64 0),(.i .i64 0),(.i .i64 0)])])
 (.seq
 (.reg [mv 10 0,rg 11 (.call 344 [(.t 10),(.c (.s [47,46]))]),mv 4 11])
 (.seq
 (.reg [mv 12 0,mv 5 12])
 (.seq
 (.seq
 (.reg [mv 13 4,rg 14 (.bin .geq (.t 13) (.c (.i .i64 0)))])
 (.cond (.t 14)
 (.reg [mv 15 0,mv 16 4,rg 17 (.slstr (.t 15) none (some (.t 16))),mv 5 17])
 .skip))
 (.seq
 (.reg [mv 19 5,rg 20 (.call 32 [(.t 19)]),mv 18 20,rg 21 (.ext (.t 18) 0),rg 22 (.ext (.t 18) 1),rg 6 (.alloc [(.b false),(.sl [] .nl)]),rg 7 (.alloc [(.i .i64 0),(.i .i64 0),(.i .i64 0),(.i .i64 0)]),so (.store 2 (.t 6) (.t 21)),so (.store 4 (.t 7) (.t 22))])
 (.seq
 (.block 0
 (.seq
 (.reg [rg 24 (.load (some 4) (.t 7)),rg 25 (.build [(.i .i64 0),(.i .i64 0),(.i .i64 0),(.i .i64 0)] []),rg 26 (.eqs true [(0,.int),(1,.int),(2,.int),(3,.int)] (.t 24) (.t 25)),mv 23 26])
 (.cond (.t 23)
 (.seq
 (.draw [⟨rg 27 (.call 205 [(.c (.i .i64 0))]),0,0⟩,⟨rg 28 (.load (some 4) (.t 7)),0,1⟩,⟨so (.store 3 (.t 2) (.t 27)),0,1⟩,⟨so (.store 4 (.t 3) (.t 28)),1,2⟩])
 (.pre (.norm false [2,3]) .ret))
 (.seq
 (.reg [mv 30 4,rg 31 (.bin .lss (.t 30) (.c (.i .i64 0))),mv 29 31])
 (.cond (.t 29)
 (.seq
 (.draw [⟨rg 33 (.load (some 2) (.t 6)),0,1⟩,⟨rg 34 (.call 72 [(.c (u64 1))]),0,1⟩,⟨rg 35 (.call 204 [(.t 33),(.t 34)]),0,1⟩,⟨mv 32 35,0,1⟩,⟨rg 36 (.ext (.t 32) 0),0,1⟩,⟨rg 37 (.ext (.t 32) 1),0,2⟩,⟨rg 8 (.alloc [(.b false),(.sl [] .nl),(.sl [] .nl)]),0,1⟩,⟨so (.store 3 (.t 8) (.t 36)),1,2⟩,⟨mv 9 37,2,2⟩])
 (.seq
 (.reg [rg 38 (.load (some 3) (.t 8)),rg 39 (.build [(.i .i64 0),(.i .i64 0),(.i .i64 0),(.i .i64 0)] []),so (.store 3 (.t 2) (.t 38)),so (.store 4 (.t 3) (.t 39))])
 (.pre (.norm false [2,3]) .ret)))
 (.seq
 (.reg [mv 41 0,mv 42 4,rg 43 (.ixs (.t 41) (.t 42)),rg 44 (.bin .eql (.t 43) (.c (u8 47))),mv 40 44])
 (.cond (.t 40)
 (.seq
 (.reg [rg 45 (.load (some 2) (.t 6)),mv 46 0,mv 47 4,rg 48 (.bin .add (.t 47) (.c (.i .i64 1))),rg 49 (.call 254 [(.t 45),(.t 46),(.t 48)]),rg 50 (.ext (.t 49) 0),rg 51 (.ext (.t 49) 1),so (.store 3 (.t 2) (.t 50)),so (.store 4 (.t 3) (.t 51))])
 (.pre (.norm false [2,3]) .ret))
 .skip)))))))
 (.seq
 (.drawT [rg 52 (.load (some 2) (.t 6)),mv 53 0,rg 54 (.call 345 [(.t 53),(.c (.s [45]))]),mv 55 0,mv 56 4,rg 57 (.bin .add (.t 56) (.c (.i .i64 1))),rg 58 (.call 255 [(.t 52),(.t 54),(.t 55),(.t 57)]),rg 59 (.ext (.t 58) 0),rg 60 (.ext (.t 58) 1)]
 [so (.store 3 (.t 2) (.t 59)),so (.store 4 (.t 3) (.t 60))])
 (.pre (.norm false [2,3]) .ret))))))))
abbrev row252:AFx:=⟨1,12,[.t 2],b252,none,false⟩
abbrev row253:AFx:=⟨2,25,[.t 4,.cell 5 (some 4)],b253,none,false⟩
abbrev row254:AFx:=⟨3,36,[.cell 6 (some 3),.cell 7 (some 4)],b254,none,false⟩
abbrev row255:AFx:=⟨4,49,[.cell 8 (some 3),.cell 9 (some 4)],b255,none,false⟩
abbrev row256:AFx:=⟨1,61,[.cell 2 (some 3),.cell 3 (some 4)],b256,none,false⟩
class Zd7 (T:Tbl):Prop where
 h252:Tr T 252=some row252
 h253:Tr T 253=some row253
 h254:Tr T 254=some row254
 h255:Tr T 255=some row255
 h256:Tr T 256=some row256
attribute [simp] Zd7.h252 Zd7.h253 Zd7.h254 Zd7.h255 Zd7.h256
end
class Zcx (T:Tbl):Prop where
class Zcc (T:Tbl):Prop where
class Zdj (T:Tbl):Prop where
class Zf0 (T:Tbl):Prop where
def meths1:List RV:=[.cell 1 (some 445),.cell 2 (some 444),.cell 3 (some 441),.cell 4 (some 448),.cell 5 (some 443),.cell 6 (some 447),.cell 7 (some 446),.cell 8 (some 442)]
class Zfx (T:Tbl):Prop where
def isD(c:UInt8):Bool:=decide (48<=c.toNat)&&decide (c.toNat<=57)
def isL(c:UInt8):Bool:=decide (97<=c.toNat)&&decide (c.toNat<=122) || decide (65<=c.toNat)&&decide (c.toNat<=90) || decide (c.toNat=95)
def Zmw:List UInt8:=[43,45,42,47,94,40,41,91,93,44,59,61]
def isS(c:UInt8):Bool:=Zmw.contains c
def Zdb(c:UInt8):Nat:=if isD c then 1 else if isL c then 2 else if isS c then 3 else 0
def Zkv(k:Nat)(c:UInt8):Bool:=decide (k=1)&&isD c || decide (k=2)&&(isL c || isD c)
def Zje(k:Nat):Nat:=if k=1 then 60 else if k=2 then 12 else 1
def isB(c:UInt8):Bool:=decide (c=32) || decide (c=9) || decide (c=10) || decide (c=13)
abbrev Wd:=Nat×List UInt8×Nat
def Zif:Bool->List UInt8->Nat
 | _,[]=>0
 | note,c::r=>
  let note':=if c=35 then true else if c=10 then false else note
  if (note' || isB c)=true then 1+Zif note' r else 0
def Zfb(k:Nat)(r:List UInt8):Nat:=1+(r.takeWhile (Zkv k)).length
def Zlp(l:List UInt8)(i:Nat)(acc:List Wd):Except Nat (List Wd):=
 match l with
 | []=>.ok acc
 | c::r=>
  if Zdb c=0 then .error i
  else if Zje (Zdb c)<Zfb (Zdb c) r then .error (i+Zje (Zdb c))
  else Zlp ((r.drop (Zfb (Zdb c) r-1)).drop (Zif false (r.drop (Zfb (Zdb c) r-1)))) (i+Zfb (Zdb c) r+Zif false (r.drop (Zfb (Zdb c) r-1)))
   (acc++[(Zdb c,(c::r).take (Zfb (Zdb c) r),i)])
termination_by l.length
decreasing_by grind
def Zkw(c:UInt8)(i:Nat)(acc:List Wd):List Wd:=
 match acc.getLast? with
 | some (k,t,a)=>if a+t.length=i/\Zkv k c=true then acc.dropLast++[(k,t++[c],a)] else acc++[(Zdb c,[c],i)]
 | none=>acc++[(Zdb c,[c],i)]
def Zmx(acc:List Wd):Bool:=
 match acc.getLast? with
 | some (k,t,_)=>decide (k=0) || decide (Zje k<t.length)
 | none=>false
def Zmy:List UInt8->Nat->Bool->List Wd->Except Nat (List Wd)
 | [],_,_,acc=>.ok acc
 | c::r,i,note,acc=>
  let note':=if c=35 then true else if c=10 then false else note
  if (note' || isB c)=true then Zmy r (i+1) note' acc
  else if Zmx (Zkw c i acc)=true then .error i
  else Zmy r (i+1) note' (Zkw c i acc)
def Zpd(acc:List Wd)(i:Nat)(l:List UInt8):Prop:=∀k t a,acc.getLast? = some (k,t,a)->a+t.length=i->∀c r,l=c::r->Zkv k c=false
def prim187:List AV->Option AV
 | [.i .u8 n]=>if 0<=n/\n<256 then some (.b (isS (UInt8.ofNat n.toNat))) else none
 | _=>none
def prim184:List AV->Option AV
 | [.s l,.s [c]]=>if l.length<=1000000 then some (.tup [.s (l.takeWhile (· != c)),.s ((l.dropWhile (· != c)).drop 1),.b (l.contains c)]) else none
 | _=>none
def textOf:List AV->Option (List UInt8)
 | [.s l]=>if l.length<=10000 then some l else none
 | _=>none
def prim183:List AV->Option AV
 | [.sl els .an,.s sep]=>if els.length<=1000/\sep.length<=100 then (els.mapM textOf).map fun ts=>.s (List.intercalate sep ts) else none
 | _=>none
def Zf(l:List (List UInt8)):List (List AV):=l.map fun s=>[.s s]
@[simp] theorem zaz(l:List (List UInt8)):(Zf l).length=l.length:=by simp[Zf]
@[simp] def zbs(l:List (List UInt8)):wkL (Zf l)=Zf l:=by
 induction l with
 | nil=>rfl
 | cons x l ih=>simpa[Zf,wkL,wkR]using ih
def zsj(l:List (List UInt8))(s:List UInt8):wkL (List.take l.length (Zf l)++[[AV.s s]])=Zf (l++[s]):=by
 rw[Yb (by simp),show Zf l++[[AV.s s]]=Zf (l++[s]) by simp[Zf],zbs]
theorem zor(l:List (List UInt8))(h:∀s∈l,s.length<=10000):(Zf l).mapM textOf=some l:=by
 induction l with
 | nil=>rfl
 | cons x l ih=>
  grind[textOf,Zf]
theorem zjs:∀{els:List (List AV)} {ts:List (List UInt8)},els.mapM textOf=some ts->els=Zf ts/\∀t∈ts,t.length<=10000
 | [],ts,h=>by cases h;exact⟨rfl,by simp⟩
 | r::els,ts,h=>by
  rw[Ya4]at h;obtain⟨x,hx,h1⟩:=bind_some h;obtain⟨y,hy,h2⟩:=bind_some h1;cases h2;obtain⟨e1,e2⟩:=zjs hy;unfold textOf at hx;split at hx
  ·split at hx
   ·cases hx;rename_i hl;subst e1;exact⟨rfl,fun t ht=>(Yn.1 ht).elim (fun h=>h▸hl) (e2 t)⟩
   ·cases hx
  ·cases hx
theorem zsk(l:List (List UInt8))(sep:List UInt8)(h:∀s∈l,s.length<=10000)(hl:l.length<=1000)(hs:sep.length<=100):prim183 [.sl (Zf l) .an,.s sep]=some (.s (List.intercalate sep l)):=by
 grind[prim183,zaz,zor]
section
abbrev row183:AFx:=⟨0,0,[],.prim prim183,none,false⟩
class Za5 (T:Tbl):Prop where
 h183:Tr T 183=some row183
attribute [simp] Za5.h183
section
variable{T:Tbl}[Za5 T]{d:Option Nat}{st:St}{xs:List AV}{ps:List Opd}{e:Env}{h:Heap}{ol:List Heap}
theorem p183(xs:List AV):Zb T 183 xs=prim183 xs:=zcr Za5.h183
end
end
section
def b251:AX:=
 (.seq
 (.reg [rg 1 (.xop (.box 3) [(.t 0)]),rg 2 (.mov (.c (.s [])))])
 (.seq
 (.reg [rg 4 (.load (some 3) (.t 1)),rg 5 (.call 207 [(.t 4)]),so (.store 3 (.t 1) (.t 5))])
 (.seq
 (.reg [rg 6 (.fad 0 (.t 1)),rg 7 (.load (some 2) (.t 6)),rg 8 (.call 34 [(.t 7)]),mv 3 8])
 (.seq
 (.seq
 (.drawT [rg 9 (.fad 2 (.t 1)),rg 10 (.load none (.t 9)),rg 11 (.call 72 [(.c (u64 1))])]
 [rg 12 (.call 87 [(.t 10),(.t 11)]),rg 13 (.bin .neq (.t 12) (.c (.i .i64 0)))])
 (.cond (.t 13)
 (.reg [mv 14 3,rg 15 (.fad 2 (.t 1)),rg 16 (.load none (.t 15)),rg 17 (.call 68 [(.t 16)]),rg 18 (.bin .add (.c (.s [47])) (.t 17)),rg 19 (.bin .add (.t 14) (.t 18)),mv 3 19])
 .skip))
 (.seq
 (.reg [mv 20 3,mv 2 20])
 (.pre (.norm false [2]) .ret))))))
def l265_0:AX:=
 (.note
 (.seq
 (.reg [rg 14 (.bin .lss (.t 13) (.t 12))])
 (.seq
 (.cond (.t 14)
 .skip
 (.exit 0))
 (.seq
 (.block 1
 (.seq
 (.reg [mv 15 13,mv 5 15])
 (.seq
 (.drawT [mv 16 0,mv 17 5,rg 18 (.iad 3 (.t 16) (.t 17)),rg 19 (.load (some 3) (.t 18)),mv 20 1,mv 21 5,rg 22 (.iad 3 (.t 20) (.t 21)),rg 23 (.load (some 3) (.t 22))]
 [rg 24 (.call 212 [(.t 19),(.t 23)]),rg 25 (.un .not (.t 24))])
 (.cond (.t 25)
 (.seq
 (.reg [rg 4 (.mov (.c (.b false)))])
 (.pre (.norm false [4]) .ret))
 .skip))))
 (.reg [rg 26 (.bin .add (.t 13) (.c (.i .i64 1))),mv 13 26]))))
 (.norm false [0,1,12,13]))
def b265:AX:=
 (.seq
 (.reg [rg 4 (.mov (.c (.b false)))])
 (.seq
 (.seq
 (.reg [mv 6 0,rg 7 (.len (.t 6)),mv 8 1,rg 9 (.len (.t 8)),rg 10 (.bin .neq (.t 7) (.t 9))])
 (.cond (.t 10)
 (.seq
 (.reg [rg 4 (.mov (.c (.b false)))])
 (.pre (.norm false [4]) .ret))
 .skip))
 (.seq
 (.seq
 (.reg [mv 11 0,rg 12 (.len (.t 11)),rg 13 (.mov (.c (.i .i64 0)))])
 (.lp 0 (.norm false [0,1,12,13]) l265_0 (.norm false [])))
 (.seq
 (.reg [rg 4 (.mov (.c (.b true)))])
 (.pre (.norm false [4]) .ret)))))
def l269_0:AX:=
 (.note
 (.seq
 (.reg [rg 11 (.bin .lss (.t 10) (.t 9))])
 (.seq
 (.cond (.t 11)
 .skip
 (.exit 0))
 (.seq
 (.block 1
 (.seq
 (.reg [rg 12 (.iad 3 (.t 8) (.t 10)),rg 13 (.load (some 3) (.t 12)),rg 7 (.alloc [(.b false),(.sl [] .nl),(.sl [] .nl)]),so (.store 3 (.t 7) (.t 13))])
 (.reg [mv 14 5,rg 15 (.load (some 3) (.t 2)),rg 16 (.load (some 3) (.t 7)),rg 17 (.call 217 [(.t 15),(.t 16)]),rg 18 (.bsl 3 [(.b false),(.sl [] .nl),(.sl [] .nl)] 1 [(0,(.t 17))]),rg 19 (.app 3 (.t 14) (.t 18)),mv 5 19])))
 (.reg [rg 20 (.bin .add (.t 10) (.c (.i .i64 1))),mv 10 20]))))
 (.norm false [2,5,8,9,10]))
def b269:AX:=
 (.seq
 (.reg [rg 2 (.xop (.box 3) [(.t 0)]),rg 4 (.mov (.c (.sl [] .nl)))])
 (.seq
 (.note (.reg [rg 5 (.mov (.c (.sl [] .nl)))]) (.nil 5 3))
 (.seq
 (.seq
 (.reg [mv 8 1,rg 9 (.len (.t 8)),rg 10 (.mov (.c (.i .i64 0)))])
 (.lp 0 (.norm false [2,5,8,9,10]) l269_0 (.norm false [5])))
 (.seq
 (.reg [mv 21 5,mv 4 21])
 (.pre (.norm false [4]) .ret)))))
def l274_0:AX:=
 (.note
 (.seq
 (.reg [rg 9 (.bin .lss (.t 8) (.t 7))])
 (.seq
 (.cond (.t 9)
 .skip
 (.exit 0))
 (.seq
 (.block 1
 (.seq
 (.reg [rg 10 (.iad 3 (.t 6) (.t 8)),rg 11 (.load (some 3) (.t 10)),rg 5 (.alloc [(.b false),(.sl [] .nl),(.sl [] .nl)]),so (.store 3 (.t 5) (.t 11))])
 (.reg [mv 12 3,rg 13 (.load (some 3) (.t 5)),rg 14 (.call 251 [(.t 13)]),rg 15 (.bsl 1 [(.s [])] 1 [(0,(.t 14))]),rg 16 (.app 1 (.t 12) (.t 15)),mv 3 16])))
 (.reg [rg 17 (.bin .add (.t 8) (.c (.i .i64 1))),mv 8 17]))))
 (.norm false [3,6,7,8]))
def b274:AX:=
 (.seq
 (.reg [rg 2 (.mov (.c (.s [])))])
 (.seq
 (.note (.reg [rg 3 (.mov (.c (.sl [] .nl)))]) (.nil 3 1))
 (.seq
 (.seq
 (.reg [mv 6 0,rg 7 (.len (.t 6)),rg 8 (.mov (.c (.i .i64 0)))])
 (.lp 0 (.norm false [3,6,7,8]) l274_0 (.norm false [3])))
 (.seq
 (.reg [mv 18 3,rg 19 (.call 183 [(.t 18),(.c (.s [44]))]),mv 2 19])
 (.pre (.norm false [2]) .ret)))))
abbrev row251:AFx:=⟨1,21,[.t 2],b251,none,false⟩
abbrev row265:AFx:=⟨2,27,[.t 4],b265,none,false⟩
abbrev row269:AFx:=⟨2,22,[.t 4],b269,none,false⟩
abbrev row274:AFx:=⟨1,20,[.t 2],b274,none,false⟩
class Zb3 (T:Tbl):Prop where
 h251:Tr T 251=some row251
 h265:Tr T 265=some row265
 h269:Tr T 269=some row269
 h274:Tr T 274=some row274
attribute [simp] Zb3.h251 Zb3.h265 Zb3.h269 Zb3.h274
end
section
def l275_0:AX:=
 (.note
 (.seq
 (.reg [rg 17 (.bin .lss (.t 16) (.t 15))])
 (.seq
 (.cond (.t 17)
 .skip
 (.exit 0))
 (.seq
 (.block 1
 (.seq
 (.reg [rg 18 (.iad 1 (.t 14) (.t 16)),rg 19 (.load none (.t 18)),mv 7 19])
 (.seq
 (.reg [mv 21 7,rg 22 (.call 256 [(.t 21)]),mv 20 22,rg 23 (.ext (.t 20) 0),rg 24 (.ext (.t 20) 1),rg 8 (.alloc [(.b false),(.sl [] .nl),(.sl [] .nl)]),rg 9 (.alloc [(.i .i64 0),(.i .i64 0),(.i .i64 0),(.i .i64 0)]),so (.store 3 (.t 8) (.t 23)),so (.store 4 (.t 9) (.t 24))])
 (.seq
 (.seq
 (.reg [rg 25 (.load (some 4) (.t 9)),rg 26 (.build [(.i .i64 0),(.i .i64 0),(.i .i64 0),(.i .i64 0)] []),rg 27 (.eqs true [(0,.int),(1,.int),(2,.int),(3,.int)] (.t 25) (.t 26))])
 (.cond (.t 27)
 (.seq
 (.reg [rg 28 (.fad 3 (.t 9)),rg 29 (.load none (.t 28)),mv 30 5,rg 31 (.bin .add (.t 29) (.t 30)),rg 32 (.fad 3 (.t 9)),so (.store 1 (.t 32) (.t 31))])
 (.seq
 (.drawT [rg 33 (.load (some 4) (.t 9)),rg 2 (.mov (.c (.sl [] .nl)))]
 [so (.store 4 (.t 3) (.t 33))])
 (.pre (.norm false [2,3]) .ret)))
 .skip))
 (.seq
 (.reg [mv 34 4,rg 35 (.load (some 3) (.t 8)),rg 36 (.bsl 3 [(.b false),(.sl [] .nl),(.sl [] .nl)] 1 [(0,(.t 35))]),rg 37 (.app 3 (.t 34) (.t 36)),mv 4 37])
 (.reg [mv 38 5,mv 39 7,rg 40 (.lens (.t 39)),rg 41 (.bin .add (.t 40) (.c (.i .i64 1))),rg 42 (.bin .add (.t 38) (.t 41)),mv 5 42]))))))
 (.reg [rg 43 (.bin .add (.t 16) (.c (.i .i64 1))),mv 16 43]))))
 (.norm false [3,4,5,14,15,16]))
def b275:AX:=
 (.seq
 (.reg [rg 2 (.mov (.c (.sl [] .nl))),rg 3 (.alloc [(.i .i64 0),(.i .i64 0),(.i .i64 0),(.i .i64 0)])])
 (.seq
 (.seq
 (.reg [mv 10 0,rg 11 (.bin .eql (.t 10) (.c (.s [])))])
 (.cond (.t 11)
 (.seq
 (.reg [rg 12 (.build [(.i .i64 0),(.i .i64 0),(.i .i64 0),(.i .i64 0)] []),rg 2 (.mov (.c (.sl [] .nl))),so (.store 4 (.t 3) (.t 12))])
 (.pre (.norm false [2,3]) .ret))
 .skip))
 (.seq
 (.note (.reg [rg 4 (.mov (.c (.sl [] .nl)))]) (.nil 4 3))
 (.seq
 (.reg [rg 5 (.mov (.c (.i .i64 0)))])
 (.seq
 (.seq
 (.reg [mv 13 0,rg 14 (.call 346 [(.t 13),(.c (.s [44]))]),rg 15 (.len (.t 14)),rg 16 (.mov (.c (.i .i64 0)))])
 (.lp 0 (.norm false [3,4,5,14,15,16]) l275_0 (.norm false [3,4])))
 (.seq
 (.reg [mv 44 4,rg 45 (.build [(.i .i64 0),(.i .i64 0),(.i .i64 0),(.i .i64 0)] []),mv 2 44,so (.store 4 (.t 3) (.t 45))])
 (.pre (.norm false [2,3]) .ret)))))))
abbrev row275:AFx:=⟨1,46,[.t 2,.cell 3 (some 4)],b275,none,false⟩
class Ze3 (T:Tbl):Prop where
 h275:Tr T 275=some row275
attribute [simp] Ze3.h275
end
section
def l513_0:AX:=
 (.note
 (.seq
 (.reg [rg 12 (.bin .lss (.t 11) (.t 10))])
 (.seq
 (.cond (.t 12)
 .skip
 (.exit 0))
 (.seq
 (.block 1
 (.seq
 (.reg [rg 13 (.iad 14 (.t 9) (.t 11)),rg 14 (.load (some 14) (.t 13)),rg 7 (.alloc [(.b false),(.sl [] .nl),(.sl [] .nl),(.b false),(.sl [] .nl),(.sl [] .nl),(.b false),(.sl [] .nl),(.sl [] .nl),(.b false),(.sl [] .nl),(.sl [] .nl),(.sl [] .nl),(.b false)]),so (.store 14 (.t 7) (.t 14))])
 (.seq
 (.reg [mv 15 4,rg 16 (.fad 0 (.t 7)),rg 17 (.load (some 3) (.t 16)),rg 18 (.bsl 3 [(.b false),(.sl [] .nl),(.sl [] .nl)] 1 [(0,(.t 17))]),rg 19 (.app 3 (.t 15) (.t 18)),mv 4 19])
 (.reg [mv 20 5,rg 21 (.fad 12 (.t 7)),rg 22 (.load none (.t 21)),rg 23 (.bsl 1 [(.sl [] .nl)] 1 [(0,(.t 22))]),rg 24 (.app 1 (.t 20) (.t 23)),mv 5 24]))))
 (.reg [rg 25 (.bin .add (.t 11) (.c (.i .i64 1))),mv 11 25]))))
 (.norm false [1,4,5,9,10,11]))
def b513:AX:=
 (.seq
 (.reg [rg 1 (.xop (.box 5) [(.t 0)]),rg 2 (.mov (.c (.sl [] .nl))),rg 3 (.mov (.c (.sl [] .nl)))])
 (.seq
 (.note (.reg [rg 4 (.mov (.c (.sl [] .nl)))]) (.nil 4 3))
 (.seq
 (.note (.reg [rg 5 (.mov (.c (.sl [] .nl)))]) (.nil 5 1))
 (.seq
 (.seq
 (.reg [rg 8 (.load (some 5) (.t 1)),rg 9 (.call 532 [(.t 8)]),rg 10 (.len (.t 9)),rg 11 (.mov (.c (.i .i64 0)))])
 (.lp 0 (.norm false [1,4,5,9,10,11]) l513_0 (.norm false [1,4,5])))
 (.seq
 (.drawM [mv 26 4,rg 27 (.fad 1 (.t 1)),rg 28 (.load (some 3) (.t 27)),rg 29 (.call 207 [(.t 28)]),rg 30 (.bsl 3 [(.b false),(.sl [] .nl),(.sl [] .nl)] 1 [(0,(.t 29))]),rg 31 (.app 3 (.t 26) (.t 30)),mv 32 5,rg 33 (.fad 4 (.t 1)),rg 34 (.load none (.t 33)),rg 35 (.call 533 [(.t 34)]),rg 36 (.bsl 1 [(.sl [] .nl)] 1 [(0,(.t 35))])]
 [rg 37 (.app 1 (.t 32) (.t 36)),mv 2 31,mv 3 37])
 (.pre (.norm false [2,3]) .ret))))))
def l532_0:AX:=
 (.note
 (.seq
 (.reg [rg 11 (.bin .lss (.t 10) (.t 9))])
 (.seq
 (.cond (.t 11)
 .skip
 (.exit 0))
 (.seq
 (.block 1
 (.seq
 (.reg [rg 12 (.iad 14 (.t 8) (.t 10)),rg 13 (.load (some 14) (.t 12)),rg 5 (.alloc [(.b false),(.sl [] .nl),(.sl [] .nl),(.b false),(.sl [] .nl),(.sl [] .nl),(.b false),(.sl [] .nl),(.sl [] .nl),(.b false),(.sl [] .nl),(.sl [] .nl),(.sl [] .nl),(.b false)]),so (.store 14 (.t 5) (.t 13))])
 (.seq
 (.reg [rg 14 (.fad 13 (.t 5)),rg 15 (.load none (.t 14))])
 (.cond (.t 15)
 (.seq
 (.reg [rg 16 (.load (some 14) (.t 5)),rg 17 (.call 549 [(.t 16)]),rg 18 (.call 533 [(.t 17)]),mv 6 18])
 (.drawT [mv 19 3,mv 20 6,rg 21 (.iad 3 (.t 20) (.c (.i .i64 0))),rg 22 (.load (some 3) (.t 21)),mv 23 6,rg 24 (.iad 3 (.t 23) (.c (.i .i64 1))),rg 25 (.load (some 3) (.t 24)),mv 26 6,rg 27 (.iad 3 (.t 26) (.c (.i .i64 2))),rg 28 (.load (some 3) (.t 27)),mv 29 6,rg 30 (.iad 3 (.t 29) (.c (.i .i64 3))),rg 31 (.load (some 3) (.t 30)),rg 32 (.fad 12 (.t 5)),rg 33 (.load none (.t 32)),rg 34 (.call 533 [(.t 33)]),rg 35 (.build [(.b false),(.sl [] .nl),(.sl [] .nl),(.b false),(.sl [] .nl),(.sl [] .nl),(.b false),(.sl [] .nl),(.sl [] .nl),(.b false),(.sl [] .nl),(.sl [] .nl),(.sl [] .nl),(.b false)] [(0,3,(.t 22)),(3,3,(.t 25)),(6,3,(.t 28)),(9,3,(.t 31)),(12,1,(.t 34)),(13,1,(.c (.b true)))]),rg 36 (.bsl 14 [(.b false),(.sl [] .nl),(.sl [] .nl),(.b false),(.sl [] .nl),(.sl [] .nl),(.b false),(.sl [] .nl),(.sl [] .nl),(.b false),(.sl [] .nl),(.sl [] .nl),(.sl [] .nl),(.b false)] 1 [(0,(.t 35))])]
 [rg 37 (.app 14 (.t 19) (.t 36)),mv 3 37]))
 .skip))))
 (.reg [rg 38 (.bin .add (.t 10) (.c (.i .i64 1))),mv 10 38]))))
 (.norm false [3,8,9,10]))
def b532:AX:=
 (.seq
 (.reg [rg 1 (.xop (.box 5) [(.t 0)]),rg 2 (.mov (.c (.sl [] .nl)))])
 (.seq
 (.note (.reg [rg 3 (.mov (.c (.sl [] .nl)))]) (.nil 3 14))
 (.seq
 (.seq
 (.reg [rg 7 (.fad 0 (.t 1)),rg 8 (.load none (.t 7)),rg 9 (.len (.t 8)),rg 10 (.mov (.c (.i .i64 0)))])
 (.lp 0 (.norm false [3,8,9,10]) l532_0 (.norm false [3])))
 (.seq
 (.reg [mv 39 3,mv 2 39])
 (.pre (.norm false [2]) .ret)))))
def b533:AX:=
 (.seq
 (.reg [rg 2 (.mov (.c (.sl [] .nl)))])
 (.seq
 (.reg [rg 3 (.call 205 [(.c (.i .i64 1))]),mv 4 0,rg 5 (.call 269 [(.t 3),(.t 4)]),mv 2 5])
 (.pre (.norm false [2]) .ret)))
def b549:AX:=
 (.seq
 (.reg [rg 1 (.xop (.box 14) [(.t 0)]),rg 2 (.mov (.c (.sl [] .nl)))])
 (.seq
 (.reg [rg 3 (.fad 0 (.t 1)),rg 4 (.load (some 3) (.t 3)),rg 5 (.fad 3 (.t 1)),rg 6 (.load (some 3) (.t 5)),rg 7 (.fad 6 (.t 1)),rg 8 (.load (some 3) (.t 7)),rg 9 (.fad 9 (.t 1)),rg 10 (.load (some 3) (.t 9)),rg 11 (.bsl 3 [(.b false),(.sl [] .nl),(.sl [] .nl)] 4 [(0,(.t 4)),(1,(.t 6)),(2,(.t 8)),(3,(.t 10))]),mv 2 11])
 (.pre (.norm false [2]) .ret)))
def b576:AX:=
 (.seq
 (.reg [rg 1 (.xop (.box 5) [(.t 0)]),rg 2 (.mov (.c (.b false)))])
 (.seq
 (.reg [rg 3 (.load (some 5) (.t 1)),rg 4 (.call 579 [(.t 3)]),rg 5 (.bin .eql (.t 4) (.c (.i .i64 0))),mv 2 5])
 (.pre (.norm false [2]) .ret)))
def b579:AX:=
 (.seq
 (.reg [rg 1 (.xop (.box 5) [(.t 0)]),rg 2 (.mov (.c (.i .i64 0)))])
 (.seq
 (.block 0
 (.seq
 (.reg [rg 4 (.load (some 5) (.t 1)),rg 5 (.call 580 [(.t 4)]),rg 6 (.un .not (.t 5)),mv 3 6])
 (.cond (.t 3)
 (.seq
 (.reg [rg 2 (.mov (.c (.i .i64 1)))])
 (.pre (.norm false [2]) .ret))
 (.seq
 (.reg [rg 8 (.load (some 5) (.t 1)),rg 9 (.call 581 [(.t 8)]),rg 10 (.un .not (.t 9)),mv 7 10])
 (.cond (.t 7)
 (.seq
 (.reg [rg 2 (.mov (.c (.i .i64 2)))])
 (.pre (.norm false [2]) .ret))
 (.seq
 (.reg [rg 12 (.fad 0 (.t 1)),rg 13 (.load none (.t 12)),rg 14 (.len (.t 13)),rg 15 (.bin .gtr (.t 14) (.c (.i .i64 200))),mv 11 15])
 (.cond (.t 11)
 (.seq
 (.reg [rg 2 (.mov (.c (.i .i64 3)))])
 (.pre (.norm false [2]) .ret))
 (.seq
 (.reg [rg 17 (.load (some 5) (.t 1)),rg 18 (.call 582 [(.t 17)]),rg 19 (.un .not (.t 18)),mv 16 19])
 (.cond (.t 16)
 (.seq
 (.reg [rg 2 (.mov (.c (.i .i64 4)))])
 (.pre (.norm false [2]) .ret))
 (.seq
 (.reg [rg 21 (.load (some 5) (.t 1)),rg 22 (.call 583 [(.t 21)]),rg 23 (.un .not (.t 22)),mv 20 23])
 (.cond (.t 20)
 (.seq
 (.reg [rg 2 (.mov (.c (.i .i64 5)))])
 (.pre (.norm false [2]) .ret))
 .skip)))))))))))
 (.seq
 (.reg [rg 2 (.mov (.c (.i .i64 0)))])
 (.pre (.norm false [2]) .ret))))
def l580_0:AX:=
 (.note
 (.seq
 (.reg [rg 9 (.bin .lss (.t 8) (.t 7))])
 (.seq
 (.cond (.t 9)
 .skip
 (.exit 0))
 (.seq
 (.block 1
 (.seq
 (.reg [rg 10 (.iad 14 (.t 6) (.t 8)),rg 11 (.load (some 14) (.t 10)),rg 4 (.alloc [(.b false),(.sl [] .nl),(.sl [] .nl),(.b false),(.sl [] .nl),(.sl [] .nl),(.b false),(.sl [] .nl),(.sl [] .nl),(.b false),(.sl [] .nl),(.sl [] .nl),(.sl [] .nl),(.b false)]),so (.store 14 (.t 4) (.t 11))])
 (.seq
 (.drawT [rg 12 (.load (some 14) (.t 4)),rg 13 (.call 549 [(.t 12)]),rg 14 (.fad 12 (.t 4)),rg 15 (.load none (.t 14))]
 [rg 16 (.bsl 1 [(.sl [] .nl)] 2 [(0,(.t 13)),(1,(.t 15))]),rg 17 (.call 584 [(.t 16)]),rg 18 (.un .not (.t 17))])
 (.cond (.t 18)
 (.seq
 (.reg [rg 2 (.mov (.c (.b false)))])
 (.pre (.norm false [2]) .ret))
 .skip))))
 (.reg [rg 19 (.bin .add (.t 8) (.c (.i .i64 1))),mv 8 19]))))
 (.norm false [1,6,7,8]))
def b580:AX:=
 (.seq
 (.reg [rg 1 (.xop (.box 5) [(.t 0)]),rg 2 (.mov (.c (.b false)))])
 (.seq
 (.seq
 (.reg [rg 5 (.fad 0 (.t 1)),rg 6 (.load none (.t 5)),rg 7 (.len (.t 6)),rg 8 (.mov (.c (.i .i64 0)))])
 (.lp 0 (.norm false [1,6,7,8]) l580_0 (.norm false [1])))
 (.seq
 (.reg [rg 20 (.fad 1 (.t 1)),rg 21 (.load (some 3) (.t 20)),rg 22 (.bsl 3 [(.b false),(.sl [] .nl),(.sl [] .nl)] 1 [(0,(.t 21))]),rg 23 (.fad 4 (.t 1)),rg 24 (.load none (.t 23)),rg 25 (.bsl 1 [(.sl [] .nl)] 2 [(0,(.t 22)),(1,(.t 24))]),rg 26 (.call 584 [(.t 25)]),mv 2 26])
 (.pre (.norm false [2]) .ret))))
def l581_0:AX:=
 (.note
 (.seq
 (.reg [rg 9 (.bin .lss (.t 8) (.t 7))])
 (.seq
 (.cond (.t 9)
 .skip
 (.exit 0))
 (.seq
 (.block 1
 (.seq
 (.reg [rg 10 (.iad 14 (.t 6) (.t 8)),rg 11 (.load (some 14) (.t 10)),rg 4 (.alloc [(.b false),(.sl [] .nl),(.sl [] .nl),(.b false),(.sl [] .nl),(.sl [] .nl),(.b false),(.sl [] .nl),(.sl [] .nl),(.b false),(.sl [] .nl),(.sl [] .nl),(.sl [] .nl),(.b false)]),so (.store 14 (.t 4) (.t 11))])
 (.seq
 (.reg [rg 12 (.fad 12 (.t 4)),rg 13 (.load none (.t 12)),rg 14 (.len (.t 13)),rg 15 (.fad 4 (.t 1)),rg 16 (.load none (.t 15)),rg 17 (.len (.t 16)),rg 18 (.bin .neq (.t 14) (.t 17))])
 (.cond (.t 18)
 (.seq
 (.reg [rg 2 (.mov (.c (.b false)))])
 (.pre (.norm false [2]) .ret))
 .skip))))
 (.reg [rg 19 (.bin .add (.t 8) (.c (.i .i64 1))),mv 8 19]))))
 (.norm false [1,6,7,8]))
def b581:AX:=
 (.seq
 (.reg [rg 1 (.xop (.box 5) [(.t 0)]),rg 2 (.mov (.c (.b false)))])
 (.seq
 (.seq
 (.reg [rg 5 (.fad 0 (.t 1)),rg 6 (.load none (.t 5)),rg 7 (.len (.t 6)),rg 8 (.mov (.c (.i .i64 0)))])
 (.lp 0 (.norm false [1,6,7,8]) l581_0 (.norm false [1])))
 (.seq
 (.reg [rg 20 (.fad 4 (.t 1)),rg 21 (.load none (.t 20)),rg 22 (.len (.t 21)),rg 23 (.bin .geq (.t 22) (.c (.i .i64 1))),mv 24 23,gd 25 24 true (.fad 4 (.t 1)),gd 26 24 true (.load none (.t 25)),gd 27 24 true (.len (.t 26)),gd 28 24 true (.bin .leq (.t 27) (.c (.i .i64 6))),rg 29 (.pick (.t 24) (.t 28) (.c (.b false))),mv 2 29])
 (.pre (.norm false [2]) .ret))))
def l582_0:AX:=
 (.note
 (.seq
 (.reg [rg 9 (.bin .lss (.t 8) (.t 7))])
 (.seq
 (.cond (.t 9)
 .skip
 (.exit 0))
 (.seq
 (.block 1
 (.seq
 (.reg [rg 10 (.iad 14 (.t 6) (.t 8)),rg 11 (.load (some 14) (.t 10)),rg 4 (.alloc [(.b false),(.sl [] .nl),(.sl [] .nl),(.b false),(.sl [] .nl),(.sl [] .nl),(.b false),(.sl [] .nl),(.sl [] .nl),(.b false),(.sl [] .nl),(.sl [] .nl),(.sl [] .nl),(.b false)]),so (.store 14 (.t 4) (.t 11))])
 (.seq
 (.reg [rg 12 (.fad 3 (.t 4)),rg 13 (.load (some 3) (.t 12)),rg 14 (.call 209 [(.t 13)]),rg 15 (.bin .leq (.t 14) (.c (.i .i64 0))),mv 16 15,gd 17 16 false (.fad 6 (.t 4)),gd 18 16 false (.load (some 3) (.t 17)),gd 19 16 false (.call 209 [(.t 18)]),gd 20 16 false (.bin .leq (.t 19) (.c (.i .i64 0))),rg 21 (.pick (.t 16) (.c (.b true)) (.t 20)),mv 22 21,gd 23 22 false (.fad 6 (.t 4)),gd 24 22 false (.load (some 3) (.t 23)),gd 25 22 false (.fad 3 (.t 4)),gd 26 22 false (.load (some 3) (.t 25)),gd 27 22 false (.call 211 [(.t 24),(.t 26)]),gd 28 22 false (.bin .gtr (.t 27) (.c (.i .i64 0))),rg 29 (.pick (.t 22) (.c (.b true)) (.t 28)),mv 30 29,gd 31 30 false (.fad 9 (.t 4)),gd 32 30 false (.load (some 3) (.t 31)),gd 33 30 false (.call 209 [(.t 32)]),gd 34 30 false (.bin .lss (.t 33) (.c (.i .i64 0))),rg 35 (.pick (.t 30) (.c (.b true)) (.t 34))])
 (.cond (.t 35)
 (.seq
 (.reg [rg 2 (.mov (.c (.b false)))])
 (.pre (.norm false [2]) .ret))
 .skip))))
 (.reg [rg 36 (.bin .add (.t 8) (.c (.i .i64 1))),mv 8 36]))))
 (.norm false [6,7,8]))
def b582:AX:=
 (.seq
 (.reg [rg 1 (.xop (.box 5) [(.t 0)]),rg 2 (.mov (.c (.b false)))])
 (.seq
 (.seq
 (.reg [rg 5 (.fad 0 (.t 1)),rg 6 (.load none (.t 5)),rg 7 (.len (.t 6)),rg 8 (.mov (.c (.i .i64 0)))])
 (.lp 0 (.norm false [6,7,8]) l582_0 (.norm false [])))
 (.seq
 (.reg [rg 2 (.mov (.c (.b true)))])
 (.pre (.norm false [2]) .ret))))
def l583_0:AX:=
 (.note
 (.seq
 (.reg [rg 11 (.bin .lss (.t 10) (.t 9))])
 (.seq
 (.cond (.t 11)
 .skip
 (.exit 0))
 (.seq
 (.block 1
 (.seq
 (.reg [mv 12 10,rg 13 (.iad 14 (.t 8) (.t 10)),rg 14 (.load (some 14) (.t 13)),rg 4 (.alloc [(.b false),(.sl [] .nl),(.sl [] .nl),(.b false),(.sl [] .nl),(.sl [] .nl),(.b false),(.sl [] .nl),(.sl [] .nl),(.b false),(.sl [] .nl),(.sl [] .nl),(.sl [] .nl),(.b false)]),mv 3 12,so (.store 14 (.t 4) (.t 14))])
 (.seq
 (.draw [⟨rg 15 (.fad 1 (.t 1)),0,1⟩,⟨rg 16 (.load (some 3) (.t 15)),0,1⟩,⟨rg 17 (.fad 4 (.t 1)),0,2⟩,⟨rg 18 (.load none (.t 17)),0,2⟩,⟨rg 5 (.alloc [(.b false),(.sl [] .nl),(.sl [] .nl)]),0,1⟩,⟨so (.store 3 (.t 5) (.t 16)),1,2⟩,⟨mv 6 18,2,2⟩])
 (.seq
 (.seq
 (.reg [mv 19 3,rg 20 (.bin .add (.t 19) (.c (.i .i64 1))),rg 21 (.fad 0 (.t 1)),rg 22 (.load none (.t 21)),rg 23 (.len (.t 22)),rg 24 (.bin .lss (.t 20) (.t 23))])
 (.cond (.t 24)
 (.draw [⟨rg 25 (.fad 0 (.t 1)),0,0⟩,⟨rg 26 (.load none (.t 25)),0,0⟩,⟨mv 27 3,0,0⟩,⟨rg 28 (.bin .add (.t 27) (.c (.i .i64 1))),0,0⟩,⟨rg 29 (.iad 14 (.t 26) (.t 28)),0,0⟩,⟨rg 30 (.fad 0 (.t 29)),0,0⟩,⟨rg 31 (.load (some 3) (.t 30)),0,0⟩,⟨rg 32 (.fad 0 (.t 1)),0,1⟩,⟨rg 33 (.load none (.t 32)),0,1⟩,⟨mv 34 3,0,1⟩,⟨rg 35 (.bin .add (.t 34) (.c (.i .i64 1))),0,1⟩,⟨rg 36 (.iad 14 (.t 33) (.t 35)),0,1⟩,⟨rg 37 (.fad 12 (.t 36)),0,1⟩,⟨rg 38 (.load none (.t 37)),0,1⟩,⟨so (.store 3 (.t 5) (.t 31)),0,1⟩,⟨mv 6 38,1,1⟩])
 .skip))
 (.seq
 (.reg [rg 39 (.load (some 14) (.t 4)),rg 40 (.load (some 3) (.t 5)),mv 41 6,rg 42 (.call 585 [(.t 39),(.t 40),(.t 41)]),rg 43 (.un .not (.t 42))])
 (.cond (.t 43)
 (.seq
 (.reg [rg 2 (.mov (.c (.b false)))])
 (.pre (.norm false [2]) .ret))
 .skip))))))
 (.reg [rg 44 (.bin .add (.t 10) (.c (.i .i64 1))),mv 10 44]))))
 (.norm false [1,8,9,10]))
def b583:AX:=
 (.seq
 (.reg [rg 1 (.xop (.box 5) [(.t 0)]),rg 2 (.mov (.c (.b false)))])
 (.seq
 (.seq
 (.reg [rg 7 (.fad 0 (.t 1)),rg 8 (.load none (.t 7)),rg 9 (.len (.t 8)),rg 10 (.mov (.c (.i .i64 0)))])
 (.lp 0 (.norm false [1,8,9,10]) l583_0 (.norm false [])))
 (.seq
 (.reg [rg 2 (.mov (.c (.b true)))])
 (.pre (.norm false [2]) .ret))))
def l584_0:AX:=
 (.note
 (.seq
 (.reg [rg 16 (.bin .lss (.t 15) (.t 14))])
 (.seq
 (.cond (.t 16)
 .skip
 (.exit 2))
 (.seq
 (.block 3
 (.seq
 (.reg [rg 17 (.iad 3 (.t 13) (.t 15)),rg 18 (.load (some 3) (.t 17)),rg 6 (.alloc [(.b false),(.sl [] .nl),(.sl [] .nl)]),so (.store 3 (.t 6) (.t 18))])
 (.seq
 (.reg [rg 19 (.load (some 3) (.t 6)),rg 20 (.call 208 [(.t 19)]),rg 21 (.un .not (.t 20))])
 (.cond (.t 21)
 (.seq
 (.reg [rg 2 (.mov (.c (.b false)))])
 (.pre (.norm false [2]) .ret))
 .skip))))
 (.reg [rg 22 (.bin .add (.t 15) (.c (.i .i64 1))),mv 15 22]))))
 (.norm false [7,8,9,13,14,15]))
def l584_1:AX:=
 (.note
 (.seq
 (.reg [rg 10 (.bin .lss (.t 9) (.t 8))])
 (.seq
 (.cond (.t 10)
 .skip
 (.exit 0))
 (.seq
 (.block 1
 (.seq
 (.reg [rg 11 (.iad 1 (.t 7) (.t 9)),rg 12 (.load none (.t 11)),mv 4 12])
 (.seq
 (.reg [mv 13 4,rg 14 (.len (.t 13)),rg 15 (.mov (.c (.i .i64 0)))])
 (.lp 2 (.norm false [7,8,9,13,14,15]) l584_0 (.norm false [7,8,9])))))
 (.reg [rg 23 (.bin .add (.t 9) (.c (.i .i64 1))),mv 9 23]))))
 (.norm false [7,8,9]))
def b584:AX:=
 (.seq
 (.reg [rg 2 (.mov (.c (.b false)))])
 (.seq
 (.seq
 (.reg [mv 7 0,rg 8 (.len (.t 7)),rg 9 (.mov (.c (.i .i64 0)))])
 (.lp 0 (.norm false [7,8,9]) l584_1 (.norm false [])))
 (.seq
 (.reg [rg 2 (.mov (.c (.b true)))])
 (.pre (.norm false [2]) .ret))))
def b585:AX:=
 (.seq
 (.reg [rg 3 (.xop (.box 14) [(.t 0)]),rg 4 (.xop (.box 3) [(.t 1)]),rg 6 (.mov (.c (.b false)))])
 (.seq
 (.seq
 (.reg [rg 7 (.fad 13 (.t 3)),rg 8 (.load none (.t 7))])
 (.cond (.t 8)
 (.seq
 (.drawT [rg 9 (.load (some 3) (.t 4)),rg 10 (.fad 0 (.t 3)),rg 11 (.load (some 3) (.t 10)),rg 12 (.fad 6 (.t 3)),rg 13 (.load (some 3) (.t 12)),rg 14 (.call 215 [(.t 11),(.t 13)])]
 [rg 15 (.call 212 [(.t 9),(.t 14)]),mv 6 15])
 (.pre (.norm false [6]) .ret))
 .skip))
 (.seq
 (.reg [rg 16 (.load (some 3) (.t 4)),rg 17 (.fad 0 (.t 3)),rg 18 (.load (some 3) (.t 17)),rg 19 (.call 212 [(.t 16),(.t 18)]),mv 20 19,gd 21 20 true (.mov (.t 2)),gd 22 20 true (.fad 12 (.t 3)),gd 23 20 true (.load none (.t 22)),gd 24 20 true (.call 265 [(.t 21),(.t 23)]),rg 25 (.pick (.t 20) (.t 24) (.c (.b false))),mv 6 25])
 (.pre (.norm false [6]) .ret))))
abbrev row513:AFx:=⟨1,38,[.t 2,.t 3],b513,none,false⟩
abbrev row532:AFx:=⟨1,40,[.t 2],b532,none,false⟩
abbrev row533:AFx:=⟨1,6,[.t 2],b533,none,false⟩
abbrev row549:AFx:=⟨1,12,[.t 2],b549,none,false⟩
abbrev row576:AFx:=⟨1,6,[.t 2],b576,none,false⟩
abbrev row579:AFx:=⟨1,24,[.t 2],b579,none,false⟩
abbrev row580:AFx:=⟨1,27,[.t 2],b580,none,false⟩
abbrev row581:AFx:=⟨1,30,[.t 2],b581,none,false⟩
abbrev row582:AFx:=⟨1,37,[.t 2],b582,none,false⟩
abbrev row583:AFx:=⟨1,45,[.t 2],b583,none,false⟩
abbrev row584:AFx:=⟨1,24,[.t 2],b584,none,false⟩
abbrev row585:AFx:=⟨3,26,[.t 6],b585,none,false⟩
class Zar (T:Tbl):Prop where
 h513:Tr T 513=some row513
 h532:Tr T 532=some row532
 h533:Tr T 533=some row533
 h549:Tr T 549=some row549
 h576:Tr T 576=some row576
 h579:Tr T 579=some row579
 h580:Tr T 580=some row580
 h581:Tr T 581=some row581
 h582:Tr T 582=some row582
 h583:Tr T 583=some row583
 h584:Tr T 584=some row584
 h585:Tr T 585=some row585
attribute [simp] Zar.h513 Zar.h532 Zar.h533 Zar.h549 Zar.h576 Zar.h579 Zar.h580 Zar.h581 Zar.h582 Zar.h583 Zar.h584 Zar.h585
end
section
def l519_0:AX:=
 (.note
 (.seq
 (.reg [rg 10 (.bin .lss (.t 9) (.t 8))])
 (.seq
 (.cond (.t 10)
 .skip
 (.exit 0))
 (.seq
 (.block 1
 (.seq
 (.reg [rg 11 (.iad 14 (.t 7) (.t 9)),rg 12 (.load (some 14) (.t 11)),rg 5 (.alloc [(.b false),(.sl [] .nl),(.sl [] .nl),(.b false),(.sl [] .nl),(.sl [] .nl),(.b false),(.sl [] .nl),(.sl [] .nl),(.b false),(.sl [] .nl),(.sl [] .nl),(.sl [] .nl),(.b false)]),so (.store 14 (.t 5) (.t 12))])
 (.reg [mv 13 3,rg 14 (.fad 6 (.t 5)),rg 15 (.load (some 3) (.t 14)),rg 16 (.bsl 3 [(.b false),(.sl [] .nl),(.sl [] .nl)] 1 [(0,(.t 15))]),rg 17 (.app 3 (.t 13) (.t 16)),mv 3 17])))
 (.reg [rg 18 (.bin .add (.t 9) (.c (.i .i64 1))),mv 9 18]))))
 (.norm false [3,7,8,9]))
def b519:AX:=
 (.seq
 (.reg [rg 1 (.xop (.box 5) [(.t 0)]),rg 2 (.mov (.c (.sl [] .nl)))])
 (.seq
 (.note (.reg [rg 3 (.mov (.c (.sl [] .nl)))]) (.nil 3 3))
 (.seq
 (.seq
 (.reg [rg 6 (.load (some 5) (.t 1)),rg 7 (.call 532 [(.t 6)]),rg 8 (.len (.t 7)),rg 9 (.mov (.c (.i .i64 0)))])
 (.lp 0 (.norm false [3,7,8,9]) l519_0 (.norm false [3])))
 (.seq
 (.reg [mv 19 3,mv 2 19])
 (.pre (.norm false [2]) .ret)))))
abbrev row519:AFx:=⟨1,20,[.t 2],b519,none,false⟩
class Zfy (T:Tbl):Prop where
 h519:Tr T 519=some row519
attribute [simp] Zfy.h519
end
section
def l687_0:AX:=
 (.note
 (.seq
 (.reg [rg 34 (.bin .lss (.t 33) (.t 32))])
 (.seq
 (.cond (.t 34)
 .skip
 (.exit 0))
 (.seq
 (.block 1
 (.seq
 (.reg [mv 35 33,rg 36 (.iad 14 (.t 31) (.t 33)),rg 37 (.load (some 14) (.t 36)),rg 6 (.alloc [(.b false),(.sl [] .nl),(.sl [] .nl),(.b false),(.sl [] .nl),(.sl [] .nl),(.b false),(.sl [] .nl),(.sl [] .nl),(.b false),(.sl [] .nl),(.sl [] .nl),(.sl [] .nl),(.b false)]),mv 5 35,so (.store 14 (.t 6) (.t 37))])
 (.seq
 (.drawT [rg 38 (.load (some 14) (.t 6)),rg 39 (.fad 0 (.t 3)),rg 40 (.load none (.t 39)),mv 41 5,rg 42 (.iad 14 (.t 40) (.t 41)),rg 43 (.load (some 14) (.t 42))]
 [rg 44 (.call 694 [(.t 38),(.t 43)]),rg 45 (.un .not (.t 44))])
 (.cond (.t 45)
 (.seq
 (.reg [rg 4 (.mov (.c (.b false)))])
 (.pre (.norm false [4]) .ret))
 .skip))))
 (.reg [rg 46 (.bin .add (.t 33) (.c (.i .i64 1))),mv 33 46]))))
 (.norm false [3,31,32,33]))
def b687:AX:=
 (.seq
 (.reg [rg 2 (.xop (.box 5) [(.t 0)]),rg 3 (.xop (.box 5) [(.t 1)]),rg 4 (.mov (.c (.b false)))])
 (.seq
 (.seq
 (.reg [rg 7 (.fad 0 (.t 2)),rg 8 (.load none (.t 7)),rg 9 (.len (.t 8)),rg 10 (.fad 0 (.t 3)),rg 11 (.load none (.t 10)),rg 12 (.len (.t 11)),rg 13 (.bin .neq (.t 9) (.t 12)),mv 14 13,gd 15 14 false (.fad 1 (.t 2)),gd 16 14 false (.load (some 3) (.t 15)),gd 17 14 false (.fad 1 (.t 3)),gd 18 14 false (.load (some 3) (.t 17)),gd 19 14 false (.call 212 [(.t 16),(.t 18)]),gd 20 14 false (.un .not (.t 19)),rg 21 (.pick (.t 14) (.c (.b true)) (.t 20)),mv 22 21,gd 23 22 false (.fad 4 (.t 2)),gd 24 22 false (.load none (.t 23)),gd 25 22 false (.fad 4 (.t 3)),gd 26 22 false (.load none (.t 25)),gd 27 22 false (.call 265 [(.t 24),(.t 26)]),gd 28 22 false (.un .not (.t 27)),rg 29 (.pick (.t 22) (.c (.b true)) (.t 28))])
 (.cond (.t 29)
 (.seq
 (.reg [rg 4 (.mov (.c (.b false)))])
 (.pre (.norm false [4]) .ret))
 .skip))
 (.seq
 (.seq
 (.reg [rg 30 (.fad 0 (.t 2)),rg 31 (.load none (.t 30)),rg 32 (.len (.t 31)),rg 33 (.mov (.c (.i .i64 0)))])
 (.lp 0 (.norm false [3,31,32,33]) l687_0 (.norm false [])))
 (.seq
 (.reg [rg 4 (.mov (.c (.b true)))])
 (.pre (.norm false [4]) .ret)))))
def b694:AX:=
 (.seq
 (.reg [rg 2 (.xop (.box 14) [(.t 0)]),rg 3 (.xop (.box 14) [(.t 1)]),rg 4 (.mov (.c (.b false)))])
 (.seq
 (.drawT [rg 5 (.fad 13 (.t 2)),rg 6 (.load none (.t 5)),rg 7 (.fad 13 (.t 3)),rg 8 (.load none (.t 7)),rg 9 (.eqb false (.t 6) (.t 8)),mv 10 9,gd 11 10 true (.load (some 14) (.t 2)),gd 12 10 true (.call 549 [(.t 11)]),gd 13 10 true (.load (some 14) (.t 3)),gd 14 10 true (.call 549 [(.t 13)]),gd 15 10 true (.call 265 [(.t 12),(.t 14)]),rg 16 (.pick (.t 10) (.t 15) (.c (.b false))),mv 17 16,gd 18 17 true (.fad 12 (.t 2)),gd 19 17 true (.load none (.t 18)),gd 20 17 true (.fad 12 (.t 3)),gd 21 17 true (.load none (.t 20))]
 [gd 22 17 true (.call 265 [(.t 19),(.t 21)]),rg 23 (.pick (.t 17) (.t 22) (.c (.b false))),mv 4 23])
 (.pre (.norm false [4]) .ret)))
abbrev row687:AFx:=⟨2,47,[.t 4],b687,none,false⟩
abbrev row694:AFx:=⟨2,24,[.t 4],b694,none,false⟩
class Ze9 (T:Tbl):Prop where
 h687:Tr T 687=some row687
 h694:Tr T 694=some row694
attribute [simp] Ze9.h687 Ze9.h694
end
section
def b693:AX:=
 (.seq
 (.reg [rg 2 (.alloc [(.sl [] .nl),(.b false),(.sl [] .nl),(.sl [] .nl),(.sl [] .nl)]),rg 3 (.alloc [(.i .i64 0),(.i .i64 0),(.i .i64 0),(.i .i64 0)])])
 (.seq
 (.reg [mv 8 0,rg 9 (.call 695 [(.t 8)]),mv 7 9,rg 10 (.ext (.t 7) 0),rg 11 (.ext (.t 7) 1),rg 4 (.alloc [(.sl [] .nl),(.b false),(.sl [] .nl),(.sl [] .nl),(.sl [] .nl)]),rg 5 (.alloc [(.i .i64 0),(.i .i64 0),(.i .i64 0),(.i .i64 0)]),so (.store 5 (.t 4) (.t 10)),so (.store 4 (.t 5) (.t 11))])
 (.seq
 (.seq
 (.reg [rg 12 (.load (some 4) (.t 5)),rg 13 (.build [(.i .i64 0),(.i .i64 0),(.i .i64 0),(.i .i64 0)] []),rg 14 (.eqs true [(0,.int),(1,.int),(2,.int),(3,.int)] (.t 12) (.t 13))])
 (.cond (.t 14)
 (.seq
 (.draw [⟨rg 15 (.build [(.sl [] .nl),(.b false),(.sl [] .nl),(.sl [] .nl),(.sl [] .nl)] []),0,0⟩,⟨rg 16 (.load (some 4) (.t 5)),0,1⟩,⟨so (.store 5 (.t 2) (.t 15)),0,1⟩,⟨so (.store 4 (.t 3) (.t 16)),1,2⟩])
 (.pre (.norm false [2,3]) .ret))
 .skip))
 (.seq
 (.seq
 (.reg [rg 17 (.load (some 5) (.t 4)),rg 18 (.call 579 [(.t 17)]),mv 6 18])
 (.seq
 (.reg [mv 19 6,rg 20 (.bin .neq (.t 19) (.c (.i .i64 0)))])
 (.cond (.t 20)
 (.seq
 (.reg [rg 21 (.build [(.sl [] .nl),(.b false),(.sl [] .nl),(.sl [] .nl),(.sl [] .nl)] []),mv 22 6,rg 23 (.build [(.i .i64 0),(.i .i64 0),(.i .i64 0),(.i .i64 0)] [(0,1,(.c (.i .i64 2))),(3,1,(.t 22))]),so (.store 5 (.t 2) (.t 21)),so (.store 4 (.t 3) (.t 23))])
 (.pre (.norm false [2,3]) .ret))
 .skip)))
 (.seq
 (.draw [⟨rg 24 (.load (some 5) (.t 4)),0,0⟩,⟨rg 25 (.load (some 4) (.t 5)),0,1⟩,⟨so (.store 5 (.t 2) (.t 24)),0,1⟩,⟨so (.store 4 (.t 3) (.t 25)),1,2⟩])
 (.pre (.norm false [2,3]) .ret))))))
def l695_0:AX:=
 (.note
 (.seq
 (.reg [rg 17 (.bin .lss (.t 16) (.t 15))])
 (.seq
 (.cond (.t 17)
 .skip
 (.exit 0))
 (.seq
 (.block 1
 (.seq
 (.reg [rg 18 (.iad 1 (.t 14) (.t 16)),rg 19 (.load none (.t 18)),mv 8 19])
 (.seq
 (.reg [mv 20 8,rg 21 (.call 696 [(.t 20)]),mv 9 21])
 (.seq
 (.seq
 (.reg [mv 22 6,mv 23 22,gd 24 23 false (.mov (.t 9)),gd 25 23 false (.bin .eql (.t 24) (.c (.i .i64 0))),rg 26 (.pick (.t 23) (.c (.b true)) (.t 25))])
 (.cond (.t 26)
 (.seq
 (.reg [rg 27 (.load (some 5) (.t 4)),mv 28 5,rg 29 (.build [(.i .i64 0),(.i .i64 0),(.i .i64 0),(.i .i64 0)] [(0,1,(.c (.i .i64 1))),(3,1,(.t 28))]),so (.store 5 (.t 2) (.t 27)),so (.store 4 (.t 3) (.t 29))])
 (.pre (.norm false [2,3]) .ret))
 .skip))
 (.seq
 (.reg [mv 31 8,rg 32 (.slstr (.t 31) (some (.c (.i .i64 2))) none),mv 33 5,rg 34 (.bin .add (.t 33) (.c (.i .i64 2))),mv 35 9,rg 36 (.call 697 [(.t 32),(.t 34),(.t 35)]),mv 30 36,rg 37 (.ext (.t 30) 0),rg 38 (.ext (.t 30) 1),rg 39 (.ext (.t 30) 2),rg 12 (.alloc [(.i .i64 0),(.i .i64 0),(.i .i64 0),(.i .i64 0)]),mv 10 37,mv 11 38,so (.store 4 (.t 12) (.t 39))])
 (.seq
 (.seq
 (.reg [rg 40 (.load (some 4) (.t 12)),rg 41 (.build [(.i .i64 0),(.i .i64 0),(.i .i64 0),(.i .i64 0)] []),rg 42 (.eqs true [(0,.int),(1,.int),(2,.int),(3,.int)] (.t 40) (.t 41))])
 (.cond (.t 42)
 (.seq
 (.draw [⟨rg 43 (.load (some 5) (.t 4)),0,0⟩,⟨rg 44 (.load (some 4) (.t 12)),0,1⟩,⟨so (.store 5 (.t 2) (.t 43)),0,1⟩,⟨so (.store 4 (.t 3) (.t 44)),1,2⟩])
 (.pre (.norm false [2,3]) .ret))
 .skip))
 (.seq
 (.seq
 (.reg [mv 45 9,rg 46 (.bin .eql (.t 45) (.c (.i .i64 1)))])
 (.cond (.t 46)
 (.reg [mv 47 10,rg 48 (.iad 3 (.t 47) (.c (.i .i64 0))),rg 49 (.load (some 3) (.t 48)),mv 50 11,rg 51 (.fad 1 (.t 4)),so (.store 3 (.t 51) (.t 49)),rg 52 (.fad 4 (.t 4)),so (.store 1 (.t 52) (.t 50)),rg 6 (.mov (.c (.b true)))])
 (.drawT [rg 53 (.fad 0 (.t 4)),rg 54 (.load none (.t 53)),mv 55 10,rg 56 (.iad 3 (.t 55) (.c (.i .i64 0))),rg 57 (.load (some 3) (.t 56)),mv 58 10,rg 59 (.iad 3 (.t 58) (.c (.i .i64 1))),rg 60 (.load (some 3) (.t 59)),mv 61 10,rg 62 (.iad 3 (.t 61) (.c (.i .i64 2))),rg 63 (.load (some 3) (.t 62)),mv 64 10,rg 65 (.iad 3 (.t 64) (.c (.i .i64 3))),rg 66 (.load (some 3) (.t 65)),mv 67 11,mv 68 8,rg 69 (.ixs (.t 68) (.c (.i .i64 0))),rg 70 (.bin .eql (.t 69) (.c (u8 43))),rg 71 (.build [(.b false),(.sl [] .nl),(.sl [] .nl),(.b false),(.sl [] .nl),(.sl [] .nl),(.b false),(.sl [] .nl),(.sl [] .nl),(.b false),(.sl [] .nl),(.sl [] .nl),(.sl [] .nl),(.b false)] [(0,3,(.t 57)),(3,3,(.t 60)),(6,3,(.t 63)),(9,3,(.t 66)),(12,1,(.t 67)),(13,1,(.t 70))]),rg 72 (.bsl 14 [(.b false),(.sl [] .nl),(.sl [] .nl),(.b false),(.sl [] .nl),(.sl [] .nl),(.b false),(.sl [] .nl),(.sl [] .nl),(.b false),(.sl [] .nl),(.sl [] .nl),(.sl [] .nl),(.b false)] 1 [(0,(.t 71))])]
 [rg 73 (.app 14 (.t 54) (.t 72)),rg 74 (.fad 0 (.t 4)),so (.store 1 (.t 74) (.t 73))])))
 (.reg [mv 75 5,mv 76 8,rg 77 (.lens (.t 76)),rg 78 (.bin .add (.t 77) (.c (.i .i64 1))),rg 79 (.bin .add (.t 75) (.t 78)),mv 5 79]))))))))
 (.reg [rg 80 (.bin .add (.t 16) (.c (.i .i64 1))),mv 16 80]))))
 (.norm false [0,2,3,4,5,6,14,15,16]))
def b695:AX:=
 (.seq
 (.reg [rg 2 (.alloc [(.sl [] .nl),(.b false),(.sl [] .nl),(.sl [] .nl),(.sl [] .nl)]),rg 3 (.alloc [(.i .i64 0),(.i .i64 0),(.i .i64 0),(.i .i64 0)])])
 (.seq
 (.reg [rg 4 (.alloc [(.sl [] .nl),(.b false),(.sl [] .nl),(.sl [] .nl),(.sl [] .nl)])])
 (.seq
 (.reg [rg 5 (.mov (.c (.i .i64 0))),rg 6 (.mov (.c (.b false)))])
 (.seq
 (.seq
 (.reg [mv 13 0,rg 14 (.call 346 [(.t 13),(.c (.s [10]))]),rg 15 (.len (.t 14)),rg 16 (.mov (.c (.i .i64 0)))])
 (.pre (.fld 4 0 0 14) (.lp 0 (.norm false [0,2,3,4,5,6,14,15,16]) l695_0 (.norm false [0,2,3,4,6]))))
 (.seq
 (.seq
 (.reg [mv 81 6,rg 82 (.un .not (.t 81))])
 (.cond (.t 82)
 (.seq
 (.reg [rg 83 (.load (some 5) (.t 4)),mv 84 0,rg 85 (.lens (.t 84)),rg 86 (.build [(.i .i64 0),(.i .i64 0),(.i .i64 0),(.i .i64 0)] [(0,1,(.c (.i .i64 1))),(3,1,(.t 85))]),so (.store 5 (.t 2) (.t 83)),so (.store 4 (.t 3) (.t 86))])
 (.pre (.norm false [2,3]) .ret))
 .skip))
 (.seq
 (.reg [rg 87 (.load (some 5) (.t 4)),rg 88 (.build [(.i .i64 0),(.i .i64 0),(.i .i64 0),(.i .i64 0)] []),so (.store 5 (.t 2) (.t 87)),so (.store 4 (.t 3) (.t 88))])
 (.pre (.norm false [2,3]) .ret)))))))
def b696:AX:=
 (.seq
 (.reg [rg 2 (.mov (.c (.i .i64 0)))])
 (.seq
 (.reg [rg 3 (.mov (.c (.i .i64 0)))])
 (.seq
 (.block 0
 (.seq
 (.reg [mv 5 0,rg 6 (.call 345 [(.t 5),(.c (.s [43,32]))]),mv 7 6,gd 8 7 false (.mov (.t 0)),gd 9 7 false (.call 345 [(.t 8),(.c (.s [45,32]))]),rg 10 (.pick (.t 7) (.c (.b true)) (.t 9)),mv 4 10])
 (.cond (.t 4)
 (.reg [rg 3 (.mov (.c (.i .i64 4)))])
 (.seq
 (.reg [mv 12 0,rg 13 (.call 345 [(.t 12),(.c (.s [61,32]))]),mv 11 13])
 (.cond (.t 11)
 (.reg [rg 3 (.mov (.c (.i .i64 1)))])
 (.seq
 (.reg [rg 2 (.mov (.c (.i .i64 0)))])
 (.pre (.norm false [2]) .ret)))))))
 (.seq
 (.seq
 (.reg [mv 14 0,rg 15 (.slstr (.t 14) (some (.c (.i .i64 2))) none),rg 16 (.call 361 [(.t 15),(.c (.s [32]))]),mv 17 3,rg 18 (.bin .neq (.t 16) (.t 17))])
 (.cond (.t 18)
 (.seq
 (.reg [rg 2 (.mov (.c (.i .i64 0)))])
 (.pre (.norm false [2]) .ret))
 .skip))
 (.seq
 (.reg [mv 19 3,mv 2 19])
 (.pre (.norm false [2]) .ret))))))
def l697_0:AX:=
 (.note
 (.seq
 (.reg [rg 26 (.bin .lss (.t 25) (.t 24))])
 (.seq
 (.cond (.t 26)
 .skip
 (.exit 0))
 (.seq
 (.block 1
 (.seq
 (.reg [rg 27 (.iad 1 (.t 23) (.t 25)),rg 28 (.load none (.t 27)),mv 12 28])
 (.seq
 (.reg [mv 30 12,rg 31 (.call 256 [(.t 30)]),mv 29 31,rg 32 (.ext (.t 29) 0),rg 33 (.ext (.t 29) 1),rg 13 (.alloc [(.b false),(.sl [] .nl),(.sl [] .nl)]),rg 14 (.alloc [(.i .i64 0),(.i .i64 0),(.i .i64 0),(.i .i64 0)]),so (.store 3 (.t 13) (.t 32)),so (.store 4 (.t 14) (.t 33))])
 (.seq
 (.seq
 (.reg [rg 34 (.load (some 4) (.t 14)),rg 35 (.build [(.i .i64 0),(.i .i64 0),(.i .i64 0),(.i .i64 0)] []),rg 36 (.eqs true [(0,.int),(1,.int),(2,.int),(3,.int)] (.t 34) (.t 35))])
 (.cond (.t 36)
 (.seq
 (.reg [rg 37 (.fad 3 (.t 14)),rg 38 (.load none (.t 37)),mv 39 1,rg 40 (.bin .add (.t 38) (.t 39)),rg 41 (.fad 3 (.t 14)),so (.store 1 (.t 41) (.t 40))])
 (.seq
 (.drawT [rg 42 (.load (some 4) (.t 14)),rg 6 (.mov (.c (.sl [] .nl))),rg 7 (.mov (.c (.sl [] .nl)))]
 [so (.store 4 (.t 8) (.t 42))])
 (.pre (.norm false [6,7,8]) .ret)))
 .skip))
 (.seq
 (.reg [mv 43 10,rg 44 (.load (some 3) (.t 13)),rg 45 (.bsl 3 [(.b false),(.sl [] .nl),(.sl [] .nl)] 1 [(0,(.t 44))]),rg 46 (.app 3 (.t 43) (.t 45)),mv 10 46])
 (.reg [mv 47 1,mv 48 12,rg 49 (.lens (.t 48)),rg 50 (.bin .add (.t 49) (.c (.i .i64 1))),rg 51 (.bin .add (.t 47) (.t 50)),mv 1 51]))))))
 (.reg [rg 52 (.bin .add (.t 25) (.c (.i .i64 1))),mv 25 52]))))
 (.norm false [1,2,8,9,10,23,24,25]))
def b697:AX:=
 (.seq
 (.reg [rg 6 (.mov (.c (.sl [] .nl))),rg 7 (.mov (.c (.sl [] .nl))),rg 8 (.alloc [(.i .i64 0),(.i .i64 0),(.i .i64 0),(.i .i64 0)])])
 (.seq
 (.reg [mv 17 0,mv 18 2,rg 19 (.bin .add (.t 18) (.c (.i .i64 1))),rg 20 (.call 698 [(.t 17),(.c (.s [32])),(.t 19)]),mv 9 20])
 (.seq
 (.note (.reg [rg 10 (.mov (.c (.sl [] .nl)))]) (.nil 10 3))
 (.seq
 (.seq
 (.reg [mv 21 9,mv 22 2,rg 23 (.slc 1 (.t 21) none (some (.t 22)) none),rg 24 (.len (.t 23)),rg 25 (.mov (.c (.i .i64 0)))])
 (.lp 0 (.norm false [1,2,8,9,10,23,24,25]) l697_0 (.norm false [1,2,8,9,10])))
 (.seq
 (.reg [mv 54 9,mv 55 2,rg 56 (.iad 1 (.t 54) (.t 55)),rg 57 (.load none (.t 56)),rg 58 (.call 275 [(.t 57)]),mv 53 58,rg 59 (.ext (.t 53) 0),rg 60 (.ext (.t 53) 1),rg 16 (.alloc [(.i .i64 0),(.i .i64 0),(.i .i64 0),(.i .i64 0)]),mv 15 59,so (.store 4 (.t 16) (.t 60))])
 (.seq
 (.seq
 (.reg [rg 61 (.load (some 4) (.t 16)),rg 62 (.build [(.i .i64 0),(.i .i64 0),(.i .i64 0),(.i .i64 0)] []),rg 63 (.eqs true [(0,.int),(1,.int),(2,.int),(3,.int)] (.t 61) (.t 62))])
 (.cond (.t 63)
 (.reg [rg 64 (.fad 3 (.t 16)),rg 65 (.load none (.t 64)),mv 66 1,rg 67 (.bin .add (.t 65) (.t 66)),rg 68 (.fad 3 (.t 16)),so (.store 1 (.t 68) (.t 67))])
 .skip))
 (.seq
 (.drawT [mv 69 10,mv 70 15,rg 71 (.load (some 4) (.t 16)),mv 6 69,mv 7 70]
 [so (.store 4 (.t 8) (.t 71))])
 (.pre (.norm false [6,7,8]) .ret))))))))
def b698:AX:=
 (.seq
 (.reg [rg 6 (.mov (.c (.sl [] .nl)))])
 (.seq
 (.reg [mv 7 0,mv 8 1,mv 9 2,rg 10 (.call 354 [(.t 7),(.t 8),(.c (.i .i64 0)),(.t 9)]),mv 6 10])
 (.pre (.norm false [6]) .ret)))
abbrev row693:AFx:=⟨1,26,[.cell 2 (some 5),.cell 3 (some 4)],b693,none,false⟩
abbrev row695:AFx:=⟨1,89,[.cell 2 (some 5),.cell 3 (some 4)],b695,none,false⟩
abbrev row696:AFx:=⟨1,20,[.t 2],b696,none,false⟩
abbrev row697:AFx:=⟨3,72,[.t 6,.t 7,.cell 8 (some 4)],b697,none,false⟩
abbrev row698:AFx:=⟨3,11,[.t 6],b698,none,false⟩
class Zbi (T:Tbl):Prop where
 h693:Tr T 693=some row693
 h695:Tr T 695=some row695
 h696:Tr T 696=some row696
 h697:Tr T 697=some row697
 h698:Tr T 698=some row698
attribute [simp] Zbi.h693 Zbi.h695 Zbi.h696 Zbi.h697 Zbi.h698
end
class Zk8 (T:Tbl):Prop where
class Zm5 (T:Tbl):Prop where
class Zj9 (T:Tbl):Prop where
section
def l497_0:AX:=
 (.note
 (.seq
 (.seq
 (.reg [mv 25 7,rg 26 (.fad 0 (.t 3)),rg 27 (.load none (.t 26)),rg 28 (.len (.t 27)),rg 29 (.bin .lss (.t 25) (.t 28))])
 (.cond (.t 29)
 .skip
 (.exit 0)))
 (.seq
 (.block 1
 (.seq
 (.reg [rg 32 (.fad 0 (.t 3)),rg 33 (.load none (.t 32)),mv 34 7,rg 35 (.iad 14 (.t 33) (.t 34)),rg 36 (.load (some 14) (.t 35)),rg 37 (.call 516 [(.t 36)]),mv 38 2,rg 39 (.call 286 [(.t 37),(.c (.i .i64 4)),(.t 38)]),mv 40 39,gd 41 40 false (.fad 0 (.t 3)),gd 42 40 false (.load none (.t 41)),gd 43 40 false (.mov (.t 7)),gd 44 40 false (.iad 14 (.t 42) (.t 43)),gd 45 40 false (.fad 12 (.t 44)),gd 46 40 false (.load none (.t 45)),gd 47 40 false (.mov (.t 2)),gd 48 40 false (.call 286 [(.t 46),(.c (.i .i64 8)),(.t 47)]),rg 49 (.pick (.t 40) (.c (.b true)) (.t 48))])
 (.cond (.t 49)
 (.seq
 (.reg [rg 6 (.mov (.c (.b true)))])
 (.pre (.norm false [6]) .ret))
 .skip)))
 (.reg [mv 30 7,rg 31 (.bin .add (.t 30) (.c (.i .i64 1))),mv 7 31])))
 (.norm false [2,3,7]))
def b497:AX:=
 (.seq
 (.reg [rg 3 (.xop (.box 5) [(.t 0)]),rg 6 (.mov (.c (.b false)))])
 (.seq
 (.seq
 (.reg [rg 8 (.fad 0 (.t 3)),rg 9 (.load none (.t 8)),rg 10 (.len (.t 9)),mv 11 1,rg 12 (.bin .gtr (.t 10) (.t 11)),mv 13 12,gd 14 13 false (.fad 1 (.t 3)),gd 15 13 false (.load (some 3) (.t 14)),gd 16 13 false (.mov (.t 2)),gd 17 13 false (.call 247 [(.t 15),(.t 16)]),rg 18 (.pick (.t 13) (.c (.b true)) (.t 17)),mv 19 18,gd 20 19 false (.fad 4 (.t 3)),gd 21 19 false (.load none (.t 20)),gd 22 19 false (.mov (.t 2)),gd 23 19 false (.call 286 [(.t 21),(.c (.i .i64 8)),(.t 22)]),rg 24 (.pick (.t 19) (.c (.b true)) (.t 23))])
 (.cond (.t 24)
 (.seq
 (.reg [rg 6 (.mov (.c (.b true)))])
 (.pre (.norm false [6]) .ret))
 .skip))
 (.seq
 (.seq
 (.reg [rg 7 (.mov (.c (.i .i64 0)))])
 (.lp 0 (.norm false [2,3,7]) l497_0 (.norm false [])))
 (.seq
 (.reg [rg 6 (.mov (.c (.b false)))])
 (.pre (.norm false [6]) .ret)))))
def b516:AX:=
 (.seq
 (.reg [rg 1 (.xop (.box 14) [(.t 0)]),rg 2 (.mov (.c (.sl [] .nl)))])
 (.seq
 (.reg [rg 3 (.fad 0 (.t 1)),rg 4 (.load (some 3) (.t 3)),rg 5 (.fad 3 (.t 1)),rg 6 (.load (some 3) (.t 5)),rg 7 (.fad 6 (.t 1)),rg 8 (.load (some 3) (.t 7)),rg 9 (.fad 9 (.t 1)),rg 10 (.load (some 3) (.t 9)),rg 11 (.bsl 3 [(.b false),(.sl [] .nl),(.sl [] .nl)] 4 [(0,(.t 4)),(1,(.t 6)),(2,(.t 8)),(3,(.t 10))]),mv 2 11])
 (.pre (.norm false [2]) .ret)))
abbrev row497:AFx:=⟨3,50,[.t 6],b497,none,false⟩
abbrev row516:AFx:=⟨1,12,[.t 2],b516,none,false⟩
class Zck (T:Tbl):Prop where
 h497:Tr T 497=some row497
 h516:Tr T 516=some row516
attribute [simp] Zck.h497 Zck.h516
end
section
def l500_0:AX:=
 (.note
 (.seq
 (.seq
 (.reg [mv 13 4,rg 14 (.fad 0 (.t 1)),rg 15 (.load none (.t 14)),rg 16 (.len (.t 15)),rg 17 (.bin .lss (.t 13) (.t 16))])
 (.cond (.t 17)
 .skip
 (.exit 0)))
 (.seq
 (.block 1
 (.seq
 (.reg [rg 20 (.fad 0 (.t 1)),rg 21 (.load none (.t 20)),mv 22 4,rg 23 (.iad 14 (.t 21) (.t 22)),rg 24 (.load (some 14) (.t 23)),rg 5 (.alloc [(.b false),(.sl [] .nl),(.sl [] .nl),(.b false),(.sl [] .nl),(.sl [] .nl),(.b false),(.sl [] .nl),(.sl [] .nl),(.b false),(.sl [] .nl),(.sl [] .nl),(.sl [] .nl),(.b false)]),so (.store 14 (.t 5) (.t 24))])
 (.drawT [rg 25 (.fad 0 (.t 3)),rg 26 (.load none (.t 25)),rg 27 (.fad 0 (.t 5)),rg 28 (.load (some 3) (.t 27)),rg 29 (.call 248 [(.t 28)]),rg 30 (.fad 3 (.t 5)),rg 31 (.load (some 3) (.t 30)),rg 32 (.call 248 [(.t 31)]),rg 33 (.fad 6 (.t 5)),rg 34 (.load (some 3) (.t 33)),rg 35 (.call 248 [(.t 34)]),rg 36 (.fad 9 (.t 5)),rg 37 (.load (some 3) (.t 36)),rg 38 (.call 248 [(.t 37)]),rg 39 (.fad 12 (.t 5)),rg 40 (.load none (.t 39)),rg 41 (.call 287 [(.t 40)]),rg 42 (.fad 13 (.t 5)),rg 43 (.load none (.t 42)),rg 44 (.build [(.b false),(.sl [] .nl),(.sl [] .nl),(.b false),(.sl [] .nl),(.sl [] .nl),(.b false),(.sl [] .nl),(.sl [] .nl),(.b false),(.sl [] .nl),(.sl [] .nl),(.sl [] .nl),(.b false)] [(0,3,(.t 29)),(3,3,(.t 32)),(6,3,(.t 35)),(9,3,(.t 38)),(12,1,(.t 41)),(13,1,(.t 43))]),rg 45 (.bsl 14 [(.b false),(.sl [] .nl),(.sl [] .nl),(.b false),(.sl [] .nl),(.sl [] .nl),(.b false),(.sl [] .nl),(.sl [] .nl),(.b false),(.sl [] .nl),(.sl [] .nl),(.sl [] .nl),(.b false)] 1 [(0,(.t 44))])]
 [rg 46 (.app 14 (.t 26) (.t 45)),rg 47 (.fad 0 (.t 3)),so (.store 1 (.t 47) (.t 46))])))
 (.reg [mv 18 4,rg 19 (.bin .add (.t 18) (.c (.i .i64 1))),mv 4 19])))
 (.norm false [1,2,3,4]))
def b500:AX:=
 (.seq
 (.reg [rg 1 (.xop (.box 5) [(.t 0)]),rg 2 (.alloc [(.sl [] .nl),(.b false),(.sl [] .nl),(.sl [] .nl),(.sl [] .nl)])])
 (.seq
 (.draw [⟨rg 6 (.fad 1 (.t 1)),0,1⟩,⟨rg 7 (.load (some 3) (.t 6)),0,1⟩,⟨rg 8 (.call 248 [(.t 7)]),0,1⟩,⟨rg 9 (.fad 4 (.t 1)),0,1⟩,⟨rg 10 (.load none (.t 9)),0,1⟩,⟨rg 11 (.call 287 [(.t 10)]),0,1⟩,⟨rg 12 (.build [(.sl [] .nl),(.b false),(.sl [] .nl),(.sl [] .nl),(.sl [] .nl)] [(1,3,(.t 8)),(4,1,(.t 11))]),0,1⟩,⟨rg 3 (.alloc [(.sl [] .nl),(.b false),(.sl [] .nl),(.sl [] .nl),(.sl [] .nl)]),0,1⟩,⟨so (.store 5 (.t 3) (.t 12)),1,2⟩])
 (.seq
 (.seq
 (.reg [rg 4 (.mov (.c (.i .i64 0)))])
 (.pre (.fld 3 0 0 14) (.lp 0 (.norm false [1,2,3,4]) l500_0 (.norm false [2,3]))))
 (.seq
 (.reg [rg 48 (.load (some 5) (.t 3)),so (.store 5 (.t 2) (.t 48))])
 (.pre (.norm false [2]) .ret)))))
abbrev row500:AFx:=⟨1,49,[.cell 2 (some 5)],b500,none,false⟩
class Zh7 (T:Tbl):Prop where
 h500:Tr T 500=some row500
attribute [simp] Zh7.h500
end
class Zlx (T:Tbl):Prop where
class Zmd (T:Tbl):Prop where
class Zi7 (T:Tbl):Prop where
class Zmb (T:Tbl):Prop where
section
variable{T:Tbl}[Za5 T][Zmb T]
def wdR(w:Wd):List AV:=[.i .i64 w.1,.s w.2.1,.i .i64 w.2.2]
def Zkd(l:List Wd):List (List AV):=l.map wdR
def Zon(s:List UInt8)(i:Nat)(acc:List Wd):St:=
 ⟨[(0,.s s),(3,.ptr (.loc 3) 1 4 0 0),(4,.bs (.loc 4) 2 3 0 acc.length),(5,.i .i64 i)],[(.loc 3,⟨1,.str,4,[[.i .i64 0,.i .i64 0,.i .i64 0,.i .i64 0]]⟩),(.loc 4,⟨2,.own,3,Zkd acc⟩)],4⟩
def Zoo:Except Nat (List Wd)->Option (Ex×St)
 | .ok ws=>some (.n,⟨[(3,.ptr (.loc 3) 1 4 0 0),(4,.bs (.loc 4) 2 3 0 ws.length)],[(.loc 3,⟨1,.str,4,[[.i .i64 0,.i .i64 0,.i .i64 0,.i .i64 0]]⟩),(.loc 4,⟨2,.own,3,Zkd ws⟩)],4⟩)
 | .error e=>some (.r,⟨[(2,.sl [] .an),(3,.ptr (.loc 3) 1 4 0 0)],[(.loc 3,⟨1,.str,4,[[.i .i64 1,.i .i64 0,.i .i64 0,.i .i64 e]]⟩)],3⟩)
def Zm7(r:Except Nat (List Wd)):AV:=
 match r with
 | .ok ws=>.tup [.sl (Zkd ws) .an,.agg [.i .i64 0,.i .i64 0,.i .i64 0,.i .i64 0]]
 | .error e=>.tup [.sl [] .an,.agg [.i .i64 1,.i .i64 0,.i .i64 0,.i .i64 e]]
def Zop(s:List UInt8):Except Nat (List Wd):=if 4000<s.length then .error 4000 else Zlp (s.drop (Zif false s)) (Zif false s) []
def Zl0(k:Int)(t:List UInt8):Bool:=
 match t with
 | []=>false
 | c::r=>decide (k≠0)&&decide ((Zdb c:Int)=k)&&decide (Zfb (Zdb c) r=r.length+1)&&decide (r.length+1<=Zje (Zdb c))
abbrev Wz:=Int×List UInt8×Int
def wzR(w:Wz):List AV:=[.i .i64 w.1,.s w.2.1,.i .i64 w.2.2]
def Zml(l:List Wz):List (List AV):=l.map wzR
def Zpn(l:List Wz)(i:Nat)(b:BId):St:=
 ⟨[(3,.bs (.loc 3) 1 1 0 i),(6,.sl (Zml l) .an),(7,.i .i64 l.length),(8,.i .i64 i)],[(.loc 3,⟨1,.own,1,Zf ((l.take i).map (·.2.1))⟩)],3⟩
end
class Zln (T:Tbl):Prop where
class Zi6 (T:Tbl):Prop where
abbrev Fz:=Bool×List UInt32×List UInt32
abbrev Zak(x:Fz):List AV:=[.b x.1,.sl (Za x.2.1) .an,.sl (Za x.2.2) .an]
abbrev efz(x:Fz):AV:=.agg (Zak x)
def fv(x:Fz):Rat:=mkRat (wv x.1 x.2.1) (val x.2.2)
def fz(q:Rat):Fz:=(decide (q.num<0),ofN q.num.natAbs,ofN q.den)
@[simp] def zf6(q:Rat):fv (fz q)=q:=by
 unfold fv fz;rw[zis,zad,Yej]
def zwf{p q:Rat}:fz p=fz q↔p=q:=⟨fun h=>by rw[<-zf6 p,h,zf6],fun h=>by rw[h]⟩
def fsz(x:Fz):Nat:=max x.2.1.length x.2.2.length
def zig(x:Fz):x.2.1.length<=fsz x:=Nat.le_max_left ..
def zit(x:Fz):x.2.2.length<=fsz x:=Nat.le_max_right ..
def sz(q:Rat):Nat:=max (ofN q.num.natAbs).length (ofN q.den).length
theorem zih(q:Rat):(ofN q.num.natAbs).length<=sz q:=Nat.le_max_left ..
theorem zgc(q:Rat):(ofN q.den).length<=sz q:=Nat.le_max_right ..
def zon{n:Nat}(h:n≠0):1<=(ofN n).length:=by
 have:ofN n≠[]:=fun e=>h (za4.1 e);exact Ydp.2 this
def z68(q:Rat):1<=sz q:=Yd (zon q.den_nz) (zgc q)
def zzo{z:Int}{d:Nat}(h:d≠0):(mkRat z d).num.natAbs=z.natAbs/Nat.gcd z.natAbs d:=by
 rw[Rat.num_mkRat,if_neg h,Int.natAbs_ediv_of_dvd (Int.ofNat_dvd_left.2 (Nat.gcd_dvd_right ..)),Yc2,Ycm]
def zzp{z:Int}{d:Nat}(h:d≠0):(mkRat z d).den=d/Nat.gcd z.natAbs d:=by
 rw[Rat.den_mkRat,if_neg h,Ycm]
def zzq{z:Int}{d:Nat}(h:d≠0):sgI (mkRat z d).num=sgI z:=by
 rw[Rat.num_mkRat,if_neg h];have hg:0<Nat.gcd d z.natAbs:=Nat.gcd_pos_of_pos_left _ (Yal h);obtain⟨k,hk⟩:((Nat.gcd d z.natAbs:Nat):Int) ∣ z:=Int.ofNat_dvd_left.2 (Nat.gcd_dvd_right ..);generalize Nat.gcd d z.natAbs=g at *
 have hg':(0:Int)<g:=by omega
 subst hk;rw[Int.mul_ediv_cancel_left _ (by omega)];unfold sgI;rcases Int.lt_trichotomy k 0 with h1 | h1 | h1
 ·have:=Int.mul_neg_of_pos_of_neg hg' h1;rw[if_pos h1,if_pos this]
 ·subst h1;simp
 ·have:=Int.mul_pos hg' h1;rw[if_neg (by omega),if_neg (by omega),if_neg (by omega),if_neg (by omega)]
def zwg(z:Int):decide (z<0)=decide (sgI z<0):=by
 unfold sgI;split
 ·simp[*]
 ·split<;>simp[*]
def z69{z:Int}{d:Nat}(h:d≠0):decide ((mkRat z d).num<0)=decide (z<0):=by
 rw[zwg,zwg z,zzq h]
def zafi(n:Bool)(x:Nat){d:Nat}(h:d≠0):fz (mkRat (sg n x) d)=(n&&decide (x≠0),ofN (x/Nat.gcd x d),ofN (d/Nat.gcd x d)):=by
 unfold fz;rw[z69 h,zzo h,zzp h,zzm,zp9]
def zkr:ofN 1=[1]:=by
 rw[zh9 (by decide),show 1/4294967296=0 from rfl,zkp]
 rfl
def zm3(q:Rat):fsz (fz q)=sz q:=rfl
def z7a{z:Int}{d L:Nat}(hz:(ofN z.natAbs).length<=L)(hd:(ofN d).length<=L)(h1:1<=L):sz (mkRat z d)<=L:=by
 unfold sz;by_cases h:d=0
 ·subst h;rw[Rat.mkRat_zero,Rat.zero_num,Rat.zero_den,zkr];simp;omega
 ·rw[zzo h,zzp h];exact Nat.max_le.2 ⟨Yd (zbb (Yb1 _ _)) hz,Yd (zbb (Yb1 _ _)) hd⟩
theorem zoo{x:Fz}{L:Nat}(h:fsz x<=L)(h1:1<=L):sz (fv x)<=L:=
 z7a (Yd (zda _ _) (Yd (zig x) h)) (Yd (zac _) (Yd (zit x) h)) h1
def zdv{x y L M:Nat}(hx:(ofN x).length<=L)(hy:(ofN y).length<=M):(ofN (x*y)).length<=L+M:=by
 have:=zbi (x:=(x:Int)) (y:=(y:Int)) (L:=L) (M:=M) (by simpa using hx) (by simpa using hy);simpa[Int.natAbs_mul]using this
def z7b(p q:Rat):sz (p+q)<=sz p+sz q+1:=by
 rw[Rat.add_def'];have h1:=zih p;have h2:=zgc p;have h3:=zih q;have h4:=zgc q;have h5:=z68 p;refine z7a ?_ (Yd (zdv h2 h4) (by omega)) (by omega);refine zdu ?_ ?_
 ·exact zbi h1 (by simpa using h4)
 ·rw[Ybj];exact zbi h3 (by simpa using h2)
def sgQ(q:Rat):Int:=sgI q.num
def zzr{z:Int}{d:Nat}(h:d≠0):sgQ (mkRat z d)=sgI z:=zzq h
def zyp{z:Int}:sgI z=0↔z=0:=by
 unfold sgI;split
 ·constructor<;>intro h<;>omega
 ·split<;>constructor<;>intro h<;>omega
def z10{z:Int}:0<sgI z↔0<z:=by
 unfold sgI;split
 ·constructor<;>intro h<;>omega
 ·split<;>constructor<;>intro h<;>omega
def z11{z:Int}:sgI z<0↔z<0:=by
 unfold sgI;split
 ·constructor<;>intro h<;>omega
 ·split<;>constructor<;>intro h<;>omega
theorem zyq{q:Rat}:sgQ q=0↔q=0:=by
 unfold sgQ;rw[zyp,Rat.num_eq_zero]
def zop{q:Rat}:0<sgQ q↔0<q:=by
 unfold sgQ;rw[z10,Rat.lt_iff];simp
def z12{q:Rat}:sgQ q<0↔q<0:=by
 unfold sgQ;rw[z11,Rat.lt_iff];simp
def Zc(l:List Fz):List (List AV):=l.map Zak
@[simp] def z13(l:List Fz):(Zc l).length=l.length:=by simp[Zc]
@[simp] def zea(l:List Fz):wkL (Zc l)=Zc l:=by rw[zbw];simp[Zc,wkR,wkA]
@[simp] def zaal(l:List Fz)(i:Nat)(h:i<(Zc l).length):(Zc l)[i]=Zak (l[i]'(by simpa using h)):=by simp[Zc]
def zwh(l:List Fz)(x:Fz):Zc l++[Zak x]=Zc (l++[x]):=by simp[Zc]
@[simp] def z7c(l:List Fz)(n:Nat):(Zc l).take n=Zc (l.take n):=by simp[Zc]
@[simp] def zeo:Zc []=[]:=rfl
def Z4(m:List (List Fz)):List (List AV):=m.map fun r=>[.sl (Zc r) .an]
@[simp] def zoq(l:List (List Fz)):(Z4 l).length=l.length:=by simp[Z4]
@[simp] def zwi(l:List (List Fz)):wkL (Z4 l)=Z4 l:=by rw[zbw];simp[Z4,wkR,wkA]
@[simp] def zaam(l:List (List Fz))(i:Nat)(h:i<(Z4 l).length):(Z4 l)[i]=[.sl (Zc (l[i]'(by simpa using h))) .an]:=by simp[Z4]
def zwj(l:List (List Fz))(r:List Fz):Z4 l++[[.sl (Zc r) .an]]=Z4 (l++[r]):=by simp[Z4]
@[simp] def z7d(l:List (List Fz))(n:Nat):(Z4 l).take n=Z4 (l.take n):=by simp[Z4]
@[simp] def zyr:Z4 []=[]:=rfl
end Go.Ab
section
namespace Go.Ab
end Go.Ab
end
namespace Go.Ab
section
variable{T:Tbl}
def ziq(G:Nat):∀y:Nat×Nat,(y.1<18446744073709551616/\y.2<18446744073709551616/\Nat.gcd y.1 y.2=G) ->
  Zu T 0 0 (.norm false [0]) l198_0 ⟨[(0,u64 y.1),(1,u64 y.2)],[],2⟩=some (.n,⟨[(0,u64 G)],[],2⟩):=by
 refine za0 (fun y:Nat×Nat=>⟨[(0,u64 y.1),(1,u64 y.2)],[],2⟩) _ (fun y=>y.2) _ ?_
 rintro⟨x,y⟩ ⟨hx,hy,hG⟩
 simp only at hx hy hG ⊢;by_cases h:y=0
 ·right;subst h;rw[Nat.gcd_zero_right]at hG;subst hG;constructor<;>simp -implicitDefEqProofs[l198_0]
 ·left;have hm:=Ybh x (Yal h);refine⟨(y,x%y),⟨hy,by simp only;omega,by simp only;rw[<-hG,Ycm y,<-Nat.gcd_rec,Ycm]⟩,hm,?_,trivial⟩;simp -implicitDefEqProofs[l198_0,h]
end
section
variable{T:Tbl}[Zm T]
def zmd(x y:Nat)(hx:x<18446744073709551616)(hy:y<18446744073709551616):Zb T 198 [u64 x,u64 y]=some (u64 (Nat.gcd x y)):=by
 have h:=ziq (T:=T) (Nat.gcd x y) (x,y) ⟨hx,hy,rfl⟩;simp only at h;rw[zaa Zm.h198 rfl,b198];simp -implicitDefEqProofs[h]
def zrc(a:List UInt32):Zb T 200 [.sl (Za (ofN (val a))) .an]=some (.b (decide (val a=1))):=by
 rw[zaa Zm.h200 rfl,b200];generalize val a=n;by_cases h0:n=0
 ·subst h0;simp -implicitDefEqProofs
 ·rw[zh9 h0];by_cases h1:n/4294967296=0
  ·have e:ofN (n/4294967296)=[]:=za4.2 h1;have e2:n%4294967296=n:=Yu (by omega);simp -implicitDefEqProofs[e,Za,zdt,e2]
  ·have h2:¬ ofN (n/4294967296)=[]:=fun e=>h1 (za4.1 e);have h3:¬ n=1:=by rintro rfl;simp at h1
   have h4:¬ ((ofN (n/4294967296)).length:Int)+1=1:=by
    have:=Ydp.2 h2;omega
   simp -implicitDefEqProofs[Za,h3,h4]
end
section
variable{T:Tbl}[Zn T][Zw T][Zz T][Zr T][Zv T][Zm T]
def zxl(G:Nat):∀y:List UInt32×List UInt32,(y.1.length<=90000/\y.2.length<=90000/\(∃n,y.1=ofN n)/\(∃n,y.2=ofN n)/\Nat.gcd (val y.1) (val y.2)=G) ->
  ∃r,(∃a b:List UInt32,r=(Ex.n,(⟨[(0,.sl (Za a) .an),(1,.sl (Za b) .an)],[],2⟩:St))/\a.length<=90000/\b.length<=2/\(∃n,a=ofN n)/\(∃n,b=ofN n)/\Nat.gcd (val a) (val b)=G) /\
   Zu T 0 0 (.norm false [0,1]) l199_0 ⟨[(0,.sl (Za y.1) .an),(1,.sl (Za y.2) .an)],[],2⟩=some r:=by
 refine za6 (fun y:List UInt32×List UInt32=>⟨[(0,.sl (Za y.1) .an),(1,.sl (Za y.2) .an)],[],2⟩) _ (fun y=>val y.2) _ ?_
 rintro⟨a,b⟩ ⟨ha,hb,hk,hn,hG⟩
 simp only at ha hb hk hn hG ⊢;by_cases h:2<b.length
 ·left;have h':(2:Int)<b.length:=by omega
  have hv:val b≠0:=by
   obtain⟨n,rfl⟩:=hn;rw[zad]
   rintro rfl
   simp at h
  have hd:=zfn (T:=T) a b ha hb;rw[if_neg hv]at hd;have hm:=Ybh (val a) (Yal hv);refine⟨(b,ofN (val a%val b)),⟨hb,?_,hn,⟨_,rfl⟩,?_⟩,?_,?_⟩
  ·have:=zbb (Ydb hm);have:=zac b;simp only;omega
  ·simp only;rw[zad,<-hG,Ycm (val b),<-Nat.gcd_rec,Ycm]
  ·simp only[zad];exact hm
  ·clear hG hm hn hv hk;simp -implicitDefEqProofs[l199_0,h',hd]
 ·right;have h':¬ (2:Int)<b.length:=by omega
  refine⟨_,⟨a,b,rfl,ha,by omega,hk,hn,hG⟩,?_,?_⟩<;>clear hG<;>simp -implicitDefEqProofs[l199_0,h']
def zn9(a b:List UInt32)(ha:a.length<=90000)(hb:b.length<=90000):Zb T 199 [.sl (Za a) .an,.sl (Za b) .an]=some (.sl (Za (ofN (Nat.gcd (val a) (val b)))) .an):=by
 have h1:=za7 (T:=T) a (by omega);have h2:=za7 (T:=T) b (by omega);have la:=zac a;have lb:=zac b;obtain⟨G,hG⟩:∃G,G=Nat.gcd (val a) (val b):=⟨_,rfl⟩;obtain⟨_,⟨x,y,rfl,hx,hy,⟨m,rfl⟩,⟨n,rfl⟩,hg⟩,hr⟩:=zxl (T:=T) G (ofN (val a),ofN (val b)) ⟨by simp only;omega,by simp only;omega,⟨_,rfl⟩,⟨_,rfl⟩,by simp only[zad];exact hG.symm⟩;simp only at hr;rw[zad,zad]at hg;rw[zaa Zm.h199 rfl,b199,<-hG];clear hG;by_cases h0:n=0
 ·subst h0;rw[Nat.gcd_zero_right]at hg;subst hg;simp -implicitDefEqProofs[h1,h2,hr]
 ·have hv:val (ofN n)≠0:=by rw[zad];exact h0
  have hd:=zfn (T:=T) (ofN m) (ofN n) hx (by omega);rw[if_neg hv,zad,zad]at hd;have hn64:n<18446744073709551616:=by
   have:=zay (ofN n);rw[zad]at this;exact Ym this (Yt (by decide) hy)
  have hm:=Ybh m (Yal h0);have s1:=zmo (T:=T) (ofN n) (by omega);rw[zad,if_pos hn64]at s1;have s2:=zmo (T:=T) (ofN (m%n)) (by have:=zbb (Ydb hm);omega);rw[zad,if_pos (by omega)]at s2;have s3:=zmd (T:=T) n (m%n) hn64 (by omega);have e:Nat.gcd n (m%n)=G:=by rw[<-hg,Ycm n,<-Nat.gcd_rec,Ycm]
  rw[e]at s3;have s4:=zd6 (T:=T) G (by
   rw[<-hg];exact Yc1 (Nat.gcd_le_right _ (Yal h0)) hn64)
  have hl:¬ ofN n=[]:=fun e=>h0 (za4.1 e);simp -implicitDefEqProofs[h1,h2,hr,hd,s1,s2,s3,s4,hl,h0]
def zir(a b:List UInt32)(ha:a.length<=90000)(hb:b.length<=90000):Zb T 201 [.sl (Za a) .an,.sl (Za b) .an] =
  some (.tup [.sl (Za (ofN (val a/Nat.gcd (val a) (val b)))) .an,.sl (Za (ofN (val b/Nat.gcd (val a) (val b)))) .an]):=by
 have hg:=zn9 (T:=T) a b ha hb;have ho:=zrc (T:=T) (ofN (Nat.gcd (val a) (val b)));rw[zad]at ho;have ll:(ofN (Nat.gcd (val a) (val b))).length<=90000:=by
  by_cases h:val a=0
  ·rw[h,Nat.gcd_zero_left];have:=zac b;omega
  ·have:=zbb (Nat.gcd_le_left (val b) (Yal h));have:=zac a;omega
 have d1:=zfn (T:=T) a (ofN (Nat.gcd (val a) (val b))) ha ll;have d2:=zfn (T:=T) b (ofN (Nat.gcd (val a) (val b))) hb ll;have n1:=za7 (T:=T) a (by omega);have n2:=za7 (T:=T) b (by omega);rw[zad]at d1 d2;rw[zaa Zm.h201 rfl,b201];by_cases h0:Nat.gcd (val a) (val b)=0
 ·rw[h0]at hg ⊢;simp only[zkp]at hg;simp -implicitDefEqProofs[hg]
 ·rw[if_neg h0]at d1 d2;have hl:¬ ofN (Nat.gcd (val a) (val b))=[]:=fun e=>h0 (za4.1 e);by_cases h1:Nat.gcd (val a) (val b)=1
  ·rw[h1]at hg ho hl ⊢;simp -implicitDefEqProofs[hg,ho,n1,n2,hl]
  ·generalize Nat.gcd (val a) (val b)=g at *
   simp -implicitDefEqProofs[hg,ho,d1,d2,hl,h0,h1]
end
section
variable{T:Tbl}[Zg T]
def zax(n:Bool)(k:Nat):Zb T 55 [.b n,.sl (Za (ofN k)) .an]=some (ez (sg n k)):=by
 rw[zaa Zg.h55 rfl,b55,z64];have h:(0<(ofN k).length)=(k≠0):=by
  rw[eq_iff_iff,Ydp];exact not_congr za4
 cases n<;>simp -implicitDefEqProofs[h]
end
section
variable{T:Tbl}[Zn T][Zg T]
def zsd(n:Bool)(a:List UInt32)(ha:a.length<=1000000):Zb T 38 [wh n a]=some (ez (wv n a)):=by
 have h:=za7 (T:=T) a (by omega);have hs:=zax (T:=T) n (val a);rw[zaa Zg.h38 rfl,b38];simp -implicitDefEqProofs[h,hs,wv]
end
section
variable{T:Tbl}[Zn T][Zg T]
def zv7(n:Bool)(a:List UInt32)(ha:a.length<=1000000):Zb T 40 [wh n a]=some (ez (-wv n a)):=by
 have h:=za7 (T:=T) a (by omega);have hs:=zax (T:=T) (!n) (val a);rw[z65]at hs;rw[zaa Zg.h40 rfl,b40];simp -implicitDefEqProofs[h,hs,wv]
end
section
variable{T:Tbl}[Zn T][Zg T]
theorem zjm(n m:Bool)(a b:List UInt32)(ha:a.length<=90000)(hb:b.length<=90000):Zb T 23 [wh n a,wh m b]=some (ez (wv n a+wv m b)):=by
 rw[zaa Zg.h23 rfl,b23];by_cases h:n=m
 ·subst h;have hn:=zp0 (T:=T) [a,b] (by simp) (by simp;omega);have hs:=zax (T:=T) n (val a+val b);rw[zom]at hs;have e:lls [a,b]=[[.sl (Za a) .an],[.sl (Za b) .an]]:=rfl;have e2:Zdo [a,b]=val a+val b:=by simp[Zdo]
  rw[e,e2]at hn;simp -implicitDefEqProofs[hn,hs,wv]
 ·have hg:=z1j (T:=T) a b (by omega) (by omega);by_cases hlt:val a<val b
  ·have hs:=zax (T:=T) m (val b-val a);rw[zwd h hlt]at hs;simp -implicitDefEqProofs[h,hg,hlt,zds,hs,wv]
  ·have hs:=zax (T:=T) n (val a-val b);rw[zwe h hlt]at hs;simp -implicitDefEqProofs[h,hg,hlt,zds,hs,wv]
end
section
variable{T:Tbl}[Zn T][Zg T]
def zse(n m:Bool)(a b:List UInt32)(ha:a.length<=90000)(hb:b.length<=90000):Zb T 25 [wh n a,wh m b]=some (ez (wv n a-wv m b)):=by
 obtain⟨z,hz⟩:∃z,z=-wv m b:=⟨_,rfl⟩;have h1:=zv7 (T:=T) m b (by omega);have hl:=zda m b;rw[<-zif,<-hz]at hl;have h2:=zjm (T:=T) n (decide (z<0)) a (ofN z.natAbs) (by omega) (by omega);have e:wv n a-wv m b=wv n a+z:=by omega
 rw[zis,<-e]at h2;rw[<-hz]at h1;rw[zaa Zg.h25 rfl,b25];simp -implicitDefEqProofs[h1,h2]
end
section
variable{T:Tbl}[Zw T][Zg T]
def zm0(n m:Bool)(a b:List UInt32)(ha:a.length<=100000)(hb:b.length<=100000):Zb T 27 [wh n a,wh m b]=some (ez (wv n a*wv m b)):=by
 have h1:=zfm (T:=T) a b ha hb;have hs:=zax (T:=T) (n != m) (val a*val b);rw[z66]at hs;rw[zaa Zg.h27 rfl,b27];simp -implicitDefEqProofs[h1,hs,wv]
end
section
variable{T:Tbl}[Zn T][Zg T]
def zf4(n:Bool)(a:List UInt32)(ha:a.length<=1000000):Zb T 37 [wh n a]=some (.i .i64 (sgI (wv n a))):=by
 have h1:=zen (T:=T) a (by omega);rw[zaa Zg.h37 rfl,b37];unfold wv;rw[z67];by_cases h:val a=0
 ·simp -implicitDefEqProofs[h1,h]
 ·cases n<;>simp -implicitDefEqProofs[h1,h]
end
section
variable{T:Tbl}[Zn T][Zg T]
theorem zsf(n m:Bool)(a b:List UInt32)(ha:a.length<=90000)(hb:b.length<=90000):Zb T 36 [wh n a,wh m b]=some (.i .i64 (sgI (wv n a-wv m b))):=by
 have h1:=zse (T:=T) n m a b ha hb;have hl:=zdu (x:=wv n a) (y:=-wv m b) (L:=90000) (by have:=zda n a;omega) (by rw[zif];have:=zda m b;omega);rw[<-Int.sub_eq_add_neg]at hl;have h2:=zf4 (T:=T) (decide (wv n a-wv m b<0)) (ofN (wv n a-wv m b).natAbs) (show (ofN (wv n a-wv m b).natAbs).length<=1000000 by omega);rw[zis]at h2;rw[zaa Zg.h36 rfl,b36];simp -implicitDefEqProofs[h1,h2]
end
section
variable{T:Tbl}[Zn T][Zg T]
def zyj(k:Int)(h1:-9223372036854775808<=k)(h2:k<9223372036854775808):Zb T 41 [.i .i64 k]=some (ez k):=by
 rw[zaa Zg.h41 rfl,b41];by_cases h:k<0
 ·have hn:=zd6 (T:=T) k.natAbs (by omega);have hs:=zax (T:=T) true k.natAbs;have e:sg true k.natAbs=k:=by simp[sg];omega
  have e2:Zi4 0 (k%18446744073709551616).toNat=k.natAbs:=by unfold Zi4;omega
  rw[e]at hs;simp -implicitDefEqProofs[h,e2,hn,hs]
 ·have hn:=zd6 (T:=T) k.natAbs (by omega);have hs:=zax (T:=T) false k.natAbs;have e:sg false k.natAbs=k:=by simp[sg];omega
  have e2:(k%18446744073709551616).toNat=k.natAbs:=by omega
  rw[e]at hs;simp -implicitDefEqProofs[h,e2,hn,hs]
end
section
variable{T:Tbl}[Zn T][Zat T][Zg T]
def zsg(n:Bool)(a:List UInt32)(ha:a.length<=1000):Zb T 34 [wh n a]=some (.s (Z7 (wv n a))):=by
 have h1:Zb T 68 [.sl (Za a) .an]=some (.s (Zs (val a))):=by rw[p68,zia a ha]
 have h2:=zf4 (T:=T) n a (by omega);have h3:=ze2 ha;have h4:1+(Zs (val a)).length<=9223372036854775807:=by omega
 rw[zaa Zg.h34 rfl,b34];unfold Z7;rw[zzn];by_cases h:wv n a<0
 ·have h5:sgI (wv n a)=-1:=by unfold sgI;rw[if_pos h]
  simp -implicitDefEqProofs[h1,h2,h,h5,h4]
 ·have h5:¬ sgI (wv n a)<0:=by unfold sgI;rw[if_neg h];split<;>omega
  simp -implicitDefEqProofs[h1,h2,h,h5]
end
section
variable{T:Tbl}[Zw T][Zp T][Zg T]
def zsh(l:List UInt8)(hl:l.length<=1000000):Zb T 32 [.s l]=some (.tup (if 0<=Zbr l then [wh false [],.agg [.i .i64 1,.i .i64 0,.i .i64 0,.i .i64 (Zbr l+Zcy l)]]
  else [ez (Zav l),.agg [.i .i64 0,.i .i64 0,.i .i64 0,.i .i64 0]])):=by
 have h1:=zuz (T:=T) l hl;obtain⟨l',hl'⟩:∃l',l'=if l.head? = some 45 then l.tail else l:=⟨_,rfl⟩
 have hl2:l'.length<=1000000:=by
  rw[hl'];split
  ·simp;omega
  ·exact hl
 have h2:=zhw (T:=T) l' hl2;have hs:=zax (T:=T) (l.head? = some 45) (rd l');have hm:(l.length:Int)-l'.length=Zcy l:=by
  rw[hl'];unfold Zcy;split
  ·rename_i h;cases l with
   | nil=>cases h
   | cons c r=>simp;omega
  ·omega
 unfold Zbr Zav;rw[<-hl']at h1 ⊢;have hw1:IntKind.wrap .i64 ((l.length:Int)-l'.length)=Zcy l:=by rw[hm];exact zab _ (by unfold Zcy;split<;>omega)
 rw[zaa Zg.h32 rfl,b32];have hwb:Z1 l'<=60:=by
  unfold Z1;split
  ·omega
  ·exact zib 0 l' (by omega)
 by_cases h0:0<=Z1 l'
 ·have hw2:IntKind.wrap .i64 (Z1 l'+Zcy l)=Z1 l'+Zcy l:=zab _ (by unfold Zcy;split<;>omega);simp -implicitDefEqProofs[h1,h2,h0,hw1,hw2,zn8]
 ·simp -implicitDefEqProofs[h1,h2,h0,hs]
end
section
variable{T:Tbl}[Zn T][Zw T][Zz T][Zr T][Zv T][Zg T][Zm T][Zy T]
def zob(p q:Int)(hp:(ofN p.natAbs).length<=90000)(hq:(ofN q.natAbs).length<=90000):Zb T 23 [ez p,ez q]=some (ez (p+q)):=by
 grind[zjm,zis]
def zoc(p q:Int)(hp:(ofN p.natAbs).length<=90000)(hq:(ofN q.natAbs).length<=90000):Zb T 36 [ez p,ez q]=some (.i .i64 (sgI (p-q))):=by
 grind[zsf,zis]
def zrg{x d:Nat}(h:d≠0):decide (x/Nat.gcd x d≠0)=decide (x≠0):=by
 obtain⟨k,hk⟩:=Nat.gcd_dvd_left x d
 grind[Nat.mul_div_cancel_left,Nat.mul_eq_zero]
def zc8(n:Bool)(a d:List UInt32)(ha:a.length<=90000)(hd:d.length<=90000)(h:val d≠0) :
  Zb T 202 [wh n a,.sl (Za d) .an]=some (efz (fz (mkRat (wv n a) (val d)))):=by
 have e:=zafi n (val a) h
 change fz (mkRat (wv n a) (val d))=_ at e
 have hc:=zir (T:=T) a d ha hd;have hl:(ofN (val a/Nat.gcd (val a) (val d))).length<=1000000:=by
  have:=zbb (Yb1 (val a) (Nat.gcd (val a) (val d)));have:=zac a;omega
 have hn:=zsd (T:=T) n _ hl;have e2:wv n (ofN (val a/Nat.gcd (val a) (val d)))=sg n (val a/Nat.gcd (val a) (val d)):=by unfold wv;rw[zad]
 rw[e2,z64,zrg h]at hn;rw[e,zaa Zy.h202 rfl,b202];simp -implicitDefEqProofs[hc,hn]
def zod(n:Bool)(a d:List UInt32)(ha:a.length<=10000)(hd:d.length<=10000)(h:val d≠0) :
  Zb T 202 [wh n a,.sl (Za d) .an]=some (efz (fz (mkRat (wv n a) (val d)))):=zc8 (T:=T) n a d (Yd ha (by decide)) (Yd hd (by decide)) h
def zbz(x:Fz)(hx:fsz x<=100000):∃y:Fz,val y.2.2≠0/\fv y=fv x/\fsz y<=max 1 (fsz x)/\Zb T 203 [efz x]=some (.tup [wh y.1 y.2.1,.sl (Za y.2.2) .an]):=by
 obtain⟨n,a,d⟩:=x;have h1:=zig (n,a,d);have h2:=zit (n,a,d);simp only at h1 h2;have hz:=zen (T:=T) d (by omega);by_cases h:val d=0
 ·refine⟨(false,[],[1]),by simp,?_,?_,?_⟩
  ·unfold fv;simp only[h,Rat.mkRat_zero]
   rfl
  ·show 1<=_;omega
  ·have ho:=zd6 (T:=T) 1 (by decide);rw[zkr]at ho;rw[zaa Zy.h203 rfl,b203];simp -implicitDefEqProofs[hz,h,ho]
 ·refine⟨(n,a,d),h,rfl,by omega,?_⟩;rw[zaa Zy.h203 rfl,b203];simp -implicitDefEqProofs[hz,h]
def zu2(k:Int)(h1:-9223372036854775808<=k)(h2:k<9223372036854775808):Zb T 205 [.i .i64 k]=some (efz (fz (k:Rat))):=by
 have hw:=zyj (T:=T) k h1 h2;have ho:=zd6 (T:=T) 1 (by decide);have e:fz (k:Rat)=(decide (k<0),ofN k.natAbs,ofN 1):=rfl;rw[e,zaa Zy.h205 rfl,b205];simp -implicitDefEqProofs[hw,ho]
def zgl:Zb T 205 [.i .i64 0]=some (efz (fz 0)):=zu2 0 (by decide) (by decide)
def zxq:Zb T 205 [.i .i64 1]=some (efz (fz 1)):=zu2 1 (by decide) (by decide)
def zrh(x:Fz)(hx:fsz x<=90000):Zb T 207 [efz x]=some (efz (fz (fv x))):=by
 obtain⟨⟨n,a,d⟩,h1,h2,h3,hp⟩:=zbz (T:=T) x (by omega);have la:=zig (n,a,d);have ld:=zit (n,a,d);simp only at la ld;have hc:=zc8 (T:=T) n a d (by omega) (by omega) h1;rw[<-h2]
 change _=some (efz (fz (mkRat (wv n a) (val d))))
 rw[zaa Zy.h207 rfl,b207];simp -implicitDefEqProofs[hp,hc]
def zhx(x:Fz)(hx:fsz x<=10000):Zb T 207 [efz x]=some (efz (fz (fv x))):=zrh (T:=T) x (Yd hx (by decide))
def zri(x:Fz)(hx:fsz x<=90000):Zb T 209 [efz x]=some (.i .i64 (sgQ (fv x))):=by
 obtain⟨⟨n,a,d⟩,h1,h2,h3,hp⟩:=zbz (T:=T) x (by omega);have la:=zig (n,a,d);simp only at la;have hc:=zf4 (T:=T) n a (by omega);rw[<-h2];unfold fv;rw[zzr h1,zaa Zy.h209 rfl,b209];simp -implicitDefEqProofs[hp,hc]
def zhy(x:Fz)(hx:fsz x<=10000):Zb T 209 [efz x]=some (.i .i64 (sgQ (fv x))):=zri (T:=T) x (Yd hx (by decide))
def zdq(n:Bool)(a d:List UInt32)(ha:a.length<=90000)(hd:d.length<=90000):Zb T 210 [wh n a,.sl (Za d) .an]=some (ez (wv n a*(val d:Int))):=by
 have hm:=zm0 (T:=T) n false a d (by omega) (by omega);rw[show wv false d=(val d:Int) from rfl]at hm;rw[zaa Zy.h210 rfl,b210];simp -implicitDefEqProofs[hm]
def zmh(x x':Fz)(hx:fsz x<=30000)(hx':fsz x'<=30000):Zb T 211 [efz x,efz x']=some (.i .i64 (sgQ (fv x-fv x'))):=by
 obtain⟨⟨n,a,d⟩,h1,h2,h3,hp⟩:=zbz (T:=T) x (by omega);obtain⟨⟨m,b,e⟩,h1',h2',h3',hp'⟩:=zbz (T:=T) x' (by omega);have la:=zig (n,a,d);have ld:=zit (n,a,d);have lb:=zig (m,b,e);have le:=zit (m,b,e);simp only at la ld lb le;have c1:=zdq (T:=T) n a e (by omega) (by omega);have c2:=zdq (T:=T) m b d (by omega) (by omega);have l1:(ofN (wv n a*(val e:Int)).natAbs).length<=60000:=by
  have:=zbi (x:=wv n a) (y:=(val e:Int)) (L:=30000) (M:=30000) (Yd (zda n a) (by omega)) (Yd (zda false e) (by omega));omega
 have l2:(ofN (wv m b*(val d:Int)).natAbs).length<=60000:=by
  have:=zbi (x:=wv m b) (y:=(val d:Int)) (L:=30000) (M:=30000) (Yd (zda m b) (by omega)) (Yd (zda false d) (by omega));omega
 have e1:sgQ (fv x-fv x')=sgI (wv n a*(val e:Int)-wv m b*(val d:Int)):=by
  rw[<-h2,<-h2',Rat.sub_eq_add_neg];unfold fv;rw[Rat.neg_mkRat,Rat.mkRat_add_mkRat _ _ h1 h1',zzr (Yed h1 h1'),Int.neg_mul]
  rfl
 generalize wv n a*(val e:Int)=z1 at *
 generalize wv m b*(val d:Int)=z2 at *
 have c3:=zoc (T:=T) z1 z2 (by omega) (by omega);rw[e1,zaa Zy.h211 rfl,b211];simp -implicitDefEqProofs[hp,hp',c1,c2,c3]
def zxr(x x':Fz)(hx:fsz x<=1000)(hx':fsz x'<=1000):Zb T 211 [efz x,efz x']=some (.i .i64 (sgQ (fv x-fv x'))):=zmh (T:=T) x x' (Yd hx (by decide)) (Yd hx' (by decide))
def zrj(x x':Fz)(hx:fsz x<=30000)(hx':fsz x'<=30000):Zb T 212 [efz x,efz x']=some (.b (decide (fv x=fv x'))):=by
 have hc:=zmh (T:=T) x x' hx hx';have e:(sgQ (fv x-fv x') == 0)=decide (fv x=fv x'):=by
  grind[zyq]
 rw[zaa Zy.h212 rfl,b212];simp -implicitDefEqProofs[hc,e]
def zd4(x x':Fz)(hx:fsz x<=1000)(hx':fsz x'<=1000):Zb T 212 [efz x,efz x']=some (.b (decide (fv x=fv x'))):=zrj (T:=T) x x' (Yd hx (by decide)) (Yd hx' (by decide))
def zu3(x x':Fz)(hx:fsz x<=30000)(hx':fsz x'<=30000):Zb T 215 [efz x,efz x']=some (efz (fz (fv x+fv x'))):=by
 obtain⟨⟨n,a,d⟩,h1,h2,h3,hp⟩:=zbz (T:=T) x (by omega);obtain⟨⟨m,b,e⟩,h1',h2',h3',hp'⟩:=zbz (T:=T) x' (by omega);have la:=zig (n,a,d);have ld:=zit (n,a,d);have lb:=zig (m,b,e);have le:=zit (m,b,e);simp only at la ld lb le;have c1:=zdq (T:=T) n a e (by omega) (by omega);have c2:=zdq (T:=T) m b d (by omega) (by omega);have c4:=zfm (T:=T) d e (by omega) (by omega);have l1:(ofN (wv n a*(val e:Int)).natAbs).length<=60000:=by
  have:=zbi (x:=wv n a) (y:=(val e:Int)) (L:=30000) (M:=30000) (Yd (zda n a) (by omega)) (Yd (zda false e) (by omega));omega
 have l2:(ofN (wv m b*(val d:Int)).natAbs).length<=60000:=by
  have:=zbi (x:=wv m b) (y:=(val d:Int)) (L:=30000) (M:=30000) (Yd (zda m b) (by omega)) (Yd (zda false d) (by omega));omega
 have l3:(ofN (val d*val e)).length<=60000:=by
  have:=zdv (x:=val d) (y:=val e) (L:=30000) (M:=30000) (Yd (zac d) (by omega)) (Yd (zac e) (by omega));omega
 have e1:fv x+fv x'=mkRat (wv n a*(val e:Int)+wv m b*(val d:Int)) (val d*val e):=by
  rw[<-h2,<-h2'];exact Rat.mkRat_add_mkRat _ _ h1 h1'
 have hne:=Yed h1 h1';generalize wv n a*(val e:Int)=z1 at *
 generalize wv m b*(val d:Int)=z2 at *
 generalize val d*val e=D at *
 have c3:=zob (T:=T) z1 z2 (by omega) (by omega);have c5:=zc8 (T:=T) (decide (z1+z2<0)) (ofN (z1+z2).natAbs) (ofN D) (by have:=zdu l1 l2;omega) (by omega) (by rw[zad];omega);rw[zis,zad,<-e1]at c5;rw[zaa Zy.h215 rfl,b215];simp -implicitDefEqProofs[hp,hp',c1,c2,c3,c4,c5]
def zpv(x x':Fz)(hx:fsz x<=1000)(hx':fsz x'<=1000):Zb T 215 [efz x,efz x']=some (efz (fz (fv x+fv x'))):=zu3 (T:=T) x x' (Yd hx (by decide)) (Yd hx' (by decide))
def zu4(x x':Fz)(hx:fsz x<=30000)(hx':fsz x'<=30000):Zb T 217 [efz x,efz x']=some (efz (fz (fv x*fv x'))):=by
 obtain⟨⟨n,a,d⟩,h1,h2,h3,hp⟩:=zbz (T:=T) x (by omega);obtain⟨⟨m,b,e⟩,h1',h2',h3',hp'⟩:=zbz (T:=T) x' (by omega);have la:=zig (n,a,d);have ld:=zit (n,a,d);have lb:=zig (m,b,e);have le:=zit (m,b,e);simp only at la ld lb le;have c3:=zm0 (T:=T) n m a b (by omega) (by omega);have c4:=zfm (T:=T) d e (by omega) (by omega);have l1:(ofN (wv n a*wv m b).natAbs).length<=60000:=by
  have:=zbi (x:=wv n a) (y:=wv m b) (L:=30000) (M:=30000) (Yd (zda n a) (by omega)) (Yd (zda m b) (by omega));omega
 have l3:(ofN (val d*val e)).length<=60000:=by
  have:=zdv (x:=val d) (y:=val e) (L:=30000) (M:=30000) (Yd (zac d) (by omega)) (Yd (zac e) (by omega));omega
 have e1:fv x*fv x'=mkRat (wv n a*wv m b) (val d*val e):=by
  rw[<-h2,<-h2'];exact Rat.mkRat_mul_mkRat _ _ _ _
 have hne:=Yed h1 h1';generalize wv n a*wv m b=z at *
 generalize val d*val e=D at *
 have c5:=zc8 (T:=T) (decide (z<0)) (ofN z.natAbs) (ofN D) (by omega) (by omega) (by rw[zad];omega);rw[zis,zad,<-e1]at c5;rw[f217 _ rfl,b217];simp -implicitDefEqProofs[hp,hp',c3,c4,c5]
def zxs(x x':Fz)(hx:fsz x<=1000)(hx':fsz x'<=1000):Zb T 217 [efz x,efz x']=some (efz (fz (fv x*fv x'))):=zu4 (T:=T) x x' (Yd hx (by decide)) (Yd hx' (by decide))
end
def nrm(l:List Fz):List Fz:=l.map fun x=>fz (fv x)
def fzs(l:List Rat):List Fz:=l.map fz
def zc5{m:List Fz}{n:Nat}(h:m.length=n)(x:Fz):wkL (Zc (List.take n m)++[Zak x])=Zc (m++[x]):=by
 rw[Yb (by omega),zwh,zea]
def zfo{α β:Type}(l:List α)(f:α->β){i:Nat}(h:i<l.length):(l.take (i+1)).map f=(l.take i).map f++[f (l[i]'h)]:=by
 grind[List.take_succ_eq_append_getElem]
@[simp] def zvx:Zf []=[]:=rfl
def Zk(q:Rat):List UInt8:=if q.den=1 then Z7 q.num else Z7 q.num++47::Zs q.den
section
variable{T:Tbl}[Zn T][Zw T][Zz T][Zr T][Zv T][Zat T][Zg T][Zm T][Zy T][Za5 T][Zb3 T]
def zh8(x:Fz)(hx:fsz x<=900):Zb T 251 [efz x]=some (.s (Zk (fv x))):=by
 have h1:=zhx (T:=T) x (by omega);have hs:=zoo (x:=x) (L:=900) hx (by decide);generalize fv x=q at *
 have l1:=zih q;have l2:=zgc q;have e':fz q=(decide (q.num<0),ofN q.num.natAbs,ofN q.den):=rfl;have h2:=zsg (T:=T) (decide (q.num<0)) (ofN q.num.natAbs) (by omega);rw[zis]at h2;have h3:=zd6 (T:=T) 1 (by decide);have h4:=zf0 (T:=T) (ofN q.den) (ofN 1) (by omega) (by rw[zkr];decide);rw[zad,zad]at h4;have h5:Zb T 68 [.sl (Za (ofN q.den)) .an]=some (.s (Zs q.den)):=by
  rw[p68,zia _ (by omega),zad]
 have t1:(Zs q.den).length<=10000:=by
  grind[ze2,zad]
 have t2:(Z7 q.num).length<=20000:=by
  grind[ze2,zad,Z7]
 rw[zaa Zb3.h251 rfl,b251];rw[e']at h1;unfold Zk;obtain⟨D,hD⟩:∃D,D=ofN q.den:=⟨_,rfl⟩;obtain⟨A,hA⟩:∃A,A=ofN q.num.natAbs:=⟨_,rfl⟩;obtain⟨O,hO⟩:∃O,O=ofN 1:=⟨_,rfl⟩;by_cases hd:q.den=1
 ·have hc:Zex q.den 1=0:=by rw[hd];rfl
  rw[hc]at h4;rw[if_pos hd];simp -implicitDefEqProofs[h1,h2,h3,h4]
 ·have hc:Zex q.den 1=1:=by
   unfold Zex;have:=q.den_pos;omega
  rw[hc]at h4;rw[if_neg hd];have b1:1+(Zs q.den).length<=9223372036854775807:=by omega
  have b2:(Z7 q.num).length+((Zs q.den).length+1)<=9223372036854775807:=by omega
  simp -implicitDefEqProofs[h1,h2,h3,h4,h5,b1,b2]
def Zqa(n i:Nat):St:=⟨[(3,.bs (.loc 9) 1 3 0 n),(10,.i .i64 n),(11,.i .i64 i)],[(.loc 9,⟨1,.own,3,Zc (List.replicate i (fz 0))++List.replicate (n-i) [.b false,.sl [] .an,.sl [] .an]⟩)],3⟩
def Zqb(l:List Fz)(i:Nat):St:=⟨[(3,.bs (.loc 3) 1 3 0 i),(6,.sl (Zc l) .an),(7,.i .i64 l.length),(8,.i .i64 i)],[(.loc 3,⟨1,.own,3,Zc (nrm (l.take i))⟩)],3⟩
def scl(c:Rat)(l:List Fz):List Fz:=l.map fun x=>fz (c*fv x)
def Zkk(c:Fz)(l:List Fz)(i:Nat):St:=⟨[(2,.ptr (.loc 2) 1 3 0 0),(5,.bs (.loc 5) 2 3 0 i),(8,.sl (Zc l) .an),(9,.i .i64 l.length),(10,.i .i64 i)],[(.loc 2,⟨1,.str,3,[Zak c]⟩),(.loc 5,⟨2,.own,3,Zc (scl (fv c) (l.take i))⟩)],4⟩
def zsb(c:Fz)(hc:fsz c<=1000)(l:List Fz)(hl:l.length<=1000)(hw:∀x∈l,fsz x<=1000) :
  Zu T 0 0 (.norm false [5]) l269_0 (Zkk c l 0)=some (.n,⟨[(5,.bs (.loc 5) 1 3 0 l.length)],[(.loc 5,⟨1,.own,3,Zc (scl (fv c) l)⟩)],3⟩):=by
 refine za3 (Zkk c l) l.length _ (fun i hi=>?_) ?_
 ·have hws:=zc2 hi (by omega);have hn:=zxs (T:=T) c (l[i]'hi) hc (hw _ (Y0 hi));have e:scl (fv c) (l.take (i+1))=scl (fv c) (l.take i)++[fz (fv c*fv (l[i]'hi))]:=zfo l _ hi;have hml:(scl (fv c) (l.take i)).length=i:=by simp[scl];omega
  have hp:=zc5 hml (fz (fv c*fv (l[i]'hi)));unfold Zkk;rw[e];have hb:i<=4294967295:=by omega
  simp -implicitDefEqProofs[l269_0,hi,hws,hn,hp,hml,hb]
 ·unfold Zkk;rw[Yb (Yi _)];constructor<;>simp -implicitDefEqProofs[l269_0]
def zvy(c:Fz)(hc:fsz c<=1000)(l:List Fz)(hl:l.length<=1000)(hw:∀x∈l,fsz x<=1000):Zb T 269 [efz c,.sl (Zc l) .an]=some (.sl (Zc (scl (fv c) l)) .an):=by
 have h:=zsb (T:=T) c hc l hl hw;unfold Zkk at h;have e:scl (fv c) (l.take 0)=[]:=rfl;rw[e]at h;simp at h;have ht:List.take l.length (scl (fv c) l)=scl (fv c) l:=Yb (by simp[scl]);have hl2:(scl (fv c) l).length=l.length:=by simp[scl]
 rw[zaa Zb3.h269 rfl,b269];simp -implicitDefEqProofs[h,ht,hl2]
def Zir:List Fz->List Fz->Rat
 | x::a,y::b=>fv x*fv y+Zir a b
 | _,_=>0
def Zkl(a b:List Fz)(i:Nat):Rat:=Zir (a.take i) (b.take i)
theorem zmx:∀(a b:List Fz) (x y:Fz),a.length=b.length->Zir (a++[x]) (b++[y])=Zir a b+fv x*fv y
 | [],[],x,y,_=>by simp[Zir,Rat.add_zero,Rat.zero_add]
 | u::a,v::b,x,y,h=>by
  have ih:=zmx a b x y (by simpa using h);simp only[Ycv,Zir,ih,Rat.add_assoc]
def z62{a b:List Fz}(hab:a.length=b.length){i:Nat}(hi:i<a.length):Zkl a b (i+1)=Zkl a b i+fv (a[i]'hi)*fv (b[i]'(by omega)):=by
 grind[Zkl,List.take_succ_eq_append_getElem,zmx]
abbrev Zfa:List AV:=[.b false,.sl [] .an,.sl [] .an]
def Zqc(a b:List Fz)(i:Nat):St:=⟨[(1,.sl (Zc b) .an),(4,.ptr (.loc 4) 1 3 0 0),(6,.ptr (.loc 6) 2 3 0 0),(16,.sl (Zc a) .an),(17,.i .i64 a.length),(18,.i .i64 i)],
 [(.loc 4,⟨1,.str,3,[Zfa]⟩),(.loc 6,⟨2,.str,3,[Zak (fz (Zkl a b i))]⟩)],4⟩
def Zjo(a b:List Fz)(i:Nat):St:=⟨[(0,.sl (Zc a) .an),(1,.sl (Zc b) .an),(12,.i .i64 a.length),(13,.i .i64 i)],[],2⟩
def zvz(a b:List Fz)(hab:a.length=b.length)(hl:a.length<=1000)(ha:∀x∈a,fsz x<=1000)(hb:∀x∈b,fsz x<=1000) :
  Zu T 0 0 (.norm false []) l265_0 (Zjo a b 0)=if (a.drop 0).map fv=(b.drop 0).map fv then some (.n,⟨[],[],2⟩) else some (.r,⟨[(4,.b false)],[],2⟩):=by
 refine zat (Zjo a b) a.length (fun i=>if (a.drop i).map fv=(b.drop i).map fv then some (.n,⟨[],[],2⟩) else some (.r,⟨[(4,.b false)],[],2⟩)) (fun i hi=>?_) ?_
 ·have hib:i<b.length:=by omega
  have hws:=zc2 hi (by omega);have c:=zd4 (T:=T) (a[i]'hi) (b[i]'hib) (ha _ (Y0 hi)) (hb _ (Y0 hib));have hib':(i:Int)<b.length:=by omega
  have key:((a.drop i).map fv=(b.drop i).map fv)↔(fv (a[i]'hi)=fv (b[i]'hib)/\(a.drop (i+1)).map fv=(b.drop (i+1)).map fv):=by
   grind[List.drop_eq_getElem_cons]
  by_cases he:fv (a[i]'hi)=fv (b[i]'hib)
  ·left;refine⟨?_,by grind⟩;unfold Zjo;simp -implicitDefEqProofs[l265_0,hi,hws,c,he,hib,hib']
  ·right;rw[if_neg (fun h=>he (key.1 h).1)];unfold Zjo;constructor<;>simp -implicitDefEqProofs[l265_0,hi,c,he,hib,hib']
 ·rw[Yah,if_pos (by rw[hab,Yah])];unfold Zjo;constructor<;>simp -implicitDefEqProofs[l265_0]
def zgm(a b:List Fz)(hl:a.length<=1000)(ha:∀x∈a,fsz x<=1000)(hb:∀x∈b,fsz x<=1000) :
  Zb T 265 [.sl (Zc a) .an,.sl (Zc b) .an]=some (.b (decide (a.map fv=b.map fv))):=by
 rw[zaa Zb3.h265 rfl,b265];by_cases hab:a.length=b.length
 ·have h:=zvz (T:=T) a b hab hl ha hb;unfold Zjo at h;simp at h;have hab':(b.length:Int)=a.length:=by omega
  by_cases he:a.map fv=b.map fv
  ·simp -implicitDefEqProofs[hab',h,he]
  ·simp -implicitDefEqProofs[hab',h,he]
 ·have he:¬ a.map fv=b.map fv:=fun h=>hab (by simpa using congrArg List.length h);have hab':¬ (a.length:Int)=b.length:=by omega
  simp -implicitDefEqProofs[hab',he]
def Zba(l:List Fz):List (List UInt8):=l.map fun x=>Zk (fv x)
def Zkm(l:List Fz)(i:Nat):St:=⟨[(3,.bs (.loc 3) 1 1 0 i),(6,.sl (Zc l) .an),(7,.i .i64 l.length),(8,.i .i64 i)],[(.loc 3,⟨1,.own,1,Zf (Zba (l.take i))⟩)],3⟩
def zmy(l:List Fz)(hl:l.length<=1000)(hw:∀x∈l,fsz x<=400) :
  Zu T 0 0 (.norm false [3]) l274_0 (Zkm l 0)=some (.n,⟨[(3,.bs (.loc 3) 1 1 0 l.length)],[(.loc 3,⟨1,.own,1,Zf (Zba l)⟩)],3⟩):=by
 refine za3 (Zkm l) l.length _ (fun i hi=>?_) ?_
 ·have hws:=zc2 hi (by omega);have hn:=zh8 (T:=T) (l[i]'hi) (Yd (hw _ (Y0 hi)) (by decide));have e:Zba (l.take (i+1))=Zba (l.take i)++[Zk (fv (l[i]'hi))]:=zfo l _ hi;have hml:(Zba (l.take i)).length=i:=by simp[Zba];omega
  have hp:=zsj (Zba (l.take i)) (Zk (fv (l[i]'hi)));rw[hml]at hp;unfold Zkm;rw[e];have hb:i<=4294967295:=by omega
  simp -implicitDefEqProofs[l274_0,hi,hws,hn,hp,hml,hb]
 ·unfold Zkm;rw[Yb (Yi _)];constructor<;>simp -implicitDefEqProofs[l274_0]
theorem zv0{q:Rat}(h:sz q<=400):(Zk q).length<=10000:=by
 have key:∀{a:List UInt32},a.length<=400->(Zs (val a)).length<=4000:=by
  intro a ha;obtain⟨K,hK⟩:∃K,K=3999:=⟨_,rfl⟩;have h1:=zay a;have h2:4294967296^a.length<=(10^10)^a.length:=Ydr (by decide) _;rw[<-Yc7]at h2;have h3:10^(10*a.length)<=10^(K+1):=Yt (by decide) (by omega);have h4:=zie (k:=K) (Ym h1 (Yd h2 h3));omega
 grind[zih,zgc,zad,Z7,Zk]
def zyg(l:List Fz)(hl:l.length<=1000)(hw:∀x∈l,fsz x<=400):Zb T 274 [.sl (Zc l) .an]=some (.s (List.intercalate [44] (Zba l))):=by
 have h:=zmy (T:=T) l hl hw;unfold Zkm at h;have e:Zba (l.take 0)=[]:=rfl;rw[e]at h;simp only[zvx,Y8]at h;have hj:Zb T 183 [.sl (Zf (Zba l)) .an,.s [44]]=some (.s (List.intercalate [44] (Zba l))):=by
  grind[p183,zsk,Zba,zv0,zoo]
 have ht:List.take l.length (Zf (Zba l))=Zf (Zba l):=Yb (by simp[Zba]);have hl2:(Zba l).length=l.length:=by simp[Zba]
 rw[zaa Zb3.h274 rfl,b274];simp -implicitDefEqProofs[h,ht,hl2,hj]
end
@[simp] def zjk(l:List Rat):(fzs l).length=l.length:=by simp[fzs]
def Znx(c:Rat)(acc:List Rat)(r:List Fz):List Rat:=List.zipWith (fun q x=>q+c*fv x) acc r
def Zld(acc:List Rat)(r:List Fz):List Rat:=List.zipWith (fun q x=>q+fv x) acc r
section
variable{T:Tbl}[Zn T][Zw T][Zz T][Zr T][Zv T][Zat T][Zg T][Zm T][Zy T][Za5 T][Zb3 T]
def Zqd(k j n:Nat)(rest:List (List Fz))(r:List Fz)(L acc:List Rat)(i:Nat):St:=
 ⟨[(4,.bs (.fld (.loc 15) 3) 1 3 0 n),(17,.sl (Z4 rest) .an),(18,.i .i64 k),(19,.i .i64 j),(28,.sl (Zc r) .an),(29,.i .i64 n),(30,.i .i64 i)],
  [(.fld (.loc 15) 3,⟨1,.own,3,Zc (fzs (L.take i++acc.drop i))⟩)],3⟩
def Zqe(n:Nat)(rest:List (List Fz))(acc:List Rat)(j:Nat):St:=
 ⟨[(4,.bs (.fld (.loc 15) 3) 1 3 0 n),(17,.sl (Z4 rest) .an),(18,.i .i64 rest.length),(19,.i .i64 j)],[(.fld (.loc 15) 3,⟨1,.own,3,Zc (fzs ((rest.take j).foldl Zld acc))⟩)],3⟩
end
end Go.Ab
section
namespace Go.Ab
end Go.Ab
end
namespace Go.Ab
section
def l286_0:AX:=
 (.note
 (.seq
 (.seq
 (.reg [mv 8 7,mv 9 0,rg 10 (.len (.t 9)),rg 11 (.bin .lss (.t 8) (.t 10)),mv 12 11,gd 13 12 true (.mov (.t 7)),gd 14 12 true (.mov (.t 1)),gd 15 12 true (.bin .lss (.t 13) (.t 14)),rg 16 (.pick (.t 12) (.t 15) (.c (.b false)))])
 (.cond (.t 16)
 .skip
 (.exit 0)))
 (.seq
 (.block 1
 (.seq
 (.reg [mv 19 0,mv 20 7,rg 21 (.iad 3 (.t 19) (.t 20)),rg 22 (.load (some 3) (.t 21)),mv 23 2,rg 24 (.call 247 [(.t 22),(.t 23)])])
 (.cond (.t 24)
 (.seq
 (.reg [rg 6 (.mov (.c (.b true)))])
 (.pre (.norm false [6]) .ret))
 .skip)))
 (.reg [mv 17 7,rg 18 (.bin .add (.t 17) (.c (.i .i64 1))),mv 7 18])))
 (.norm false [0,1,2,7]))
def b286:AX:=
 (.seq
 (.reg [rg 6 (.mov (.c (.b false)))])
 (.seq
 (.seq
 (.reg [rg 7 (.mov (.c (.i .i64 0)))])
 (.lp 0 (.norm false [0,1,2,7]) l286_0 (.norm false [0,1])))
 (.seq
 (.reg [mv 25 0,rg 26 (.len (.t 25)),mv 27 1,rg 28 (.bin .gtr (.t 26) (.t 27)),mv 6 28])
 (.pre (.norm false [6]) .ret))))
abbrev row286:AFx:=⟨3,29,[.t 6],b286,none,false⟩
class Zbk (T:Tbl):Prop where
 h286:Tr T 286=some row286
attribute [simp] Zbk.h286
end
section
def b247:AX:=
 (.seq
 (.reg [rg 2 (.xop (.box 3) [(.t 0)]),rg 4 (.mov (.c (.b false)))])
 (.seq
 (.reg [rg 5 (.fad 1 (.t 2)),rg 6 (.load none (.t 5)),rg 7 (.len (.t 6)),mv 8 1,rg 9 (.bin .gtr (.t 7) (.t 8)),mv 10 9,gd 11 10 false (.fad 2 (.t 2)),gd 12 10 false (.load none (.t 11)),gd 13 10 false (.len (.t 12)),gd 14 10 false (.mov (.t 1)),gd 15 10 false (.bin .gtr (.t 13) (.t 14)),rg 16 (.pick (.t 10) (.c (.b true)) (.t 15)),mv 4 16])
 (.pre (.norm false [4]) .ret)))
abbrev row247:AFx:=⟨2,17,[.t 4],b247,none,false⟩
class Zbj (T:Tbl):Prop where
 h247:Tr T 247=some row247
attribute [simp] Zbj.h247
end
class Zbq (T:Tbl):Prop where
class Za2 (T:Tbl):Prop where
section
variable{T:Tbl}[Za2 T]
def atW(a:List UInt32)(i:Nat):Nat:=(a[i]?.map UInt32.toNat).getD 0
end
section
variable{T:Tbl}[Za2 T]
def Zno(a b:List UInt32)(n:Nat)(y:Nat×Nat×List UInt32):St:=
 ⟨[(0,.sl (Za a) .an),(1,.sl (Za b) .an),(5,.i .i64 n),(6,.bs (.loc 16) 1 1 0 n),(7,u64 y.2.1),(8,.i .i64 y.1)],[(.loc 16,⟨1,.own,1,Za y.2.2⟩)],3⟩
def Znp(a b:List UInt32)(n:Nat)(y:Nat×Nat×List UInt32):St:=
 ⟨[(0,.sl (Za a) .an),(1,.sl (Za b) .an),(5,.i .i64 n),(6,.bs (.loc 17) 1 1 0 n),(7,u64 y.2.1),(8,.i .i64 y.1)],[(.loc 17,⟨1,.own,1,Za y.2.2⟩)],3⟩
end
class Za3 (T:Tbl):Prop extends Za2 T where
section
variable{T:Tbl}[Za3 T]
def Zos(P S a b:List UInt32)(y:Nat×Nat×List UInt32):St:=
 ⟨[(0,.sl (Za a) .an),(1,.sl (Za b) .an),(5,.bs (.loc 14) 1 1 0 (P.length+S.length)),(6,.i .i64 P.length),(7,u64 y.2.1),(8,.i .i64 y.1)],[(.loc 14,⟨1,.own,1,Za (P++(y.2.2++S.drop y.1))⟩)],3⟩
end
section
variable{T:Tbl}[Za3 T]
def Znq(a b:List UInt32)(y:Nat×List UInt32):St:=
 ⟨[(0,.sl (Za a) .an),(1,.sl (Za b) .an),(5,.bs (.loc 14) 1 1 0 (a.length+b.length)),(6,.i .i64 y.1)],[(.loc 14,⟨1,.own,1,Za (y.2++List.replicate (a.length-y.1) 0)⟩)],3⟩
end
class Zas (T:Tbl):Prop extends Za3 T where
section
variable{T:Tbl}[Zas T]
def Zps(a:List UInt32)(y:Nat×Nat×List UInt32):St:=
 ⟨[(0,.bs (.bor 0) 0 1 0 a.length),(4,u32 y.2.1),(5,.i .i64 y.1)],[(.bor 0,⟨0,.own,1,Za (y.2.2++a.drop y.1)⟩)],4⟩
end
section
variable{T:Tbl}[Zas T]
def Zpt(a b:List UInt32)(y:Nat×Nat×List UInt32):St:=
 ⟨[(0,.bs (.bor 0) 0 1 0 a.length),(1,.sl (Za b) .an),(4,u64 y.2.1),(5,.i .i64 y.1)],[(.bor 0,⟨0,.own,1,Za (y.2.2++a.drop y.1)⟩)],4⟩
def Zpu(x i:Nat)(y:Nat):St:=⟨[(1,.i .i64 i),(5,u32 (x/2^y)),(6,.i .i64 y)],[],2⟩
end
section
variable{T:Tbl}[Zas T]
def Zpv(a:List UInt32)(y:Nat):St:=⟨[(0,.sl (Za a) .an),(3,.i .i64 y)],[],2⟩
end
section
variable{T:Tbl}[Zas T]
def Zpw(a b:List UInt32)(y:Nat×List UInt32×List UInt32):St:=
 ⟨[(0,.sl (Za a) .an),(1,.sl (Za b) .an),(6,.bs (.loc 11) 1 1 0 a.length),(7,.bs (.loc 15) 2 1 0 (b.length+1)),(8,.i .i64 ((y.1:Int)-1))],[(.loc 11,⟨1,.own,1,Za y.2.1⟩),(.loc 15,⟨2,.own,1,Za y.2.2⟩)],4⟩
end
class Za4 (T:Tbl):Prop extends Zas T where
section
variable{T:Tbl}[Za4 T]
def Zot(N:Nat)(y:Nat×Nat×List UInt32)(P:List UInt32):St:=
 ⟨[(0,.bs (.bor 0) 0 1 0 N),(3,u64 y.2.1),(4,.i .i64 ((y.1:Int)-1))],[(.bor 0,⟨0,.own,1,Za (P.take y.1++y.2.2)⟩)],4⟩
end
section
variable{T:Tbl}[Za4 T]
def Zp0(b:BId)(x:List UInt32)(s:List UInt8):St:=⟨[(3,.bs b 1 1 0 x.length),(4,.s s)],[(b,⟨1,.own,1,Za x⟩)],3⟩
end
section
variable{T:Tbl}
def Zpx(Q:List UInt32)(o n s i:Nat):St:=⟨[(0,.bs (.bor 0) 0 1 o n),(1,.i .i64 s),(5,.i .i64 i)],[(.bor 0,⟨0,.own,1,Za Q⟩)],4⟩
end
section
variable{T:Tbl}[Za2 T][Za3 T][Zas T][Za4 T][Zbq T]
def Zpy(Q R:List UInt32)(o n o2 n2 c i:Nat):St:=⟨[(0,.bs (.bor 0) 0 1 o n),(1,.bs (.bor 1) 1 1 o2 n2),(4,u64 c),(5,.i .i64 i)],[(.bor 0,⟨0,.own,1,Za Q⟩),(.bor 1,⟨1,.own,1,Za R⟩)],6⟩
def nmX:BId:=.fld (.loc 12) 22
def nmY:BId:=.fld (.loc 14) 22
def nm2(f:Bool):BId×BId:=if f then (nmX,nmY) else (nmY,nmX)
def Zpz(f:Bool)(P a S P2 b S2:List UInt32)(m n:Nat):St:=
 ⟨[(5,.bs (nm2 f).1 1 1 P.length a.length),(6,.bs (nm2 f).2 2 1 P2.length b.length),(7,.i .i64 m),(8,.i .i64 n)],[((nm2 f).1,⟨1,.own,1,Za (P++(a++S))⟩),((nm2 f).2,⟨2,.own,1,Za (P2++(b++S2))⟩)],4⟩
structure Gc where
 f:Bool
 P:List UInt32
 S:List UInt32
 P2:List UInt32
 S2:List UInt32
 X:Nat
 Y:Nat
end
class Zbz (T:Tbl):Prop extends Za4 T where
end Go.Ab
section
namespace Go.Ab
end Go.Ab
end
namespace Go.Ab
section
variable{T:Tbl}[Za2 T][Za3 T][Zas T][Za4 T][Zbq T][Zbz T][Zbj T]
def zf3(x:Fz)(k:Nat):Zb T 247 [efz x,.i .i64 k]=some (.b (decide (k<fsz x))):=by
 obtain⟨n,a,d⟩:=x;unfold fsz;rw[zaa Zbj.h247 rfl,b247];by_cases h1:k<a.length
 ·have h3:k<max a.length d.length:=by omega
  simp -implicitDefEqProofs[h1,h3]
 ·by_cases h2:k<d.length
  ·have h3:k<max a.length d.length:=by omega
   simp -implicitDefEqProofs[h1,h2,h3]
  ·have h3:¬ k<max a.length d.length:=by omega
   simp -implicitDefEqProofs[h1,h2,h3]
end
section
variable{T:Tbl}[Za2 T][Za3 T][Zas T][Za4 T][Zbq T][Zbz T][Zbj T][Zbk T]
def Zp1(n i:Nat):St:=⟨[(0,.i .i64 n),(3,.bs (.loc 3) 1 3 0 i),(4,.i .i64 i)],[(.loc 3,⟨1,.own,3,Zc (List.replicate i (fz 0))⟩)],3⟩
def Zp2(l:List Fz)(i:Nat):St:=⟨[(0,.sl (Zc l) .an),(3,.bs (.loc 3) 1 3 0 i),(4,.i .i64 i)],[(.loc 3,⟨1,.own,3,Zc (nrm (l.take i))⟩)],3⟩
def Zp3(a b:List Fz)(i:Nat):St:=⟨[(0,.sl (Zc a) .an),(1,.sl (Zc b) .an),(5,.i .i64 i)],[],2⟩
def Zp4(p q:List Rat)(i:Nat):St:=⟨[(0,.sl (Zc (fzs p)) .an),(1,.sl (Zc (fzs q)) .an),(5,.bs (.loc 5) 1 3 0 i),(6,.i .i64 i)],[(.loc 5,⟨1,.own,3,Zc (fzs ((Zld p (fzs q)).take i))⟩)],3⟩
def Zp5(p q:List Rat)(i:Nat):St:=⟨[(0,.sl (Zc (fzs p)) .an),(1,.sl (Zc (fzs q)) .an),(4,.ptr (.loc 4) 1 3 0 0),(5,.ptr (.loc 5) 2 3 0 0),(6,.i .i64 i)],
 [(.loc 4,⟨1,.str,3,[Zfa]⟩),(.loc 5,⟨2,.str,3,[Zak (fz (Zkl (fzs p) (fzs q) i))]⟩)],4⟩
def Zbv(l:List Fz)(many words:Nat):Bool:=decide (many<l.length) || l.any fun x=>decide (words<fsz x)
def Zgk(l:List Fz)(many words:Nat)(i:Nat):St:=⟨[(0,.sl (Zc l) .an),(1,.i .i64 many),(2,.i .i64 words),(7,.i .i64 i)],[],2⟩
def zr8(l:List Fz)(many words:Nat)(hl:l.length<=many)(hm:many<=1000) :
  Zu T 0 0 (.norm false [0,1]) l286_0 (Zgk l many words 0)=if (l.drop 0).any (fun x=>decide (words<fsz x))=true then some (.r,⟨[(6,.b true)],[],2⟩) else some (.n,⟨[(0,.sl (Zc l) .an),(1,.i .i64 many)],[],2⟩):=by
 refine zat (Zgk l many words) l.length (fun i=>if (l.drop i).any (fun x=>decide (words<fsz x))=true then some (.r,⟨[(6,.b true)],[],2⟩) else some (.n,⟨[(0,.sl (Zc l) .an),(1,.i .i64 many)],[],2⟩)) (fun i hi=>?_) ?_
 ·have hga:l[i]? = some (l[i]'hi):=Ya hi;have hws:=zc2 hi (by omega);have c:=zf3 (T:=T) (l[i]'hi) words;have h3:(i:Int)<many:=by omega
  have h4:i<many:=by omega
  have key:(l.drop i).any (fun x=>decide (words<fsz x))=(decide (words<fsz (l[i]'hi)) || (l.drop (i+1)).any fun x=>decide (words<fsz x)):=by
   rw[Yp hi,List.any_cons]
  by_cases he:words<fsz (l[i]'hi)
  ·right;rw[if_pos (by rw[key,decide_eq_true he,Bool.true_or])];rw[decide_eq_true he]at c;unfold Zgk;clear key he;constructor<;>simp -implicitDefEqProofs[l286_0,hi,h3,c]
  ·left;refine⟨?_,by grind⟩;rw[decide_eq_false he]at c;unfold Zgk;clear key he;simp -implicitDefEqProofs[l286_0,hi,h3,hws,c]
 ·rw[Yah,if_neg (by simp)];unfold Zgk;constructor<;>simp -implicitDefEqProofs[l286_0]
theorem zr9(l:List Fz)(many words:Nat)(hl:l.length<=many)(hm:many<=1000):Zb T 286 [.sl (Zc l) .an,.i .i64 many,.i .i64 words]=some (.b (Zbv l many words)):=by
 have h:=zr8 (T:=T) l many words hl hm;rw[Yat]at h;unfold Zgk at h;simp only[Y8]at h;have h1:¬ (many:Int)<l.length:=by omega
 have h2:¬ many<l.length:=by omega
 unfold Zbv;rw[zaa Zbk.h286 rfl,b286];cases hc:l.any fun x=>decide (words<fsz x) with
 | true=>
  rw[hc,if_pos rfl]at h;simp -implicitDefEqProofs[h,h2]
 | false=>
  rw[hc,if_neg (by decide)]at h;simp -implicitDefEqProofs[h,h1,h2]
def zsa(l:List Fz)(many words:Nat)(hl:many<l.length)(hm:many<=1000) :
  ∃r,(r=some (.r,(⟨[(6,.b true)],[],2⟩:St))\/r=some (.n,⟨[(0,.sl (Zc l) .an),(1,.i .i64 many)],[],2⟩))/\Zu T 0 0 (.norm false [0,1]) l286_0 (Zgk l many words 0)=r:=by
 obtain⟨G,hG⟩:∃G:Nat->Option (Ex×St),G=fun i=>if ((l.take many).drop i).any (fun x=>decide (words<fsz x))=true then some (.r,⟨[(6,.b true)],[],2⟩) else some (.n,⟨[(0,.sl (Zc l) .an),(1,.i .i64 many)],[],2⟩):=⟨_,rfl⟩
 refine⟨G 0,?_,zat (Zgk l many words) many G (fun i hi=>?_) ?_⟩
 ·grind
 ·have hil:i<l.length:=by omega
  have hil':(i:Int)<l.length:=by omega
  have hga:l[i]? = some (l[i]'hil):=Ya hil;have hws:=zc2 hi (by omega);have c:=zf3 (T:=T) (l[i]'hil) words;have key:((l.take many).drop i).any (fun x=>decide (words<fsz x))=(decide (words<fsz (l[i]'hil)) || ((l.take many).drop (i+1)).any fun x=>decide (words<fsz x)):=by
   grind[List.drop_eq_getElem_cons]
  by_cases he:words<fsz (l[i]'hil)
  ·right;rw[hG];simp only;rw[if_pos (by rw[key,decide_eq_true he,Bool.true_or])];rw[decide_eq_true he]at c;unfold Zgk;clear key he hG;constructor<;>simp -implicitDefEqProofs[l286_0,hi,hil,hil',c]
  ·left;refine⟨?_,by grind⟩;rw[decide_eq_false he]at c;unfold Zgk;clear key he hG;simp -implicitDefEqProofs[l286_0,hi,hil,hil',hws,c]
 ·rw[hG];simp only;rw[Ya9 (by grind),if_neg (by simp)];have h1:(many:Int)<l.length:=by omega
  unfold Zgk;constructor<;>simp -implicitDefEqProofs[l286_0,h1]
theorem zok(l:List Fz)(many words:Nat)(hl:many<l.length)(hm:many<=1000):Zb T 286 [.sl (Zc l) .an,.i .i64 many,.i .i64 words]=some (.b true):=by
 obtain⟨r,hr,h⟩:=zsa (T:=T) l many words hl hm;unfold Zgk at h;simp only[Y8]at h;have h1:(many:Int)<l.length:=by omega
 rw[zaa Zbk.h286 rfl,b286];rcases hr with rfl | rfl
 ·simp -implicitDefEqProofs[h]
 ·simp -implicitDefEqProofs[h,hl]
def ze0(l:List Fz)(many words:Nat)(hm:many<=1000):Zb T 286 [.sl (Zc l) .an,.i .i64 many,.i .i64 words]=some (.b (Zbv l many words)):=by
 grind[zok,Zbv,zr9]
def zc4{l:List Fz}{many words:Nat}(h:Zbv l many words=false):l.length<=many/\∀x∈l,fsz x<=words:=by
 grind[Zbv]
end
def Zis(n:Int):Nat:=(min (max n 0) 300).toNat
section
variable{T:Tbl}[Zn T][Zw T][Zz T][Zr T][Zv T][Zat T][Zg T][Zm T][Zy T][Za5 T][Zb3 T]
def Zo4(n i:Int):List Rat:=if 0<=i/\i<Zis n then (List.replicate (Zis n) 0).set i.toNat 1 else List.replicate (Zis n) 0
end
section
variable{T:Tbl}[Za2 T][Za3 T][Zas T][Za4 T][Zbq T][Zbz T][Zbj T][Zbk T]
def Zo5(n:Int)(i:Nat):St:=⟨[(0,.i .i64 n),(3,.bs (.loc 3) 1 3 0 i),(4,.i .i64 i)],[(.loc 3,⟨1,.own,3,Zc (List.replicate i (fz 0))⟩)],3⟩
end
class Zhh (T:Tbl):Prop where
end Go.Ab