/-
  A calculus of values, boxes and code, and what functions of the program compute, proved in it.
  Conditions: none beyond those that the theorems state. (Part 9.)
-/
import Derived.Test.YtpkknnhpfhpbdaaGreatPart8

set_option linter.unusedSectionVars false
set_option linter.unusedVariables false
set_option linter.unusedSimpArgs false
set_option linter.unnecessarySimpa false
set_option linter.defProp false
set_option maxRecDepth 100000

namespace Go.Ab
section
def l122_0:AX:=QZ "eW60N9_pV35RyBtp0qBiAmF5Eux.ZCYpvO3eQ8WML6IIU"
def b122:AX:=(fun p0=>QY [p0] [] "AiUlRiUQCUHYLt4Ym3C0e.i8VfpFEs.d7_eJDAMStOVSBsFypcXMGjPAtLvE38X_LEN0mKJTv3BGkP6da84UVc") l122_0
def l95_0:AX:=QZ "7iNy7.iyoxb67JIDSes_ypHafCZR4JzG6YiODoAB3CLe1vT"
def b95:AX:=(fun p0=>QY [p0] [] "4GjcgGzCOpmCvW4v8i9AP1cSRx33t4BzJh") l95_0
def l96_0:AX:=QY [] [(u32 2147483648)] "1y48JqY8.ET_VWMPMlCxGaOYQgAzD5zdi9UyJuLQRFd965JPDngKvZ7nlc6B.uh1wuVyLOhXPtK_KzV"
def b96:AX:=(fun p0=>QY [p0] [] "09bq986i1js9yNtA98WxoR") l96_0
def l97_0:AX:=QY [] [(u64 4294967296)] "4DZfh8tQOjOdCpYJWxe478sAJs3EW73cBauhrn6sfoxHt.yB3eEdA2UyJjubpDv.yqDZjMZAHUkt1DmKtJpO0i8uwP4fk.cKBoDWck1vFrpmH.GxDXjS"
def b97:AX:=(fun p0=>QY [p0] [] "19kj11pMNuG.S") l97_0
def l63_0:AX:=QZ "00V5_Pk2f9L6m7LW3gsIqMMfHC9V1N7u2AOUeX1Mabk1Ea76FHHyFYxHRf7172fU9VuC2pxu4jBNz5ZuKi7UuQU65nmI37DGvONeBJr6P6sQPAaDrg7nT"
def b63:AX:=(fun p0=>QY [p0] [] "0FzTWt6eX2vav7f6UFP2xJavFbDF3TB8_b6je.BVNJj7.rdeZwuoC7CN79qKvv3WWY0.2Z_.ig4crbMA.flG") l63_0
abbrev row122:AFx:=⟨2,32,[.t 4],b122,none,false⟩
abbrev row95:AFx:=⟨1,19,[.t 2],b95,none,false⟩
abbrev row96:AFx:=⟨2,30,[],b96,(some [true,false]),false⟩
abbrev row97:AFx:=⟨2,37,[],b97,(some [true,false]),false⟩
abbrev row63:AFx:=⟨2,54,[.t 4,.t 5],b63,none,false⟩
class Zx (T:Tbl):Prop extends Z8 T where
 h122:Tr T 122=some row122
 h95:Tr T 95=some row95
 h96:Tr T 96=some row96
 h97:Tr T 97=some row97
 h63:Tr T 63=some row63
attribute [simp] Zx.h122 Zx.h95 Zx.h96 Zx.h97 Zx.h63
end
section
def l224_0:AX:=QZ "2WcPa.1D.KUnBcVkRFCM8VWUx5ce_RJUOwVnjH_vQ"
def b224:AX:=(fun p0=>QY [p0] [] "BAD19w84tUrcZ2ANXTMM9a8BIK4WjcmXDDn7cv") l224_0
def l225_0:AX:=QY [] [(u64 4294967296)] "3xwsYWzDQnsSzTr_QwIHHDNzh4POdIkjsSmyp7qBUWZCFWRyNjyP9LFnXrZQSt54kAYEc9kZhRmwTkMwzII4bQm7GwkSiyCFDxlc2U"
def l225_1:AX:=QZ "1QL4QYMK5YSMuJvYmACT1bHiV4Ash.MYyBLgpSDnBgWp_G23z7ohIUz7WKrh9zS"
def b225:AX:=(fun p0 p1=>QY [p0,p1] [] "E96r1giGF7xZdHzCgy4wcRxXcwkwgo") l225_0 l225_1
def l226_0:AX:=QZ "0Mxt8OAX_nXz9ujfXXhYGfNSJV3PdJsw9nDsLN8Cf2S"
def b226:AX:=(fun p0=>QY [p0] [] "0l9jn1A.JlvuvGV.GuzWrQVS6DlTnCqMpoiT40HiJmHz84SHQI5Fpof") l226_0
def b227:AX:=QZ "1ucXXRZWpOIS6IUdXatacONTWns6ZsfiTkFYcey.bmolv0epWGAKN9Jf"
def l228_0:AX:=QZ "98ex1HQfMRA9uTbjjhBB_OKHEODM5qlDEjAG2s.X8Og82y4ObjcaP.Q0MmPhzJJNcH4koZG28WwJ.tVIpT4bVBDuwfTsnwb0jz3uMV"
def b228:AX:=(fun p0=>QY [p0] [] "2FNyaG3HWJ96QZJst.fxwIcMQFQzAKOQCbE.KKy6pOOvvoxQPkwk4QKiBBp9zQoXbvS8YExPEhvItaYhmBO16i.wOfjvpPZcolduSeiQ3dBSvfu8a2xgm5NoOprku4rPp3Z7rblA9mDFP01DXQSq1JA") l228_0
def b229:AX:=QZ "4Gh7RGwVbYk0eLsx.G_bit0jeJ5ub.CBNI"
def b230:AX:=QZ "EkFIYiqg5fmrbolwDHU98_Ih9RC_hx2ss4iXyanms9WMz7e5XBKutsnROLrxgJtS4B"
def l2097_0:AX:=QY [] [(u64 4294967296)] "4DZfh8tQOjOdCpYJWxe478sAJs3EW73cBauhrn6sfoxHt.yB3eEdA2UyJjubpDv.yqDZjMZAHUkt1DmKtJpO0i8uwP4fk.cKBoDWck1vFrpmH.GxDXjS"
def b2097:AX:=(fun p0=>QY [p0] [] "19kj11pMNuG.S") l2097_0
abbrev row224:AFx:=⟨1,14,[.t 2],b224,none,false⟩
abbrev row225:AFx:=⟨2,56,[.t 4],b225,(some [true,false]),false⟩
abbrev row226:AFx:=⟨1,24,[.t 2,.t 3],b226,(some [true]),false⟩
abbrev row227:AFx:=⟨2,17,[.t 4],b227,none,false⟩
abbrev row228:AFx:=⟨2,56,[.t 4],b228,none,false⟩
abbrev row229:AFx:=⟨1,12,[.t 2],b229,none,false⟩
abbrev row230:AFx:=⟨2,18,[.t 4],b230,none,false⟩
abbrev row2097:AFx:=⟨2,37,[],b2097,(some [true,true]),false⟩
class Zw (T:Tbl):Prop where
 h224:Tr T 224=some row224
 h225:Tr T 225=some row225
 h226:Tr T 226=some row226
 h227:Tr T 227=some row227
 h228:Tr T 228=some row228
 h229:Tr T 229=some row229
 h230:Tr T 230=some row230
 h2097:Tr T 2097=some row2097
attribute [simp] Zw.h224 Zw.h225 Zw.h226 Zw.h227 Zw.h228 Zw.h229 Zw.h230 Zw.h2097
end
section
variable{T:Tbl}[Zx T]
def Zol(a:List UInt32)(y:Nat×Nat×List UInt32):St:=
 ⟨[(0,.bs (.bor 0) 0 1 0 a.length),(4,u32 y.2.1),(5,.i .i64 y.1)],[(.bor 0,⟨0,.own,1,Zc (y.2.2++a.drop y.1)⟩)],4⟩
def z81{p m c c' w s x k:Nat}(h:m+p*c=2*s+k)(e:w+4294967296*c'=2*x+c):(m+p*w)+p*4294967296*c'=2*(s+p*x)+k:=by
 grind
end
section
variable{T:Tbl}
def z82(a:List UInt32)(c0:Nat)(hl:a.length<=1000000):∀y:Nat×Nat×List UInt32,
  (y.1<=a.length/\y.2.1<=1/\y.2.2.length=y.1/\val y.2.2+4294967296^y.1*y.2.1=2*val (a.take y.1)+c0) ->
  ∃r,(∃(c:Nat) (m:List UInt32),r=(Ex.n,(⟨[],[(.bor 0,⟨0,.own,1,Zc m⟩)],4⟩:St)) /\
   m.length=a.length/\c<=1/\val m+4294967296^a.length*c=2*val a+c0)/\Ze T 1 0 (.norm false []) l96_0 (Zol a y)=some r:=by
 refine zar _ _ (fun y=>a.length-y.1) _ ?_
 rintro⟨i,c,m⟩ ⟨hi,hc,hm,hv⟩
 simp only at hi hc hm hv;by_cases h0:i<a.length
 ·left;have ha:a[i]? = some (a[i]'h0):=Yb h0;have hg:=zee (P:=[]) hm h0;have hw:IntKind.wrap .i64 ((i:Int)+1)=((i+1:Nat):Int):=zab _ (by omega);have hlx:=zan (a[i]'h0);have hset:=zd1 (P:=[]) (w32 ((a[i]'h0).toNat*2%4294967296+c)) hm h0;simp at hg hset;have m1:((a[i]'h0).toNat*2%4294967296+c)%4294967296=(a[i]'h0).toNat*2%4294967296+c:=Yq (by omega);have m2:(a[i]'h0).toNat/2147483648<4294967296:=by omega
  have m3:(a[i]'h0).toNat*2%4294967296+c<4294967296:=by omega
  refine⟨(i+1,(a[i]'h0).toNat/2147483648,m++[w32 ((a[i]'h0).toNat*2%4294967296+c)]),⟨h0,by grind,by grind,?_⟩,by omega,?_⟩
  ·rw[zaj,zaf ha,Yan,hm];simp only[zao,zbh,Yax,Yad,zcp];exact z81 hv (by omega)
  ·simp -implicitDefEqProofs[l96_0,Zol,h0,hw,hg,hset,m1,m2,zbp _ _ _ m3]
 ·right;have:i=a.length:=by omega
  subst this;rw[Ya (Ye a.length)]at hv;refine⟨_,⟨c,m,rfl,hm,hc,hv⟩,?_,?_⟩<;>simp -implicitDefEqProofs[l96_0,Zol]
end
section
variable{T:Tbl}[Zx T]
def zia(a:List UInt32)(v:Bool)(hl:a.length<=1000000) :
  ∃(c:Nat) (m:List UInt32),m.length=a.length/\c<=1/\val m+4294967296^a.length*c=2*val a+(if v then 1 else 0) /\
   Z4 T 96 [.bs (.bor 0) 0 1 0 a.length,.b v] [(.bor 0,⟨0,.own,1,Zc a⟩)]=some (.tup [],[(.bor 0,⟨0,.own,1,Zc m⟩)]):=by
 obtain⟨_,⟨c,m,rfl,hm,hc,hv⟩,hr⟩:=z82 (T:=T) a (if v then 1 else 0) hl (0,(if v then 1 else 0),[]) ⟨Yv _,by grind,rfl,by simp_all⟩;refine⟨c,m,hm,hc,hv,?_⟩;unfold Zol at hr;rw[zam Zx.h96 rfl,b96];cases v
 ·simp at hr;simp -implicitDefEqProofs[hr]
 ·simp at hr;simp -implicitDefEqProofs[hr]
def Znn(a b:List UInt32)(y:Nat×Nat×List UInt32):St:=
 ⟨[(0,.bs (.bor 0) 0 1 0 a.length),(1,.sl (Zc b) .an),(4,u64 y.2.1),(5,.i .i64 y.1)],[(.bor 0,⟨0,.own,1,Zc (y.2.2++a.drop y.1)⟩)],4⟩
def z83(a b:List UInt32)(hl:a.length<=1000000)(hb:b.length<=1000000):∀y:Nat×Nat×List UInt32,
  (y.1<=a.length/\y.2.1<=1/\y.2.2.length=y.1/\val y.2.2+val (b.take y.1)=val (a.take y.1)+4294967296^y.1*y.2.1) ->
  ∃r,(∃(c:Nat) (m:List UInt32),r=(Ex.n,(⟨[],[(.bor 0,⟨0,.own,1,Zc m⟩)],4⟩:St)) /\
   m.length=a.length/\c<=1/\val m+val (b.take a.length)=val a+4294967296^a.length*c)/\Ze T 1 0 (.norm false []) l97_0 (Znn a b y)=some r:=by
 refine zar _ _ (fun y=>a.length-y.1) _ ?_
 rintro⟨i,c,m⟩ ⟨hi,hc,hm,hv⟩
 simp only at hi hc hm hv;by_cases h0:i<a.length
 ·left;have ha:a[i]? = some (a[i]'h0):=Yb h0;have hg:=zee (P:=[]) hm h0;have hw:IntKind.wrap .i64 ((i:Int)+1)=((i+1:Nat):Int):=zab _ (by omega);have cb:=zd7 (T:=T) b i hb;have la:=zan (a[i]'h0);have lb:=zkd b i;have e1:=zaf ha;have e2:=zbm b i;simp at hg;have m1:(a[i]'h0).toNat%18446744073709551616=(a[i]'h0).toNat:=Yq (by omega);have m2:atW b i%18446744073709551616=atW b i:=Yq (by omega);have m3:(atW b i+c)%18446744073709551616=atW b i+c:=Yq (by omega);have m4:((a[i]'h0).toNat+4294967296)%18446744073709551616=(a[i]'h0).toNat+4294967296:=Yq (by omega);have fin:∀s d:Nat,d<=1->s<4294967296->s+(atW b i+c)=(a[i]'h0).toNat+4294967296*d ->
    val (m++[w32 s])+val (b.take (i+1))=val (a.take (i+1))+4294967296^(i+1)*d:=by
   grind[zaj,zao,zbh,zah]
  by_cases h1:(a[i]'h0).toNat<atW b i+c
  ·have hs:Ze0 ((a[i]'h0).toNat+4294967296) (atW b i+c)=(a[i]'h0).toNat+4294967296-(atW b i+c):=zfs (by omega) (by omega);have hset:=zd1 (P:=[]) (w32 ((a[i]'h0).toNat+4294967296-(atW b i+c))) hm h0;simp at hset;refine⟨(i+1,1,m++[w32 ((a[i]'h0).toNat+4294967296-(atW b i+c))]),⟨h0,Ye _,by grind,fin _ 1 (by omega) (by omega) (by omega)⟩,by omega,?_⟩;simp -implicitDefEqProofs[l97_0,Znn,h0,cb,m1,m2,m3,m4,h1,hs,hg,hw,hset]
  ·have hs:Ze0 (a[i]'h0).toNat (atW b i+c)=(a[i]'h0).toNat-(atW b i+c):=zfs (by omega) (by omega);have hset:=zd1 (P:=[]) (w32 ((a[i]'h0).toNat-(atW b i+c))) hm h0;simp at hset;refine⟨(i+1,0,m++[w32 ((a[i]'h0).toNat-(atW b i+c))]),⟨h0,Yv _,by grind,fin _ 0 (by omega) (by omega) (by omega)⟩,by omega,?_⟩;simp -implicitDefEqProofs[l97_0,Znn,h0,cb,m1,m2,m3,h1,hs,hg,hw,hset]
 ·right;have:i=a.length:=by omega
  subst this;rw[Ya (Ye a.length)]at hv;refine⟨_,⟨c,m,rfl,hm,hc,hv⟩,?_,?_⟩<;>simp -implicitDefEqProofs[l97_0,Znn]
def zvh(a b:List UInt32)(hl:a.length<=1000000)(hb:b.length<=a.length)(hab:val b<=val a) :
  ∃m:List UInt32,m.length=a.length/\val m=val a-val b /\
   Z4 T 97 [.bs (.bor 0) 0 1 0 a.length,.sl (Zc b) .an] [(.bor 0,⟨0,.own,1,Zc a⟩)]=some (.tup [],[(.bor 0,⟨0,.own,1,Zc m⟩)]):=by
 obtain⟨_,⟨c,m,rfl,hm,hc,hv⟩,hr⟩:=z83 (T:=T) a b hl (by omega) (0,0,[]) ⟨Yv _,Yv _,rfl,by simp⟩;rw[Ya hb]at hv;have hlo:=za3 m;have hval:val m=val a-val b:=by
  rcases Ya4 c with h1 | h1
  all_goals grind
 refine⟨m,hm,hval,?_⟩;unfold Znn at hr;rw[zam Zx.h97 rfl,b97]
 simp_all
def Zom(x i:Nat)(y:Nat):St:=⟨[(1,.i .i64 i),(5,u32 (x/2^y)),(6,.i .i64 y)],[],2⟩
end
section
variable{T:Tbl}
def z84(x i:Nat)(_hi:i<=100000000)(hx:x<4294967296):∀y:Nat,y<=i%32 ->
  ∃r,(r=(Ex.n,(⟨[(5,u32 (x/2^(i%32)))],[],2⟩:St)))/\Ze T 0 0 (.norm false [5]) l122_0 (Zom x i y)=some r:=by
 refine zar _ _ (fun y=>i%32-y) _ ?_;intro j hj;have hm:((i:Int).tmod 32)=((i%32:Nat):Int):=rfl;by_cases h0:j<i%32
 ·left;have hw:IntKind.wrap .i64 ((j:Int)+1)=((j+1:Nat):Int):=zab _ (by omega);have hd:x/2^j/2=x/2^(j+1):=by rw[Yby,Yan]
  have hd2:x/2^(j+1)%4294967296=x/2^(j+1):=Yq (Ydo (Yb9 _ _) hx);refine⟨j+1,h0,by omega,?_⟩;have hj2:(j:Int)<(i:Int)%32:=by omega
  simp -implicitDefEqProofs[l122_0,Zom,hm,hw,hd,hd2,hj2]
 ·right;have:j=i%32:=by omega
  subst this;refine⟨_,rfl,?_,?_⟩<;>simp -implicitDefEqProofs[l122_0,Zom,hm]
end
section
variable{T:Tbl}[Zx T]
def zpo(a:List UInt32)(i:Nat)(hl:a.length<=1000000)(hi:i<32*a.length) :
  Za T 122 [.sl (Zc a) .an,.i .i64 i]=some (.b (decide (val a/2^i%2=1))):=by
 have h1:i/32<a.length:=by omega
 have ha:a[i/32]? = some (a[i/32]'h1):=Yb h1;obtain⟨_,rfl,hr⟩:=z84 (T:=T) (a[i/32]'h1).toNat i (by omega) (zan _) 0 (Yv _);unfold Zom at hr;simp at hr;have hq:IntKind.wrap .i64 ((i:Int)/32)=(i:Int)/32:=zab (i/32) (by omega);have hq1:((i:Int)/32).toNat=i/32:=by omega
 have hq2:(0:Int)<=(i:Int)/32:=by omega
 have hq3:(i:Int)/32<(a.length:Int):=by omega
 have hq4:¬ (a.length:Int)<=(i:Int)/32:=by omega
 have hb:=z1t ha;rw[zaa Zx.h122 rfl,b122];simp -implicitDefEqProofs[hr,hq,hq1,hq2,hq3,hq4,h1,hb]
def Zjm(a:List UInt32)(y:Nat):St:=⟨[(0,.sl (Zc a) .an),(3,.i .i64 y)],[],2⟩
def z85(a:List UInt32)(hl:a.length<=1000000):∀y:Nat,(y<=32*a.length/\val a<2^y) ->
  ∃r,(∃n:Nat,r=(Ex.n,(⟨[(3,.i .i64 n)],[],2⟩:St))/\n<=32*a.length/\val a<2^n)/\Ze T 0 0 (.norm false [3]) l95_0 (Zjm a y)=some r:=by
 refine zar _ _ (fun y=>y) _ ?_
 rintro k ⟨hk,hv⟩
 by_cases h0:k=0
 ·right;subst h0;refine⟨_,⟨0,rfl,Yv _,hv⟩,?_,?_⟩<;>simp -implicitDefEqProofs[l95_0,Zjm]
 ·obtain⟨j,rfl⟩:∃j,k=j+1:=⟨k-1,by omega⟩;have hw:IntKind.wrap .i64 (j:Int)=(j:Int):=zab _ (by omega);have hh:=zpo (T:=T) a j hl (by omega);have hp:(0:Int)<(j:Int)+1:=by omega
  by_cases h1:val a/2^j%2=1
  ·right;refine⟨_,⟨j+1,rfl,hk,hv⟩,?_,?_⟩<;>simp -implicitDefEqProofs[l95_0,Zjm,hw,hh,hp,h1]
  ·left;refine⟨j,⟨by omega,zp7 hv (by omega)⟩,by omega,?_⟩;simp -implicitDefEqProofs[l95_0,Zjm,hw,hh,hp,h1]
def zz6(a:List UInt32)(hl:a.length<=1000000):∃n:Nat,n<=32*a.length/\val a<2^n/\Za T 95 [.sl (Zc a) .an]=some (.i .i64 n):=by
 obtain⟨_,⟨n,rfl,hn,hv⟩,hr⟩:=z85 (T:=T) a hl (32*a.length) ⟨Ye _,by rw[<-zp5];exact za3 a⟩;refine⟨n,hn,hv,?_⟩;unfold Zjm at hr;simp at hr;have hw:IntKind.wrap .i64 (32*(a.length:Int))=32*(a.length:Int):=by
  grind[zab]
 rw[zaa Zx.h95 rfl,b95];simp -implicitDefEqProofs[hr,hw]
end
section
variable{T:Tbl}[Zx T]
def z4e(n:Nat)(h:n<32):Zak .shl (u32 1) (.i .i64 (n:Int))=some (u32 (2^n)):=by
 have h1:¬ (n:Int)<0:=by omega
 have h2:2^n<4294967296:=by
  have:2^n<2^32:=Nat.pow_lt_pow_right (by decide) h;simpa using this
 have h3:min n IntKind.u32.bits=n:=by
  have:IntKind.u32.bits=32:=rfl;rw[this];omega
 have h4:((1:Nat):Int)*2^n=((2^n:Nat):Int):=by simp
 unfold u32;simp only[Zak,if_neg h1,Ybl,h3,h4,zeq,Yq h2]
def zae9{v b Q L:Nat}(hb:0<b)(hq:Q=v/2/b)(hr:L=v/2%b) :
  (b<=2*L+v%2->v/b=2*Q+1/\v%b=2*L+v%2-b)/\(2*L+v%2<b->v/b=2*Q/\v%b=2*L+v%2):=by
 have h1:=Ybs (v/2) b;have h2:L<b:=by rw[hr];exact Ya5 _ hb
 rw[<-hq,<-hr]at h1;have h3:v=b*(2*Q)+(2*L+v%2):=by
  rw[<-Yal,Yaw b 2,Yal];omega
 have ht:v%2<2:=Ya5 _ (by decide);clear h1 hq hr;generalize v%2=t at *
 rw[h3];constructor
 ·intro h;have e:b*(2*Q)+(2*L+t)=(2*L+t-b)+b*(2*Q+1):=by rw[Yas,Yd4];omega
  rw[e,Yb6 _ _ hb,Ydc,Ya3 (by omega),Yq (by omega)];omega
 ·intro h;rw[Yba,Yb6 _ _ hb,Ydc,Ya3 h,Yq h];omega
def z86{a:List UInt32}{x:UInt32}(h:a[0]? = some x)(hx:x.toNat+1<4294967296):val (a.set 0 (w32 (x.toNat+1)))=val a+1:=by
 cases a with
 | nil=>cases h
 | cons y l=>
  cases h;simp only[Yb4,zao,zah hx];omega
def Zlx(a b:List UInt32)(y:Nat×List UInt32×List UInt32):St:=
 ⟨[(0,.sl (Zc a) .an),(1,.sl (Zc b) .an),(6,.bs (.loc 11) 1 1 0 a.length),(7,.bs (.loc 15) 2 1 0 (b.length+1)),(8,.i .i64 ((y.1:Int)-1))],[(.loc 11,⟨1,.own,1,Zc y.2.1⟩),(.loc 15,⟨2,.own,1,Zc y.2.2⟩)],4⟩
def z87(a b:List UInt32)(ha:a.length<=100000)(hb:b.length<=100000)(h0b:0<val b):∀y:Nat×List UInt32×List UInt32,
  (y.1<=32*a.length/\y.2.1.length=a.length/\y.2.2.length=b.length+1/\val y.2.1=val a/2^y.1/val b/\val y.2.2=val a/2^y.1%val b) ->
  ∃r,(∃Q L:List UInt32,r=(Ex.n,(⟨[(6,.bs (.loc 11) 1 1 0 a.length),(7,.bs (.loc 15) 2 1 0 (b.length+1))],[(.loc 11,⟨1,.own,1,Zc Q⟩),(.loc 15,⟨2,.own,1,Zc L⟩)],4⟩:St)) /\
   Q.length=a.length/\L.length=b.length+1/\val Q=val a/val b/\val L=val a%val b)/\Ze T 0 0 (.norm false [6,7]) l63_0 (Zlx a b y)=some r:=by
 refine zar _ _ (fun y=>y.1) _ ?_
 rintro⟨k,Q,L⟩ ⟨hk,hQ,hL,hq,hr⟩
 simp only at hk hQ hL hq hr;cases k with
 | zero=>
  right;rw[Ydu,Yfi]at hq hr;refine⟨_,⟨Q,L,rfl,hQ,hL,hq,hr⟩,?_,?_⟩<;>simp -implicitDefEqProofs[l63_0,Zlx]
 | succ j=>
  left;have h1:j/32<a.length:=by omega
  have hag:a[j/32]? = some (a[j/32]'h1):=Yb h1;have hbit:=z1t hag;have hw:IntKind.wrap .i64 ((j:Int)-1)=(j:Int)-1:=zab _ (by omega);have hsh:Zak .shl (u32 1) (.i .i64 ((j:Int)%32))=some (u32 (2^(j%32))):=z4e (j%32) (Ya5 _ (by decide));have hm:((j:Int).tmod 32)=((j%32:Nat):Int):=rfl;have hj0:IntKind.wrap .i64 ((j:Int)/32)=(j:Int)/32:=zab (j/32) (by omega);have hj1:((j:Int)/32).toNat=j/32:=by omega
  have hj2:(0:Int)<=(j:Int)/32:=by omega
  have hj3:(j:Int)/32<(a.length:Int):=by omega
  have hxl:=zan (a[j/32]'h1);obtain⟨cL,L2,hL2,hcL,hvL,hrL⟩:=zia (T:=T) L (decide ((a[j/32]'h1).toNat/2^(j%32)%2=1)) (by omega);obtain⟨cQ,Q2,hQ2,hcQ,hvQ,hrQ⟩:=zia (T:=T) Q false (by omega);have hcmp:=zfe (T:=T) L2 b (by omega) (by omega);have hpq:(2^(j%32))≠0:=Nat.ne_of_gt (Ybe (by decide));rw[hL]at hrL;rw[hQ]at hrQ;rw[hL]at hL2;rw[hQ]at hQ2;have htL:List.take (b.length+1) L2=L2:=Ya (by omega);have hres:∃Q3 L3:List UInt32,Q3.length=a.length/\L3.length=b.length+1/\val Q3=val a/2^j/val b/\val L3=val a/2^j%val b /\
    (evX (orc T) T 0 l63_0 (Zlx a b (j+1,Q,L))=some (Ex.n,Zlx a b (j,Q3,L3))):=by
   have hvb:=za3 b;have hva:=za3 a;have hLb:val L<val b:=by rw[hr];exact Ya5 _ h0b
   have hv2:val a/2^(j+1)=val a/2^j/2:=by rw[Yan,Yby]
   rw[hv2]at hq hr;have hlaw:=zae9 h0b hq hr;have hva2:val a/2^j<=val a:=Yb9 _ _;have hq2:2*val Q<=val a/2^j:=by
    have h2:val a/2^j/2/val b<=val a/2^j/2:=Yb9 _ _;omega
   have hL0:val L2=2*val L+val a/2^j%2:=by
    have hb2:(if decide ((a[j/32]'h1).toNat/2^(j%32)%2=1)=true then 1 else 0)=val a/2^j%2:=by
     rw[hbit];simp only[decide_eq_true_eq];split<;>omega
    rw[hb2,hL,Yan]at hvL;have ht:val a/2^j%2<2:=Ya5 _ (by decide);generalize val a/2^j%2=t at *
    generalize 4294967296^b.length=p at *
    rcases Ya4 cL with h | h
    ·rw[h,Yax,Yad]at hvL;exact hvL
    ·have:=Yaq (p*4294967296) h;generalize p*4294967296*cL=u at *
     omega
   have hQ0:val Q2=2*val Q:=by
    rw[hQ]at hvQ;simp at hvQ;generalize 4294967296^a.length=p at *
    rcases Ya4 cQ with h | h
    ·rw[h,Yax,Yad]at hvQ;exact hvQ
    ·have:=Yaq p h;generalize p*cQ=u at *
     omega
   rw[<-hL0]at hlaw;by_cases hle:val b<=val L2
   ·have hc:(0:Int)<=Zeb (val L2) (val b):=by
     unfold Zeb;split
     ·omega
     ·split<;>omega
    obtain⟨L3,hL3,hvL3,hrL3⟩:=zvh (T:=T) L2 b (by omega) (by omega) hle;rw[hL2]at hrL3 hL3;have h0Q:0<Q2.length:=by omega
    have hQg:Q2[0]? = some (Q2[0]'h0Q):=Yb h0Q;have hev:(Q2[0]'h0Q).toNat+1<4294967296:=by
     have:=zan (Q2[0]'h0Q);have hc:val Q2=(Q2[0]'h0Q).toNat+4294967296*val (Q2.drop 1):=by
      conv=>lhs;rw[<-Y6 (l:=Q2),Yg h0Q,zao]
     omega
    have h0a:0<a.length:=by omega
    have hQg':=hQg;have hev':=hev;generalize hqq:(Q2[0]'h0Q).toNat=qq at hev';refine⟨Q2.set 0 (w32 ((Q2[0]'h0Q).toNat+1)),L3,by simp[hQ2],hL3,by rw[z86 hQg hev,hQ0,(hlaw.1 hle).1],by rw[hvL3,(hlaw.1 hle).2],?_⟩;simp -implicitDefEqProofs[l63_0,Zlx,hw,hsh,hm,hj0,hj1,hj2,hj3,h1,hrL,hrQ,hL2,htL,hcmp,hc,hrL3,hQ2,h0a]
   ·have hc:¬ (0:Int)<=Zeb (val L2) (val b):=by unfold Zeb;rw[if_pos (by omega)];decide
    have hlt:val L2<val b:=by omega
    refine⟨Q2,L2,hQ2,hL2,by rw[hQ0,(hlaw.2 hlt).1],by rw[(hlaw.2 hlt).2],?_⟩;simp -implicitDefEqProofs[l63_0,Zlx,hw,hsh,hm,hj0,hj1,hj2,hj3,h1,hrL,hrQ,hL2,htL,hcmp,hc]
  obtain⟨Q3,L3,e1,e2,e3,e4,e5⟩:=hres;exact⟨(j,Q3,L3),⟨by simp only;omega,e1,e2,e3,e4⟩,Y7 j,e5⟩
def zz7(a b:List UInt32)(ha:a.length<=100000)(hb:b.length<=100000)(h0b:0<val b) :
  Za T 63 [.sl (Zc a) .an,.sl (Zc b) .an]=some (.tup [.sl (Zc (ofN (val a/val b))) .an,.sl (Zc (ofN (val a%val b))) .an]):=by
 obtain⟨n,hn,hvn,hln⟩:=zz6 (T:=T) a (by omega);have hd0:val a/2^n=0:=Ya3 hvn;obtain⟨_,⟨Q,L,rfl,hQ,hL,hq,hr⟩,hlp⟩:=z87 (T:=T) a b ha hb h0b (n,List.replicate a.length 0,List.replicate (b.length+1) 0)
  ⟨hn,by simp,by simp,by simp[zbq,hd0],by simp only[hd0,Nat.zero_mod];exact zbq _⟩
 have hw:IntKind.wrap .i64 ((n:Int)-1)=(n:Int)-1:=zab _ (by omega);have hw2:IntKind.wrap .i64 ((b.length:Int)+1)=((b.length+1:Nat):Int):=zab _ (by omega);have h1:(a.length:Int)<=4294967296:=by omega
 have h2:(b.length:Int)+1<=4294967296:=by omega
 have hn1:=zbt (T:=T) Q (by omega);have hn2:=zbt (T:=T) L (by omega);have t1:List.take a.length Q=Q:=Ya (by omega);have t2:List.take (b.length+1) L=L:=Ya (by omega);unfold Zlx at hlp;simp at hlp;rw[zaa Zx.h63 rfl,b63];simp -implicitDefEqProofs[hln,hw,hw2,h1,h2,hlp,hQ,hL,t1,t2,hn1,hn2,hq,hr]
end
section
def l2043_0:AX:=QZ "2XqayF6QYNahpdz.nrY3461.OPn6qNNCwIyUCwREFAuu_t9vU"
def b2043:AX:=(fun p0=>QY [p0] [] "3WgQU0f2ZzTnd5hyhHsSfvNFNGmQOhUxXsmvaoA39") l2043_0
abbrev row2043:AFx:=⟨1,23,[.t 2],b2043,(some [false]),false⟩
class Zae (T:Tbl):Prop extends Zx T where
 h2043:Tr T 2043=some row2043
attribute [simp] Zae.h2043
end
section
variable{T:Tbl}[Zae T]
def zgc(a:List UInt32)(hl:a.length<=1000000):Z4 T 2043 [.sl (Zc a) .an] [] =
  some (.bs (.loc 22) 1 1 0 (ofN (val a)).length,[(.loc 22,⟨1,.own,1,Zc (ofN (val a))⟩)]):=by
 obtain⟨n,h1,h2,h3,h4⟩:=zhe a;have hr:=zfd (T:=T) a (by omega) h1 h3 h4 a.length ⟨h1,Ye _⟩;rw[show l43_0=l2043_0 from rfl]at hr;have hlen:(ofN (val a)).length=n:=by rw[<-h2];simp;omega
 have hb:n<=4294967296:=by omega
 rw[zam Zae.h2043 rfl,b2043];simp -implicitDefEqProofs[hr,h1,h2,hb,hlen]
def Zs2(N:Nat)(y:Nat×Nat×List UInt32)(P:List UInt32):St:=
 ⟨[(0,.bs (.bor 0) 0 1 0 N),(3,u64 y.2.1),(4,.i .i64 ((y.1:Int)-1))],[(.bor 0,⟨0,.own,1,Zc (P.take y.1++y.2.2)⟩)],4⟩
end
section
variable{T:Tbl}[Zae T]
def Zua(b:BId)(x:List UInt32)(s:List UInt8):St:=⟨[(3,.bs b 1 1 0 x.length),(4,.s s)],[(b,⟨1,.own,1,Zc x⟩)],3⟩
end
section
def b39:AX:=QZ "U7ektJBPgDeg7KR5kvEIgMQkqWKiJyyKDapn7LZ3kF6HmYhU8akM"
def b24:AX:=QZ "2q7NhxGbSQgv0.daABWVdC3.0yIdEMY7JN.pN6A1oSGqV_3l3kjUDl4Bkn8TQWuryldpnZoqYV31B2_EaIFzP_l77xID.233Bq3wXqRH.Q9jLR.d_s5fO3b8egdEZSAiPF_AVMSom"
abbrev row39:AFx:=⟨1,16,[.cell 2 (some 2)],b39,none,false⟩
abbrev row24:AFx:=⟨2,43,[.cell 4 (some 2)],b24,none,false⟩
class Zag (T:Tbl):Prop extends Zae T where
 h39:Tr T 39=some row39
 h24:Tr T 24=some row24
attribute [simp] Zag.h39 Zag.h24
end
section
def b231:AX:=QZ "evhfvQJ7aqH5.roDavBIqhhC9x6JIG5v2tPbs9HvfsWzReUCAk3tglfpKwzufsAkXUd9INoyKjGwyFEjZJCUm.iFk9Oye6IEw32DokI6_Z581T5uRGSsCNzWJSHbEQetLvoWjX1ip_Utvk2WrIu3_zs3OiL_DNm"
def b232:AX:=QZ "5vj1QW5gMkEycVHXBleVJ5y5hj_NBK4tgDpKnYHbirqVJCss9kxLizxRzpUJrdn72u.F7XPfaO7SeEElSPdSibnx6"
def b233:AX:=QZ "np_6iBDjotz4QtxLh51W8Pc38So44H1JvjZQGFNVpmT0Czbp7_hMSXrYeboyqk0hdXbi.T"
def b235:AX:=QZ "F6EHWYRiQpisMu5dvOA"
def b236:AX:=QY [] [(AV.i .i64 (-1))] "1wAiAcIeU6nXVUIMj.EQ0aX4iI4hMzceKZydZ.of_8"
def b237:AX:=QZ "ZUgoJJHbWSpB.2_8GYSjWtSYZdR8k7n2OXnoN"
def b239:AX:=QZ "3goEByylnI7GfPW5mXlHCkY8FMtJtZYce7BnI0QFu_WjJCT6NqkGKAlYvJ52WXvZdnyBu2RulyJCMRXxvHtum_Biwk3IRN3YdH35IHvUsSiWkTdxgUnQ_Huluta6Z8hi_YOzHS1.C.nBZ2I2Ieb6.xAqTC8"
def b240:AX:=QZ "0Yma7HEx.xF1JQTrPC5WBX6iMjoXNFv"
def b241:AX:=QZ "2xLq7Vk_JlKEUqfqxCPqtS6p0gmjGaKdWRYVIQLFXDs8VGqbmRN9.iWzpvaY673Y"
def b242:AX:=QZ "2xLq7Vk_JlKEUqfqxCPqtS6p0dGC2rt3JKTniGHTbnPuiK57IfvNXycy24ZFbOKH"
def b247:AX:=QZ "800qrWENS6MP3l_DD8EiqKZ4mlgYkPP1S3wkqTvlu7J"
def b353:AX:=QY [] [(u64 4294967296)] "KCu9RkmReLGYJVJLElKukt6m6j1z08lno9"
abbrev row231:AFx:=⟨1,40,[.cell 2 (some 3)],b231,none,false⟩
abbrev row232:AFx:=⟨1,21,[.cell 2 (some 3)],b232,none,false⟩
abbrev row233:AFx:=⟨2,24,[.t 4],b233,none,false⟩
abbrev row235:AFx:=⟨1,7,[.t 2],b235,none,false⟩
abbrev row236:AFx:=⟨1,9,[.t 2],b236,none,false⟩
abbrev row237:AFx:=⟨1,12,[.cell 2 (some 3)],b237,none,false⟩
abbrev row239:AFx:=⟨2,38,[.cell 4 (some 3)],b239,none,false⟩
abbrev row240:AFx:=⟨2,9,[.cell 4 (some 3)],b240,none,false⟩
abbrev row241:AFx:=⟨2,22,[.cell 4 (some 3)],b241,none,false⟩
abbrev row242:AFx:=⟨2,22,[.cell 4 (some 3)],b242,none,false⟩
abbrev row247:AFx:=⟨2,17,[.t 4],b247,none,false⟩
abbrev row353:AFx:=⟨1,11,[.t 2],b353,none,false⟩
class Zq (T:Tbl):Prop where
 h231:Tr T 231=some row231
 h232:Tr T 232=some row232
 h233:Tr T 233=some row233
 h235:Tr T 235=some row235
 h236:Tr T 236=some row236
 h237:Tr T 237=some row237
 h239:Tr T 239=some row239
 h240:Tr T 240=some row240
 h241:Tr T 241=some row241
 h242:Tr T 242=some row242
 h247:Tr T 247=some row247
 h353:Tr T 353=some row353
attribute [simp] Zq.h231 Zq.h232 Zq.h233 Zq.h235 Zq.h236 Zq.h237 Zq.h239 Zq.h240 Zq.h241 Zq.h242 Zq.h247 Zq.h353
end
section
def l276_0:AX:=QZ "Ipj5e2lCRbL8kc8krpQV.YY325d.XswCloZ_RGBLrHwbk9Q8MnxEzqGLKrU"
def b276:AX:=(fun p0=>QY [p0] [] "q29dEWG0mpp3yd9qhpMPzlWTW.A") l276_0
def l278_0:AX:=QZ "n_nmtLmwTjAEV1fYfHn_jD1ounf0NlDsbLNbwm5hw7o4JhSjPBff2Q"
def b278:AX:=(fun p0=>QY [p0] [] "stDZgKaQGXoqhc5xE.PAu2Fwnx7") l278_0
def l279_0:AX:=QZ "07wXb9gPDzpIaCQxkA9BV3bROvxa6gIIAvcMur_eR9AX9SPfxA25vH5MnNIYV"
def b279:AX:=(fun p0=>QY [p0] [] "1f7iVLBYVrwlPvcCNgtFCHEu1c3zMLELoS203") l279_0
def l286_0:AX:=QZ "2igFDS9.ndBn_gZ4iQyMSuXZzMrTEhk.O7OcXZnQuAjZg1bWiaobNsbTm91EoXcSUR"
def b286:AX:=(fun p0=>QY [p0] [] "2xECEB1_qbZP5sfw_h_di5bnv.WLipJ4") l286_0
abbrev row276:AFx:=⟨1,19,[.t 2],b276,none,false⟩
abbrev row278:AFx:=⟨1,20,[.t 2],b278,none,false⟩
abbrev row279:AFx:=⟨2,27,[.t 4],b279,none,false⟩
abbrev row286:AFx:=⟨3,29,[.t 6],b286,none,false⟩
class Z9 (T:Tbl):Prop where
 h276:Tr T 276=some row276
 h278:Tr T 278=some row278
 h279:Tr T 279=some row279
 h286:Tr T 286=some row286
attribute [simp] Z9.h276 Z9.h278 Z9.h279 Z9.h286
end
class Zgm (T:Tbl):Prop where
class Zij (T:Tbl):Prop where
section
def b248:AX:=QZ "PQaOqNAYsVQh4YwQLpZ_1SCHEJzLl8CZ70BE"
def b249:AX:=QZ "Gs4SqO1meGLJ6k7ZEI1tA.h_wu2rNTRINcy"
abbrev row248:AFx:=⟨1,11,[.cell 2 (some 3)],b248,none,false⟩
abbrev row249:AFx:=⟨1,12,[.cell 2 (some 3)],b249,none,false⟩
class Zdd (T:Tbl):Prop where
 h248:Tr T 248=some row248
 h249:Tr T 249=some row249
attribute [simp] Zdd.h248 Zdd.h249
end
section
def l287_0:AX:=QZ "n_nmtLmwTjAEV1fYfHn_jD1ounf12FowKXDzCqRBJuHo3e1EwMZi2R"
def b287:AX:=(fun p0=>QY [p0] [] "stDZgKaQGXoqhc5xE.PAu2Fwnx7") l287_0
def l288_0:AX:=QZ "n_nmtLmwTjAEV1fYfHn_jD1ounf12FowKXEAz4Zx9fBGsHR52FNIER"
def b288:AX:=(fun p0=>QY [p0] [] "stDZgKaQGXoqhc5xE.PAu2Fwnx7") l288_0
def b289:AX:=QZ "3P_O_QBQHAA0dzZv3vsnrgn"
abbrev row287:AFx:=⟨1,20,[.t 2],b287,none,false⟩
abbrev row288:AFx:=⟨1,20,[.t 2],b288,none,false⟩
abbrev row289:AFx:=⟨2,9,[.t 4],b289,none,false⟩
class Zcx (T:Tbl):Prop where
 h287:Tr T 287=some row287
 h288:Tr T 288=some row288
 h289:Tr T 289=some row289
attribute [simp] Zcx.h287 Zcx.h288 Zcx.h289
end
section
def l308_0:AX:=QZ "QrsL7mafVN304YPyhjIHnJo6CUVVCtKUos7eHSp7RMIvCCMR8SUU"
def b308:AX:=(fun p0=>QY [p0] [] "_DX0seZzf4Ot7WLiNpEpShrK2_E") l308_0
def l309_0:AX:=QZ "VxMce84ILZxtOasV.u_6nwDHljgFuNZavRdusis25DhaoDs5tcn.zc1TsjQ"
def b309:AX:=(fun p0=>QY [p0] [] "1f7iVLBYVrwlPvcCNgtFCHEu1c3zMLELoS203") l309_0
abbrev row308:AFx:=⟨1,20,[.t 2],b308,none,false⟩
abbrev row309:AFx:=⟨2,27,[.t 4],b309,none,false⟩
class Zdz (T:Tbl):Prop where
 h308:Tr T 308=some row308
 h309:Tr T 309=some row309
attribute [simp] Zdz.h308 Zdz.h309
end
end Go.Ab