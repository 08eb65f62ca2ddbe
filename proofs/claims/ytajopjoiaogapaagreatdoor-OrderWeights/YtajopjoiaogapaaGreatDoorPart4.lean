/-
  A calculus of values, boxes and code, and what functions of the program compute, proved in it.
  Conditions: none beyond those that the theorems state. (Part 4.)
-/
import Derived.Test.YtajopjoiaogapaaGreatDoorPart3
import Derived.Lib.IndexAny
import Derived.Lib.Bytealg

set_option linter.unusedSectionVars false
set_option linter.unusedVariables false
set_option linter.unusedSimpArgs false
set_option linter.unnecessarySimpa false

namespace Go.Ab
section
variable{T:Tbl}[Zx T]
theorem zu5(l:List UInt8)(hl:l.length≤1000000):Za T 64 [.s l,.s [45]]=some (.tup [.s (if l.head? = some 45 then l.tail else l),.b (l.head? = some 45)]):=by
 have h1:Za T 123 [.s l,.s [45]]=some (.b (l.head? = some 45)):=by
  rw[zab Zx.h123 rfl,b123];cases l with
  | nil=>simp -implicitDefEqProofs
  | cons c r=>
   have h2:(1:Int)≤(r.length:Int)+1:=by omega
   by_cases hc:c=45<;>simp -implicitDefEqProofs[h2,hc]
 have h3:Za T 98 [.s l,.s [45]]=some (.tup [.s (if l.head? = some 45 then l.tail else l),.b (l.head? = some 45)]):=by
  rw[zab Zx.h98 rfl,b98];cases l with
  | nil=>simp -implicitDefEqProofs[h1]
  | cons c r=>
   have h2:(1:Int)≤(r.length:Int)+1:=by omega
   by_cases hc:c=45
   ·subst hc;simp -implicitDefEqProofs[h1,h2]
   ·simp -implicitDefEqProofs[h1,hc]
 rw[zab Zx.h64 rfl,b64];simp -implicitDefEqProofs[h3]
end
section
variable{T:Tbl}
theorem z26(l:List UInt8)(hl:l.length≤1000000):∀i:Nat,i≤l.length →
  Zj T 0 0 (.norm false [0]) l99_0 ⟨[(0,.s l),(5,.i .i64 l.length),(6,.i .i64 i)],[],2⟩ =
   if 0≤Zdo i (l.drop i) then some (.r,⟨[(2,.i .i64 (Zdo i (l.drop i)))],[],2⟩) else some (.n,⟨[(0,.s l)],[],2⟩):=by
 refine zav (fun i:Nat=>⟨[(0,.s l),(5,.i .i64 l.length),(6,.i .i64 i)],[],2⟩) _ (fun i=>l.length-i) _ ?_;intro i hi;by_cases h0:i<l.length
 ·have hg:l[i]? = some (l[i]'h0):=Ya h0;have hd:=Yj h0;have hw:IntKind.wrap .i64 ((i:Int)+1)=((i+1:Nat):Int):=zac _ (by omega);by_cases hc:(l[i]'h0).toNat<48∨57<(l[i]'h0).toNat∨i=60
  ·right;rw[hd];have e:Zdo i (l[i]'h0::List.drop (i+1) l)=i:=by simp only[Zdo];rw[if_pos hc]
   rw[e];by_cases c1:(l[i]'h0).toNat<48
   ·constructor<;>simp -implicitDefEqProofs[l99_0,h0,c1]
   ·by_cases c2:57<(l[i]'h0).toNat
    ·constructor<;>simp -implicitDefEqProofs[l99_0,h0,c1,c2]
    ·have c3:i=60:=by omega
     subst c3;have h0':(60:Int)<(l.length:Int):=by omega
     constructor<;>simp -implicitDefEqProofs[l99_0,h0,h0',c1,c2]
  ·left;have e:Zdo i (l.drop i)=Zdo (i+1) (l.drop (i+1)):=by rw[hd];simp only[Zdo];rw[if_neg hc]
   have c1:¬ (l[i]'h0).toNat<48:=fun h=>hc (.inl h);have c2:¬ 57<(l[i]'h0).toNat:=fun h=>hc (.inr (.inl h));have c3:¬ ((i:Int)=60):=fun h=>hc (.inr (.inr (by omega)));refine⟨i+1,h0,by show l.length-(i+1)<l.length-i;omega,?_,?_⟩
   ·simp -implicitDefEqProofs[l99_0,h0,c1,c2,c3,hw]
   ·simp only[e]
 ·right;have:i=l.length:=by omega
  subst this;rw[Y5];constructor<;>simp -implicitDefEqProofs[l99_0,Zdo]
end
section
variable{T:Tbl}[Zx T]
theorem zmq(l:List UInt8)(hl:l.length≤1000000):Za T 99 [.s l]=some (.i .i64 (Z8 l)):=by
 have h:=z26 (T:=T) l hl 0 (Yo _);have hg:=zpj 0 l;rw[Yad]at h;simp at h;rw[zab Zx.h99 rfl,b99];unfold Z8;by_cases h0:l=[]
 ·subst h0;simp[Zdo]at h;simp -implicitDefEqProofs[h]
 ·by_cases h1:0≤Zdo 0 l
  ·rw[if_pos h1]at h;simp -implicitDefEqProofs[h,h0]
  ·rw[if_neg h1]at h;have h2:Zdo 0 l=-1:=by omega
   simp -implicitDefEqProofs[h,h0,h2]
end
section
variable{T:Tbl}[Zq T][Zv T][Zx T]
def Zk9(l:List UInt8)(o:List UInt32)(i0 k:Nat):St:=
 ⟨[(0,.s l),(3,.ptr (.loc 3) 1 4 0 0),(5,.sl (Zb o) .an),(6,.i .i64 (i0+k:Nat)),(7,u32 (rd ((l.drop i0).take k))),(8,u32 (10^k)),(9,.i .i64 k)],[(.loc 3,⟨1,.str,4,[[.i .i64 0,.i .i64 0,.i .i64 0,.i .i64 0]]⟩)],3⟩
end
section
variable{T:Tbl}
theorem z27(l:List UInt8)(o:List UInt32)(i0 kf:Nat)(hl:l.length≤60)(hd:∀c∈l,48≤c.toNat∧c.toNat≤57)(hkf:kf=min 9 (l.length-i0))(hi0:i0≤l.length):∀k,k≤kf →
  Zj T 0 2 (.norm false [0,3,5,6,7,8]) l65_0 (Zk9 l o i0 k) =
   some (.n,⟨[(0,.s l),(3,.ptr (.loc 3) 1 4 0 0),(5,.sl (Zb o) .an),(6,.i .i64 (i0+kf:Nat)),(7,u32 (rd ((l.drop i0).take kf))),(8,u32 (10^kf))],[(.loc 3,⟨1,.str,4,[[.i .i64 0,.i .i64 0,.i .i64 0,.i .i64 0]]⟩)],3⟩):=by
 refine zav (fun k=>Zk9 l o i0 k) _ (fun k=>kf-k) _ ?_;intro k hk;by_cases h0:k<kf
 ·left;have hi:i0+k<l.length:=by omega
  have hg:l[i0+k]? = some (l[i0+k]'hi):=Ya hi;have hgd:(l.drop i0)[k]? = some (l[i0+k]'hi):=by rw[Yao];exact hg
  have hc:=hd _ (Yr hi);obtain⟨p,hp⟩:∃p,p=i0+k:=⟨_,rfl⟩;have hx:=zxq (l:=(l.drop i0).take k) fun c hc=>hd c (Yc0 (Yav hc));have hlen:((l.drop i0).take k).length=k:=by simp;omega
  rw[hlen]at hx;have hp8:10^k≤10^8:=Yk (by decide) (by omega);have hr:=znp hgd;have hw:IntKind.wrap .i64 ((k:Int)+1)=((k+1:Nat):Int):=zac _ (by omega);have hw2:IntKind.wrap .i64 ((p:Int)+1)=((i0+(k+1):Nat):Int):=by rw[zac _ (by omega)];omega
  have hk9:(k:Int)<9:=by omega
  have hpl:(p:Int)<l.length:=by omega
  refine⟨k+1,h0,by show kf-(k+1)<kf-k;omega,?_,rfl⟩;unfold Zk9;rw[hr,Y4];subst hp;generalize hcd:(l[i0+k]'hi).toNat=c at *
  generalize rd ((l.drop i0).take k)=x at *
  generalize 10^k=t at *
  have m1:x*10%4294967296=x*10:=Yh (by omega);have m2:Zk5 c 48=c-48:=z2w (by omega) (by omega);have m3:(c-48)%4294967296=c-48:=Yh (by omega);have m4:(x*10+(c-48))%4294967296=x*10+(c-48):=Yh (by omega);have m5:t*10%4294967296=t*10:=Yh (by omega);have hpl':(i0:Int)+k<l.length:=by omega
  have hw2':IntKind.wrap .i64 ((i0:Int)+k+1)=(i0:Int)+(k+1):=by rw[zac _ (by omega)];omega
  simp -implicitDefEqProofs[l65_0,hk9,hpl',hi,hcd,m1,m2,m3,m4,m5,hw,hw2']
 ·right;have:k=kf:=by omega
  subst this;unfold Zk9;generalize rd ((l.drop i0).take k)=x;generalize 10^k=t;by_cases h9:k=9
  ·subst h9;constructor<;>simp -implicitDefEqProofs[l65_0]
  ·have hk9:(k:Int)<9:=by omega
   have hpl':¬ ((i0:Int)+k<l.length):=by omega
   constructor<;>simp -implicitDefEqProofs[l65_0,hk9,hpl']
end
section
variable{T:Tbl}[Zv T]
theorem z28(l:List UInt8)(hl:l.length≤60)(hd:∀c∈l,48≤c.toNat∧c.toNat≤57):∀i:Nat,i≤l.length →
  Zj T 0 0 (.norm false [3,5]) l65_1 ⟨[(0,.s l),(3,.ptr (.loc 3) 1 4 0 0),(5,.sl (Zb (ofN (rd (l.take i)))) .an),(6,.i .i64 i)],[(.loc 3,⟨1,.str,4,[[.i .i64 0,.i .i64 0,.i .i64 0,.i .i64 0]]⟩)],3⟩ =
   some (.n,⟨[(3,.ptr (.loc 3) 1 4 0 0),(5,.sl (Zb (ofN (rd l))) .an)],[(.loc 3,⟨1,.str,4,[[.i .i64 0,.i .i64 0,.i .i64 0,.i .i64 0]]⟩)],3⟩):=by
 refine zav (fun i:Nat=>⟨[(0,.s l),(3,.ptr (.loc 3) 1 4 0 0),(5,.sl (Zb (ofN (rd (l.take i)))) .an),(6,.i .i64 i)],[(.loc 3,⟨1,.str,4,[[.i .i64 0,.i .i64 0,.i .i64 0,.i .i64 0]]⟩)],3⟩) _ (fun i=>l.length-i) _ ?_;intro i hi;by_cases h0:i<l.length
 ·left;obtain⟨kf,hkf⟩:∃kf,kf=min 9 (l.length-i):=⟨_,rfl⟩;have h:=z27 (T:=T) l (ofN (rd (l.take i))) i kf hl hd hkf hi 0 (Yo _);unfold Zk9 at h;simp[show rd []=0 from rfl]at h;have hx:=zxq (l:=(l.drop i).take kf) fun c hc=>hd c (Yc0 (Yav hc));have hlen:((l.drop i).take kf).length=kf:=by simp;omega
  rw[hlen]at hx;have hp8:10^kf≤10^9:=Yk (by decide) (by omega);have hol:(ofN (rd (l.take i))).length≤60:=by
   refine zag ?_;have h1:=zxq (l:=l.take i) fun c hc=>hd c (Yav hc);have h2:10^(l.take i).length≤10^60:=Yk (by decide) (by simp;omega);exact Yp h1 (Yc h2 (by decide))
  have hpw:=zv1 (T:=T) (ofN (rd (l.take i))) (10^kf) (rd ((l.drop i).take kf)) (by omega) (by omega) (by omega);have hr:rd (l.take (i+kf))=rd (l.take i)*10^kf+rd ((l.drop i).take kf):=by
   rw[List.take_add,ziq,hlen]
  rw[zae,←hr]at hpw;refine⟨i+kf,by omega,by show l.length-(i+kf)<l.length-i;omega,?_,rfl⟩;simp -implicitDefEqProofs[l65_1,h0,h,hpw]
 ·right;have:i=l.length:=by omega
  subst this;rw[Ydi];constructor<;>simp -implicitDefEqProofs[l65_1]
end
section
variable{T:Tbl}[Zv T][Zx T]
theorem zhy(l:List UInt8)(hl:l.length≤1000000):Za T 65 [.s l]=some (.tup (if 0≤Z8 l then [.sl [] .an,.agg [.i .i64 1,.i .i64 0,.i .i64 0,.i .i64 (Z8 l)]]
  else [.sl (Zb (ofN (rd l))) .an,.agg [.i .i64 0,.i .i64 0,.i .i64 0,.i .i64 0]])):=by
 have hw:=zmq (T:=T) l hl;rw[zab Zx.h65 rfl,b65];by_cases h0:0≤Z8 l
 ·simp -implicitDefEqProofs[hw,h0]
 ·have h1:Zdo 0 l<0:=by
   unfold Z8 at h0;split at h0
   ·omega
   ·omega
  obtain⟨h2,h3⟩:=zg4 0 l (Yo _) h1;have h:=z28 (T:=T) l (by omega) h3 0 (Yo _);simp[show rd []=0 from rfl]at h;simp -implicitDefEqProofs[hw,h0,h]
end
def sg(n:Bool)(k:Nat):Int:=if n then -(k:Int) else k
def wv(n:Bool)(a:List UInt32):Int:=sg n (val a)
abbrev wh(n:Bool)(a:List UInt32):AV:=.agg [.b n,.sl (Zb a) .an]
abbrev ez(z:Int):AV:=wh (decide (z<0)) (ofN z.natAbs)
def sgI(z:Int):Int:=if z<0 then -1 else if z=0 then 0 else 1
theorem z1l(n:Bool)(k:Nat):decide (sg n k<0)=(n&&decide (k≠0)):=by
 cases n
 ·simp[sg]
 ·by_cases h:k=0<;>simp[sg,h];omega
theorem znq(n:Bool)(k:Nat):(sg n k).natAbs=k:=by cases n<;>simp[sg]
@[simp] theorem zi6(z:Int):wv (decide (z<0)) (ofN z.natAbs)=z:=by
 unfold wv;rw[zae];by_cases h:z<0
 ·simp[sg,h];omega
 ·simp[sg,h];omega
theorem z92(n:Bool)(a:List UInt32):(wv n a).natAbs=val a:=znq n _
theorem z41(n:Bool)(k:Nat):ez (sg n k)=wh (n&&decide (k≠0)) (ofN k):=by
 unfold ez;rw[z1l,znq]
theorem zir(n:Bool)(x y:Nat):sg n (x+y)=sg n x+sg n y:=by cases n<;>simp[sg]<;>omega
theorem znr{n m:Bool}(h:n≠m){x y:Nat}(hxy:x<y):sg m (y-x)=sg n x+sg m y:=by
 cases n<;>cases m<;>simp[sg]at h ⊢<;>omega
theorem zns{n m:Bool}(h:n≠m){x y:Nat}(hxy:¬ x<y):sg n (x-y)=sg n x+sg m y:=by
 cases n<;>cases m<;>simp[sg]at h ⊢<;>omega
theorem z93(n:Bool)(x:Nat):sg (!n) x=- sg n x:=by cases n<;>simp[sg]
theorem z1m(n m:Bool)(x y:Nat):sg (n != m) (x*y)=sg n x*sg m y:=by cases n<;>cases m<;>simp[sg,Int.mul_neg,Int.neg_mul]
theorem z94(n:Bool)(x:Nat):sgI (sg n x)=if x=0 then 0 else if n then -1 else 1:=by
 unfold sgI;cases n<;>simp[sg]<;>split<;>(try split)<;>omega
def Zmx(z:Int):List UInt8:=if z<0 then 45::Zhr z.natAbs else Zhr z.natAbs
theorem zbw{x y:Int}{L:Nat}(hx:(ofN x.natAbs).length≤L)(hy:(ofN y.natAbs).length≤L):(ofN (x+y).natAbs).length≤L+1:=by
 refine zag ?_;have h1:=za0 (ofN x.natAbs);have h2:=za0 (ofN y.natAbs);rw[zae]at h1 h2;have h3:4294967296^(ofN x.natAbs).length≤4294967296^L:=Yk (by decide) hx;have h4:4294967296^(ofN y.natAbs).length≤4294967296^L:=Yk (by decide) hy;rw[Y4];generalize 4294967296^L=p at *
 omega
theorem zis(x:Int):ofN (-x).natAbs=ofN x.natAbs:=by rw[Int.natAbs_neg]
theorem zbi{x y:Int}{L M:Nat}(hx:(ofN x.natAbs).length≤L)(hy:(ofN y.natAbs).length≤M):(ofN (x*y).natAbs).length≤L+M:=by
 refine zag ?_;have h1:=za0 (ofN x.natAbs);have h2:=za0 (ofN y.natAbs);rw[zae]at h1 h2;rw[Int.natAbs_mul,Ybb];exact Nat.mul_lt_mul'' (Yp h1 (Yk (by decide) hx)) (Yp h2 (Yk (by decide) hy))
theorem zcf(n:Bool)(a:List UInt32):(ofN (wv n a).natAbs).length≤a.length:=by rw[z92];exact zad a
def Zbd(l:List UInt8):Int:=sg (l.head? = some 45) (rd (if l.head? = some 45 then l.tail else l))
def Zcl(l:List UInt8):Int:=Z8 (if l.head? = some 45 then l.tail else l)
def Zdi(l:List UInt8):Int:=if l.head? = some 45 then 1 else 0
theorem zle{l:List UInt8}(h0:¬ 0≤Zcl l):(ofN (Zbd l).natAbs).length≤60:=by
 unfold Zcl at h0;unfold Zbd;rw[znq];generalize (if l.head? = some 45 then l.tail else l)=l' at *
 have h1:Zdo 0 l'<0:=by
  unfold Z8 at h0;split at h0
  ·omega
  ·omega
 obtain⟨h2,h3⟩:=zg4 0 l' (Yo _) h1;refine zag (k:=60) ?_;have h4:=zxq h3;have h5:10^l'.length≤10^60:=Yk (by decide) (by omega);exact Yp h4 (Yc h5 (by decide))
def b55:AX:=
 (.seq
 (.reg [rg 4 (.alloc [(.b false),(.sl [] .nl)])])
 (.seq
 (.reg [mv 5 0,mv 6 5,gd 7 6 true (.mov (.t 1)),gd 8 6 true (.len (.t 7)),gd 9 6 true (.bin .gtr (.t 8) (.c (.i .i64 0))),rg 10 (.pick (.t 6) (.t 9) (.c (.b false))),mv 11 1,rg 12 (.build [(.b false),(.sl [] .nl)] [(0,1,(.t 10)),(1,1,(.t 11))]),so (.store 2 (.t 4) (.t 12))])
 (.pre (.norm false [4]) .ret)))
def b38:AX:=
 (.seq
 (.reg [rg 1 (.xop (.box 2) [(.t 0)]),rg 2 (.alloc [(.b false),(.sl [] .nl)])])
 (.seq
 (.drawT [rg 3 (.fad 0 (.t 1)),rg 4 (.load none (.t 3)),rg 5 (.fad 1 (.t 1)),rg 6 (.load none (.t 5)),rg 7 (.call 71 [(.t 6)])]
 [rg 8 (.call 55 [(.t 4),(.t 7)]),so (.store 2 (.t 2) (.t 8))])
 (.pre (.norm false [2]) .ret)))
def b40:AX:=
 (.seq
 (.reg [rg 1 (.xop (.box 2) [(.t 0)]),rg 2 (.alloc [(.b false),(.sl [] .nl)])])
 (.seq
 (.drawT [rg 3 (.fad 0 (.t 1)),rg 4 (.load none (.t 3)),rg 5 (.un .not (.t 4)),rg 6 (.fad 1 (.t 1)),rg 7 (.load none (.t 6)),rg 8 (.call 71 [(.t 7)])]
 [rg 9 (.call 55 [(.t 5),(.t 8)]),so (.store 2 (.t 2) (.t 9))])
 (.pre (.norm false [2]) .ret)))
def b23:AX:=
 (.seq
 (.reg [rg 2 (.xop (.box 2) [(.t 0)]),rg 3 (.xop (.box 2) [(.t 1)]),rg 4 (.alloc [(.b false),(.sl [] .nl)])])
 (.seq
 (.seq
 (.reg [rg 7 (.fad 0 (.t 2)),rg 8 (.load none (.t 7)),rg 9 (.fad 0 (.t 3)),rg 10 (.load none (.t 9)),rg 11 (.eqb false (.t 8) (.t 10))])
 (.cond (.t 11)
 (.seq
 (.drawT [rg 12 (.fad 0 (.t 2)),rg 13 (.load none (.t 12)),rg 14 (.fad 1 (.t 2)),rg 15 (.load none (.t 14)),rg 16 (.fad 1 (.t 3)),rg 17 (.load none (.t 16)),rg 18 (.bsl 1 [(.sl [] .nl)] 2 [(0,(.t 15)),(1,(.t 17))]),rg 19 (.call 56 [(.t 18)])]
 [rg 20 (.call 55 [(.t 13),(.t 19)]),so (.store 2 (.t 4) (.t 20))])
 (.pre (.norm false [4]) .ret))
 .skip))
 (.seq
 (.reg [rg 22 (.fad 1 (.t 2)),rg 23 (.load none (.t 22)),rg 24 (.fad 1 (.t 3)),rg 25 (.load none (.t 24)),rg 26 (.call 57 [(.t 23),(.t 25)]),mv 21 26,rg 27 (.ext (.t 21) 0),rg 28 (.ext (.t 21) 1),mv 5 27,mv 6 28])
 (.seq
 (.seq
 (.reg [mv 29 6,rg 30 (.bin .lss (.t 29) (.c (.i .i64 0)))])
 (.cond (.t 30)
 (.seq
 (.reg [rg 31 (.fad 0 (.t 3)),rg 32 (.load none (.t 31)),mv 33 5,rg 34 (.call 55 [(.t 32),(.t 33)]),so (.store 2 (.t 4) (.t 34))])
 (.pre (.norm false [4]) .ret))
 .skip))
 (.seq
 (.reg [rg 35 (.fad 0 (.t 2)),rg 36 (.load none (.t 35)),mv 37 5,rg 38 (.call 55 [(.t 36),(.t 37)]),so (.store 2 (.t 4) (.t 38))])
 (.pre (.norm false [4]) .ret))))))
def b25:AX:=
 (.seq
 (.reg [rg 2 (.xop (.box 2) [(.t 0)]),rg 3 (.xop (.box 2) [(.t 1)]),rg 4 (.alloc [(.b false),(.sl [] .nl)])])
 (.seq
 (.drawT [rg 5 (.load (some 2) (.t 2)),rg 6 (.load (some 2) (.t 3)),rg 7 (.call 40 [(.t 6)])]
 [rg 8 (.call 23 [(.t 5),(.t 7)]),so (.store 2 (.t 4) (.t 8))])
 (.pre (.norm false [4]) .ret)))
def b27:AX:=
 (.seq
 (.reg [rg 2 (.xop (.box 2) [(.t 0)]),rg 3 (.xop (.box 2) [(.t 1)]),rg 4 (.alloc [(.b false),(.sl [] .nl)])])
 (.seq
 (.drawT [rg 5 (.fad 0 (.t 2)),rg 6 (.load none (.t 5)),rg 7 (.fad 0 (.t 3)),rg 8 (.load none (.t 7)),rg 9 (.eqb true (.t 6) (.t 8)),rg 10 (.fad 1 (.t 2)),rg 11 (.load none (.t 10)),rg 12 (.fad 1 (.t 3)),rg 13 (.load none (.t 12)),rg 14 (.call 60 [(.t 11),(.t 13)])]
 [rg 15 (.call 55 [(.t 9),(.t 14)]),so (.store 2 (.t 4) (.t 15))])
 (.pre (.norm false [4]) .ret)))
def b37:AX:=
 (.seq
 (.reg [rg 1 (.xop (.box 2) [(.t 0)]),rg 2 (.mov (.c (.i .i64 0)))])
 (.seq
 (.block 0
 (.seq
 (.reg [rg 4 (.fad 1 (.t 1)),rg 5 (.load none (.t 4)),rg 6 (.call 70 [(.t 5)]),mv 3 6])
 (.cond (.t 3)
 (.seq
 (.reg [rg 2 (.mov (.c (.i .i64 0)))])
 (.pre (.norm false [2]) .ret))
 (.seq
 (.reg [rg 8 (.fad 0 (.t 1)),rg 9 (.load none (.t 8)),mv 7 9])
 (.cond (.t 7)
 (.seq
 (.reg [rg 2 (.mov (.c (.i .i64 (-1))))])
 (.pre (.norm false [2]) .ret))
 .skip)))))
 (.seq
 (.reg [rg 2 (.mov (.c (.i .i64 1)))])
 (.pre (.norm false [2]) .ret))))
def b41:AX:=
 (.seq
 (.reg [rg 2 (.alloc [(.b false),(.sl [] .nl)])])
 (.seq
 (.seq
 (.reg [mv 3 0,rg 4 (.bin .lss (.t 3) (.c (.i .i64 0)))])
 (.cond (.t 4)
 (.seq
 (.reg [mv 5 0,rg 6 (.conv .u64 (.t 5)),rg 7 (.un .neg (.t 6)),rg 8 (.call 72 [(.t 7)]),rg 9 (.call 55 [(.c (.b true)),(.t 8)]),so (.store 2 (.t 2) (.t 9))])
 (.pre (.norm false [2]) .ret))
 .skip))
 (.seq
 (.reg [mv 10 0,rg 11 (.conv .u64 (.t 10)),rg 12 (.call 72 [(.t 11)]),rg 13 (.call 55 [(.c (.b false)),(.t 12)]),so (.store 2 (.t 2) (.t 13))])
 (.pre (.norm false [2]) .ret))))
def b36:AX:=
 (.seq
 (.reg [rg 2 (.xop (.box 2) [(.t 0)]),rg 3 (.xop (.box 2) [(.t 1)]),rg 4 (.mov (.c (.i .i64 0)))])
 (.seq
 (.reg [rg 5 (.load (some 2) (.t 2)),rg 6 (.load (some 2) (.t 3)),rg 7 (.call 25 [(.t 5),(.t 6)]),rg 8 (.call 37 [(.t 7)]),mv 4 8])
 (.pre (.norm false [4]) .ret)))
def b32:AX:=
 (.seq
 (.reg [rg 2 (.alloc [(.b false),(.sl [] .nl)]),rg 3 (.alloc [(.i .i64 0),(.i .i64 0),(.i .i64 0),(.i .i64 0)])])
 (.seq
 (.reg [mv 9 0,rg 10 (.call 64 [(.t 9),(.c (.s [45]))]),mv 8 10,rg 11 (.ext (.t 8) 0),rg 12 (.ext (.t 8) 1),mv 4 11,mv 5 12])
 (.seq
 (.reg [mv 14 4,rg 15 (.call 65 [(.t 14)]),mv 13 15,rg 16 (.ext (.t 13) 0),rg 17 (.ext (.t 13) 1),rg 7 (.alloc [(.i .i64 0),(.i .i64 0),(.i .i64 0),(.i .i64 0)]),mv 6 16,so (.store 4 (.t 7) (.t 17))])
 (.seq
 (.seq
 (.reg [rg 18 (.load (some 4) (.t 7)),rg 19 (.build [(.i .i64 0),(.i .i64 0),(.i .i64 0),(.i .i64 0)] []),rg 20 (.eqs true [(0,.int),(1,.int),(2,.int),(3,.int)] (.t 18) (.t 19))])
 (.cond (.t 20)
 (.seq
 (.reg [rg 21 (.fad 3 (.t 7)),rg 22 (.load none (.t 21)),mv 23 0,rg 24 (.lens (.t 23)),mv 25 4,rg 26 (.lens (.t 25)),rg 27 (.bin .sub (.t 24) (.t 26)),rg 28 (.bin .add (.t 22) (.t 27)),rg 29 (.fad 3 (.t 7)),so (.store 1 (.t 29) (.t 28))])
 (.seq
 (.draw [⟨rg 30 (.build [(.b false),(.sl [] .nl)] []),0,0⟩,⟨rg 31 (.load (some 4) (.t 7)),0,1⟩,⟨so (.store 2 (.t 2) (.t 30)),0,1⟩,⟨so (.store 4 (.t 3) (.t 31)),1,2⟩])
 (.pre (.norm false [2,3]) .ret)))
 .skip))
 (.seq
 (.reg [mv 32 5,mv 33 6,rg 34 (.call 55 [(.t 32),(.t 33)]),rg 35 (.build [(.i .i64 0),(.i .i64 0),(.i .i64 0),(.i .i64 0)] []),so (.store 2 (.t 2) (.t 34)),so (.store 4 (.t 3) (.t 35))])
 (.pre (.norm false [2,3]) .ret))))))
def row55:AFx:=⟨2,13,[.cell 4 (some 2)],b55,none,false⟩
def row38:AFx:=⟨1,9,[.cell 2 (some 2)],b38,none,false⟩
def row40:AFx:=⟨1,10,[.cell 2 (some 2)],b40,none,false⟩
def row23:AFx:=⟨2,39,[.cell 4 (some 2)],b23,none,false⟩
def row25:AFx:=⟨2,9,[.cell 4 (some 2)],b25,none,false⟩
def row27:AFx:=⟨2,16,[.cell 4 (some 2)],b27,none,false⟩
def row37:AFx:=⟨1,10,[.t 2],b37,none,false⟩
def row41:AFx:=⟨1,14,[.cell 2 (some 2)],b41,none,false⟩
def row36:AFx:=⟨2,9,[.t 4],b36,none,false⟩
def row32:AFx:=⟨1,36,[.cell 2 (some 2),.cell 3 (some 4)],b32,none,false⟩
class Zf (T:Tbl):Prop where
 h55:T 55=some row55
 h38:T 38=some row38
 h40:T 40=some row40
 h23:T 23=some row23
 h25:T 25=some row25
 h27:T 27=some row27
 h37:T 37=some row37
 h41:T 41=some row41
 h36:T 36=some row36
 h32:T 32=some row32
section
variable{T:Tbl}[Zf T]{d:Option Nat}{st:St}
@[simp] theorem x55(xs:List AV):Zc (orc T) T 55 xs d st=cP T 55 false xs d st:=zaa Zf.h55
@[simp] theorem x38(xs:List AV):Zc (orc T) T 38 xs d st=cP T 38 false xs d st:=zaa Zf.h38
@[simp] theorem y40{e:Env}{h:Heap}{older:List Heap}(args:List Opd):opD (orc T) T (.call 40 args) e h older=dR (Za T 40 ((args.map (ev e.get)).map (wkIf false))) (args.map (ev e.get)):=zaj Zf.h40
@[simp] theorem x23(xs:List AV):Zc (orc T) T 23 xs d st=cP T 23 false xs d st:=zaa Zf.h23
@[simp] theorem y23{e:Env}{h:Heap}{older:List Heap}(args:List Opd):opD (orc T) T (.call 23 args) e h older=dR (Za T 23 ((args.map (ev e.get)).map (wkIf false))) (args.map (ev e.get)):=zaj Zf.h23
@[simp] theorem x25(xs:List AV):Zc (orc T) T 25 xs d st=cP T 25 false xs d st:=zaa Zf.h25
@[simp] theorem x27(xs:List AV):Zc (orc T) T 27 xs d st=cP T 27 false xs d st:=zaa Zf.h27
@[simp] theorem x37(xs:List AV):Zc (orc T) T 37 xs d st=cP T 37 false xs d st:=zaa Zf.h37
@[simp] theorem x41(xs:List AV):Zc (orc T) T 41 xs d st=cP T 41 false xs d st:=zaa Zf.h41
@[simp] theorem x36(xs:List AV):Zc (orc T) T 36 xs d st=cP T 36 false xs d st:=zaa Zf.h36
@[simp] theorem x32(xs:List AV):Zc (orc T) T 32 xs d st=cP T 32 false xs d st:=zaa Zf.h32
end
def l198_0:AX:=
 (.note
 (.seq
 (.seq
 (.reg [mv 5 1,rg 6 (.bin .neq (.t 5) (.c (u64 0)))])
 (.cond (.t 6)
 .skip
 (.exit 0)))
 (.block 1
 (.drawT [mv 7 1,mv 8 0,mv 9 1,rg 10 (.bin .rem (.t 8) (.t 9)),mv 0 7]
 [mv 1 10])))
 (.norm false [0,1]))
def b198:AX:=
 (.seq
 (.reg [rg 4 (.mov (.c (u64 0)))])
 (.seq
 (.lp 0 (.norm false [0,1]) l198_0 (.norm false [0]))
 (.seq
 (.reg [mv 11 0,mv 4 11])
 (.pre (.norm false [4]) .ret))))
def l199_0:AX:=
 (.note
 (.seq
 (.seq
 (.reg [mv 19 1,rg 20 (.len (.t 19)),rg 21 (.bin .gtr (.t 20) (.c (.i .i64 2)))])
 (.cond (.t 21)
 .skip
 (.exit 0)))
 (.block 1
 (.seq
 (.reg [mv 23 0,mv 24 1,rg 25 (.call 62 [(.t 23),(.t 24)]),mv 22 25,rg 26 (.ext (.t 22) 0),rg 27 (.ext (.t 22) 1),rg 28 (.ext (.t 22) 2),mv 5 26,mv 6 27,mv 7 28])
 (.reg [mv 29 1,mv 30 6,mv 0 29,mv 1 30]))))
 (.norm false [0,1]))
def b199:AX:=
 (.seq
 (.reg [rg 4 (.mov (.c (.sl [] .nl)))])
 (.seq
 (.reg [mv 15 0,rg 16 (.call 71 [(.t 15)]),mv 17 1,rg 18 (.call 71 [(.t 17)]),mv 0 16,mv 1 18])
 (.seq
 (.lp 0 (.norm false [0,1]) l199_0 (.norm false [0,1]))
 (.seq
 (.seq
 (.reg [mv 31 1,rg 32 (.len (.t 31)),rg 33 (.bin .eql (.t 32) (.c (.i .i64 0)))])
 (.cond (.t 33)
 (.seq
 (.reg [mv 34 0,mv 4 34])
 (.pre (.norm false [4]) .ret))
 .skip))
 (.seq
 (.reg [mv 36 0,mv 37 1,rg 38 (.call 62 [(.t 36),(.t 37)]),mv 35 38,rg 39 (.ext (.t 35) 0),rg 40 (.ext (.t 35) 1),rg 41 (.ext (.t 35) 2),mv 8 39,mv 9 40,mv 10 41])
 (.seq
 (.reg [mv 43 1,rg 44 (.call 73 [(.t 43)]),mv 42 44,rg 45 (.ext (.t 42) 0),rg 46 (.ext (.t 42) 1),mv 11 45,mv 12 46])
 (.seq
 (.reg [mv 48 9,rg 49 (.call 73 [(.t 48)]),mv 47 49,rg 50 (.ext (.t 47) 0),rg 51 (.ext (.t 47) 1),mv 13 50,mv 14 51])
 (.seq
 (.reg [mv 52 11,mv 53 13,rg 54 (.call 198 [(.t 52),(.t 53)]),rg 55 (.call 72 [(.t 54)]),mv 4 55])
 (.pre (.norm false [4]) .ret)))))))))
def b200:AX:=
 (.seq
 (.reg [rg 2 (.mov (.c (.b false)))])
 (.seq
 (.reg [mv 3 0,rg 4 (.len (.t 3)),rg 5 (.bin .eql (.t 4) (.c (.i .i64 1))),mv 6 5,gd 7 6 true (.mov (.t 0)),gd 8 6 true (.iad 1 (.t 7) (.c (.i .i64 0))),gd 9 6 true (.load none (.t 8)),gd 10 6 true (.bin .eql (.t 9) (.c (u32 1))),rg 11 (.pick (.t 6) (.t 10) (.c (.b false))),mv 2 11])
 (.pre (.norm false [2]) .ret)))
def b201:AX:=
 (.seq
 (.reg [rg 4 (.mov (.c (.sl [] .nl))),rg 5 (.mov (.c (.sl [] .nl)))])
 (.seq
 (.reg [mv 7 0,mv 8 1,rg 9 (.call 199 [(.t 7),(.t 8)]),mv 6 9])
 (.seq
 (.block 0
 (.seq
 (.reg [mv 11 6,rg 12 (.len (.t 11)),rg 13 (.bin .eql (.t 12) (.c (.i .i64 0))),mv 10 13])
 (.cond (.t 10)
 (.seq
 (.reg [rg 4 (.mov (.c (.sl [] .nl))),rg 5 (.mov (.c (.sl [] .nl)))])
 (.pre (.norm false [4,5]) .ret))
 (.seq
 (.reg [mv 15 6,rg 16 (.call 200 [(.t 15)]),mv 14 16])
 (.cond (.t 14)
 (.seq
 (.reg [mv 17 0,rg 18 (.call 71 [(.t 17)]),mv 19 1,rg 20 (.call 71 [(.t 19)]),mv 4 18,mv 5 20])
 (.pre (.norm false [4,5]) .ret))
 .skip)))))
 (.seq
 (.reg [mv 22 0,mv 23 6,rg 24 (.call 62 [(.t 22),(.t 23)]),mv 21 24,rg 25 (.ext (.t 21) 0),rg 26 (.ext (.t 21) 1),rg 27 (.ext (.t 21) 2),mv 4 25])
 (.seq
 (.reg [mv 29 1,mv 30 6,rg 31 (.call 62 [(.t 29),(.t 30)]),mv 28 31,rg 32 (.ext (.t 28) 0),rg 33 (.ext (.t 28) 1),rg 34 (.ext (.t 28) 2),mv 5 32])
 (.seq
 (.reg [mv 35 4,mv 36 5,mv 4 35,mv 5 36])
 (.pre (.norm false [4,5]) .ret)))))))
def row198:AFx:=⟨2,12,[.t 4],b198,none,false⟩
def row199:AFx:=⟨2,56,[.t 4],b199,none,false⟩
def row200:AFx:=⟨1,12,[.t 2],b200,none,false⟩
def row201:AFx:=⟨2,37,[.t 4,.t 5],b201,none,false⟩
class Zg (T:Tbl):Prop where
 h198:T 198=some row198
 h199:T 199=some row199
 h200:T 200=some row200
 h201:T 201=some row201
section
variable{T:Tbl}[Zg T]{d:Option Nat}{st:St}{xs:List AV}{ps:List Opd}{e:Env}{h:Heap}{ol:List Heap}
@[simp] theorem x198:Zc (orc T) T 198 xs d st=cP T 198 false xs d st:=zaa Zg.h198
@[simp] theorem x199:Zc (orc T) T 199 xs d st=cP T 199 false xs d st:=zaa Zg.h199
@[simp] theorem x200:Zc (orc T) T 200 xs d st=cP T 200 false xs d st:=zaa Zg.h200
@[simp] theorem x201:Zc (orc T) T 201 xs d st=cP T 201 false xs d st:=zaa Zg.h201
end
def b202:AX:=
 (.seq
 (.reg [rg 2 (.xop (.box 2) [(.t 0)]),rg 4 (.alloc [(.b false),(.sl [] .nl),(.sl [] .nl)])])
 (.seq
 (.reg [rg 8 (.fad 1 (.t 2)),rg 9 (.load none (.t 8)),mv 10 1,rg 11 (.call 201 [(.t 9),(.t 10)]),mv 7 11,rg 12 (.ext (.t 7) 0),rg 13 (.ext (.t 7) 1),mv 5 12,mv 6 13])
 (.seq
 (.reg [rg 14 (.fad 0 (.t 2)),rg 15 (.load none (.t 14)),mv 16 5,rg 17 (.build [(.b false),(.sl [] .nl)] [(0,1,(.t 15)),(1,1,(.t 16))]),rg 18 (.call 38 [(.t 17)]),mv 19 6,rg 20 (.build [(.b false),(.sl [] .nl),(.sl [] .nl)] [(0,2,(.t 18)),(2,1,(.t 19))]),so (.store 3 (.t 4) (.t 20))])
 (.pre (.norm false [4]) .ret))))
def b203:AX:=
 (.seq
 (.reg [rg 1 (.xop (.box 3) [(.t 0)]),rg 2 (.alloc [(.b false),(.sl [] .nl)]),rg 3 (.mov (.c (.sl [] .nl)))])
 (.seq
 (.seq
 (.reg [rg 4 (.fad 2 (.t 1)),rg 5 (.load none (.t 4)),rg 6 (.call 70 [(.t 5)])])
 (.cond (.t 6)
 (.seq
 (.reg [rg 7 (.build [(.b false),(.sl [] .nl)] []),rg 8 (.call 72 [(.c (u64 1))]),so (.store 2 (.t 2) (.t 7)),mv 3 8])
 (.pre (.norm false [2,3]) .ret))
 .skip))
 (.seq
 (.draw [⟨rg 9 (.fad 0 (.t 1)),0,0⟩,⟨rg 10 (.load (some 2) (.t 9)),0,0⟩,⟨rg 11 (.fad 2 (.t 1)),0,1⟩,⟨rg 12 (.load none (.t 11)),0,1⟩,⟨so (.store 2 (.t 2) (.t 10)),0,1⟩,⟨mv 3 12,1,1⟩])
 (.pre (.norm false [2,3]) .ret))))
def b205:AX:=
 (.seq
 (.reg [rg 2 (.alloc [(.b false),(.sl [] .nl),(.sl [] .nl)])])
 (.seq
 (.reg [mv 3 0,rg 4 (.call 41 [(.t 3)]),rg 5 (.call 72 [(.c (u64 1))]),rg 6 (.build [(.b false),(.sl [] .nl),(.sl [] .nl)] [(0,2,(.t 4)),(2,1,(.t 5))]),so (.store 3 (.t 2) (.t 6))])
 (.pre (.norm false [2]) .ret)))
def b207:AX:=
 (.seq
 (.reg [rg 1 (.xop (.box 3) [(.t 0)]),rg 2 (.alloc [(.b false),(.sl [] .nl),(.sl [] .nl)])])
 (.seq
 (.reg [rg 3 (.load (some 3) (.t 1)),rg 4 (.call 203 [(.t 3)]),rg 5 (.ext (.t 4) 0),rg 6 (.ext (.t 4) 1),rg 7 (.call 202 [(.t 5),(.t 6)]),so (.store 3 (.t 2) (.t 7))])
 (.pre (.norm false [2]) .ret)))
def b210:AX:=
 (.seq
 (.reg [rg 2 (.xop (.box 2) [(.t 0)]),rg 4 (.alloc [(.b false),(.sl [] .nl)])])
 (.seq
 (.reg [rg 5 (.load (some 2) (.t 2)),mv 6 1,rg 7 (.build [(.b false),(.sl [] .nl)] [(1,1,(.t 6))]),rg 8 (.call 27 [(.t 5),(.t 7)]),so (.store 2 (.t 4) (.t 8))])
 (.pre (.norm false [4]) .ret)))
def b211:AX:=
 (.seq
 (.reg [rg 2 (.xop (.box 3) [(.t 0)]),rg 3 (.xop (.box 3) [(.t 1)]),rg 4 (.mov (.c (.i .i64 0)))])
 (.seq
 (.reg [rg 10 (.load (some 3) (.t 2)),rg 11 (.call 203 [(.t 10)]),mv 9 11,rg 12 (.ext (.t 9) 0),rg 13 (.ext (.t 9) 1),rg 5 (.alloc [(.b false),(.sl [] .nl)]),so (.store 2 (.t 5) (.t 12)),mv 6 13])
 (.seq
 (.reg [rg 15 (.load (some 3) (.t 3)),rg 16 (.call 203 [(.t 15)]),mv 14 16,rg 17 (.ext (.t 14) 0),rg 18 (.ext (.t 14) 1),rg 7 (.alloc [(.b false),(.sl [] .nl)]),so (.store 2 (.t 7) (.t 17)),mv 8 18])
 (.seq
 (.drawT [rg 19 (.load (some 2) (.t 5)),mv 20 8,rg 21 (.call 210 [(.t 19),(.t 20)]),rg 22 (.load (some 2) (.t 7)),mv 23 6]
 [rg 24 (.call 210 [(.t 22),(.t 23)]),rg 25 (.call 36 [(.t 21),(.t 24)]),mv 4 25])
 (.pre (.norm false [4]) .ret)))))
def b212:AX:=
 (.seq
 (.reg [rg 2 (.xop (.box 3) [(.t 0)]),rg 3 (.xop (.box 3) [(.t 1)]),rg 4 (.mov (.c (.b false)))])
 (.seq
 (.reg [rg 5 (.load (some 3) (.t 2)),rg 6 (.load (some 3) (.t 3)),rg 7 (.call 211 [(.t 5),(.t 6)]),rg 8 (.bin .eql (.t 7) (.c (.i .i64 0))),mv 4 8])
 (.pre (.norm false [4]) .ret)))
def b215:AX:=
 (.seq
 (.reg [rg 2 (.xop (.box 3) [(.t 0)]),rg 3 (.xop (.box 3) [(.t 1)]),rg 4 (.alloc [(.b false),(.sl [] .nl),(.sl [] .nl)])])
 (.seq
 (.reg [rg 10 (.load (some 3) (.t 2)),rg 11 (.call 203 [(.t 10)]),mv 9 11,rg 12 (.ext (.t 9) 0),rg 13 (.ext (.t 9) 1),rg 5 (.alloc [(.b false),(.sl [] .nl)]),so (.store 2 (.t 5) (.t 12)),mv 6 13])
 (.seq
 (.reg [rg 15 (.load (some 3) (.t 3)),rg 16 (.call 203 [(.t 15)]),mv 14 16,rg 17 (.ext (.t 14) 0),rg 18 (.ext (.t 14) 1),rg 7 (.alloc [(.b false),(.sl [] .nl)]),so (.store 2 (.t 7) (.t 17)),mv 8 18])
 (.seq
 (.drawT [rg 19 (.load (some 2) (.t 5)),mv 20 8,rg 21 (.call 210 [(.t 19),(.t 20)]),rg 22 (.load (some 2) (.t 7)),mv 23 6,rg 24 (.call 210 [(.t 22),(.t 23)]),rg 25 (.call 23 [(.t 21),(.t 24)]),mv 26 6,mv 27 8]
 [rg 28 (.call 60 [(.t 26),(.t 27)]),rg 29 (.call 202 [(.t 25),(.t 28)]),so (.store 3 (.t 4) (.t 29))])
 (.pre (.norm false [4]) .ret)))))
def b217:AX:=
 (.seq
 (.reg [rg 2 (.xop (.box 3) [(.t 0)]),rg 3 (.xop (.box 3) [(.t 1)]),rg 4 (.alloc [(.b false),(.sl [] .nl),(.sl [] .nl)])])
 (.seq
 (.reg [rg 10 (.load (some 3) (.t 2)),rg 11 (.call 203 [(.t 10)]),mv 9 11,rg 12 (.ext (.t 9) 0),rg 13 (.ext (.t 9) 1),rg 5 (.alloc [(.b false),(.sl [] .nl)]),so (.store 2 (.t 5) (.t 12)),mv 6 13])
 (.seq
 (.reg [rg 15 (.load (some 3) (.t 3)),rg 16 (.call 203 [(.t 15)]),mv 14 16,rg 17 (.ext (.t 14) 0),rg 18 (.ext (.t 14) 1),rg 7 (.alloc [(.b false),(.sl [] .nl)]),so (.store 2 (.t 7) (.t 17)),mv 8 18])
 (.seq
 (.reg [rg 19 (.load (some 2) (.t 5)),rg 20 (.load (some 2) (.t 7)),rg 21 (.call 27 [(.t 19),(.t 20)]),mv 22 6,mv 23 8,rg 24 (.call 60 [(.t 22),(.t 23)]),rg 25 (.call 202 [(.t 21),(.t 24)]),so (.store 3 (.t 4) (.t 25))])
 (.pre (.norm false [4]) .ret)))))
def row202:AFx:=⟨2,21,[.cell 4 (some 3)],b202,none,false⟩
def row203:AFx:=⟨1,13,[.cell 2 (some 2),.t 3],b203,none,false⟩
def row205:AFx:=⟨1,7,[.cell 2 (some 3)],b205,none,false⟩
def row207:AFx:=⟨1,8,[.cell 2 (some 3)],b207,none,false⟩
def row210:AFx:=⟨2,9,[.cell 4 (some 2)],b210,none,false⟩
def row211:AFx:=⟨2,26,[.t 4],b211,none,false⟩
def row212:AFx:=⟨2,9,[.t 4],b212,none,false⟩
def row215:AFx:=⟨2,30,[.cell 4 (some 3)],b215,none,false⟩
def row217:AFx:=⟨2,26,[.cell 4 (some 3)],b217,none,false⟩
class Zw (T:Tbl):Prop where
 h202:T 202=some row202
 h203:T 203=some row203
 h205:T 205=some row205
 h207:T 207=some row207
 h210:T 210=some row210
 h211:T 211=some row211
 h212:T 212=some row212
 h215:T 215=some row215
 h217:T 217=some row217
section
variable{T:Tbl}[Zw T]{d:Option Nat}{st:St}{xs:List AV}{ps:List Opd}{e:Env}{h:Heap}{ol:List Heap}
@[simp] theorem x202:Zc (orc T) T 202 xs d st=cP T 202 false xs d st:=zaa Zw.h202
@[simp] theorem x203:Zc (orc T) T 203 xs d st=cP T 203 false xs d st:=zaa Zw.h203
@[simp] theorem x205:Zc (orc T) T 205 xs d st=cP T 205 false xs d st:=zaa Zw.h205
@[simp] theorem y205:opD (orc T) T (.call 205 ps) e h ol=dP T 205 false ps e:=zaj Zw.h205
@[simp] theorem x207:Zc (orc T) T 207 xs d st=cP T 207 false xs d st:=zaa Zw.h207
@[simp] theorem x210:Zc (orc T) T 210 xs d st=cP T 210 false xs d st:=zaa Zw.h210
@[simp] theorem y210:opD (orc T) T (.call 210 ps) e h ol=dP T 210 false ps e:=zaj Zw.h210
@[simp] theorem x211:Zc (orc T) T 211 xs d st=cP T 211 false xs d st:=zaa Zw.h211
@[simp] theorem x212:Zc (orc T) T 212 xs d st=cP T 212 false xs d st:=zaa Zw.h212
@[simp] theorem x215:Zc (orc T) T 215 xs d st=cP T 215 false xs d st:=zaa Zw.h215
@[simp] theorem x217:Zc (orc T) T 217 xs d st=cP T 217 false xs d st:=zaa Zw.h217
@[simp] theorem y217:opD (orc T) T (.call 217 ps) e h ol=dP T 217 false ps e:=zaj Zw.h217
theorem f217(xs:List AV)(hn:xs.length=2):Za T 217 xs=Zgu [.cell 4 (some 3)] false (evX (orc T) T 0 b217 ⟨Zcf xs,[],1⟩):=zab Zw.h217 hn
end
def b204:AX:=
 (.seq
 (.reg [rg 2 (.xop (.box 2) [(.t 0)]),rg 4 (.alloc [(.b false),(.sl [] .nl),(.sl [] .nl)]),rg 5 (.mov (.c (.b false)))])
 (.seq
 (.seq
 (.reg [mv 6 1,rg 7 (.call 70 [(.t 6)])])
 (.cond (.t 7)
 (.seq
 (.reg [rg 8 (.call 205 [(.c (.i .i64 0))]),so (.store 3 (.t 4) (.t 8)),rg 5 (.mov (.c (.b false)))])
 (.pre (.norm false [4,5]) .ret))
 .skip))
 (.seq
 (.reg [rg 9 (.load (some 2) (.t 2)),mv 10 1,rg 11 (.call 202 [(.t 9),(.t 10)]),so (.store 3 (.t 4) (.t 11)),rg 5 (.mov (.c (.b true)))])
 (.pre (.norm false [4,5]) .ret))))
def row204:AFx:=⟨2,12,[.cell 4 (some 3),.t 5],b204,none,false⟩
class Zbn (T:Tbl):Prop where
 h204:T 204=some row204
section
variable{T:Tbl}[Zbn T]{d:Option Nat}{st:St}{xs:List AV}{ps:List Opd}{e:Env}{h:Heap}{ol:List Heap}
@[simp] theorem x204:Zc (orc T) T 204 xs d st=cP T 204 false xs d st:=zaa Zbn.h204
@[simp] theorem y204:opD (orc T) T (.call 204 ps) e h ol=dP T 204 false ps e:=zaj Zbn.h204
end
def b208:AX:=
 (.seq
 (.reg [rg 1 (.xop (.box 3) [(.t 0)]),rg 2 (.mov (.c (.b false)))])
 (.seq
 (.reg [rg 4 (.load (some 3) (.t 1)),rg 5 (.call 207 [(.t 4)]),rg 3 (.alloc [(.b false),(.sl [] .nl),(.sl [] .nl)]),so (.store 3 (.t 3) (.t 5))])
 (.seq
 (.reg [rg 6 (.fad 0 (.t 1)),rg 7 (.fad 0 (.t 6)),rg 8 (.load none (.t 7)),rg 9 (.fad 0 (.t 3)),rg 10 (.fad 0 (.t 9)),rg 11 (.load none (.t 10)),rg 12 (.eqb false (.t 8) (.t 11)),mv 13 12,gd 14 13 true (.fad 0 (.t 1)),gd 15 13 true (.fad 1 (.t 14)),gd 16 13 true (.load none (.t 15)),gd 17 13 true (.len (.t 16)),gd 18 13 true (.fad 0 (.t 3)),gd 19 13 true (.fad 1 (.t 18)),gd 20 13 true (.load none (.t 19)),gd 21 13 true (.len (.t 20)),gd 22 13 true (.bin .eql (.t 17) (.t 21)),rg 23 (.pick (.t 13) (.t 22) (.c (.b false))),mv 24 23,gd 25 24 true (.fad 2 (.t 1)),gd 26 24 true (.load none (.t 25)),gd 27 24 true (.len (.t 26)),gd 28 24 true (.fad 2 (.t 3)),gd 29 24 true (.load none (.t 28)),gd 30 24 true (.len (.t 29)),gd 31 24 true (.bin .eql (.t 27) (.t 30)),rg 32 (.pick (.t 24) (.t 31) (.c (.b false))),mv 33 32,gd 34 33 true (.fad 0 (.t 1)),gd 35 33 true (.fad 1 (.t 34)),gd 36 33 true (.load none (.t 35)),gd 37 33 true (.fad 0 (.t 3)),gd 38 33 true (.fad 1 (.t 37)),gd 39 33 true (.load none (.t 38)),gd 40 33 true (.call 87 [(.t 36),(.t 39)]),gd 41 33 true (.bin .eql (.t 40) (.c (.i .i64 0))),rg 42 (.pick (.t 33) (.t 41) (.c (.b false))),mv 43 42,gd 44 43 true (.fad 2 (.t 1)),gd 45 43 true (.load none (.t 44)),gd 46 43 true (.fad 2 (.t 3)),gd 47 43 true (.load none (.t 46)),gd 48 43 true (.call 87 [(.t 45),(.t 47)]),gd 49 43 true (.bin .eql (.t 48) (.c (.i .i64 0))),rg 50 (.pick (.t 43) (.t 49) (.c (.b false))),mv 2 50])
 (.pre (.norm false [2]) .ret))))
def row208:AFx:=⟨1,51,[.t 2],b208,none,false⟩
class Zak (T:Tbl):Prop where
 h208:T 208=some row208
section
variable{T:Tbl}[Zak T]{d:Option Nat}{st:St}{xs:List AV}{ps:List Opd}{e:Env}{h:Heap}{ol:List Heap}
@[simp] theorem x208:Zc (orc T) T 208 xs d st=cP T 208 false xs d st:=zaa Zak.h208
end
def b223:AX:=
 (.seq
 (.reg [rg 1 (.xop (.box 3) [(.t 0)]),rg 2 (.mov (.c (.i .i64 0)))])
 (.seq
 (.drawT [rg 3 (.fad 0 (.t 1)),rg 4 (.fad 1 (.t 3)),rg 5 (.load none (.t 4)),rg 6 (.call 356 [(.t 5)]),rg 7 (.fad 2 (.t 1)),rg 8 (.load none (.t 7))]
 [rg 9 (.call 356 [(.t 8)]),rg 10 (.bin .add (.t 6) (.t 9)),mv 2 10])
 (.pre (.norm false [2]) .ret)))
def row223:AFx:=⟨1,11,[.t 2],b223,none,false⟩
class Zan (T:Tbl):Prop where
 h223:T 223=some row223
section
variable{T:Tbl}[Zan T]{d:Option Nat}{st:St}{xs:List AV}{ps:List Opd}{e:Env}{h:Heap}{ol:List Heap}
@[simp] theorem x223:Zc (orc T) T 223 xs d st=cP T 223 false xs d st:=zaa Zan.h223
end
def prim344:List AV→Option AV
 | [.s s,.s [47,46]]=>if s.length≤1000000 then some (.i .i64 (Lib.indexAny s [47,46])) else none
 | _=>none
def prim194:List AV→Option AV
 | [.s s,.s [c]]=>some (.i .i64 (Lib.indexByte s c))
 | _=>none
def prim361:List AV→Option AV
 | [.s s,.s [c]]=>some (.i .i64 (Lib.countByte s c))
 | _=>none
def prim343:List AV→Option AV
 | [.s [48],.i .i64 n]=>if 0≤n∧n≤64 then some (.s (List.replicate n.toNat 48)) else none
 | _=>none
def row344:AFx:=⟨0,0,[],.prim prim344,none,false⟩
def row194:AFx:=⟨0,0,[],.prim prim194,none,false⟩
def row361:AFx:=⟨0,0,[],.prim prim361,none,false⟩
class Zc5 (T:Tbl):Prop where
 h344:T 344=some row344
 h194:T 194=some row194
 h361:T 361=some row361
section
variable{T:Tbl}[Zc5 T]{d:Option Nat}{st:St}{xs:List AV}{ps:List Opd}{e:Env}{h:Heap}{ol:List Heap}
@[simp] theorem x344:Zc (orc T) T 344 xs d st=cP T 344 false xs d st:=zaa Zc5.h344
theorem p344(xs:List AV):Za T 344 xs=prim344 xs:=zdc Zc5.h344
@[simp] theorem x194:Zc (orc T) T 194 xs d st=cP T 194 false xs d st:=zaa Zc5.h194
theorem p194(xs:List AV):Za T 194 xs=prim194 xs:=zdc Zc5.h194
@[simp] theorem x361:Zc (orc T) T 361 xs d st=cP T 361 false xs d st:=zaa Zc5.h361
theorem p361(xs:List AV):Za T 361 xs=prim361 xs:=zdc Zc5.h361
end
def b346:AX:=
 (.seq
 (.reg [rg 4 (.mov (.c (.sl [] .nl)))])
 (.seq
 (.reg [mv 5 0,mv 6 1,rg 7 (.call 354 [(.t 5),(.t 6),(.c (.i .i64 0)),(.c (.i .i64 (-1)))]),mv 4 7])
 (.pre (.norm false [4]) .ret)))
def l354_0:AX:=
 (.note
 (.seq
 (.seq
 (.reg [mv 34 10,mv 35 3,rg 36 (.bin .lss (.t 34) (.t 35))])
 (.cond (.t 36)
 .skip
 (.exit 0)))
 (.block 1
 (.seq
 (.reg [mv 37 0,mv 38 1,rg 39 (.call 362 [(.t 37),(.t 38)]),mv 11 39])
 (.seq
 (.seq
 (.reg [mv 40 11,rg 41 (.bin .lss (.t 40) (.c (.i .i64 0)))])
 (.cond (.t 41)
 (.exit 0)
 .skip))
 (.seq
 (.reg [mv 42 9,mv 43 10,mv 44 0,mv 45 11,mv 46 2,rg 47 (.bin .add (.t 45) (.t 46)),rg 48 (.slstr (.t 44) none (some (.t 47))),rg 49 (.iad 1 (.t 42) (.t 43)),so (.store 1 (.t 49) (.t 48))])
 (.seq
 (.reg [mv 50 0,mv 51 11,mv 52 1,rg 53 (.lens (.t 52)),rg 54 (.bin .add (.t 51) (.t 53)),rg 55 (.slstr (.t 50) (some (.t 54)) none),mv 0 55])
 (.reg [mv 56 10,rg 57 (.bin .add (.t 56) (.c (.i .i64 1))),mv 10 57])))))))
 (.norm false [0,1,2,3,9,10]))
def b354:AX:=
 (.seq
 (.reg [rg 8 (.mov (.c (.sl [] .nl)))])
 (.seq
 (.seq
 (.reg [mv 12 3,rg 13 (.bin .eql (.t 12) (.c (.i .i64 0)))])
 (.cond (.t 13)
 (.seq
 (.reg [rg 8 (.mov (.c (.sl [] .nl)))])
 (.pre (.norm false [8]) .ret))
 .skip))
 (.seq
 (.seq
 (.reg [mv 14 1,rg 15 (.bin .eql (.t 14) (.c (.s [])))])
 (.cond (.t 15)
 (.seq
 (.reg [mv 16 0,mv 17 3,rg 18 (.call 360 [(.t 16),(.t 17)]),mv 8 18])
 (.pre (.norm false [8]) .ret))
 .skip))
 (.seq
 (.seq
 (.reg [mv 19 3,rg 20 (.bin .lss (.t 19) (.c (.i .i64 0)))])
 (.cond (.t 20)
 (.reg [mv 21 0,mv 22 1,rg 23 (.call 361 [(.t 21),(.t 22)]),rg 24 (.bin .add (.t 23) (.c (.i .i64 1))),mv 3 24])
 .skip))
 (.seq
 (.reg [mv 25 3,mv 26 0,rg 27 (.lens (.t 26)),rg 28 (.bin .add (.t 27) (.c (.i .i64 1))),rg 29 (.mm false [(.t 25),(.t 28)]),mv 3 29])
 (.seq
 (.reg [mv 30 3,rg 31 (.mks 1 [(.s [])] (.t 30) (.t 30)),mv 9 31])
 (.seq
 (.reg [mv 32 3,rg 33 (.bin .sub (.t 32) (.c (.i .i64 1))),mv 3 33])
 (.seq
 (.reg [rg 10 (.mov (.c (.i .i64 0)))])
 (.seq
 (.lp 0 (.norm false [0,1,2,3,9,10]) l354_0 (.norm false [0,9,10]))
 (.seq
 (.reg [mv 58 9,mv 59 10,mv 60 0,rg 61 (.iad 1 (.t 58) (.t 59)),so (.store 1 (.t 61) (.t 60))])
 (.seq
 (.reg [mv 62 9,mv 63 10,rg 64 (.bin .add (.t 63) (.c (.i .i64 1))),rg 65 (.slc 1 (.t 62) none (some (.t 64)) none),mv 8 65])
 (.pre (.norm false [8]) .ret))))))))))))
def b362:AX:=
 (.seq
 (.reg [rg 4 (.mov (.c (.i .i64 0)))])
 (.seq
 (.reg [mv 5 0,mv 6 1,rg 7 (.call 194 [(.t 5),(.t 6)]),mv 4 7])
 (.pre (.norm false [4]) .ret)))
def b345:AX:=
 (.seq
 (.reg [rg 4 (.mov (.c (.b false)))])
 (.seq
 (.reg [mv 5 0,mv 6 1,rg 7 (.call 123 [(.t 5),(.t 6)]),mv 4 7])
 (.pre (.norm false [4]) .ret)))
def row346:AFx:=⟨2,8,[.t 4],b346,none,false⟩
def row354:AFx:=⟨4,66,[.t 8],b354,none,false⟩
def row362:AFx:=⟨2,8,[.t 4],b362,none,false⟩
def row345:AFx:=⟨2,8,[.t 4],b345,none,false⟩
class Zas (T:Tbl):Prop where
 h346:T 346=some row346
 h354:T 354=some row354
 h362:T 362=some row362
 h345:T 345=some row345
section
variable{T:Tbl}[Zas T]{d:Option Nat}{st:St}{xs:List AV}{ps:List Opd}{e:Env}{h:Heap}{ol:List Heap}
@[simp] theorem x346:Zc (orc T) T 346 xs d st=cP T 346 false xs d st:=zaa Zas.h346
@[simp] theorem x354:Zc (orc T) T 354 xs d st=cP T 354 false xs d st:=zaa Zas.h354
@[simp] theorem x362:Zc (orc T) T 362 xs d st=cP T 362 false xs d st:=zaa Zas.h362
@[simp] theorem y345:opD (orc T) T (.call 345 ps) e h ol=dP T 345 false ps e:=zaj Zas.h345
end
def l258_0:AX:=
 (.note
 (.seq
 (.seq
 (.reg [mv 36 8,rg 37 (.bin .geq (.t 36) (.c (.i .i64 0)))])
 (.cond (.t 37)
 .skip
 (.exit 0)))
 (.seq
 (.block 1
 (.seq
 (.reg [mv 40 7,rg 41 (.call 357 [(.t 40)]),mv 7 41])
 (.seq
 (.reg [mv 42 1,mv 43 8,rg 44 (.bin .shr (.t 42) (.t 43)),rg 45 (.bin .and (.t 44) (.c (.i .i64 1))),rg 46 (.bin .eql (.t 45) (.c (.i .i64 1)))])
 (.cond (.t 46)
 (.reg [mv 47 7,mv 48 0,rg 49 (.call 60 [(.t 47),(.t 48)]),mv 7 49])
 .skip))))
 (.reg [mv 38 8,rg 39 (.bin .sub (.t 38) (.c (.i .i64 1))),mv 8 39])))
 (.norm false [0,1,7,8]))
def b258:AX:=
 (.seq
 (.reg [rg 4 (.mov (.c (.sl [] .nl))),rg 5 (.mov (.c (.b false)))])
 (.seq
 (.reg [mv 9 0,rg 10 (.call 356 [(.t 9)]),mv 6 10])
 (.seq
 (.seq
 (.reg [mv 11 1,rg 12 (.bin .lss (.t 11) (.c (.i .i64 0))),mv 13 12,gd 14 13 false (.mov (.t 6)),gd 15 13 false (.bin .gtr (.t 14) (.c (.i .i64 1))),gd 16 13 false (.mov (.t 15)),gd 17 16 true (.mov (.t 1)),gd 18 16 true (.mov (.t 6)),gd 19 16 true (.bin .quo (.c (.i .i64 65536)) (.t 18)),gd 20 16 true (.bin .gtr (.t 17) (.t 19)),gd 21 13 false (.pick (.t 16) (.t 20) (.c (.b false))),rg 22 (.pick (.t 13) (.c (.b true)) (.t 21))])
 (.cond (.t 22)
 (.seq
 (.reg [rg 4 (.mov (.c (.sl [] .nl))),rg 5 (.mov (.c (.b false)))])
 (.pre (.norm false [4,5]) .ret))
 .skip))
 (.seq
 (.reg [rg 23 (.call 72 [(.c (u64 1))]),mv 7 23])
 (.seq
 (.seq
 (.reg [mv 24 6,rg 25 (.bin .lss (.t 24) (.c (.i .i64 2)))])
 (.cond (.t 25)
 (.seq
 (.seq
 (.reg [mv 26 1,rg 27 (.bin .gtr (.t 26) (.c (.i .i64 0)))])
 (.cond (.t 27)
 (.reg [mv 28 0,rg 29 (.call 71 [(.t 28)]),mv 7 29])
 .skip))
 (.seq
 (.reg [mv 30 7,mv 4 30,rg 5 (.mov (.c (.b true)))])
 (.pre (.norm false [4,5]) .ret)))
 .skip))
 (.seq
 (.seq
 (.reg [mv 31 1,rg 32 (.conv .u64 (.t 31)),rg 33 (.call 72 [(.t 32)]),rg 34 (.call 356 [(.t 33)]),rg 35 (.bin .sub (.t 34) (.c (.i .i64 1))),mv 8 35])
 (.lp 0 (.norm false [0,1,7,8]) l258_0 (.norm false [7])))
 (.seq
 (.reg [mv 50 7,mv 4 50,rg 5 (.mov (.c (.b true)))])
 (.pre (.norm false [4,5]) .ret))))))))
def b356:AX:=
 (.seq
 (.reg [rg 2 (.mov (.c (.i .i64 0)))])
 (.seq
 (.reg [mv 4 0,rg 5 (.call 71 [(.t 4)]),mv 0 5])
 (.seq
 (.reg [mv 6 0,rg 7 (.len (.t 6)),mv 3 7])
 (.seq
 (.seq
 (.reg [mv 8 3,rg 9 (.bin .eql (.t 8) (.c (.i .i64 0)))])
 (.cond (.t 9)
 (.seq
 (.reg [rg 2 (.mov (.c (.i .i64 0)))])
 (.pre (.norm false [2]) .ret))
 .skip))
 (.seq
 (.reg [mv 10 3,rg 11 (.bin .sub (.t 10) (.c (.i .i64 1))),rg 12 (.bin .mul (.c (.i .i64 32)) (.t 11)),mv 13 0,mv 14 3,rg 15 (.bin .sub (.t 14) (.c (.i .i64 1))),rg 16 (.iad 1 (.t 13) (.t 15)),rg 17 (.load none (.t 16)),rg 18 (.call 91 [(.t 17)]),rg 19 (.bin .add (.t 12) (.t 18)),mv 2 19])
 (.pre (.norm false [2]) .ret))))))
def l357_0:AX:=
 (.note
 (.seq
 (.reg [rg 18 (.bin .lss (.t 17) (.t 16))])
 (.seq
 (.cond (.t 18)
 .skip
 (.exit 0))
 (.seq
 (.block 1
 (.seq
 (.reg [mv 19 17,rg 20 (.iad 1 (.t 15) (.t 17)),rg 21 (.load none (.t 20)),mv 4 19,mv 5 21])
 (.reg [mv 22 3,mv 23 4,rg 24 (.bin .mul (.c (.i .i64 2)) (.t 23)),rg 25 (.bin .add (.t 24) (.c (.i .i64 1))),mv 26 0,mv 27 4,rg 28 (.bin .add (.t 27) (.c (.i .i64 1))),rg 29 (.slc 1 (.t 26) (some (.t 28)) none none),mv 30 5,rg 31 (.call 89 [(.t 22),(.t 25),(.t 29),(.t 30),(.c (u32 0))])])))
 (.reg [rg 32 (.bin .add (.t 17) (.c (.i .i64 1))),mv 17 32]))))
 (.norm false [0,3,15,16,17]))
def l357_1:AX:=
 (.note
 (.seq
 (.reg [rg 42 (.bin .lss (.t 41) (.t 40))])
 (.seq
 (.cond (.t 42)
 .skip
 (.exit 2))
 (.seq
 (.block 3
 (.seq
 (.reg [mv 43 41,rg 44 (.iad 1 (.t 39) (.t 41)),rg 45 (.load none (.t 44)),mv 8 43,mv 9 45])
 (.reg [mv 47 7,mv 48 8,rg 49 (.bin .mul (.c (.i .i64 2)) (.t 48)),rg 50 (.bin .add (.t 49) (.c (.i .i64 1))),mv 51 7,mv 52 8,rg 53 (.bin .mul (.c (.i .i64 2)) (.t 52)),mv 54 9,mv 55 9,rg 56 (.call 117 [(.t 54),(.t 55),(.c (u32 0)),(.c (u32 0))]),mv 46 56,rg 57 (.ext (.t 46) 0),rg 58 (.ext (.t 46) 1),rg 59 (.iad 1 (.t 47) (.t 50)),so (.store 1 (.t 59) (.t 57)),rg 60 (.iad 1 (.t 51) (.t 53)),so (.store 1 (.t 60) (.t 58))])))
 (.reg [rg 61 (.bin .add (.t 41) (.c (.i .i64 1))),mv 41 61]))))
 (.norm false [6,7,39,40,41]))
def b357:AX:=
 (.seq
 (.reg [rg 2 (.mov (.c (.sl [] .nl)))])
 (.seq
 (.reg [mv 10 0,rg 11 (.len (.t 10)),rg 12 (.bin .mul (.c (.i .i64 2)) (.t 11)),rg 13 (.bin .add (.t 12) (.c (.i .i64 1))),rg 14 (.mks 1 [(u32 0)] (.t 13) (.t 13)),mv 3 14])
 (.seq
 (.seq
 (.reg [mv 15 0,rg 16 (.len (.t 15)),rg 17 (.mov (.c (.i .i64 0)))])
 (.lp 0 (.norm false [0,3,15,16,17]) l357_0 (.norm false [0,3])))
 (.seq
 (.reg [mv 33 3,rg 34 (.call 92 [(.t 33),(.c (.i .i64 1))]),mv 6 34])
 (.seq
 (.reg [mv 35 0,rg 36 (.len (.t 35)),rg 37 (.bin .mul (.c (.i .i64 2)) (.t 36)),rg 38 (.mks 1 [(u32 0)] (.t 37) (.t 37)),mv 7 38])
 (.seq
 (.seq
 (.reg [mv 39 0,rg 40 (.len (.t 39)),rg 41 (.mov (.c (.i .i64 0)))])
 (.lp 2 (.norm false [6,7,39,40,41]) l357_1 (.norm false [6,7])))
 (.seq
 (.reg [mv 62 6,mv 63 7,rg 64 (.bsl 1 [(.sl [] .nl)] 2 [(0,(.t 62)),(1,(.t 63))]),rg 65 (.call 56 [(.t 64)]),mv 2 65])
 (.pre (.norm false [2]) .ret))))))))
def row258:AFx:=⟨2,51,[.t 4,.t 5],b258,none,false⟩
def row356:AFx:=⟨1,20,[.t 2],b356,none,false⟩
def row357:AFx:=⟨1,66,[.t 2],b357,none,false⟩
class Zbv (T:Tbl):Prop where
 h258:T 258=some row258
 h356:T 356=some row356
 h357:T 357=some row357
section
variable{T:Tbl}[Zbv T]{d:Option Nat}{st:St}{xs:List AV}{ps:List Opd}{e:Env}{h:Heap}{ol:List Heap}
@[simp] theorem x258:Zc (orc T) T 258 xs d st=cP T 258 false xs d st:=zaa Zbv.h258
@[simp] theorem x356:Zc (orc T) T 356 xs d st=cP T 356 false xs d st:=zaa Zbv.h356
@[simp] theorem y356:opD (orc T) T (.call 356 ps) e h ol=dP T 356 false ps e:=zaj Zbv.h356
@[simp] theorem x357:Zc (orc T) T 357 xs d st=cP T 357 false xs d st:=zaa Zbv.h357
end
def b252:AX:=
 (.seq
 (.reg [rg 2 (.mov (.c (.sl [] .nl)))])
 (.seq
 (.reg [rg 6 (.call 72 [(.c (u64 10))]),mv 7 0,rg 8 (.call 258 [(.t 6),(.t 7)]),mv 5 8,rg 9 (.ext (.t 5) 0),rg 10 (.ext (.t 5) 1),mv 3 9,mv 4 10])
 (.seq
 (.reg [mv 11 3,mv 2 11])
 (.pre (.norm false [2]) .ret))))
def b253:AX:=
 (.seq
 (.reg [rg 4 (.mov (.c (.sl [] .nl))),rg 5 (.alloc [(.i .i64 0),(.i .i64 0),(.i .i64 0),(.i .i64 0)])])
 (.seq
 (.reg [mv 9 0,mv 10 1,rg 11 (.slstr (.t 9) (some (.t 10)) none),rg 12 (.call 65 [(.t 11)]),mv 8 12,rg 13 (.ext (.t 8) 0),rg 14 (.ext (.t 8) 1),rg 7 (.alloc [(.i .i64 0),(.i .i64 0),(.i .i64 0),(.i .i64 0)]),mv 6 13,so (.store 4 (.t 7) (.t 14))])
 (.seq
 (.seq
 (.reg [rg 15 (.load (some 4) (.t 7)),rg 16 (.build [(.i .i64 0),(.i .i64 0),(.i .i64 0),(.i .i64 0)] []),rg 17 (.eqs true [(0,.int),(1,.int),(2,.int),(3,.int)] (.t 15) (.t 16))])
 (.cond (.t 17)
 (.reg [rg 18 (.fad 3 (.t 7)),rg 19 (.load none (.t 18)),mv 20 1,rg 21 (.bin .add (.t 19) (.t 20)),rg 22 (.fad 3 (.t 7)),so (.store 1 (.t 22) (.t 21))])
 .skip))
 (.seq
 (.drawT [mv 23 6,rg 24 (.load (some 4) (.t 7)),mv 4 23]
 [so (.store 4 (.t 5) (.t 24))])
 (.pre (.norm false [4,5]) .ret)))))
def b254:AX:=
 (.seq
 (.reg [rg 3 (.xop (.box 2) [(.t 0)]),rg 6 (.alloc [(.b false),(.sl [] .nl),(.sl [] .nl)]),rg 7 (.alloc [(.i .i64 0),(.i .i64 0),(.i .i64 0),(.i .i64 0)])])
 (.seq
 (.reg [mv 13 1,mv 14 2,rg 15 (.call 253 [(.t 13),(.t 14)]),mv 12 15,rg 16 (.ext (.t 12) 0),rg 17 (.ext (.t 12) 1),rg 9 (.alloc [(.i .i64 0),(.i .i64 0),(.i .i64 0),(.i .i64 0)]),mv 8 16,so (.store 4 (.t 9) (.t 17))])
 (.seq
 (.seq
 (.reg [rg 18 (.load (some 4) (.t 9)),rg 19 (.build [(.i .i64 0),(.i .i64 0),(.i .i64 0),(.i .i64 0)] []),rg 20 (.eqs true [(0,.int),(1,.int),(2,.int),(3,.int)] (.t 18) (.t 19))])
 (.cond (.t 20)
 (.seq
 (.draw [⟨rg 21 (.call 205 [(.c (.i .i64 0))]),0,0⟩,⟨rg 22 (.load (some 4) (.t 9)),0,1⟩,⟨so (.store 3 (.t 6) (.t 21)),0,1⟩,⟨so (.store 4 (.t 7) (.t 22)),1,2⟩])
 (.pre (.norm false [6,7]) .ret))
 .skip))
 (.seq
 (.reg [rg 24 (.load (some 2) (.t 3)),mv 25 8,rg 26 (.call 204 [(.t 24),(.t 25)]),mv 23 26,rg 27 (.ext (.t 23) 0),rg 28 (.ext (.t 23) 1),rg 10 (.alloc [(.b false),(.sl [] .nl),(.sl [] .nl)]),so (.store 3 (.t 10) (.t 27)),mv 11 28])
 (.seq
 (.seq
 (.reg [mv 29 11,rg 30 (.un .not (.t 29))])
 (.cond (.t 30)
 (.seq
 (.reg [rg 31 (.load (some 3) (.t 10)),mv 32 2,rg 33 (.build [(.i .i64 0),(.i .i64 0),(.i .i64 0),(.i .i64 0)] [(0,1,(.c (.i .i64 2))),(3,1,(.t 32))]),so (.store 3 (.t 6) (.t 31)),so (.store 4 (.t 7) (.t 33))])
 (.pre (.norm false [6,7]) .ret))
 .skip))
 (.seq
 (.reg [rg 34 (.load (some 3) (.t 10)),rg 35 (.build [(.i .i64 0),(.i .i64 0),(.i .i64 0),(.i .i64 0)] []),so (.store 3 (.t 6) (.t 34)),so (.store 4 (.t 7) (.t 35))])
 (.pre (.norm false [6,7]) .ret)))))))
def b255:AX:=
 (.seq
 (.reg [rg 4 (.xop (.box 2) [(.t 0)]),rg 8 (.alloc [(.b false),(.sl [] .nl),(.sl [] .nl)]),rg 9 (.alloc [(.i .i64 0),(.i .i64 0),(.i .i64 0),(.i .i64 0)])])
 (.seq
 (.reg [mv 17 2,mv 18 3,rg 19 (.call 253 [(.t 17),(.t 18)]),mv 16 19,rg 20 (.ext (.t 16) 0),rg 21 (.ext (.t 16) 1),rg 11 (.alloc [(.i .i64 0),(.i .i64 0),(.i .i64 0),(.i .i64 0)]),mv 10 20,so (.store 4 (.t 11) (.t 21))])
 (.seq
 (.seq
 (.reg [rg 22 (.load (some 4) (.t 11)),rg 23 (.build [(.i .i64 0),(.i .i64 0),(.i .i64 0),(.i .i64 0)] []),rg 24 (.eqs true [(0,.int),(1,.int),(2,.int),(3,.int)] (.t 22) (.t 23))])
 (.cond (.t 24)
 (.seq
 (.draw [⟨rg 25 (.call 205 [(.c (.i .i64 0))]),0,0⟩,⟨rg 26 (.load (some 4) (.t 11)),0,1⟩,⟨so (.store 3 (.t 8) (.t 25)),0,1⟩,⟨so (.store 4 (.t 9) (.t 26)),1,2⟩])
 (.pre (.norm false [8,9]) .ret))
 .skip))
 (.seq
 (.reg [mv 27 2,rg 28 (.lens (.t 27)),mv 29 3,rg 30 (.bin .sub (.t 28) (.t 29)),rg 31 (.call 252 [(.t 30)]),mv 12 31])
 (.seq
 (.reg [rg 32 (.fad 1 (.t 4)),rg 33 (.load none (.t 32)),mv 34 12,rg 35 (.call 60 [(.t 33),(.t 34)]),mv 36 10,rg 37 (.bsl 1 [(.sl [] .nl)] 2 [(0,(.t 35)),(1,(.t 36))]),rg 38 (.call 56 [(.t 37)]),mv 13 38])
 (.seq
 (.reg [mv 40 1,mv 41 13,rg 42 (.build [(.b false),(.sl [] .nl)] [(0,1,(.t 40)),(1,1,(.t 41))]),mv 43 12,rg 44 (.call 204 [(.t 42),(.t 43)]),mv 39 44,rg 45 (.ext (.t 39) 0),rg 46 (.ext (.t 39) 1),rg 14 (.alloc [(.b false),(.sl [] .nl),(.sl [] .nl)]),so (.store 3 (.t 14) (.t 45)),mv 15 46])
 (.seq
 (.reg [rg 47 (.load (some 3) (.t 14)),rg 48 (.build [(.i .i64 0),(.i .i64 0),(.i .i64 0),(.i .i64 0)] []),so (.store 3 (.t 8) (.t 47)),so (.store 4 (.t 9) (.t 48))])
 (.pre (.norm false [8,9]) .ret))))))))
def b256:AX:=
 (.seq
 (.reg [rg 2 (.alloc [(.b false),(.sl [] .nl),(.sl [] .nl)]),rg 3 (.alloc [(.i .i64 0),(.i .i64 0),(.i .i64 0),(.i .i64 0)])])
 (.seq
 (.reg [mv 10 0,rg 11 (.call 344 [(.t 10),(.c (.s [47,46]))]),mv 4 11])
 (.seq
 (.reg [mv 12 0,mv 5 12])
 (.seq
 (.seq
 (.reg [mv 13 4,rg 14 (.bin .geq (.t 13) (.c (.i .i64 0)))])
 (.cond (.t 14)
 (.reg [mv 15 0,mv 16 4,rg 17 (.slstr (.t 15) none (some (.t 16))),mv 5 17])
 .skip))
 (.seq
 (.reg [mv 19 5,rg 20 (.call 32 [(.t 19)]),mv 18 20,rg 21 (.ext (.t 18) 0),rg 22 (.ext (.t 18) 1),rg 6 (.alloc [(.b false),(.sl [] .nl)]),rg 7 (.alloc [(.i .i64 0),(.i .i64 0),(.i .i64 0),(.i .i64 0)]),so (.store 2 (.t 6) (.t 21)),so (.store 4 (.t 7) (.t 22))])
 (.seq
 (.block 0
 (.seq
 (.reg [rg 24 (.load (some 4) (.t 7)),rg 25 (.build [(.i .i64 0),(.i .i64 0),(.i .i64 0),(.i .i64 0)] []),rg 26 (.eqs true [(0,.int),(1,.int),(2,.int),(3,.int)] (.t 24) (.t 25)),mv 23 26])
 (.cond (.t 23)
 (.seq
 (.draw [⟨rg 27 (.call 205 [(.c (.i .i64 0))]),0,0⟩,⟨rg 28 (.load (some 4) (.t 7)),0,1⟩,⟨so (.store 3 (.t 2) (.t 27)),0,1⟩,⟨so (.store 4 (.t 3) (.t 28)),1,2⟩])
 (.pre (.norm false [2,3]) .ret))
 (.seq
 (.reg [mv 30 4,rg 31 (.bin .lss (.t 30) (.c (.i .i64 0))),mv 29 31])
 (.cond (.t 29)
 (.seq
 (.draw [⟨rg 33 (.load (some 2) (.t 6)),0,1⟩,⟨rg 34 (.call 72 [(.c (u64 1))]),0,1⟩,⟨rg 35 (.call 204 [(.t 33),(.t 34)]),0,1⟩,⟨mv 32 35,0,1⟩,⟨rg 36 (.ext (.t 32) 0),0,1⟩,⟨rg 37 (.ext (.t 32) 1),0,2⟩,⟨rg 8 (.alloc [(.b false),(.sl [] .nl),(.sl [] .nl)]),0,1⟩,⟨so (.store 3 (.t 8) (.t 36)),1,2⟩,⟨mv 9 37,2,2⟩])
 (.seq
 (.reg [rg 38 (.load (some 3) (.t 8)),rg 39 (.build [(.i .i64 0),(.i .i64 0),(.i .i64 0),(.i .i64 0)] []),so (.store 3 (.t 2) (.t 38)),so (.store 4 (.t 3) (.t 39))])
 (.pre (.norm false [2,3]) .ret)))
 (.seq
 (.reg [mv 41 0,mv 42 4,rg 43 (.ixs (.t 41) (.t 42)),rg 44 (.bin .eql (.t 43) (.c (u8 47))),mv 40 44])
 (.cond (.t 40)
 (.seq
 (.reg [rg 45 (.load (some 2) (.t 6)),mv 46 0,mv 47 4,rg 48 (.bin .add (.t 47) (.c (.i .i64 1))),rg 49 (.call 254 [(.t 45),(.t 46),(.t 48)]),rg 50 (.ext (.t 49) 0),rg 51 (.ext (.t 49) 1),so (.store 3 (.t 2) (.t 50)),so (.store 4 (.t 3) (.t 51))])
 (.pre (.norm false [2,3]) .ret))
 .skip)))))))
 (.seq
 (.drawT [rg 52 (.load (some 2) (.t 6)),mv 53 0,rg 54 (.call 345 [(.t 53),(.c (.s [45]))]),mv 55 0,mv 56 4,rg 57 (.bin .add (.t 56) (.c (.i .i64 1))),rg 58 (.call 255 [(.t 52),(.t 54),(.t 55),(.t 57)]),rg 59 (.ext (.t 58) 0),rg 60 (.ext (.t 58) 1)]
 [so (.store 3 (.t 2) (.t 59)),so (.store 4 (.t 3) (.t 60))])
 (.pre (.norm false [2,3]) .ret))))))))
def row252:AFx:=⟨1,12,[.t 2],b252,none,false⟩
def row253:AFx:=⟨2,25,[.t 4,.cell 5 (some 4)],b253,none,false⟩
def row254:AFx:=⟨3,36,[.cell 6 (some 3),.cell 7 (some 4)],b254,none,false⟩
def row255:AFx:=⟨4,49,[.cell 8 (some 3),.cell 9 (some 4)],b255,none,false⟩
def row256:AFx:=⟨1,61,[.cell 2 (some 3),.cell 3 (some 4)],b256,none,false⟩
class Zc3 (T:Tbl):Prop where
 h252:T 252=some row252
 h253:T 253=some row253
 h254:T 254=some row254
 h255:T 255=some row255
 h256:T 256=some row256
section
variable{T:Tbl}[Zc3 T]{d:Option Nat}{st:St}{xs:List AV}{ps:List Opd}{e:Env}{h:Heap}{ol:List Heap}
@[simp] theorem x252:Zc (orc T) T 252 xs d st=cP T 252 false xs d st:=zaa Zc3.h252
@[simp] theorem x253:Zc (orc T) T 253 xs d st=cP T 253 false xs d st:=zaa Zc3.h253
@[simp] theorem x254:Zc (orc T) T 254 xs d st=cP T 254 false xs d st:=zaa Zc3.h254
@[simp] theorem y255:opD (orc T) T (.call 255 ps) e h ol=dP T 255 false ps e:=zaj Zc3.h255
@[simp] theorem x256:Zc (orc T) T 256 xs d st=cP T 256 false xs d st:=zaa Zc3.h256
end
class Zb0 (T:Tbl):Prop where
class Za8 (T:Tbl):Prop where
class Zch (T:Tbl):Prop where
class Zdx (T:Tbl):Prop where
def meths1:List RV:=[.cell 1 (some 445),.cell 2 (some 444),.cell 3 (some 441),.cell 4 (some 448),.cell 5 (some 443),.cell 6 (some 447),.cell 7 (some 446),.cell 8 (some 442)]
class Zdw (T:Tbl):Prop where
def isD(c:UInt8):Bool:=decide (48≤c.toNat)&&decide (c.toNat≤57)
def isL(c:UInt8):Bool:=decide (97≤c.toNat)&&decide (c.toNat≤122) || decide (65≤c.toNat)&&decide (c.toNat≤90) || decide (c.toNat=95)
def Zhs:List UInt8:=[43,45,42,47,94,40,41,91,93,44,59,61]
def isS(c:UInt8):Bool:=Zhs.contains c
def Zk(c:UInt8):Nat:=if isD c then 1 else if isL c then 2 else if isS c then 3 else 0
def Za2(k:Nat)(c:UInt8):Bool:=decide (k=1)&&isD c || decide (k=2)&&(isL c || isD c)
def Zaw(k:Nat):Nat:=if k=1 then 60 else if k=2 then 12 else 1
theorem zd4(k:Nat):1≤Zaw k:=by
 grind[Zaw]
def isB(c:UInt8):Bool:=decide (c=32) || decide (c=9) || decide (c=10) || decide (c=13)
abbrev Wd:=Nat×List UInt8×Nat
def Zbj:Bool→List UInt8→Nat
 | _,[]=>0
 | note,c::r=>
  let note':=if c=35 then true else if c=10 then false else note
  if (note' || isB c)=true then 1+Zbj note' r else 0
theorem zq4:∀(note:Bool) (l:List UInt8),Zbj note l≤l.length
 | _,[]=>Ye _
 | note,c::r=>by
  by_cases h:((if c=35 then true else if c=10 then false else note) || isB c)=true
  ·have:=zq4 (if c=35 then true else if c=10 then false else note) r;simp only[Zbj,h,if_true,Ym];omega
  ·simp only[Zbj,h,if_false,Yai,Yo]
def Z6(k:Nat)(r:List UInt8):Nat:=1+(r.takeWhile (Za2 k)).length
def Zdj(l:List UInt8)(i:Nat)(acc:List Wd):Except Nat (List Wd):=
 match l with
 | []=>.ok acc
 | c::r=>
  if Zk c=0 then .error i
  else if Zaw (Zk c)<Z6 (Zk c) r then .error (i+Zaw (Zk c))
  else Zdj ((r.drop (Z6 (Zk c) r-1)).drop (Zbj false (r.drop (Z6 (Zk c) r-1)))) (i+Z6 (Zk c) r+Zbj false (r.drop (Z6 (Zk c) r-1)))
   (acc++[(Zk c,(c::r).take (Z6 (Zk c) r),i)])
termination_by l.length
decreasing_by grind
theorem zgl(c:UInt8)(r:List UInt8)(i:Nat)(acc:List Wd):Zdj (c::r) i acc =
  if Zk c=0 then .error i
  else if Zaw (Zk c)<Z6 (Zk c) r then .error (i+Zaw (Zk c))
  else Zdj ((r.drop (Z6 (Zk c) r-1)).drop (Zbj false (r.drop (Z6 (Zk c) r-1)))) (i+Z6 (Zk c) r+Zbj false (r.drop (Z6 (Zk c) r-1)))
   (acc++[(Zk c,(c::r).take (Z6 (Zk c) r),i)]):=by rw[Zdj]
theorem zf0(i:Nat)(acc:List Wd):Zdj [] i acc=.ok acc:=by rw[Zdj]
def Zc8(c:UInt8)(i:Nat)(acc:List Wd):List Wd:=
 match acc.getLast? with
 | some (k,t,a)=>if a+t.length=i∧Za2 k c=true then acc.dropLast++[(k,t++[c],a)] else acc++[(Zk c,[c],i)]
 | none=>acc++[(Zk c,[c],i)]
def Zet(acc:List Wd):Bool:=
 match acc.getLast? with
 | some (k,t,_)=>decide (k=0) || decide (Zaw k<t.length)
 | none=>false
def Zew:List UInt8→Nat→Bool→List Wd→Except Nat (List Wd)
 | [],_,_,acc=>.ok acc
 | c::r,i,note,acc=>
  let note':=if c=35 then true else if c=10 then false else note
  if (note' || isB c)=true then Zew r (i+1) note' acc
  else if Zet (Zc8 c i acc)=true then .error i
  else Zew r (i+1) note' (Zc8 c i acc)
theorem ziv:∀(l:List UInt8) (i:Nat) (note:Bool) (acc:List Wd),Zew l i note acc=Zew (l.drop (Zbj note l)) (i+Zbj note l) false acc
 | [],_,_,_=>rfl
 | c::r,i,note,acc=>by
  by_cases h:((if c=35 then true else if c=10 then false else note) || isB c)=true
  ·have ih:=ziv r (i+1) (if c=35 then true else if c=10 then false else note) acc;simp only[Zew,Zbj,h,if_true];rw[ih,Ybl 1,Ydu,Ya6 i 1,Ybl 1]
  ·have h':=h;simp only[Ya1,not_or,Yef]at h';obtain⟨h1,h2⟩:=h';have h3:note=false:=by
    by_cases h35:c=35
    ·simp[h35]at h1
    ·by_cases h10:c=10
     ·subst h10;simp[isB]at h2
     ·simpa[h35,h10]using h1
   subst h3;simp only[Zbj,h,if_false,Yad,Yq,Yai]
theorem z0q{k:Nat}{c:UInt8}(h:Za2 k c=true):(isL c=true∨isD c=true):=by
 grind[Za2]
theorem zaab{c:UInt8}{n:Nat}(h:c.toNat≠n)(hn:n<256):c≠UInt8.ofNat n:=fun e=>h (by simp_all)
theorem ztc{c:UInt8}(h:isL c=true∨isD c=true):c≠35∧c≠10∧isB c=false:=by
 have h1:48≤c.toNat:=by
  grind[isL,isD]
 have e (n:Nat) (hn:n<48):c≠UInt8.ofNat n:=zaab (by omega) (by omega);refine⟨e 35 (by decide),e 10 (by decide),?_⟩;simp only[isB,Ydk,decide_eq_false_iff_not];exact⟨⟨⟨e 32 (by decide),e 9 (by decide)⟩,e 10 (by decide)⟩,e 13 (by decide)⟩
theorem zq5(k a:Nat)(acc:List Wd)(hk:k≠0):∀(r t:List UInt8),t.length≤Zaw k →
  Zew r (a+t.length) false (acc++[(k,t,a)]) =
   if Zaw k<t.length+(r.takeWhile (Za2 k)).length then .error (a+Zaw k)
   else Zew (r.drop (r.takeWhile (Za2 k)).length) (a+t.length+(r.takeWhile (Za2 k)).length) false (acc++[(k,t++r.takeWhile (Za2 k),a)])
 | [],t,ht=>by
  rw[if_neg (by simp_all)];simp
 | c::r,t,ht=>by
  by_cases hc:Za2 k c=true
  ·obtain⟨h1,h2,h3⟩:=ztc (z0q hc);rw[Yb5 hc];have hs:Zc8 c (a+t.length) (acc++[(k,t,a)])=acc++[(k,t++[c],a)]:=by
    simp[Zc8,hc]
   have hb:Zet (acc++[(k,t++[c],a)])=decide (Zaw k<t.length+1):=by
    simp[Zet,hk]
   conv=>lhs;unfold Zew
   simp only[h1,h2,h3,if_false,Bool.or_self,Yai,hs,hb,decide_eq_true_eq];by_cases hm:Zaw k<t.length+1
   ·grind
   ·have ih:=zq5 k a acc hk r (t++[c]) (by grind)
    grind
  grind[List.takeWhile_cons_of_neg]
theorem znv(l:List UInt8):∀c r,l.drop (Zbj false l)=c::r→c≠35∧isB c=false:=by
 have key:∀(l:List UInt8) (note:Bool) c r,l.drop (Zbj note l)=c::r→c≠35∧isB c=false:=by
  intro l
  induction l with
  | nil=>grind
  | cons x l ih=>
   grind[Zbj]
 grind
theorem zxv(p:UInt8→Bool):∀r:List UInt8,r.take (r.takeWhile p).length=r.takeWhile p
 | []=>rfl
 | c::r=>by
  by_cases h:p c=true
  ·rw[Yb5 h,Ym,Yc7,zxv p r]
  ·rw[Ycz h];rfl
theorem zxw(p:UInt8→Bool):∀r:List UInt8,r.drop (r.takeWhile p).length=r.dropWhile p
 | []=>rfl
 | c::r=>by
  by_cases h:p c=true
  ·rw[Yb5 h,Ym,Ydu,zxw p r,List.dropWhile_cons_of_pos h]
  ·rw[Ycz h,List.dropWhile_cons_of_neg h];rfl
def Zoh(acc:List Wd)(i:Nat)(l:List UInt8):Prop:=∀k t a,acc.getLast? = some (k,t,a)→a+t.length=i→∀c r,l=c::r→Za2 k c=false
theorem zxx:∀(n:Nat) (l:List UInt8) (i:Nat) (acc:List Wd),l.length=n→Zoh acc i l→(∀c r,l=c::r→c≠35∧isB c=false) →
  Zew l i false acc=Zdj l i acc:=by
 intro n
 induction n using Nat.strongRecOn with
 | _ n ih=>
  intro l i acc hl hf hp;cases l with
  | nil=>unfold Zdj;rfl
  | cons c r=>
   obtain⟨h1,h2⟩:=hp c r rfl;have h3:c≠10:=by intro h;subst h;simp[isB]at h2
   have hs:Zc8 c i acc=acc++[(Zk c,[c],i)]:=by
    unfold Zc8;split
    ·rename_i k t a hlast;rw[if_neg]
     rintro⟨h4,h5⟩
     rw[hf k t a hlast h4 c r rfl]at h5
     grind
    ·rfl
   have hb:Zet (acc++[(Zk c,[c],i)])=decide (Zk c=0):=by
    grind[zd4,Zet]
   conv=>lhs;unfold Zew
   conv=>rhs;unfold Zdj
   simp only[h1,h2,h3,if_false,Bool.or_self,Yai,hs,hb,decide_eq_true_eq];by_cases hk:Zk c=0
   ·grind
   ·simp only[hk,if_false];have hmost:=zd4 (Zk c);have hrun:=zq5 (Zk c) i acc hk r [c] (by omega);simp only[Ym,Yal,Y8,List.singleton_append]at hrun;rw[hrun];unfold Z6;by_cases hm:Zaw (Zk c)<1+(List.takeWhile (Za2 (Zk c)) r).length
    ·rw[if_pos hm,if_pos hm]
    ·rw[if_neg hm,if_neg hm];obtain⟨x,hx⟩:∃x,x=(List.takeWhile (Za2 (Zk c)) r).length:=⟨_,rfl⟩;have htk:r.take x=List.takeWhile (Za2 (Zk c)) r:=by rw[hx,zxv]
     rw[←hx,ziv,Ybl 1 x,Yc7,htk,Ya6 i 1 x,Ybl 1 x];refine ih _ ?_ _ _ _ rfl ?_ ?_
     ·grind
     ·intro k t a hlast hat c' r' hl';simp only[List.getLast?_append,List.getLast?_singleton,Option.some_or,Option.some.injEq,Prod.mk.injEq]at hlast;obtain⟨rfl,rfl,rfl⟩:=hlast;simp only[Ym,←hx]at hat
      grind[zxw,List.head?_dropWhile_not]
     ·exact znv _
theorem zxy(l:List UInt8):Zew l 0 false []=Zdj (l.drop (Zbj false l)) (Zbj false l) []:=by
 rw[ziv,Y8];exact zxx _ _ _ _ rfl (fun _ _ _ h=>by cases h) (znv l)
def prim187:List AV→Option AV
 | [.i .u8 n]=>if 0≤n∧n<256 then some (.b (isS (UInt8.ofNat n.toNat))) else none
 | _=>none
theorem ztd(c:UInt8):prim187 [u8 c.toNat]=some (.b (isS c)):=by
 have:=c.toNat_lt;simp only[prim187,u8];rw[if_pos ⟨by omega,by omega⟩];simp
def prim184:List AV→Option AV
 | [.s l,.s [c]]=>if l.length≤1000000 then some (.tup [.s (l.takeWhile (· != c)),.s ((l.dropWhile (· != c)).drop 1),.b (l.contains c)]) else none
 | _=>none
theorem zj8(l:List UInt8)(h:l.length≤1000000){c:UInt8}:prim184 [.s l,.s [c]]=some (.tup [.s (l.takeWhile (· != c)),.s ((l.dropWhile (· != c)).drop 1),.b (l.contains c)]):=by
 simp only[prim184,h,if_true]
def textOf:List AV→Option (List UInt8)
 | [.s l]=>if l.length≤10000 then some l else none
 | _=>none
def prim183:List AV→Option AV
 | [.sl els .an,.s sep]=>if els.length≤1000∧sep.length≤100 then (els.mapM textOf).map fun ts=>.s (List.intercalate sep ts) else none
 | _=>none
def Zae(l:List (List UInt8)):List (List AV):=l.map fun s=>[.s s]
@[simp] theorem zc4(l:List (List UInt8)):(Zae l).length=l.length:=by simp[Zae]
@[simp] theorem zf1(l:List (List UInt8)):wkL (Zae l)=Zae l:=by
 induction l with
 | nil=>rfl
 | cons x l ih=>simpa[Zae,wkL,wkR]using ih
class Zam (T:Tbl):Prop where
class Zcs (T:Tbl):Prop where
def l275_0:AX:=
 (.note
 (.seq
 (.reg [rg 17 (.bin .lss (.t 16) (.t 15))])
 (.seq
 (.cond (.t 17)
 .skip
 (.exit 0))
 (.seq
 (.block 1
 (.seq
 (.reg [rg 18 (.iad 1 (.t 14) (.t 16)),rg 19 (.load none (.t 18)),mv 7 19])
 (.seq
 (.reg [mv 21 7,rg 22 (.call 256 [(.t 21)]),mv 20 22,rg 23 (.ext (.t 20) 0),rg 24 (.ext (.t 20) 1),rg 8 (.alloc [(.b false),(.sl [] .nl),(.sl [] .nl)]),rg 9 (.alloc [(.i .i64 0),(.i .i64 0),(.i .i64 0),(.i .i64 0)]),so (.store 3 (.t 8) (.t 23)),so (.store 4 (.t 9) (.t 24))])
 (.seq
 (.seq
 (.reg [rg 25 (.load (some 4) (.t 9)),rg 26 (.build [(.i .i64 0),(.i .i64 0),(.i .i64 0),(.i .i64 0)] []),rg 27 (.eqs true [(0,.int),(1,.int),(2,.int),(3,.int)] (.t 25) (.t 26))])
 (.cond (.t 27)
 (.seq
 (.reg [rg 28 (.fad 3 (.t 9)),rg 29 (.load none (.t 28)),mv 30 5,rg 31 (.bin .add (.t 29) (.t 30)),rg 32 (.fad 3 (.t 9)),so (.store 1 (.t 32) (.t 31))])
 (.seq
 (.drawT [rg 33 (.load (some 4) (.t 9)),rg 2 (.mov (.c (.sl [] .nl)))]
 [so (.store 4 (.t 3) (.t 33))])
 (.pre (.norm false [2,3]) .ret)))
 .skip))
 (.seq
 (.reg [mv 34 4,rg 35 (.load (some 3) (.t 8)),rg 36 (.bsl 3 [(.b false),(.sl [] .nl),(.sl [] .nl)] 1 [(0,(.t 35))]),rg 37 (.app 3 (.t 34) (.t 36)),mv 4 37])
 (.reg [mv 38 5,mv 39 7,rg 40 (.lens (.t 39)),rg 41 (.bin .add (.t 40) (.c (.i .i64 1))),rg 42 (.bin .add (.t 38) (.t 41)),mv 5 42]))))))
 (.reg [rg 43 (.bin .add (.t 16) (.c (.i .i64 1))),mv 16 43]))))
 (.norm false [3,4,5,14,15,16]))
def b275:AX:=
 (.seq
 (.reg [rg 2 (.mov (.c (.sl [] .nl))),rg 3 (.alloc [(.i .i64 0),(.i .i64 0),(.i .i64 0),(.i .i64 0)])])
 (.seq
 (.seq
 (.reg [mv 10 0,rg 11 (.bin .eql (.t 10) (.c (.s [])))])
 (.cond (.t 11)
 (.seq
 (.reg [rg 12 (.build [(.i .i64 0),(.i .i64 0),(.i .i64 0),(.i .i64 0)] []),rg 2 (.mov (.c (.sl [] .nl))),so (.store 4 (.t 3) (.t 12))])
 (.pre (.norm false [2,3]) .ret))
 .skip))
 (.seq
 (.note (.reg [rg 4 (.mov (.c (.sl [] .nl)))]) (.nil 4 3))
 (.seq
 (.reg [rg 5 (.mov (.c (.i .i64 0)))])
 (.seq
 (.seq
 (.reg [mv 13 0,rg 14 (.call 346 [(.t 13),(.c (.s [44]))]),rg 15 (.len (.t 14)),rg 16 (.mov (.c (.i .i64 0)))])
 (.lp 0 (.norm false [3,4,5,14,15,16]) l275_0 (.norm false [3,4])))
 (.seq
 (.reg [mv 44 4,rg 45 (.build [(.i .i64 0),(.i .i64 0),(.i .i64 0),(.i .i64 0)] []),mv 2 44,so (.store 4 (.t 3) (.t 45))])
 (.pre (.norm false [2,3]) .ret)))))))
def row275:AFx:=⟨1,46,[.t 2,.cell 3 (some 4)],b275,none,false⟩
class Zcz (T:Tbl):Prop where
 h275:T 275=some row275
section
variable{T:Tbl}[Zcz T]{d:Option Nat}{st:St}{xs:List AV}{ps:List Opd}{e:Env}{h:Heap}{ol:List Heap}
@[simp] theorem x275:Zc (orc T) T 275 xs d st=cP T 275 false xs d st:=zaa Zcz.h275
end
class Zfj (T:Tbl):Prop where
def b185:AX:=
 (.seq
 (.reg [rg 2 (.mov (.c (.b false)))])
 (.seq
 (.reg [mv 3 0,rg 4 (.bin .geq (.t 3) (.c (u8 48))),mv 5 4,gd 6 5 true (.mov (.t 0)),gd 7 5 true (.bin .leq (.t 6) (.c (u8 57))),rg 8 (.pick (.t 5) (.t 7) (.c (.b false))),mv 2 8])
 (.pre (.norm false [2]) .ret)))
def b186:AX:=
 (.seq
 (.reg [rg 2 (.mov (.c (.b false)))])
 (.seq
 (.reg [mv 3 0,rg 4 (.bin .geq (.t 3) (.c (u8 97))),mv 5 4,gd 6 5 true (.mov (.t 0)),gd 7 5 true (.bin .leq (.t 6) (.c (u8 122))),rg 8 (.pick (.t 5) (.t 7) (.c (.b false))),mv 9 8,gd 10 9 false (.mov (.t 0)),gd 11 9 false (.bin .geq (.t 10) (.c (u8 65))),gd 12 9 false (.mov (.t 11)),gd 13 12 true (.mov (.t 0)),gd 14 12 true (.bin .leq (.t 13) (.c (u8 90))),gd 15 9 false (.pick (.t 12) (.t 14) (.c (.b false))),rg 16 (.pick (.t 9) (.c (.b true)) (.t 15)),mv 17 16,gd 18 17 false (.mov (.t 0)),gd 19 17 false (.bin .eql (.t 18) (.c (u8 95))),rg 20 (.pick (.t 17) (.c (.b true)) (.t 19)),mv 2 20])
 (.pre (.norm false [2]) .ret)))
def b177:AX:=
 (.seq
 (.reg [rg 2 (.mov (.c (.i .i64 0)))])
 (.seq
 (.block 0
 (.seq
 (.reg [mv 4 0,rg 5 (.call 185 [(.t 4)]),mv 3 5])
 (.cond (.t 3)
 (.seq
 (.reg [rg 2 (.mov (.c (.i .i64 1)))])
 (.pre (.norm false [2]) .ret))
 (.seq
 (.reg [mv 7 0,rg 8 (.call 186 [(.t 7)]),mv 6 8])
 (.cond (.t 6)
 (.seq
 (.reg [rg 2 (.mov (.c (.i .i64 2)))])
 (.pre (.norm false [2]) .ret))
 (.seq
 (.reg [mv 10 0,rg 11 (.call 187 [(.t 10)]),mv 9 11])
 (.cond (.t 9)
 (.seq
 (.reg [rg 2 (.mov (.c (.i .i64 3)))])
 (.pre (.norm false [2]) .ret))
 .skip)))))))
 (.seq
 (.reg [rg 2 (.mov (.c (.i .i64 0)))])
 (.pre (.norm false [2]) .ret))))
def b188:AX:=
 (.seq
 (.reg [rg 4 (.mov (.c (.b false)))])
 (.seq
 (.reg [mv 5 0,rg 6 (.bin .eql (.t 5) (.c (.i .i64 1))),mv 7 6,gd 8 7 true (.mov (.t 1)),gd 9 7 true (.call 185 [(.t 8)]),rg 10 (.pick (.t 7) (.t 9) (.c (.b false))),mv 11 10,gd 12 11 false (.mov (.t 0)),gd 13 11 false (.bin .eql (.t 12) (.c (.i .i64 2))),gd 14 11 false (.mov (.t 13)),gd 15 14 true (.mov (.t 1)),gd 16 14 true (.call 186 [(.t 15)]),gd 17 14 true (.mov (.t 16)),gd 18 17 false (.mov (.t 1)),gd 19 17 false (.call 185 [(.t 18)]),gd 20 14 true (.pick (.t 17) (.c (.b true)) (.t 19)),gd 21 11 false (.pick (.t 14) (.t 20) (.c (.b false))),rg 22 (.pick (.t 11) (.c (.b true)) (.t 21)),mv 4 22])
 (.pre (.norm false [4]) .ret)))
def b179:AX:=
 (.seq
 (.reg [rg 2 (.mov (.c (.i .i64 0)))])
 (.seq
 (.seq
 (.reg [mv 3 0])
 (.block 0
 (.seq
 (.reg [rg 5 (.bin .eql (.t 3) (.c (.i .i64 1))),mv 4 5])
 (.cond (.t 4)
 (.seq
 (.reg [rg 2 (.mov (.c (.i .i64 60)))])
 (.pre (.norm false [2]) .ret))
 (.seq
 (.reg [rg 7 (.bin .eql (.t 3) (.c (.i .i64 2))),mv 6 7])
 (.cond (.t 6)
 (.seq
 (.reg [rg 2 (.mov (.c (.i .i64 12)))])
 (.pre (.norm false [2]) .ret))
 .skip))))))
 (.seq
 (.reg [rg 2 (.mov (.c (.i .i64 1)))])
 (.pre (.norm false [2]) .ret))))
def l178_0:AX:=
 (.note
 (.seq
 (.seq
 (.reg [mv 6 5,mv 7 0,rg 8 (.lens (.t 7)),rg 9 (.bin .lss (.t 6) (.t 8)),mv 10 9,gd 11 10 true (.mov (.t 1)),gd 12 10 true (.mov (.t 0)),gd 13 10 true (.mov (.t 5)),gd 14 10 true (.ixs (.t 12) (.t 13)),gd 15 10 true (.call 188 [(.t 11),(.t 14)]),rg 16 (.pick (.t 10) (.t 15) (.c (.b false)))])
 (.cond (.t 16)
 .skip
 (.exit 0)))
 (.block 1
 (.reg [mv 17 5,rg 18 (.bin .add (.t 17) (.c (.i .i64 1))),mv 5 18])))
 (.norm false [0,1,5]))
def b178:AX:=
 (.seq
 (.reg [rg 4 (.mov (.c (.i .i64 0)))])
 (.seq
 (.reg [rg 5 (.mov (.c (.i .i64 1)))])
 (.seq
 (.lp 0 (.norm false [0,1,5]) l178_0 (.norm false [5]))
 (.seq
 (.reg [mv 19 5,mv 4 19])
 (.pre (.norm false [4]) .ret)))))
def b172:AX:=
 (.seq
 (.reg [rg 1 (.xop (.box 3) [(.t 0)]),rg 2 (.mov (.c (.b false)))])
 (.seq
 (.seq
 (.drawT [rg 3 (.fad 1 (.t 1)),rg 4 (.load none (.t 3)),rg 5 (.bin .eql (.t 4) (.c (.s []))),mv 6 5,gd 7 6 false (.fad 0 (.t 1)),gd 8 6 false (.load none (.t 7)),gd 9 6 false (.bin .eql (.t 8) (.c (.i .i64 0))),rg 10 (.pick (.t 6) (.c (.b true)) (.t 9)),mv 11 10,gd 12 11 false (.fad 1 (.t 1)),gd 13 11 false (.load none (.t 12)),gd 14 11 false (.ixs (.t 13) (.c (.i .i64 0))),gd 15 11 false (.call 177 [(.t 14)]),gd 16 11 false (.fad 0 (.t 1)),gd 17 11 false (.load none (.t 16))]
 [gd 18 11 false (.bin .neq (.t 15) (.t 17)),rg 19 (.pick (.t 11) (.c (.b true)) (.t 18))])
 (.cond (.t 19)
 (.seq
 (.reg [rg 2 (.mov (.c (.b false)))])
 (.pre (.norm false [2]) .ret))
 .skip))
 (.seq
 (.drawT [rg 20 (.fad 1 (.t 1)),rg 21 (.load none (.t 20)),rg 22 (.fad 0 (.t 1)),rg 23 (.load none (.t 22)),rg 24 (.call 178 [(.t 21),(.t 23)]),rg 25 (.fad 1 (.t 1)),rg 26 (.load none (.t 25)),rg 27 (.lens (.t 26)),rg 28 (.bin .eql (.t 24) (.t 27)),mv 29 28,gd 30 29 true (.fad 1 (.t 1)),gd 31 29 true (.load none (.t 30)),gd 32 29 true (.lens (.t 31)),gd 33 29 true (.fad 0 (.t 1)),gd 34 29 true (.load none (.t 33)),gd 35 29 true (.call 179 [(.t 34)])]
 [gd 36 29 true (.bin .leq (.t 32) (.t 35)),rg 37 (.pick (.t 29) (.t 36) (.c (.b false))),mv 2 37])
 (.pre (.norm false [2]) .ret))))
def row185:AFx:=⟨1,9,[.t 2],b185,none,false⟩
def row186:AFx:=⟨1,21,[.t 2],b186,none,false⟩
def row187:AFx:=⟨0,0,[],.prim prim187,none,false⟩
def row177:AFx:=⟨1,12,[.t 2],b177,none,false⟩
def row188:AFx:=⟨2,23,[.t 4],b188,none,false⟩
def row179:AFx:=⟨1,8,[.t 2],b179,none,false⟩
def row178:AFx:=⟨2,20,[.t 4],b178,none,false⟩
def row172:AFx:=⟨1,38,[.t 2],b172,none,false⟩
def row184:AFx:=⟨0,0,[],.prim prim184,none,false⟩
class Zbr (T:Tbl):Prop where
 h185:T 185=some row185
 h186:T 186=some row186
 h187:T 187=some row187
 h177:T 177=some row177
 h188:T 188=some row188
 h179:T 179=some row179
 h178:T 178=some row178
 h172:T 172=some row172
 h184:T 184=some row184
section
variable{T:Tbl}[Zbr T]{d:Option Nat}{st:St}{xs:List AV}{ps:List Opd}{e:Env}{h:Heap}{ol:List Heap}
@[simp] theorem x185:Zc (orc T) T 185 xs d st=cP T 185 false xs d st:=zaa Zbr.h185
@[simp] theorem x186:Zc (orc T) T 186 xs d st=cP T 186 false xs d st:=zaa Zbr.h186
@[simp] theorem x187:Zc (orc T) T 187 xs d st=cP T 187 false xs d st:=zaa Zbr.h187
theorem p187(xs:List AV):Za T 187 xs=prim187 xs:=zdc Zbr.h187
@[simp] theorem y177:opD (orc T) T (.call 177 ps) e h ol=dP T 177 false ps e:=zaj Zbr.h177
@[simp] theorem x188:Zc (orc T) T 188 xs d st=cP T 188 false xs d st:=zaa Zbr.h188
@[simp] theorem y179:opD (orc T) T (.call 179 ps) e h ol=dP T 179 false ps e:=zaj Zbr.h179
@[simp] theorem y178:opD (orc T) T (.call 178 ps) e h ol=dP T 178 false ps e:=zaj Zbr.h178
@[simp] theorem x172:Zc (orc T) T 172 xs d st=cP T 172 false xs d st:=zaa Zbr.h172
@[simp] theorem x184:Zc (orc T) T 184 xs d st=cP T 184 false xs d st:=zaa Zbr.h184
theorem p184(xs:List AV):Za T 184 xs=prim184 xs:=zdc Zbr.h184
end
def b536:AX:=
 (.seq
 (.reg [rg 1 (.xop (.box 5) [(.t 0)]),rg 2 (.mov (.c (.b false)))])
 (.seq
 (.reg [rg 3 (.load (some 5) (.t 1)),rg 4 (.call 551 [(.t 3)]),rg 5 (.bin .eql (.t 4) (.c (.i .i64 0))),mv 2 5])
 (.pre (.norm false [2]) .ret)))
def b551:AX:=
 (.seq
 (.reg [rg 1 (.xop (.box 5) [(.t 0)]),rg 2 (.mov (.c (.i .i64 0)))])
 (.seq
 (.reg [rg 4 (.call 205 [(.c (.i .i64 1))]),rg 3 (.alloc [(.b false),(.sl [] .nl),(.sl [] .nl)]),so (.store 3 (.t 3) (.t 4))])
 (.seq
 (.block 0
 (.seq
 (.reg [rg 6 (.fad 0 (.t 1)),rg 7 (.load none (.t 6)),rg 8 (.build [(.i .i64 0),(.s []),(.i .i64 0)] [(0,1,(.c (.i .i64 2))),(1,1,(.t 7))]),rg 9 (.call 172 [(.t 8)]),rg 10 (.un .not (.t 9)),mv 5 10])
 (.cond (.t 5)
 (.seq
 (.reg [rg 2 (.mov (.c (.i .i64 1)))])
 (.pre (.norm false [2]) .ret))
 (.seq
 (.reg [rg 12 (.load (some 5) (.t 1)),rg 13 (.call 559 [(.t 12)]),rg 14 (.un .not (.t 13)),mv 11 14])
 (.cond (.t 11)
 (.seq
 (.reg [rg 2 (.mov (.c (.i .i64 2)))])
 (.pre (.norm false [2]) .ret))
 (.seq
 (.reg [rg 16 (.fad 2 (.t 1)),rg 17 (.load none (.t 16)),rg 18 (.call 560 [(.t 17)]),rg 19 (.un .not (.t 18)),mv 20 19,gd 21 20 false (.fad 3 (.t 1)),gd 22 20 false (.load none (.t 21)),gd 23 20 false (.fad 1 (.t 1)),gd 24 20 false (.load none (.t 23)),gd 25 20 false (.fad 4 (.t 1)),gd 26 20 false (.load none (.t 25)),gd 27 20 false (.bsl 1 [(.sl [] .nl)] 3 [(0,(.t 22)),(1,(.t 24)),(2,(.t 26))]),gd 28 20 false (.call 560 [(.t 27)]),gd 29 20 false (.un .not (.t 28)),rg 30 (.pick (.t 20) (.c (.b true)) (.t 29)),mv 15 30])
 (.cond (.t 15)
 (.seq
 (.reg [rg 2 (.mov (.c (.i .i64 3)))])
 (.pre (.norm false [2]) .ret))
 (.seq
 (.reg [rg 32 (.load (some 5) (.t 1)),rg 33 (.call 561 [(.t 32)]),rg 34 (.un .not (.t 33)),mv 31 34])
 (.cond (.t 31)
 (.seq
 (.reg [rg 2 (.mov (.c (.i .i64 4)))])
 (.pre (.norm false [2]) .ret))
 (.seq
 (.drawT [rg 36 (.fad 3 (.t 1)),rg 37 (.load none (.t 36)),rg 38 (.call 562 [(.t 37)]),rg 39 (.load (some 3) (.t 3))]
 [rg 40 (.call 212 [(.t 38),(.t 39)]),rg 41 (.un .not (.t 40)),mv 35 41])
 (.cond (.t 35)
 (.seq
 (.reg [rg 2 (.mov (.c (.i .i64 5)))])
 (.pre (.norm false [2]) .ret))
 (.seq
 (.drawT [rg 43 (.fad 4 (.t 1)),rg 44 (.load none (.t 43)),rg 45 (.len (.t 44)),rg 46 (.bin .gtr (.t 45) (.c (.i .i64 0))),mv 47 46,gd 48 47 true (.fad 4 (.t 1)),gd 49 47 true (.load none (.t 48)),gd 50 47 true (.call 562 [(.t 49)]),gd 51 47 true (.load (some 3) (.t 3))]
 [gd 52 47 true (.call 212 [(.t 50),(.t 51)]),gd 53 47 true (.un .not (.t 52)),rg 54 (.pick (.t 47) (.t 53) (.c (.b false))),mv 42 54])
 (.cond (.t 42)
 (.seq
 (.reg [rg 2 (.mov (.c (.i .i64 6)))])
 (.pre (.norm false [2]) .ret))
 .skip)))))))))))))
 (.seq
 (.reg [rg 2 (.mov (.c (.i .i64 0)))])
 (.pre (.norm false [2]) .ret)))))
def l559_0:AX:=
 (.note
 (.seq
 (.reg [rg 46 (.bin .lss (.t 45) (.t 44))])
 (.seq
 (.cond (.t 46)
 .skip
 (.exit 0))
 (.seq
 (.block 1
 (.seq
 (.reg [mv 47 45,rg 48 (.iad 1 (.t 43) (.t 45)),rg 49 (.load none (.t 48)),mv 4 47,mv 5 49])
 (.seq
 (.reg [mv 50 5,rg 51 (.len (.t 50)),mv 52 4,rg 53 (.bin .neq (.t 51) (.t 52))])
 (.cond (.t 53)
 (.seq
 (.reg [rg 2 (.mov (.c (.b false)))])
 (.pre (.norm false [2]) .ret))
 .skip))))
 (.reg [rg 54 (.bin .add (.t 45) (.c (.i .i64 1))),mv 45 54]))))
 (.norm false [43,44,45]))
def b559:AX:=
 (.seq
 (.reg [rg 1 (.xop (.box 5) [(.t 0)]),rg 2 (.mov (.c (.b false)))])
 (.seq
 (.reg [rg 6 (.fad 3 (.t 1)),rg 7 (.load none (.t 6)),rg 8 (.len (.t 7)),mv 3 8])
 (.seq
 (.seq
 (.reg [mv 9 3,rg 10 (.bin .lss (.t 9) (.c (.i .i64 1))),mv 11 10,gd 12 11 false (.mov (.t 3)),gd 13 11 false (.bin .gtr (.t 12) (.c (.i .i64 8))),rg 14 (.pick (.t 11) (.c (.b true)) (.t 13)),mv 15 14,gd 16 15 false (.fad 1 (.t 1)),gd 17 15 false (.load none (.t 16)),gd 18 15 false (.len (.t 17)),gd 19 15 false (.mov (.t 3)),gd 20 15 false (.bin .neq (.t 18) (.t 19)),rg 21 (.pick (.t 15) (.c (.b true)) (.t 20)),mv 22 21,gd 23 22 false (.fad 2 (.t 1)),gd 24 22 false (.load none (.t 23)),gd 25 22 false (.len (.t 24)),gd 26 22 false (.mov (.t 3)),gd 27 22 false (.bin .neq (.t 25) (.t 26)),rg 28 (.pick (.t 22) (.c (.b true)) (.t 27)),mv 29 28,gd 30 29 false (.fad 4 (.t 1)),gd 31 29 false (.load none (.t 30)),gd 32 29 false (.len (.t 31)),gd 33 29 false (.mov (.t 3)),gd 34 29 false (.bin .neq (.t 32) (.t 33)),gd 35 29 false (.mov (.t 34)),gd 36 35 true (.fad 4 (.t 1)),gd 37 35 true (.load none (.t 36)),gd 38 35 true (.len (.t 37)),gd 39 35 true (.bin .neq (.t 38) (.c (.i .i64 0))),gd 40 29 false (.pick (.t 35) (.t 39) (.c (.b false))),rg 41 (.pick (.t 29) (.c (.b true)) (.t 40))])
 (.cond (.t 41)
 (.seq
 (.reg [rg 2 (.mov (.c (.b false)))])
 (.pre (.norm false [2]) .ret))
 .skip))
 (.seq
 (.seq
 (.reg [rg 42 (.fad 2 (.t 1)),rg 43 (.load none (.t 42)),rg 44 (.len (.t 43)),rg 45 (.mov (.c (.i .i64 0)))])
 (.lp 0 (.norm false [43,44,45]) l559_0 (.norm false [])))
 (.seq
 (.reg [rg 2 (.mov (.c (.b true)))])
 (.pre (.norm false [2]) .ret))))))
def l560_0:AX:=
 (.note
 (.seq
 (.reg [rg 16 (.bin .lss (.t 15) (.t 14))])
 (.seq
 (.cond (.t 16)
 .skip
 (.exit 2))
 (.seq
 (.block 3
 (.seq
 (.reg [rg 17 (.iad 3 (.t 13) (.t 15)),rg 18 (.load (some 3) (.t 17)),rg 6 (.alloc [(.b false),(.sl [] .nl),(.sl [] .nl)]),so (.store 3 (.t 6) (.t 18))])
 (.seq
 (.reg [rg 19 (.load (some 3) (.t 6)),rg 20 (.call 208 [(.t 19)]),rg 21 (.un .not (.t 20)),mv 22 21,gd 23 22 false (.load (some 3) (.t 6)),gd 24 22 false (.call 223 [(.t 23)]),gd 25 22 false (.bin .gtr (.t 24) (.c (.i .i64 190))),rg 26 (.pick (.t 22) (.c (.b true)) (.t 25))])
 (.cond (.t 26)
 (.seq
 (.reg [rg 2 (.mov (.c (.b false)))])
 (.pre (.norm false [2]) .ret))
 .skip))))
 (.reg [rg 27 (.bin .add (.t 15) (.c (.i .i64 1))),mv 15 27]))))
 (.norm false [7,8,9,13,14,15]))
def l560_1:AX:=
 (.note
 (.seq
 (.reg [rg 10 (.bin .lss (.t 9) (.t 8))])
 (.seq
 (.cond (.t 10)
 .skip
 (.exit 0))
 (.seq
 (.block 1
 (.seq
 (.reg [rg 11 (.iad 1 (.t 7) (.t 9)),rg 12 (.load none (.t 11)),mv 4 12])
 (.seq
 (.reg [mv 13 4,rg 14 (.len (.t 13)),rg 15 (.mov (.c (.i .i64 0)))])
 (.lp 2 (.norm false [7,8,9,13,14,15]) l560_0 (.norm false [7,8,9])))))
 (.reg [rg 28 (.bin .add (.t 9) (.c (.i .i64 1))),mv 9 28]))))
 (.norm false [7,8,9]))
def b560:AX:=
 (.seq
 (.reg [rg 2 (.mov (.c (.b false)))])
 (.seq
 (.seq
 (.reg [mv 7 0,rg 8 (.len (.t 7)),rg 9 (.mov (.c (.i .i64 0)))])
 (.lp 0 (.norm false [7,8,9]) l560_1 (.norm false [])))
 (.seq
 (.reg [rg 2 (.mov (.c (.b true)))])
 (.pre (.norm false [2]) .ret))))
def l561_0:AX:=
 (.note
 (.seq
 (.reg [rg 9 (.bin .lss (.t 8) (.t 7))])
 (.seq
 (.cond (.t 9)
 .skip
 (.exit 0))
 (.seq
 (.block 1
 (.seq
 (.reg [mv 10 8,rg 11 (.iad 1 (.t 6) (.t 8)),rg 12 (.load none (.t 11)),mv 3 10,mv 4 12])
 (.seq
 (.drawT [mv 13 4,rg 14 (.call 562 [(.t 13)]),rg 15 (.fad 1 (.t 1)),rg 16 (.load none (.t 15)),mv 17 3,rg 18 (.iad 3 (.t 16) (.t 17)),rg 19 (.load (some 3) (.t 18))]
 [rg 20 (.call 212 [(.t 14),(.t 19)]),rg 21 (.un .not (.t 20))])
 (.cond (.t 21)
 (.seq
 (.reg [rg 2 (.mov (.c (.b false)))])
 (.pre (.norm false [2]) .ret))
 .skip))))
 (.reg [rg 22 (.bin .add (.t 8) (.c (.i .i64 1))),mv 8 22]))))
 (.norm false [1,6,7,8]))
def b561:AX:=
 (.seq
 (.reg [rg 1 (.xop (.box 5) [(.t 0)]),rg 2 (.mov (.c (.b false)))])
 (.seq
 (.seq
 (.reg [rg 5 (.fad 2 (.t 1)),rg 6 (.load none (.t 5)),rg 7 (.len (.t 6)),rg 8 (.mov (.c (.i .i64 0)))])
 (.lp 0 (.norm false [1,6,7,8]) l561_0 (.norm false [])))
 (.seq
 (.reg [rg 2 (.mov (.c (.b true)))])
 (.pre (.norm false [2]) .ret))))
def l562_0:AX:=
 (.note
 (.seq
 (.reg [rg 10 (.bin .lss (.t 9) (.t 8))])
 (.seq
 (.cond (.t 10)
 .skip
 (.exit 0))
 (.seq
 (.block 1
 (.seq
 (.reg [rg 11 (.iad 3 (.t 7) (.t 9)),rg 12 (.load (some 3) (.t 11)),rg 5 (.alloc [(.b false),(.sl [] .nl),(.sl [] .nl)]),so (.store 3 (.t 5) (.t 12))])
 (.reg [rg 13 (.load (some 3) (.t 3)),rg 14 (.load (some 3) (.t 5)),rg 15 (.call 215 [(.t 13),(.t 14)]),so (.store 3 (.t 3) (.t 15))])))
 (.reg [rg 16 (.bin .add (.t 9) (.c (.i .i64 1))),mv 9 16]))))
 (.norm false [2,3,7,8,9]))
def b562:AX:=
 (.seq
 (.reg [rg 2 (.alloc [(.b false),(.sl [] .nl),(.sl [] .nl)])])
 (.seq
 (.reg [rg 6 (.call 205 [(.c (.i .i64 0))]),rg 3 (.alloc [(.b false),(.sl [] .nl),(.sl [] .nl)]),so (.store 3 (.t 3) (.t 6))])
 (.seq
 (.seq
 (.reg [mv 7 0,rg 8 (.len (.t 7)),rg 9 (.mov (.c (.i .i64 0)))])
 (.lp 0 (.norm false [2,3,7,8,9]) l562_0 (.norm false [2,3])))
 (.seq
 (.reg [rg 17 (.load (some 3) (.t 3)),so (.store 3 (.t 2) (.t 17))])
 (.pre (.norm false [2]) .ret)))))
def row536:AFx:=⟨1,6,[.t 2],b536,none,false⟩
def row551:AFx:=⟨1,55,[.t 2],b551,none,false⟩
def row559:AFx:=⟨1,55,[.t 2],b559,none,false⟩
def row560:AFx:=⟨1,29,[.t 2],b560,none,false⟩
def row561:AFx:=⟨1,23,[.t 2],b561,none,false⟩
def row562:AFx:=⟨1,18,[.cell 2 (some 3)],b562,none,false⟩
class Z9 (T:Tbl):Prop where
 h536:T 536=some row536
 h551:T 551=some row551
 h559:T 559=some row559
 h560:T 560=some row560
 h561:T 561=some row561
 h562:T 562=some row562
section
variable{T:Tbl}[Z9 T]{d:Option Nat}{st:St}{xs:List AV}{ps:List Opd}{e:Env}{h:Heap}{ol:List Heap}
@[simp] theorem x536:Zc (orc T) T 536 xs d st=cP T 536 false xs d st:=zaa Z9.h536
@[simp] theorem x551:Zc (orc T) T 551 xs d st=cP T 551 false xs d st:=zaa Z9.h551
@[simp] theorem x559:Zc (orc T) T 559 xs d st=cP T 559 false xs d st:=zaa Z9.h559
@[simp] theorem x560:Zc (orc T) T 560 xs d st=cP T 560 false xs d st:=zaa Z9.h560
@[simp] theorem x561:Zc (orc T) T 561 xs d st=cP T 561 false xs d st:=zaa Z9.h561
@[simp] theorem y562:opD (orc T) T (.call 562 ps) e h ol=dP T 562 false ps e:=zaj Z9.h562
end
def b608:AX:=
 (.seq
 (.reg [rg 2 (.alloc [(.s []),(.sl [] .nl),(.sl [] .nl),(.sl [] .nl),(.sl [] .nl)]),rg 3 (.alloc [(.i .i64 0),(.i .i64 0),(.i .i64 0),(.i .i64 0)])])
 (.seq
 (.seq
 (.reg [mv 7 0,rg 8 (.lens (.t 7)),rg 9 (.bin .gtr (.t 8) (.c (.i .i64 4000)))])
 (.cond (.t 9)
 (.seq
 (.reg [rg 10 (.build [(.s []),(.sl [] .nl),(.sl [] .nl),(.sl [] .nl),(.sl [] .nl)] []),rg 11 (.build [(.i .i64 0),(.i .i64 0),(.i .i64 0),(.i .i64 0)] [(0,1,(.c (.i .i64 1))),(3,1,(.c (.i .i64 4000)))]),so (.store 5 (.t 2) (.t 10)),so (.store 4 (.t 3) (.t 11))])
 (.pre (.norm false [2,3]) .ret))
 .skip))
 (.seq
 (.reg [mv 13 0,rg 14 (.call 612 [(.t 13)]),mv 12 14,rg 15 (.ext (.t 12) 0),rg 16 (.ext (.t 12) 1),rg 4 (.alloc [(.s []),(.sl [] .nl),(.sl [] .nl),(.sl [] .nl),(.sl [] .nl)]),rg 5 (.alloc [(.i .i64 0),(.i .i64 0),(.i .i64 0),(.i .i64 0)]),so (.store 5 (.t 4) (.t 15)),so (.store 4 (.t 5) (.t 16))])
 (.seq
 (.seq
 (.reg [rg 17 (.load (some 4) (.t 5)),rg 18 (.build [(.i .i64 0),(.i .i64 0),(.i .i64 0),(.i .i64 0)] []),rg 19 (.eqs true [(0,.int),(1,.int),(2,.int),(3,.int)] (.t 17) (.t 18))])
 (.cond (.t 19)
 (.seq
 (.draw [⟨rg 20 (.build [(.s []),(.sl [] .nl),(.sl [] .nl),(.sl [] .nl),(.sl [] .nl)] []),0,0⟩,⟨rg 21 (.load (some 4) (.t 5)),0,1⟩,⟨so (.store 5 (.t 2) (.t 20)),0,1⟩,⟨so (.store 4 (.t 3) (.t 21)),1,2⟩])
 (.pre (.norm false [2,3]) .ret))
 .skip))
 (.seq
 (.seq
 (.reg [rg 22 (.load (some 5) (.t 4)),rg 23 (.call 551 [(.t 22)]),mv 6 23])
 (.seq
 (.reg [mv 24 6,rg 25 (.bin .neq (.t 24) (.c (.i .i64 0)))])
 (.cond (.t 25)
 (.seq
 (.reg [rg 26 (.build [(.s []),(.sl [] .nl),(.sl [] .nl),(.sl [] .nl),(.sl [] .nl)] []),mv 27 6,rg 28 (.build [(.i .i64 0),(.i .i64 0),(.i .i64 0),(.i .i64 0)] [(0,1,(.c (.i .i64 2))),(3,1,(.t 27))]),so (.store 5 (.t 2) (.t 26)),so (.store 4 (.t 3) (.t 28))])
 (.pre (.norm false [2,3]) .ret))
 .skip)))
 (.seq
 (.draw [⟨rg 29 (.load (some 5) (.t 4)),0,0⟩,⟨rg 30 (.load (some 4) (.t 5)),0,1⟩,⟨so (.store 5 (.t 2) (.t 29)),0,1⟩,⟨so (.store 4 (.t 3) (.t 30)),1,2⟩])
 (.pre (.norm false [2,3]) .ret)))))))
def b612:AX:=
 (.seq
 (.reg [rg 2 (.alloc [(.s []),(.sl [] .nl),(.sl [] .nl),(.sl [] .nl),(.sl [] .nl)]),rg 3 (.alloc [(.i .i64 0),(.i .i64 0),(.i .i64 0),(.i .i64 0)])])
 (.seq
 (.reg [rg 4 (.alloc [(.s []),(.sl [] .nl),(.sl [] .nl),(.sl [] .nl),(.sl [] .nl)])])
 (.seq
 (.reg [mv 7 0,rg 8 (.build [(.s []),(.i .i64 0),(.b false)] [(0,1,(.t 7))]),rg 9 (.xop (.box 3) [(.t 8)]),mv 5 9])
 (.seq
 (.reg [mv 11 5,rg 12 (.call 614 [(.t 11)]),mv 10 12,rg 13 (.ext (.t 10) 0),rg 14 (.ext (.t 10) 1),rg 15 (.ext (.t 10) 2),rg 16 (.fad 0 (.t 4)),so (.store 1 (.t 16) (.t 13))])
 (.seq
 (.seq
 (.reg [rg 17 (.fad 0 (.t 4)),rg 18 (.load none (.t 17)),rg 19 (.build [(.i .i64 0),(.s []),(.i .i64 0)] [(0,1,(.c (.i .i64 2))),(1,1,(.t 18))]),rg 20 (.call 172 [(.t 19)]),rg 21 (.un .not (.t 20))])
 (.cond (.t 21)
 (.seq
 (.reg [rg 22 (.load (some 5) (.t 4)),rg 23 (.build [(.i .i64 0),(.i .i64 0),(.i .i64 0),(.i .i64 0)] [(0,1,(.c (.i .i64 1)))]),so (.store 5 (.t 2) (.t 22)),so (.store 4 (.t 3) (.t 23))])
 (.pre (.norm false [2,3]) .ret))
 .skip))
 (.seq
 (.reg [mv 24 5,mv 25 0,rg 26 (.call 615 [(.t 24),(.t 25),(.t 4)]),rg 6 (.alloc [(.i .i64 0),(.i .i64 0),(.i .i64 0),(.i .i64 0)]),so (.store 4 (.t 6) (.t 26))])
 (.seq
 (.seq
 (.reg [rg 27 (.load (some 4) (.t 6)),rg 28 (.build [(.i .i64 0),(.i .i64 0),(.i .i64 0),(.i .i64 0)] []),rg 29 (.eqs true [(0,.int),(1,.int),(2,.int),(3,.int)] (.t 27) (.t 28))])
 (.cond (.t 29)
 (.seq
 (.draw [⟨rg 30 (.load (some 5) (.t 4)),0,0⟩,⟨rg 31 (.load (some 4) (.t 6)),0,1⟩,⟨so (.store 5 (.t 2) (.t 30)),0,1⟩,⟨so (.store 4 (.t 3) (.t 31)),1,2⟩])
 (.pre (.norm false [2,3]) .ret))
 .skip))
 (.seq
 (.seq
 (.reg [mv 33 5,rg 34 (.call 616 [(.t 33),(.c (.s [98]))]),mv 32 34,rg 35 (.ext (.t 32) 0),rg 36 (.ext (.t 32) 1),rg 37 (.fad 3 (.t 4)),so (.store 1 (.t 37) (.t 35)),so (.store 4 (.t 6) (.t 36))])
 (.seq
 (.reg [rg 38 (.load (some 4) (.t 6)),rg 39 (.build [(.i .i64 0),(.i .i64 0),(.i .i64 0),(.i .i64 0)] []),rg 40 (.eqs true [(0,.int),(1,.int),(2,.int),(3,.int)] (.t 38) (.t 39)),mv 41 40,gd 42 41 false (.mov (.t 5)),gd 43 41 false (.nilc (.t 42)),gd 44 41 false (.fad 2 (.t 43)),gd 45 41 false (.load none (.t 44)),rg 46 (.pick (.t 41) (.c (.b true)) (.t 45))])
 (.cond (.t 46)
 (.seq
 (.draw [⟨rg 47 (.load (some 5) (.t 4)),0,0⟩,⟨rg 48 (.load (some 4) (.t 6)),0,1⟩,⟨so (.store 5 (.t 2) (.t 47)),0,1⟩,⟨so (.store 4 (.t 3) (.t 48)),1,2⟩])
 (.pre (.norm false [2,3]) .ret))
 .skip)))
 (.seq
 (.seq
 (.reg [mv 50 5,rg 51 (.call 616 [(.t 50),(.c (.s [101]))]),mv 49 51,rg 52 (.ext (.t 49) 0),rg 53 (.ext (.t 49) 1),rg 54 (.fad 4 (.t 4)),so (.store 1 (.t 54) (.t 52)),so (.store 4 (.t 6) (.t 53))])
 (.seq
 (.reg [rg 55 (.load (some 4) (.t 6)),rg 56 (.build [(.i .i64 0),(.i .i64 0),(.i .i64 0),(.i .i64 0)] []),rg 57 (.eqs true [(0,.int),(1,.int),(2,.int),(3,.int)] (.t 55) (.t 56)),mv 58 57,gd 59 58 false (.mov (.t 5)),gd 60 58 false (.nilc (.t 59)),gd 61 58 false (.fad 2 (.t 60)),gd 62 58 false (.load none (.t 61)),rg 63 (.pick (.t 58) (.c (.b true)) (.t 62))])
 (.cond (.t 63)
 (.seq
 (.draw [⟨rg 64 (.load (some 5) (.t 4)),0,0⟩,⟨rg 65 (.load (some 4) (.t 6)),0,1⟩,⟨so (.store 5 (.t 2) (.t 64)),0,1⟩,⟨so (.store 4 (.t 3) (.t 65)),1,2⟩])
 (.pre (.norm false [2,3]) .ret))
 .skip)))
 (.seq
 (.draw [⟨rg 66 (.load (some 5) (.t 4)),0,0⟩,⟨mv 67 5,0,1⟩,⟨rg 68 (.nilc (.t 67)),0,1⟩,⟨rg 69 (.fad 1 (.t 68)),0,1⟩,⟨rg 70 (.load none (.t 69)),0,1⟩,⟨rg 71 (.build [(.i .i64 0),(.i .i64 0),(.i .i64 0),(.i .i64 0)] [(0,1,(.c (.i .i64 1))),(3,1,(.t 70))]),0,1⟩,⟨so (.store 5 (.t 2) (.t 66)),0,1⟩,⟨so (.store 4 (.t 3) (.t 71)),1,2⟩])
 (.pre (.norm false [2,3]) .ret)))))))))))
def b614:AX:=
 (.seq
 (.reg [rg 2 (.mov (.c (.s []))),rg 3 (.mov (.c (.i .i64 0))),rg 4 (.mov (.c (.b false)))])
 (.seq
 (.seq
 (.reg [mv 9 0,rg 10 (.nilc (.t 9)),rg 11 (.fad 2 (.t 10)),rg 12 (.load none (.t 11))])
 (.cond (.t 12)
 (.seq
 (.drawT [mv 13 0,rg 14 (.nilc (.t 13)),rg 15 (.fad 1 (.t 14)),rg 16 (.load none (.t 15)),rg 2 (.mov (.c (.s [])))]
 [mv 3 16,rg 4 (.mov (.c (.b false)))])
 (.pre (.norm false [2,3,4]) .ret))
 .skip))
 (.seq
 (.reg [mv 17 0,rg 18 (.nilc (.t 17)),rg 19 (.fad 1 (.t 18)),rg 20 (.load none (.t 19)),mv 5 20])
 (.seq
 (.reg [mv 22 0,rg 23 (.nilc (.t 22)),rg 24 (.fad 0 (.t 23)),rg 25 (.load none (.t 24)),rg 26 (.call 184 [(.t 25),(.c (.s [10]))]),mv 21 26,rg 27 (.ext (.t 21) 0),rg 28 (.ext (.t 21) 1),rg 29 (.ext (.t 21) 2),mv 6 27,mv 7 28,mv 8 29])
 (.seq
 (.reg [mv 30 0,mv 31 0,mv 32 7,mv 33 8,rg 34 (.un .not (.t 33)),rg 35 (.nilc (.t 30)),rg 36 (.fad 0 (.t 35)),so (.store 1 (.t 36) (.t 32)),rg 37 (.nilc (.t 31)),rg 38 (.fad 2 (.t 37)),so (.store 1 (.t 38) (.t 34))])
 (.seq
 (.reg [mv 39 0,rg 40 (.nilc (.t 39)),rg 41 (.fad 1 (.t 40)),rg 42 (.load none (.t 41)),mv 43 6,rg 44 (.lens (.t 43)),rg 45 (.bin .add (.t 42) (.t 44)),rg 46 (.nilc (.t 39)),rg 47 (.fad 1 (.t 46)),so (.store 1 (.t 47) (.t 45))])
 (.seq
 (.seq
 (.reg [mv 48 8])
 (.cond (.t 48)
 (.reg [mv 49 0,rg 50 (.nilc (.t 49)),rg 51 (.fad 1 (.t 50)),rg 52 (.load none (.t 51)),rg 53 (.bin .add (.t 52) (.c (.i .i64 1))),rg 54 (.nilc (.t 49)),rg 55 (.fad 1 (.t 54)),so (.store 1 (.t 55) (.t 53))])
 .skip))
 (.seq
 (.reg [mv 56 6,mv 57 5,mv 2 56,mv 3 57,rg 4 (.mov (.c (.b true)))])
 (.pre (.norm false [2,3,4]) .ret)))))))))
def l615_0:AX:=
 (.note
 (.block 1
 (.seq
 (.reg [mv 14 0,rg 15 (.call 614 [(.t 14)]),mv 13 15,rg 16 (.ext (.t 13) 0),rg 17 (.ext (.t 13) 1),rg 18 (.ext (.t 13) 2),mv 7 16,mv 8 17,mv 9 18])
 (.seq
 (.seq
 (.reg [mv 19 9,rg 20 (.un .not (.t 19))])
 (.cond (.t 20)
 (.seq
 (.reg [rg 21 (.build [(.i .i64 0),(.i .i64 0),(.i .i64 0),(.i .i64 0)] []),so (.store 4 (.t 6) (.t 21))])
 (.pre (.norm true [6]) .ret))
 .skip))
 (.seq
 (.seq
 (.reg [mv 22 7,rg 23 (.call 618 [(.t 22),(.c (.s [124]))]),rg 24 (.un .not (.t 23))])
 (.cond (.t 24)
 (.seq
 (.reg [mv 25 0,mv 26 1,mv 27 8,rg 28 (.call 619 [(.t 25),(.t 26),(.t 27)])])
 (.seq
 (.reg [rg 29 (.build [(.i .i64 0),(.i .i64 0),(.i .i64 0),(.i .i64 0)] []),so (.store 4 (.t 6) (.t 29))])
 (.pre (.norm true [6]) .ret)))
 .skip))
 (.seq
 (.reg [mv 31 7,mv 32 8,rg 33 (.call 620 [(.t 31),(.t 32)]),mv 30 33,rg 34 (.ext (.t 30) 0),rg 35 (.ext (.t 30) 1),rg 36 (.ext (.t 30) 2),rg 10 (.alloc [(.b false),(.sl [] .nl),(.sl [] .nl)]),rg 12 (.alloc [(.i .i64 0),(.i .i64 0),(.i .i64 0),(.i .i64 0)]),so (.store 3 (.t 10) (.t 34)),mv 11 35,so (.store 4 (.t 12) (.t 36))])
 (.seq
 (.seq
 (.reg [rg 37 (.load (some 4) (.t 12)),rg 38 (.build [(.i .i64 0),(.i .i64 0),(.i .i64 0),(.i .i64 0)] []),rg 39 (.eqs true [(0,.int),(1,.int),(2,.int),(3,.int)] (.t 37) (.t 38))])
 (.cond (.t 39)
 (.seq
 (.reg [rg 40 (.load (some 4) (.t 12)),so (.store 4 (.t 6) (.t 40))])
 (.pre (.norm true [6]) .ret))
 .skip))
 (.seq
 (.draw [⟨mv 41 2,0,1⟩,⟨mv 42 2,0,0⟩,⟨rg 43 (.nilc (.t 42)),0,0⟩,⟨rg 44 (.fad 1 (.t 43)),0,0⟩,⟨rg 45 (.load none (.t 44)),0,0⟩,⟨rg 46 (.load (some 3) (.t 10)),0,0⟩,⟨rg 47 (.bsl 3 [(.b false),(.sl [] .nl),(.sl [] .nl)] 1 [(0,(.t 46))]),0,0⟩,⟨rg 48 (.app 3 (.t 45) (.t 47)),0,1⟩,⟨rg 49 (.nilc (.t 41)),1,1⟩,⟨rg 50 (.fad 1 (.t 49)),1,1⟩,⟨so (.store 1 (.t 50) (.t 48)),1,2⟩])
 (.reg [mv 51 2,mv 52 2,rg 53 (.nilc (.t 52)),rg 54 (.fad 2 (.t 53)),rg 55 (.load none (.t 54)),mv 56 11,rg 57 (.bsl 1 [(.sl [] .nl)] 1 [(0,(.t 56))]),rg 58 (.app 1 (.t 55) (.t 57)),rg 59 (.nilc (.t 51)),rg 60 (.fad 2 (.t 59)),so (.store 1 (.t 60) (.t 58))]))))))))
 (.norm true [0,1,2,6]))
def b615:AX:=
 (.seq
 (.reg [rg 6 (.alloc [(.i .i64 0),(.i .i64 0),(.i .i64 0),(.i .i64 0)])])
 (.pre (.fld 2 0 1 3) (.pre (.fld 2 0 2 1) (.lp 0 (.norm true [0,1,2,6]) l615_0 (.norm true [6])))))
def b616:AX:=
 (.seq
 (.reg [rg 4 (.mov (.c (.sl [] .nl))),rg 5 (.alloc [(.i .i64 0),(.i .i64 0),(.i .i64 0),(.i .i64 0)])])
 (.seq
 (.reg [mv 14 0,rg 15 (.call 614 [(.t 14)]),mv 13 15,rg 16 (.ext (.t 13) 0),rg 17 (.ext (.t 13) 1),rg 18 (.ext (.t 13) 2),mv 6 16,mv 7 17,mv 8 18])
 (.seq
 (.reg [mv 20 6,mv 21 1,rg 22 (.bin .add (.t 21) (.c (.s [32]))),rg 23 (.call 64 [(.t 20),(.t 22)]),mv 19 23,rg 24 (.ext (.t 19) 0),rg 25 (.ext (.t 19) 1),mv 9 24,mv 10 25])
 (.seq
 (.seq
 (.reg [mv 26 10,rg 27 (.un .not (.t 26))])
 (.cond (.t 27)
 (.seq
 (.reg [mv 28 7,rg 29 (.build [(.i .i64 0),(.i .i64 0),(.i .i64 0),(.i .i64 0)] [(0,1,(.c (.i .i64 1))),(3,1,(.t 28))]),rg 4 (.mov (.c (.sl [] .nl))),so (.store 4 (.t 5) (.t 29))])
 (.pre (.norm false [4,5]) .ret))
 .skip))
 (.seq
 (.reg [mv 31 9,rg 32 (.call 275 [(.t 31)]),mv 30 32,rg 33 (.ext (.t 30) 0),rg 34 (.ext (.t 30) 1),rg 12 (.alloc [(.i .i64 0),(.i .i64 0),(.i .i64 0),(.i .i64 0)]),mv 11 33,so (.store 4 (.t 12) (.t 34))])
 (.seq
 (.reg [mv 35 11,rg 36 (.load (some 4) (.t 12)),mv 37 7,mv 38 1,rg 39 (.lens (.t 38)),rg 40 (.bin .add (.t 37) (.t 39)),rg 41 (.bin .add (.t 40) (.c (.i .i64 1))),rg 42 (.call 621 [(.t 36),(.t 41)]),mv 4 35,so (.store 4 (.t 5) (.t 42))])
 (.pre (.norm false [4,5]) .ret)))))))
def b618:AX:=
 (.seq
 (.reg [rg 4 (.mov (.c (.b false)))])
 (.seq
 (.reg [mv 5 0,mv 6 1,rg 7 (.call 362 [(.t 5),(.t 6)]),rg 8 (.bin .geq (.t 7) (.c (.i .i64 0))),mv 4 8])
 (.pre (.norm false [4]) .ret)))
def b619:AX:=
 (.reg [mv 6 0,mv 7 0,mv 8 0,mv 9 1,mv 10 2,rg 11 (.slstr (.t 9) (some (.t 10)) none),mv 12 2,rg 13 (.nilc (.t 6)),rg 14 (.fad 0 (.t 13)),so (.store 1 (.t 14) (.t 11)),rg 15 (.nilc (.t 7)),rg 16 (.fad 1 (.t 15)),so (.store 1 (.t 16) (.t 12)),rg 17 (.nilc (.t 8)),rg 18 (.fad 2 (.t 17)),so (.store 1 (.t 18) (.c (.b false)))])
def b620:AX:=
 (.seq
 (.reg [rg 4 (.alloc [(.b false),(.sl [] .nl),(.sl [] .nl)]),rg 5 (.mov (.c (.sl [] .nl))),rg 6 (.alloc [(.i .i64 0),(.i .i64 0),(.i .i64 0),(.i .i64 0)])])
 (.seq
 (.reg [mv 14 0,rg 15 (.call 184 [(.t 14),(.c (.s [124]))]),mv 13 15,rg 16 (.ext (.t 13) 0),rg 17 (.ext (.t 13) 1),rg 18 (.ext (.t 13) 2),mv 7 16,mv 8 17,mv 9 18])
 (.seq
 (.reg [mv 20 7,rg 21 (.call 256 [(.t 20)]),mv 19 21,rg 22 (.ext (.t 19) 0),rg 23 (.ext (.t 19) 1),rg 10 (.alloc [(.b false),(.sl [] .nl),(.sl [] .nl)]),rg 11 (.alloc [(.i .i64 0),(.i .i64 0),(.i .i64 0),(.i .i64 0)]),so (.store 3 (.t 10) (.t 22)),so (.store 4 (.t 11) (.t 23))])
 (.seq
 (.seq
 (.reg [rg 24 (.load (some 4) (.t 11)),rg 25 (.build [(.i .i64 0),(.i .i64 0),(.i .i64 0),(.i .i64 0)] []),rg 26 (.eqs true [(0,.int),(1,.int),(2,.int),(3,.int)] (.t 24) (.t 25))])
 (.cond (.t 26)
 (.seq
 (.drawT [rg 27 (.load (some 3) (.t 10)),rg 28 (.load (some 4) (.t 11)),mv 29 1,rg 30 (.call 621 [(.t 28),(.t 29)])]
 [so (.store 3 (.t 4) (.t 27)),rg 5 (.mov (.c (.sl [] .nl))),so (.store 4 (.t 6) (.t 30))])
 (.pre (.norm false [4,5,6]) .ret))
 .skip))
 (.seq
 (.reg [mv 32 8,rg 33 (.call 275 [(.t 32)]),mv 31 33,rg 34 (.ext (.t 31) 0),rg 35 (.ext (.t 31) 1),mv 12 34,so (.store 4 (.t 11) (.t 35))])
 (.seq
 (.draw [⟨rg 36 (.load (some 3) (.t 10)),0,0⟩,⟨mv 37 12,0,1⟩,⟨rg 38 (.load (some 4) (.t 11)),0,0⟩,⟨mv 39 1,0,0⟩,⟨mv 40 7,0,0⟩,⟨rg 41 (.lens (.t 40)),0,0⟩,⟨rg 42 (.bin .add (.t 39) (.t 41)),0,0⟩,⟨rg 43 (.bin .add (.t 42) (.c (.i .i64 1))),0,0⟩,⟨rg 44 (.call 621 [(.t 38),(.t 43)]),0,0⟩,⟨so (.store 3 (.t 4) (.t 36)),0,1⟩,⟨mv 5 37,1,1⟩,⟨so (.store 4 (.t 6) (.t 44)),1,2⟩])
 (.pre (.norm false [4,5,6]) .ret)))))))
def b621:AX:=
 (.seq
 (.reg [rg 2 (.xop (.box 4) [(.t 0)]),rg 4 (.alloc [(.i .i64 0),(.i .i64 0),(.i .i64 0),(.i .i64 0)])])
 (.seq
 (.seq
 (.reg [rg 5 (.load (some 4) (.t 2)),rg 6 (.build [(.i .i64 0),(.i .i64 0),(.i .i64 0),(.i .i64 0)] []),rg 7 (.eqs true [(0,.int),(1,.int),(2,.int),(3,.int)] (.t 5) (.t 6))])
 (.cond (.t 7)
 (.reg [rg 8 (.fad 3 (.t 2)),rg 9 (.load none (.t 8)),mv 10 1,rg 11 (.bin .add (.t 9) (.t 10)),rg 12 (.fad 3 (.t 2)),so (.store 1 (.t 12) (.t 11))])
 .skip))
 (.seq
 (.reg [rg 13 (.load (some 4) (.t 2)),so (.store 4 (.t 4) (.t 13))])
 (.pre (.norm false [4]) .ret))))
def row608:AFx:=⟨1,31,[.cell 2 (some 5),.cell 3 (some 4)],b608,none,false⟩
def row612:AFx:=⟨1,72,[.cell 2 (some 5),.cell 3 (some 4)],b612,none,false⟩
def row614:AFx:=⟨1,58,[.t 2,.t 3,.t 4],b614,(some [true]),false⟩
def row615:AFx:=⟨3,61,[.cell 6 (some 4)],b615,(some [true,false,true]),true⟩
def row616:AFx:=⟨2,43,[.t 4,.cell 5 (some 4)],b616,(some [true,false]),false⟩
def row618:AFx:=⟨2,9,[.t 4],b618,none,false⟩
def row619:AFx:=⟨3,19,[],b619,(some [true,false,false]),false⟩
def row620:AFx:=⟨2,45,[.cell 4 (some 3),.t 5,.cell 6 (some 4)],b620,none,false⟩
def row621:AFx:=⟨2,14,[.cell 4 (some 4)],b621,none,false⟩
class Zaz (T:Tbl):Prop where
 h608:T 608=some row608
 h612:T 612=some row612
 h614:T 614=some row614
 h615:T 615=some row615
 h616:T 616=some row616
 h618:T 618=some row618
 h619:T 619=some row619
 h620:T 620=some row620
 h621:T 621=some row621
section
variable{T:Tbl}[Zaz T]{d:Option Nat}{st:St}{xs:List AV}{ps:List Opd}{e:Env}{h:Heap}{ol:List Heap}
@[simp] theorem x608:Zc (orc T) T 608 xs d st=cP T 608 false xs d st:=zaa Zaz.h608
@[simp] theorem x612:Zc (orc T) T 612 xs d st=cP T 612 false xs d st:=zaa Zaz.h612
@[simp] theorem x614:Zc (orc T) T 614 xs d st=cL T 614 false [true] xs d st:=zaw Zaz.h614
@[simp] theorem x615:Zc (orc T) T 615 xs d st=cL T 615 true [true,false,true] xs d st:=zaw Zaz.h615
@[simp] theorem x616:Zc (orc T) T 616 xs d st=cL T 616 false [true,false] xs d st:=zaw Zaz.h616
@[simp] theorem x618:Zc (orc T) T 618 xs d st=cP T 618 false xs d st:=zaa Zaz.h618
@[simp] theorem x619:Zc (orc T) T 619 xs d st=cL T 619 false [true,false,false] xs d st:=zaw Zaz.h619
@[simp] theorem x620:Zc (orc T) T 620 xs d st=cP T 620 false xs d st:=zaa Zaz.h620
@[simp] theorem x621:Zc (orc T) T 621 xs d st=cP T 621 false xs d st:=zaa Zaz.h621
@[simp] theorem y621:opD (orc T) T (.call 621 ps) e h ol=dP T 621 false ps e:=zaj Zaz.h621
end
class Zgs (T:Tbl):Prop where
class Zge (T:Tbl):Prop where
def l43_0:AX:=
 (.note
 (.seq
 (.seq
 (.reg [mv 6 3,rg 7 (.bin .gtr (.t 6) (.c (.i .i64 0))),mv 8 7,gd 9 8 true (.mov (.t 0)),gd 10 8 true (.mov (.t 3)),gd 11 8 true (.bin .sub (.t 10) (.c (.i .i64 1))),gd 12 8 true (.iad 1 (.t 9) (.t 11)),gd 13 8 true (.load none (.t 12)),gd 14 8 true (.bin .eql (.t 13) (.c (u32 0))),rg 15 (.pick (.t 8) (.t 14) (.c (.b false)))])
 (.cond (.t 15)
 .skip
 (.exit 0)))
 (.block 1
 (.reg [mv 16 3,rg 17 (.bin .sub (.t 16) (.c (.i .i64 1))),mv 3 17])))
 (.norm false [0,3]))
def b43:AX:=
 (.seq
 (.reg [rg 2 (.mov (.c (.sl [] .nl)))])
 (.seq
 (.reg [mv 4 0,rg 5 (.len (.t 4)),mv 3 5])
 (.seq
 (.lp 0 (.norm false [0,3]) l43_0 (.norm false [0,3]))
 (.seq
 (.reg [rg 18 (.bsl 1 [(u32 0)] 0 []),mv 19 0,mv 20 3,rg 21 (.slc 1 (.t 19) none (some (.t 20)) none),rg 22 (.app 1 (.t 18) (.t 21)),mv 2 22])
 (.pre (.norm false [2]) .ret)))))
def b84:AX:=
 (.seq
 (.reg [rg 4 (.mov (.c (u32 0)))])
 (.seq
 (.seq
 (.reg [mv 5 1,mv 6 0,rg 7 (.len (.t 6)),rg 8 (.bin .lss (.t 5) (.t 7))])
 (.cond (.t 8)
 (.seq
 (.reg [mv 9 0,mv 10 1,rg 11 (.iad 1 (.t 9) (.t 10)),rg 12 (.load none (.t 11)),mv 4 12])
 (.pre (.norm false [4]) .ret))
 .skip))
 (.seq
 (.reg [rg 4 (.mov (.c (u32 0)))])
 (.pre (.norm false [4]) .ret))))
def l52_0:AX:=
 (.note
 (.seq
 (.seq
 (.reg [mv 14 5,rg 15 (.bin .geq (.t 14) (.c (.i .i64 0)))])
 (.cond (.t 15)
 .skip
 (.exit 0)))
 (.seq
 (.block 1
 (.seq
 (.reg [mv 18 0,mv 19 5,rg 20 (.call 84 [(.t 18),(.t 19)]),mv 6 20])
 (.seq
 (.reg [mv 21 1,mv 22 5,rg 23 (.call 84 [(.t 21),(.t 22)]),mv 7 23])
 (.seq
 (.seq
 (.reg [mv 24 6,mv 25 7,rg 26 (.bin .lss (.t 24) (.t 25))])
 (.cond (.t 26)
 (.seq
 (.reg [rg 4 (.mov (.c (.i .i64 (-1))))])
 (.pre (.norm false [4]) .ret))
 .skip))
 (.seq
 (.reg [mv 27 6,mv 28 7,rg 29 (.bin .gtr (.t 27) (.t 28))])
 (.cond (.t 29)
 (.seq
 (.reg [rg 4 (.mov (.c (.i .i64 1)))])
 (.pre (.norm false [4]) .ret))
 .skip))))))
 (.reg [mv 16 5,rg 17 (.bin .sub (.t 16) (.c (.i .i64 1))),mv 5 17])))
 (.norm false [0,1,5]))
def b52:AX:=
 (.seq
 (.reg [rg 4 (.mov (.c (.i .i64 0)))])
 (.seq
 (.seq
 (.reg [mv 8 0,rg 9 (.len (.t 8)),mv 10 1,rg 11 (.len (.t 10)),rg 12 (.mm true [(.t 9),(.t 11)]),rg 13 (.bin .sub (.t 12) (.c (.i .i64 1))),mv 5 13])
 (.lp 0 (.norm false [0,1,5]) l52_0 (.norm false [])))
 (.seq
 (.reg [rg 4 (.mov (.c (.i .i64 0)))])
 (.pre (.norm false [4]) .ret))))
def l54_0:AX:=
 (.note
 (.seq
 (.seq
 (.reg [mv 11 5,mv 12 0,rg 13 (.len (.t 12)),rg 14 (.bin .lss (.t 11) (.t 13))])
 (.cond (.t 14)
 .skip
 (.exit 0)))
 (.seq
 (.block 1
 (.seq
 (.drawT [mv 17 0,mv 18 5,rg 19 (.iad 1 (.t 17) (.t 18)),rg 20 (.load none (.t 19)),mv 21 1,mv 22 5,rg 23 (.iad 1 (.t 21) (.t 22)),rg 24 (.load none (.t 23))]
 [rg 25 (.bin .neq (.t 20) (.t 24))])
 (.cond (.t 25)
 (.seq
 (.reg [rg 4 (.mov (.c (.b false)))])
 (.pre (.norm false [4]) .ret))
 .skip)))
 (.reg [mv 15 5,rg 16 (.bin .add (.t 15) (.c (.i .i64 1))),mv 5 16])))
 (.norm false [0,1,5]))
def b54:AX:=
 (.seq
 (.reg [rg 4 (.mov (.c (.b false)))])
 (.seq
 (.seq
 (.reg [mv 6 0,rg 7 (.len (.t 6)),mv 8 1,rg 9 (.len (.t 8)),rg 10 (.bin .neq (.t 7) (.t 9))])
 (.cond (.t 10)
 (.seq
 (.reg [rg 4 (.mov (.c (.b false)))])
 (.pre (.norm false [4]) .ret))
 .skip))
 (.seq
 (.seq
 (.reg [rg 5 (.mov (.c (.i .i64 0)))])
 (.lp 0 (.norm false [0,1,5]) l54_0 (.norm false [])))
 (.seq
 (.reg [rg 4 (.mov (.c (.b true)))])
 (.pre (.norm false [4]) .ret)))))
def l58_0:AX:=
 (.note
 (.seq
 (.seq
 (.reg [mv 17 8,mv 18 5,rg 19 (.bin .lss (.t 17) (.t 18))])
 (.cond (.t 19)
 .skip
 (.exit 0)))
 (.seq
 (.block 1
 (.seq
 (.reg [mv 22 7,mv 23 0,mv 24 8,rg 25 (.call 84 [(.t 23),(.t 24)]),rg 26 (.conv .u64 (.t 25)),mv 27 1,mv 28 8,rg 29 (.call 84 [(.t 27),(.t 28)]),rg 30 (.conv .u64 (.t 29)),rg 31 (.bin .add (.t 26) (.t 30)),rg 32 (.bin .add (.t 22) (.t 31)),mv 7 32])
 (.seq
 (.reg [mv 33 6,mv 34 8,mv 35 7,rg 36 (.bin .rem (.t 35) (.c (u64 4294967296))),rg 37 (.conv .u32 (.t 36)),rg 38 (.iad 1 (.t 33) (.t 34)),so (.store 1 (.t 38) (.t 37))])
 (.reg [mv 39 7,rg 40 (.bin .quo (.t 39) (.c (u64 4294967296))),mv 7 40]))))
 (.reg [mv 20 8,rg 21 (.bin .add (.t 20) (.c (.i .i64 1))),mv 8 21])))
 (.norm false [0,1,5,6,7,8]))
def b58:AX:=
 (.seq
 (.reg [rg 4 (.mov (.c (.sl [] .nl)))])
 (.seq
 (.reg [mv 9 0,rg 10 (.len (.t 9)),mv 11 1,rg 12 (.len (.t 11)),rg 13 (.mm true [(.t 10),(.t 12)]),rg 14 (.bin .add (.t 13) (.c (.i .i64 1))),mv 5 14])
 (.seq
 (.reg [mv 15 5,rg 16 (.mks 1 [(u32 0)] (.t 15) (.t 15)),mv 6 16])
 (.seq
 (.reg [rg 7 (.mov (.c (u64 0)))])
 (.seq
 (.seq
 (.reg [rg 8 (.mov (.c (.i .i64 0)))])
 (.lp 0 (.norm false [0,1,5,6,7,8]) l58_0 (.norm false [6])))
 (.seq
 (.reg [mv 41 6,rg 42 (.call 43 [(.t 41)]),mv 4 42])
 (.pre (.norm false [4]) .ret)))))))
def l59_0:AX:=
 (.note
 (.seq
 (.seq
 (.reg [mv 18 8,mv 19 5,rg 20 (.bin .lss (.t 18) (.t 19))])
 (.cond (.t 20)
 .skip
 (.exit 0)))
 (.seq
 (.block 1
 (.seq
 (.reg [mv 23 0,mv 24 8,rg 25 (.call 84 [(.t 23),(.t 24)]),rg 26 (.conv .u64 (.t 25)),mv 9 26])
 (.seq
 (.reg [mv 27 1,mv 28 8,rg 29 (.call 84 [(.t 27),(.t 28)]),rg 30 (.conv .u64 (.t 29)),mv 31 7,rg 32 (.bin .add (.t 30) (.t 31)),mv 10 32])
 (.seq
 (.reg [rg 7 (.mov (.c (u64 0)))])
 (.seq
 (.seq
 (.reg [mv 33 9,mv 34 10,rg 35 (.bin .lss (.t 33) (.t 34))])
 (.cond (.t 35)
 (.seq
 (.reg [mv 36 9,rg 37 (.bin .add (.t 36) (.c (u64 4294967296))),mv 9 37])
 (.reg [rg 7 (.mov (.c (u64 1)))]))
 .skip))
 (.reg [mv 38 6,mv 39 8,mv 40 9,mv 41 10,rg 42 (.bin .sub (.t 40) (.t 41)),rg 43 (.conv .u32 (.t 42)),rg 44 (.iad 1 (.t 38) (.t 39)),so (.store 1 (.t 44) (.t 43))]))))))
 (.reg [mv 21 8,rg 22 (.bin .add (.t 21) (.c (.i .i64 1))),mv 8 22])))
 (.norm false [0,1,5,6,7,8]))
def b59:AX:=
 (.seq
 (.reg [rg 4 (.mov (.c (.sl [] .nl)))])
 (.seq
 (.reg [mv 11 0,rg 12 (.len (.t 11)),mv 13 1,rg 14 (.len (.t 13)),rg 15 (.mm true [(.t 12),(.t 14)]),mv 5 15])
 (.seq
 (.reg [mv 16 5,rg 17 (.mks 1 [(u32 0)] (.t 16) (.t 16)),mv 6 17])
 (.seq
 (.reg [rg 7 (.mov (.c (u64 0)))])
 (.seq
 (.seq
 (.reg [rg 8 (.mov (.c (.i .i64 0)))])
 (.lp 0 (.norm false [0,1,5,6,7,8]) l59_0 (.norm false [6])))
 (.seq
 (.reg [mv 45 6,rg 46 (.call 43 [(.t 45)]),mv 4 46])
 (.pre (.norm false [4]) .ret)))))))
def row43:AFx:=⟨1,23,[.t 2],b43,none,false⟩
def row84:AFx:=⟨2,13,[.t 4],b84,none,false⟩
def row52:AFx:=⟨2,30,[.t 4],b52,none,false⟩
def row54:AFx:=⟨2,26,[.t 4],b54,none,false⟩
def row58:AFx:=⟨2,43,[.t 4],b58,none,false⟩
def row59:AFx:=⟨2,47,[.t 4],b59,none,false⟩
class Z4 (T:Tbl):Prop where
 h43:T 43=some row43
 h84:T 84=some row84
 h52:T 52=some row52
 h54:T 54=some row54
 h58:T 58=some row58
 h59:T 59=some row59
section
variable{T:Tbl}[Z4 T]{d:Option Nat}{st:St}
@[simp] theorem x43(xs:List AV):Zc (orc T) T 43 xs d st=cP T 43 false xs d st:=zaa Z4.h43
@[simp] theorem x84(xs:List AV):Zc (orc T) T 84 xs d st=cP T 84 false xs d st:=zaa Z4.h84
@[simp] theorem x52(xs:List AV):Zc (orc T) T 52 xs d st=cP T 52 false xs d st:=zaa Z4.h52
@[simp] theorem x54(xs:List AV):Zc (orc T) T 54 xs d st=cP T 54 false xs d st:=zaa Z4.h54
@[simp] theorem x58(xs:List AV):Zc (orc T) T 58 xs d st=cP T 58 false xs d st:=zaa Z4.h58
@[simp] theorem y58{e:Env}{h:Heap}{older:List Heap}(args:List Opd):opD (orc T) T (.call 58 args) e h older=dR (Za T 58 ((args.map (ev e.get)).map (wkIf false))) (args.map (ev e.get)):=zaj Z4.h58
@[simp] theorem y59{e:Env}{h:Heap}{older:List Heap}(args:List Opd):opD (orc T) T (.call 59 args) e h older=dR (Za T 59 ((args.map (ev e.get)).map (wkIf false))) (args.map (ev e.get)):=zaj Z4.h59
end
section
variable{T:Tbl}
theorem zd2(a:List UInt32)(hl:a.length<9223372036854775808){n:Nat}(hn:n≤a.length)(h0:∀(i:Nat) (x:UInt32),n≤i→a[i]? = some x→x.toNat=0)(h1:∀x:UInt32,0<n→a[n-1]? = some x→x.toNat≠0) :
  ∀m:Nat,(n≤m∧m≤a.length)→Zj T 0 0 (.norm false [0,3]) l43_0 ⟨[(0,.sl (Zb a) .an),(3,.i .i64 (m:Int))],[],2⟩=some (.n,⟨[(0,.sl (Zb a) .an),(3,.i .i64 (n:Int))],[],2⟩):=by
 refine zav (fun m:Nat=>⟨[(0,.sl (Zb a) .an),(3,.i .i64 (m:Int))],[],2⟩) _ (fun m=>m) _ ?_
 rintro m ⟨hm,hma⟩
 by_cases h2:m=0
 ·right;subst h2;have:n=0:=by omega
  subst this;constructor<;>simp[l43_0]
 ·have hw:IntKind.wrap .i64 ((m:Int)-1)=((m-1:Nat):Int):=by rw[zac _ (by omega)];omega
  have hm1:m-1<a.length:=by omega
  have hg:a[m-1]? = some (a[m-1]'hm1):=Ya hm1;have hpos:0<m:=by omega
  by_cases h3:m=n
  ·right;subst h3;have hx:=h1 _ hpos hg;constructor<;>simp[l43_0,hpos,hw,hm1,hx]
  ·left;refine⟨m-1,⟨by omega,by omega⟩,by omega,?_,rfl⟩;have hx:=h0 (m-1) _ (by omega) hg;simp[l43_0,hpos,hw,hm1,hx]
end
section
variable{T:Tbl}[Z4 T]
theorem zbl(a:List UInt32)(hl:a.length≤1000000):Za T 43 [.sl (Zb a) .an]=some (.sl (Zb (ofN (val a))) .an):=by
 obtain⟨n,h1,h2,h3,h4⟩:=zfz a;have hr:=zd2 (T:=T) a (by omega) h1 h3 h4 a.length ⟨h1,Ye _⟩;have hlen:(ofN (val a)).length=n:=by grind
 have hb:n≤4294967296:=by omega
 rw[zab Z4.h43 rfl,b43];simp[hr,h1,h2,hlen,hb]
 grind
def atW(a:List UInt32)(i:Nat):Nat:=(a[i]?.map UInt32.toNat).getD 0
theorem zib(a:List UInt32)(i:Nat):atW a i<4294967296:=by
 grind[atW,zak]
theorem zbe(a:List UInt32)(i:Nat):val (a.take (i+1))=val (a.take i)+4294967296^i*atW a i:=by
 grind[atW,zaf,zbf]
theorem zc2(a:List UInt32)(i:Nat)(_hl:a.length≤1000000):Za T 84 [.sl (Zb a) .an,.i .i64 i]=some (u32 (atW a i)):=by
 rw[zab Z4.h84 rfl,b84];unfold atW;by_cases h:i<a.length
 ·simp[h]
 ·simp[h]
theorem zi3(a b:List UInt32)(hl:a.length≤1000000)(hl2:b.length≤1000000):∀m:Nat,m≤1000000 →
  Zj T 0 0 (.norm false []) l52_0 ⟨[(0,.sl (Zb a) .an),(1,.sl (Zb b) .an),(5,.i .i64 ((m:Int)-1))],[],2⟩ =
   if val (a.take m)<val (b.take m) then some (.r,⟨[(4,.i .i64 (-1))],[],2⟩) else if val (b.take m)<val (a.take m) then some (.r,⟨[(4,.i .i64 1)],[],2⟩) else some (.n,⟨[],[],2⟩):=by
 refine zav (fun m:Nat=>⟨[(0,.sl (Zb a) .an),(1,.sl (Zb b) .an),(5,.i .i64 ((m:Int)-1))],[],2⟩) _ (fun m=>m) _ ?_;intro m hm;cases m with
 | zero=>
  right;constructor<;>simp[l52_0]
 | succ i=>
  have hw:IntKind.wrap .i64 ((i:Int)-1)=(i:Int)-1:=zac _ (by omega);have ca:=zc2 (T:=T) a i hl;have cb:=zc2 (T:=T) b i hl2;have e1:=zbe a i;have e2:=zbe b i;have b1:=za0 (a.take i);have b2:=za0 (b.take i);have p1:4294967296^(a.take i).length≤4294967296^i:=Yk (by decide) (by grind);have p2:4294967296^(b.take i).length≤4294967296^i:=Yk (by decide) (by grind);rcases Yce (atW a i) (atW b i) with h1 | h1 | h1
  ·right;have h3:=Yx (4294967296^i) (show atW a i+1≤atW b i from h1);rw[Yag]at h3;have h2:val (a.take (i+1))<val (b.take (i+1)):=by omega
   constructor<;>simp[l52_0,ca,cb,h1,h2]
  ·left;refine⟨i,by omega,Yz i,?_,?_⟩
   ·simp[l52_0,ca,cb,h1,hw]
   grind
  ·right;have h3:=Yx (4294967296^i) (show atW b i+1≤atW a i from h1);rw[Yag]at h3;have h2:val (b.take (i+1))<val (a.take (i+1)):=by omega
   have h4:¬ val (a.take (i+1))<val (b.take (i+1)):=by omega
   have h5:¬ atW a i<atW b i:=by omega
   constructor<;>simp[l52_0,ca,cb,h1,h2,h4,h5]
theorem zd3(a b:List UInt32)(ha:a.length≤1000000)(hb:b.length≤1000000):Za T 52 [.sl (Zb a) .an,.sl (Zb b) .an]=some (.i .i64 (Zdf (val a) (val b))):=by
 have hc:=zi3 (T:=T) a b ha hb (max a.length b.length) (by omega);rw[Yb (by omega),Yb (by omega)]at hc;have e:(if (a.length:Int)<b.length then (b.length:Int) else a.length)=((max a.length b.length:Nat):Int):=by omega
 have hw:IntKind.wrap .i64 (((max a.length b.length:Nat):Int)-1)=((max a.length b.length:Nat):Int)-1:=zac _ (by omega);rw[zab Z4.h52 rfl,b52];simp at e hw hc;simp[e,hw,hc,Zdf]
 grind
end
section
variable{T:Tbl}
theorem zic(a b:List UInt32)(hab:a.length=b.length)(hl:a.length≤1000000):∀i:Nat,i≤a.length →
  Zj T 0 0 (.norm false []) l54_0 ⟨[(0,.sl (Zb a) .an),(1,.sl (Zb b) .an),(5,.i .i64 i)],[],2⟩=if a.drop i=b.drop i then some (.n,⟨[],[],2⟩) else some (.r,⟨[(4,.b false)],[],2⟩):=by
 refine zav (fun i:Nat=>⟨[(0,.sl (Zb a) .an),(1,.sl (Zb b) .an),(5,.i .i64 i)],[],2⟩) _ (fun i=>a.length-i) _ ?_;intro i hi;by_cases h0:i<a.length
 ·have h1:i<b.length:=by omega
  have hw:IntKind.wrap .i64 ((i:Int)+1)=((i+1:Nat):Int):=zac _ (by omega);have hda:a.drop i=a[i]'h0::a.drop (i+1):=Yj h0;have hdb:b.drop i=b[i]'h1::b.drop (i+1):=Yj h1;by_cases h2:a[i]'h0=b[i]'h1
  ·left;refine⟨i+1,h0,by omega,?_,?_⟩
   ·simp[l54_0,h0,h1,h2,hw]
   grind
  ·right;have h3:¬ (a[i]'h0).toNat=(b[i]'h1).toNat:=fun h=>h2 (Yed.1 h);have h4:¬ a.drop i=b.drop i:=by grind
   constructor<;>simp[l54_0,h0,h1,h3,h4]
 ·right;have h4:a.drop i=b.drop i:=by grind
  have h5:¬ (i:Int)<a.length:=by omega
  constructor<;>simp[l54_0,h4,h5]
end
section
variable{T:Tbl}[Z4 T]
theorem zjv(a b:List UInt32)(ha:a.length≤1000000):Za T 54 [.sl (Zb a) .an,.sl (Zb b) .an]=some (.b (decide (a=b))):=by
 rw[zab Z4.h54 rfl,b54];by_cases h:a.length=b.length
 ·have hc:=zic (T:=T) a b h ha 0 (Yo _);simp at hc;by_cases h3:a=b
  ·subst h3;simp[hc]
  ·simp[h,hc,h3]
 ·have h3:¬ a=b:=fun he=>h (by rw[he]);have h2:¬ (a.length:Int)=b.length:=by omega
  simp[h2,h3]
def Ziy(a b:List UInt32)(n:Nat)(y:Nat×Nat×List UInt32):St:=
 ⟨[(0,.sl (Zb a) .an),(1,.sl (Zb b) .an),(5,.i .i64 n),(6,.bs (.loc 16) 1 1 0 n),(7,u64 y.2.1),(8,.i .i64 y.1)],[(.loc 16,⟨1,.own,1,Zb y.2.2⟩)],3⟩
theorem zi4(a b:List UInt32)(n:Nat)(ha:a.length≤1000000)(hb:b.length≤1000000)(hn:n≤1000001):∀y:Nat×Nat×List UInt32,
  (y.1≤n∧y.2.1≤1∧y.2.2.length=n∧val (y.2.2.take y.1)+4294967296^y.1*y.2.1=val (a.take y.1)+val (b.take y.1)) →
  ∃r,(∃(c:Nat) (out:List UInt32),r=(Ex.n,(⟨[(6,.bs (.loc 16) 1 1 0 n)],[(.loc 16,⟨1,.own,1,Zb out⟩)],3⟩:St)) ∧
   out.length=n∧c≤1∧val out+4294967296^n*c=val (a.take n)+val (b.take n))∧Zj T 0 0 (.norm false [6]) l58_0 (Ziy a b n y)=some r:=by
 refine zar _ _ (fun y=>n-y.1) _ ?_
 rintro⟨i,c,out⟩ ⟨hi,hc,ho,hv⟩
 simp only at hi hc ho hv;by_cases h0:i<n
 ·left;have hoi:i<out.length:=by omega
  have hog:out[i]? = some (out[i]'hoi):=Ya hoi;have hw:IntKind.wrap .i64 ((i:Int)+1)=((i+1:Nat):Int):=zac _ (by omega);have ca:=zc2 (T:=T) a i ha;have cb:=zc2 (T:=T) b i hb;have la:=zib a i;have lb:=zib b i;have e1:=zbe a i;have e2:=zbe b i;have m1:atW a i%18446744073709551616=atW a i:=Yh (by omega);have m2:atW b i%18446744073709551616=atW b i:=Yh (by omega);have m3:(c+(atW a i+atW b i))%18446744073709551616=c+(atW a i+atW b i):=Yh (by omega);have m4:(c+(atW a i+atW b i))/4294967296%18446744073709551616=(c+(atW a i+atW b i))/4294967296:=Yh (by omega);refine⟨(i+1,(c+(atW a i+atW b i))/4294967296,out.set i (w32 (c+(atW a i+atW b i)))),⟨h0,by grind,by grind,?_⟩,by omega,?_⟩
  ·grind[zbs,zb1,Nat.div_add_mod]
  ·simp[l58_0,Ziy,h0,ca,cb,m1,m2,m3,m4,hog,hw]
 ·right;have:i=n:=by omega
  subst this;rw[Yb (by omega)]at hv;refine⟨_,⟨c,out,rfl,ho,hc,hv⟩,?_,?_⟩<;>simp[l58_0,Ziy]
theorem zv6{p q r x y z c:Nat}(h1:x+p*4294967296*c=y+z)(h2:c≤1)(h3:y<q)(h4:z<r)(h5:q≤p)(h6:r≤p):x=y+z:=by
 rcases(show c=0∨c=1 by omega) with h | h
 all_goals grind
theorem zna(a b:List UInt32)(ha:a.length≤100000)(hb:b.length≤100000):Za T 58 [.sl (Zb a) .an,.sl (Zb b) .an]=some (.sl (Zb (ofN (val a+val b))) .an):=by
 obtain⟨n,hn⟩:∃n,n=max a.length b.length:=⟨_,rfl⟩;obtain⟨_,⟨c,out,rfl,ho,hc,hv⟩,hr⟩:=zi4 (T:=T) a b (n+1) (by omega) (by omega) (by omega) (0,0,List.replicate (n+1) 0) ⟨Yo _,Yo _,by simp,by simp⟩;unfold Ziy at hr;simp at hr;rw[Yb (by omega),Yb (by omega)]at hv;have e:(if a.length<b.length then (b.length:Int) else a.length)=(n:Int):=by omega
 have hw:IntKind.wrap .i64 ((n:Int)+1)=((n:Int)+1):=zac _ (by omega);have hn1:(0:Int)≤(n:Int)+1:=by omega
 have hn2:(n:Int)+1≤4294967296:=by omega
 have hn3:((n:Int)+1).toNat=n+1:=by omega
 have l1:=za0 a;have l2:=za0 b;have p1:4294967296^a.length≤4294967296^n:=Yk (by decide) (by omega);have p2:4294967296^b.length≤4294967296^n:=Yk (by decide) (by omega);have hval:val out=val a+val b:=by
  exact zv6 hv hc l1 l2 p1 p2
 have hnm:=zbl (T:=T) out (by omega);rw[hval]at hnm;have htk:List.take (n+1) out=out:=Yb (by omega);rw[zab Z4.h58 rfl,b58];simp[e,hw,hn1,hn2,hn3,hr,ho,htk,hnm]
def Zhm(a b:List UInt32)(n:Nat)(y:Nat×Nat×List UInt32):St:=
 ⟨[(0,.sl (Zb a) .an),(1,.sl (Zb b) .an),(5,.i .i64 n),(6,.bs (.loc 17) 1 1 0 n),(7,u64 y.2.1),(8,.i .i64 y.1)],[(.loc 17,⟨1,.own,1,Zb y.2.2⟩)],3⟩
theorem zi5(a b:List UInt32)(n:Nat)(ha:a.length≤1000000)(hb:b.length≤1000000)(hn:n≤1000001):∀y:Nat×Nat×List UInt32,
  (y.1≤n∧y.2.1≤1∧y.2.2.length=n∧val (y.2.2.take y.1)+val (b.take y.1)=val (a.take y.1)+4294967296^y.1*y.2.1) →
  ∃r,(∃(c:Nat) (out:List UInt32),r=(Ex.n,(⟨[(6,.bs (.loc 17) 1 1 0 n)],[(.loc 17,⟨1,.own,1,Zb out⟩)],3⟩:St)) ∧
   out.length=n∧c≤1∧val out+val (b.take n)=val (a.take n)+4294967296^n*c)∧Zj T 0 0 (.norm false [6]) l59_0 (Zhm a b n y)=some r:=by
 refine zar _ _ (fun y=>n-y.1) _ ?_
 rintro⟨i,c,out⟩ ⟨hi,hc,ho,hv⟩
 simp only at hi hc ho hv;by_cases h0:i<n
 ·left;have hoi:i<out.length:=by omega
  have hog:out[i]? = some (out[i]'hoi):=Ya hoi;have hw:IntKind.wrap .i64 ((i:Int)+1)=((i+1:Nat):Int):=zac _ (by omega);have ca:=zc2 (T:=T) a i ha;have cb:=zc2 (T:=T) b i hb;have la:=zib a i;have lb:=zib b i;have e1:=zbe a i;have e2:=zbe b i;have m1:atW a i%18446744073709551616=atW a i:=Yh (by omega);have m2:atW b i%18446744073709551616=atW b i:=Yh (by omega);have m3:(atW b i+c)%18446744073709551616=atW b i+c:=Yh (by omega);have m4:(atW a i+4294967296)%18446744073709551616=atW a i+4294967296:=Yh (by omega);have fin:∀s d:Nat,d≤1→s<4294967296→s+(atW b i+c)=atW a i+4294967296*d →
    val ((out.set i (w32 s)).take (i+1))+val (b.take (i+1))=val (a.take (i+1))+4294967296^(i+1)*d:=by
   grind[zbs,zah]
  by_cases h1:atW a i<atW b i+c
  ·have hs:Zd2 (atW a i+4294967296) (atW b i+c)=atW a i+4294967296-(atW b i+c):=zec (by omega) (by omega);refine⟨(i+1,1,out.set i (w32 (atW a i+4294967296-(atW b i+c)))),⟨h0,Ye _,by grind,fin _ 1 (by omega) (by omega) (by omega)⟩,by omega,?_⟩;simp[l59_0,Zhm,h0,ca,cb,m1,m2,m3,m4,h1,hs,hog,hw]
  ·have hs:Zd2 (atW a i) (atW b i+c)=atW a i-(atW b i+c):=zec (by omega) (by omega);refine⟨(i+1,0,out.set i (w32 (atW a i-(atW b i+c)))),⟨h0,Yo _,by grind,fin _ 0 (by omega) (by omega) (by omega)⟩,by omega,?_⟩;simp[l59_0,Zhm,h0,ca,cb,m1,m2,m3,h1,hs,hog,hw]
 ·right;have:i=n:=by omega
  subst this;rw[Yb (by omega)]at hv;refine⟨_,⟨c,out,rfl,ho,hc,hv⟩,?_,?_⟩<;>simp[l59_0,Zhm]
theorem znb(a b:List UInt32)(ha:a.length≤100000)(hb:b.length≤100000)(hab:val b≤val a):Za T 59 [.sl (Zb a) .an,.sl (Zb b) .an]=some (.sl (Zb (ofN (val a-val b))) .an):=by
 obtain⟨n,hn⟩:∃n,n=max a.length b.length:=⟨_,rfl⟩;obtain⟨_,⟨c,out,rfl,ho,hc,hv⟩,hr⟩:=zi5 (T:=T) a b n (by omega) (by omega) (by omega) (0,0,List.replicate n 0) ⟨Yo _,Yo _,by simp,by simp⟩;unfold Zhm at hr;simp at hr;rw[Yb (by omega),Yb (by omega)]at hv;have e:(if a.length<b.length then (b.length:Int) else a.length)=(n:Int):=by omega
 have hn2:(n:Int)≤4294967296:=by omega
 have hlo:=za0 out;have hval:val out=val a-val b:=by
  rcases Yaw c with h1 | h1
  all_goals grind
 have hnm:=zbl (T:=T) out (by omega);rw[hval]at hnm;have htk:List.take n out=out:=Yb (by omega);rw[zab Z4.h59 rfl,b59];simp[e,hn2,hr,ho,htk,hnm]
end
def l61_0:AX:=
 (.note
 (.seq
 (.seq
 (.reg [mv 21 8,mv 22 1,rg 23 (.len (.t 22)),rg 24 (.bin .lss (.t 21) (.t 23))])
 (.cond (.t 24)
 .skip
 (.exit 2)))
 (.seq
 (.block 3
 (.seq
 (.drawT [mv 27 7,mv 28 0,mv 29 6,rg 30 (.iad 1 (.t 28) (.t 29)),rg 31 (.load none (.t 30)),rg 32 (.conv .u64 (.t 31)),mv 33 1,mv 34 8,rg 35 (.iad 1 (.t 33) (.t 34)),rg 36 (.load none (.t 35)),rg 37 (.conv .u64 (.t 36)),rg 38 (.bin .mul (.t 32) (.t 37)),mv 39 5,mv 40 6,mv 41 8,rg 42 (.bin .add (.t 40) (.t 41)),rg 43 (.iad 1 (.t 39) (.t 42)),rg 44 (.load none (.t 43)),rg 45 (.conv .u64 (.t 44)),rg 46 (.bin .add (.t 38) (.t 45))]
 [rg 47 (.bin .add (.t 27) (.t 46)),mv 7 47])
 (.seq
 (.reg [mv 48 5,mv 49 6,mv 50 8,rg 51 (.bin .add (.t 49) (.t 50)),mv 52 7,rg 53 (.bin .rem (.t 52) (.c (u64 4294967296))),rg 54 (.conv .u32 (.t 53)),rg 55 (.iad 1 (.t 48) (.t 51)),so (.store 1 (.t 55) (.t 54))])
 (.reg [mv 56 7,rg 57 (.bin .quo (.t 56) (.c (u64 4294967296))),mv 7 57]))))
 (.reg [mv 25 8,rg 26 (.bin .add (.t 25) (.c (.i .i64 1))),mv 8 26])))
 (.norm false [0,1,5,6,7,8]))
def l61_1:AX:=
 (.note
 (.seq
 (.seq
 (.reg [mv 15 6,mv 16 0,rg 17 (.len (.t 16)),rg 18 (.bin .lss (.t 15) (.t 17))])
 (.cond (.t 18)
 .skip
 (.exit 0)))
 (.seq
 (.block 1
 (.seq
 (.reg [rg 7 (.mov (.c (u64 0)))])
 (.seq
 (.seq
 (.reg [rg 8 (.mov (.c (.i .i64 0)))])
 (.lp 2 (.norm false [0,1,5,6,7,8]) l61_0 (.norm false [0,1,5,6,7])))
 (.reg [mv 58 5,mv 59 6,mv 60 1,rg 61 (.len (.t 60)),rg 62 (.bin .add (.t 59) (.t 61)),mv 63 7,rg 64 (.conv .u32 (.t 63)),rg 65 (.iad 1 (.t 58) (.t 62)),so (.store 1 (.t 65) (.t 64))]))))
 (.reg [mv 19 6,rg 20 (.bin .add (.t 19) (.c (.i .i64 1))),mv 6 20])))
 (.norm false [0,1,5,6]))
def b61:AX:=
 (.seq
 (.reg [rg 4 (.mov (.c (.sl [] .nl)))])
 (.seq
 (.reg [mv 9 0,rg 10 (.len (.t 9)),mv 11 1,rg 12 (.len (.t 11)),rg 13 (.bin .add (.t 10) (.t 12)),rg 14 (.mks 1 [(u32 0)] (.t 13) (.t 13)),mv 5 14])
 (.seq
 (.seq
 (.reg [rg 6 (.mov (.c (.i .i64 0)))])
 (.lp 0 (.norm false [0,1,5,6]) l61_1 (.norm false [5])))
 (.seq
 (.reg [mv 66 5,rg 67 (.call 43 [(.t 66)]),mv 4 67])
 (.pre (.norm false [4]) .ret)))))
def row61:AFx:=⟨2,68,[.t 4],b61,none,false⟩
class Zai (T:Tbl):Prop extends Z4 T where
 h61:T 61=some row61
section
variable{T:Tbl}[Zai T]{d:Option Nat}{st:St}
@[simp] theorem x61(xs:List AV):Zc (orc T) T 61 xs d st=cP T 61 false xs d st:=zaa Zai.h61
@[simp] theorem y61{e:Env}{h:Heap}{older:List Heap}(args:List Opd):opD (orc T) T (.call 61 args) e h older=dR (Za T 61 ((args.map (ev e.get)).map (wkIf false))) (args.map (ev e.get)):=zaj Zai.h61
end
section
variable{T:Tbl}[Zai T]
theorem zv7{p m w c c' s x y t v:Nat}(h:m+p*c=s+x*t)(e:w+4294967296*c'=x*y+v+c):(m+p*w)+p*4294967296*c'=(s+p*v)+x*(t+p*y):=
 zqu (k:=0) h e
def Zka(P S a b:List UInt32)(y:Nat×Nat×List UInt32):St:=
 ⟨[(0,.sl (Zb a) .an),(1,.sl (Zb b) .an),(5,.bs (.loc 14) 1 1 0 (P.length+S.length)),(6,.i .i64 P.length),(7,u64 y.2.1),(8,.i .i64 y.1)],[(.loc 14,⟨1,.own,1,Zb (P++(y.2.2++S.drop y.1))⟩)],3⟩
end
section
variable{T:Tbl}
theorem zz1(P S a b:List UInt32)(x:UInt32)(hxa:a[P.length]? = some x)(hS:b.length<S.length)(hl:P.length+S.length≤1000000):∀y:Nat×Nat×List UInt32,
  (y.1≤b.length∧y.2.1<4294967296∧y.2.2.length=y.1∧val y.2.2+4294967296^y.1*y.2.1=val (S.take y.1)+x.toNat*val (b.take y.1)) →
  ∃r,(∃(c:Nat) (m:List UInt32),r=(Ex.n,(⟨[(0,.sl (Zb a) .an),(1,.sl (Zb b) .an),(5,.bs (.loc 14) 1 1 0 (P.length+S.length)),(6,.i .i64 P.length),(7,u64 c)],[(.loc 14,⟨1,.own,1,Zb (P++(m++S.drop b.length))⟩)],3⟩:St)) ∧
   m.length=b.length∧c<4294967296∧val m+4294967296^b.length*c=val (S.take b.length)+x.toNat*val b)∧Zj T 0 2 (.norm false [0,1,5,6,7]) l61_0 (Zka P S a b y)=some r:=by
 refine zar _ _ (fun y=>b.length-y.1) _ ?_
 rintro⟨i,c,m⟩ ⟨hi,hc,hm,hv⟩
 simp only at hi hc hm hv;have hPa:P.length<a.length:=by
  rcases Yt P.length a.length with h | h
  ·exact h
  ·rw[Ycv h]at hxa;cases hxa
 obtain rfl:a[P.length]'hPa=x:=by rw[Ya hPa]at hxa;cases hxa;rfl
 generalize hX:a[P.length]'hPa=x at hv ⊢;by_cases h0:i<b.length
 ·left;have hb:b[i]? = some (b[i]'h0):=Ya h0;have hiS:i<S.length:=by omega
  have hs:S[i]? = some (S[i]'hiS):=Ya hiS;have hg:=zc7 (P:=P) hm hiS;have hw:IntKind.wrap .i64 ((i:Int)+1)=((i+1:Nat):Int):=zac _ (by omega);have hw2:IntKind.wrap .i64 ((P.length:Int)+i)=((P.length+i:Nat):Int):=zac _ (by omega);have hlb:=zak (b[i]'h0);have hls:=zak (S[i]'hiS);have hmul:=zgp (zak x) hlb;have hset:=zcr (P:=P) (w32 (c+(x.toNat*(b[i]'h0).toNat+(S[i]'hiS).toNat))) hm hiS;have m1:x.toNat*(b[i]'h0).toNat%18446744073709551616=x.toNat*(b[i]'h0).toNat:=Yh (by omega);have m2:(x.toNat*(b[i]'h0).toNat+(S[i]'hiS).toNat)%18446744073709551616=x.toNat*(b[i]'h0).toNat+(S[i]'hiS).toNat:=Yh (by omega);have m3:(c+(x.toNat*(b[i]'h0).toNat+(S[i]'hiS).toNat))%18446744073709551616=c+(x.toNat*(b[i]'h0).toNat+(S[i]'hiS).toNat):=Yh (by omega);have m4:(c+(x.toNat*(b[i]'h0).toNat+(S[i]'hiS).toNat))/4294967296%18446744073709551616=(c+(x.toNat*(b[i]'h0).toNat+(S[i]'hiS).toNat))/4294967296:=Yh (by omega);refine⟨(i+1,(c+(x.toNat*(b[i]'h0).toNat+(S[i]'hiS).toNat))/4294967296,m++[w32 (c+(x.toNat*(b[i]'h0).toNat+(S[i]'hiS).toNat))]),⟨h0,by simp only;omega,by simp[hm],?_⟩,by simp only;omega,?_⟩
  ·simp only;rw[zai,zaf hb,zaf hs,Y4,hm];simp only[zal,za5,Yac,Yq,zb1];exact zv7 hv (by have:=Ybs (c+(x.toNat*(b[i]'h0).toNat+(S[i]'hiS).toNat)) 4294967296;omega)
  ·simp at hg hset;simp -implicitDefEqProofs[l61_0,Zka,h0,hw,hw2,hiS,hg,hset,hPa,hX,m1,m2,m3,m4]
 ·right;have hib:i=b.length:=by omega
  have hv':val m+4294967296^b.length*c=val (S.take b.length)+x.toNat*val b:=by
   rw[hib,Yb (Ye b.length)]at hv;exact hv
  refine⟨(Ex.n,⟨[(0,.sl (Zb a) .an),(1,.sl (Zb b) .an),(5,.bs (.loc 14) 1 1 0 (P.length+S.length)),(6,.i .i64 P.length),(7,u64 c)],[(.loc 14,⟨1,.own,1,Zb (P++(m++S.drop i))⟩)],3⟩),⟨c,m,by rw[hib],by rw[hm,hib],hc,hv'⟩,?_,?_⟩<;>simp -implicitDefEqProofs[l61_0,Zka,h0]
end
section
variable{T:Tbl}[Zai T]
def Ziz(a b:List UInt32)(y:Nat×List UInt32):St:=
 ⟨[(0,.sl (Zb a) .an),(1,.sl (Zb b) .an),(5,.bs (.loc 14) 1 1 0 (a.length+b.length)),(6,.i .i64 y.1)],[(.loc 14,⟨1,.own,1,Zb (y.2++List.replicate (a.length-y.1) 0)⟩)],3⟩
end
section
variable{T:Tbl}
theorem zv8(a b:List UInt32)(ha:a.length≤100000)(hb:b.length≤100000):∀y:Nat×List UInt32,
  (y.1≤a.length∧y.2.length=b.length+y.1∧val y.2=val (a.take y.1)*val b) →
  ∃r,(∃out:List UInt32,r=(Ex.n,(⟨[(5,.bs (.loc 14) 1 1 0 (a.length+b.length))],[(.loc 14,⟨1,.own,1,Zb out⟩)],3⟩:St))∧out.length=a.length+b.length∧val out=val a*val b) ∧
   Zj T 0 0 (.norm false [5]) l61_1 (Ziz a b y)=some r:=by
 refine zar _ _ (fun y=>a.length-y.1) _ ?_
 rintro⟨i,X⟩ ⟨hi,hX,hv⟩
 simp only at hi hX hv;by_cases h0:i<a.length
 ·left;have hag:a[i]? = some (a[i]'h0):=Ya h0;have hw:IntKind.wrap .i64 ((i:Int)+1)=((i+1:Nat):Int):=zac _ (by omega);have e2:(X.take i).length=i:=by simp;omega
  have e3:(X.drop i++List.replicate (a.length-i) 0).length=a.length+b.length-i:=by simp;omega
  obtain⟨_,⟨c,m,rfl,hm,hc,hvm⟩,hr⟩:=zz1 (T:=T) (X.take i) (X.drop i++List.replicate (a.length-i) 0) a b (a[i]'h0) (by rw[e2];exact hag) (by simp;omega) (by simp;omega) (0,0,[]) ⟨Yo _,Nat.zero_lt_succ _,rfl,by simp⟩;have e1:X.take i++(X.drop i++List.replicate (a.length-i) 0)=X++List.replicate (a.length-i) 0:=by rw[←Ybd,Yan]
  have e4:i+(a.length+b.length-i)=a.length+b.length:=by omega
  have e6:(X.drop i++List.replicate (a.length-i) 0).take b.length=X.drop i:=by
   rw[Ybx (by simp;omega),Yb (by simp;omega)]
  have hSl:b.length<(X.drop i++List.replicate (a.length-i) 0).length:=by simp;omega
  have hg:=zc7 (P:=X.take i) (m:=m) hm hSl;have hset:=zcr (P:=X.take i) (m:=m) (w32 c) hm hSl;have e5:(X.drop i++List.replicate (a.length-i) 0).drop (b.length+1)=List.replicate (a.length-(i+1)) 0:=by
   rw[Yee,Yat (by simp;omega),Yds];simp only[Yam,Yak];congr 1;omega
  unfold Zka at hr;simp only[Yam,Yad]at hr;rw[e1,e2,e3,e4]at hr;rw[e2]at hg hset;rw[e5]at hset;rw[e6]at hvm;generalize hQ:X.take i++(m++(X.drop i++List.replicate (a.length-i) 0).drop b.length)=Q at hr hg hset;have hw2:IntKind.wrap .i64 ((i:Int)+b.length)=((i+b.length:Nat):Int):=zac _ (by omega);have hlt:((i:Int)+b.length)<(a.length:Int)+b.length:=by omega
  simp at hr hg hset;refine⟨(i+1,X.take i++(m++[w32 c])),⟨h0,by simp only[Y1,e2,hm,List.length_singleton];omega,?_⟩,by simp only;omega,?_⟩
  ·simp only;have e7:=zai (X.take i) (X.drop i);rw[Yan,e2]at e7;rw[zai,e2,zai,hm];simp only[zal,za5,Yac,Yq,zah hc];rw[hvm,zaf hag,Ybw,←hv,e7,Yag];rw[Y3];omega
  ·simp -implicitDefEqProofs[l61_1,Ziz,h0,hw,hr,hw2,hlt,hg,hset]
 ·right;have:i=a.length:=by omega
  subst this;rw[Yb (Ye _)]at hv;refine⟨_,⟨X++List.replicate (a.length-a.length) 0,rfl,by simp;omega,by simp[hv]⟩,?_,?_⟩<;>simp -implicitDefEqProofs[l61_1,Ziz]
end
section
variable{T:Tbl}[Zai T]
theorem zdd(a b:List UInt32)(ha:a.length≤100000)(hb:b.length≤100000):Za T 61 [.sl (Zb a) .an,.sl (Zb b) .an]=some (.sl (Zb (ofN (val a*val b))) .an):=by
 obtain⟨_,⟨out,rfl,ho,hv⟩,hr⟩:=zv8 (T:=T) a b ha hb (0,List.replicate b.length 0) ⟨Yo _,by simp,by simp[zax]⟩;unfold Ziz at hr;simp at hr;have hw1:IntKind.wrap .i64 ((a.length:Int)+b.length)=(a.length:Int)+b.length:=zac _ (by omega);have hle:(a.length:Int)+b.length≤4294967296:=by omega
 have hn:=zbl (T:=T) out (by omega);rw[hv]at hn;have htk:List.take (a.length+b.length) out=out:=Yb (by omega);have he:b.length+a.length=a.length+b.length:=by omega
 rw[he]at hr;rw[zab Zai.h61 rfl,b61];simp -implicitDefEqProofs[hw1,hle,hr,ho,htk,hn]
end
def l122_0:AX:=
 (.note
 (.seq
 (.seq
 (.reg [mv 21 6,mv 22 1,rg 23 (.bin .rem (.t 22) (.c (.i .i64 32))),rg 24 (.bin .lss (.t 21) (.t 23))])
 (.cond (.t 24)
 .skip
 (.exit 0)))
 (.seq
 (.block 1
 (.reg [mv 27 5,rg 28 (.bin .quo (.t 27) (.c (u32 2))),mv 5 28]))
 (.reg [mv 25 6,rg 26 (.bin .add (.t 25) (.c (.i .i64 1))),mv 6 26])))
 (.norm false [1,5,6]))
def b122:AX:=
 (.seq
 (.reg [rg 4 (.mov (.c (.b false)))])
 (.seq
 (.seq
 (.reg [mv 7 1,rg 8 (.bin .lss (.t 7) (.c (.i .i64 0))),mv 9 8,gd 10 9 false (.mov (.t 1)),gd 11 9 false (.bin .quo (.t 10) (.c (.i .i64 32))),gd 12 9 false (.mov (.t 0)),gd 13 9 false (.len (.t 12)),gd 14 9 false (.bin .geq (.t 11) (.t 13)),rg 15 (.pick (.t 9) (.c (.b true)) (.t 14))])
 (.cond (.t 15)
 (.seq
 (.reg [rg 4 (.mov (.c (.b false)))])
 (.pre (.norm false [4]) .ret))
 .skip))
 (.seq
 (.reg [mv 16 0,mv 17 1,rg 18 (.bin .quo (.t 17) (.c (.i .i64 32))),rg 19 (.iad 1 (.t 16) (.t 18)),rg 20 (.load none (.t 19)),mv 5 20])
 (.seq
 (.seq
 (.reg [rg 6 (.mov (.c (.i .i64 0)))])
 (.lp 0 (.norm false [1,5,6]) l122_0 (.norm false [5])))
 (.seq
 (.reg [mv 29 5,rg 30 (.bin .rem (.t 29) (.c (u32 2))),rg 31 (.bin .eql (.t 30) (.c (u32 1))),mv 4 31])
 (.pre (.norm false [4]) .ret))))))
def l95_0:AX:=
 (.note
 (.seq
 (.seq
 (.reg [mv 7 3,rg 8 (.bin .gtr (.t 7) (.c (.i .i64 0))),mv 9 8,gd 10 9 true (.mov (.t 0)),gd 11 9 true (.mov (.t 3)),gd 12 9 true (.bin .sub (.t 11) (.c (.i .i64 1))),gd 13 9 true (.call 122 [(.t 10),(.t 12)]),gd 14 9 true (.un .not (.t 13)),rg 15 (.pick (.t 9) (.t 14) (.c (.b false)))])
 (.cond (.t 15)
 .skip
 (.exit 0)))
 (.block 1
 (.reg [mv 16 3,rg 17 (.bin .sub (.t 16) (.c (.i .i64 1))),mv 3 17])))
 (.norm false [0,3]))
def b95:AX:=
 (.seq
 (.reg [rg 2 (.mov (.c (.i .i64 0)))])
 (.seq
 (.reg [mv 4 0,rg 5 (.len (.t 4)),rg 6 (.bin .mul (.c (.i .i64 32)) (.t 5)),mv 3 6])
 (.seq
 (.lp 0 (.norm false [0,3]) l95_0 (.norm false [3]))
 (.seq
 (.reg [mv 18 3,mv 2 18])
 (.pre (.norm false [2]) .ret)))))
def l96_0:AX:=
 (.note
 (.seq
 (.seq
 (.reg [mv 8 5,mv 9 0,rg 10 (.len (.t 9)),rg 11 (.bin .lss (.t 8) (.t 10))])
 (.cond (.t 11)
 .skip
 (.exit 0)))
 (.seq
 (.block 1
 (.seq
 (.reg [mv 14 0,mv 15 5,rg 16 (.iad 1 (.t 14) (.t 15)),rg 17 (.load none (.t 16)),rg 18 (.bin .quo (.t 17) (.c (u32 2147483648))),mv 6 18])
 (.seq
 (.reg [mv 19 0,mv 20 5,mv 21 0,mv 22 5,rg 23 (.iad 1 (.t 21) (.t 22)),rg 24 (.load none (.t 23)),rg 25 (.bin .mul (.t 24) (.c (u32 2))),mv 26 4,rg 27 (.bin .add (.t 25) (.t 26)),rg 28 (.iad 1 (.t 19) (.t 20)),so (.store 1 (.t 28) (.t 27))])
 (.reg [mv 29 6,mv 4 29]))))
 (.reg [mv 12 5,rg 13 (.bin .add (.t 12) (.c (.i .i64 1))),mv 5 13])))
 (.norm false [0,4,5]))
def b96:AX:=
 (.seq
 (.reg [rg 4 (.mov (.c (u32 0)))])
 (.seq
 (.seq
 (.reg [mv 7 1])
 (.cond (.t 7)
 (.reg [rg 4 (.mov (.c (u32 1)))])
 .skip))
 (.seq
 (.reg [rg 5 (.mov (.c (.i .i64 0)))])
 (.lp 0 (.norm false [0,4,5]) l96_0 (.norm false [])))))
def l97_0:AX:=
 (.note
 (.seq
 (.seq
 (.reg [mv 8 5,mv 9 0,rg 10 (.len (.t 9)),rg 11 (.bin .lss (.t 8) (.t 10))])
 (.cond (.t 11)
 .skip
 (.exit 0)))
 (.seq
 (.block 1
 (.seq
 (.reg [mv 14 0,mv 15 5,rg 16 (.iad 1 (.t 14) (.t 15)),rg 17 (.load none (.t 16)),rg 18 (.conv .u64 (.t 17)),mv 6 18])
 (.seq
 (.reg [mv 19 1,mv 20 5,rg 21 (.call 84 [(.t 19),(.t 20)]),rg 22 (.conv .u64 (.t 21)),mv 23 4,rg 24 (.bin .add (.t 22) (.t 23)),mv 7 24])
 (.seq
 (.reg [rg 4 (.mov (.c (u64 0)))])
 (.seq
 (.seq
 (.reg [mv 25 6,mv 26 7,rg 27 (.bin .lss (.t 25) (.t 26))])
 (.cond (.t 27)
 (.seq
 (.reg [mv 28 6,rg 29 (.bin .add (.t 28) (.c (u64 4294967296))),mv 6 29])
 (.reg [rg 4 (.mov (.c (u64 1)))]))
 .skip))
 (.reg [mv 30 0,mv 31 5,mv 32 6,mv 33 7,rg 34 (.bin .sub (.t 32) (.t 33)),rg 35 (.conv .u32 (.t 34)),rg 36 (.iad 1 (.t 30) (.t 31)),so (.store 1 (.t 36) (.t 35))]))))))
 (.reg [mv 12 5,rg 13 (.bin .add (.t 12) (.c (.i .i64 1))),mv 5 13])))
 (.norm false [0,1,4,5]))
def b97:AX:=
 (.seq
 (.reg [rg 4 (.mov (.c (u64 0)))])
 (.seq
 (.reg [rg 5 (.mov (.c (.i .i64 0)))])
 (.lp 0 (.norm false [0,1,4,5]) l97_0 (.norm false []))))
def l63_0:AX:=
 (.note
 (.seq
 (.seq
 (.reg [mv 19 8,rg 20 (.bin .geq (.t 19) (.c (.i .i64 0)))])
 (.cond (.t 20)
 .skip
 (.exit 0)))
 (.seq
 (.block 1
 (.seq
 (.drawT [mv 23 7,mv 24 0,mv 25 8,rg 26 (.bin .quo (.t 25) (.c (.i .i64 32))),rg 27 (.iad 1 (.t 24) (.t 26)),rg 28 (.load none (.t 27)),mv 29 8,rg 30 (.bin .rem (.t 29) (.c (.i .i64 32))),rg 31 (.bin .shl (.c (u32 1)) (.t 30)),rg 32 (.bin .quo (.t 28) (.t 31)),rg 33 (.bin .rem (.t 32) (.c (u32 2))),rg 34 (.bin .eql (.t 33) (.c (u32 1)))]
 [rg 35 (.call 96 [(.t 23),(.t 34)])])
 (.seq
 (.reg [mv 36 6,rg 37 (.call 96 [(.t 36),(.c (.b false))])])
 (.seq
 (.reg [mv 38 7,mv 39 1,rg 40 (.call 52 [(.t 38),(.t 39)]),rg 41 (.bin .geq (.t 40) (.c (.i .i64 0)))])
 (.cond (.t 41)
 (.seq
 (.reg [mv 42 7,mv 43 1,rg 44 (.call 97 [(.t 42),(.t 43)])])
 (.reg [mv 45 6,rg 46 (.iad 1 (.t 45) (.c (.i .i64 0))),rg 47 (.load none (.t 46)),rg 48 (.bin .add (.t 47) (.c (u32 1))),rg 49 (.iad 1 (.t 45) (.c (.i .i64 0))),so (.store 1 (.t 49) (.t 48))]))
 .skip)))))
 (.reg [mv 21 8,rg 22 (.bin .sub (.t 21) (.c (.i .i64 1))),mv 8 22])))
 (.norm false [0,1,6,7,8]))
def b63:AX:=
 (.seq
 (.reg [rg 4 (.mov (.c (.sl [] .nl))),rg 5 (.mov (.c (.sl [] .nl)))])
 (.seq
 (.reg [mv 9 0,rg 10 (.len (.t 9)),rg 11 (.mks 1 [(u32 0)] (.t 10) (.t 10)),mv 6 11])
 (.seq
 (.reg [mv 12 1,rg 13 (.len (.t 12)),rg 14 (.bin .add (.t 13) (.c (.i .i64 1))),rg 15 (.mks 1 [(u32 0)] (.t 14) (.t 14)),mv 7 15])
 (.seq
 (.seq
 (.reg [mv 16 0,rg 17 (.call 95 [(.t 16)]),rg 18 (.bin .sub (.t 17) (.c (.i .i64 1))),mv 8 18])
 (.lp 0 (.norm false [0,1,6,7,8]) l63_0 (.norm false [6,7])))
 (.seq
 (.reg [mv 50 6,rg 51 (.call 43 [(.t 50)]),mv 52 7,rg 53 (.call 43 [(.t 52)]),mv 4 51,mv 5 53])
 (.pre (.norm false [4,5]) .ret))))))
def row122:AFx:=⟨2,32,[.t 4],b122,none,false⟩
def row95:AFx:=⟨1,19,[.t 2],b95,none,false⟩
def row96:AFx:=⟨2,30,[],b96,(some [true,false]),false⟩
def row97:AFx:=⟨2,37,[],b97,(some [true,false]),false⟩
def row63:AFx:=⟨2,54,[.t 4,.t 5],b63,none,false⟩
class Z1 (T:Tbl):Prop extends Zai T where
 h122:T 122=some row122
 h95:T 95=some row95
 h96:T 96=some row96
 h97:T 97=some row97
 h63:T 63=some row63
section
variable{T:Tbl}[Z1 T]{d:Option Nat}{st:St}
@[simp] theorem x122(xs:List AV):Zc (orc T) T 122 xs d st=cP T 122 false xs d st:=zaa Z1.h122
@[simp] theorem x95(xs:List AV):Zc (orc T) T 95 xs d st=cP T 95 false xs d st:=zaa Z1.h95
@[simp] theorem y95{e:Env}{h:Heap}{older:List Heap}(args:List Opd):opD (orc T) T (.call 95 args) e h older=dR (Za T 95 ((args.map (ev e.get)).map (wkIf false))) (args.map (ev e.get)):=zaj Z1.h95
@[simp] theorem x96(xs:List AV):Zc (orc T) T 96 xs d st=bL (Zek st.heap [true,false] xs) fun ys=>Zd1 ys (Zh (Zay [true,false] xs) st.heap) (Zcv (Zh (Zay [true,false] xs) st.heap) 40 (Zck [true,false] xs) []) T 96 false d st:=zaw Z1.h96
@[simp] theorem x97(xs:List AV):Zc (orc T) T 97 xs d st=bL (Zek st.heap [true,false] xs) fun ys=>Zd1 ys (Zh (Zay [true,false] xs) st.heap) (Zcv (Zh (Zay [true,false] xs) st.heap) 40 (Zck [true,false] xs) []) T 97 false d st:=zaw Z1.h97
@[simp] theorem x63(xs:List AV):Zc (orc T) T 63 xs d st=cP T 63 false xs d st:=zaa Z1.h63
end
section
variable{T:Tbl}[Z1 T]
def Zmc(a:List UInt32)(y:Nat×Nat×List UInt32):St:=
 ⟨[(0,.bs (.bor 0) 0 1 0 a.length),(4,u32 y.2.1),(5,.i .i64 y.1)],[(.bor 0,⟨0,.own,1,Zb (y.2.2++a.drop y.1)⟩)],4⟩
theorem z33{p m c c' w s x k:Nat}(h:m+p*c=2*s+k)(e:w+4294967296*c'=2*x+c):(m+p*w)+p*4294967296*c'=2*(s+p*x)+k:=by
 grind
end
section
variable{T:Tbl}
theorem z34(a:List UInt32)(c0:Nat)(hl:a.length≤1000000):∀y:Nat×Nat×List UInt32,
  (y.1≤a.length∧y.2.1≤1∧y.2.2.length=y.1∧val y.2.2+4294967296^y.1*y.2.1=2*val (a.take y.1)+c0) →
  ∃r,(∃(c:Nat) (m:List UInt32),r=(Ex.n,(⟨[],[(.bor 0,⟨0,.own,1,Zb m⟩)],4⟩:St)) ∧
   m.length=a.length∧c≤1∧val m+4294967296^a.length*c=2*val a+c0)∧Zj T 1 0 (.norm false []) l96_0 (Zmc a y)=some r:=by
 refine zar _ _ (fun y=>a.length-y.1) _ ?_
 rintro⟨i,c,m⟩ ⟨hi,hc,hm,hv⟩
 simp only at hi hc hm hv;by_cases h0:i<a.length
 ·left;have ha:a[i]? = some (a[i]'h0):=Ya h0;have hg:=zc7 (P:=[]) hm h0;have hw:IntKind.wrap .i64 ((i:Int)+1)=((i+1:Nat):Int):=zac _ (by omega);have hlx:=zak (a[i]'h0);have hset:=zcr (P:=[]) (w32 ((a[i]'h0).toNat*2%4294967296+c)) hm h0;simp at hg hset;have m1:((a[i]'h0).toNat*2%4294967296+c)%4294967296=(a[i]'h0).toNat*2%4294967296+c:=Yh (by omega);have m2:(a[i]'h0).toNat/2147483648<4294967296:=by omega
  have m3:(a[i]'h0).toNat*2%4294967296+c<4294967296:=by omega
  refine⟨(i+1,(a[i]'h0).toNat/2147483648,m++[w32 ((a[i]'h0).toNat*2%4294967296+c)]),⟨h0,by grind,by grind,?_⟩,by omega,?_⟩
  ·rw[zai,zaf ha,Y4,hm];simp only[zal,za5,Yac,Yq,zb1];exact z33 hv (by omega)
  ·simp -implicitDefEqProofs[l96_0,Zmc,h0,hw,hg,hset,m1,m2,zbg _ _ _ m3]
 ·right;have:i=a.length:=by omega
  subst this;rw[Yb (Ye a.length)]at hv;refine⟨_,⟨c,m,rfl,hm,hc,hv⟩,?_,?_⟩<;>simp -implicitDefEqProofs[l96_0,Zmc]
end
section
variable{T:Tbl}[Z1 T]
theorem zgs(a:List UInt32)(v:Bool)(hl:a.length≤1000000) :
  ∃(c:Nat) (m:List UInt32),m.length=a.length∧c≤1∧val m+4294967296^a.length*c=2*val a+(if v then 1 else 0) ∧
   Zbz T 96 [.bs (.bor 0) 0 1 0 a.length,.b v] [(.bor 0,⟨0,.own,1,Zb a⟩)]=some (.tup [],[(.bor 0,⟨0,.own,1,Zb m⟩)]):=by
 obtain⟨_,⟨c,m,rfl,hm,hc,hv⟩,hr⟩:=z34 (T:=T) a (if v then 1 else 0) hl (0,(if v then 1 else 0),[]) ⟨Yo _,by grind,rfl,by simp_all⟩;refine⟨c,m,hm,hc,hv,?_⟩;unfold Zmc at hr;rw[za9 Z1.h96 rfl,b96];cases v
 ·simp at hr;simp -implicitDefEqProofs[hr]
 ·simp at hr;simp -implicitDefEqProofs[hr]
def Zlk(a b:List UInt32)(y:Nat×Nat×List UInt32):St:=
 ⟨[(0,.bs (.bor 0) 0 1 0 a.length),(1,.sl (Zb b) .an),(4,u64 y.2.1),(5,.i .i64 y.1)],[(.bor 0,⟨0,.own,1,Zb (y.2.2++a.drop y.1)⟩)],4⟩
theorem z35(a b:List UInt32)(hl:a.length≤1000000)(hb:b.length≤1000000):∀y:Nat×Nat×List UInt32,
  (y.1≤a.length∧y.2.1≤1∧y.2.2.length=y.1∧val y.2.2+val (b.take y.1)=val (a.take y.1)+4294967296^y.1*y.2.1) →
  ∃r,(∃(c:Nat) (m:List UInt32),r=(Ex.n,(⟨[],[(.bor 0,⟨0,.own,1,Zb m⟩)],4⟩:St)) ∧
   m.length=a.length∧c≤1∧val m+val (b.take a.length)=val a+4294967296^a.length*c)∧Zj T 1 0 (.norm false []) l97_0 (Zlk a b y)=some r:=by
 refine zar _ _ (fun y=>a.length-y.1) _ ?_
 rintro⟨i,c,m⟩ ⟨hi,hc,hm,hv⟩
 simp only at hi hc hm hv;by_cases h0:i<a.length
 ·left;have ha:a[i]? = some (a[i]'h0):=Ya h0;have hg:=zc7 (P:=[]) hm h0;have hw:IntKind.wrap .i64 ((i:Int)+1)=((i+1:Nat):Int):=zac _ (by omega);have cb:=zc2 (T:=T) b i hb;have la:=zak (a[i]'h0);have lb:=zib b i;have e1:=zaf ha;have e2:=zbe b i;simp at hg;have m1:(a[i]'h0).toNat%18446744073709551616=(a[i]'h0).toNat:=Yh (by omega);have m2:atW b i%18446744073709551616=atW b i:=Yh (by omega);have m3:(atW b i+c)%18446744073709551616=atW b i+c:=Yh (by omega);have m4:((a[i]'h0).toNat+4294967296)%18446744073709551616=(a[i]'h0).toNat+4294967296:=Yh (by omega);have fin:∀s d:Nat,d≤1→s<4294967296→s+(atW b i+c)=(a[i]'h0).toNat+4294967296*d →
    val (m++[w32 s])+val (b.take (i+1))=val (a.take (i+1))+4294967296^(i+1)*d:=by
   grind[zai,zal,za5,zah]
  by_cases h1:(a[i]'h0).toNat<atW b i+c
  ·have hs:Zd2 ((a[i]'h0).toNat+4294967296) (atW b i+c)=(a[i]'h0).toNat+4294967296-(atW b i+c):=zec (by omega) (by omega);have hset:=zcr (P:=[]) (w32 ((a[i]'h0).toNat+4294967296-(atW b i+c))) hm h0;simp at hset;refine⟨(i+1,1,m++[w32 ((a[i]'h0).toNat+4294967296-(atW b i+c))]),⟨h0,Ye _,by grind,fin _ 1 (by omega) (by omega) (by omega)⟩,by omega,?_⟩;simp -implicitDefEqProofs[l97_0,Zlk,h0,cb,m1,m2,m3,m4,h1,hs,hg,hw,hset]
  ·have hs:Zd2 (a[i]'h0).toNat (atW b i+c)=(a[i]'h0).toNat-(atW b i+c):=zec (by omega) (by omega);have hset:=zcr (P:=[]) (w32 ((a[i]'h0).toNat-(atW b i+c))) hm h0;simp at hset;refine⟨(i+1,0,m++[w32 ((a[i]'h0).toNat-(atW b i+c))]),⟨h0,Yo _,by grind,fin _ 0 (by omega) (by omega) (by omega)⟩,by omega,?_⟩;simp -implicitDefEqProofs[l97_0,Zlk,h0,cb,m1,m2,m3,h1,hs,hg,hw,hset]
 ·right;have:i=a.length:=by omega
  subst this;rw[Yb (Ye a.length)]at hv;refine⟨_,⟨c,m,rfl,hm,hc,hv⟩,?_,?_⟩<;>simp -implicitDefEqProofs[l97_0,Zlk]
theorem zsj(a b:List UInt32)(hl:a.length≤1000000)(hb:b.length≤a.length)(hab:val b≤val a) :
  ∃m:List UInt32,m.length=a.length∧val m=val a-val b ∧
   Zbz T 97 [.bs (.bor 0) 0 1 0 a.length,.sl (Zb b) .an] [(.bor 0,⟨0,.own,1,Zb a⟩)]=some (.tup [],[(.bor 0,⟨0,.own,1,Zb m⟩)]):=by
 obtain⟨_,⟨c,m,rfl,hm,hc,hv⟩,hr⟩:=z35 (T:=T) a b hl (by omega) (0,0,[]) ⟨Yo _,Yo _,rfl,by simp⟩;rw[Yb hb]at hv;have hlo:=za0 m;have hval:val m=val a-val b:=by
  rcases Yaw c with h1 | h1
  all_goals grind
 refine⟨m,hm,hval,?_⟩;unfold Zlk at hr;rw[za9 Z1.h97 rfl,b97]
 simp_all
def Zmd(x i:Nat)(y:Nat):St:=⟨[(1,.i .i64 i),(5,u32 (x/2^y)),(6,.i .i64 y)],[],2⟩
end
section
variable{T:Tbl}
theorem z36(x i:Nat)(_hi:i≤100000000)(hx:x<4294967296):∀y:Nat,y≤i%32 →
  ∃r,(r=(Ex.n,(⟨[(5,u32 (x/2^(i%32)))],[],2⟩:St)))∧Zj T 0 0 (.norm false [5]) l122_0 (Zmd x i y)=some r:=by
 refine zar _ _ (fun y=>i%32-y) _ ?_;intro j hj;have hm:((i:Int).tmod 32)=((i%32:Nat):Int):=rfl;by_cases h0:j<i%32
 ·left;have hw:IntKind.wrap .i64 ((j:Int)+1)=((j+1:Nat):Int):=zac _ (by omega);have hd:x/2^j/2=x/2^(j+1):=by rw[Ybe,Y4]
  have hd2:x/2^(j+1)%4294967296=x/2^(j+1):=Yh (Ycl (Ybk _ _) hx);refine⟨j+1,h0,by omega,?_⟩;have hj2:(j:Int)<(i:Int)%32:=by omega
  simp -implicitDefEqProofs[l122_0,Zmd,hm,hw,hd,hd2,hj2]
 ·right;have:j=i%32:=by omega
  subst this;refine⟨_,rfl,?_,?_⟩<;>simp -implicitDefEqProofs[l122_0,Zmd,hm]
end
section
variable{T:Tbl}[Z1 T]
theorem znc(a:List UInt32)(i:Nat)(hl:a.length≤1000000)(hi:i<32*a.length) :
  Za T 122 [.sl (Zb a) .an,.i .i64 i]=some (.b (decide (val a/2^i%2=1))):=by
 have h1:i/32<a.length:=by omega
 have ha:a[i/32]? = some (a[i/32]'h1):=Ya h1;obtain⟨_,rfl,hr⟩:=z36 (T:=T) (a[i/32]'h1).toNat i (by omega) (zak _) 0 (Yo _);unfold Zmd at hr;simp at hr;have hq:IntKind.wrap .i64 ((i:Int)/32)=(i:Int)/32:=zac (i/32) (by omega);have hq1:((i:Int)/32).toNat=i/32:=by omega
 have hq2:(0:Int)≤(i:Int)/32:=by omega
 have hq3:(i:Int)/32<(a.length:Int):=by omega
 have hq4:¬ (a.length:Int)≤(i:Int)/32:=by omega
 have hb:=zxo ha;rw[zab Z1.h122 rfl,b122];simp -implicitDefEqProofs[hr,hq,hq1,hq2,hq3,hq4,h1,hb]
def Zhn(a:List UInt32)(y:Nat):St:=⟨[(0,.sl (Zb a) .an),(3,.i .i64 y)],[],2⟩
theorem z37(a:List UInt32)(hl:a.length≤1000000):∀y:Nat,(y≤32*a.length∧val a<2^y) →
  ∃r,(∃n:Nat,r=(Ex.n,(⟨[(3,.i .i64 n)],[],2⟩:St))∧n≤32*a.length∧val a<2^n)∧Zj T 0 0 (.norm false [3]) l95_0 (Zhn a y)=some r:=by
 refine zar _ _ (fun y=>y) _ ?_
 rintro k ⟨hk,hv⟩
 by_cases h0:k=0
 ·right;subst h0;refine⟨_,⟨0,rfl,Yo _,hv⟩,?_,?_⟩<;>simp -implicitDefEqProofs[l95_0,Zhn]
 ·obtain⟨j,rfl⟩:∃j,k=j+1:=⟨k-1,by omega⟩;have hw:IntKind.wrap .i64 (j:Int)=(j:Int):=zac _ (by omega);have hh:=znc (T:=T) a j hl (by omega);have hp:(0:Int)<(j:Int)+1:=by omega
  by_cases h1:val a/2^j%2=1
  ·right;refine⟨_,⟨j+1,rfl,hk,hv⟩,?_,?_⟩<;>simp -implicitDefEqProofs[l95_0,Zhn,hw,hh,hp,h1]
  ·left;refine⟨j,⟨by omega,znn hv (by omega)⟩,by omega,?_⟩;simp -implicitDefEqProofs[l95_0,Zhn,hw,hh,hp,h1]
theorem zv9(a:List UInt32)(hl:a.length≤1000000):∃n:Nat,n≤32*a.length∧val a<2^n∧Za T 95 [.sl (Zb a) .an]=some (.i .i64 n):=by
 obtain⟨_,⟨n,rfl,hn,hv⟩,hr⟩:=z37 (T:=T) a hl (32*a.length) ⟨Ye _,by rw[←zld];exact za0 a⟩;refine⟨n,hn,hv,?_⟩;unfold Zhn at hr;simp at hr;have hw:IntKind.wrap .i64 (32*(a.length:Int))=32*(a.length:Int):=by
  grind[zac]
 rw[zab Z1.h95 rfl,b95];simp -implicitDefEqProofs[hr,hw]
end
section
variable{T:Tbl}[Z1 T]
theorem zz2(n:Nat)(h:n<32):Zad .shl (u32 1) (.i .i64 (n:Int))=some (u32 (2^n)):=by
 have h1:¬ (n:Int)<0:=by omega
 have h2:2^n<4294967296:=by
  have:2^n<2^32:=Nat.pow_lt_pow_right (by decide) h;simpa using this
 have h3:min n IntKind.u32.bits=n:=by
  have:IntKind.u32.bits=32:=rfl;rw[this];omega
 have h4:((1:Nat):Int)*2^n=((2^n:Nat):Int):=by simp
 unfold u32;simp only[Zad,if_neg h1,Ycd,h3,h4,zcz,Yh h2]
theorem z9t{v b Q L:Nat}(hb:0<b)(hq:Q=v/2/b)(hr:L=v/2%b) :
  (b≤2*L+v%2→v/b=2*Q+1∧v%b=2*L+v%2-b)∧(2*L+v%2<b→v/b=2*Q∧v%b=2*L+v%2):=by
 have h1:=Ybs (v/2) b;have h2:L<b:=by rw[hr];exact Yaz _ hb
 rw[←hq,←hr]at h1;have h3:v=b*(2*Q)+(2*L+v%2):=by
  rw[←Y3,Yaf b 2,Y3];omega
 have ht:v%2<2:=Yaz _ (by decide);clear h1 hq hr;generalize v%2=t at *
 rw[h3];constructor
 ·intro h;have e:b*(2*Q)+(2*L+t)=(2*L+t-b)+b*(2*Q+1):=by rw[Yag,Ydm];omega
  rw[e,Ybz _ _ hb,Yc5,Ya2 (by omega),Yh (by omega)];omega
 ·intro h;rw[Ybl,Ybz _ _ hb,Yc5,Ya2 h,Yh h];omega
theorem z38{a:List UInt32}{x:UInt32}(h:a[0]? = some x)(hx:x.toNat+1<4294967296):val (a.set 0 (w32 (x.toNat+1)))=val a+1:=by
 cases a with
 | nil=>cases h
 | cons y l=>
  cases h;simp only[Ybj,zal,zah hx];omega
def Zjy(a b:List UInt32)(y:Nat×List UInt32×List UInt32):St:=
 ⟨[(0,.sl (Zb a) .an),(1,.sl (Zb b) .an),(6,.bs (.loc 11) 1 1 0 a.length),(7,.bs (.loc 15) 2 1 0 (b.length+1)),(8,.i .i64 ((y.1:Int)-1))],[(.loc 11,⟨1,.own,1,Zb y.2.1⟩),(.loc 15,⟨2,.own,1,Zb y.2.2⟩)],4⟩
theorem z39(a b:List UInt32)(ha:a.length≤100000)(hb:b.length≤100000)(h0b:0<val b):∀y:Nat×List UInt32×List UInt32,
  (y.1≤32*a.length∧y.2.1.length=a.length∧y.2.2.length=b.length+1∧val y.2.1=val a/2^y.1/val b∧val y.2.2=val a/2^y.1%val b) →
  ∃r,(∃Q L:List UInt32,r=(Ex.n,(⟨[(6,.bs (.loc 11) 1 1 0 a.length),(7,.bs (.loc 15) 2 1 0 (b.length+1))],[(.loc 11,⟨1,.own,1,Zb Q⟩),(.loc 15,⟨2,.own,1,Zb L⟩)],4⟩:St)) ∧
   Q.length=a.length∧L.length=b.length+1∧val Q=val a/val b∧val L=val a%val b)∧Zj T 0 0 (.norm false [6,7]) l63_0 (Zjy a b y)=some r:=by
 refine zar _ _ (fun y=>y.1) _ ?_
 rintro⟨k,Q,L⟩ ⟨hk,hQ,hL,hq,hr⟩
 simp only at hk hQ hL hq hr;cases k with
 | zero=>
  right;rw[Ydg,Yet]at hq hr;refine⟨_,⟨Q,L,rfl,hQ,hL,hq,hr⟩,?_,?_⟩<;>simp -implicitDefEqProofs[l63_0,Zjy]
 | succ j=>
  left;have h1:j/32<a.length:=by omega
  have hag:a[j/32]? = some (a[j/32]'h1):=Ya h1;have hbit:=zxo hag;have hw:IntKind.wrap .i64 ((j:Int)-1)=(j:Int)-1:=zac _ (by omega);have hsh:Zad .shl (u32 1) (.i .i64 ((j:Int)%32))=some (u32 (2^(j%32))):=zz2 (j%32) (Yaz _ (by decide));have hm:((j:Int).tmod 32)=((j%32:Nat):Int):=rfl;have hj0:IntKind.wrap .i64 ((j:Int)/32)=(j:Int)/32:=zac (j/32) (by omega);have hj1:((j:Int)/32).toNat=j/32:=by omega
  have hj2:(0:Int)≤(j:Int)/32:=by omega
  have hj3:(j:Int)/32<(a.length:Int):=by omega
  have hxl:=zak (a[j/32]'h1);obtain⟨cL,L2,hL2,hcL,hvL,hrL⟩:=zgs (T:=T) L (decide ((a[j/32]'h1).toNat/2^(j%32)%2=1)) (by omega);obtain⟨cQ,Q2,hQ2,hcQ,hvQ,hrQ⟩:=zgs (T:=T) Q false (by omega);have hcmp:=zd3 (T:=T) L2 b (by omega) (by omega);have hpq:(2^(j%32))≠0:=Nat.ne_of_gt (Ya0 (by decide));rw[hL]at hrL;rw[hQ]at hrQ;rw[hL]at hL2;rw[hQ]at hQ2;have htL:List.take (b.length+1) L2=L2:=Yb (by omega);have hres:∃Q3 L3:List UInt32,Q3.length=a.length∧L3.length=b.length+1∧val Q3=val a/2^j/val b∧val L3=val a/2^j%val b ∧
    (evX (orc T) T 0 l63_0 (Zjy a b (j+1,Q,L))=some (Ex.n,Zjy a b (j,Q3,L3))):=by
   have hvb:=za0 b;have hva:=za0 a;have hLb:val L<val b:=by rw[hr];exact Yaz _ h0b
   have hv2:val a/2^(j+1)=val a/2^j/2:=by rw[Y4,Ybe]
   rw[hv2]at hq hr;have hlaw:=z9t h0b hq hr;have hva2:val a/2^j≤val a:=Ybk _ _;have hq2:2*val Q≤val a/2^j:=by
    have h2:val a/2^j/2/val b≤val a/2^j/2:=Ybk _ _;omega
   have hL0:val L2=2*val L+val a/2^j%2:=by
    have hb2:(if decide ((a[j/32]'h1).toNat/2^(j%32)%2=1)=true then 1 else 0)=val a/2^j%2:=by
     rw[hbit];simp only[decide_eq_true_eq];split<;>omega
    rw[hb2,hL,Y4]at hvL;have ht:val a/2^j%2<2:=Yaz _ (by decide);generalize val a/2^j%2=t at *
    generalize 4294967296^b.length=p at *
    rcases Yaw cL with h | h
    ·rw[h,Yac,Yq]at hvL;exact hvL
    ·have:=Yx (p*4294967296) h;generalize p*4294967296*cL=u at *
     omega
   have hQ0:val Q2=2*val Q:=by
    rw[hQ]at hvQ;simp at hvQ;generalize 4294967296^a.length=p at *
    rcases Yaw cQ with h | h
    ·rw[h,Yac,Yq]at hvQ;exact hvQ
    ·have:=Yx p h;generalize p*cQ=u at *
     omega
   rw[←hL0]at hlaw;by_cases hle:val b≤val L2
   ·have hc:(0:Int)≤Zdf (val L2) (val b):=by
     unfold Zdf;split
     ·omega
     ·split<;>omega
    obtain⟨L3,hL3,hvL3,hrL3⟩:=zsj (T:=T) L2 b (by omega) (by omega) hle;rw[hL2]at hrL3 hL3;have h0Q:0<Q2.length:=by omega
    have hQg:Q2[0]? = some (Q2[0]'h0Q):=Ya h0Q;have hev:(Q2[0]'h0Q).toNat+1<4294967296:=by
     have:=zak (Q2[0]'h0Q);have hc:val Q2=(Q2[0]'h0Q).toNat+4294967296*val (Q2.drop 1):=by
      conv=>lhs;rw[←Yad (l:=Q2),Yj h0Q,zal]
     omega
    have h0a:0<a.length:=by omega
    have hQg':=hQg;have hev':=hev;generalize hqq:(Q2[0]'h0Q).toNat=qq at hev';refine⟨Q2.set 0 (w32 ((Q2[0]'h0Q).toNat+1)),L3,by simp[hQ2],hL3,by rw[z38 hQg hev,hQ0,(hlaw.1 hle).1],by rw[hvL3,(hlaw.1 hle).2],?_⟩;simp -implicitDefEqProofs[l63_0,Zjy,hw,hsh,hm,hj0,hj1,hj2,hj3,h1,hrL,hrQ,hL2,htL,hcmp,hc,hrL3,hQ2,h0a]
   ·have hc:¬ (0:Int)≤Zdf (val L2) (val b):=by unfold Zdf;rw[if_pos (by omega)];decide
    have hlt:val L2<val b:=by omega
    refine⟨Q2,L2,hQ2,hL2,by rw[hQ0,(hlaw.2 hlt).1],by rw[(hlaw.2 hlt).2],?_⟩;simp -implicitDefEqProofs[l63_0,Zjy,hw,hsh,hm,hj0,hj1,hj2,hj3,h1,hrL,hrQ,hL2,htL,hcmp,hc]
  obtain⟨Q3,L3,e1,e2,e3,e4,e5⟩:=hres;exact⟨(j,Q3,L3),⟨by simp only;omega,e1,e2,e3,e4⟩,Yz j,e5⟩
theorem zwa(a b:List UInt32)(ha:a.length≤100000)(hb:b.length≤100000)(h0b:0<val b) :
  Za T 63 [.sl (Zb a) .an,.sl (Zb b) .an]=some (.tup [.sl (Zb (ofN (val a/val b))) .an,.sl (Zb (ofN (val a%val b))) .an]):=by
 obtain⟨n,hn,hvn,hln⟩:=zv9 (T:=T) a (by omega);have hd0:val a/2^n=0:=Ya2 hvn;obtain⟨_,⟨Q,L,rfl,hQ,hL,hq,hr⟩,hlp⟩:=z39 (T:=T) a b ha hb h0b (n,List.replicate a.length 0,List.replicate (b.length+1) 0)
  ⟨hn,by simp,by simp,by simp[zax,hd0],by simp only[hd0,Nat.zero_mod];exact zax _⟩
 have hw:IntKind.wrap .i64 ((n:Int)-1)=(n:Int)-1:=zac _ (by omega);have hw2:IntKind.wrap .i64 ((b.length:Int)+1)=((b.length+1:Nat):Int):=zac _ (by omega);have h1:(a.length:Int)≤4294967296:=by omega
 have h2:(b.length:Int)+1≤4294967296:=by omega
 have hn1:=zbl (T:=T) Q (by omega);have hn2:=zbl (T:=T) L (by omega);have t1:List.take a.length Q=Q:=Yb (by omega);have t2:List.take (b.length+1) L=L:=Yb (by omega);unfold Zjy at hlp;simp at hlp;rw[zab Z1.h63 rfl,b63];simp -implicitDefEqProofs[hln,hw,hw2,h1,h2,hlp,hQ,hL,t1,t2,hn1,hn2,hq,hr]
end
def l2043_0:AX:=
 (.note
 (.seq
 (.seq
 (.reg [mv 6 3,rg 7 (.bin .gtr (.t 6) (.c (.i .i64 0))),mv 8 7,gd 9 8 true (.mov (.t 0)),gd 10 8 true (.mov (.t 3)),gd 11 8 true (.bin .sub (.t 10) (.c (.i .i64 1))),gd 12 8 true (.iad 1 (.t 9) (.t 11)),gd 13 8 true (.load none (.t 12)),gd 14 8 true (.bin .eql (.t 13) (.c (u32 0))),rg 15 (.pick (.t 8) (.t 14) (.c (.b false)))])
 (.cond (.t 15)
 .skip
 (.exit 0)))
 (.block 1
 (.reg [mv 16 3,rg 17 (.bin .sub (.t 16) (.c (.i .i64 1))),mv 3 17])))
 (.norm false [0,3]))
def b2043:AX:=
 (.seq
 (.reg [rg 2 (.mov (.c (.sl [] .nl)))])
 (.seq
 (.reg [mv 4 0,rg 5 (.len (.t 4)),mv 3 5])
 (.seq
 (.lp 0 (.norm false [0,3]) l2043_0 (.norm false [0,3]))
 (.seq
 (.reg [rg 18 (.bsl 1 [(u32 0)] 0 []),mv 19 0,mv 20 3,rg 21 (.slc 1 (.t 19) none (some (.t 20)) none),rg 22 (.app 1 (.t 18) (.t 21)),mv 2 22])
 (.pre (.norm false [2]) .ret)))))
def row2043:AFx:=⟨1,23,[.t 2],b2043,(some [false]),false⟩
class Zao (T:Tbl):Prop extends Z1 T where
 h2043:T 2043=some row2043
section
variable{T:Tbl}[Zao T]{d:Option Nat}{st:St}
@[simp] theorem x2043(xs:List AV):Zc (orc T) T 2043 xs d st=bL (Zek st.heap [false] xs) fun ys=>Zd1 ys (Zh (Zay [false] xs) st.heap) (Zcv (Zh (Zay [false] xs) st.heap) 40 (Zck [false] xs) []) T 2043 false d st:=zaw Zao.h2043
end
def l224_0:AX:=
 (.note
 (.seq
 (.seq
 (.reg [mv 6 0,rg 7 (.bin .rem (.t 6) (.c (u32 2))),rg 8 (.bin .eql (.t 7) (.c (u32 0)))])
 (.cond (.t 8)
 .skip
 (.exit 0)))
 (.block 1
 (.seq
 (.reg [mv 9 0,rg 10 (.bin .quo (.t 9) (.c (u32 2))),mv 0 10])
 (.reg [mv 11 3,rg 12 (.bin .add (.t 11) (.c (.i .i64 1))),mv 3 12]))))
 (.norm false [0,3]))
def b224:AX:=
 (.seq
 (.reg [rg 2 (.mov (.c (.i .i64 0)))])
 (.seq
 (.seq
 (.reg [mv 4 0,rg 5 (.bin .eql (.t 4) (.c (u32 0)))])
 (.cond (.t 5)
 (.seq
 (.reg [rg 2 (.mov (.c (.i .i64 32)))])
 (.pre (.norm false [2]) .ret))
 .skip))
 (.seq
 (.reg [rg 3 (.mov (.c (.i .i64 0)))])
 (.seq
 (.lp 0 (.norm false [0,3]) l224_0 (.norm false [3]))
 (.seq
 (.reg [mv 13 3,mv 2 13])
 (.pre (.norm false [2]) .ret))))))
def l225_0:AX:=
 (.note
 (.seq
 (.seq
 (.reg [mv 7 5,mv 8 0,rg 9 (.len (.t 8)),rg 10 (.bin .lss (.t 7) (.t 9))])
 (.cond (.t 10)
 .skip
 (.exit 0)))
 (.seq
 (.block 1
 (.seq
 (.reg [rg 6 (.mov (.c (u64 0)))])
 (.seq
 (.seq
 (.reg [mv 13 5,rg 14 (.bin .add (.t 13) (.c (.i .i64 1))),mv 15 0,rg 16 (.len (.t 15)),rg 17 (.bin .lss (.t 14) (.t 16))])
 (.cond (.t 17)
 (.reg [mv 18 0,mv 19 5,rg 20 (.bin .add (.t 19) (.c (.i .i64 1))),rg 21 (.iad 1 (.t 18) (.t 20)),rg 22 (.load none (.t 21)),rg 23 (.conv .u64 (.t 22)),mv 6 23])
 .skip))
 (.reg [mv 24 0,mv 25 5,mv 26 6,rg 27 (.bin .mul (.t 26) (.c (u64 4294967296))),mv 28 0,mv 29 5,rg 30 (.iad 1 (.t 28) (.t 29)),rg 31 (.load none (.t 30)),rg 32 (.conv .u64 (.t 31)),rg 33 (.bin .add (.t 27) (.t 32)),mv 34 1,rg 35 (.bin .shr (.t 33) (.t 34)),rg 36 (.conv .u32 (.t 35)),rg 37 (.iad 1 (.t 24) (.t 25)),so (.store 1 (.t 37) (.t 36))]))))
 (.reg [mv 11 5,rg 12 (.bin .add (.t 11) (.c (.i .i64 1))),mv 5 12])))
 (.norm false [0,1,5]))
def l225_1:AX:=
 (.note
 (.seq
 (.seq
 (.reg [mv 38 0,rg 39 (.len (.t 38)),rg 40 (.bin .gtr (.t 39) (.c (.i .i64 0))),mv 41 40,gd 42 41 true (.mov (.t 0)),gd 43 41 true (.mov (.t 0)),gd 44 41 true (.len (.t 43)),gd 45 41 true (.bin .sub (.t 44) (.c (.i .i64 1))),gd 46 41 true (.iad 1 (.t 42) (.t 45)),gd 47 41 true (.load none (.t 46)),gd 48 41 true (.bin .eql (.t 47) (.c (u32 0))),rg 49 (.pick (.t 41) (.t 48) (.c (.b false)))])
 (.cond (.t 49)
 .skip
 (.exit 2)))
 (.block 3
 (.reg [mv 50 0,mv 51 0,rg 52 (.len (.t 51)),rg 53 (.bin .sub (.t 52) (.c (.i .i64 1))),rg 54 (.slc 1 (.t 50) none (some (.t 53)) none),mv 0 54])))
 (.norm false [0]))
def b225:AX:=
 (.seq
 (.reg [rg 4 (.mov (.c (.sl [] .nl)))])
 (.seq
 (.seq
 (.reg [rg 5 (.mov (.c (.i .i64 0)))])
 (.lp 0 (.norm false [0,1,5]) l225_0 (.norm false [0])))
 (.seq
 (.lp 2 (.norm false [0]) l225_1 (.norm false [0]))
 (.seq
 (.reg [mv 55 0,mv 4 55])
 (.pre (.norm false [4]) .ret)))))
def l226_0:AX:=
 (.note
 (.seq
 (.seq
 (.reg [mv 6 0,rg 7 (.iad 1 (.t 6) (.c (.i .i64 0))),rg 8 (.load none (.t 7)),rg 9 (.bin .eql (.t 8) (.c (u32 0)))])
 (.cond (.t 9)
 .skip
 (.exit 0)))
 (.block 1
 (.seq
 (.reg [mv 10 0,rg 11 (.slc 1 (.t 10) (some (.c (.i .i64 1))) none none),mv 0 11])
 (.reg [mv 12 4,rg 13 (.bin .add (.t 12) (.c (.i .i64 32))),mv 4 13]))))
 (.norm false [0,4]))
def b226:AX:=
 (.seq
 (.reg [rg 2 (.mov (.c (.sl [] .nl))),rg 3 (.mov (.c (.i .i64 0)))])
 (.seq
 (.reg [rg 4 (.mov (.c (.i .i64 0)))])
 (.seq
 (.lp 0 (.norm false [0,4]) l226_0 (.norm false [0,4]))
 (.seq
 (.reg [mv 14 0,rg 15 (.iad 1 (.t 14) (.c (.i .i64 0))),rg 16 (.load none (.t 15)),rg 17 (.call 224 [(.t 16)]),mv 5 17])
 (.seq
 (.reg [mv 18 0,mv 19 5,rg 20 (.call 225 [(.t 18),(.t 19)]),mv 21 4,mv 22 5,rg 23 (.bin .add (.t 21) (.t 22)),mv 2 20,mv 3 23])
 (.pre (.norm false [2,3]) .ret))))))
def b227:AX:=
 (.seq
 (.reg [rg 4 (.mov (.c (.sl [] .nl)))])
 (.seq
 (.reg [mv 6 1,rg 7 (.bin .quo (.t 6) (.c (.i .i64 32))),rg 8 (.mks 1 [(u32 0)] (.t 7) (.t 7)),mv 9 0,rg 10 (.app 1 (.t 8) (.t 9)),mv 5 10])
 (.seq
 (.reg [mv 11 5,mv 12 1,rg 13 (.bin .rem (.t 12) (.c (.i .i64 32))),rg 14 (.bin .shl (.c (u32 1)) (.t 13)),rg 15 (.bsl 1 [(u32 0)] 1 [(0,(.t 14))]),rg 16 (.call 61 [(.t 11),(.t 15)]),mv 4 16])
 (.pre (.norm false [4]) .ret))))
def l228_0:AX:=
 (.note
 (.block 1
 (.seq
 (.reg [mv 33 5,mv 34 6,rg 35 (.call 52 [(.t 33),(.t 34)]),mv 9 35])
 (.seq
 (.seq
 (.reg [mv 36 9,rg 37 (.bin .eql (.t 36) (.c (.i .i64 0)))])
 (.cond (.t 37)
 (.exit 0)
 .skip))
 (.seq
 (.seq
 (.reg [mv 38 9,rg 39 (.bin .lss (.t 38) (.c (.i .i64 0)))])
 (.cond (.t 39)
 (.seq
 (.reg [mv 40 5,mv 10 40])
 (.seq
 (.reg [mv 41 6,mv 5 41])
 (.reg [mv 42 10,mv 6 42])))
 .skip))
 (.seq
 (.reg [mv 43 5,mv 44 6,rg 45 (.call 2097 [(.t 43),(.t 44)])])
 (.reg [mv 47 5,rg 48 (.call 226 [(.t 47)]),mv 46 48,rg 49 (.ext (.t 46) 0),rg 50 (.ext (.t 46) 1),mv 5 49]))))))
 (.norm false [5,6,7,8]))
def b228:AX:=
 (.seq
 (.reg [rg 4 (.mov (.c (.sl [] .nl)))])
 (.seq
 (.reg [mv 11 0,rg 12 (.call 2043 [(.t 11)]),mv 5 12])
 (.seq
 (.reg [mv 13 1,rg 14 (.call 2043 [(.t 13)]),mv 6 14])
 (.seq
 (.seq
 (.reg [mv 15 5,rg 16 (.len (.t 15)),rg 17 (.bin .eql (.t 16) (.c (.i .i64 0)))])
 (.cond (.t 17)
 (.seq
 (.reg [mv 18 6,mv 4 18])
 (.pre (.norm false [4]) .ret))
 .skip))
 (.seq
 (.seq
 (.reg [mv 19 6,rg 20 (.len (.t 19)),rg 21 (.bin .eql (.t 20) (.c (.i .i64 0)))])
 (.cond (.t 21)
 (.seq
 (.reg [mv 22 5,mv 4 22])
 (.pre (.norm false [4]) .ret))
 .skip))
 (.seq
 (.reg [mv 24 5,rg 25 (.call 226 [(.t 24)]),mv 23 25,rg 26 (.ext (.t 23) 0),rg 27 (.ext (.t 23) 1),mv 5 26,mv 7 27])
 (.seq
 (.reg [mv 29 6,rg 30 (.call 226 [(.t 29)]),mv 28 30,rg 31 (.ext (.t 28) 0),rg 32 (.ext (.t 28) 1),mv 6 31,mv 8 32])
 (.seq
 (.lp 0 (.norm false [5,6,7,8]) l228_0 (.norm false [5,7,8]))
 (.seq
 (.reg [mv 51 5,mv 52 7,mv 53 8,rg 54 (.mm false [(.t 52),(.t 53)]),rg 55 (.call 227 [(.t 51),(.t 54)]),mv 4 55])
 (.pre (.norm false [4]) .ret))))))))))
def b229:AX:=
 (.seq
 (.reg [rg 2 (.mov (.c (.b false)))])
 (.seq
 (.reg [mv 3 0,rg 4 (.len (.t 3)),rg 5 (.bin .eql (.t 4) (.c (.i .i64 1))),mv 6 5,gd 7 6 true (.mov (.t 0)),gd 8 6 true (.iad 1 (.t 7) (.c (.i .i64 0))),gd 9 6 true (.load none (.t 8)),gd 10 6 true (.bin .eql (.t 9) (.c (u32 1))),rg 11 (.pick (.t 6) (.t 10) (.c (.b false))),mv 2 11])
 (.pre (.norm false [2]) .ret)))
def b230:AX:=
 (.seq
 (.reg [rg 4 (.mov (.c (.sl [] .nl)))])
 (.seq
 (.seq
 (.reg [mv 7 1,rg 8 (.call 229 [(.t 7)])])
 (.cond (.t 8)
 (.seq
 (.reg [mv 9 0,rg 10 (.call 43 [(.t 9)]),mv 4 10])
 (.pre (.norm false [4]) .ret))
 .skip))
 (.seq
 (.reg [mv 12 0,mv 13 1,rg 14 (.call 63 [(.t 12),(.t 13)]),mv 11 14,rg 15 (.ext (.t 11) 0),rg 16 (.ext (.t 11) 1),mv 5 15,mv 6 16])
 (.seq
 (.reg [mv 17 5,mv 4 17])
 (.pre (.norm false [4]) .ret)))))
def l2097_0:AX:=
 (.note
 (.seq
 (.seq
 (.reg [mv 8 5,mv 9 0,rg 10 (.len (.t 9)),rg 11 (.bin .lss (.t 8) (.t 10))])
 (.cond (.t 11)
 .skip
 (.exit 0)))
 (.seq
 (.block 1
 (.seq
 (.reg [mv 14 0,mv 15 5,rg 16 (.iad 1 (.t 14) (.t 15)),rg 17 (.load none (.t 16)),rg 18 (.conv .u64 (.t 17)),mv 6 18])
 (.seq
 (.reg [mv 19 1,mv 20 5,rg 21 (.call 84 [(.t 19),(.t 20)]),rg 22 (.conv .u64 (.t 21)),mv 23 4,rg 24 (.bin .add (.t 22) (.t 23)),mv 7 24])
 (.seq
 (.reg [rg 4 (.mov (.c (u64 0)))])
 (.seq
 (.seq
 (.reg [mv 25 6,mv 26 7,rg 27 (.bin .lss (.t 25) (.t 26))])
 (.cond (.t 27)
 (.seq
 (.reg [mv 28 6,rg 29 (.bin .add (.t 28) (.c (u64 4294967296))),mv 6 29])
 (.reg [rg 4 (.mov (.c (u64 1)))]))
 .skip))
 (.reg [mv 30 0,mv 31 5,mv 32 6,mv 33 7,rg 34 (.bin .sub (.t 32) (.t 33)),rg 35 (.conv .u32 (.t 34)),rg 36 (.iad 1 (.t 30) (.t 31)),so (.store 1 (.t 36) (.t 35))]))))))
 (.reg [mv 12 5,rg 13 (.bin .add (.t 12) (.c (.i .i64 1))),mv 5 13])))
 (.norm false [0,1,4,5]))
def b2097:AX:=
 (.seq
 (.reg [rg 4 (.mov (.c (u64 0)))])
 (.seq
 (.reg [rg 5 (.mov (.c (.i .i64 0)))])
 (.lp 0 (.norm false [0,1,4,5]) l2097_0 (.norm false []))))
def row224:AFx:=⟨1,14,[.t 2],b224,none,false⟩
def row225:AFx:=⟨2,56,[.t 4],b225,(some [true,false]),false⟩
def row226:AFx:=⟨1,24,[.t 2,.t 3],b226,(some [true]),false⟩
def row227:AFx:=⟨2,17,[.t 4],b227,none,false⟩
def row228:AFx:=⟨2,56,[.t 4],b228,none,false⟩
def row229:AFx:=⟨1,12,[.t 2],b229,none,false⟩
def row230:AFx:=⟨2,18,[.t 4],b230,none,false⟩
def row2097:AFx:=⟨2,37,[],b2097,(some [true,true]),false⟩
class Z2 (T:Tbl):Prop where
 h224:T 224=some row224
 h225:T 225=some row225
 h226:T 226=some row226
 h227:T 227=some row227
 h228:T 228=some row228
 h229:T 229=some row229
 h230:T 230=some row230
 h2097:T 2097=some row2097
section
variable{T:Tbl}[Z2 T]{d:Option Nat}{st:St}{xs:List AV}{ps:List Opd}{e:Env}{h:Heap}{ol:List Heap}
@[simp] theorem x224:Zc (orc T) T 224 xs d st=cP T 224 false xs d st:=zaa Z2.h224
theorem f224(xs:List AV)(hn:xs.length=1):Za T 224 xs=Zgu [.t 2] false (evX (orc T) T 0 b224 ⟨Zcf xs,[],1⟩):=zab Z2.h224 hn
@[simp] theorem x225:Zc (orc T) T 225 xs d st=cL T 225 false [true,false] xs d st:=zaw Z2.h225
theorem f225(xs:List AV)(hb:Heap)(hn:xs.length=2):Zbz T 225 xs hb=Ziv [.t 4] false hb.length (evX (orc T) T hb.length b225 ⟨Zcf xs,hb,hb.length+1⟩):=za9 Z2.h225 hn
@[simp] theorem x226:Zc (orc T) T 226 xs d st=cL T 226 false [true] xs d st:=zaw Z2.h226
theorem f226(xs:List AV)(hb:Heap)(hn:xs.length=1):Zbz T 226 xs hb=Ziv [.t 2,.t 3] false hb.length (evX (orc T) T hb.length b226 ⟨Zcf xs,hb,hb.length+1⟩):=za9 Z2.h226 hn
@[simp] theorem x227:Zc (orc T) T 227 xs d st=cP T 227 false xs d st:=zaa Z2.h227
theorem f227(xs:List AV)(hn:xs.length=2):Za T 227 xs=Zgu [.t 4] false (evX (orc T) T 0 b227 ⟨Zcf xs,[],1⟩):=zab Z2.h227 hn
@[simp] theorem x228:Zc (orc T) T 228 xs d st=cP T 228 false xs d st:=zaa Z2.h228
theorem f228(xs:List AV)(hn:xs.length=2):Za T 228 xs=Zgu [.t 4] false (evX (orc T) T 0 b228 ⟨Zcf xs,[],1⟩):=zab Z2.h228 hn
@[simp] theorem x229:Zc (orc T) T 229 xs d st=cP T 229 false xs d st:=zaa Z2.h229
@[simp] theorem x230:Zc (orc T) T 230 xs d st=cP T 230 false xs d st:=zaa Z2.h230
@[simp] theorem x2097:Zc (orc T) T 2097 xs d st=cL T 2097 false [true,true] xs d st:=zaw Z2.h2097
end
section
variable{T:Tbl}[Zao T]
theorem zer(a:List UInt32)(hl:a.length≤1000000):Zbz T 2043 [.sl (Zb a) .an] [] =
  some (.bs (.loc 22) 1 1 0 (ofN (val a)).length,[(.loc 22,⟨1,.own,1,Zb (ofN (val a))⟩)]):=by
 obtain⟨n,h1,h2,h3,h4⟩:=zfz a;have hr:=zd2 (T:=T) a (by omega) h1 h3 h4 a.length ⟨h1,Ye _⟩;rw[show l43_0=l2043_0 from rfl]at hr;have hlen:(ofN (val a)).length=n:=by rw[←h2];simp;omega
 have hb:n≤4294967296:=by omega
 rw[za9 Zao.h2043 rfl,b2043];simp -implicitDefEqProofs[hr,h1,h2,hb,hlen]
def Zqe(N:Nat)(y:Nat×Nat×List UInt32)(P:List UInt32):St:=
 ⟨[(0,.bs (.bor 0) 0 1 0 N),(3,u64 y.2.1),(4,.i .i64 ((y.1:Int)-1))],[(.bor 0,⟨0,.own,1,Zb (P.take y.1++y.2.2)⟩)],4⟩
end
section
variable{T:Tbl}[Zao T]
def Zrp(b:BId)(x:List UInt32)(s:List UInt8):St:=⟨[(3,.bs b 1 1 0 x.length),(4,.s s)],[(b,⟨1,.own,1,Zb x⟩)],3⟩
end
def b39:AX:=
 (.seq
 (.reg [rg 1 (.xop (.box 2) [(.t 0)]),rg 2 (.alloc [(.b false),(.sl [] .nl)])])
 (.seq
 (.reg [rg 4 (.fad 1 (.t 1)),rg 5 (.load none (.t 4)),rg 6 (.call 43 [(.t 5)]),mv 3 6])
 (.seq
 (.reg [rg 7 (.fad 0 (.t 1)),rg 8 (.load none (.t 7)),mv 9 8,gd 10 9 true (.mov (.t 3)),gd 11 9 true (.len (.t 10)),gd 12 9 true (.bin .gtr (.t 11) (.c (.i .i64 0))),rg 13 (.pick (.t 9) (.t 12) (.c (.b false))),mv 14 3,rg 15 (.build [(.b false),(.sl [] .nl)] [(0,1,(.t 13)),(1,1,(.t 14))]),so (.store 2 (.t 2) (.t 15))])
 (.pre (.norm false [2]) .ret))))
def b24:AX:=
 (.seq
 (.reg [rg 2 (.xop (.box 2) [(.t 0)]),rg 3 (.xop (.box 2) [(.t 1)]),rg 4 (.alloc [(.b false),(.sl [] .nl)])])
 (.seq
 (.seq
 (.reg [rg 5 (.fad 0 (.t 2)),rg 6 (.load none (.t 5)),rg 7 (.fad 0 (.t 3)),rg 8 (.load none (.t 7)),rg 9 (.eqb false (.t 6) (.t 8))])
 (.cond (.t 9)
 (.seq
 (.drawT [rg 10 (.fad 0 (.t 2)),rg 11 (.load none (.t 10)),rg 12 (.fad 1 (.t 2)),rg 13 (.load none (.t 12)),rg 14 (.fad 1 (.t 3)),rg 15 (.load none (.t 14)),rg 16 (.call 58 [(.t 13),(.t 15)])]
 [rg 17 (.build [(.b false),(.sl [] .nl)] [(0,1,(.t 11)),(1,1,(.t 16))]),rg 18 (.call 39 [(.t 17)]),so (.store 2 (.t 4) (.t 18))])
 (.pre (.norm false [4]) .ret))
 .skip))
 (.seq
 (.seq
 (.reg [rg 19 (.fad 1 (.t 2)),rg 20 (.load none (.t 19)),rg 21 (.fad 1 (.t 3)),rg 22 (.load none (.t 21)),rg 23 (.call 52 [(.t 20),(.t 22)]),rg 24 (.bin .lss (.t 23) (.c (.i .i64 0)))])
 (.cond (.t 24)
 (.seq
 (.drawT [rg 25 (.fad 0 (.t 3)),rg 26 (.load none (.t 25)),rg 27 (.fad 1 (.t 3)),rg 28 (.load none (.t 27)),rg 29 (.fad 1 (.t 2)),rg 30 (.load none (.t 29)),rg 31 (.call 59 [(.t 28),(.t 30)])]
 [rg 32 (.build [(.b false),(.sl [] .nl)] [(0,1,(.t 26)),(1,1,(.t 31))]),rg 33 (.call 39 [(.t 32)]),so (.store 2 (.t 4) (.t 33))])
 (.pre (.norm false [4]) .ret))
 .skip))
 (.seq
 (.drawT [rg 34 (.fad 0 (.t 2)),rg 35 (.load none (.t 34)),rg 36 (.fad 1 (.t 2)),rg 37 (.load none (.t 36)),rg 38 (.fad 1 (.t 3)),rg 39 (.load none (.t 38)),rg 40 (.call 59 [(.t 37),(.t 39)])]
 [rg 41 (.build [(.b false),(.sl [] .nl)] [(0,1,(.t 35)),(1,1,(.t 40))]),rg 42 (.call 39 [(.t 41)]),so (.store 2 (.t 4) (.t 42))])
 (.pre (.norm false [4]) .ret)))))
def row39:AFx:=⟨1,16,[.cell 2 (some 2)],b39,none,false⟩
def row24:AFx:=⟨2,43,[.cell 4 (some 2)],b24,none,false⟩
class Zar (T:Tbl):Prop extends Zao T where
 h39:T 39=some row39
 h24:T 24=some row24
section
variable{T:Tbl}[Zar T]{d:Option Nat}{st:St}
@[simp] theorem x39(xs:List AV):Zc (orc T) T 39 xs d st=cP T 39 false xs d st:=zaa Zar.h39
@[simp] theorem x24(xs:List AV):Zc (orc T) T 24 xs d st=cP T 24 false xs d st:=zaa Zar.h24
end
def b231:AX:=
 (.seq
 (.reg [rg 1 (.xop (.box 3) [(.t 0)]),rg 2 (.alloc [(.b false),(.sl [] .nl),(.sl [] .nl)])])
 (.seq
 (.reg [rg 6 (.fad 2 (.t 1)),rg 7 (.load none (.t 6)),rg 8 (.call 43 [(.t 7)]),mv 3 8])
 (.seq
 (.reg [rg 9 (.fad 1 (.t 1)),rg 10 (.load none (.t 9)),rg 11 (.call 43 [(.t 10)]),mv 4 11])
 (.seq
 (.seq
 (.reg [mv 12 3,rg 13 (.len (.t 12)),rg 14 (.bin .eql (.t 13) (.c (.i .i64 0))),mv 15 14,gd 16 15 false (.mov (.t 4)),gd 17 15 false (.len (.t 16)),gd 18 15 false (.bin .eql (.t 17) (.c (.i .i64 0))),rg 19 (.pick (.t 15) (.c (.b true)) (.t 18))])
 (.cond (.t 19)
 (.seq
 (.reg [rg 20 (.bsl 1 [(u32 0)] 0 []),rg 21 (.bsl 1 [(u32 0)] 1 [(0,(.c (u32 1)))]),rg 22 (.build [(.b false),(.sl [] .nl),(.sl [] .nl)] [(1,1,(.t 20)),(2,1,(.t 21))]),so (.store 3 (.t 2) (.t 22))])
 (.pre (.norm false [2]) .ret))
 .skip))
 (.seq
 (.seq
 (.reg [mv 23 3,rg 24 (.call 229 [(.t 23)]),rg 25 (.un .not (.t 24))])
 (.cond (.t 25)
 (.seq
 (.reg [mv 26 4,mv 27 3,rg 28 (.call 228 [(.t 26),(.t 27)]),mv 5 28])
 (.seq
 (.reg [mv 29 4,mv 30 5,rg 31 (.call 230 [(.t 29),(.t 30)]),mv 4 31])
 (.reg [mv 32 3,mv 33 5,rg 34 (.call 230 [(.t 32),(.t 33)]),mv 3 34])))
 .skip))
 (.seq
 (.reg [rg 35 (.fad 0 (.t 1)),rg 36 (.load none (.t 35)),mv 37 4,mv 38 3,rg 39 (.build [(.b false),(.sl [] .nl),(.sl [] .nl)] [(0,1,(.t 36)),(1,1,(.t 37)),(2,1,(.t 38))]),so (.store 3 (.t 2) (.t 39))])
 (.pre (.norm false [2]) .ret)))))))
def b232:AX:=
 (.seq
 (.reg [rg 2 (.alloc [(.b false),(.sl [] .nl),(.sl [] .nl)])])
 (.seq
 (.seq
 (.reg [mv 3 0,rg 4 (.bin .lss (.t 3) (.c (.i .i64 0)))])
 (.cond (.t 4)
 (.seq
 (.reg [mv 5 0,rg 6 (.bin .add (.t 5) (.c (.i .i64 1))),rg 7 (.un .neg (.t 6)),rg 8 (.conv .u64 (.t 7)),rg 9 (.call 353 [(.t 8)]),rg 10 (.bsl 1 [(u32 0)] 1 [(0,(.c (u32 1)))]),rg 11 (.call 58 [(.t 9),(.t 10)]),rg 12 (.bsl 1 [(u32 0)] 1 [(0,(.c (u32 1)))]),rg 13 (.build [(.b false),(.sl [] .nl),(.sl [] .nl)] [(0,1,(.c (.b true))),(1,1,(.t 11)),(2,1,(.t 12))]),rg 14 (.call 231 [(.t 13)]),so (.store 3 (.t 2) (.t 14))])
 (.pre (.norm false [2]) .ret))
 .skip))
 (.seq
 (.reg [mv 15 0,rg 16 (.conv .u64 (.t 15)),rg 17 (.call 353 [(.t 16)]),rg 18 (.bsl 1 [(u32 0)] 1 [(0,(.c (u32 1)))]),rg 19 (.build [(.b false),(.sl [] .nl),(.sl [] .nl)] [(1,1,(.t 17)),(2,1,(.t 18))]),rg 20 (.call 231 [(.t 19)]),so (.store 3 (.t 2) (.t 20))])
 (.pre (.norm false [2]) .ret))))
def b233:AX:=
 (.seq
 (.reg [rg 2 (.xop (.box 3) [(.t 0)]),rg 3 (.xop (.box 3) [(.t 1)]),rg 4 (.mov (.c (.b false)))])
 (.seq
 (.reg [rg 5 (.fad 0 (.t 2)),rg 6 (.load none (.t 5)),rg 7 (.fad 0 (.t 3)),rg 8 (.load none (.t 7)),rg 9 (.eqb false (.t 6) (.t 8)),mv 10 9,gd 11 10 true (.fad 1 (.t 2)),gd 12 10 true (.load none (.t 11)),gd 13 10 true (.fad 1 (.t 3)),gd 14 10 true (.load none (.t 13)),gd 15 10 true (.call 54 [(.t 12),(.t 14)]),rg 16 (.pick (.t 10) (.t 15) (.c (.b false))),mv 17 16,gd 18 17 true (.fad 2 (.t 2)),gd 19 17 true (.load none (.t 18)),gd 20 17 true (.fad 2 (.t 3)),gd 21 17 true (.load none (.t 20)),gd 22 17 true (.call 54 [(.t 19),(.t 21)]),rg 23 (.pick (.t 17) (.t 22) (.c (.b false))),mv 4 23])
 (.pre (.norm false [4]) .ret)))
def b235:AX:=
 (.seq
 (.reg [rg 1 (.xop (.box 3) [(.t 0)]),rg 2 (.mov (.c (.b false)))])
 (.seq
 (.reg [rg 3 (.fad 1 (.t 1)),rg 4 (.load none (.t 3)),rg 5 (.len (.t 4)),rg 6 (.bin .eql (.t 5) (.c (.i .i64 0))),mv 2 6])
 (.pre (.norm false [2]) .ret)))
def b239:AX:=
 (.seq
 (.reg [rg 2 (.xop (.box 3) [(.t 0)]),rg 3 (.xop (.box 3) [(.t 1)]),rg 4 (.alloc [(.b false),(.sl [] .nl),(.sl [] .nl)])])
 (.seq
 (.draw [⟨rg 8 (.fad 0 (.t 2)),0,1⟩,⟨rg 9 (.load none (.t 8)),0,1⟩,⟨rg 10 (.fad 1 (.t 2)),0,1⟩,⟨rg 11 (.load none (.t 10)),0,1⟩,⟨rg 12 (.fad 2 (.t 3)),0,1⟩,⟨rg 13 (.load none (.t 12)),0,1⟩,⟨rg 14 (.call 61 [(.t 11),(.t 13)]),0,1⟩,⟨rg 15 (.build [(.b false),(.sl [] .nl)] [(0,1,(.t 9)),(1,1,(.t 14))]),0,1⟩,⟨rg 5 (.alloc [(.b false),(.sl [] .nl)]),0,1⟩,⟨so (.store 2 (.t 5) (.t 15)),1,2⟩])
 (.seq
 (.draw [⟨rg 16 (.fad 0 (.t 3)),0,1⟩,⟨rg 17 (.load none (.t 16)),0,1⟩,⟨rg 18 (.fad 1 (.t 3)),0,1⟩,⟨rg 19 (.load none (.t 18)),0,1⟩,⟨rg 20 (.fad 2 (.t 2)),0,1⟩,⟨rg 21 (.load none (.t 20)),0,1⟩,⟨rg 22 (.call 61 [(.t 19),(.t 21)]),0,1⟩,⟨rg 23 (.build [(.b false),(.sl [] .nl)] [(0,1,(.t 17)),(1,1,(.t 22))]),0,1⟩,⟨rg 6 (.alloc [(.b false),(.sl [] .nl)]),0,1⟩,⟨so (.store 2 (.t 6) (.t 23)),1,2⟩])
 (.seq
 (.reg [rg 24 (.load (some 2) (.t 5)),rg 25 (.load (some 2) (.t 6)),rg 26 (.call 24 [(.t 24),(.t 25)]),rg 7 (.alloc [(.b false),(.sl [] .nl)]),so (.store 2 (.t 7) (.t 26))])
 (.seq
 (.drawT [rg 27 (.fad 0 (.t 7)),rg 28 (.load none (.t 27)),rg 29 (.fad 1 (.t 7)),rg 30 (.load none (.t 29)),rg 31 (.fad 2 (.t 2)),rg 32 (.load none (.t 31)),rg 33 (.fad 2 (.t 3)),rg 34 (.load none (.t 33)),rg 35 (.call 61 [(.t 32),(.t 34)])]
 [rg 36 (.build [(.b false),(.sl [] .nl),(.sl [] .nl)] [(0,1,(.t 28)),(1,1,(.t 30)),(2,1,(.t 35))]),rg 37 (.call 231 [(.t 36)]),so (.store 3 (.t 4) (.t 37))])
 (.pre (.norm false [4]) .ret))))))
def b241:AX:=
 (.seq
 (.reg [rg 2 (.xop (.box 3) [(.t 0)]),rg 3 (.xop (.box 3) [(.t 1)]),rg 4 (.alloc [(.b false),(.sl [] .nl),(.sl [] .nl)])])
 (.seq
 (.drawT [rg 5 (.fad 0 (.t 2)),rg 6 (.load none (.t 5)),rg 7 (.fad 0 (.t 3)),rg 8 (.load none (.t 7)),rg 9 (.eqb true (.t 6) (.t 8)),rg 10 (.fad 1 (.t 2)),rg 11 (.load none (.t 10)),rg 12 (.fad 1 (.t 3)),rg 13 (.load none (.t 12)),rg 14 (.call 61 [(.t 11),(.t 13)]),rg 15 (.fad 2 (.t 2)),rg 16 (.load none (.t 15)),rg 17 (.fad 2 (.t 3)),rg 18 (.load none (.t 17)),rg 19 (.call 61 [(.t 16),(.t 18)])]
 [rg 20 (.build [(.b false),(.sl [] .nl),(.sl [] .nl)] [(0,1,(.t 9)),(1,1,(.t 14)),(2,1,(.t 19))]),rg 21 (.call 231 [(.t 20)]),so (.store 3 (.t 4) (.t 21))])
 (.pre (.norm false [4]) .ret)))
def b247:AX:=
 (.seq
 (.reg [rg 2 (.xop (.box 3) [(.t 0)]),rg 4 (.mov (.c (.b false)))])
 (.seq
 (.reg [rg 5 (.fad 1 (.t 2)),rg 6 (.load none (.t 5)),rg 7 (.len (.t 6)),mv 8 1,rg 9 (.bin .gtr (.t 7) (.t 8)),mv 10 9,gd 11 10 false (.fad 2 (.t 2)),gd 12 10 false (.load none (.t 11)),gd 13 10 false (.len (.t 12)),gd 14 10 false (.mov (.t 1)),gd 15 10 false (.bin .gtr (.t 13) (.t 14)),rg 16 (.pick (.t 10) (.c (.b true)) (.t 15)),mv 4 16])
 (.pre (.norm false [4]) .ret)))
def b353:AX:=
 (.seq
 (.reg [rg 2 (.mov (.c (.sl [] .nl)))])
 (.seq
 (.reg [mv 3 0,rg 4 (.bin .rem (.t 3) (.c (u64 4294967296))),rg 5 (.conv .u32 (.t 4)),mv 6 0,rg 7 (.bin .quo (.t 6) (.c (u64 4294967296))),rg 8 (.conv .u32 (.t 7)),rg 9 (.bsl 1 [(u32 0)] 2 [(0,(.t 5)),(1,(.t 8))]),rg 10 (.call 43 [(.t 9)]),mv 2 10])
 (.pre (.norm false [2]) .ret)))
def row231:AFx:=⟨1,40,[.cell 2 (some 3)],b231,none,false⟩
def row232:AFx:=⟨1,21,[.cell 2 (some 3)],b232,none,false⟩
def row233:AFx:=⟨2,24,[.t 4],b233,none,false⟩
def row235:AFx:=⟨1,7,[.t 2],b235,none,false⟩
def row239:AFx:=⟨2,38,[.cell 4 (some 3)],b239,none,false⟩
def row241:AFx:=⟨2,22,[.cell 4 (some 3)],b241,none,false⟩
def row247:AFx:=⟨2,17,[.t 4],b247,none,false⟩
def row353:AFx:=⟨1,11,[.t 2],b353,none,false⟩
class Zz (T:Tbl):Prop where
 h231:T 231=some row231
 h232:T 232=some row232
 h233:T 233=some row233
 h235:T 235=some row235
 h239:T 239=some row239
 h241:T 241=some row241
 h247:T 247=some row247
 h353:T 353=some row353
section
variable{T:Tbl}[Zz T]{d:Option Nat}{st:St}{xs:List AV}{ps:List Opd}{e:Env}{h:Heap}{ol:List Heap}
@[simp] theorem x231:Zc (orc T) T 231 xs d st=cP T 231 false xs d st:=zaa Zz.h231
@[simp] theorem y231:opD (orc T) T (.call 231 ps) e h ol=dP T 231 false ps e:=zaj Zz.h231
@[simp] theorem x232:Zc (orc T) T 232 xs d st=cP T 232 false xs d st:=zaa Zz.h232
@[simp] theorem y232:opD (orc T) T (.call 232 ps) e h ol=dP T 232 false ps e:=zaj Zz.h232
@[simp] theorem x233:Zc (orc T) T 233 xs d st=cP T 233 false xs d st:=zaa Zz.h233
@[simp] theorem y233:opD (orc T) T (.call 233 ps) e h ol=dP T 233 false ps e:=zaj Zz.h233
@[simp] theorem x235:Zc (orc T) T 235 xs d st=cP T 235 false xs d st:=zaa Zz.h235
@[simp] theorem x239:Zc (orc T) T 239 xs d st=cP T 239 false xs d st:=zaa Zz.h239
@[simp] theorem x241:Zc (orc T) T 241 xs d st=cP T 241 false xs d st:=zaa Zz.h241
@[simp] theorem y241:opD (orc T) T (.call 241 ps) e h ol=dP T 241 false ps e:=zaj Zz.h241
@[simp] theorem x247:Zc (orc T) T 247 xs d st=cP T 247 false xs d st:=zaa Zz.h247
@[simp] theorem x353:Zc (orc T) T 353 xs d st=cP T 353 false xs d st:=zaa Zz.h353
end
def l278_0:AX:=
 (.note
 (.seq
 (.seq
 (.reg [mv 5 4,mv 6 0,rg 7 (.len (.t 6)),rg 8 (.bin .lss (.t 5) (.t 7))])
 (.cond (.t 8)
 .skip
 (.exit 0)))
 (.seq
 (.block 1
 (.reg [mv 11 3,mv 12 0,mv 13 4,rg 14 (.iad 3 (.t 12) (.t 13)),rg 15 (.load (some 3) (.t 14)),rg 16 (.call 231 [(.t 15)]),rg 17 (.bsl 3 [(.b false),(.sl [] .nl),(.sl [] .nl)] 1 [(0,(.t 16))]),rg 18 (.app 3 (.t 11) (.t 17)),mv 3 18]))
 (.reg [mv 9 4,rg 10 (.bin .add (.t 9) (.c (.i .i64 1))),mv 4 10])))
 (.norm false [0,3,4]))
def b278:AX:=
 (.seq
 (.reg [rg 2 (.mov (.c (.sl [] .nl)))])
 (.seq
 (.note (.reg [rg 3 (.mov (.c (.sl [] .nl)))]) (.nil 3 3))
 (.seq
 (.seq
 (.reg [rg 4 (.mov (.c (.i .i64 0)))])
 (.lp 0 (.norm false [0,3,4]) l278_0 (.norm false [3])))
 (.seq
 (.reg [mv 19 3,mv 2 19])
 (.pre (.norm false [2]) .ret)))))
def l286_0:AX:=
 (.note
 (.seq
 (.seq
 (.reg [mv 8 7,mv 9 0,rg 10 (.len (.t 9)),rg 11 (.bin .lss (.t 8) (.t 10)),mv 12 11,gd 13 12 true (.mov (.t 7)),gd 14 12 true (.mov (.t 1)),gd 15 12 true (.bin .lss (.t 13) (.t 14)),rg 16 (.pick (.t 12) (.t 15) (.c (.b false)))])
 (.cond (.t 16)
 .skip
 (.exit 0)))
 (.seq
 (.block 1
 (.seq
 (.reg [mv 19 0,mv 20 7,rg 21 (.iad 3 (.t 19) (.t 20)),rg 22 (.load (some 3) (.t 21)),mv 23 2,rg 24 (.call 247 [(.t 22),(.t 23)])])
 (.cond (.t 24)
 (.seq
 (.reg [rg 6 (.mov (.c (.b true)))])
 (.pre (.norm false [6]) .ret))
 .skip)))
 (.reg [mv 17 7,rg 18 (.bin .add (.t 17) (.c (.i .i64 1))),mv 7 18])))
 (.norm false [0,1,2,7]))
def b286:AX:=
 (.seq
 (.reg [rg 6 (.mov (.c (.b false)))])
 (.seq
 (.seq
 (.reg [rg 7 (.mov (.c (.i .i64 0)))])
 (.lp 0 (.norm false [0,1,2,7]) l286_0 (.norm false [0,1])))
 (.seq
 (.reg [mv 25 0,rg 26 (.len (.t 25)),mv 27 1,rg 28 (.bin .gtr (.t 26) (.t 27)),mv 6 28])
 (.pre (.norm false [6]) .ret))))
def row278:AFx:=⟨1,20,[.t 2],b278,none,false⟩
def row286:AFx:=⟨3,29,[.t 6],b286,none,false⟩
class Za9 (T:Tbl):Prop where
 h278:T 278=some row278
 h286:T 286=some row286
section
variable{T:Tbl}[Za9 T]{d:Option Nat}{st:St}{xs:List AV}{ps:List Opd}{e:Env}{h:Heap}{ol:List Heap}
@[simp] theorem y278:opD (orc T) T (.call 278 ps) e h ol=dP T 278 false ps e:=zaj Za9.h278
@[simp] theorem x286:Zc (orc T) T 286 xs d st=cP T 286 false xs d st:=zaa Za9.h286
end
def b245:AX:=
 (.seq
 (.reg [rg 1 (.xop (.box 3) [(.t 0)]),rg 2 (.mov (.c (.i .i64 0)))])
 (.seq
 (.drawT [rg 3 (.fad 1 (.t 1)),rg 4 (.load none (.t 3)),rg 5 (.call 95 [(.t 4)]),rg 6 (.fad 2 (.t 1)),rg 7 (.load none (.t 6))]
 [rg 8 (.call 95 [(.t 7)]),rg 9 (.bin .add (.t 5) (.t 8)),mv 2 9])
 (.pre (.norm false [2]) .ret)))
def row245:AFx:=⟨1,10,[.t 2],b245,none,false⟩
class Zfi (T:Tbl):Prop where
 h245:T 245=some row245
section
variable{T:Tbl}[Zfi T]{d:Option Nat}{st:St}{xs:List AV}{ps:List Opd}{e:Env}{h:Heap}{ol:List Heap}
@[simp] theorem x245:Zc (orc T) T 245 xs d st=cP T 245 false xs d st:=zaa Zfi.h245
end
def b189:AX:=
 (.seq
 (.reg [rg 2 (.mov (.c (.b false)))])
 (.seq
 (.reg [mv 3 0,rg 4 (.bin .geq (.t 3) (.c (u8 48))),mv 5 4,gd 6 5 true (.mov (.t 0)),gd 7 5 true (.bin .leq (.t 6) (.c (u8 57))),rg 8 (.pick (.t 5) (.t 7) (.c (.b false))),mv 2 8])
 (.pre (.norm false [2]) .ret)))
def b190:AX:=
 (.seq
 (.reg [rg 2 (.mov (.c (.b false)))])
 (.seq
 (.reg [mv 3 0,rg 4 (.bin .geq (.t 3) (.c (u8 97))),mv 5 4,gd 6 5 true (.mov (.t 0)),gd 7 5 true (.bin .leq (.t 6) (.c (u8 122))),rg 8 (.pick (.t 5) (.t 7) (.c (.b false))),mv 9 8,gd 10 9 false (.mov (.t 0)),gd 11 9 false (.bin .geq (.t 10) (.c (u8 65))),gd 12 9 false (.mov (.t 11)),gd 13 12 true (.mov (.t 0)),gd 14 12 true (.bin .leq (.t 13) (.c (u8 90))),gd 15 9 false (.pick (.t 12) (.t 14) (.c (.b false))),rg 16 (.pick (.t 9) (.c (.b true)) (.t 15)),mv 17 16,gd 18 17 false (.mov (.t 0)),gd 19 17 false (.bin .eql (.t 18) (.c (u8 95))),rg 20 (.pick (.t 17) (.c (.b true)) (.t 19)),mv 2 20])
 (.pre (.norm false [2]) .ret)))
def l181_0:AX:=
 (.note
 (.seq
 (.seq
 (.reg [mv 9 4,mv 10 3,rg 11 (.lens (.t 10)),rg 12 (.bin .lss (.t 9) (.t 11))])
 (.cond (.t 12)
 .skip
 (.exit 0)))
 (.seq
 (.block 1
 (.seq
 (.reg [mv 15 3,mv 16 4,rg 17 (.ixs (.t 15) (.t 16)),mv 18 0,rg 19 (.bin .eql (.t 17) (.t 18))])
 (.cond (.t 19)
 (.seq
 (.reg [rg 2 (.mov (.c (.i .i64 3)))])
 (.pre (.norm false [2]) .ret))
 .skip)))
 (.reg [mv 13 4,rg 14 (.bin .add (.t 13) (.c (.i .i64 1))),mv 4 14])))
 (.norm false [0,3,4]))
def b181:AX:=
 (.seq
 (.reg [rg 2 (.mov (.c (.i .i64 0)))])
 (.seq
 (.seq
 (.reg [mv 5 0,rg 6 (.call 189 [(.t 5)])])
 (.cond (.t 6)
 (.seq
 (.reg [rg 2 (.mov (.c (.i .i64 1)))])
 (.pre (.norm false [2]) .ret))
 .skip))
 (.seq
 (.seq
 (.reg [mv 7 0,rg 8 (.call 190 [(.t 7)])])
 (.cond (.t 8)
 (.seq
 (.reg [rg 2 (.mov (.c (.i .i64 2)))])
 (.pre (.norm false [2]) .ret))
 .skip))
 (.seq
 (.reg [rg 3 (.mov (.c (.s [43,45,42,47,94,40,41,91,93,44,59,61])))])
 (.seq
 (.seq
 (.reg [rg 4 (.mov (.c (.i .i64 0)))])
 (.lp 0 (.norm false [0,3,4]) l181_0 (.norm false [])))
 (.seq
 (.reg [rg 2 (.mov (.c (.i .i64 0)))])
 (.pre (.norm false [2]) .ret)))))))
def b180:AX:=
 (.seq
 (.reg [rg 4 (.mov (.c (.b false)))])
 (.seq
 (.reg [mv 5 0,rg 6 (.bin .eql (.t 5) (.c (.i .i64 1))),mv 7 6,gd 8 7 true (.mov (.t 1)),gd 9 7 true (.call 189 [(.t 8)]),rg 10 (.pick (.t 7) (.t 9) (.c (.b false))),mv 11 10,gd 12 11 false (.mov (.t 0)),gd 13 11 false (.bin .eql (.t 12) (.c (.i .i64 2))),gd 14 11 false (.mov (.t 13)),gd 15 14 true (.mov (.t 1)),gd 16 14 true (.call 189 [(.t 15)]),gd 17 14 true (.mov (.t 16)),gd 18 17 false (.mov (.t 1)),gd 19 17 false (.call 190 [(.t 18)]),gd 20 14 true (.pick (.t 17) (.c (.b true)) (.t 19)),gd 21 11 false (.pick (.t 14) (.t 20) (.c (.b false))),rg 22 (.pick (.t 11) (.c (.b true)) (.t 21)),mv 4 22])
 (.pre (.norm false [4]) .ret)))
def b182:AX:=
 (.seq
 (.reg [rg 2 (.mov (.c (.i .i64 0)))])
 (.seq
 (.seq
 (.reg [mv 3 0,rg 4 (.bin .eql (.t 3) (.c (.i .i64 1)))])
 (.cond (.t 4)
 (.seq
 (.reg [rg 2 (.mov (.c (.i .i64 60)))])
 (.pre (.norm false [2]) .ret))
 .skip))
 (.seq
 (.seq
 (.reg [mv 5 0,rg 6 (.bin .eql (.t 5) (.c (.i .i64 2)))])
 (.cond (.t 6)
 (.seq
 (.reg [rg 2 (.mov (.c (.i .i64 12)))])
 (.pre (.norm false [2]) .ret))
 .skip))
 (.seq
 (.reg [rg 2 (.mov (.c (.i .i64 1)))])
 (.pre (.norm false [2]) .ret)))))
def l168_0:AX:=
 (.note
 (.seq
 (.seq
 (.reg [mv 14 6,mv 15 0,rg 16 (.lens (.t 15)),rg 17 (.bin .lss (.t 14) (.t 16))])
 (.cond (.t 17)
 .skip
 (.exit 0)))
 (.seq
 (.block 1
 (.seq
 (.reg [mv 20 0,mv 21 6,rg 22 (.ixs (.t 20) (.t 21)),mv 7 22])
 (.seq
 (.seq
 (.reg [mv 23 7,rg 24 (.bin .eql (.t 23) (.c (u8 10)))])
 (.cond (.t 24)
 (.reg [rg 5 (.mov (.c (.b false)))])
 .skip))
 (.seq
 (.seq
 (.reg [mv 25 7,rg 26 (.bin .eql (.t 25) (.c (u8 35)))])
 (.cond (.t 26)
 (.reg [rg 5 (.mov (.c (.b true)))])
 .skip))
 (.seq
 (.seq
 (.reg [mv 27 5,mv 28 27,gd 29 28 false (.mov (.t 7)),gd 30 28 false (.bin .eql (.t 29) (.c (u8 32))),rg 31 (.pick (.t 28) (.c (.b true)) (.t 30)),mv 32 31,gd 33 32 false (.mov (.t 7)),gd 34 32 false (.bin .eql (.t 33) (.c (u8 9))),rg 35 (.pick (.t 32) (.c (.b true)) (.t 34)),mv 36 35,gd 37 36 false (.mov (.t 7)),gd 38 36 false (.bin .eql (.t 37) (.c (u8 10))),rg 39 (.pick (.t 36) (.c (.b true)) (.t 38)),mv 40 39,gd 41 40 false (.mov (.t 7)),gd 42 40 false (.bin .eql (.t 41) (.c (u8 13))),rg 43 (.pick (.t 40) (.c (.b true)) (.t 42))])
 (.cond (.t 43)
 (.exit 1)
 .skip))
 (.seq
 (.reg [mv 44 4,rg 45 (.len (.t 44)),mv 8 45])
 (.seq
 (.seq
 (.drawT [mv 46 8,rg 47 (.bin .gtr (.t 46) (.c (.i .i64 0))),mv 48 47,gd 49 48 true (.mov (.t 4)),gd 50 48 true (.mov (.t 8)),gd 51 48 true (.bin .sub (.t 50) (.c (.i .i64 1))),gd 52 48 true (.iad 3 (.t 49) (.t 51)),gd 53 48 true (.fad 2 (.t 52)),gd 54 48 true (.load none (.t 53)),gd 55 48 true (.mov (.t 4)),gd 56 48 true (.mov (.t 8)),gd 57 48 true (.bin .sub (.t 56) (.c (.i .i64 1))),gd 58 48 true (.iad 3 (.t 55) (.t 57)),gd 59 48 true (.fad 1 (.t 58)),gd 60 48 true (.load none (.t 59)),gd 61 48 true (.lens (.t 60)),gd 62 48 true (.bin .add (.t 54) (.t 61)),gd 63 48 true (.mov (.t 6)),gd 64 48 true (.bin .eql (.t 62) (.t 63)),rg 65 (.pick (.t 48) (.t 64) (.c (.b false))),mv 66 65,gd 67 66 true (.mov (.t 4)),gd 68 66 true (.mov (.t 8)),gd 69 66 true (.bin .sub (.t 68) (.c (.i .i64 1))),gd 70 66 true (.iad 3 (.t 67) (.t 69)),gd 71 66 true (.fad 0 (.t 70)),gd 72 66 true (.load none (.t 71)),gd 73 66 true (.mov (.t 7))]
 [gd 74 66 true (.call 180 [(.t 72),(.t 73)]),rg 75 (.pick (.t 66) (.t 74) (.c (.b false)))])
 (.cond (.t 75)
 (.drawT [mv 76 4,mv 77 8,rg 78 (.bin .sub (.t 77) (.c (.i .i64 1))),rg 79 (.iad 3 (.t 76) (.t 78)),rg 80 (.fad 1 (.t 79)),rg 81 (.load none (.t 80)),mv 82 0,mv 83 6,mv 84 6,rg 85 (.bin .add (.t 84) (.c (.i .i64 1))),rg 86 (.slstr (.t 82) (some (.t 83)) (some (.t 85)))]
 [rg 87 (.bin .add (.t 81) (.t 86)),rg 88 (.iad 3 (.t 76) (.t 78)),rg 89 (.fad 1 (.t 88)),so (.store 1 (.t 89) (.t 87))])
 (.drawT [mv 90 4,mv 91 7,rg 92 (.call 181 [(.t 91)]),mv 93 0,mv 94 6,mv 95 6,rg 96 (.bin .add (.t 95) (.c (.i .i64 1))),rg 97 (.slstr (.t 93) (some (.t 94)) (some (.t 96))),mv 98 6,rg 99 (.build [(.i .i64 0),(.s []),(.i .i64 0)] [(0,1,(.t 92)),(1,1,(.t 97)),(2,1,(.t 98))]),rg 100 (.bsl 3 [(.i .i64 0),(.s []),(.i .i64 0)] 1 [(0,(.t 99))])]
 [rg 101 (.app 3 (.t 90) (.t 100)),mv 4 101])))
 (.seq
 (.reg [mv 102 4,mv 103 4,rg 104 (.len (.t 103)),rg 105 (.bin .sub (.t 104) (.c (.i .i64 1))),rg 106 (.iad 3 (.t 102) (.t 105)),rg 107 (.load (some 3) (.t 106)),rg 9 (.alloc [(.i .i64 0),(.s []),(.i .i64 0)]),so (.store 3 (.t 9) (.t 107))])
 (.seq
 (.drawT [rg 108 (.fad 0 (.t 9)),rg 109 (.load none (.t 108)),rg 110 (.bin .eql (.t 109) (.c (.i .i64 0))),mv 111 110,gd 112 111 false (.fad 1 (.t 9)),gd 113 111 false (.load none (.t 112)),gd 114 111 false (.lens (.t 113)),gd 115 111 false (.fad 0 (.t 9)),gd 116 111 false (.load none (.t 115)),gd 117 111 false (.call 182 [(.t 116)])]
 [gd 118 111 false (.bin .gtr (.t 114) (.t 117)),rg 119 (.pick (.t 111) (.c (.b true)) (.t 118))])
 (.cond (.t 119)
 (.seq
 (.reg [rg 120 (.bsl 3 [(.i .i64 0),(.s []),(.i .i64 0)] 0 []),mv 121 6,mv 2 120,mv 3 121])
 (.pre (.norm false [2,3]) .ret))
 .skip))))))))))
 (.reg [mv 18 6,rg 19 (.bin .add (.t 18) (.c (.i .i64 1))),mv 6 19])))
 (.norm false [0,4,5,6]))
def b168:AX:=
 (.seq
 (.reg [rg 2 (.mov (.c (.sl [] .nl))),rg 3 (.mov (.c (.i .i64 0)))])
 (.seq
 (.seq
 (.reg [mv 10 0,rg 11 (.lens (.t 10)),rg 12 (.bin .gtr (.t 11) (.c (.i .i64 4000)))])
 (.cond (.t 12)
 (.seq
 (.reg [rg 13 (.bsl 3 [(.i .i64 0),(.s []),(.i .i64 0)] 0 []),mv 2 13,rg 3 (.mov (.c (.i .i64 4000)))])
 (.pre (.norm false [2,3]) .ret))
 .skip))
 (.seq
 (.note (.reg [rg 4 (.mov (.c (.sl [] .nl)))]) (.nil 4 3))
 (.seq
 (.reg [rg 5 (.mov (.c (.b false)))])
 (.seq
 (.seq
 (.reg [rg 6 (.mov (.c (.i .i64 0)))])
 (.lp 0 (.norm false [0,4,5,6]) l168_0 (.norm false [4])))
 (.seq
 (.reg [mv 122 4,mv 2 122,rg 3 (.mov (.c (.i .i64 (-1))))])
 (.pre (.norm false [2,3]) .ret)))))))
def b173:AX:=
 (.seq
 (.reg [rg 1 (.xop (.box 3) [(.t 0)]),rg 2 (.mov (.c (.b false)))])
 (.seq
 (.reg [rg 6 (.fad 1 (.t 1)),rg 7 (.load none (.t 6)),rg 8 (.call 168 [(.t 7)]),mv 5 8,rg 9 (.ext (.t 5) 0),rg 10 (.ext (.t 5) 1),mv 3 9,mv 4 10])
 (.seq
 (.drawT [mv 11 4,rg 12 (.bin .lss (.t 11) (.c (.i .i64 0))),mv 13 12,gd 14 13 true (.mov (.t 3)),gd 15 13 true (.len (.t 14)),gd 16 13 true (.bin .eql (.t 15) (.c (.i .i64 1))),rg 17 (.pick (.t 13) (.t 16) (.c (.b false))),mv 18 17,gd 19 18 true (.mov (.t 3)),gd 20 18 true (.iad 3 (.t 19) (.c (.i .i64 0))),gd 21 18 true (.fad 0 (.t 20)),gd 22 18 true (.load none (.t 21)),gd 23 18 true (.fad 0 (.t 1)),gd 24 18 true (.load none (.t 23)),gd 25 18 true (.bin .eql (.t 22) (.t 24)),rg 26 (.pick (.t 18) (.t 25) (.c (.b false))),mv 27 26,gd 28 27 true (.mov (.t 3)),gd 29 27 true (.iad 3 (.t 28) (.c (.i .i64 0))),gd 30 27 true (.fad 1 (.t 29)),gd 31 27 true (.load none (.t 30)),gd 32 27 true (.fad 1 (.t 1)),gd 33 27 true (.load none (.t 32))]
 [gd 34 27 true (.bin .eql (.t 31) (.t 33)),rg 35 (.pick (.t 27) (.t 34) (.c (.b false))),mv 2 35])
 (.pre (.norm false [2]) .ret))))
def row189:AFx:=⟨1,9,[.t 2],b189,none,false⟩
def row190:AFx:=⟨1,21,[.t 2],b190,none,false⟩
def row181:AFx:=⟨1,20,[.t 2],b181,none,false⟩
def row180:AFx:=⟨2,23,[.t 4],b180,none,false⟩
def row182:AFx:=⟨1,7,[.t 2],b182,none,false⟩
def row168:AFx:=⟨1,123,[.t 2,.t 3],b168,none,false⟩
def row173:AFx:=⟨1,36,[.t 2],b173,none,false⟩
class Zbo (T:Tbl):Prop where
 h189:T 189=some row189
 h190:T 190=some row190
 h181:T 181=some row181
 h180:T 180=some row180
 h182:T 182=some row182
 h168:T 168=some row168
 h173:T 173=some row173
section
variable{T:Tbl}[Zbo T]{d:Option Nat}{st:St}
@[simp] theorem x189(xs:List AV):Zc (orc T) T 189 xs d st=cP T 189 false xs d st:=zaa Zbo.h189
@[simp] theorem x190(xs:List AV):Zc (orc T) T 190 xs d st=cP T 190 false xs d st:=zaa Zbo.h190
@[simp] theorem y181{e:Env}{h:Heap}{older:List Heap}(args:List Opd):opD (orc T) T (.call 181 args) e h older=dR (Za T 181 ((args.map (ev e.get)).map (wkIf false))) (args.map (ev e.get)):=zaj Zbo.h181
@[simp] theorem x180(xs:List AV):Zc (orc T) T 180 xs d st=cP T 180 false xs d st:=zaa Zbo.h180
@[simp] theorem y182{e:Env}{h:Heap}{older:List Heap}(args:List Opd):opD (orc T) T (.call 182 args) e h older=dR (Za T 182 ((args.map (ev e.get)).map (wkIf false))) (args.map (ev e.get)):=zaj Zbo.h182
@[simp] theorem x168(xs:List AV):Zc (orc T) T 168 xs d st=cP T 168 false xs d st:=zaa Zbo.h168
@[simp] theorem x173(xs:List AV):Zc (orc T) T 173 xs d st=cP T 173 false xs d st:=zaa Zbo.h173
end
class Zgg (T:Tbl):Prop where
def b248:AX:=
 (.seq
 (.reg [rg 1 (.xop (.box 3) [(.t 0)]),rg 2 (.alloc [(.b false),(.sl [] .nl),(.sl [] .nl)])])
 (.seq
 (.reg [rg 3 (.fad 0 (.t 1)),rg 4 (.load none (.t 3)),rg 5 (.fad 1 (.t 1)),rg 6 (.load none (.t 5)),rg 7 (.build [(.b false),(.sl [] .nl)] [(0,1,(.t 4)),(1,1,(.t 6))]),rg 8 (.fad 2 (.t 1)),rg 9 (.load none (.t 8)),rg 10 (.build [(.b false),(.sl [] .nl),(.sl [] .nl)] [(0,2,(.t 7)),(2,1,(.t 9))]),so (.store 3 (.t 2) (.t 10))])
 (.pre (.norm false [2]) .ret)))
def b249:AX:=
 (.seq
 (.reg [rg 1 (.xop (.box 3) [(.t 0)]),rg 2 (.alloc [(.b false),(.sl [] .nl),(.sl [] .nl)])])
 (.seq
 (.reg [rg 3 (.fad 0 (.t 1)),rg 4 (.fad 0 (.t 3)),rg 5 (.load none (.t 4)),rg 6 (.fad 0 (.t 1)),rg 7 (.fad 1 (.t 6)),rg 8 (.load none (.t 7)),rg 9 (.fad 2 (.t 1)),rg 10 (.load none (.t 9)),rg 11 (.build [(.b false),(.sl [] .nl),(.sl [] .nl)] [(0,1,(.t 5)),(1,1,(.t 8)),(2,1,(.t 10))]),so (.store 3 (.t 2) (.t 11))])
 (.pre (.norm false [2]) .ret)))
def b250:AX:=
 (.seq
 (.reg [rg 2 (.xop (.box 3) [(.t 0)]),rg 3 (.xop (.box 3) [(.t 1)]),rg 4 (.mov (.c (.b false)))])
 (.seq
 (.drawT [rg 5 (.load (some 3) (.t 2)),rg 6 (.call 249 [(.t 5)]),rg 7 (.load (some 3) (.t 3))]
 [rg 8 (.call 233 [(.t 6),(.t 7)]),mv 4 8])
 (.pre (.norm false [4]) .ret)))
def row248:AFx:=⟨1,11,[.cell 2 (some 3)],b248,none,false⟩
def row249:AFx:=⟨1,12,[.cell 2 (some 3)],b249,none,false⟩
def row250:AFx:=⟨2,9,[.t 4],b250,none,false⟩
class Zcx (T:Tbl):Prop where
 h248:T 248=some row248
 h249:T 249=some row249
 h250:T 250=some row250
section
variable{T:Tbl}[Zcx T]{d:Option Nat}{st:St}{xs:List AV}{ps:List Opd}{e:Env}{h:Heap}{ol:List Heap}
@[simp] theorem x248:Zc (orc T) T 248 xs d st=cP T 248 false xs d st:=zaa Zcx.h248
@[simp] theorem y249:opD (orc T) T (.call 249 ps) e h ol=dP T 249 false ps e:=zaj Zcx.h249
@[simp] theorem x250:Zc (orc T) T 250 xs d st=cP T 250 false xs d st:=zaa Zcx.h250
end
def l287_0:AX:=
 (.note
 (.seq
 (.seq
 (.reg [mv 5 4,mv 6 0,rg 7 (.len (.t 6)),rg 8 (.bin .lss (.t 5) (.t 7))])
 (.cond (.t 8)
 .skip
 (.exit 0)))
 (.seq
 (.block 1
 (.reg [mv 11 3,mv 12 0,mv 13 4,rg 14 (.iad 3 (.t 12) (.t 13)),rg 15 (.load (some 3) (.t 14)),rg 16 (.call 248 [(.t 15)]),rg 17 (.bsl 3 [(.b false),(.sl [] .nl),(.sl [] .nl)] 1 [(0,(.t 16))]),rg 18 (.app 3 (.t 11) (.t 17)),mv 3 18]))
 (.reg [mv 9 4,rg 10 (.bin .add (.t 9) (.c (.i .i64 1))),mv 4 10])))
 (.norm false [0,3,4]))
def b287:AX:=
 (.seq
 (.reg [rg 2 (.mov (.c (.sl [] .nl)))])
 (.seq
 (.note (.reg [rg 3 (.mov (.c (.sl [] .nl)))]) (.nil 3 3))
 (.seq
 (.seq
 (.reg [rg 4 (.mov (.c (.i .i64 0)))])
 (.lp 0 (.norm false [0,3,4]) l287_0 (.norm false [3])))
 (.seq
 (.reg [mv 19 3,mv 2 19])
 (.pre (.norm false [2]) .ret)))))
def row287:AFx:=⟨1,20,[.t 2],b287,none,false⟩
class Zdq (T:Tbl):Prop where
 h287:T 287=some row287
section
variable{T:Tbl}[Zdq T]{d:Option Nat}{st:St}{xs:List AV}{ps:List Opd}{e:Env}{h:Heap}{ol:List Heap}
@[simp] theorem x287:Zc (orc T) T 287 xs d st=cP T 287 false xs d st:=zaa Zdq.h287
@[simp] theorem y287:opD (orc T) T (.call 287 ps) e h ol=dP T 287 false ps e:=zaj Zdq.h287
end
def l308_0:AX:=
 (.note
 (.seq
 (.seq
 (.reg [mv 5 4,mv 6 0,rg 7 (.len (.t 6)),rg 8 (.bin .lss (.t 5) (.t 7))])
 (.cond (.t 8)
 .skip
 (.exit 0)))
 (.seq
 (.block 1
 (.reg [mv 11 3,mv 12 0,mv 13 4,rg 14 (.iad 1 (.t 12) (.t 13)),rg 15 (.load none (.t 14)),rg 16 (.call 287 [(.t 15)]),rg 17 (.bsl 1 [(.sl [] .nl)] 1 [(0,(.t 16))]),rg 18 (.app 1 (.t 11) (.t 17)),mv 3 18]))
 (.reg [mv 9 4,rg 10 (.bin .add (.t 9) (.c (.i .i64 1))),mv 4 10])))
 (.norm false [0,3,4]))
def b308:AX:=
 (.seq
 (.reg [rg 2 (.mov (.c (.sl [] .nl)))])
 (.seq
 (.note (.reg [rg 3 (.mov (.c (.sl [] .nl)))]) (.nil 3 1))
 (.seq
 (.seq
 (.reg [rg 4 (.mov (.c (.i .i64 0)))])
 (.lp 0 (.norm false [0,3,4]) l308_0 (.norm false [3])))
 (.seq
 (.reg [mv 19 3,mv 2 19])
 (.pre (.norm false [2]) .ret)))))
def row308:AFx:=⟨1,20,[.t 2],b308,none,false⟩
class Zfp (T:Tbl):Prop where
 h308:T 308=some row308
section
variable{T:Tbl}[Zfp T]{d:Option Nat}{st:St}{xs:List AV}{ps:List Opd}{e:Env}{h:Heap}{ol:List Heap}
@[simp] theorem y308:opD (orc T) T (.call 308 ps) e h ol=dP T 308 false ps e:=zaj Zfp.h308
end
class Ziw (T:Tbl):Prop where
class Zia (T:Tbl):Prop where
def l515_0:AX:=
 (.note
 (.seq
 (.seq
 (.reg [mv 40 7,rg 41 (.fad 2 (.t 3)),rg 42 (.load none (.t 41)),rg 43 (.len (.t 42)),rg 44 (.bin .lss (.t 40) (.t 43))])
 (.cond (.t 44)
 .skip
 (.exit 0)))
 (.seq
 (.block 1
 (.seq
 (.reg [rg 47 (.fad 2 (.t 3)),rg 48 (.load none (.t 47)),mv 49 7,rg 50 (.iad 1 (.t 48) (.t 49)),rg 51 (.load none (.t 50)),mv 52 1,mv 53 2,rg 54 (.call 286 [(.t 51),(.t 52),(.t 53)])])
 (.cond (.t 54)
 (.seq
 (.reg [rg 6 (.mov (.c (.b true)))])
 (.pre (.norm false [6]) .ret))
 .skip)))
 (.reg [mv 45 7,rg 46 (.bin .add (.t 45) (.c (.i .i64 1))),mv 7 46])))
 (.norm false [1,2,3,7]))
def b515:AX:=
 (.seq
 (.reg [rg 3 (.xop (.box 5) [(.t 0)]),rg 6 (.mov (.c (.b false)))])
 (.seq
 (.seq
 (.reg [rg 8 (.fad 0 (.t 3)),rg 9 (.load none (.t 8)),rg 10 (.lens (.t 9)),rg 11 (.bin .gtr (.t 10) (.c (.i .i64 50))),mv 12 11,gd 13 12 false (.fad 2 (.t 3)),gd 14 12 false (.load none (.t 13)),gd 15 12 false (.len (.t 14)),gd 16 12 false (.mov (.t 1)),gd 17 12 false (.bin .gtr (.t 15) (.t 16)),rg 18 (.pick (.t 12) (.c (.b true)) (.t 17)),mv 19 18,gd 20 19 false (.fad 3 (.t 3)),gd 21 19 false (.load none (.t 20)),gd 22 19 false (.mov (.t 1)),gd 23 19 false (.mov (.t 2)),gd 24 19 false (.call 286 [(.t 21),(.t 22),(.t 23)]),rg 25 (.pick (.t 19) (.c (.b true)) (.t 24)),mv 26 25,gd 27 26 false (.fad 1 (.t 3)),gd 28 26 false (.load none (.t 27)),gd 29 26 false (.mov (.t 1)),gd 30 26 false (.mov (.t 2)),gd 31 26 false (.call 286 [(.t 28),(.t 29),(.t 30)]),rg 32 (.pick (.t 26) (.c (.b true)) (.t 31)),mv 33 32,gd 34 33 false (.fad 4 (.t 3)),gd 35 33 false (.load none (.t 34)),gd 36 33 false (.mov (.t 1)),gd 37 33 false (.mov (.t 2)),gd 38 33 false (.call 286 [(.t 35),(.t 36),(.t 37)]),rg 39 (.pick (.t 33) (.c (.b true)) (.t 38))])
 (.cond (.t 39)
 (.seq
 (.reg [rg 6 (.mov (.c (.b true)))])
 (.pre (.norm false [6]) .ret))
 .skip))
 (.seq
 (.seq
 (.reg [rg 7 (.mov (.c (.i .i64 0)))])
 (.lp 0 (.norm false [1,2,3,7]) l515_0 (.norm false [])))
 (.seq
 (.reg [rg 6 (.mov (.c (.b false)))])
 (.pre (.norm false [6]) .ret)))))
def row515:AFx:=⟨3,55,[.t 6],b515,none,false⟩
class Zfc (T:Tbl):Prop where
 h515:T 515=some row515
section
variable{T:Tbl}[Zfc T]{d:Option Nat}{st:St}{xs:List AV}{ps:List Opd}{e:Env}{h:Heap}{ol:List Heap}
@[simp] theorem x515:Zc (orc T) T 515 xs d st=cP T 515 false xs d st:=zaa Zfc.h515
end
def b527:AX:=
 (.seq
 (.reg [rg 1 (.xop (.box 5) [(.t 0)]),rg 2 (.alloc [(.s []),(.sl [] .nl),(.sl [] .nl),(.sl [] .nl),(.sl [] .nl)])])
 (.seq
 (.drawT [rg 3 (.fad 0 (.t 1)),rg 4 (.load none (.t 3)),rg 5 (.fad 1 (.t 1)),rg 6 (.load none (.t 5)),rg 7 (.call 287 [(.t 6)]),rg 8 (.fad 2 (.t 1)),rg 9 (.load none (.t 8)),rg 10 (.call 308 [(.t 9)]),rg 11 (.fad 3 (.t 1)),rg 12 (.load none (.t 11)),rg 13 (.call 287 [(.t 12)]),rg 14 (.fad 4 (.t 1)),rg 15 (.load none (.t 14)),rg 16 (.call 287 [(.t 15)])]
 [rg 17 (.build [(.s []),(.sl [] .nl),(.sl [] .nl),(.sl [] .nl),(.sl [] .nl)] [(0,1,(.t 4)),(1,1,(.t 7)),(2,1,(.t 10)),(3,1,(.t 13)),(4,1,(.t 16))]),so (.store 5 (.t 2) (.t 17))])
 (.pre (.norm false [2]) .ret)))
def row527:AFx:=⟨1,18,[.cell 2 (some 5)],b527,none,false⟩
class Zib (T:Tbl):Prop where
 h527:T 527=some row527
section
variable{T:Tbl}[Zib T]{d:Option Nat}{st:St}{xs:List AV}{ps:List Opd}{e:Env}{h:Heap}{ol:List Heap}
@[simp] theorem x527:Zc (orc T) T 527 xs d st=cP T 527 false xs d st:=zaa Zib.h527
end
def l529_0:AX:=
 (.note
 (.seq
 (.seq
 (.reg [mv 49 4,mv 50 3,rg 51 (.bin .lss (.t 49) (.t 50))])
 (.cond (.t 51)
 .skip
 (.exit 0)))
 (.seq
 (.block 1
 (.seq
 (.reg [rg 54 (.fad 2 (.t 1)),rg 55 (.load none (.t 54)),mv 56 4,rg 57 (.iad 1 (.t 55) (.t 56)),rg 58 (.load none (.t 57)),rg 59 (.len (.t 58)),mv 60 4,rg 61 (.bin .neq (.t 59) (.t 60))])
 (.cond (.t 61)
 (.seq
 (.reg [rg 2 (.mov (.c (.i .i64 2)))])
 (.pre (.norm false [2]) .ret))
 .skip)))
 (.reg [mv 52 4,rg 53 (.bin .add (.t 52) (.c (.i .i64 1))),mv 4 53])))
 (.norm false [1,3,4]))
def l529_1:AX:=
 (.note
 (.seq
 (.seq
 (.reg [mv 62 5,mv 63 3,rg 64 (.bin .lss (.t 62) (.t 63))])
 (.cond (.t 64)
 .skip
 (.exit 2)))
 (.seq
 (.block 3
 (.seq
 (.reg [rg 67 (.fad 2 (.t 1)),rg 68 (.load none (.t 67)),mv 69 5,rg 70 (.iad 1 (.t 68) (.t 69)),rg 71 (.load none (.t 70)),rg 72 (.call 540 [(.t 71)])])
 (.cond (.t 72)
 (.seq
 (.reg [rg 2 (.mov (.c (.i .i64 3)))])
 (.pre (.norm false [2]) .ret))
 .skip)))
 (.reg [mv 65 5,rg 66 (.bin .add (.t 65) (.c (.i .i64 1))),mv 5 66])))
 (.norm false [1,3,5]))
def l529_2:AX:=
 (.note
 (.seq
 (.seq
 (.reg [mv 86 6,mv 87 3,rg 88 (.bin .lss (.t 86) (.t 87))])
 (.cond (.t 88)
 .skip
 (.exit 4)))
 (.seq
 (.block 5
 (.seq
 (.drawT [rg 91 (.fad 2 (.t 1)),rg 92 (.load none (.t 91)),mv 93 6,rg 94 (.iad 1 (.t 92) (.t 93)),rg 95 (.load none (.t 94)),rg 96 (.call 541 [(.t 95)]),rg 97 (.fad 1 (.t 1)),rg 98 (.load none (.t 97)),mv 99 6,rg 100 (.iad 3 (.t 98) (.t 99)),rg 101 (.load (some 3) (.t 100))]
 [rg 102 (.call 233 [(.t 96),(.t 101)]),rg 103 (.un .not (.t 102))])
 (.cond (.t 103)
 (.seq
 (.reg [rg 2 (.mov (.c (.i .i64 4)))])
 (.pre (.norm false [2]) .ret))
 .skip)))
 (.reg [mv 89 6,rg 90 (.bin .add (.t 89) (.c (.i .i64 1))),mv 6 90])))
 (.norm false [1,3,6]))
def b529:AX:=
 (.seq
 (.reg [rg 1 (.xop (.box 5) [(.t 0)]),rg 2 (.mov (.c (.i .i64 0)))])
 (.seq
 (.reg [rg 8 (.fad 3 (.t 1)),rg 9 (.load none (.t 8)),rg 10 (.len (.t 9)),mv 3 10])
 (.seq
 (.seq
 (.reg [rg 11 (.fad 0 (.t 1)),rg 12 (.load none (.t 11)),rg 13 (.build [(.i .i64 0),(.s []),(.i .i64 0)] [(0,1,(.c (.i .i64 2))),(1,1,(.t 12))]),rg 14 (.call 173 [(.t 13)]),rg 15 (.un .not (.t 14))])
 (.cond (.t 15)
 (.seq
 (.reg [rg 2 (.mov (.c (.i .i64 1)))])
 (.pre (.norm false [2]) .ret))
 .skip))
 (.seq
 (.seq
 (.reg [mv 16 3,rg 17 (.bin .lss (.t 16) (.c (.i .i64 1))),mv 18 17,gd 19 18 false (.mov (.t 3)),gd 20 18 false (.bin .gtr (.t 19) (.c (.i .i64 8))),rg 21 (.pick (.t 18) (.c (.b true)) (.t 20)),mv 22 21,gd 23 22 false (.fad 1 (.t 1)),gd 24 22 false (.load none (.t 23)),gd 25 22 false (.len (.t 24)),gd 26 22 false (.mov (.t 3)),gd 27 22 false (.bin .neq (.t 25) (.t 26)),rg 28 (.pick (.t 22) (.c (.b true)) (.t 27)),mv 29 28,gd 30 29 false (.fad 2 (.t 1)),gd 31 29 false (.load none (.t 30)),gd 32 29 false (.len (.t 31)),gd 33 29 false (.mov (.t 3)),gd 34 29 false (.bin .neq (.t 32) (.t 33)),rg 35 (.pick (.t 29) (.c (.b true)) (.t 34)),mv 36 35,gd 37 36 false (.fad 4 (.t 1)),gd 38 36 false (.load none (.t 37)),gd 39 36 false (.len (.t 38)),gd 40 36 false (.bin .neq (.t 39) (.c (.i .i64 0))),gd 41 36 false (.mov (.t 40)),gd 42 41 true (.fad 4 (.t 1)),gd 43 41 true (.load none (.t 42)),gd 44 41 true (.len (.t 43)),gd 45 41 true (.mov (.t 3)),gd 46 41 true (.bin .neq (.t 44) (.t 45)),gd 47 36 false (.pick (.t 41) (.t 46) (.c (.b false))),rg 48 (.pick (.t 36) (.c (.b true)) (.t 47))])
 (.cond (.t 48)
 (.seq
 (.reg [rg 2 (.mov (.c (.i .i64 2)))])
 (.pre (.norm false [2]) .ret))
 .skip))
 (.seq
 (.seq
 (.reg [rg 4 (.mov (.c (.i .i64 0)))])
 (.lp 0 (.norm false [1,3,4]) l529_0 (.norm false [1,3])))
 (.seq
 (.seq
 (.reg [rg 5 (.mov (.c (.i .i64 0)))])
 (.lp 2 (.norm false [1,3,5]) l529_1 (.norm false [1,3])))
 (.seq
 (.seq
 (.reg [rg 73 (.fad 3 (.t 1)),rg 74 (.load none (.t 73)),rg 75 (.call 540 [(.t 74)]),mv 76 75,gd 77 76 false (.fad 1 (.t 1)),gd 78 76 false (.load none (.t 77)),gd 79 76 false (.call 540 [(.t 78)]),rg 80 (.pick (.t 76) (.c (.b true)) (.t 79)),mv 81 80,gd 82 81 false (.fad 4 (.t 1)),gd 83 81 false (.load none (.t 82)),gd 84 81 false (.call 540 [(.t 83)]),rg 85 (.pick (.t 81) (.c (.b true)) (.t 84))])
 (.cond (.t 85)
 (.seq
 (.reg [rg 2 (.mov (.c (.i .i64 3)))])
 (.pre (.norm false [2]) .ret))
 .skip))
 (.seq
 (.seq
 (.reg [rg 6 (.mov (.c (.i .i64 0)))])
 (.lp 4 (.norm false [1,3,6]) l529_2 (.norm false [1])))
 (.seq
 (.reg [rg 104 (.call 232 [(.c (.i .i64 1))]),rg 7 (.alloc [(.b false),(.sl [] .nl),(.sl [] .nl)]),so (.store 3 (.t 7) (.t 104))])
 (.seq
 (.seq
 (.drawT [rg 105 (.fad 3 (.t 1)),rg 106 (.load none (.t 105)),rg 107 (.call 541 [(.t 106)]),rg 108 (.load (some 3) (.t 7))]
 [rg 109 (.call 233 [(.t 107),(.t 108)]),rg 110 (.un .not (.t 109))])
 (.cond (.t 110)
 (.seq
 (.reg [rg 2 (.mov (.c (.i .i64 5)))])
 (.pre (.norm false [2]) .ret))
 .skip))
 (.seq
 (.seq
 (.drawT [rg 111 (.fad 4 (.t 1)),rg 112 (.load none (.t 111)),rg 113 (.len (.t 112)),rg 114 (.bin .gtr (.t 113) (.c (.i .i64 0))),mv 115 114,gd 116 115 true (.fad 4 (.t 1)),gd 117 115 true (.load none (.t 116)),gd 118 115 true (.call 541 [(.t 117)]),gd 119 115 true (.load (some 3) (.t 7))]
 [gd 120 115 true (.call 233 [(.t 118),(.t 119)]),gd 121 115 true (.un .not (.t 120)),rg 122 (.pick (.t 115) (.t 121) (.c (.b false)))])
 (.cond (.t 122)
 (.seq
 (.reg [rg 2 (.mov (.c (.i .i64 6)))])
 (.pre (.norm false [2]) .ret))
 .skip))
 (.seq
 (.reg [rg 2 (.mov (.c (.i .i64 0)))])
 (.pre (.norm false [2]) .ret)))))))))))))
def l540_0:AX:=
 (.note
 (.seq
 (.seq
 (.reg [mv 4 3,mv 5 0,rg 6 (.len (.t 5)),rg 7 (.bin .lss (.t 4) (.t 6))])
 (.cond (.t 7)
 .skip
 (.exit 0)))
 (.seq
 (.block 1
 (.seq
 (.drawT [mv 10 0,mv 11 3,rg 12 (.iad 3 (.t 10) (.t 11)),rg 13 (.load (some 3) (.t 12)),rg 14 (.call 231 [(.t 13)]),mv 15 0,mv 16 3,rg 17 (.iad 3 (.t 15) (.t 16)),rg 18 (.load (some 3) (.t 17)),rg 19 (.call 233 [(.t 14),(.t 18)]),rg 20 (.un .not (.t 19)),mv 21 20,gd 22 21 false (.mov (.t 0)),gd 23 21 false (.mov (.t 3))]
 [gd 24 21 false (.iad 3 (.t 22) (.t 23)),gd 25 21 false (.load (some 3) (.t 24)),gd 26 21 false (.call 245 [(.t 25)]),gd 27 21 false (.bin .gtr (.t 26) (.c (.i .i64 190))),rg 28 (.pick (.t 21) (.c (.b true)) (.t 27))])
 (.cond (.t 28)
 (.seq
 (.reg [rg 2 (.mov (.c (.b true)))])
 (.pre (.norm false [2]) .ret))
 .skip)))
 (.reg [mv 8 3,rg 9 (.bin .add (.t 8) (.c (.i .i64 1))),mv 3 9])))
 (.norm false [0,3]))
def b540:AX:=
 (.seq
 (.reg [rg 2 (.mov (.c (.b false)))])
 (.seq
 (.seq
 (.reg [rg 3 (.mov (.c (.i .i64 0)))])
 (.lp 0 (.norm false [0,3]) l540_0 (.norm false [])))
 (.seq
 (.reg [rg 2 (.mov (.c (.b false)))])
 (.pre (.norm false [2]) .ret))))
def l541_0:AX:=
 (.note
 (.seq
 (.seq
 (.reg [mv 6 4,mv 7 0,rg 8 (.len (.t 7)),rg 9 (.bin .lss (.t 6) (.t 8))])
 (.cond (.t 9)
 .skip
 (.exit 0)))
 (.seq
 (.block 1
 (.drawT [rg 12 (.load (some 3) (.t 3)),mv 13 0,mv 14 4,rg 15 (.iad 3 (.t 13) (.t 14)),rg 16 (.load (some 3) (.t 15))]
 [rg 17 (.call 239 [(.t 12),(.t 16)]),so (.store 3 (.t 3) (.t 17))]))
 (.reg [mv 10 4,rg 11 (.bin .add (.t 10) (.c (.i .i64 1))),mv 4 11])))
 (.norm false [0,2,3,4]))
def b541:AX:=
 (.seq
 (.reg [rg 2 (.alloc [(.b false),(.sl [] .nl),(.sl [] .nl)])])
 (.seq
 (.reg [rg 5 (.call 232 [(.c (.i .i64 0))]),rg 3 (.alloc [(.b false),(.sl [] .nl),(.sl [] .nl)]),so (.store 3 (.t 3) (.t 5))])
 (.seq
 (.seq
 (.reg [rg 4 (.mov (.c (.i .i64 0)))])
 (.lp 0 (.norm false [0,2,3,4]) l541_0 (.norm false [2,3])))
 (.seq
 (.reg [rg 18 (.load (some 3) (.t 3)),so (.store 3 (.t 2) (.t 18))])
 (.pre (.norm false [2]) .ret)))))
def row529:AFx:=⟨1,123,[.t 2],b529,none,false⟩
def row540:AFx:=⟨1,29,[.t 2],b540,none,false⟩
def row541:AFx:=⟨1,19,[.cell 2 (some 3)],b541,none,false⟩
class Zdr (T:Tbl):Prop where
 h529:T 529=some row529
 h540:T 540=some row540
 h541:T 541=some row541
section
variable{T:Tbl}[Zdr T]{d:Option Nat}{st:St}{xs:List AV}{ps:List Opd}{e:Env}{h:Heap}{ol:List Heap}
@[simp] theorem x529:Zc (orc T) T 529 xs d st=cP T 529 false xs d st:=zaa Zdr.h529
@[simp] theorem x540:Zc (orc T) T 540 xs d st=cP T 540 false xs d st:=zaa Zdr.h540
@[simp] theorem y541:opD (orc T) T (.call 541 ps) e h ol=dP T 541 false ps e:=zaj Zdr.h541
end
def l603_0:AX:=
 (.note
 (.seq
 (.reg [rg 10 (.bin .lss (.t 9) (.c (.i .i64 6)))])
 (.seq
 (.cond (.t 10)
 .skip
 (.exit 0))
 (.seq
 (.block 1
 (.seq
 (.reg [rg 11 (.ixa 1 6 none (.t 8) (.t 9)),mv 5 11])
 (.seq
 (.reg [mv 12 5,rg 13 (.call 610 [(.t 12)]),mv 14 0,rg 15 (.bin .eql (.t 13) (.t 14))])
 (.cond (.t 15)
 (.seq
 (.reg [mv 17 5,rg 18 (.call 608 [(.t 17)]),mv 16 18,rg 19 (.ext (.t 16) 0),rg 20 (.ext (.t 16) 1),rg 6 (.alloc [(.s []),(.sl [] .nl),(.sl [] .nl),(.sl [] .nl),(.sl [] .nl)]),rg 7 (.alloc [(.i .i64 0),(.i .i64 0),(.i .i64 0),(.i .i64 0)]),so (.store 5 (.t 6) (.t 19)),so (.store 4 (.t 7) (.t 20))])
 (.seq
 (.reg [rg 21 (.load (some 5) (.t 6)),so (.store 5 (.t 2) (.t 21)),rg 3 (.mov (.c (.b true)))])
 (.pre (.norm false [2,3]) .ret)))
 .skip))))
 (.reg [rg 22 (.bin .add (.t 9) (.c (.i .i64 1))),mv 9 22]))))
 (.norm false [0,2,8,9]))
def b603:AX:=
 (.seq
 (.reg [rg 2 (.alloc [(.s []),(.sl [] .nl),(.sl [] .nl),(.sl [] .nl),(.sl [] .nl)]),rg 3 (.mov (.c (.b false)))])
 (.seq
 (.seq
 (.reg [rg 8 (.call 609 []),rg 9 (.mov (.c (.i .i64 0)))])
 (.lp 0 (.norm false [0,2,8,9]) l603_0 (.norm false [2])))
 (.seq
 (.reg [rg 23 (.build [(.s []),(.sl [] .nl),(.sl [] .nl),(.sl [] .nl),(.sl [] .nl)] []),so (.store 5 (.t 2) (.t 23)),rg 3 (.mov (.c (.b false)))])
 (.pre (.norm false [2,3]) .ret))))
def b609:AX:=
 (.seq
 (.reg [rg 0 (.alloc [(.s []),(.s []),(.s []),(.s []),(.s []),(.s [])])])
 (.seq
 (.reg [rg 1 (.build [(.s []),(.s []),(.s []),(.s []),(.s []),(.s [])] [(0,1,(.c (.s [101,117,108,101,114,10,48,124,10,98,32,49]))),(1,1,(.c (.s [104,101,117,110,10,48,124,10,49,124,49,10,98,32,49,47,50,44,49,47,50,10,101,32,49,44,48]))),(2,1,(.c (.s [109,105,100,112,111,105,110,116,10,48,124,10,49,47,50,124,49,47,50,10,98,32,48,44,49,10,101,32,49,44,48]))),(3,1,(.c (.s [114,107,52,10,48,124,10,49,47,50,124,49,47,50,10,49,47,50,124,48,44,49,47,50,10,49,124,48,44,48,44,49,10,98,32,49,47,54,44,49,47,51,44,49,47,51,44,49,47,54]))),(4,1,(.c (.s [98,115,50,51,10,48,124,10,49,47,50,124,49,47,50,10,51,47,52,124,48,44,51,47,52,10,49,124,50,47,57,44,49,47,51,44,52,47,57,10,98,32,50,47,57,44,49,47,51,44,52,47,57,44,48,10,101,32,55,47,50,52,44,49,47,52,44,49,47,51,44,49,47,56]))),(5,1,(.c (.s [100,112,52,53,10,48,124,10,49,47,53,124,49,47,53,10,51,47,49,48,124,51,47,52,48,44,57,47,52,48,10,52,47,53,124,52,52,47,52,53,44,45,53,54,47,49,53,44,51,50,47,57,10,56,47,57,124,49,57,51,55,50,47,54,53,54,49,44,45,50,53,51,54,48,47,50,49,56,55,44,54,52,52,52,56,47,54,53,54,49,44,45,50,49,50,47,55,50,57,10,49,124,57,48,49,55,47,51,49,54,56,44,45,51,53,53,47,51,51,44,52,54,55,51,50,47,53,50,52,55,44,52,57,47,49,55,54,44,45,53,49,48,51,47,49,56,54,53,54,10,49,124,51,53,47,51,56,52,44,48,44,53,48,48,47,49,49,49,51,44,49,50,53,47,49,57,50,44,45,50,49,56,55,47,54,55,56,52,44,49,49,47,56,52,10,98,32,51,53,47,51,56,52,44,48,44,53,48,48,47,49,49,49,51,44,49,50,53,47,49,57,50,44,45,50,49,56,55,47,54,55,56,52,44,49,49,47,56,52,44,48,10,101,32,53,49,55,57,47,53,55,54,48,48,44,48,44,55,53,55,49,47,49,54,54,57,53,44,51,57,51,47,54,52,48,44,45,57,50,48,57,55,47,51,51,57,50,48,48,44,49,56,55,47,50,49,48,48,44,49,47,52,48])))]),so (.store 6 (.t 0) (.t 1))])
 (.pre (.norm false [0]) .ret)))
def b610:AX:=
 (.seq
 (.reg [rg 2 (.mov (.c (.s [])))])
 (.seq
 (.reg [mv 7 0,rg 8 (.call 184 [(.t 7),(.c (.s [10]))]),mv 6 8,rg 9 (.ext (.t 6) 0),rg 10 (.ext (.t 6) 1),rg 11 (.ext (.t 6) 2),mv 3 9,mv 4 10,mv 5 11])
 (.seq
 (.reg [mv 12 3,mv 2 12])
 (.pre (.norm false [2]) .ret))))
def row603:AFx:=⟨1,24,[.cell 2 (some 5),.t 3],b603,none,false⟩
def row609:AFx:=⟨0,2,[.cell 0 (some 6)],b609,none,false⟩
def row610:AFx:=⟨1,13,[.t 2],b610,none,false⟩
class Zdd (T:Tbl):Prop where
 h603:T 603=some row603
 h609:T 609=some row609
 h610:T 610=some row610
section
variable{T:Tbl}[Zdd T]{d:Option Nat}{st:St}{xs:List AV}{ps:List Opd}{e:Env}{h:Heap}{ol:List Heap}
@[simp] theorem x603:Zc (orc T) T 603 xs d st=cP T 603 false xs d st:=zaa Zdd.h603
@[simp] theorem x609:Zc (orc T) T 609 xs d st=cP T 609 false xs d st:=zaa Zdd.h609
@[simp] theorem x610:Zc (orc T) T 610 xs d st=cP T 610 false xs d st:=zaa Zdd.h610
end
def l589_0:AX:=
 (.note
 (.seq
 (.reg [rg 17 (.bin .lss (.t 16) (.t 15))])
 (.seq
 (.cond (.t 17)
 .skip
 (.exit 0))
 (.seq
 (.block 1
 (.seq
 (.reg [mv 18 16,mv 5 18])
 (.reg [mv 19 4,mv 20 5,rg 21 (.bsl 1 [(.i .i64 0)] 1 [(0,(.t 20))]),rg 22 (.app 1 (.t 19) (.t 21)),mv 4 22])))
 (.reg [rg 23 (.bin .add (.t 16) (.c (.i .i64 1))),mv 16 23]))))
 (.norm false [0,3,4,15,16]))
def l589_1:AX:=
 (.note
 (.seq
 (.seq
 (.reg [mv 31 6,rg 32 (.bin .gtr (.t 31) (.c (.i .i64 0))),mv 33 32,gd 34 33 true (.mov (.t 4)),gd 35 33 true (.mov (.t 6)),gd 36 33 true (.iad 1 (.t 34) (.t 35)),gd 37 33 true (.load none (.t 36)),gd 38 33 true (.bin .lss (.t 37) (.c (.i .i64 2))),rg 39 (.pick (.t 33) (.t 38) (.c (.b false)))])
 (.cond (.t 39)
 .skip
 (.exit 2)))
 (.seq
 (.block 3
 .skip)
 (.reg [mv 40 6,rg 41 (.bin .sub (.t 40) (.c (.i .i64 1))),mv 6 41])))
 (.norm false [0,3,4,6]))
def l589_2:AX:=
 (.note
 (.seq
 (.seq
 (.reg [mv 49 8,mv 50 0,rg 51 (.bin .lss (.t 49) (.t 50))])
 (.cond (.t 51)
 .skip
 (.exit 4)))
 (.seq
 (.block 5
 (.reg [mv 54 4,mv 55 8,mv 56 4,mv 57 8,mv 58 6,rg 59 (.bin .sub (.t 57) (.t 58)),mv 60 7,rg 61 (.bin .add (.t 59) (.t 60)),rg 62 (.iad 1 (.t 56) (.t 61)),rg 63 (.load none (.t 62)),rg 64 (.iad 1 (.t 54) (.t 55)),so (.store 1 (.t 64) (.t 63))]))
 (.reg [mv 52 8,rg 53 (.bin .add (.t 52) (.c (.i .i64 1))),mv 8 53])))
 (.norm false [0,3,4,6,7,8]))
def Zc4:AX:=
 (.pre (.norm false [0,3,4])
 (.seq
 (.reg [mv 24 3,mv 25 4,rg 26 (.app 1 (.c (.sl [] .nl)) (.t 25)),rg 27 (.bsl 1 [(.sl [] .nl)] 1 [(0,(.t 26))]),rg 28 (.app 1 (.t 24) (.t 27)),mv 3 28])
 (.seq
 (.seq
 (.reg [mv 29 0,rg 30 (.bin .sub (.t 29) (.c (.i .i64 1))),mv 6 30])
 (.lp 2 (.norm false [0,3,4,6]) l589_1 (.norm false [0,3,4,6])))
 (.seq
 (.seq
 (.reg [mv 42 6,rg 43 (.bin .lss (.t 42) (.c (.i .i64 1)))])
 (.cond (.t 43)
 (.seq
 (.reg [mv 44 3,mv 2 44])
 (.pre (.norm false [2]) .ret))
 .skip))
 (.seq
 (.reg [mv 45 4,mv 46 6,rg 47 (.call 605 [(.t 45),(.t 46)]),mv 7 47])
 (.seq
 (.seq
 (.reg [mv 48 6,mv 8 48])
 (.lp 4 (.norm false [0,3,4,6,7,8]) l589_2 (.norm false [0,3,4])))
 (.goto 0)))))))
def b589:AX:=
 (.seq
 (.reg [rg 2 (.mov (.c (.sl [] .nl)))])
 (.gsc 0
 (.seq
 (.seq
 (.reg [mv 9 0,rg 10 (.bin .lss (.t 9) (.c (.i .i64 1))),mv 11 10,gd 12 11 false (.mov (.t 0)),gd 13 11 false (.bin .gtr (.t 12) (.c (.i .i64 5))),rg 14 (.pick (.t 11) (.c (.b true)) (.t 13))])
 (.cond (.t 14)
 (.seq
 (.reg [rg 2 (.mov (.c (.sl [] .nl)))])
 (.pre (.norm false [2]) .ret))
 .skip))
 (.seq
 (.note (.reg [rg 3 (.mov (.c (.sl [] .nl)))]) (.nil 3 1))
 (.seq
 (.note (.reg [rg 4 (.mov (.c (.sl [] .nl)))]) (.nil 4 1))
 (.seq
 (.seq
 (.reg [mv 15 0,rg 16 (.mov (.c (.i .i64 0)))])
 (.lp 0 (.norm false [0,3,4,15,16]) l589_0 (.norm false [0,3,4])))
 (.seq
 (.reg [rg 6 (.mov (.c (.i .i64 0))),rg 7 (.mov (.c (.i .i64 0)))])
 (.seq (.label 0) Zc4))))))
 (.seq .skip Zc4)))
def l594_0:AX:=
 (.note
 (.seq
 (.seq
 (.reg [mv 13 3,mv 14 0,rg 15 (.len (.t 14)),rg 16 (.bin .lss (.t 13) (.t 15))])
 (.cond (.t 16)
 .skip
 (.exit 0)))
 (.seq
 (.block 1
 (.seq
 (.drawT [mv 19 0,mv 20 3,rg 21 (.iad 1 (.t 19) (.t 20)),rg 22 (.load none (.t 21)),rg 23 (.bin .lss (.t 22) (.c (.i .i64 1))),mv 24 23,gd 25 24 false (.mov (.t 0)),gd 26 24 false (.mov (.t 3)),gd 27 24 false (.iad 1 (.t 25) (.t 26)),gd 28 24 false (.load none (.t 27)),gd 29 24 false (.bin .sub (.t 28) (.c (.i .i64 1))),gd 30 24 false (.mov (.t 0)),gd 31 24 false (.mov (.t 3)),gd 32 24 false (.bin .sub (.t 31) (.c (.i .i64 1))),gd 33 24 false (.iad 1 (.t 30) (.t 32)),gd 34 24 false (.load none (.t 33))]
 [gd 35 24 false (.bin .gtr (.t 29) (.t 34)),rg 36 (.pick (.t 24) (.c (.b true)) (.t 35))])
 (.cond (.t 36)
 (.seq
 (.reg [rg 2 (.mov (.c (.b false)))])
 (.pre (.norm false [2]) .ret))
 .skip)))
 (.reg [mv 17 3,rg 18 (.bin .add (.t 17) (.c (.i .i64 1))),mv 3 18])))
 (.norm false [0,3]))
def b594:AX:=
 (.seq
 (.reg [rg 2 (.mov (.c (.b false)))])
 (.seq
 (.seq
 (.reg [mv 4 0,rg 5 (.len (.t 4)),rg 6 (.bin .eql (.t 5) (.c (.i .i64 0))),mv 7 6,gd 8 7 false (.mov (.t 0)),gd 9 7 false (.iad 1 (.t 8) (.c (.i .i64 0))),gd 10 7 false (.load none (.t 9)),gd 11 7 false (.bin .neq (.t 10) (.c (.i .i64 0))),rg 12 (.pick (.t 7) (.c (.b true)) (.t 11))])
 (.cond (.t 12)
 (.seq
 (.reg [rg 2 (.mov (.c (.b false)))])
 (.pre (.norm false [2]) .ret))
 .skip))
 (.seq
 (.seq
 (.reg [rg 3 (.mov (.c (.i .i64 1)))])
 (.lp 0 (.norm false [0,3]) l594_0 (.norm false [])))
 (.seq
 (.reg [rg 2 (.mov (.c (.b true)))])
 (.pre (.norm false [2]) .ret)))))
def l595_0:AX:=
 (.note
 (.seq
 (.seq
 (.reg [mv 15 5,rg 16 (.bin .geq (.t 15) (.c (.i .i64 0)))])
 (.cond (.t 16)
 .skip
 (.exit 0)))
 (.seq
 (.block 1
 (.seq
 (.reg [mv 19 3,mv 20 5,rg 21 (.iad 1 (.t 19) (.t 20)),rg 22 (.load none (.t 21)),rg 23 (.bin .add (.t 22) (.c (.i .i64 1))),rg 24 (.iad 1 (.t 19) (.t 20)),so (.store 1 (.t 24) (.t 23))])
 (.seq
 (.reg [mv 25 4,mv 26 3,mv 27 5,rg 28 (.iad 1 (.t 26) (.t 27)),rg 29 (.load none (.t 28)),rg 30 (.bin .mul (.t 25) (.t 29)),mv 4 30])
 (.seq
 (.reg [mv 31 5,rg 32 (.bin .gtr (.t 31) (.c (.i .i64 0)))])
 (.cond (.t 32)
 (.drawT [mv 33 3,mv 34 0,mv 35 5,rg 36 (.call 605 [(.t 34),(.t 35)]),rg 37 (.iad 1 (.t 33) (.t 36)),rg 38 (.load none (.t 37)),mv 39 3,mv 40 5,rg 41 (.iad 1 (.t 39) (.t 40)),rg 42 (.load none (.t 41))]
 [rg 43 (.bin .add (.t 38) (.t 42)),rg 44 (.iad 1 (.t 33) (.t 36)),so (.store 1 (.t 44) (.t 43))])
 .skip)))))
 (.reg [mv 17 5,rg 18 (.bin .sub (.t 17) (.c (.i .i64 1))),mv 5 18])))
 (.norm false [0,3,4,5]))
def b595:AX:=
 (.seq
 (.reg [rg 2 (.mov (.c (.i .i64 0)))])
 (.seq
 (.seq
 (.reg [mv 6 0,rg 7 (.call 607 [(.t 6)]),rg 8 (.un .not (.t 7))])
 (.cond (.t 8)
 (.seq
 (.reg [rg 2 (.mov (.c (.i .i64 0)))])
 (.pre (.norm false [2]) .ret))
 .skip))
 (.seq
 (.reg [mv 9 0,rg 10 (.len (.t 9)),rg 11 (.mks 1 [(.i .i64 0)] (.t 10) (.t 10)),mv 3 11])
 (.seq
 (.reg [rg 4 (.mov (.c (.i .i64 1)))])
 (.seq
 (.seq
 (.reg [mv 12 0,rg 13 (.len (.t 12)),rg 14 (.bin .sub (.t 13) (.c (.i .i64 1))),mv 5 14])
 (.lp 0 (.norm false [0,3,4,5]) l595_0 (.norm false [4])))
 (.seq
 (.reg [mv 45 4,mv 2 45])
 (.pre (.norm false [2]) .ret)))))))
def l605_0:AX:=
 (.note
 (.seq
 (.seq
 (.drawT [mv 8 0,mv 9 5,rg 10 (.iad 1 (.t 8) (.t 9)),rg 11 (.load none (.t 10)),mv 12 0,mv 13 1,rg 14 (.iad 1 (.t 12) (.t 13)),rg 15 (.load none (.t 14)),rg 16 (.bin .sub (.t 15) (.c (.i .i64 1)))]
 [rg 17 (.bin .neq (.t 11) (.t 16))])
 (.cond (.t 17)
 .skip
 (.exit 0)))
 (.block 1
 (.reg [mv 18 5,rg 19 (.bin .sub (.t 18) (.c (.i .i64 1))),mv 5 19])))
 (.norm false [0,1,5]))
def b605:AX:=
 (.seq
 (.reg [rg 4 (.mov (.c (.i .i64 0)))])
 (.seq
 (.reg [mv 6 1,rg 7 (.bin .sub (.t 6) (.c (.i .i64 1))),mv 5 7])
 (.seq
 (.lp 0 (.norm false [0,1,5]) l605_0 (.norm false [5]))
 (.seq
 (.reg [mv 20 5,mv 4 20])
 (.pre (.norm false [4]) .ret)))))
def b607:AX:=
 (.seq
 (.reg [rg 2 (.mov (.c (.b false)))])
 (.seq
 (.reg [mv 3 0,rg 4 (.len (.t 3)),rg 5 (.bin .leq (.t 4) (.c (.i .i64 8))),mv 6 5,gd 7 6 true (.mov (.t 0)),gd 8 6 true (.call 594 [(.t 7)]),rg 9 (.pick (.t 6) (.t 8) (.c (.b false))),mv 2 9])
 (.pre (.norm false [2]) .ret)))
def row589:AFx:=⟨1,65,[.t 2],b589,none,false⟩
def row594:AFx:=⟨1,37,[.t 2],b594,none,false⟩
def row595:AFx:=⟨1,46,[.t 2],b595,none,false⟩
def row605:AFx:=⟨2,21,[.t 4],b605,none,false⟩
def row607:AFx:=⟨1,10,[.t 2],b607,none,false⟩
class Zah (T:Tbl):Prop where
 h589:T 589=some row589
 h594:T 594=some row594
 h595:T 595=some row595
 h605:T 605=some row605
 h607:T 607=some row607
section
variable{T:Tbl}[Zah T]{d:Option Nat}{st:St}{xs:List AV}{ps:List Opd}{e:Env}{h:Heap}{ol:List Heap}
@[simp] theorem x589:Zc (orc T) T 589 xs d st=cP T 589 false xs d st:=zaa Zah.h589
@[simp] theorem x594:Zc (orc T) T 594 xs d st=cP T 594 false xs d st:=zaa Zah.h594
@[simp] theorem x595:Zc (orc T) T 595 xs d st=cP T 595 false xs d st:=zaa Zah.h595
@[simp] theorem y595:opD (orc T) T (.call 595 ps) e h ol=dP T 595 false ps e:=zaj Zah.h595
@[simp] theorem x605:Zc (orc T) T 605 xs d st=cP T 605 false xs d st:=zaa Zah.h605
@[simp] theorem y605:opD (orc T) T (.call 605 ps) e h ol=dP T 605 false ps e:=zaj Zah.h605
@[simp] theorem x607:Zc (orc T) T 607 xs d st=cP T 607 false xs d st:=zaa Zah.h607
end
def b604:AX:=
 (.seq
 (.reg [rg 1 (.xop (.box 5) [(.t 0)]),rg 2 (.mov (.c (.i .i64 0))),rg 3 (.mov (.c (.i .i64 0)))])
 (.seq
 (.drawT [rg 4 (.load (some 5) (.t 1)),rg 5 (.fad 3 (.t 1)),rg 6 (.load none (.t 5)),rg 7 (.call 611 [(.t 4),(.t 6)]),rg 8 (.load (some 5) (.t 1)),rg 9 (.fad 4 (.t 1)),rg 10 (.load none (.t 9))]
 [rg 11 (.call 611 [(.t 8),(.t 10)]),mv 2 7,mv 3 11])
 (.pre (.norm false [2,3]) .ret)))
def l611_0:AX:=
 (.note
 (.seq
 (.seq
 (.reg [mv 6 5,rg 7 (.bin .lss (.t 6) (.c (.i .i64 5))),mv 8 7,gd 9 8 true (.load (some 5) (.t 2)),gd 10 8 true (.mov (.t 1)),gd 11 8 true (.mov (.t 5)),gd 12 8 true (.bin .add (.t 11) (.c (.i .i64 1))),gd 13 8 true (.call 613 [(.t 9),(.t 10),(.t 12)]),rg 14 (.pick (.t 8) (.t 13) (.c (.b false)))])
 (.cond (.t 14)
 .skip
 (.exit 0)))
 (.block 1
 (.reg [mv 15 5,rg 16 (.bin .add (.t 15) (.c (.i .i64 1))),mv 5 16])))
 (.norm false [1,2,5]))
def b611:AX:=
 (.seq
 (.reg [rg 2 (.xop (.box 5) [(.t 0)]),rg 4 (.mov (.c (.i .i64 0)))])
 (.seq
 (.reg [rg 5 (.mov (.c (.i .i64 0)))])
 (.seq
 (.lp 0 (.norm false [1,2,5]) l611_0 (.norm false [5]))
 (.seq
 (.reg [mv 17 5,mv 4 17])
 (.pre (.norm false [4]) .ret)))))
def l613_0:AX:=
 (.note
 (.seq
 (.reg [rg 15 (.bin .lss (.t 14) (.t 13))])
 (.seq
 (.cond (.t 15)
 .skip
 (.exit 0))
 (.seq
 (.block 1
 (.seq
 (.reg [rg 16 (.iad 1 (.t 12) (.t 14)),rg 17 (.load none (.t 16)),mv 8 17])
 (.seq
 (.reg [rg 19 (.load (some 5) (.t 3)),mv 20 1,mv 21 8,rg 22 (.call 617 [(.t 19),(.t 20),(.t 21)]),mv 18 22,rg 23 (.ext (.t 18) 0),rg 24 (.ext (.t 18) 1),rg 9 (.alloc [(.b false),(.sl [] .nl),(.sl [] .nl)]),so (.store 3 (.t 9) (.t 23)),mv 10 24])
 (.seq
 (.drawT [mv 25 10,rg 26 (.un .not (.t 25)),mv 27 26,gd 28 27 false (.load (some 3) (.t 9)),gd 29 27 false (.mov (.t 8)),gd 30 27 false (.call 595 [(.t 29)]),gd 31 27 false (.call 205 [(.t 30)])]
 [gd 32 27 false (.call 217 [(.t 28),(.t 31)]),gd 33 27 false (.call 205 [(.c (.i .i64 1))]),gd 34 27 false (.call 212 [(.t 32),(.t 33)]),gd 35 27 false (.un .not (.t 34)),rg 36 (.pick (.t 27) (.c (.b true)) (.t 35))])
 (.cond (.t 36)
 (.seq
 (.reg [rg 6 (.mov (.c (.b false)))])
 (.pre (.norm false [6]) .ret))
 .skip)))))
 (.reg [rg 37 (.bin .add (.t 14) (.c (.i .i64 1))),mv 14 37]))))
 (.norm false [1,3,12,13,14]))
def b613:AX:=
 (.seq
 (.reg [rg 3 (.xop (.box 5) [(.t 0)]),rg 6 (.mov (.c (.b false)))])
 (.seq
 (.seq
 (.reg [mv 11 2,rg 12 (.call 589 [(.t 11)]),rg 13 (.len (.t 12)),rg 14 (.mov (.c (.i .i64 0)))])
 (.lp 0 (.norm false [1,3,12,13,14]) l613_0 (.norm false [])))
 (.seq
 (.reg [rg 6 (.mov (.c (.b true)))])
 (.pre (.norm false [6]) .ret))))
def l617_0:AX:=
 (.note
 (.seq
 (.reg [rg 47 (.bin .lss (.t 46) (.t 45))])
 (.seq
 (.cond (.t 47)
 .skip
 (.exit 2))
 (.seq
 (.block 3
 (.draw [⟨mv 48 9,0,1⟩,⟨mv 49 10,0,1⟩,⟨mv 50 9,0,0⟩,⟨mv 51 10,0,0⟩,⟨rg 52 (.iad 1 (.t 50) (.t 51)),0,0⟩,⟨rg 53 (.load none (.t 52)),0,0⟩,⟨rg 54 (.call 205 [(.c (.i .i64 1))]),0,0⟩,⟨rg 55 (.bsl 3 [(.b false),(.sl [] .nl),(.sl [] .nl)] 1 [(0,(.t 54))]),0,0⟩,⟨rg 56 (.app 3 (.t 53) (.t 55)),0,1⟩,⟨rg 57 (.iad 1 (.t 48) (.t 49)),1,1⟩,⟨so (.store 1 (.t 57) (.t 56)),1,2⟩]))
 (.reg [rg 58 (.bin .add (.t 46) (.c (.i .i64 1))),mv 46 58]))))
 (.trm [1,2,3,6,8,9,10,39,40,45,46]))
def l617_1:AX:=
 (.note
 (.seq
 (.reg [rg 41 (.bin .lss (.t 40) (.t 39))])
 (.seq
 (.cond (.t 41)
 .skip
 (.exit 0))
 (.seq
 (.block 1
 (.seq
 (.reg [mv 42 40,mv 10 42])
 (.seq
 (.reg [rg 43 (.fad 3 (.t 3)),rg 44 (.load none (.t 43)),rg 45 (.len (.t 44)),rg 46 (.mov (.c (.i .i64 0)))])
 (.pre (.opn 9 10 3) (.lp 2 (.trm [1,2,3,6,8,9,10,39,40,45,46]) l617_0 (.trm [1,2,3,6,8,9,39,40]))))))
 (.reg [rg 59 (.bin .add (.t 40) (.c (.i .i64 1))),mv 40 59]))))
 (.trm [1,2,3,6,8,9,39,40]))
def l617_2:AX:=
 (.note
 (.seq
 (.reg [rg 81 (.bin .lss (.t 80) (.t 79))])
 (.seq
 (.cond (.t 81)
 .skip
 (.exit 6))
 (.seq
 (.block 7
 (.seq
 (.reg [mv 82 80,rg 83 (.iad 3 (.t 78) (.t 80)),rg 84 (.load (some 3) (.t 83)),rg 14 (.alloc [(.b false),(.sl [] .nl),(.sl [] .nl)]),mv 13 82,so (.store 3 (.t 14) (.t 84))])
 (.drawT [mv 85 12,mv 86 13,mv 87 12,mv 88 13,rg 89 (.iad 3 (.t 87) (.t 88)),rg 90 (.load (some 3) (.t 89)),rg 91 (.load (some 3) (.t 14)),rg 92 (.call 217 [(.t 90),(.t 91)])]
 [rg 93 (.iad 3 (.t 85) (.t 86)),so (.store 3 (.t 93) (.t 92))])))
 (.reg [rg 94 (.bin .add (.t 80) (.c (.i .i64 1))),mv 80 94]))))
 (.trm [1,2,3,6,8,9,11,12,78,79,80]))
def l617_3:AX:=
 (.note
 (.seq
 (.seq
 (.reg [mv 63 11,rg 64 (.bin .gtr (.t 63) (.c (.i .i64 0)))])
 (.cond (.t 64)
 .skip
 (.exit 4)))
 (.seq
 (.block 5
 (.seq
 (.reg [mv 67 9,mv 68 2,mv 69 11,rg 70 (.call 605 [(.t 68),(.t 69)]),rg 71 (.iad 1 (.t 67) (.t 70)),rg 72 (.load none (.t 71)),mv 12 72])
 (.seq
 (.pre (.shi 9 11) (.draw [⟨rg 73 (.load (some 5) (.t 3)),0,0⟩,⟨mv 74 9,0,0⟩,⟨mv 75 11,0,0⟩,⟨rg 76 (.iad 1 (.t 74) (.t 75)),0,0⟩,⟨rg 77 (.load none (.t 76)),0,0⟩,⟨rg 78 (.call 622 [(.t 73),(.t 77)]),0,0⟩,⟨rg 79 (.len (.t 78)),0,0⟩,⟨rg 80 (.mov (.c (.i .i64 0))),0,0⟩]))
 (.lp 6 (.trm [1,2,3,6,8,9,11,12,78,79,80]) l617_2 (.trm [1,2,3,6,8,9,11])))))
 (.reg [mv 65 11,rg 66 (.bin .sub (.t 65) (.c (.i .i64 1))),mv 11 66])))
 (.trm [1,2,3,6,8,9,11]))
def l617_4:AX:=
 (.note
 (.seq
 (.reg [rg 98 (.bin .lss (.t 97) (.t 96))])
 (.seq
 (.cond (.t 98)
 .skip
 (.exit 8))
 (.seq
 (.block 9
 (.seq
 (.reg [mv 99 97,rg 100 (.iad 3 (.t 95) (.t 97)),rg 101 (.load (some 3) (.t 100)),rg 16 (.alloc [(.b false),(.sl [] .nl),(.sl [] .nl)]),mv 15 99,so (.store 3 (.t 16) (.t 101))])
 (.drawT [rg 102 (.load (some 3) (.t 8)),rg 103 (.load (some 3) (.t 16)),mv 104 9,rg 105 (.iad 1 (.t 104) (.c (.i .i64 0))),rg 106 (.load none (.t 105)),mv 107 15,rg 108 (.iad 3 (.t 106) (.t 107)),rg 109 (.load (some 3) (.t 108)),rg 110 (.call 217 [(.t 103),(.t 109)])]
 [rg 111 (.call 215 [(.t 102),(.t 110)]),so (.store 3 (.t 8) (.t 111))])))
 (.reg [rg 112 (.bin .add (.t 97) (.c (.i .i64 1))),mv 97 112]))))
 (.trm [6,8,9,95,96,97]))
def b617:AX:=
 (.seq
 (.reg [rg 3 (.xop (.box 5) [(.t 0)]),rg 6 (.alloc [(.b false),(.sl [] .nl),(.sl [] .nl)]),rg 7 (.mov (.c (.b false)))])
 (.seq
 (.reg [rg 17 (.call 205 [(.c (.i .i64 0))]),rg 8 (.alloc [(.b false),(.sl [] .nl),(.sl [] .nl)]),so (.store 3 (.t 8) (.t 17))])
 (.seq
 (.seq
 (.reg [rg 18 (.load (some 5) (.t 3)),rg 19 (.call 536 [(.t 18)]),rg 20 (.un .not (.t 19)),mv 21 20,gd 22 21 false (.mov (.t 1)),gd 23 21 false (.len (.t 22)),gd 24 21 false (.fad 3 (.t 3)),gd 25 21 false (.load none (.t 24)),gd 26 21 false (.len (.t 25)),gd 27 21 false (.bin .neq (.t 23) (.t 26)),rg 28 (.pick (.t 21) (.c (.b true)) (.t 27)),mv 29 28,gd 30 29 false (.mov (.t 2)),gd 31 29 false (.call 607 [(.t 30)]),gd 32 29 false (.un .not (.t 31)),rg 33 (.pick (.t 29) (.c (.b true)) (.t 32))])
 (.cond (.t 33)
 (.seq
 (.reg [rg 34 (.load (some 3) (.t 8)),so (.store 3 (.t 6) (.t 34)),rg 7 (.mov (.c (.b false)))])
 (.pre (.norm false [6,7]) .ret))
 .skip))
 (.seq
 (.reg [mv 35 2,rg 36 (.len (.t 35)),rg 37 (.mks 1 [(.sl [] .nl)] (.t 36) (.t 36)),mv 9 37])
 (.seq
 (.seq
 (.reg [mv 38 9,rg 39 (.len (.t 38)),rg 40 (.mov (.c (.i .i64 0)))])
 (.lp 0 (.trm [1,2,3,6,8,9,39,40]) l617_1 (.trm [1,2,3,6,8,9])))
 (.seq
 (.seq
 (.reg [mv 60 2,rg 61 (.len (.t 60)),rg 62 (.bin .sub (.t 61) (.c (.i .i64 1))),mv 11 62])
 (.lp 4 (.trm [1,2,3,6,8,9,11]) l617_3 (.trm [1,6,8,9])))
 (.seq
 (.seq
 (.reg [mv 95 1,rg 96 (.len (.t 95)),rg 97 (.mov (.c (.i .i64 0)))])
 (.lp 8 (.trm [6,8,9,95,96,97]) l617_4 (.trm [6,8])))
 (.seq
 (.reg [rg 113 (.load (some 3) (.t 8)),so (.store 3 (.t 6) (.t 113)),rg 7 (.mov (.c (.b true)))])
 (.pre (.norm false [6,7]) .ret)))))))))
def l622_0:AX:=
 (.note
 (.seq
 (.reg [rg 22 (.bin .lss (.t 21) (.t 20))])
 (.seq
 (.cond (.t 22)
 .skip
 (.exit 2))
 (.seq
 (.block 3
 (.seq
 (.reg [mv 23 21,rg 24 (.iad 3 (.t 19) (.t 21)),rg 25 (.load (some 3) (.t 24)),rg 10 (.alloc [(.b false),(.sl [] .nl),(.sl [] .nl)]),mv 9 23,so (.store 3 (.t 10) (.t 25))])
 (.drawT [rg 26 (.load (some 3) (.t 8)),rg 27 (.load (some 3) (.t 10)),mv 28 1,mv 29 9,rg 30 (.iad 3 (.t 28) (.t 29)),rg 31 (.load (some 3) (.t 30)),rg 32 (.call 217 [(.t 27),(.t 31)])]
 [rg 33 (.call 215 [(.t 26),(.t 32)]),so (.store 3 (.t 8) (.t 33))])))
 (.reg [rg 34 (.bin .add (.t 21) (.c (.i .i64 1))),mv 21 34]))))
 (.norm false [1,5,8,12,13,14,19,20,21]))
def l622_1:AX:=
 (.note
 (.seq
 (.reg [rg 15 (.bin .lss (.t 14) (.t 13))])
 (.seq
 (.cond (.t 15)
 .skip
 (.exit 0))
 (.seq
 (.block 1
 (.seq
 (.reg [rg 16 (.iad 1 (.t 12) (.t 14)),rg 17 (.load none (.t 16)),mv 7 17])
 (.seq
 (.reg [rg 18 (.call 205 [(.c (.i .i64 0))]),rg 8 (.alloc [(.b false),(.sl [] .nl),(.sl [] .nl)]),so (.store 3 (.t 8) (.t 18))])
 (.seq
 (.seq
 (.reg [mv 19 7,rg 20 (.len (.t 19)),rg 21 (.mov (.c (.i .i64 0)))])
 (.lp 2 (.norm false [1,5,8,12,13,14,19,20,21]) l622_0 (.norm false [1,5,8,12,13,14])))
 (.reg [mv 35 5,rg 36 (.load (some 3) (.t 8)),rg 37 (.bsl 3 [(.b false),(.sl [] .nl),(.sl [] .nl)] 1 [(0,(.t 36))]),rg 38 (.app 3 (.t 35) (.t 37)),mv 5 38])))))
 (.reg [rg 39 (.bin .add (.t 14) (.c (.i .i64 1))),mv 14 39]))))
 (.norm false [1,5,12,13,14]))
def b622:AX:=
 (.seq
 (.reg [rg 2 (.xop (.box 5) [(.t 0)]),rg 4 (.mov (.c (.sl [] .nl)))])
 (.seq
 (.note (.reg [rg 5 (.mov (.c (.sl [] .nl)))]) (.nil 5 3))
 (.seq
 (.seq
 (.reg [rg 11 (.fad 2 (.t 2)),rg 12 (.load none (.t 11)),rg 13 (.len (.t 12)),rg 14 (.mov (.c (.i .i64 0)))])
 (.lp 0 (.norm false [1,5,12,13,14]) l622_1 (.norm false [5])))
 (.seq
 (.reg [mv 40 5,mv 4 40])
 (.pre (.norm false [4]) .ret)))))
def row604:AFx:=⟨1,12,[.t 2,.t 3],b604,none,false⟩
def row611:AFx:=⟨2,18,[.t 4],b611,none,false⟩
def row613:AFx:=⟨3,38,[.t 6],b613,none,false⟩
def row617:AFx:=⟨3,114,[.cell 6 (some 3),.t 7],b617,none,false⟩
def row622:AFx:=⟨2,41,[.t 4],b622,none,false⟩
class Zag (T:Tbl):Prop where
 h604:T 604=some row604
 h611:T 611=some row611
 h613:T 613=some row613
 h617:T 617=some row617
 h622:T 622=some row622
section
variable{T:Tbl}[Zag T]{d:Option Nat}{st:St}{xs:List AV}{ps:List Opd}{e:Env}{h:Heap}{ol:List Heap}
@[simp] theorem x604:Zc (orc T) T 604 xs d st=cP T 604 false xs d st:=zaa Zag.h604
@[simp] theorem x611:Zc (orc T) T 611 xs d st=cP T 611 false xs d st:=zaa Zag.h611
@[simp] theorem y611:opD (orc T) T (.call 611 ps) e h ol=dP T 611 false ps e:=zaj Zag.h611
@[simp] theorem x613:Zc (orc T) T 613 xs d st=cP T 613 false xs d st:=zaa Zag.h613
@[simp] theorem x617:Zc (orc T) T 617 xs d st=cP T 617 false xs d st:=zaa Zag.h617
@[simp] theorem y617:opD (orc T) T (.call 617 ps) e h ol=dP T 617 false ps e:=zaj Zag.h617
end
def b590:AX:=
 (.seq
 (.reg [rg 2 (.mov (.c (.sl [] .nl)))])
 (.seq
 (.reg [rg 4 (.bsl 1 [(.sl [] .nl)] 0 []),rg 5 (.bsl 1 [(.i .i64 0)] 1 [(0,(.c (.i .i64 0)))]),rg 6 (.bsl 1 [(.sl [] .nl)] 1 [(0,(.t 5))]),rg 7 (.bsl 1 [(.i .i64 0)] 2 [(0,(.c (.i .i64 0))),(1,(.c (.i .i64 1)))]),rg 8 (.bsl 1 [(.sl [] .nl)] 1 [(0,(.t 7))]),rg 9 (.bsl 1 [(.i .i64 0)] 3 [(0,(.c (.i .i64 0))),(1,(.c (.i .i64 1))),(2,(.c (.i .i64 2)))]),rg 10 (.bsl 1 [(.i .i64 0)] 3 [(0,(.c (.i .i64 0))),(1,(.c (.i .i64 1))),(2,(.c (.i .i64 1)))]),rg 11 (.bsl 1 [(.sl [] .nl)] 2 [(0,(.t 9)),(1,(.t 10))]),rg 12 (.bsl 1 [(.i .i64 0)] 4 [(0,(.c (.i .i64 0))),(1,(.c (.i .i64 1))),(2,(.c (.i .i64 2))),(3,(.c (.i .i64 3)))]),rg 13 (.bsl 1 [(.i .i64 0)] 4 [(0,(.c (.i .i64 0))),(1,(.c (.i .i64 1))),(2,(.c (.i .i64 2))),(3,(.c (.i .i64 2)))]),rg 14 (.bsl 1 [(.i .i64 0)] 4 [(0,(.c (.i .i64 0))),(1,(.c (.i .i64 1))),(2,(.c (.i .i64 2))),(3,(.c (.i .i64 1)))]),rg 15 (.bsl 1 [(.i .i64 0)] 4 [(0,(.c (.i .i64 0))),(1,(.c (.i .i64 1))),(2,(.c (.i .i64 1))),(3,(.c (.i .i64 1)))]),rg 16 (.bsl 1 [(.sl [] .nl)] 4 [(0,(.t 12)),(1,(.t 13)),(2,(.t 14)),(3,(.t 15))]),rg 17 (.bsl 1 [(.i .i64 0)] 5 [(0,(.c (.i .i64 0))),(1,(.c (.i .i64 1))),(2,(.c (.i .i64 2))),(3,(.c (.i .i64 3))),(4,(.c (.i .i64 4)))]),rg 18 (.bsl 1 [(.i .i64 0)] 5 [(0,(.c (.i .i64 0))),(1,(.c (.i .i64 1))),(2,(.c (.i .i64 2))),(3,(.c (.i .i64 3))),(4,(.c (.i .i64 3)))]),rg 19 (.bsl 1 [(.i .i64 0)] 5 [(0,(.c (.i .i64 0))),(1,(.c (.i .i64 1))),(2,(.c (.i .i64 2))),(3,(.c (.i .i64 3))),(4,(.c (.i .i64 2)))]),rg 20 (.bsl 1 [(.i .i64 0)] 5 [(0,(.c (.i .i64 0))),(1,(.c (.i .i64 1))),(2,(.c (.i .i64 2))),(3,(.c (.i .i64 3))),(4,(.c (.i .i64 1)))]),rg 21 (.bsl 1 [(.i .i64 0)] 5 [(0,(.c (.i .i64 0))),(1,(.c (.i .i64 1))),(2,(.c (.i .i64 2))),(3,(.c (.i .i64 2))),(4,(.c (.i .i64 2)))]),rg 22 (.bsl 1 [(.i .i64 0)] 5 [(0,(.c (.i .i64 0))),(1,(.c (.i .i64 1))),(2,(.c (.i .i64 2))),(3,(.c (.i .i64 2))),(4,(.c (.i .i64 1)))]),rg 23 (.bsl 1 [(.i .i64 0)] 5 [(0,(.c (.i .i64 0))),(1,(.c (.i .i64 1))),(2,(.c (.i .i64 2))),(3,(.c (.i .i64 1))),(4,(.c (.i .i64 2)))]),rg 24 (.bsl 1 [(.i .i64 0)] 5 [(0,(.c (.i .i64 0))),(1,(.c (.i .i64 1))),(2,(.c (.i .i64 2))),(3,(.c (.i .i64 1))),(4,(.c (.i .i64 1)))]),rg 25 (.bsl 1 [(.i .i64 0)] 5 [(0,(.c (.i .i64 0))),(1,(.c (.i .i64 1))),(2,(.c (.i .i64 1))),(3,(.c (.i .i64 1))),(4,(.c (.i .i64 1)))]),rg 26 (.bsl 1 [(.sl [] .nl)] 9 [(0,(.t 17)),(1,(.t 18)),(2,(.t 19)),(3,(.t 20)),(4,(.t 21)),(5,(.t 22)),(6,(.t 23)),(7,(.t 24)),(8,(.t 25))]),rg 27 (.build [(.sl [] .nl),(.sl [] .nl),(.sl [] .nl),(.sl [] .nl),(.sl [] .nl),(.sl [] .nl)] [(0,1,(.t 4)),(1,1,(.t 6)),(2,1,(.t 8)),(3,1,(.t 11)),(4,1,(.t 16)),(5,1,(.t 26))]),rg 3 (.alloc [(.sl [] .nl),(.sl [] .nl),(.sl [] .nl),(.sl [] .nl),(.sl [] .nl),(.sl [] .nl)]),so (.store 6 (.t 3) (.t 27))])
 (.seq
 (.seq
 (.reg [mv 28 0,rg 29 (.bin .lss (.t 28) (.c (.i .i64 1))),mv 30 29,gd 31 30 false (.mov (.t 0)),gd 32 30 false (.bin .gtr (.t 31) (.c (.i .i64 5))),rg 33 (.pick (.t 30) (.c (.b true)) (.t 32))])
 (.cond (.t 33)
 (.seq
 (.reg [rg 34 (.bsl 1 [(.sl [] .nl)] 0 []),mv 2 34])
 (.pre (.norm false [2]) .ret))
 .skip))
 (.seq
 (.reg [mv 35 0,rg 36 (.iaa 1 6 (.t 3) (.t 35)),rg 37 (.load none (.t 36)),mv 2 37])
 (.pre (.norm false [2]) .ret)))))
def l592_0:AX:=
 (.note
 (.seq
 (.seq
 (.reg [mv 4 3,mv 5 0,rg 6 (.len (.t 5)),rg 7 (.bin .lss (.t 4) (.t 6))])
 (.cond (.t 7)
 .skip
 (.exit 0)))
 (.seq
 (.block 1
 (.seq
 (.drawT [mv 10 0,mv 11 3,rg 12 (.iad 1 (.t 10) (.t 11)),rg 13 (.load none (.t 12)),rg 14 (.bin .lss (.t 13) (.c (.i .i64 1))),mv 15 14,gd 16 15 false (.mov (.t 0)),gd 17 15 false (.mov (.t 3)),gd 18 15 false (.iad 1 (.t 16) (.t 17)),gd 19 15 false (.load none (.t 18)),gd 20 15 false (.mov (.t 0)),gd 21 15 false (.mov (.t 3)),gd 22 15 false (.bin .sub (.t 21) (.c (.i .i64 1))),gd 23 15 false (.iad 1 (.t 20) (.t 22)),gd 24 15 false (.load none (.t 23)),gd 25 15 false (.bin .gtr (.t 19) (.t 24)),gd 26 15 false (.mov (.t 25)),gd 27 26 true (.mov (.t 0)),gd 28 26 true (.mov (.t 3)),gd 29 26 true (.iad 1 (.t 27) (.t 28)),gd 30 26 true (.load none (.t 29)),gd 31 26 true (.mov (.t 0)),gd 32 26 true (.mov (.t 3)),gd 33 26 true (.bin .sub (.t 32) (.c (.i .i64 1))),gd 34 26 true (.iad 1 (.t 31) (.t 33)),gd 35 26 true (.load none (.t 34))]
 [gd 36 26 true (.bin .sub (.t 30) (.t 35)),gd 37 26 true (.bin .neq (.t 36) (.c (.i .i64 1))),gd 38 15 false (.pick (.t 26) (.t 37) (.c (.b false))),rg 39 (.pick (.t 15) (.c (.b true)) (.t 38))])
 (.cond (.t 39)
 (.seq
 (.reg [rg 2 (.mov (.c (.b false)))])
 (.pre (.norm false [2]) .ret))
 .skip)))
 (.reg [mv 8 3,rg 9 (.bin .add (.t 8) (.c (.i .i64 1))),mv 3 9])))
 (.norm false [0,3]))
def b592:AX:=
 (.seq
 (.reg [rg 2 (.mov (.c (.b false)))])
 (.seq
 (.seq
 (.reg [rg 3 (.mov (.c (.i .i64 1)))])
 (.lp 0 (.norm false [0,3]) l592_0 (.norm false [0])))
 (.seq
 (.reg [mv 40 0,rg 41 (.len (.t 40)),rg 42 (.bin .gtr (.t 41) (.c (.i .i64 0))),mv 43 42,gd 44 43 true (.mov (.t 0)),gd 45 43 true (.iad 1 (.t 44) (.c (.i .i64 0))),gd 46 43 true (.load none (.t 45)),gd 47 43 true (.bin .eql (.t 46) (.c (.i .i64 0))),rg 48 (.pick (.t 43) (.t 47) (.c (.b false))),mv 2 48])
 (.pre (.norm false [2]) .ret))))
def l593_0:AX:=
 (.note
 (.seq
 (.seq
 (.reg [mv 5 4,mv 6 0,rg 7 (.len (.t 6)),rg 8 (.bin .lss (.t 5) (.t 7))])
 (.cond (.t 8)
 .skip
 (.exit 0)))
 (.seq
 (.block 1
 (.reg [mv 11 3,mv 12 0,mv 13 4,rg 14 (.call 606 [(.t 12),(.t 13)]),mv 15 4,rg 16 (.bin .sub (.t 14) (.t 15)),rg 17 (.bin .mul (.t 11) (.t 16)),mv 3 17]))
 (.reg [mv 9 4,rg 10 (.bin .add (.t 9) (.c (.i .i64 1))),mv 4 10])))
 (.norm false [0,3,4]))
def b593:AX:=
 (.seq
 (.reg [rg 2 (.mov (.c (.i .i64 0)))])
 (.seq
 (.reg [rg 3 (.mov (.c (.i .i64 1)))])
 (.seq
 (.seq
 (.reg [rg 4 (.mov (.c (.i .i64 0)))])
 (.lp 0 (.norm false [0,3,4]) l593_0 (.norm false [3])))
 (.seq
 (.reg [mv 18 3,mv 2 18])
 (.pre (.norm false [2]) .ret)))))
def l606_0:AX:=
 (.note
 (.seq
 (.seq
 (.drawT [mv 8 5,mv 9 0,rg 10 (.len (.t 9)),rg 11 (.bin .lss (.t 8) (.t 10)),mv 12 11,gd 13 12 true (.mov (.t 0)),gd 14 12 true (.mov (.t 5)),gd 15 12 true (.iad 1 (.t 13) (.t 14)),gd 16 12 true (.load none (.t 15)),gd 17 12 true (.mov (.t 0)),gd 18 12 true (.mov (.t 1)),gd 19 12 true (.iad 1 (.t 17) (.t 18)),gd 20 12 true (.load none (.t 19))]
 [gd 21 12 true (.bin .gtr (.t 16) (.t 20)),rg 22 (.pick (.t 12) (.t 21) (.c (.b false)))])
 (.cond (.t 22)
 .skip
 (.exit 0)))
 (.block 1
 (.reg [mv 23 5,rg 24 (.bin .add (.t 23) (.c (.i .i64 1))),mv 5 24])))
 (.norm false [0,1,5]))
def b606:AX:=
 (.seq
 (.reg [rg 4 (.mov (.c (.i .i64 0)))])
 (.seq
 (.reg [mv 6 1,rg 7 (.bin .add (.t 6) (.c (.i .i64 1))),mv 5 7])
 (.seq
 (.lp 0 (.norm false [0,1,5]) l606_0 (.norm false [5]))
 (.seq
 (.reg [mv 25 5,mv 4 25])
 (.pre (.norm false [4]) .ret)))))
def row590:AFx:=⟨1,38,[.t 2],b590,none,false⟩
def row592:AFx:=⟨1,49,[.t 2],b592,none,false⟩
def row593:AFx:=⟨1,19,[.t 2],b593,none,false⟩
def row606:AFx:=⟨2,26,[.t 4],b606,none,false⟩
class Zb3 (T:Tbl):Prop where
 h590:T 590=some row590
 h592:T 592=some row592
 h593:T 593=some row593
 h606:T 606=some row606
section
variable{T:Tbl}[Zb3 T]{d:Option Nat}{st:St}{xs:List AV}{ps:List Opd}{e:Env}{h:Heap}{ol:List Heap}
@[simp] theorem x590:Zc (orc T) T 590 xs d st=cP T 590 false xs d st:=zaa Zb3.h590
@[simp] theorem x592:Zc (orc T) T 592 xs d st=cP T 592 false xs d st:=zaa Zb3.h592
@[simp] theorem y593:opD (orc T) T (.call 593 ps) e h ol=dP T 593 false ps e:=zaj Zb3.h593
@[simp] theorem x606:Zc (orc T) T 606 xs d st=cP T 606 false xs d st:=zaa Zb3.h606
end
def l641_0:AX:=
 (.note
 (.seq
 (.seq
 (.reg [mv 10 8,mv 11 1,rg 12 (.len (.t 11)),rg 13 (.bin .lss (.t 10) (.t 12))])
 (.cond (.t 13)
 .skip
 (.exit 0)))
 (.seq
 (.block 1
 (.seq
 (.reg [mv 16 1,mv 17 8,rg 18 (.iad 3 (.t 16) (.t 17)),rg 19 (.load (some 3) (.t 18)),rg 20 (.call 235 [(.t 19)]),rg 21 (.un .not (.t 20))])
 (.cond (.t 21)
 (.drawT [rg 22 (.load (some 3) (.t 7)),mv 23 1,mv 24 8,rg 25 (.iad 3 (.t 23) (.t 24)),rg 26 (.load (some 3) (.t 25)),rg 27 (.load (some 5) (.t 3)),mv 28 2,mv 29 8,rg 30 (.call 643 [(.t 27),(.t 28),(.c (.i .i64 0)),(.t 29)]),rg 31 (.call 241 [(.t 26),(.t 30)])]
 [rg 32 (.call 239 [(.t 22),(.t 31)]),so (.store 3 (.t 7) (.t 32))])
 .skip)))
 (.reg [mv 14 8,rg 15 (.bin .add (.t 14) (.c (.i .i64 1))),mv 8 15])))
 (.norm false [1,2,3,6,7,8]))
def b641:AX:=
 (.seq
 (.reg [rg 3 (.xop (.box 5) [(.t 0)]),rg 6 (.alloc [(.b false),(.sl [] .nl),(.sl [] .nl)])])
 (.seq
 (.reg [rg 9 (.call 232 [(.c (.i .i64 0))]),rg 7 (.alloc [(.b false),(.sl [] .nl),(.sl [] .nl)]),so (.store 3 (.t 7) (.t 9))])
 (.seq
 (.seq
 (.reg [rg 8 (.mov (.c (.i .i64 0)))])
 (.lp 0 (.norm false [1,2,3,6,7,8]) l641_0 (.norm false [6,7])))
 (.seq
 (.reg [rg 33 (.load (some 3) (.t 7)),so (.store 3 (.t 6) (.t 33))])
 (.pre (.norm false [6]) .ret)))))
def l642_0:AX:=
 (.note
 (.seq
 (.seq
 (.reg [mv 15 7,mv 16 6,rg 17 (.len (.t 16)),rg 18 (.bin .lss (.t 15) (.t 17))])
 (.cond (.t 18)
 .skip
 (.exit 2)))
 (.seq
 (.block 3
 (.seq
 (.draw [⟨rg 21 (.load (some 5) (.t 2)),0,1⟩,⟨mv 22 1,0,1⟩,⟨mv 23 6,0,1⟩,⟨mv 24 7,0,1⟩,⟨rg 25 (.iad 1 (.t 23) (.t 24)),0,1⟩,⟨rg 26 (.load none (.t 25)),0,1⟩,⟨rg 27 (.call 641 [(.t 21),(.t 22),(.t 26)]),0,1⟩,⟨mv 28 6,0,1⟩,⟨mv 29 7,0,1⟩,⟨rg 30 (.iad 1 (.t 28) (.t 29)),0,1⟩,⟨rg 31 (.load none (.t 30)),0,1⟩,⟨rg 32 (.call 593 [(.t 31)]),0,1⟩,⟨rg 33 (.call 232 [(.t 32)]),0,1⟩,⟨rg 34 (.call 241 [(.t 27),(.t 33)]),0,1⟩,⟨rg 8 (.alloc [(.b false),(.sl [] .nl),(.sl [] .nl)]),0,1⟩,⟨so (.store 3 (.t 8) (.t 34)),1,2⟩])
 (.seq
 (.drawT [rg 35 (.load (some 3) (.t 8)),rg 36 (.call 232 [(.c (.i .i64 1))])]
 [rg 37 (.call 233 [(.t 35),(.t 36)]),rg 38 (.un .not (.t 37))])
 (.cond (.t 38)
 (.seq
 (.reg [mv 39 5,rg 40 (.bin .sub (.t 39) (.c (.i .i64 1))),mv 4 40])
 (.pre (.norm false [4]) .ret))
 .skip))))
 (.reg [mv 19 7,rg 20 (.bin .add (.t 19) (.c (.i .i64 1))),mv 7 20])))
 (.norm false [1,2,5,6,7]))
def l642_1:AX:=
 (.note
 (.seq
 (.seq
 (.reg [mv 9 5,rg 10 (.bin .leq (.t 9) (.c (.i .i64 5)))])
 (.cond (.t 10)
 .skip
 (.exit 0)))
 (.seq
 (.block 1
 (.seq
 (.reg [mv 13 5,rg 14 (.call 590 [(.t 13)]),mv 6 14])
 (.seq
 (.reg [rg 7 (.mov (.c (.i .i64 0)))])
 (.lp 2 (.norm false [1,2,5,6,7]) l642_0 (.norm false [1,2,5])))))
 (.reg [mv 11 5,rg 12 (.bin .add (.t 11) (.c (.i .i64 1))),mv 5 12])))
 (.norm false [1,2,5]))
def b642:AX:=
 (.seq
 (.reg [rg 2 (.xop (.box 5) [(.t 0)]),rg 4 (.mov (.c (.i .i64 0)))])
 (.seq
 (.seq
 (.reg [rg 5 (.mov (.c (.i .i64 1)))])
 (.lp 0 (.norm false [1,2,5]) l642_1 (.norm false [])))
 (.seq
 (.reg [rg 4 (.mov (.c (.i .i64 5)))])
 (.pre (.norm false [4]) .ret))))
def l643_0:AX:=
 (.note
 (.seq
 (.seq
 (.reg [mv 25 12,mv 26 3,rg 27 (.bin .lss (.t 25) (.t 26))])
 (.cond (.t 27)
 .skip
 (.exit 2)))
 (.seq
 (.block 3
 (.seq
 (.reg [rg 30 (.fad 2 (.t 4)),rg 31 (.load none (.t 30)),mv 32 3,rg 33 (.iad 1 (.t 31) (.t 32)),rg 34 (.load none (.t 33)),mv 35 12,rg 36 (.iad 3 (.t 34) (.t 35)),rg 37 (.load (some 3) (.t 36)),rg 38 (.call 235 [(.t 37)]),rg 39 (.un .not (.t 38))])
 (.cond (.t 39)
 (.drawT [rg 40 (.load (some 3) (.t 11)),rg 41 (.fad 2 (.t 4)),rg 42 (.load none (.t 41)),mv 43 3,rg 44 (.iad 1 (.t 42) (.t 43)),rg 45 (.load none (.t 44)),mv 46 12,rg 47 (.iad 3 (.t 45) (.t 46)),rg 48 (.load (some 3) (.t 47)),rg 49 (.load (some 5) (.t 4)),mv 50 1,mv 51 10,mv 52 12,rg 53 (.call 643 [(.t 49),(.t 50),(.t 51),(.t 52)]),rg 54 (.call 241 [(.t 48),(.t 53)])]
 [rg 55 (.call 239 [(.t 40),(.t 54)]),so (.store 3 (.t 11) (.t 55))])
 .skip)))
 (.reg [mv 28 12,rg 29 (.bin .add (.t 28) (.c (.i .i64 1))),mv 12 29])))
 (.norm false [1,2,3,4,8,9,10,11,12]))
def l643_1:AX:=
 (.note
 (.seq
 (.seq
 (.reg [mv 16 10,mv 17 1,mv 18 2,rg 19 (.call 606 [(.t 17),(.t 18)]),rg 20 (.bin .lss (.t 16) (.t 19))])
 (.cond (.t 20)
 .skip
 (.exit 0)))
 (.seq
 (.block 1
 (.seq
 (.reg [rg 24 (.call 232 [(.c (.i .i64 0))]),rg 11 (.alloc [(.b false),(.sl [] .nl),(.sl [] .nl)]),so (.store 3 (.t 11) (.t 24))])
 (.seq
 (.seq
 (.reg [rg 12 (.mov (.c (.i .i64 0)))])
 (.lp 2 (.norm false [1,2,3,4,8,9,10,11,12]) l643_0 (.norm false [1,2,3,4,8,9,10,11])))
 (.reg [rg 56 (.load (some 3) (.t 9)),rg 57 (.load (some 3) (.t 11)),rg 58 (.call 241 [(.t 56),(.t 57)]),so (.store 3 (.t 9) (.t 58))]))))
 (.reg [mv 21 1,mv 22 10,rg 23 (.call 606 [(.t 21),(.t 22)]),mv 10 23])))
 (.norm false [1,2,3,4,8,9,10]))
def b643:AX:=
 (.seq
 (.reg [rg 4 (.xop (.box 5) [(.t 0)]),rg 8 (.alloc [(.b false),(.sl [] .nl),(.sl [] .nl)])])
 (.seq
 (.reg [rg 13 (.call 232 [(.c (.i .i64 1))]),rg 9 (.alloc [(.b false),(.sl [] .nl),(.sl [] .nl)]),so (.store 3 (.t 9) (.t 13))])
 (.seq
 (.seq
 (.reg [mv 14 2,rg 15 (.bin .add (.t 14) (.c (.i .i64 1))),mv 10 15])
 (.lp 0 (.norm false [1,2,3,4,8,9,10]) l643_1 (.norm false [8,9])))
 (.seq
 (.reg [rg 59 (.load (some 3) (.t 9)),so (.store 3 (.t 8) (.t 59))])
 (.pre (.norm false [8]) .ret)))))
def row641:AFx:=⟨3,34,[.cell 6 (some 3)],b641,none,false⟩
def row642:AFx:=⟨2,41,[.t 4],b642,none,false⟩
def row643:AFx:=⟨4,60,[.cell 8 (some 3)],b643,none,false⟩
class Zci (T:Tbl):Prop where
 h641:T 641=some row641
 h642:T 642=some row642
 h643:T 643=some row643
section
variable{T:Tbl}[Zci T]{d:Option Nat}{st:St}{xs:List AV}{ps:List Opd}{e:Env}{h:Heap}{ol:List Heap}
@[simp] theorem x641:Zc (orc T) T 641 xs d st=cP T 641 false xs d st:=zaa Zci.h641
@[simp] theorem y641:opD (orc T) T (.call 641 ps) e h ol=dP T 641 false ps e:=zaj Zci.h641
@[simp] theorem x642:Zc (orc T) T 642 xs d st=cP T 642 false xs d st:=zaa Zci.h642
@[simp] theorem y643:opD (orc T) T (.call 643 ps) e h ol=dP T 643 false ps e:=zaj Zci.h643
end
end Go.Ab