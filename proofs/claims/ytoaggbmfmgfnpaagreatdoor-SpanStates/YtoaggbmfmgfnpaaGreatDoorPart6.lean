/-
  A calculus of values, boxes and code, and what functions of the program compute, proved in it.
  Conditions: none beyond those that the theorems state. (Part 6: AxTop5, GpLex, NmHist, GpFrac3, GpTape, GpTape2, GpGauge, GpRun, GpRun2, GpRun3, NmSch, AxTop10, QhBase, GpPow9, GcTree2, GcTree, GcLenD, NmTree, GpTree, NmField, NmDiff, GpTree2, NmCheck, GcEval2, NmEval, GpWalkA, GpCodeA, GpEvalA, GpWcA, GpEvalF, NmEvF, GcLaw11b, GcRow2, GcFig, NmFig, GcStr, GcSplit, GpSplit, GpFig, GpFig2, GpLaw11b, GpLaw24, GpRef21, GpRef26, GpRef24, GpScheme, GpRef16, GpRef16b, GpRef30, GpRef30b, GpStep, GpRef33, GpPast, GpPast2, GpSpan2, GpSpan3, GpLong33, GpRef37.)
-/
import Derived.Test.YtoaggbmfmgfnpaaGreatDoorPart5
import Derived.Test.YtoaggbmfmgfnpaaGreatDoorRows
import Derived.Test.YtoaggbmfmgfnpaaGreatDoorCards
import Derived.Test.YtoaggbmfmgfnpaaGreatDoorTie
import Derived.ProofKit
import Derived.LaidMore
import Derived.OpenShut
import Derived.Stop.Joined
import Derived.SevenTiedAt
import Derived.Lib.LaidU8
import Derived.Lib.IndexAny
import Derived.Lib.Bytealg

set_option linter.unusedSectionVars false
set_option linter.unusedVariables false
set_option linter.unusedSimpArgs false
set_option linter.unnecessarySimpa false

section
namespace Go.Ab
abbrev tyI:Ty:=.cons (.int .i64) (.cons (.int .i64) (.cons (.int .i64) (.cons tyF .nil)))
abbrev tyT:Ty:=.cons (.sl tyI) (.cons (.sl (.int .i64)) (.cons (.int .i64) (.cons (.int .i64) .nil)))
abbrev tyP:Ty:=.cons tyF (.cons (.sl tyF) (.cons (.sl tyF) .nil))
theorem zab7{cs:List AV}(h:Ok tyI cs):∃x:Ins,wkR cs=Zfa x:=by
 obtain⟨c1,c1',rfl,⟨a,rfl,_⟩,c2,c2',rfl,⟨b,rfl,_⟩,c3,c3',rfl,⟨c,rfl,_⟩,c4,c4',rfl,h4,rfl⟩:=h;obtain⟨x,e⟩:=zhz h4;refine⟨⟨a,b,c,x⟩,?_⟩;simp only[zdz,e]
 rfl
theorem zsf:∀(els:List (List AV)),(∀r∈els,Ok tyI r)→∃l:List Ins,wkL els=Zc9 l
 | [],_=>⟨[],rfl⟩
 | r::els,h=>by
  obtain⟨l,hl⟩:=zsf els fun r hr=>h r (Yq _ hr);obtain⟨x,hx⟩:=zab7 (h r Y8);refine⟨x::l,?_⟩;simp only[wkL,hx,hl]
  rfl
theorem zsg:∀(els:List (List AV)),(∀r∈els,Ok (.int .i64) r)→∃l:List Int,wkL els=ints l
 | [],_=>⟨[],rfl⟩
 | r::els,h=>by
  obtain⟨l,hl⟩:=zsg els fun r hr=>h r (Yq _ hr);obtain⟨x,rfl,_⟩:=h r Y8;refine⟨x::l,?_⟩;simp only[wkL,hl]
  rfl
theorem zab8{a:Int}(h:(Lit.int .i64 a).wf=true):-9223372036854775808≤a∧a<9223372036854775808:=by
 simp[Lit.wf,IntKind.min,IntKind.max,IntKind.signed,IntKind.bits]at h;omega
end Go.Ab
end
section
namespace Go.Ab
section
variable{T:Tbl}[Zaz T][Zc1 T]
theorem zoj(c:UInt8):Za T 185 [u8 c.toNat]=some (.b (isD c)):=by
 rw[zaa Zc1.h185 rfl,b185];by_cases h1:48≤c.toNat
 ·simp -implicitDefEqProofs[isD,h1]
 ·simp -implicitDefEqProofs[isD,h1]
theorem zlb(c:UInt8):Za T 186 [u8 c.toNat]=some (.b (isL c)):=by
 rw[zaa Zc1.h186 rfl,b186];by_cases h1:97≤c.toNat<;>by_cases h2:c.toNat≤122<;>by_cases h3:65≤c.toNat<;>by_cases h4:c.toNat≤90<;>by_cases h5:c.toNat=95 <;>
  simp -implicitDefEqProofs[isL,h1,h2,h3,h4,h5]
theorem z2w(c:UInt8):Za T 187 [u8 c.toNat]=some (.b (isS c)):=by rw[p187,zv5]
theorem z2x(c:UInt8):Za T 177 [u8 c.toNat]=some (.i .i64 (Zi c)):=by
 have h1:=zoj (T:=T) c;have h2:=zlb (T:=T) c;have h3:=z2w (T:=T) c;rw[zaa Zc1.h177 rfl,b177];cases e1:isD c<;>cases e2:isL c<;>cases e3:isS c<;>simp -implicitDefEqProofs[Zi,h1,h2,h3,e1,e2,e3]
theorem z2y(k:Nat)(c:UInt8):Za T 188 [.i .i64 k,u8 c.toNat]=some (.b (Zbd k c)):=by
 have h1:=zoj (T:=T) c;have h2:=zlb (T:=T) c;rw[zaa Zc1.h188 rfl,b188];by_cases k1:k=1
 ·subst k1;cases e1:isD c<;>cases e2:isL c<;>simp -implicitDefEqProofs[Zbd,h1,e1,e2]
 ·have k1':¬ (k:Int)=1:=by omega
  by_cases k2:k=2
  ·subst k2;cases e1:isD c<;>cases e2:isL c<;>simp -implicitDefEqProofs[Zbd,h1,h2,e1,e2]
  ·have k2':¬ (k:Int)=2:=by omega
   simp -implicitDefEqProofs[Zbd,k1,k2,k1',k2']
theorem z2z(k:Nat):Za T 179 [.i .i64 k]=some (.i .i64 (Zau k)):=by
 rw[zaa Zc1.h179 rfl,b179];by_cases k1:k=1
 ·subst k1;simp -implicitDefEqProofs[Zau]
 ·have k1':¬ (k:Int)=1:=by omega
  by_cases k2:k=2
  ·subst k2;simp -implicitDefEqProofs[Zau]
  ·have k2':¬ (k:Int)=2:=by omega
   simp -implicitDefEqProofs[Zau,k1,k2,k1',k2']
theorem zug(s:List UInt8)(hs:s.length≤1000000)(k F:Nat):∀n:Nat,(n≤s.length∧n+((s.drop n).takeWhile (Zbd k)).length=F) →
  Ze T 0 0 (.norm false [5]) l178_0 ⟨[(0,.s s),(1,.i .i64 k),(5,.i .i64 n)],[],2⟩=some (.n,⟨[(5,.i .i64 F)],[],2⟩):=by
 refine zav (fun n:Nat=>⟨[(0,.s s),(1,.i .i64 k),(5,.i .i64 n)],[],2⟩) _ (fun n=>s.length-n) _ ?_
 rintro n ⟨hn,hF⟩
 by_cases h0:n<s.length
 ·have hd:=Ye h0;have hgo:=z2y (T:=T) k (s[n]'h0);have hw:IntKind.wrap .i64 ((n:Int)+1)=((n+1:Nat):Int):=zac _ (by omega);by_cases hc:Zbd k (s[n]'h0)=true
  ·left;rw[hd,Yb3 hc]at hF;refine⟨n+1,⟨h0,by grind⟩,by omega,?_,rfl⟩;simp -implicitDefEqProofs[l178_0,h0,hgo,hc,hw]
  ·right;rw[hd,Ycw hc]at hF;subst hF;constructor<;>simp -implicitDefEqProofs[l178_0,h0,hgo,hc]
 ·right;have:n=s.length:=by omega
  subst this;rw[Yp]at hF;subst hF;constructor<;>simp -implicitDefEqProofs[l178_0]
theorem zym(c:UInt8)(r:List UInt8)(hs:r.length≤100000)(k:Nat):Za T 178 [.s (c::r),.i .i64 k]=some (.i .i64 (Z8 k r)):=by
 have h:=zug (T:=T) (c::r) (by grind) k (Z8 k r) 1 ⟨by simp,rfl⟩;rw[zaa Zc1.h178 rfl,b178]
 simp_all
theorem zjg(c:UInt8)(n:Nat)(hn:n<256):c=UInt8.ofNat n↔c.toNat=n:=by
 constructor
 ·simp_all
 ·intro h;subst h;simp
theorem z64(c:UInt8):isB c=(decide (c.toNat=32) || decide (c.toNat=9) || decide (c.toNat=10) || decide (c.toNat=13)):=by
 have e (n:Nat) (hn:n<256):decide (c=UInt8.ofNat n)=decide (c.toNat=n):=decide_eq_decide.2 (zjg c n hn);unfold isB;rw[show (32:UInt8)=UInt8.ofNat 32 from rfl,show (9:UInt8)=UInt8.ofNat 9 from rfl,show (10:UInt8)=UInt8.ofNat 10 from rfl,show (13:UInt8)=UInt8.ofNat 13 from rfl,e 32 (by decide),e 9 (by decide),e 10 (by decide),e 13 (by decide)]
def wdR(w:Wd):List AV:=[.i .i64 w.1,.s w.2.1,.i .i64 w.2.2]
def Z9(l:List Wd):List (List AV):=l.map wdR
@[simp] theorem ze1(l:List Wd):(Z9 l).length=l.length:=by simp[Z9]
@[simp] theorem zem(l:List Wd):wkL (Z9 l)=Z9 l:=by
 induction l with
 | nil=>rfl
 | cons x l ih=>simpa[Z9,wdR,wkL,wkR]using ih
@[simp] theorem zgr(l:List Wd):((Z9 l).flatMap fun r=>r.flatMap rfA)=[]:=by
 induction l with
 | nil=>rfl
 | cons x l ih=>
  have e:Z9 (x::l)=wdR x::Z9 l:=rfl;rw[e,Yd4,ih];simp[wdR,rfA]
theorem zlc(l:List Wd)(k a:Nat)(t:List UInt8):wkL (List.take l.length (Z9 l)++[[AV.i .i64 k,.s t,.i .i64 a]])=Z9 (l++[(k,t,a)]):=by
 rw[Yb (by simp),show Z9 l++[[AV.i .i64 k,.s t,.i .i64 a]]=Z9 (l++[(k,t,a)]) by simp[Z9,wdR],zem]
def Zqg(s:List UInt8)(i:Nat)(acc:List Wd):St:=
 ⟨[(0,.s s),(3,.ptr (.loc 3) 1 4 0 0),(4,.bs (.loc 4) 2 3 0 acc.length),(5,.i .i64 i)],[(.loc 3,⟨1,.str,4,[[.i .i64 0,.i .i64 0,.i .i64 0,.i .i64 0]]⟩),(.loc 4,⟨2,.own,3,Z9 acc⟩)],4⟩
def Zqh:Except Nat (List Wd)→Option (Ex×St)
 | .ok ws=>some (.n,⟨[(3,.ptr (.loc 3) 1 4 0 0),(4,.bs (.loc 4) 2 3 0 ws.length)],[(.loc 3,⟨1,.str,4,[[.i .i64 0,.i .i64 0,.i .i64 0,.i .i64 0]]⟩),(.loc 4,⟨2,.own,3,Z9 ws⟩)],4⟩)
 | .error e=>some (.r,⟨[(2,.sl [] .an),(3,.ptr (.loc 3) 1 4 0 0)],[(.loc 3,⟨1,.str,4,[[.i .i64 1,.i .i64 0,.i .i64 0,.i .i64 e]]⟩)],3⟩)
def Zpb(r:Except Nat (List Wd)):AV:=
 match r with
 | .ok ws=>.tup [.sl (Z9 ws) .an,.agg [.i .i64 0,.i .i64 0,.i .i64 0,.i .i64 0]]
 | .error e=>.tup [.sl [] .an,.agg [.i .i64 1,.i .i64 0,.i .i64 0,.i .i64 e]]
def Zj6(s:List UInt8):Except Nat (List Wd):=if 4000<s.length then .error 4000 else Zdy (s.drop (Zbi false s)) (Zbi false s) []
def Zbl(k:Int)(t:List UInt8):Bool:=
 match t with
 | []=>false
 | c::r=>decide (k≠0)&&decide ((Zi c:Int)=k)&&decide (Z8 (Zi c) r=r.length+1)&&decide (r.length+1≤Zau (Zi c))
theorem zyn(k a:Int)(t:List UInt8)(ht:t.length≤100000):Za T 172 [.agg [.i .i64 k,.s t,.i .i64 a]]=some (.b (Zbl k t)):=by
 rw[zaa Zc1.h172 rfl,b172];cases t with
 | nil=>simp -implicitDefEqProofs[Zbl]
 | cons c r=>
  simp only[Yn]at ht;have hk:=z2x (T:=T) c;have hf:=zym (T:=T) c r (by omega) (Zi c);have hm:=z2z (T:=T) (Zi c);by_cases h0:k=0
  ·simp -implicitDefEqProofs[Zbl,h0]
  ·by_cases h1:(Zi c:Int)=k
   ·subst h1;have h0':¬ Zi c=0:=by omega
    by_cases h2:Z8 (Zi c) r=r.length+1
    ·by_cases h3:r.length+1≤Zau (Zi c)
     ·have h3':(r.length:Int)+1≤(Zau (Zi c):Nat):=by omega
      simp -implicitDefEqProofs[Zbl,h0',hk,hf,hm,h2,h3,h3']
     ·have h3':¬ (r.length:Int)+1≤(Zau (Zi c):Nat):=by omega
      simp -implicitDefEqProofs[Zbl,h0',hk,hf,hm,h2,h3,h3']
    ·have h2':¬ ((Z8 (Zi c) r:Nat):Int)=(r.length:Int)+1:=by omega
     simp -implicitDefEqProofs[Zbl,h0',hk,hf,h2,h2']
   ·simp -implicitDefEqProofs[Zbl,h0,hk,h1]
abbrev Wz:=Int×List UInt8×Int
def wzR(w:Wz):List AV:=[.i .i64 w.1,.s w.2.1,.i .i64 w.2.2]
def Zor(l:List Wz):List (List AV):=l.map wzR
def Zq5(l:List Wz)(i:Nat)(b:BId):St:=
 ⟨[(3,.bs (.loc 3) 1 1 0 i),(6,.sl (Zor l) .an),(7,.i .i64 l.length),(8,.i .i64 i)],[(.loc 3,⟨1,.own,1,Zb7 ((l.take i).map (·.2.1))⟩)],3⟩
end
end Go.Ab
end
section
namespace Go.Ab
structure Tr where
 t:Fz
 w:Fz
 h:Fz
 e:Fz
 y:List Fz
 ok:Bool
abbrev Ziw(r:Tr):List AV:=[.b r.t.1,.sl (Zb r.t.2.1) .an,.sl (Zb r.t.2.2) .an,.b r.w.1,.sl (Zb r.w.2.1) .an,.sl (Zb r.w.2.2) .an,.b r.h.1,.sl (Zb r.h.2.1) .an,.sl (Zb r.h.2.2) .an,.b r.e.1,.sl (Zb r.e.2.1) .an,.sl (Zb r.e.2.2) .an,.sl (Zc r.y) .an,.b r.ok]
def Zax(l:List Tr):List (List AV):=l.map Ziw
@[simp] theorem z5r(l:List Tr):(Zax l).length=l.length:=by simp[Zax]
@[simp] theorem zta(l:List Tr):wkL (Zax l)=Zax l:=by rw[zb9];simp[Zax,wkR,wkA]
@[simp] theorem zac4(l:List Tr)(i:Nat)(h:i<(Zax l).length):(Zax l)[i]=Ziw (l[i]'(by simpa using h)):=by simp[Zax]
theorem zlv(l:List Tr)(x:Tr):Zax l++[Ziw x]=Zax (l++[x]):=by simp[Zax]
@[simp] theorem z96(l:List Tr)(n:Nat):(Zax l).take n=Zax (l.take n):=by simp[Zax]
@[simp] theorem zpt:Zax []=[]:=rfl
theorem zv3{m:List Tr}{n:Nat}(h:m.length=n)(x:Tr):wkL (Zax (List.take n m)++[Ziw x])=Zax (m++[x]):=by
 rw[Yb (by omega),zlv,zta]
structure Hs where
 l:List Tr
 t:Fz
 y:List Fz
abbrev ehs(h:Hs):AV:=.agg [.sl (Zax h.l) .an,.b h.t.1,.sl (Zb h.t.2.1) .an,.sl (Zb h.t.2.2) .an,.sl (Zc h.y) .an]
def Zg(l:List Fz):Bool:=l.all Zae
def Tr.nums(r:Tr):List Fz:=[r.t,r.w,r.h,r.e]
def Zc5(h:Hs):Bool:=(h.l.all fun r=>Zg r.nums&&Zg r.y)&&(Zae h.t&&Zg h.y)
def Zhj(h:Hs):Bool:=(h.l.all fun r=>decide (r.y.length=h.y.length))&&(decide (1≤h.y.length)&&decide (h.y.length≤6))
def Zcx(r:Tr):Bool:=decide (0<fv r.w)&&decide (0<fv r.h)&&decide (fv r.h≤fv r.w)&&decide (0≤fv r.e)
def Zfu(h:Hs):Bool:=h.l.all Zcx
def Zf9(r:Tr)(at_:Fz)(y:List Fz):Bool:=if r.ok then decide (fv at_=fv r.t+fv r.h) else decide (fv at_=fv r.t)&&decide (y.map fv=r.y.map fv)
def Zc6(l:List Tr)(t:Fz)(y:List Fz):Fz×List Fz:=match l with | []=>(t,y) | r::_=>(r.t,r.y)
def Zct:List Tr→Fz→List Fz→Bool
 | [],_,_=>true
 | r::l,t,y=>Zf9 r (Zc6 l t y).1 (Zc6 l t y).2&&Zct l t y
def Ze9(h:Hs):Bool:=Zct h.l h.t h.y
def Zd9(h:Hs):Int:=if !Zc5 h then 1 else if !Zhj h then 2 else if 200<h.l.length then 3 else if !Zfu h then 4 else if !Ze9 h then 5 else 0
def Z5(h:Hs):Bool:=decide (Zd9 h=0)
def Zjz(r:Tr):Tr:=⟨fz (fv r.t),fz (fv r.w),fz (fv r.h),fz (fv r.e),nrm r.y,r.ok⟩
def Zcp(l:List Tr):List Tr:=(l.filter (·.ok)).map Zjz
def Zx(h:Hs):List Fz:=(Zcp h.l).map (·.t)++[fz (fv h.t)]
def Zaq(h:Hs):List (List Fz):=(Zcp h.l).map (·.y)++[nrm h.y]
def Zru(h:Hs):List Fz:=(Zcp h.l).map (·.h)
structure HsS (h:Hs) (B:Nat):Prop where
 len:h.l.length≤1000
 t:fsz h.t≤B
 y:∀x∈h.y,fsz x≤B
 yl:h.y.length≤1000
 rt:∀r∈h.l,∀x∈r.nums,fsz x≤B
 ry:∀r∈h.l,∀x∈r.y,fsz x≤B
 rl:∀r∈h.l,r.y.length≤1000
theorem zpu:∀(l:List Tr) (t:Fz) (y:List Fz),Zct l t y=true↔∀(i:Nat) (r:Tr),l[i]? = some r→Zf9 r (Zc6 (l.drop (i+1)) t y).1 (Zc6 (l.drop (i+1)) t y).2=true
 | [],t,y=>by simp[Zct]
 | r::l,t,y=>by
  simp only[Zct,Yh,zpu l t y];refine⟨fun⟨h1,h2⟩ i q hi=>?_,fun h=>⟨h 0 r rfl,fun i q hi=>h (i+1) q hi⟩⟩;cases i with
  | zero=>cases hi;exact h1
  | succ i=>exact h2 i q hi
end Go.Ab
end
section
namespace Go.Ab
theorem zqr:∀(a b:List UInt32),a.length=b.length→val a=val b→a=b
 | [],[],_,_=>rfl
 | x::a,y::b,hl,hv=>by
  simp only[zap]at hv;have hx:=zam x;have hy:=zam y;have h1:x.toNat=y.toNat:=by omega
  have h2:val a=val b:=by omega
  rw[Yef.1 h1,zqr a b (by simpa using hl) h2]
 | [],_::_,hl,_=>by simp at hl
 | _::_,[],hl,_=>by simp at hl
theorem zgp{x y:Nat}:Zc8 x y=0↔x=y:=by
 grind[Zc8]
theorem zx9(z:Int):∀t:Nat,sg (decide (z<0)&&decide (t%2=1)) (z.natAbs^t)=z^t
 | 0=>by simp[sg]
 | t+1=>by
  have ih:=zx9 z t;have hz:sg (decide (z<0)) z.natAbs=z:=by
   unfold sg;by_cases h:z<0
   ·simp only[h,decide_true,if_true];omega
   ·simp only[h,decide_false,Y2,if_false];omega
  have hm:=zs7 (decide (z<0)&&decide (t%2=1)) (decide (z<0)) (z.natAbs^t) z.natAbs;rw[ih,hz]at hm;rw[Int.pow_succ,←hm,Y6];rcases Nat.mod_two_eq_zero_or_one t with h | h
  ·have h2:(t+1)%2=1:=by omega
   rw[h,h2];cases decide (z<0)<;>rfl
  ·have h2:(t+1)%2=0:=by omega
   rw[h,h2];cases decide (z<0)<;>rfl
theorem zhf{x L:Nat}(h:(ofN x).length≤L):∀t:Nat,(ofN (x^t)).length≤t*L+1
 | 0=>by rw[Ydi,zdh];simp
 | t+1=>by
  have ih:=zhf h t;have:=za1 ih h
  grind
section
variable{T:Tbl}[Zaj T][Zs T][Z2 T][Z4 T][Zu T][Zw T][Zf T][Zl T][Zp T][Zah T]
theorem zhg(x:Fz)(hx:fsz x≤10000):Za T 208 [efz x]=some (.b (Zae x)):=by
 have hn:=zcq (T:=T) x hx;have hs:=za4 (x:=x) (L:=10000) hx (by decide);have l1:=zg2 (fv x);have l2:=zg3 (fv x);unfold Zae;have e':fz (fv x)=(decide ((fv x).num<0),ofN (fv x).num.natAbs,ofN (fv x).den):=rfl;rw[e']at hn ⊢;obtain⟨n,a,d⟩:=x;have la:=zcu (n,a,d);have ld:=zc0 (n,a,d);simp only at la ld;generalize decide ((fv (n,a,d)).num<0)=m at *
 generalize ofN (fv (n,a,d)).num.natAbs=b at *
 generalize ofN (fv (n,a,d)).den=e at *
 have c1:=zhh (T:=T) a b (by omega) (by omega);have c2:=zhh (T:=T) d e (by omega) (by omega);rw[zaa Zah.h208 rfl,b208];by_cases h1:n=m
 case neg=>
  have hd:decide ((n,a,d)=(m,b,e))=false:=by grind
  have hb:(n == m)=false:=by grind
  rw[hd];simp -implicitDefEqProofs[hn,hb]
 subst h1;by_cases h2:a.length=b.length
 case neg=>
  have hd:decide ((n,a,d)=(n,b,e))=false:=by
   grind
  have hb:((a.length:Int) == b.length)=false:=by grind
  rw[hd];simp -implicitDefEqProofs[hn,hb]
 by_cases h3:d.length=e.length
 case neg=>
  have hd:decide ((n,a,d)=(n,b,e))=false:=by
   grind
  have hb:((d.length:Int) == e.length)=false:=by grind
  rw[hd];simp -implicitDefEqProofs[hn,h2,hb]
 by_cases h4:val a=val b
 case neg=>
  have hd:decide ((n,a,d)=(n,b,e))=false:=by
   grind
  have hc:¬ Zc8 (val a) (val b)=0:=fun h=>h4 (zgp.1 h);rw[hd];simp -implicitDefEqProofs[hn,h2,h3,c1,hc]
 have hab:=zqr a b h2 h4;subst hab;have hk:Zc8 (val a) (val a)=0:=zgp.2 rfl;rw[hk]at c1;by_cases h5:val d=val e
 case neg=>
  have hd:decide ((n,a,d)=(n,a,e))=false:=by
   grind
  have hc:¬ Zc8 (val d) (val e)=0:=fun h=>h5 (zgp.1 h);rw[hd];simp -implicitDefEqProofs[hn,h3,c1,c2,hc]
 have hde:=zqr d e h3 h5;subst hde;have hk2:Zc8 (val d) (val d)=0:=zgp.2 rfl;rw[hk2]at c2;have hd:decide ((n,a,d)=(n,a,d))=true:=by simp
 simp -implicitDefEqProofs[hn,c1,c2]
def Zl8(a:List UInt32)(k i:Nat):St:=⟨[(0,.sl (Zb a) .an),(5,.sl (Zb (ofN (val a^i))) .an),(7,.i .i64 k),(8,.i .i64 i)],[],2⟩
theorem zk8(a:List UInt32)(k:Nat)(hk:k≤8)(ha:a.length≤1100):Za T 219 [.sl (Zb a) .an,.i .i64 k]=some (.sl (Zb (ofN (val a^k))) .an):=by
 have h:Ze T 0 0 (.norm false [5]) l219_0 (Zl8 a k 0)=some (.n,⟨[(5,.sl (Zb (ofN (val a^k))) .an)],[],2⟩):=by
  refine zai (Zl8 a k) k _ (fun i hi=>?_) ?_
  ·have hl:=zhf (L:=1100) (Yc (zad a) ha) i;have c:=zfi (T:=T) (ofN (val a^i)) a (by omega) (by omega);rw[zae,←Y6]at c;have hw:=zaz hi (by omega);unfold Zl8;simp -implicitDefEqProofs[l219_0,hi,hw,c]
  ·unfold Zl8;constructor<;>simp -implicitDefEqProofs[l219_0]
 have ho:=zh0 (T:=T) 1 (by decide);unfold Zl8 at h;rw[Ydi]at h;simp only[Yl]at h;rw[zaa Zah.h219 rfl,b219];simp -implicitDefEqProofs[ho,h]
def Ze8(q:Rat)(e:Int):Rat×Bool:=if -8≤e∧e≤8∧¬ (e<0∧q=0) then (Zip q e,true) else (0,false)
theorem zab9(q:Rat)(t:Nat):fz (q^t)=(decide (q.num<0)&&decide (t%2=1)&&decide (q.num.natAbs^t≠0),ofN (q.num.natAbs^t),ofN (q.den^t)):=by
 grind[zx9,fz,Rat.num_pow,Rat.den_pow,zs5,zs6]
theorem z6x(q:Rat)(t:Nat)(hq:q≠0):fz (q^t)⁻¹=(decide (q.num<0)&&decide (t%2=1)&&decide (q.den^t≠0),ofN (q.den^t),ofN (q.num.natAbs^t)):=by
 have h:=zx9 q.num t;have hn:q.num≠0:=fun h=>hq (Rat.num_eq_zero.1 h);have hz:q.num^t≠0:=Int.pow_ne_zero hn;have hd:q.den^t≠0:=Nat.pos_iff_ne_zero.1 (Ya2 q.den_pos);have ha:q.num.natAbs^t≠0:=Nat.pos_iff_ne_zero.1 (Ya2 (Int.natAbs_pos.2 hn));have e1:(q^t)⁻¹.num=(q.num^t).sign*((q.den^t:Nat):Int):=by simp_all
 have e2:(q^t)⁻¹.den=q.num.natAbs^t:=by simp_all
 grind[Int.sign_eq_neg_one_of_neg,zs5,fz]
theorem z2n(x:Fz)(e:Int)(hx:fsz x≤1000):Za T 220 [efz x,.i .i64 e]=some (.tup [efz (fz (Ze8 (fv x) e).1),.b (Ze8 (fv x) e).2]):=by
 have h0:=zif (T:=T);have hsg:=zd0 (T:=T) x (by omega);have hn:=zcq (T:=T) x (by omega);have hs:=za4 (x:=x) (L:=1000) hx (by decide);have l1:=zg2 (fv x);have l2:=zg3 (fv x);unfold Ze8;rw[zaa Zah.h220 rfl,b220];by_cases h1:e < -8
 ·rw[if_neg (by omega)];simp -implicitDefEqProofs[h0,h1]
 by_cases h2:8<e
 ·rw[if_neg (by omega)];simp -implicitDefEqProofs[h0,h1,h2]
 obtain⟨q,hq⟩:∃q,q=fv x:=⟨_,rfl⟩;rw[←hq]at hsg hn hs l1 l2 ⊢;clear hq;have e':fz q=(decide (q.num<0),ofN q.num.natAbs,ofN q.den):=rfl;rw[e']at hn;have hA:(ofN q.num.natAbs).length≤1100:=by omega
 have hD:(ofN q.den).length≤1100:=by omega
 have pA:∀k:Nat,k≤8→Za T 219 [.sl (Zb (ofN q.num.natAbs)) .an,.i .i64 k]=some (.sl (Zb (ofN (q.num.natAbs^k))) .an):=fun k hk=>by
  grind[zk8,zae]
 have pD:∀k:Nat,k≤8→Za T 219 [.sl (Zb (ofN q.den)) .an,.i .i64 k]=some (.sl (Zb (ofN (q.den^k))) .an):=fun k hk=>by
  grind[zk8,zae]
 have lA:∀k:Nat,k≤8→(ofN (q.num.natAbs^k)).length≤1000000:=fun k hk=>by
  have:=zhf hA k;omega
 have lD:∀k:Nat,k≤8→(ofN (q.den^k)).length≤1000000:=fun k hk=>by
  have:=zhf hD k;omega
 have hodd:∀k:Nat,k≤8→(((k:Int).tmod 2) == 1)=decide (k%2=1):=fun k hk=>by
  have e:(k:Int).tmod 2=((k%2:Nat):Int):=by rw[show (2:Int)=((2:Nat):Int) from rfl,←Int.ofNat_tmod]
  rw[e,Ybr];simp;omega
 by_cases h3:e<0
 case neg=>
  obtain⟨n,rfl⟩:∃n:Nat,e=n:=⟨e.toNat,by omega⟩;have hn8:n≤8:=by omega
  rw[if_pos (by omega)];have hw:IntKind.wrap .i64 (-(n:Int))=-(n:Int):=zac _ (by omega);have cA:=pA n hn8;have cD:=pD n hn8;have ho:=hodd n hn8;have hnorm:=zhs (T:=T) (decide (q.num<0)&&decide (n%2=1)) (ofN (q.num.natAbs^n)) (lA n hn8);rw[show wv (decide (q.num<0)&&decide (n%2=1)) (ofN (q.num.natAbs^n))=sg (decide (q.num<0)&&decide (n%2=1)) (q.num.natAbs^n) by unfold wv;rw[zae],z09]at hnorm;have hf:=zab9 q n;have hz:Zip q (n:Int)=q^n:=Ycm q n;simp only[hz];rw[hf];have h4:¬ (8:Int)<n:=by omega
  have h5:¬ ((n:Int) < -(n:Int)):=by omega
  have h6:¬ (n:Int)<0:=by omega
  have h1':¬ (n:Int) < -8:=by omega
  generalize decide (q.num<0)=NG at *
  generalize decide (n%2=1)=OD at *
  cases NG with
  | false=>
   simp only[Yev]at hnorm ⊢;simp -implicitDefEqProofs[hn,h4,h5,h6,h1',hw,mm2,cA,cD,hnorm]
  | true=>
   simp only[Yc9]at hnorm ⊢;cases OD with
   | false=>simp -implicitDefEqProofs[hn,h4,h5,h6,h1',hw,mm2,cA,cD,ho,hnorm]
   | true=>simp -implicitDefEqProofs[hn,h4,h5,h6,h1',hw,mm2,cA,cD,ho,hnorm]
 by_cases h7:q=0
 ·rw[if_neg (by grind)];have hs0:sgQ q=0:=zdp.2 h7;rw[hs0]at hsg;generalize fz 0=Z at *
  have h4:¬ (8:Int)<e:=by omega
  simp -implicitDefEqProofs[h0,h1,h4,h3,hsg]
 rw[if_pos (by grind)];obtain⟨n,rfl⟩:∃n:Nat,e=-(n:Int):=⟨(-e).toNat,by omega⟩;have hn8:n≤8:=by omega
 have hsz:¬ sgQ q=0:=fun h=>h7 (zdp.1 h);have hw:IntKind.wrap .i64 (n:Int)=(n:Int):=zac _ (by omega);have cA:=pA n hn8;have cD:=pD n hn8;have ho:=hodd n hn8;have hnorm:=zhs (T:=T) (decide (q.num<0)&&decide (n%2=1)) (ofN (q.den^n)) (lD n hn8);rw[show wv (decide (q.num<0)&&decide (n%2=1)) (ofN (q.den^n))=sg (decide (q.num<0)&&decide (n%2=1)) (q.den^n) by unfold wv;rw[zae],z09]at hnorm;have hf:=z6x q n h7;have hz:Zip q (-(n:Int))=(q^n)⁻¹:=by unfold Zip;rw[Rat.zpow_neg,Ycm]
 simp only[hz];rw[hf];clear hf hz pA pD lA lD hodd e';have h4:¬ (8:Int) < -(n:Int):=by omega
 have h5:(-(n:Int)<(n:Int)):=by omega
 have h1':¬ -(n:Int) < -8:=by omega
 have h6:(n:Int)≠0:=by omega
 have h6':0<(n:Int):=by omega
 have h6'':0<n:=by omega
 have h1'':¬ 8<n:=by omega
 generalize ofN (q.num.natAbs^n)=AP at *
 generalize ofN (q.den^n)=DP at *
 generalize decide (q.den^n≠0)=NZ at *
 generalize ofN q.num.natAbs=A at *
 generalize ofN q.den=D at *
 generalize decide (q.num<0)=NG at *
 generalize decide (n%2=1)=OD at *
 generalize sgQ q=SG at *
 cases NG with
 | false=>
  simp only[Yev]at hnorm ⊢;simp -implicitDefEqProofs[hn,h4,h5,h6'',h1',hw,mm2,cA,cD,hnorm,hsg,hsz]
 | true=>
  simp only[Yc9]at hnorm ⊢;cases OD with
  | false=>simp -implicitDefEqProofs[hn,h4,h5,h6'',h1',hw,mm2,cA,cD,ho,hnorm,hsg,hsz]
  | true=>simp -implicitDefEqProofs[hn,h4,h5,h6'',h1',hw,mm2,cA,cD,ho,hnorm,hsg,hsz]
end
end Go.Ab
end
section
namespace Go.Ab
@[simp] theorem z8j(l:List Int):(ints l).length=l.length:=by simp[ints]
@[simp] theorem zajm(l:List Int):wkL (ints l)=ints l:=by rw[zb9];simp[ints,wkR,wkA]
@[simp] theorem zafq(l:List Int)(i:Nat)(h:i<(ints l).length):(ints l)[i]=[.i .i64 (l[i]'(by simpa using h))]:=by simp[ints]
@[simp] theorem zacw(l:List Int)(n:Nat):(ints l).take n=ints (l.take n):=by simp[ints]
@[simp] theorem zafr:ints []=[]:=rfl
section
variable{T:Tbl}[Zaj T][Zs T][Z2 T][Z4 T][Zu T][Zw T][Zf T][Zl T][Zp T][Zah T][Zal T]
theorem zc6(i m:Int):Za T 435 [.i .i64 i,.i .i64 m]=some (.b (Zn i m)):=by
 rw[zaa Zal.h435 rfl,b435];unfold Zn;by_cases h:0≤i
 ·by_cases h2:i<m<;>simp -implicitDefEqProofs[h,h2]
 ·simp -implicitDefEqProofs[h]
theorem z8k(i:Ins):Za T 437 [.agg (Zfa i)]=some (.agg [.i .i64 i.op,.i .i64 i.a,.i .i64 i.b]):=by
 rw[zaa Zal.h437 rfl,b437];simp -implicitDefEqProofs
theorem zvu(x:Fz)(hx:fsz x≤10000):Za T 438 [efz x]=some (.b (Zhb x)):=by
 obtain⟨n,a,d⟩:=x;rw[zaa Zal.h438 rfl,b438];unfold Zhb;cases n with
 | true=>simp -implicitDefEqProofs
 | false=>
  by_cases h:a=[]
  ·subst h;by_cases h2:d=[]
   ·subst h2;simp -implicitDefEqProofs
   ·have e2:d.isEmpty=false:=by cases d<;>simp_all
    simp -implicitDefEqProofs[h2,e2]
  ·have e2:a.isEmpty=false:=by cases a<;>simp_all
   simp -implicitDefEqProofs[h,e2]
theorem zvv(i:Ins):Za T 439 [.agg (Zfa i)]=some (.sl (ints (Zaf i)) .an):=by
 obtain⟨op,a,b,n⟩:=i;rw[zaa Zal.h439 rfl,b439];unfold Zaf;simp only;by_cases h6:op=6
 ·subst h6;simp -implicitDefEqProofs[ints]
 by_cases h11:op=11
 ·subst h11;simp -implicitDefEqProofs[ints]
 rw[if_neg (by omega)];by_cases h7:op=7
 ·subst h7;simp -implicitDefEqProofs[ints]
 by_cases h8:op=8
 ·subst h8;simp -implicitDefEqProofs[ints]
 by_cases h9:op=9
 ·subst h9;simp -implicitDefEqProofs[ints]
 by_cases h10:op=10
 ·subst h10;simp -implicitDefEqProofs[ints]
 rw[if_neg (by omega)];simp -implicitDefEqProofs[h6,h7,h8,h9,h10,h11]
theorem z00(i:Ins):(Zaf i).length≤2:=by
 unfold Zaf;split
 ·simp
 ·split<;>simp
def Zlk(t:Tp)(p:Nat)(x:Ins)(i:Nat):St:=
 ⟨[(1,.i .i64 p),(2,.ptr (.loc 2) 1 4 0 0),(5,.ptr (.loc 5) 2 6 0 0),(30,.sl (ints (Zaf x)) .an),(31,.i .i64 (Zaf x).length),(32,.i .i64 i)],
  [(.loc 2,⟨1,.str,4,[[.sl (Zc9 t.code) .an,.sl (ints t.outs) .an,.i .i64 t.dim,.i .i64 t.par]]⟩),(.loc 5,⟨2,.str,6,[Zfa x]⟩)],4⟩
theorem z4e(t:Tp)(p:Nat)(x:Ins):Ze T 0 0 (.norm false [2,5]) l434_0 (Zlk t p x 0) =
  if ((Zaf x).all fun r=>Zn r p)=true then some (.n,⟨[(2,.ptr (.loc 2) 1 4 0 0),(5,.ptr (.loc 5) 2 6 0 0)],
   [(.loc 2,⟨1,.str,4,[[.sl (Zc9 t.code) .an,.sl (ints t.outs) .an,.i .i64 t.dim,.i .i64 t.par]]⟩),(.loc 5,⟨2,.str,6,[Zfa x]⟩)],4⟩)
  else some (.r,⟨[(4,.b false)],[],2⟩):=by
 have hlen:=z00 x;refine zak (Zlk t p x) (Zaf x).length (fun i=>if (((Zaf x).drop i).all fun r=>Zn r p)=true then some (.n,_) else some (.r,_)) (fun i hi=>?_) ?_
 ·have hg:(Zaf x)[i]? = some ((Zaf x)[i]'hi):=Ya hi;have hws:=zaz hi (by omega);have hd:(Zaf x).drop i=(Zaf x)[i]'hi::(Zaf x).drop (i+1):=Ye hi;have cb:=zc6 (T:=T) ((Zaf x)[i]'hi) p;have hi':(i:Int)<(Zaf x).length:=by omega
  by_cases hb:Zn ((Zaf x)[i]'hi) p=true
  ·left;rw[hb]at cb;refine⟨?_,by rw[hd];simp only[Yam,hb,Yc9]⟩;unfold Zlk;generalize Zaf x=R at *
   simp -implicitDefEqProofs[l434_0,hi,hi',hg,hws,cb]
  ·right;have hb':Zn ((Zaf x)[i]'hi) p=false:=by simpa using hb
   rw[hb']at cb;have hall:(((Zaf x).drop i).all fun r=>Zn r p)=false:=by rw[hd,Yam,hb'];rfl
   simp only[hall,Y2,if_false];unfold Zlk;clear hall hd;generalize Zaf x=R at *
   constructor<;>simp -implicitDefEqProofs[l434_0,hi,hi',hg,cb]
 ·simp only[Yp,Ybk,if_true];unfold Zlk;generalize Zaf x=R at *
  constructor<;>simp -implicitDefEqProofs[l434_0]
theorem z4f(t:Tp)(p:Nat)(x:Ins)(hx:t.code[p]? = some x)(hf:fsz x.n≤10000)(hl:t.code.length≤4294967296):Za T 434 [etp t,.i .i64 p]=some (.b (Zcg t.dim t.par p x)):=by
 have hp:=zcv hx;have hp2:(p:Int)<t.code.length:=by omega
 have ho:=z8k (T:=T) x;have hbl:=zvu (T:=T) x.n hf;have hrd:=zvv (T:=T) x;have hlo:=z4e (T:=T) t p x;have hrt:=zhg (T:=T) x.n hf;unfold Zcg;unfold Zlk at hlo;simp only[Yl]at hlo;have cy:=zc6 (T:=T) x.a t.dim;have cp:=zc6 (T:=T) x.a t.par;have hr2:(((Zaf x).length:Int) == 2)=decide ((Zaf x).length=2):=by
  rw[Ybr];simp;omega
 rw[zaa Zal.h434 rfl,b434];generalize Zaf x=R at *
 generalize Zae x.n=RT at *
 generalize Zhb x.n=BL at *
 generalize Zn x.a t.dim=B1 at *
 generalize Zn x.a t.par=B2 at *
 generalize (R.all fun r=>Zn r p)=AL at *
 obtain⟨code,outs,dim,par⟩:=t;obtain⟨op,a,b,n⟩:=x;dsimp only at hx hp hp2 ho hbl hrd hlo hrt cy cp ⊢;have hxe:=(Yd.1 hx).2;clear hf hl;by_cases h1:op=1
 ·subst h1;by_cases ha:a=0
  ·subst ha;by_cases hb:b=0
   ·subst hb;simp -implicitDefEqProofs[hp,hp2,hx,hxe,ho,hrt]
   ·simp -implicitDefEqProofs[hp,hp2,hx,hxe,ho,hrt,hb]
  ·simp -implicitDefEqProofs[hp,hp2,hx,hxe,ho,hrt,ha]
 rw[if_neg h1];cases BL with
 | false=>simp -implicitDefEqProofs[hp,hp2,hx,hxe,h1,hbl]
 | true=>
 cases AL with
 | false=>
  simp only[Y2,if_false]at hlo;simp -implicitDefEqProofs[hp,hp2,hx,hxe,h1,hbl,hrd,hlo]
 | true=>
 simp only[if_true]at hlo;by_cases h2:op=2
 ·subst h2;by_cases ha:a=0
  ·subst ha;by_cases hb:b=0
   ·subst hb;simp -implicitDefEqProofs[hp,hp2,hx,hxe,ho,hbl,hrd,hlo]
   ·simp -implicitDefEqProofs[hp,hp2,hx,hxe,ho,hbl,hrd,hlo,hb]
  ·simp -implicitDefEqProofs[hp,hp2,hx,hxe,ho,hbl,hrd,hlo,ha]
 by_cases h3:op=3
 ·subst h3;cases B1 with
  | false=>simp -implicitDefEqProofs[hp,hp2,hx,hxe,hbl,hrd,hlo,cy]
  | true=>
   by_cases hb:b=0
   ·subst hb;simp -implicitDefEqProofs[hp,hp2,hx,hxe,hbl,hrd,hlo,cy]
   ·simp -implicitDefEqProofs[hp,hp2,hx,hxe,hbl,hrd,hlo,cy,hb]
 by_cases h4:op=4
 ·subst h4;cases B2 with
  | false=>simp -implicitDefEqProofs[hp,hp2,hx,hxe,hbl,hrd,hlo,cp]
  | true=>
   by_cases hb:b=0
   ·subst hb;simp -implicitDefEqProofs[hp,hp2,hx,hxe,hbl,hrd,hlo,cp]
   ·simp -implicitDefEqProofs[hp,hp2,hx,hxe,hbl,hrd,hlo,cp,hb]
 by_cases h6:op=6
 ·subst h6;by_cases hb:b=0
  ·subst hb;simp -implicitDefEqProofs[hp,hp2,hx,hxe,hbl,hrd,hlo]
  ·simp -implicitDefEqProofs[hp,hp2,hx,hxe,hbl,hrd,hlo,hb]
 by_cases h11:op=11
 ·subst h11;by_cases hb:-8≤b
  ·by_cases hb2:b≤8
   ·simp -implicitDefEqProofs[hp,hp2,hx,hxe,hbl,hrd,hlo,hb,hb2]
   ·simp -implicitDefEqProofs[hp,hp2,hx,hxe,hbl,hrd,hlo,hb,hb2]
  ·simp -implicitDefEqProofs[hp,hp2,hx,hxe,hbl,hrd,hlo,hb]
 simp -implicitDefEqProofs[hp,hp2,hx,hxe,h1,h2,h3,h4,h6,h11,hbl,hrd,hlo,hr2]
end
end Go.Ab
end
section
namespace Go.Ab
section
variable{T:Tbl}[Zaj T][Zs T][Z2 T][Z4 T][Zu T][Zw T][Zf T][Zl T][Zp T][Zah T][Zal T]
structure Small (t:Tp):Prop where
 code:t.code.length≤4294967296
 outs:t.outs.length≤4294967296
 ns:∀i∈t.code,fsz i.n≤10000
 d1:-9223372036854775808≤t.dim
 d2:t.dim<9223372036854775808
theorem zvw(t:Tp)(hs:Small t):Za T 433 [etp t]=some (.b (Zeo t)):=by
 obtain⟨h1,h2,_,d1,d2⟩:=hs;have c0:Za T 435 [.i .i64 (IntKind.wrap .i64 (t.dim-1)),.i .i64 6]=some (.b (Zn (t.dim-1) 6)):=by
  rw[zc6];congr 2;by_cases hm:t.dim=-9223372036854775808
  ·rw[hm]
   decide
  ·rw[zac _ (by omega)]
 have c1:=zc6 (T:=T) t.par 7;unfold Zeo;obtain⟨code,outs,dim,par⟩:=t;dsimp only at *
 have e1:((outs.length:Int) == dim)=decide ((outs.length:Int)=dim):=rfl;rw[zaa Zal.h433 rfl,b433];generalize Zn (dim-1) 6=B1 at *
 generalize Zn par 7=B2 at *
 cases B1 with
 | false=>simp -implicitDefEqProofs[c0]
 | true=>
 cases B2 with
 | false=>simp -implicitDefEqProofs[c0,c1]
 | true=>
 by_cases ho:(outs.length:Int)=dim
 ·by_cases hc:code.length≤300
  ·have hc':(code.length:Int)≤300:=by omega
   simp -implicitDefEqProofs[c0,c1,ho,hc,hc']
  ·have hc':300<(code.length:Int):=by omega
   simp -implicitDefEqProofs[c0,c1,ho,hc,hc']
 ·simp -implicitDefEqProofs[c0,c1,ho]
def bxT(t:Tp):Box:=⟨1,.str,4,[[.sl (Zc9 t.code) .an,.sl (ints t.outs) .an,.i .i64 t.dim,.i .i64 t.par]]⟩
def Zll(t:Tp)(i:Nat):St:=⟨[(1,.ptr (.loc 1) 1 4 0 0),(11,.i .i64 t.code.length),(12,.i .i64 i)],[(.loc 1,bxT t)],3⟩
theorem zrf(t:Tp)(hs:Small t):Ze T 0 0 (.norm false [1]) l430_0 (Zll t 0) =
  if Za6 t.dim t.par 0 t.code=-1 then some (.n,⟨[(1,.ptr (.loc 1) 1 4 0 0)],[(.loc 1,bxT t)],3⟩) else some (.r,⟨[(2,.i .i64 (Za6 t.dim t.par 0 t.code))],[],2⟩):=by
 have hc:=hs.code;have e0:t.code.drop 0=t.code:=rfl;rw[←e0];refine zak (Zll t) t.code.length (fun i=>if Za6 t.dim t.par i (t.code.drop i)=-1 then some (.n,_) else some (.r,⟨[(2,.i .i64 (Za6 t.dim t.par i (t.code.drop i)))],[],2⟩)) (fun i hi=>?_) ?_
 ·have hg:t.code[i]? = some (t.code[i]'hi):=Ya hi;have hws:=zaz hi (by omega);have hd:t.code.drop i=t.code[i]'hi::t.code.drop (i+1):=Ye hi;have cm:=z4f (T:=T) t i _ hg (hs.ns _ (Yi hi)) hc;have hi':(i:Int)<t.code.length:=by omega
  have hf:Za6 t.dim t.par i (t.code.drop i)=if Zcg t.dim t.par i (t.code[i]'hi) then Za6 t.dim t.par (i+1) (t.code.drop (i+1)) else i:=by rw[hd];rfl
  by_cases hb:Zcg t.dim t.par i (t.code[i]'hi)=true
  ·left;rw[hb]at cm;rw[if_pos hb]at hf;refine⟨?_,by simp only[hf]⟩;unfold Zll bxT;clear hf hd;simp -implicitDefEqProofs[l430_0,hi,hi',hws,cm]
  ·right;have hb':Zcg t.dim t.par i (t.code[i]'hi)=false:=by simpa using hb
   rw[hb']at cm;rw[if_neg hb]at hf;have hne:¬ (i:Int)=-1:=by omega
   simp only[hf,if_neg hne];unfold Zll bxT;clear hf hd;constructor<;>simp -implicitDefEqProofs[l430_0,hi,hi',cm]
 ·have hf:Za6 t.dim t.par t.code.length (t.code.drop t.code.length)=-1:=by rw[Yp];rfl
  simp only[hf,if_true];unfold Zll bxT;constructor<;>simp -implicitDefEqProofs[l430_0]
def Zlm(t:Tp)(i:Nat):St:=⟨[(1,.ptr (.loc 1) 1 4 0 0),(22,.sl (ints t.outs) .an),(23,.i .i64 t.outs.length),(24,.i .i64 i)],[(.loc 1,bxT t)],3⟩
theorem zrg(t:Tp)(hs:Small t):Ze T 0 2 (.norm false []) l430_1 (Zlm t 0) =
  if (t.outs.all fun o=>Zn o t.code.length)=true then some (.n,⟨[],[],2⟩) else some (.r,⟨[(2,.i .i64 t.code.length)],[],2⟩):=by
 have hc:=hs.outs;refine zak (Zlm t) t.outs.length (fun i=>if ((t.outs.drop i).all fun o=>Zn o t.code.length)=true then some (.n,_) else some (.r,_)) (fun i hi=>?_) ?_
 ·have hg:t.outs[i]? = some (t.outs[i]'hi):=Ya hi;have hws:=zaz hi (by omega);have hd:t.outs.drop i=t.outs[i]'hi::t.outs.drop (i+1):=Ye hi;have cm:=zc6 (T:=T) (t.outs[i]'hi) t.code.length;have hi':(i:Int)<t.outs.length:=by omega
  by_cases hb:Zn (t.outs[i]'hi) t.code.length=true
  ·left;rw[hb]at cm;refine⟨?_,by rw[hd];simp only[Yam,hb,Yc9]⟩;unfold Zlm bxT;clear hd;simp -implicitDefEqProofs[l430_1,hi,hi',hg,hws,cm]
  ·right;have hb':Zn (t.outs[i]'hi) t.code.length=false:=by simpa using hb
   rw[hb']at cm;have hall:((t.outs.drop i).all fun o=>Zn o t.code.length)=false:=by rw[hd,Yam,hb'];rfl
   simp only[hall,Y2,if_false];unfold Zlm bxT;clear hall hd;constructor<;>simp -implicitDefEqProofs[l430_1,hi,hi',hg,cm]
 ·simp only[Yp,Ybk,if_true];unfold Zlm bxT;constructor<;>simp -implicitDefEqProofs[l430_1]
theorem zvx(t:Tp)(hs:Small t):Za T 430 [etp t]=some (.i .i64 (Zfb t)):=by
 have cw:=zvw (T:=T) t hs;have h1:=zrf (T:=T) t hs;have h2:=zrg (T:=T) t hs;unfold Zfb;unfold Zll bxT at h1;unfold Zlm bxT at h2;simp only[Yl]at h1 h2;generalize hfi:Za6 t.dim t.par 0 t.code=F at *
 generalize hal:(t.outs.all fun o=>Zn o t.code.length)=AL at *
 generalize hwt:Zeo t=W at *
 obtain⟨code,outs,dim,par⟩:=t;dsimp only at *
 rw[zaa Zal.h430 rfl,b430];cases W with
 | false=>simp -implicitDefEqProofs[cw]
 | true=>
 by_cases hf:F=-1
 ·subst hf;cases AL with
  | false=>
   simp only[Y2,if_false]at h2;simp -implicitDefEqProofs[cw,h1,h2]
  | true=>
   simp only[if_true]at h1 h2;simp -implicitDefEqProofs[cw,h1,h2]
 ·rw[if_neg hf]at h1;simp -implicitDefEqProofs[cw,h1,hf]
theorem zd8(t:Tp)(hs:Small t):Za T 421 [etp t]=some (.b (okT t)):=by
 have cw:=zvx (T:=T) t hs;have e:(Zfb t == -1)=okT t:=rfl;rw[zaa Zal.h421 rfl,b421,←e];generalize Zfb t=W at *
 obtain⟨code,outs,dim,par⟩:=t;simp -implicitDefEqProofs[cw]
end
end Go.Ab
end
section
namespace Go.Ab
def Zjr(n:Int):Int:=if n<0 then 0 else if 4096<n then 4096 else n
abbrev bxG(g:Nat)(s p L:Int):Box:=⟨g,.str,3,[[.i .i64 s,.i .i64 p,.i .i64 L]]⟩
def Zgg(s:Int):Int:=IntKind.wrap .i64 (s+1)
def Zg5(p:Int)(x:Fz):Int:=if p<(Zci x:Int) then (Zci x:Int) else p
section
variable{T:Tbl}[Zaj T][Zs T][Z2 T][Z4 T][Zu T][Zw T][Zf T][Zl T][Zp T][Zah T][Za4 T][Zdh T][Zal T][Zar T][Zbs T]
theorem zk9(x:Fz)(hx:fsz x≤10000):Za T 223 [efz x]=some (.i .i64 (Zci x)):=by
 have h1:=zcu x;have h2:=zc0 x;have c1:=zso (T:=T) x.2.1 (by omega);have c2:=zso (T:=T) x.2.2 (by omega);have b1:=zih (x:=val x.2.1) (k:=10000) (Yc (zad x.2.1) (by omega));have b2:=zih (x:=val x.2.2) (k:=10000) (Yc (zad x.2.2) (by omega));have w:IntKind.wrap .i64 ((Za2 (val x.2.1):Int)+(Za2 (val x.2.2):Int))=((Zci x:Nat):Int):=by
  have e:((Zci x:Nat):Int)=(Za2 (val x.2.1):Int)+(Za2 (val x.2.2):Int):=by unfold Zci;omega
  rw[e];exact zac _ (by omega)
 rw[zaa Za4.h223 rfl,b223];generalize Zci x=S at *
 generalize Za2 (val x.2.1)=B1 at *
 generalize Za2 (val x.2.2)=B2 at *
 simp -implicitDefEqProofs[c1,c2,w]
theorem zya(n:Int):Zbp T 406 [.i .i64 n] []=some (.ptr (.loc 7) 1 3 0 0,[(.loc 7,bxG 1 0 0 (Zjr n))]):=by
 unfold Zjr;rw[za3 Zar.h406 rfl,b406];by_cases h1:n<0
 ·simp -implicitDefEqProofs[h1,mm2]
 ·by_cases h2:4096<n
  ·simp -implicitDefEqProofs[h1,h2,mm2]
  ·simp -implicitDefEqProofs[h1,h2,mm2]
theorem zua(s p L k:Int):Zbp T 426 [.ptr (.bor 0) 0 3 0 0,.i .i64 k] [(.bor 0,bxG 0 s p L)]=some (.tup [],[(.bor 0,bxG 0 (Zgg s) (if p<k then k else p) L)]):=by
 unfold Zgg;rw[za3 Zar.h426 rfl,b426];by_cases h1:p<k
 ·simp -implicitDefEqProofs[h1,mm2]
 ·simp -implicitDefEqProofs[h1,mm2]
theorem zub(s p L:Int)(x:Fz)(hx:fsz x≤10000):Zbp T 411 [.ptr (.bor 0) 0 3 0 0,efz x] [(.bor 0,bxG 0 s p L)]=some (.b (decide ((Zci x:Int)≤L)),[(.bor 0,bxG 0 (Zgg s) (Zg5 p x) L)]):=by
 have h1:=zk9 (T:=T) x hx;have h2:=zua (T:=T) s p L (Zci x);unfold Zg5;rw[za3 Zar.h411 rfl,b411];generalize Zgg s=s' at *
 generalize (if p<(Zci x:Int) then (Zci x:Int) else p)=p' at *
 generalize (Zci x:Int)=z at *
 simp -implicitDefEqProofs[h1,h2]
def Zl9(l:List Fz)(i:Nat):St:=⟨[(3,.bs (.loc 3) 1 3 0 i),(6,.sl (Zc l) .an),(7,.i .i64 l.length),(8,.i .i64 i)],[(.loc 3,⟨1,.own,3,Zc (nrm (l.take i))⟩)],3⟩
theorem zla(l:List Fz)(hl:l.length≤1000)(hw:∀x∈l,fsz x≤1000):Za T 420 [.sl (Zc l) .an]=some (.sl (Zc (nrm l)) .an):=by
 have h:Ze T 0 0 (.norm false [3]) l420_0 (Zl9 l 0)=some (.n,⟨[(3,.bs (.loc 3) 1 3 0 l.length)],[(.loc 3,⟨1,.own,3,Zc (nrm l)⟩)],3⟩):=by
  refine zai (Zl9 l) l.length _ (fun i hi=>?_) ?_
  ·have hg:l[i]? = some (l[i]'hi):=Ya hi;have hws:=zaz hi (by omega);have hn:=zcq (T:=T) (l[i]'hi) (Yc (hw _ (Yi hi)) (by decide));have e:nrm (l.take (i+1))=nrm (l.take i)++[fz (fv (l[i]'hi))]:=zcz l _ hi;have hp:=zba (m:=nrm (l.take i)) (n:=i) (by simp[nrm];omega) (fz (fv (l[i]'hi)));have hml:(nrm (l.take i)).length=i:=by simp[nrm];omega
   unfold Zl9;rw[e];clear e;generalize nrm (l.take i)=M at *
   generalize fz (fv (l[i]'hi))=z at *
   have hb:i≤4294967295:=by omega
   simp -implicitDefEqProofs[l420_0,hi,hg,hws,hn,hp,hml,hb]
  ·unfold Zl9;rw[Yb (Yg _)];generalize nrm l=M;constructor<;>simp -implicitDefEqProofs[l420_0]
 unfold Zl9 at h;simp[nrm]at h;have ht:List.take l.length (List.map (fun x=>fz (fv x)) l)=List.map (fun x=>fz (fv x)) l:=Yb (by simp);rw[zaa Zbs.h420 rfl,b420];simp -implicitDefEqProofs[h,nrm,ht]
structure PoS (x:PoF) (B:Nat):Prop where
 t:fsz x.t≤B
 y:∀u∈x.y,fsz u≤B
 p:∀u∈x.p,fsz u≤B
 yl:x.y.length≤1000
 pl:x.p.length≤1000
theorem z6y(x:PoF):x.v.f=⟨fz (fv x.t),nrm x.y,nrm x.p⟩:=by
 unfold PoF.v Po.f;rw[z0f,z0f]
theorem zyb(x:PoF)(h:PoS x 1000):Za T 405 [ept x]=some (ept x.v.f):=by
 have h1:=zcq (T:=T) x.t (Yc h.t (by decide));have h2:=zla (T:=T) x.y h.yl h.y;have h3:=zla (T:=T) x.p h.pl h.p;rw[z6y];obtain⟨t,y,p⟩:=x;dsimp only at *
 rw[zaa Zbs.h405 rfl,b405];generalize fz (fv t)=t' at *
 generalize nrm y=y' at *
 generalize nrm p=p' at *
 simp -implicitDefEqProofs[h1,h2,h3]
end
end Go.Ab
end
section
namespace Go.Ab
theorem z0h{q:Rat}{e:Int}(h1:-8≤e)(h2:e≤8):Ze8 q e=if e<0∧q=0 then (0,false) else (Zip q e,true):=by
 unfold Ze8;by_cases h:e<0∧q=0
 ·rw[if_pos h,if_neg (by intro hh;exact hh.2.2 h)]
 ·rw[if_neg h,if_pos ⟨h1,h2,h⟩]
abbrev mD:AV:=.agg [.dead]
section
variable{T:Tbl}[Zaj T][Zs T][Z2 T][Z4 T][Zu T][Zw T][Zf T][Zl T][Zp T][Zah T][Za4 T][Zdh T][Zal T][Zar T][Zbs T][Zas T][Zew T]
theorem zaji(x:Fz)(hx:fsz x≤1000):Za T 445 [mD,efz x]=some (efz (fz (fv x))):=by
 have h:=zcq (T:=T) x (by omega);rw[zaa Zas.h445 rfl,b445];generalize fz (fv x)=z at *
 simp -implicitDefEqProofs[h]
theorem zack(x:Fz)(hx:fsz x≤1000):Za T 444 [mD,efz x]=some (efz (fz (-fv x))):=by
 have h:=zmi (T:=T) x (by omega);rw[zaa Zas.h444 rfl,b444];generalize fz (-fv x)=z at *
 simp -implicitDefEqProofs[h]
theorem zacl(x y:Fz)(hx:fsz x≤1000)(hy:fsz y≤1000):Za T 441 [mD,efz x,efz y]=some (efz (fz (fv x+fv y))):=by
 have h:=zgn (T:=T) x y hx hy;rw[zaa Zas.h441 rfl,b441];generalize fz (fv x+fv y)=z at *
 simp -implicitDefEqProofs[h]
theorem zacm(x y:Fz)(hx:fsz x≤1000)(hy:fsz y≤1000):Za T 448 [mD,efz x,efz y]=some (efz (fz (fv x-fv y))):=by
 have h:=zmj (T:=T) x y hx hy;rw[zaa Zas.h448 rfl,b448];generalize fz (fv x-fv y)=z at *
 simp -implicitDefEqProofs[h]
theorem zacn(x y:Fz)(hx:fsz x≤1000)(hy:fsz y≤1000):Za T 443 [mD,efz x,efz y]=some (efz (fz (fv x*fv y))):=by
 have h:=zgo (T:=T) x y hx hy;rw[zaa Zas.h443 rfl,b443];generalize fz (fv x*fv y)=z at *
 simp -implicitDefEqProofs[h]
theorem zaco(x y:Fz)(hx:fsz x≤1000)(hy:fsz y≤1000):Za T 447 [mD,efz x,efz y]=some (.tup [efz (fz (fv x/fv y)),.b (decide (fv y≠0))]):=by
 have h:=zmk (T:=T) x y hx hy;rw[zaa Zas.h447 rfl,b447];generalize fz (fv x/fv y)=z at *
 generalize decide (fv y≠0)=ok at *
 simp -implicitDefEqProofs[h]
theorem zacp(x:Fz)(e:Int)(hx:fsz x≤1000):Za T 446 [mD,efz x,.i .i64 e]=some (.tup [efz (fz (Ze8 (fv x) e).1),.b (Ze8 (fv x) e).2]):=by
 have h:=z2n (T:=T) x e hx;rw[zaa Zas.h446 rfl,b446];generalize fz (Ze8 (fv x) e).1=z at *
 generalize (Ze8 (fv x) e).2=ok at *
 simp -implicitDefEqProofs[h]
theorem z0i(s p L:Int)(x:Fz)(hx:fsz x≤10000):Zbp T 442 [.agg [.ptr (.bor 0) 0 3 0 0],efz x] [(.bor 0,bxG 0 s p L)]=some (.b (decide ((Zci x:Int)≤L)),[(.bor 0,bxG 0 (Zgg s) (Zg5 p x) L)]):=by
 have h:=zub (T:=T) s p L x hx;rw[za3 Zas.h442 rfl,b442];generalize Zgg s=s' at *
 generalize Zg5 p x=p' at *
 simp -implicitDefEqProofs[h]
theorem z35(i:Ins)(P:Po)(hop:i.op=1∨i.op=2∨i.op=3∨i.op=4)(hn:fsz i.n≤1000)(hy:i.op=3→0≤i.a∧i.a<P.y.length)(hp:i.op=4→0≤i.a∧i.a<P.p.length) :
  Za T 431 [mD,.agg (Zfa i),ept P.f]=some (efz (fz (Z6 P [] i).1)):=by
 have h1:=zaji (T:=T) i.n hn;obtain⟨op,a,b,n⟩:=i;obtain⟨t,y,p⟩:=P;dsimp only at *
 unfold Z6 Po.f;dsimp only;rw[zaa Zas.h431 rfl,b431];rcases hop with rfl | rfl | rfl | rfl
 ·show _=some (efz (fz (fv n)));generalize fz (fv n)=z at *
  generalize fzs y=Y at *
  generalize fzs p=PP at *
  generalize fz t=tt at *
  simp -implicitDefEqProofs[h1]
 ·show _=some (efz (fz t));generalize fzs y=Y at *
  generalize fzs p=PP at *
  generalize fz t=tt at *
  simp -implicitDefEqProofs
 ·obtain⟨k,rfl⟩:∃k:Nat,a=k:=⟨a.toNat,by have:=(hy rfl).1;omega⟩;have hk:k<y.length:=by have:=(hy rfl).2;omega
  have hk':(k:Int)<y.length:=by omega
  have hg:(fzs y)[k]? = some (fz (y[k]'hk)):=zdg (Ya hk);have hge:=(Yd.1 hg).2;have hl:(fzs y).length=y.length:=zal y;have e:gI y (k:Int)=y[k]'hk:=by simp[gI,List.getD,Ya hk]
  show _=some (efz (fz (gI _ _)));rw[e];generalize fzs y=Y at *
  generalize fzs p=PP at *
  generalize fz t=tt at *
  generalize fz (y[k]'hk)=z at *
  simp -implicitDefEqProofs[hk,hk',hg,hge,hl]
 ·obtain⟨k,rfl⟩:∃k:Nat,a=k:=⟨a.toNat,by have:=(hp rfl).1;omega⟩;have hk:k<p.length:=by have:=(hp rfl).2;omega
  have hk':(k:Int)<p.length:=by omega
  have hg:(fzs p)[k]? = some (fz (p[k]'hk)):=zdg (Ya hk);have hge:=(Yd.1 hg).2;have hl:(fzs p).length=p.length:=zal p;have e:gI p (k:Int)=p[k]'hk:=by simp[gI,List.getD,Ya hk]
  show _=some (efz (fz (gI _ _)));rw[e];generalize fzs y=Y at *
  generalize fzs p=PP at *
  generalize fz t=tt at *
  generalize fz (p[k]'hk)=z at *
  simp -implicitDefEqProofs[hk,hk',hg,hge,hl]
theorem zh6{D:List Rat}{a:Int}(h:0≤a∧a<D.length):∃k:Nat,a=k∧(k:Int)<D.length∧k<D.length∧(fzs D)[k]? = some (fz (gI D a)):=by
 obtain⟨k,rfl⟩:∃k:Nat,a=k:=⟨a.toNat,by omega⟩;have hk:k<D.length:=by omega
 refine⟨k,rfl,by omega,hk,?_⟩;have e:gI D (k:Int)=D[k]'hk:=by simp[gI,List.getD,Ya hk]
 rw[e];exact zdg (Ya hk)
theorem zkq{D:List Rat}{a:Int}{B:Nat}(hB:1≤B)(h:∀q∈D,sz q≤B):sz (gI D a)≤B:=by
 unfold gI List.getD;cases hx:D[a.toNat]? with
 | none=>exact Yc (Nat.le_of_eq zeq) hB
 | some q=>exact h q (Yf hx)
theorem z36(i:Ins)(P:Po)(D:List Rat)(dim par:Int)(hm:Zcg dim par D.length i=true)(hd:(P.y.length:Int)=dim)(hp:(P.p.length:Int)=par)(hn:fsz i.n≤1000)(hD:∀q∈D,sz q≤1000) :
  Za T 422 [mD,.agg (Zfa i),ept P.f,.sl (Zc (fzs D)) .an]=some (.tup [efz (fz (Z6 P D i).1),.b (Z6 P D i).2]):=by
 have hop:=z1l hm;by_cases hleaf:i.op=1∨i.op=2∨i.op=3∨i.op=4
 ·have h1:=z35 (T:=T) i P hleaf hn (fun h=>by have:=zac9 hm h;omega) (fun h=>by have:=zada hm h;omega);have e:Z6 P D i=((Z6 P [] i).1,true):=by
   unfold Z6;rcases hleaf with h | h | h | h<;>simp[h]
  rw[e];generalize fz (Z6 P [] i).1=z at *
  generalize fzs D=DD at *
  obtain⟨op,a,b,n⟩:=i;generalize P.f=Q at *
  obtain⟨⟨t0,t1,t2⟩,y,p⟩:=Q;dsimp only at *
  rw[zaa Zas.h422 rfl,b422];rcases hleaf with rfl | rfl | rfl | rfl<;>simp -implicitDefEqProofs[h1]
 have ha:=zac7 hm (by omega);obtain⟨k,hk1,hk2,hk3,hka⟩:=zh6 ha;have sa:fsz (fz (gI D i.a))≤1000:=zkq (by decide) hD;have hkae:=(Yd.1 hka).2;have hl:(fzs D).length=D.length:=zal D;have c6:=zack (T:=T) (fz (gI D i.a)) sa;have c11:=zacp (T:=T) (fz (gI D i.a)) i.b sa;rw[za7]at c6 c11;by_cases h6:i.op=6
 ·have e:Z6 P D i=(-gI D i.a,true):=by simp[Z6,h6]
  rw[e];generalize fz (-gI D i.a)=z at *
  generalize fz (gI D i.a)=u at *
  generalize fzs D=DD at *
  obtain⟨op,a,b,n⟩:=i;generalize P.f=Q at *
  obtain⟨⟨t0,t1,t2⟩,y,p⟩:=Q;dsimp only at *
  subst h6 hk1;rw[zaa Zas.h422 rfl,b422];simp -implicitDefEqProofs[hk2,hk3,hka,hkae,hl,c6]
 by_cases h11:i.op=11
 ·have hb:=z8w hm h11;have e:Z6 P D i=Ze8 (gI D i.a) i.b:=by simp[Z6,h11,z0h hb.1 hb.2]
  rw[e];generalize fz (Ze8 (gI D i.a) i.b).1=z at *
  generalize (Ze8 (gI D i.a) i.b).2=ok at *
  generalize fz (gI D i.a)=u at *
  generalize fzs D=DD at *
  obtain⟨op,a,b,n⟩:=i;generalize P.f=Q at *
  obtain⟨⟨t0,t1,t2⟩,y,p⟩:=Q;dsimp only at *
  subst h11 hk1;rw[zaa Zas.h422 rfl,b422];simp -implicitDefEqProofs[hk2,hk3,hka,hkae,hl,c11]
 have hb:=zac8 hm (by omega);obtain⟨j,hj1,hj2,hj3,hjb⟩:=zh6 hb;have sb:fsz (fz (gI D i.b))≤1000:=zkq (by decide) hD;have hjbe:=(Yd.1 hjb).2;have c7:=zacl (T:=T) (fz (gI D i.a)) (fz (gI D i.b)) sa sb;have c8:=zacm (T:=T) (fz (gI D i.a)) (fz (gI D i.b)) sa sb;have c9:=zacn (T:=T) (fz (gI D i.a)) (fz (gI D i.b)) sa sb;have c10:=zaco (T:=T) (fz (gI D i.a)) (fz (gI D i.b)) sa sb;rw[za7,za7]at c7 c8 c9 c10;have e7:i.op=7→Z6 P D i=(gI D i.a+gI D i.b,true):=fun h=>by simp[Z6,h]
 have e8:i.op=8→Z6 P D i=(gI D i.a-gI D i.b,true):=fun h=>by simp[Z6,h]
 have e9:i.op=9→Z6 P D i=(gI D i.a*gI D i.b,true):=fun h=>by simp[Z6,h]
 have e10:i.op=10→Z6 P D i=(gI D i.a/gI D i.b,decide (gI D i.b≠0)):=fun h=>by simp[Z6,h]
 generalize gI D i.a=A at *
 generalize gI D i.b=B at *
 generalize fz A=u at *
 generalize fz B=v at *
 generalize Z6 P D i=V at *
 generalize fzs D=DD at *
 obtain⟨op,a,b,n⟩:=i;generalize P.f=Q at *
 obtain⟨⟨t0,t1,t2⟩,y,p⟩:=Q;dsimp only at *
 subst hk1 hj1;rw[zaa Zas.h422 rfl,b422];rcases(show op=7∨op=8∨op=9∨op=10 by omega) with rfl | rfl | rfl | rfl
 ·rw[e7 rfl];generalize fz (A+B)=z at *
  simp -implicitDefEqProofs[hk2,hk3,hka,hkae,hj2,hj3,hjb,hjbe,hl,c7]
 ·rw[e8 rfl];generalize fz (A-B)=z at *
  simp -implicitDefEqProofs[hk2,hk3,hka,hkae,hj2,hj3,hjb,hjbe,hl,c8]
 ·rw[e9 rfl];generalize fz (A*B)=z at *
  simp -implicitDefEqProofs[hk2,hk3,hka,hkae,hj2,hj3,hjb,hjbe,hl,c9]
 ·rw[e10 rfl];generalize fz (A/B)=z at *
  generalize decide (B≠0)=ok at *
  simp -implicitDefEqProofs[hk2,hk3,hka,hkae,hj2,hj3,hjb,hjbe,hl,c10]
end
end Go.Ab
end
section
namespace Go.Ab
theorem zsw{n b:Nat}(h:Za2 n≤b):(ofN n).length≤b/32+1:=by
 refine zan ?_;unfold Za2 at h;split at h
 ·grind
 ·rename_i h0;have h1:n<2^(n.log2+1):=(Yec h0).1 (Yy _);have h3:(4294967296:Nat)^(b/32+1)=2^(32*(b/32+1)):=by rw[Ydh]
  have h2:2^(n.log2+1)≤2^(32*(b/32+1)):=Yu (by decide) (by omega);omega
theorem zj0{q:Rat}{b:Nat}(h:Zf3 q≤b):sz q≤b/32+1:=by
 unfold Zf3 Zci fz at h;rw[zae,zae]at h;exact Yd6.2 ⟨zsw (Yc (Nat.le_add_right _ _) h),zsw (Yc (Nat.le_add_left _ _) h)⟩
theorem zsx(q:Rat)(n:Nat):sz (q^n)≤n*sz q+1:=by
 unfold sz;rw[Rat.num_pow,Rat.den_pow,Int.natAbs_pow];exact Yd6.2 ⟨zhf (Yes _ _) n,zhf (Yei _ _) n⟩
theorem z8b{q:Rat}{e:Int}{B:Nat}(hq:sz q≤B)(h1:-8≤e)(h2:e≤8):sz (Zip q e)≤8*B+1:=by
 unfold Zip;rcases Int.le_total 0 e with h | h
 ·obtain⟨n,rfl⟩:∃n:Nat,e=n:=⟨e.toNat,by omega⟩;rw[Ycm];have:=zsx q n;have h3:n*sz q≤8*B:=Ybn (by omega) hq;omega
 ·obtain⟨n,rfl⟩:∃n:Nat,e=-(n:Int):=⟨(-e).toNat,by omega⟩;rw[Rat.zpow_neg,Ycm];have:=zsx q n;have h3:n*sz q≤8*B:=Ybn (by omega) hq;have:=z1b (q^n);omega
structure PvS (P:Po) (B:Nat):Prop where
 t:sz P.t≤B
 y:∀q∈P.y,sz q≤B
 p:∀q∈P.p,sz q≤B
theorem z0j{P:Po}{D:List Rat}{i:Ins}{dim par:Int}{p:Nat}(hm:Zcg dim par p i=true)(hP:PvS P 1000)(hn:fsz i.n≤1000)(hD:∀q∈D,sz q≤129):sz (Z6 P D i).1≤2000:=by
 have ga:=zkq (D:=D) (a:=i.a) (B:=129) (by decide) hD;have gb:=zkq (D:=D) (a:=i.b) (B:=129) (by decide) hD;have gy:=zkq (D:=P.y) (a:=i.a) (B:=1000) (by decide) hP.y;have gp:=zkq (D:=P.p) (a:=i.a) (B:=1000) (by decide) hP.p;have gn:=za4 (x:=i.n) (L:=1000) hn (by decide);have gt:=hP.t;rcases z1l hm with h | h | h | h | h | h | h | h | h | h
 ·simp[Z6,h];omega
 ·simp[Z6,h];omega
 ·simp[Z6,h];omega
 ·simp[Z6,h];omega
 ·simp[Z6,h,zh7];omega
 ·grind[zfz,Z6]
 ·grind[zh8,Z6]
 ·grind[zct,Z6]
 ·grind[zs8,Z6]
 ·obtain⟨e1,e2⟩:=z8w hm h;have h1:=z8b ga e1 e2
  grind[Z6]
def Zho(lim:Nat)(P:Po):List Ins→List Rat→Int→Int→Int×Int
 | [],_,s,p=>(s,p)
 | i::r,D,s,p=>if (Z6 P D i).2=false then (s,p) else if lim<Zf3 (Z6 P D i).1 then (Zgg s,Zg5 p (fz (Z6 P D i).1)) else Zho lim P r (D++[(Z6 P D i).1]) (Zgg s) (Zg5 p (fz (Z6 P D i).1))
theorem zj1(lim:Nat)(P:Po)(i:Ins)(r:List Ins)(D:List Rat)(s p:Int):Zho lim P (i::r) D s p=if (Z6 P D i).2=false then (s,p) else if lim<Zf3 (Z6 P D i).1 then (Zgg s,Zg5 p (fz (Z6 P D i).1)) else Zho lim P r (D++[(Z6 P D i).1]) (Zgg s) (Zg5 p (fz (Z6 P D i).1)):=rfl
abbrev bxM:Box:=⟨3,.str,1,[[.ptr (.bor 0) 0 3 0 0]]⟩
abbrev bxP(g:Nat)(x:PoF):Box:=⟨g,.str,5,[[.b x.t.1,.sl (Zb x.t.2.1) .an,.sl (Zb x.t.2.2) .an,.sl (Zc x.y) .an,.sl (Zc x.p) .an]]⟩
abbrev bxF(g:Nat)(a b c d:Int):Box:=⟨g,.str,4,[[.i .i64 a,.i .i64 b,.i .i64 c,.i .i64 d]]⟩
def Zef(Q:PoF)(L:Int)(code:List Ins)(i:Nat)(D:List Fz)(s p:Int)(kd:Kind):St:=
 ⟨[(3,.ptr (.loc 3) 3 1 0 0),(5,.ptr (.loc 5) 4 5 0 0),(7,.ptr (.loc 7) 5 4 0 0),(8,.bs (.loc 8) 6 3 0 i),(34,.sl (Zc9 code) .an),(35,.i .i64 code.length),(36,.i .i64 i)],
  [(.bor 0,bxG 0 s p L),(.loc 3,bxM),(.loc 5,bxP 4 Q),(.loc 7,bxF 5 0 0 0 0),(.loc 8,⟨6,kd,3,Zc D⟩)],8⟩
def Znk(n:Nat)(D:List Fz)(s p L:Int)(kd:Kind):Ex×St:=(.n,⟨[(7,.ptr (.loc 7) 3 4 0 0),(8,.bs (.loc 8) 4 3 0 n)],[(.bor 0,bxG 0 s p L),(.loc 7,bxF 3 0 0 0 0),(.loc 8,⟨4,kd,3,Zc D⟩)],6⟩)
def Zjx(kind at_ s p L:Int):Ex×St:=(.r,⟨[(6,.sl [] .an),(7,.ptr (.loc 7) 3 4 0 0)],[(.bor 0,bxG 0 s p L),(.loc 7,bxF 3 kind 0 0 at_)],5⟩)
section
variable{T:Tbl}[Zaj T][Zs T][Z2 T][Z4 T][Zu T][Zw T][Zf T][Zl T][Zp T][Zah T][Za4 T][Zdh T][Zal T][Zar T][Zbs T][Zas T][Zew T]
theorem z38{kd:Kind}(hk:kd=.own∨kd=.sh)(x:Ins)(Q:PoF)(L:Int)(code:List Ins)(i:Nat)(D:List Fz)(s p:Int)(v:Fz)(hi:i<code.length)(hc:code.length≤1000)(hg:code[i]? = some x)(hdl:D.length=i)(hv:fsz v≤10000)
  (c:Za T 422 [mD,.agg (Zfa x),ept Q,.sl (Zc D) .an]=some (.tup [efz v,.b true])) (hf:(Zci v:Int)≤L) :
  evX (orc T) T 1 l407_0 (Zef Q L code i D s p kd)=some (.n,Zef Q L code (i+1) (D++[v]) (Zgg s) (Zg5 p v) .sh):=by
 have hf2:=z0i (T:=T) s p L v hv;rw[decide_eq_true hf]at hf2;have hws:=zaz hi (by omega);have hge:=(Yd.1 hg).2;have ht:List.take i D=D:=Yb (by omega);have hp:wkL (Zc D++[Z1 v])=Zc (D++[v]):=by rw[ze7,zbt]
 have hi':(i:Int)<code.length:=by omega
 have hb:i≤4294967295:=by omega
 unfold Zef;rcases hk with rfl | rfl<;>simp -implicitDefEqProofs[l407_0,hi,hi',hge,hws,c,hf2,hp,hdl,hb,ht]
theorem z8c{kd:Kind}(hk:kd=.own∨kd=.sh)(x:Ins)(Q:PoF)(L:Int)(code:List Ins)(i:Nat)(D:List Fz)(s p:Int)(v:Fz)(hi:i<code.length)(hc:code.length≤1000)(hg:code[i]? = some x)(hdl:D.length=i)
  (c:Za T 422 [mD,.agg (Zfa x),ept Q,.sl (Zc D) .an]=some (.tup [efz v,.b false])) :
  evX (orc T) T 1 l407_0 (Zef Q L code i D s p kd)=some (Zjx 3 i s p L):=by
 have hge:=(Yd.1 hg).2;have ht:List.take i D=D:=Yb (by omega);have hi':(i:Int)<code.length:=by omega
 unfold Zef Zjx;rcases hk with rfl | rfl<;>simp -implicitDefEqProofs[l407_0,hi,hi',hge,c,hdl,ht]
theorem z8d{kd:Kind}(hk:kd=.own∨kd=.sh)(x:Ins)(Q:PoF)(L:Int)(code:List Ins)(i:Nat)(D:List Fz)(s p:Int)(v:Fz)(hi:i<code.length)(hc:code.length≤1000)(hg:code[i]? = some x)(hdl:D.length=i)(hv:fsz v≤10000)
  (c:Za T 422 [mD,.agg (Zfa x),ept Q,.sl (Zc D) .an]=some (.tup [efz v,.b true])) (hf:¬ (Zci v:Int)≤L) :
  evX (orc T) T 1 l407_0 (Zef Q L code i D s p kd)=some (Zjx 6 i (Zgg s) (Zg5 p v) L):=by
 have hf2:=z0i (T:=T) s p L v hv;rw[decide_eq_false hf]at hf2;have hge:=(Yd.1 hg).2;have ht:List.take i D=D:=Yb (by omega);have hi':(i:Int)<code.length:=by omega
 unfold Zef Zjx;rcases hk with rfl | rfl<;>simp -implicitDefEqProofs[l407_0,hi,hi',hge,c,hf2,hdl,ht]
theorem zacq{kd:Kind}(hk:kd=.own∨kd=.sh)(Q:PoF)(L:Int)(code:List Ins)(D:List Fz)(s p:Int):Zd4 (evX (orc T) T 1 l407_0 (Zef Q L code code.length D s p kd))=true ∧
  Zdg 1 0 (.norm false [7,8]) (evX (orc T) T 1 l407_0 (Zef Q L code code.length D s p kd))=some (Znk code.length D s p L kd):=by
 unfold Zef Znk;obtain⟨⟨q0,q1,q2⟩,qy,qp⟩:=Q;rcases hk with rfl | rfl<;>constructor<;>simp -implicitDefEqProofs[l407_0]
theorem z0k(kind at_ s p L:Int):Zdg 1 0 (.norm false [7,8]) (some (Zjx kind at_ s p L))=some (Zjx kind at_ s p L):=by
 unfold Zjx
 simp_all
def kdE(kd:Kind)(l:List Ins):Kind:=if l=[] then kd else .sh
def Zem(lim:Nat)(P:Po)(code l:List Ins)(D:List Rat)(s p:Int)(kd:Kind):Ex×St:=
 if (Za3 lim P l D).2.1=0 then Znk code.length (fzs (Za3 lim P l D).1) (Zho lim P l D s p).1 (Zho lim P l D s p).2 lim (kdE kd l)
 else Zjx (Za3 lim P l D).2.1 (Za3 lim P l D).2.2 (Zho lim P l D s p).1 (Zho lim P l D s p).2 lim
theorem zsy(P:Po)(lim:Nat)(hlim:lim≤4096)(t:Tp)(ht:OkTp t)(hn:∀i∈t.code,fsz i.n≤1000)(hd:(P.y.length:Int)=t.dim)(hp:(P.p.length:Int)=t.par)(hP:PvS P 1000)(s p:Int) :
  Ze T 1 0 (.norm false [7,8]) l407_0 (Zef P.f lim t.code 0 [] s p .own)=some (Zem lim P t.code t.code [] s p .own):=by
 have hc:=ht.cl;have key:=zav (T:=T) (k:=1) (id:=0) (g2:=.norm false [7,8]) (c:=l407_0) (fun x:Nat×List Rat×(Int×Int)×Kind=>Zef P.f lim t.code x.1 (fzs x.2.1) x.2.2.1.1 x.2.2.1.2 x.2.2.2)
  (fun x=>x.1≤t.code.length∧x.2.1.length=x.1∧(∀q∈x.2.1,sz q≤129)∧(x.2.2.2=.own∨x.2.2.2=.sh)) (fun x=>t.code.length-x.1)
  (fun x=>some (Zem lim P t.code (t.code.drop x.1) x.2.1 x.2.2.1.1 x.2.2.1.2 x.2.2.2)) ?_ (0,[],(s,p),.own) ⟨Yv _,rfl,by simp,.inl rfl⟩
 ·exact key
 rintro⟨i,D,⟨s,p⟩,kd⟩ ⟨hi,hdl,hD,hk⟩
 by_cases hlt:i<t.code.length
 ·have hg:t.code[i]? = some (t.code[i]'hlt):=Ya hlt;have hmem:=Yi hlt;have hm:=ht.may i _ hg;have hdr:t.code.drop i=t.code[i]'hlt::t.code.drop (i+1):=Ye hlt;generalize hx:t.code[i]'hlt=x at *
  have hm':Zcg t.dim t.par D.length x=true:=by grind
  have c:=z36 (T:=T) x P D t.dim t.par hm' hd hp (hn x hmem) (fun q hq=>Yc (hD q hq) (by decide));have hvs:fsz (fz (Z6 P D x).1)≤10000:=Yc (z0j hm' hP (hn x hmem) hD) (by decide);have hfl:(fzs D).length=i:=by simp_all
  have hout:Zem lim P t.code (t.code.drop i) D s p kd=Zem lim P t.code (x::t.code.drop (i+1)) D s p kd:=by grind
  cases hok:(Z6 P D x).2 with
  | false=>
   right;rw[hok]at c;have e:=z8c (T:=T) hk x P.f lim t.code i (fzs D) s p _ hlt (by omega) hg hfl c;rw[e,z0k];refine⟨rfl,?_⟩
   grind[zbz,zj1,Zem]
  | true=>
   rw[hok]at c;by_cases hfit:Zf3 (Z6 P D x).1≤lim
   ·left;have e:=z38 (T:=T) hk x P.f lim t.code i (fzs D) s p _ hlt (by omega) hg hfl hvs c (by unfold Zf3 at hfit;omega);refine⟨(i+1,D++[(Z6 P D x).1],(Zgg s,Zg5 p (fz (Z6 P D x).1)),.sh),⟨by omega,by grind,fun q hq=>?_,.inr rfl⟩,by omega,?_,?_⟩
    ·rcases Yag.1 hq with h | h
     ·grind
     ·rw[Ybe.1 h];have:=zj0 hfit;omega
    ·rw[e];simp[fzs]
    ·congr 1;have hR:Za3 lim P (x::t.code.drop (i+1)) D=Za3 lim P (t.code.drop (i+1)) (D++[(Z6 P D x).1]):=by grind[zbz]
     grind[zj1,Zem,kdE]
   ·right;have e:=z8d (T:=T) hk x P.f lim t.code i (fzs D) s p _ hlt (by omega) hg hfl hvs c (by unfold Zf3 at hfit;omega);rw[e,z0k];refine⟨rfl,?_⟩
    grind[zbz,zj1,Zem]
 grind[zacq,Zem,Za3,Zho,kdE]
end
end Go.Ab
end
section
namespace Go.Ab
def Zil(t:Tp)(y p:Nat):Bool:=okT t&&decide ((y:Int)=t.dim)&&decide ((p:Int)=t.par)
def Zdq(lim:Nat)(t:Tp)(P:Po):List Rat×Nat×Nat:=if Zil t P.y.length P.p.length=true then Za3 lim P t.code [] else ([],2,0)
def Zcl(t:Tp)(D:List Rat):List Rat:=t.outs.map (gI D)
def Zce(lim:Nat)(t:Tp)(P:Po):List Rat×Nat×Nat:=if (Zdq lim t P).2.1=0 then (Zcl t (Zdq lim t P).1,0,0) else ([],(Zdq lim t P).2)
structure TpS (t:Tp):Prop where
 small:Small t
 ns:∀i∈t.code,fsz i.n≤1000
abbrev Zcf(k s g a:Int):AV:=.agg [.i .i64 k,.i .i64 s,.i .i64 g,.i .i64 a]
theorem zj2{t:Tp}{y p:Nat}(h:Zil t y p=true):OkTp t∧(y:Int)=t.dim∧(p:Int)=t.par:=by
 grind[Zil,zga]
section
variable{T:Tbl}[Zaj T][Zs T][Z2 T][Z4 T][Zu T][Zw T][Zf T][Zl T][Zp T][Zah T][Za4 T][Zdh T][Zal T][Zar T][Zbs T][Zas T][Zew T]
theorem z8e(t:Tp)(Q:PoF)(hs:TpS t)(s p L:Int)(h:Zil t Q.y.length Q.p.length=false) :
  Zbp T 407 [.agg [.ptr (.bor 0) 0 3 0 0],etp t,ept Q] [(.bor 0,bxG 0 s p L)]=some (.tup [.sl [] .an,Zcf 2 0 0 0],[(.bor 0,bxG 0 s p L)]):=by
 have hr:=zd8 (T:=T) t hs.small;unfold Zil at h;rw[za3 Zas.h407 rfl,b407];obtain⟨⟨q0,q1,q2⟩,qy,qp⟩:=Q;cases hok:okT t with
 | false=>
  rw[hok]at hr;simp -implicitDefEqProofs[hr]
 | true=>
  rw[hok]at hr h;obtain⟨code,outs,dim,par⟩:=t;by_cases h1:(qy.length:Int)=dim
  ·by_cases h2:(qp.length:Int)=par
   ·grind
   ·simp -implicitDefEqProofs[hr,h1,h2]
  ·simp -implicitDefEqProofs[hr,h1]
theorem z0l(t:Tp)(P:Po)(hs:TpS t)(lim:Nat)(hlim:lim≤4096)(s p:Int)(hP:PvS P 1000)(h:Zil t P.y.length P.p.length=true)(hk:(Za3 lim P t.code []).2.1=0) :
  ∃(s' p':Int) (kd:Kind),(kd=.own∨kd=.sh)∧Zbp T 407 [.agg [.ptr (.bor 0) 0 3 0 0],etp t,ept P.f] [(.bor 0,bxG 0 s p lim)] =
   some (.tup [.bs (.loc 8) 3 3 0 t.code.length,Zcf 0 0 0 0],[(.bor 0,bxG 0 s' p' lim),(.loc 8,⟨3,kd,3,Zc (fzs (Za3 lim P t.code []).1)⟩)]):=by
 obtain⟨hok,h1,h2⟩:=zj2 h;have hr:=zd8 (T:=T) t hs.small;have hl:=zsy (T:=T) P lim hlim t hok hs.ns h1 h2 hP s p;rw[(zga t).2 hok]at hr;unfold Zem at hl;rw[if_pos hk]at hl;unfold Zef Znk at hl;simp only[Yl,zau]at hl;have hkd:∃kd:Kind,kdE .own t.code=kd∧(kd=.own∨kd=.sh):=by
  grind[kdE]
 obtain⟨kd,hkd1,hkd2⟩:=hkd;rw[hkd1]at hl;have hy:(fzs P.y).length=P.y.length:=zal _;have hp':(fzs P.p).length=P.p.length:=zal _;unfold Po.f at *
 generalize (Zho lim P t.code [] s p).1=s' at *
 generalize (Zho lim P t.code [] s p).2=p' at *
 obtain⟨code,outs,dim,par⟩:=t;rw[za3 Zas.h407 rfl,b407];rcases hkd2 with rfl | rfl
 ·simp -implicitDefEqProofs[hr,h1,h2,hy,hp',hl]
 ·simp -implicitDefEqProofs[hr,h1,h2,hy,hp',hl]
theorem z0m(t:Tp)(P:Po)(hs:TpS t)(lim:Nat)(hlim:lim≤4096)(s p:Int)(hP:PvS P 1000)(h:Zil t P.y.length P.p.length=true)(hk:¬ (Za3 lim P t.code []).2.1=0) :
  ∃(s' p':Int),Zbp T 407 [.agg [.ptr (.bor 0) 0 3 0 0],etp t,ept P.f] [(.bor 0,bxG 0 s p lim)] =
   some (.tup [.sl [] .an,Zcf (Za3 lim P t.code []).2.1 0 0 (Za3 lim P t.code []).2.2],[(.bor 0,bxG 0 s' p' lim)]):=by
 obtain⟨hok,h1,h2⟩:=zj2 h;have hr:=zd8 (T:=T) t hs.small;have hl:=zsy (T:=T) P lim hlim t hok hs.ns h1 h2 hP s p;rw[(zga t).2 hok]at hr;unfold Zem at hl;rw[if_neg hk]at hl;unfold Zef Zjx at hl;simp only[Yl,zau]at hl;have hy:(fzs P.y).length=P.y.length:=zal _;have hp':(fzs P.p).length=P.p.length:=zal _;unfold Po.f at *
 generalize (Zho lim P t.code [] s p).1=s' at *
 generalize (Zho lim P t.code [] s p).2=p' at *
 obtain⟨code,outs,dim,par⟩:=t;rw[za3 Zas.h407 rfl,b407];simp -implicitDefEqProofs[hr,h1,h2,hy,hp',hl]
theorem zajj{x:PoF}(h:PoS x 1000):PvS x.v 1000:=by
 refine⟨za4 h.t (by decide),fun q hq=>?_,fun q hq=>?_⟩
 ·obtain⟨u,hu,rfl⟩:=Yx.1 hq;exact za4 (h.y u hu) (by decide)
 ·obtain⟨u,hu,rfl⟩:=Yx.1 hq;exact za4 (h.p u hu) (by decide)
def Zcj(n:Int):Nat:=(Zjr n).toNat
theorem z0n(n:Int):Zjr n=(Zcj n:Int)∧Zcj n≤4096:=by
 grind[Zcj,Zjr]
theorem z39(t:Tp)(x:PoF)(bits:Int)(hs:TpS t)(hx:PoS x 1000) :
  Za T 384 [etp t,ept x,.i .i64 bits]=some (.tup [.sl (Zc (fzs (Zdq (Zcj bits) t x.v).1)) .an,Zcf (Zdq (Zcj bits) t x.v).2.1 0 0 (Zdq (Zcj bits) t x.v).2.2]):=by
 have hn:=zyb (T:=T) x hx;have hg:=zya (T:=T) bits;obtain⟨hl1,hl2⟩:=z0n bits;rw[hl1]at hg;have hP:=zajj hx;have hlen:x.v.f.y.length=x.v.y.length∧x.v.f.p.length=x.v.p.length:=⟨zal _,zal _⟩;unfold Zdq;cases hf:Zil t x.v.y.length x.v.p.length with
 | false=>
  have hm:=z8e (T:=T) t x.v.f hs 0 0 (Zcj bits) (by grind);simp only[Y2,if_false];have e0:fzs []=[]:=rfl;rw[e0,zaa Zas.h384 rfl,b384];generalize x.v.f=Q at *
  obtain⟨⟨q0,q1,q2⟩,qy,qp⟩:=Q;simp -implicitDefEqProofs[hn,hg,hm]
 | true=>
  simp only[if_true];by_cases hk:(Za3 (Zcj bits) x.v t.code []).2.1=0
  ·obtain⟨s',p',kd,hkd,hm⟩:=z0l (T:=T) t x.v hs (Zcj bits) hl2 0 0 hP hf hk;have e2:=(ze9 _ _ _ _ hk).1;have el:(Za3 (Zcj bits) x.v t.code []).1.length=t.code.length:=by
    grind[ze9]
   rw[hk,e2];have hfl:(fzs (Za3 (Zcj bits) x.v t.code []).1).length=t.code.length:=by simp_all
   generalize fzs (Za3 (Zcj bits) x.v t.code []).1=D at *
   have ht:List.take t.code.length D=D:=Yb (by omega);rw[zaa Zas.h384 rfl,b384];generalize x.v.f=Q at *
   obtain⟨⟨q0,q1,q2⟩,qy,qp⟩:=Q;rcases hkd with rfl | rfl
   ·simp -implicitDefEqProofs[hn,hg,hm,hfl,ht]
   ·simp -implicitDefEqProofs[hn,hg,hm,hfl,ht]
  ·obtain⟨s',p',hm⟩:=z0m (T:=T) t x.v hs (Zcj bits) hl2 0 0 hP hf hk;have e1:=(zrk _ _ _ _ hk).1;have e0:fzs []=[]:=rfl;rw[e1,e0];rw[zaa Zas.h384 rfl,b384];generalize x.v.f=Q at *
   obtain⟨⟨q0,q1,q2⟩,qy,qp⟩:=Q;simp -implicitDefEqProofs[hn,hg,hm]
def Zmu(D:List Fz)(outs:List Int)(E:List Fz)(i:Nat)(kd:Kind):St:=
 ⟨[(1,.sl (Zc D) .an),(5,.bs (.loc 5) 1 3 0 i),(20,.sl (ints outs) .an),(21,.i .i64 outs.length),(22,.i .i64 i)],[(.loc 5,⟨1,.own,3,Zc (E.take i)⟩)],3⟩
theorem z4a(t:Tp)(D:List Rat)(hs:TpS t)(hok:okT t=true)(hl:D.length=t.code.length)(hD:∀q∈D,sz q≤1000) :
  Za T 409 [etp t,.sl (Zc (fzs D)) .an]=some (.sl (Zc (fzs (Zcl t D))) .an):=by
 have hr:=zd8 (T:=T) t hs.small;rw[hok]at hr;have hO:=(zga t).1 hok;have hcl:=hO.cl;have hol:t.outs.length≤6:=by have:=hO.ol;have:=hO.d2;omega
 have hel:(Zcl t D).length=t.outs.length:=by simp[Zcl]
 have hloop:Ze T 0 0 (.norm false [5]) l409_0 (Zmu (fzs D) t.outs (fzs (Zcl t D)) 0 .own)=some (.n,⟨[(5,.bs (.loc 5) 1 3 0 t.outs.length)],[(.loc 5,⟨1,.own,3,Zc (fzs (Zcl t D))⟩)],3⟩):=by
  refine zai (fun i=>Zmu (fzs D) t.outs (fzs (Zcl t D)) i .own) t.outs.length _ (fun i hi=>?_) ?_
  ·have hg:t.outs[i]? = some (t.outs[i]'hi):=Ya hi;have hge:=(Yd.1 hg).2;have hws:=zaz hi (by omega);have hmem:=Yi hi;obtain⟨o1,o2⟩:=hO.outs _ hmem;obtain⟨k,hk1,hk2,hk3,hka⟩:=zh6 (D:=D) (a:=t.outs[i]'hi) ⟨o1,by omega⟩;have hkae:=(Yd.1 hka).2;have sa:fsz (fz (gI D (t.outs[i]'hi)))≤1000:=zkq (by decide) hD;have cn:=zcq (T:=T) (fz (gI D (t.outs[i]'hi))) (by omega);rw[za7]at cn;have hx:(fzs (Zcl t D))[i]? = some (fz (gI D (t.outs[i]'hi))):=zdg (by simp[Zcl,hg]);have e:(fzs (Zcl t D)).take (i+1)=(fzs (Zcl t D)).take i++[fz (gI D (t.outs[i]'hi))]:=by
    rw[Ydf,hx]
    rfl
   have hml:((fzs (Zcl t D)).take i).length=i:=by grind
   have hp:=zba (m:=(fzs (Zcl t D)).take i) hml (fz (gI D (t.outs[i]'hi)));have hfl:(fzs D).length=D.length:=zal D;have hi':(i:Int)<t.outs.length:=by omega
   have hb:i≤4294967295:=by omega
   unfold Zmu;rw[e];generalize t.outs[i]'hi=o at *
   subst hk1;simp -implicitDefEqProofs[l409_0,hi,hi',hge,hws,hk2,hk3,hkae,hfl,cn,hp,hml,hb]
  ·have e:(fzs (Zcl t D)).take t.outs.length=fzs (Zcl t D):=Yb (by simp_all);unfold Zmu;rw[e];constructor<;>simp -implicitDefEqProofs[l409_0]
 unfold Zmu at hloop;simp only[Yl,Ya4,zau]at hloop;have hfl:(fzs D).length=t.code.length:=by simp_all
 have hfo:(fzs (Zcl t D)).length=t.outs.length:=by simp_all
 generalize fzs (Zcl t D)=M at *
 have ht:List.take t.outs.length M=M:=Yb (by omega);obtain⟨code,outs,dim,par⟩:=t;rw[zaa Zas.h409 rfl,b409];simp -implicitDefEqProofs[hr,hfl,hloop,hfo,ht]
theorem z0o{lim:Nat}{P:Po}(hlim:lim≤4096):∀(l:List Ins) (D:List Rat),(∀q∈D,sz q≤129)→∀q∈(Za3 lim P l D).1,sz q≤129
 | [],D,h=>h
 | i::r,D,h=>by
  rw[zbz];split
  ·simp
  ·split
   ·simp
   ·refine z0o hlim r _ fun q hq=>?_;rcases Yag.1 hq with hq | hq
    ·exact h q hq
    ·rw[Ybe.1 hq];have:=zj0 (q:=(Z6 P D i).1) (b:=lim) (by omega);omega
theorem z0p(t:Tp)(x:PoF)(bits:Int)(hs:TpS t)(hx:PoS x 1000) :
  Za T 389 [etp t,ept x,.i .i64 bits]=some (.tup [.sl (Zc (fzs (Zce (Zcj bits) t x.v).1)) .an,Zcf (Zce (Zcj bits) t x.v).2.1 0 0 (Zce (Zcj bits) t x.v).2.2]):=by
 have h:=z39 (T:=T) t x bits hs hx;have hlim:=(z0n bits).2;have e0:fzs []=[]:=rfl;unfold Zce;by_cases hk:(Zdq (Zcj bits) t x.v).2.1=0
 ·rw[if_pos hk];have hf:Zil t x.v.y.length x.v.p.length=true:=by
   grind[Zdq]
  have e1:Zdq (Zcj bits) t x.v=Za3 (Zcj bits) x.v t.code []:=by unfold Zdq;grind
  rw[e1]at h hk ⊢;have e2:=(ze9 _ _ _ _ hk).1;have el:(Za3 (Zcj bits) x.v t.code []).1.length=t.code.length:=by
   grind[ze9]
  have ho:=z4a (T:=T) t (Za3 (Zcj bits) x.v t.code []).1 hs ((zga t).2 (zj2 hf).1) el (fun q hq=>Yc (z0o hlim _ _ (by simp) q hq) (by decide));rw[hk,e2]at h;rw[zaa Zas.h389 rfl,b389];simp -implicitDefEqProofs[h,ho]
 ·rw[if_neg hk,e0];have hk':¬ (((Zdq (Zcj bits) t x.v).2.1:Nat):Int)=0:=by omega
  generalize (((Zdq (Zcj bits) t x.v).2.1:Nat):Int)=kk at *
  rw[zaa Zas.h389 rfl,b389];simp -implicitDefEqProofs[h,hk']
end
end Go.Ab
end
section
namespace Go.Ab
structure Sm where
 nm:List UInt8
 c:List Fz
 a:List (List Fz)
 b:List Fz
 e:List Fz
abbrev esm(s:Sm):AV:=.agg [.s s.nm,.sl (Zc s.c) .an,.sl (Zv s.a) .an,.sl (Zc s.b) .an,.sl (Zc s.e) .an]
def Zbf:List (List Fz)→Nat→Bool
 | [],_=>true
 | r::l,i=>decide (r.length=i)&&Zbf l (i+1)
def Zb3(s:Sm):Bool:=decide (1≤s.b.length)&&decide (s.b.length≤8)&&decide (s.c.length=s.b.length)&&decide (s.a.length=s.b.length)&&(decide (s.e.length=s.b.length) || decide (s.e.length=0))&&Zbf s.a 0
def Zb4(x:Fz):Bool:=Zae x&&decide (Zci x≤190)
def Zdu(m:List (List Fz)):Bool:=m.all fun r=>r.all Zb4
def sumF(l:List Fz):Rat:=l.foldl (fun s x=>s+fv x) 0
def Zb5(a:List (List Fz))(c:List Fz):Bool:=(a.zip c).all fun p=>decide (sumF p.1=fv p.2)
def Zgj(s:Sm):Int:=
 if !Zbl 2 s.nm then 1 else if !Zb3 s then 2 else if !(Zdu s.a&&Zdu [s.b,s.c,s.e]) then 3
 else if !Zb5 s.a s.c then 4 else if sumF s.b≠1 then 5 else if s.e≠[]∧sumF s.e≠1 then 6 else 0
def okS(s:Sm):Bool:=decide (Zgj s=0)
structure SmS (s:Sm):Prop where
 nm:s.nm.length≤1000
 cl:s.c.length≤1000
 al:s.a.length≤1000
 bl:s.b.length≤1000
 el:s.e.length≤1000
 c:∀x∈s.c,fsz x≤300
 a:∀r∈s.a,r.length≤1000∧∀x∈r,fsz x≤300
 b:∀x∈s.b,fsz x≤300
 e:∀x∈s.e,fsz x≤300
structure Pb where
 t:Tp
 s:Sm
 p:List Fz
 bits:Int
abbrev epb(p:Pb):AV:=.agg [.sl (Zc9 p.t.code) .an,.sl (ints p.t.outs) .an,.i .i64 p.t.dim,.i .i64 p.t.par,.s p.s.nm,.sl (Zc p.s.c) .an,.sl (Zv p.s.a) .an,.sl (Zc p.s.b) .an,.sl (Zc p.s.e) .an,.sl (Zc p.p) .an,.i .i64 p.bits]
def okP(p:Pb):Bool:=okT p.t&&okS p.s&&decide ((p.p.length:Int)=p.t.par)
end Go.Ab
end
section
namespace Go.Ab
abbrev Zof:Ty:=.cons .str (.cons (.sl tyF) (.cons (.sl (.sl tyF)) (.cons (.sl tyF) (.cons (.sl tyF) .nil))))
abbrev Zn4:Ty:=.cons tyT (.cons Zof (.cons (.sl tyF) (.cons (.int .i64) .nil)))
abbrev Zn5:Ty:=.cons tyF (.cons tyF (.cons tyF (.cons tyF (.cons (.sl tyF) (.cons .bool .nil)))))
abbrev Zn6:Ty:=.cons (.sl Zn5) (.cons tyF (.cons (.sl tyF) .nil))
theorem zt3{cs:List AV}(h:Ok (.sl (.sl tyF)) cs):∃m:List (List Fz),wkR cs=[.sl (Zv m) .an]:=by
 obtain⟨els,f,rfl,_,_,he⟩:=h;obtain⟨m,hm⟩:=zoc els he;exact⟨m,by simp[wkR,wkA,hm]⟩
theorem z2g{cs:List AV}(h:Ok Zof cs):∃s:Sm,wkR cs=[.s s.nm,.sl (Zc s.c) .an,.sl (Zv s.a) .an,.sl (Zc s.b) .an,.sl (Zc s.e) .an]:=by
 obtain⟨c1,c1',rfl,⟨nm,rfl,_⟩,c2,c2',rfl,h2,c3,c3',rfl,h3,c4,c4',rfl,h4,c5,c5',rfl,h5,rfl⟩:=h;obtain⟨c,e2⟩:=zdb h2;obtain⟨a,e3⟩:=zt3 h3;obtain⟨b,e4⟩:=zdb h4;obtain⟨e,e5⟩:=zdb h5;refine⟨⟨nm,c,a,b,e⟩,?_⟩;simp only[zdz,e2,e3,e4,e5]
 rfl
theorem z2h{cs:List AV}(h:Ok tyT cs):∃t:Tp,wkR cs=[.sl (Zc9 t.code) .an,.sl (ints t.outs) .an,.i .i64 t.dim,.i .i64 t.par]∧-9223372036854775808≤t.dim∧t.dim<9223372036854775808:=by
 obtain⟨c1,c1',rfl,⟨els,f,rfl,_,_,he⟩,c2,c2',rfl,⟨els2,f2,rfl,_,_,he2⟩,c3,c3',rfl,⟨d,rfl,wd⟩,c4,c4',rfl,⟨p,rfl,wp⟩,rfl⟩:=h;obtain⟨l,hl⟩:=zsf els he;obtain⟨m,hm⟩:=zsg els2 he2;refine⟨⟨l,m,d,p⟩,?_,zab8 wd⟩;simp[wkA,wkR,hl,hm]
theorem z2i{x:AV}(h:Zh5 (true,Zn4) x):∃p:Pb,wkA x=epb p∧-9223372036854775808≤p.t.dim∧p.t.dim<9223372036854775808:=by
 obtain⟨cs,rfl,c1,c1',rfl,h1,c2,c2',rfl,h2,c3,c3',rfl,h3,c4,c4',rfl,⟨b,rfl,_⟩,rfl⟩:=h;obtain⟨t,e1,d1,d2⟩:=z2h h1;obtain⟨s,e2⟩:=z2g h2;obtain⟨q,e3⟩:=zdb h3;refine⟨⟨t,s,q,b⟩,?_,d1,d2⟩;rw[wkA];simp only[zdz,e1,e2,e3]
 rfl
theorem z2j{cs:List AV}(h:Ok Zn5 cs):∃r:Tr,wkR cs=Ziw r:=by
 obtain⟨c1,c1',rfl,h1,c2,c2',rfl,h2,c3,c3',rfl,h3,c4,c4',rfl,h4,c5,c5',rfl,h5,c6,c6',rfl,⟨b,rfl⟩,rfl⟩:=h;obtain⟨t,e1⟩:=zhz h1;obtain⟨w,e2⟩:=zhz h2;obtain⟨hh,e3⟩:=zhz h3;obtain⟨e,e4⟩:=zhz h4;obtain⟨y,e5⟩:=zdb h5;refine⟨⟨t,w,hh,e,y,b⟩,?_⟩;simp only[zdz,e1,e2,e3,e4,e5]
 rfl
theorem zx0:∀(els:List (List AV)),(∀r∈els,Ok Zn5 r)→∃l:List Tr,wkL els=Zax l
 | [],_=>⟨[],rfl⟩
 | r::els,h=>by
  obtain⟨l,hl⟩:=zx0 els fun r hr=>h r (Yq _ hr);obtain⟨x,hx⟩:=z2j (h r Y8);refine⟨x::l,?_⟩;simp only[wkL,hx,hl]
  rfl
theorem z2k{x:AV}(h:Zh5 (true,Zn6) x):∃a:Hs,wkA x=ehs a:=by
 obtain⟨cs,rfl,c1,c1',rfl,⟨els,f,rfl,_,_,he⟩,c2,c2',rfl,h2,c3,c3',rfl,h3,rfl⟩:=h;obtain⟨l,hl⟩:=zx0 els he;obtain⟨t,e2⟩:=zhz h2;obtain⟨y,e3⟩:=zdb h3;refine⟨⟨l,t,y⟩,?_⟩;rw[wkA];simp only[zdz,e2,e3];simp[wkR,wkA,hl]
end Go.Ab
end
section
namespace Go.Proofs.YtoaggbmfmgfnpaaGreatDoor
open Go Go.Ab Go.ChangeShapes Go.WideShapes Go.ChangeAt Go.RowKit
theorem Tryz.own:ownKnob Tryz.prog.godebug=none:=by kernel_rfl
theorem Tryz.laidOut:laidOutB Tryz.prog=true:=by kernel_rfl
theorem Tryz.mixed:Tryz.prog.follows .mixedOrders=true:=by kernel_rfl
theorem Tryz.rowed:mapsRowed Tryz.prog=true:=by kernel_rfl
theorem Tryz.heard:Tryz.prog.stopsHeard=true:=by kernel_rfl
theorem Tryz.enters:Tryz.prog.mayEnter=true:=by kernel_rfl
theorem Tryz.keys:Tryz.prog.plainKeys=Rows.spanStatesRow.plainKeys:=by kernel_rfl
theorem Tryz.lifts:Tryz.prog.liftsFinal=Rows.spanStatesRow.lifted:=by kernel_rfl
theorem Tryz.makes:Tryz.prog.make=some Rows.spanStatesRow.make:=by kernel_rfl
def laid2:List (String×DataW Unit):=[("unicode/utf8.acceptRanges",Rows.laid_unicode_utf8_acceptRanges),("unicode/utf8.first",Rows.laid_unicode_utf8_first)]
noncomputable def laidWorld(os:Os):World:=
 let put (h:Array Obj) (g:Nat) (cs:Array Value):Array Obj:=h.modify g fun
  | .cells _ t frozen=>.cells cs t frozen
  | o=>o
 let w0:=World.holding Tryz.prog os ⟨#[],#[],[]⟩
 let h1:=put w0.heap 1 (Lib.firstTab.map fun z=>Value.int .u8 z).toArray
 let h2:=put h1 2 ((List.range 16).flatMap fun i=>[Value.int .u8 (Lib.accLo i),Value.int .u8 (Lib.accHi i)]).toArray
 { w0 with heap:=h2 }
theorem laid_met(os:Os)(args:Array Value):laidMetH Tryz.prog laid2 ((laidWorld os).forCall (fun _ _=>0) ⟨#[],args,[]⟩).memory:=
 laidMetH_of_parts3 (fuel:=8) (laidMet_of_run' 8 (by kernel_rfl) (by kernel_rfl)) (by kernel_rfl) (by kernel_rfl)
theorem laid_shaped(os:Os):(laidWorld os).Shaped Tryz.prog:=World.shaped_of_RefB (by kernel_rfl) (by kernel_rfl)
theorem tab_all:TOk Tryz.prog nu (fun u=>lTab.lookup u):=lTab_ok (text_ok Tryz.mixed) (join_ok) (sign_ok)
end Go.Proofs.YtoaggbmfmgfnpaaGreatDoor
end
section
namespace Go.Ab
section
variable{T:Tbl}[Z0 T][Z7 T][Zy T][Zaa T][Zz T][Zab T][Zk T][Zac T][Zcw T][Zd6 T]
theorem zjk(q:Rat):Za T 235 [efz (fz q)]=some (.b (decide (q=0))):=by
 have h:((fz q).2.1.length=0)↔q=0:=by
  constructor
  ·intro h;have h1:(ofN q.num.natAbs).length=0:=h;rw[Ya1]at h1;have h2:val (ofN q.num.natAbs)=0:=by rw[h1];rfl
   rw[zae]at h2;exact zdp.1 (zm2.2 (by omega))
  ·intro h;rw[h,zkd]
   rfl
 rw[zaa Zk.h235 rfl,b235];by_cases hz:q=0
 ·have h1:=h.2 hz;rw[decide_eq_true hz];clear h;generalize fz q=R at *
  obtain⟨r0,r1,r2⟩:=R;dsimp only at h1;have h2:r1=[]:=Ya1.1 h1;subst h2;simp -implicitDefEqProofs
 ·have h1:¬ (fz q).2.1.length=0:=fun hh=>hz (h.1 hh);rw[decide_eq_false hz];clear h;generalize fz q=R at *
  obtain⟨r0,r1,r2⟩:=R;dsimp only at h1;have h2:¬ (r1.length:Int)=0:=by omega
  have h4:r1≠[]:=fun hh=>h1 (by rw[hh];rfl);simp -implicitDefEqProofs[h1,h2,h4]
def hpP(q r:Fz):Heap:=[(.loc 2,⟨1,.str,3,[Z1 q]⟩),(.loc 4,⟨2,.str,3,[[.b false,.sl [] .an,.sl [] .an]]⟩),(.loc 6,⟨3,.str,3,[Z1 r]⟩)]
def Zmg(q r:Fz)(e:Int)(i:Nat):St:=⟨[(1,.i .i64 e),(2,.ptr (.loc 2) 1 3 0 0),(4,.ptr (.loc 4) 2 3 0 0),(6,.ptr (.loc 6) 3 3 0 0),(7,.i .i64 i)],hpP q r,5⟩
def Zka(q r:Fz)(e:Int)(i:Nat):St:=⟨[(1,.i .i64 e),(2,.ptr (.loc 2) 1 3 0 0),(4,.ptr (.loc 4) 2 3 0 0),(6,.ptr (.loc 6) 3 3 0 0),(8,.i .i64 (-(i:Int)))],hpP q r,5⟩
theorem zacc(q:Rat)(hq:sz q≤129)(e:Int)(k:Nat)(hk:k≤8)(he:k=e.toNat) :
  Ze T 0 0 (.norm false [1,2,4,6]) l244_0 (Zmg (fz q) (fz 1) e 0)=some (.n,⟨[(1,.i .i64 e),(2,.ptr (.loc 2) 1 3 0 0),(4,.ptr (.loc 4) 2 3 0 0),(6,.ptr (.loc 6) 3 3 0 0)],hpP (fz q) (fz (q^k)),5⟩):=by
 have e0:(1:Rat)=q^(0:Nat):=(Rat.pow_zero q).symm;rw[e0];refine zai (fun i=>Zmg (fz q) (fz (q^i)) e i) k _ (fun i hi=>?_) ?_
 ·have hs:=zsx q i;have hm:i*sz q≤7*129:=Ybn (by omega) hq;have c:=zd2 (T:=T) (q^i) q (by omega) (by omega);rw[←Rat.pow_succ]at c;have h1:(i:Int)<e:=by omega
  have hw:=zaz hi (by omega);unfold Zmg hpP;generalize fz (q^i)=A at *
  generalize fz (q^(i+1))=B at *
  generalize fz q=Q at *
  obtain⟨a0,a1,a2⟩:=A;obtain⟨b0,b1,b2⟩:=B;obtain⟨q0,q1,q2⟩:=Q;simp -implicitDefEqProofs[l244_0,h1,hw,c]
 ·have h1:¬ (k:Int)<e:=by omega
  unfold Zmg hpP;generalize fz (q^k)=A at *
  generalize fz q=Q at *
  obtain⟨a0,a1,a2⟩:=A;obtain⟨q0,q1,q2⟩:=Q;constructor<;>simp -implicitDefEqProofs[l244_0,h1]
theorem zacd(q:Rat)(hq:sz q≤129)(e:Int)(k:Nat)(hk:k≤8)(he:k=(-e).toNat)(A0:Rat)(hA:A0=1∨k=0) :
  Ze T 0 2 (.norm false [4,6]) l244_1 (Zka (fz q) (fz A0) e 0)=some (.n,⟨[(4,.ptr (.loc 4) 1 3 0 0),(6,.ptr (.loc 6) 2 3 0 0)],[(.loc 4,⟨1,.str,3,[[.b false,.sl [] .an,.sl [] .an]]⟩),(.loc 6,⟨2,.str,3,[Z1 (fz (if k=0 then A0 else (q^k)⁻¹))]⟩)],4⟩):=by
 have fin:∀B:Fz,Zd4 (evX (orc T) T 0 l244_1 (Zka (fz q) B e k))=true∧Zdg 0 2 (.norm false [4,6]) (evX (orc T) T 0 l244_1 (Zka (fz q) B e k))=some (.n,⟨[(4,.ptr (.loc 4) 1 3 0 0),(6,.ptr (.loc 6) 2 3 0 0)],[(.loc 4,⟨1,.str,3,[[.b false,.sl [] .an,.sl [] .an]]⟩),(.loc 6,⟨2,.str,3,[Z1 B]⟩)],4⟩):=by
  intro B;have h1:¬ e < -(k:Int):=by omega
  unfold Zka hpP;generalize fz q=Q at *
  obtain⟨a0,a1,a2⟩:=B;obtain⟨q0,q1,q2⟩:=Q;constructor<;>simp -implicitDefEqProofs[l244_1,h1]
 by_cases hk0:k=0
 ·rw[if_pos hk0];subst hk0;exact zai (fun i=>Zka (fz q) (fz A0) e i) 0 _ (fun i hi=>absurd hi (Nat.not_lt_zero i)) (fin _)
 ·rw[if_neg hk0];have hA1:A0=(q^(0:Nat))⁻¹:=by
   rcases hA with h | h
   ·rw[h,Rat.pow_zero];decide +kernel
   ·exact absurd h hk0
  rw[hA1];refine zai (fun i=>Zka (fz q) (fz (q^i)⁻¹) e i) k _ (fun i hi=>?_) (fin _);have hs:=Yc (z1b (q^i)) (zsx q i);have hm:i*sz q≤7*129:=Ybn (by omega) hq;have c:=zjr (T:=T) (fz (q^i)⁻¹) (fz q) (by rw[zar];omega) (by rw[zar];omega);rw[za7,za7]at c;have er:(q^i)⁻¹/q=(q^(i+1))⁻¹:=by rw[Yds,Rat.pow_succ,Rat.inv_mul_rev,Rat.mul_comm]
  rw[er]at c;have h1:e < -(i:Int):=by omega
  have hw:IntKind.wrap .i64 (-(i:Int)-1)=-((i+1:Nat):Int):=by rw[zac _ (by omega)];omega
  unfold Zka hpP;generalize fz (q^i)⁻¹=A at *
  generalize fz (q^(i+1))⁻¹=B at *
  generalize fz q=Q at *
  obtain⟨a0,a1,a2⟩:=A;obtain⟨b0,b1,b2⟩:=B;obtain⟨q0,q1,q2⟩:=Q;simp -implicitDefEqProofs[l244_1,h1,hw,c]
theorem zy7(q:Rat)(hq:sz q≤129)(e:Int):Za T 244 [efz (fz q),.i .i64 e]=some (.tup [efz (fz (Ze8 q e).1),.b (Ze8 q e).2]):=by
 have c0:=zc3 (T:=T);have c1:=zfj (T:=T);have cz:=zjk (T:=T) q;unfold Ze8;rw[zaa Zd6.h244 rfl,b244];by_cases h1:e < -8
 ·rw[if_neg (by omega)];generalize fz 0=Z at *
  generalize fz q=Q at *
  obtain⟨q0,q1,q2⟩:=Q;obtain⟨z0,z1,z2⟩:=Z;simp -implicitDefEqProofs[c0,h1]
 by_cases h2:8<e
 ·rw[if_neg (by omega)];generalize fz 0=Z at *
  generalize fz q=Q at *
  obtain⟨q0,q1,q2⟩:=Q;obtain⟨z0,z1,z2⟩:=Z;simp -implicitDefEqProofs[c0,h1,h2]
 by_cases h3:e<0∧q=0
 ·rw[if_neg (fun hh=>hh.2.2 h3)];rw[decide_eq_true h3.2]at cz;have h4:=h3.1;generalize fz 0=Z at *
  generalize fz q=Q at *
  obtain⟨q0,q1,q2⟩:=Q;obtain⟨z0,z1,z2⟩:=Z;simp -implicitDefEqProofs[c0,h1,h2,h4,cz]
 ·rw[if_pos ⟨by omega,by omega,h3⟩];have a:=zacc (T:=T) q hq e e.toNat (by omega) rfl;have b:=zacd (T:=T) q hq e (-e).toNat (by omega) rfl (q^e.toNat) (by
   by_cases hh:(-e).toNat=0
   ·exact .inr hh
   ·left;rw[show e.toNat=0 by omega,Rat.pow_zero])
  have ep:(if (-e).toNat=0 then q^e.toNat else (q^(-e).toNat)⁻¹)=Zip q e:=by
   unfold Zip;by_cases hh:(-e).toNat=0
   ·rw[if_pos hh];obtain⟨n,rfl⟩:∃n:Nat,e=n:=⟨e.toNat,by omega⟩;rw[Ycb,Ycm]
   ·rw[if_neg hh];obtain⟨n,rfl⟩:∃n:Nat,e=-n:=⟨(-e).toNat,by omega⟩;rw[show (-(-(n:Int))).toNat=n by omega,Rat.zpow_neg,Ycm]
  rw[ep]at b;unfold Zmg hpP at a;unfold Zka hpP at b;simp only[Yl,Int.neg_zero]at a b;generalize fz (Zip q e)=R at *
  generalize fz (q^e.toNat)=M at *
  generalize fz 1=W at *
  have h4:e<0→decide (q=0)=false:=fun h=>decide_eq_false fun hh=>h3 ⟨h,hh⟩;generalize decide (q=0)=D at *
  generalize fz q=Q at *
  obtain⟨q0,q1,q2⟩:=Q;obtain⟨w0,w1,w2⟩:=W;obtain⟨m0,m1,m2⟩:=M;obtain⟨r0,r1,r2⟩:=R;clear ep c0;by_cases h5:e<0
  ·rw[h4 h5]at cz;simp -implicitDefEqProofs[c1,h1,h2,h5,cz,a,b]
  ·simp -implicitDefEqProofs[c1,h1,h2,h5,a,b]
end
end Go.Ab
end
section
namespace Go.Ab
class Zn8 (T:Tbl):Prop where
end Go.Ab
end
section
namespace Go.Ab
class Zl6 (T:Tbl):Prop where
end Go.Ab
end
section
namespace Go.Ab
class Znv (T:Tbl):Prop where
end Go.Ab
end
section
namespace Go.Ab
structure Nd where
 op:Int
 i:Int
 n:List UInt32
 deriving DecidableEq
abbrev Zp1(x:Nd):List AV:=[.i .i64 x.op,.i .i64 x.i,.sl (Zb x.n) .an]
def Zhq(l:List Nd):List (List AV):=l.map Zp1
@[simp] theorem zafv:Zhq []=[]:=rfl
@[simp] theorem zadb(l:List Nd):Option.all (fun r:List AV=>decide (r.length=3)) (Zhq l).head? = true:=by cases l<;>rfl
@[simp] theorem zadc(l:List Nd):Zj2 3 (Zhq l)=true:=by cases l<;>rfl
@[simp] theorem z5s(l:List Nd):(Zhq l).isEmpty=l.isEmpty:=by cases l<;>rfl
def Zo6(l:List (List Nd)):List (List AV):=l.map fun c=>[.sl (Zhq c) .an]
@[simp] theorem zafw:Zo6 []=[]:=rfl
def arN(op:Int):Int:=if 1≤op∧op≤5 then 0 else if op=6∨op=11 then 1 else if 7≤op∧op≤10 then 2 else -1
def Zm4:Nat→Int→List Nd→Int
 | i,o,[]=>if o=1 then -1 else i
 | i,o,x::r=>if arN x.op<0∨o<arN x.op then i else Zm4 (i+1) (o+1-arN x.op) r
def Zm5(l:List Nd):Int:=Zm4 0 0 l
def Zqx(o:Int)(l:List Nd):Int:=l.foldl (fun o x=>o+1-arN x.op) o
def goL:Nat→Int→List Nd→Option Nat×Int
 | _,o,[]=>(none,o)
 | i,o,x::r=>if arN x.op<0∨o<arN x.op then (some i,o) else goL (i+1) (o+1-arN x.op) r
def Zoc(n:List UInt32):Bool:=decide (n=ofN (val n))&&decide ((Zbb (val n)).length≤60)
def Zod(i m:Int):Bool:=decide (0≤i)&&decide (i<m)
def okN(dim pars lets:Int)(x:Nd):Bool:=
 if x.op=1 then decide (x.i=0)&&Zoc x.n
 else if x.n≠[]∨x.op<1∨11<x.op then false
 else if x.op=3 then Zod x.i dim else if x.op=4 then Zod x.i pars else if x.op=5 then Zod x.i lets
 else if x.op=11 then decide (-8≤x.i)&&decide (x.i≤8)
 else decide (x.i=0)
def Zm6(dim pars lets w:Int):Nat→List Nd→Int
 | _,[]=>w
 | i,x::r=>if (i:Int)=w∨okN dim pars lets x=false then i else Zm6 dim pars lets w (i+1) r
def Zo7(dim pars lets w:Int):Nat→List Nd→Option Nat
 | _,[]=>none
 | i,x::r=>if (i:Int)=w∨okN dim pars lets x=false then some i else Zo7 dim pars lets w (i+1) r
def Zj0(dim pars lets:Int)(l:List Nd):Int:=Zm6 dim pars lets (Zm5 l) 0 l
inductive Tre where
 | leaf (x:Nd)
 | un (x:Nd) (a:Tre)
 | bin (x:Nd) (a b:Tre)
def Tre.flat:Tre→List Nd
 | .leaf x=>[x]
 | .un x a=>a.flat++[x]
 | .bin x a b=>a.flat++(b.flat++[x])
def Tre.ok:Tre→Prop
 | .leaf x=>arN x.op=0
 | .un x a=>arN x.op=1∧a.ok
 | .bin x a b=>arN x.op=2∧a.ok∧b.ok
def Tre.deep:Tre→Nat
 | .leaf _=>1
 | .un _ a=>a.deep+1
 | .bin _ a b=>max a.deep b.deep+1
def Zqy(s:List Tre):List Nd:=s.flatMap Tre.flat
end Go.Ab
end
section
namespace Go.Ab
section
variable{T:Tbl}[Zl6 T]
def Zrn(l:List Nd)(p:Nat×Int):St:=⟨[(0,.sl (Zhq l) .an),(3,.i .i64 p.2),(7,.sl (Zhq l) .an),(8,.i .i64 l.length),(9,.i .i64 p.1)],[],2⟩
variable[Zaj T][Zs T][Za0 T][Znv T]
def Zro(l:List Nd)(dim pars lets w:Int)(i:Nat):St:=⟨[(1,.i .i64 dim),(2,.i .i64 pars),(3,.i .i64 lets),(9,.i .i64 w),(14,.sl (Zhq l) .an),(15,.i .i64 l.length),(16,.i .i64 i)],[],2⟩
end
end Go.Ab
end
section
namespace Go.Ab
structure Lt where
 name:List UInt8
 code:List Nd
abbrev Zo1(x:Lt):List AV:=[.s x.name,.sl (Zhq x.code) .an]
def Zn0(l:List Lt):List (List AV):=l.map Zo1
@[simp] theorem zacy:Zn0 []=[]:=rfl
structure Fd where
 lets:List Lt
 outs:List (List Nd)
abbrev efd(f:Fd):AV:=.agg [.sl (Zn0 f.lets) .an,.sl (Zo6 f.outs) .an]
def codesD(f:Fd):List (List Nd):=f.lets.map (·.code)++f.outs
end Go.Ab
end
section
namespace Go.Ab
def Ze1(op:Int)(l:List (List Nd)):List Nd:=l.flatten++[⟨op,0,[]⟩]
def kNd(n:Int):List Nd:=[⟨1,0,if n=0 then [] else [w32 n.toNat]⟩]
def Zoy(a:List Nd)(e:Int):List Nd:=a++[⟨11,e,[]⟩]
def Zin(op:Int)(d o:List Nd)(first:Bool):List Nd:=if d=[] then [] else if first then Ze1 op [d,o] else Ze1 op [o,d]
def Zmz(op:Int)(a b:List Nd):List Nd:=if b=[] then a else if a≠[] then Ze1 op [a,b] else if op=8 then Ze1 6 [b] else b
def Zpu(x:Nd)(a da:List Nd):List Nd:=
 if da=[]∨(x.op=11∧x.i=0) then [] else if x.op=6 then Ze1 6 [da]
 else if 0<x.i then Ze1 9 [Ze1 9 [kNd x.i,Zoy a (x.i-1)],da]
 else Ze1 6 [Ze1 10 [Ze1 9 [Ze1 9 [kNd (-x.i),Zoy a x.i],da],a]]
def Zpv(d b o:List Nd):List Nd:=if Zin 9 d o false=[] then [] else Ze1 10 [Zin 9 d o false,Ze1 9 [b,b]]
def Zpw(op:Int)(a da b db:List Nd):List Nd:=
 if op=9 then Zmz 7 (Zin 9 da b true) (Zin 9 db a false)
 else if op=10 then Zmz 8 (Zin 10 da b true) (Zpv db b a)
 else Zmz op da db
def Tre.der(u:Nd):Tre→List Nd
 | .leaf x=>if x.op=u.op∧x.i=u.i then kNd 1 else []
 | .un x a=>Zpu x a.flat (a.der u)
 | .bin x a b=>Zpw x.op a.flat (a.der u) b.flat (b.der u)
def Zrs(a b:List Nd)(op i:Int):List Nd:=a++b++[⟨op,i,[]⟩]
def thin(w:Nat)(l:List Nd):Prop:=∀x∈l,x.n.length≤w
def Zqv(s:List Tre)(x:Nd):List Tre:=
 if arN x.op=0 then .leaf x::s else
  match s with
  | []=>[]
  | a::s1=>if arN x.op=1 then .un x a::s1 else
   match s1 with
   | []=>[]
   | b::s2=>.bin x b a::s2
abbrev Pc:=List Nd×List Nd
def pcs(u:Nd)(s:List Tre):List Pc:=s.reverse.map fun t=>(t.flat,t.der u)
def Zrt(l:List Pc):Nat:=(l.map fun p=>p.1.length).sum
end Go.Ab
end
section
namespace Go.Ab
def dps(l:List Nat):List (List AV):=l.map fun n=>[.i .i64 (n:Nat)]
@[simp] theorem zajn:dps []=[]:=rfl
def Zps(s:List Nat)(x:Nd):List Nat:=if arN x.op=0 then 1::s else if arN x.op=1 then (s.headD 0+1)::s.tail else (max (s.headD 0) (s.tail.headD 0)+1)::s.tail.tail
def Zot:List Nat→List Nd→List Nat
 | s,[]=>s
 | s,x::r=>Zot (Zps s x) r
def Zpt(l:List Nd):Nat:=if Zm5 l=-1 then (Zot [] l).headD 0 else 0
section
variable{T:Tbl}[Zl6 T][Zn8 T]
def Zqu(w n:Nat)(f:Fd):Prop:=∀c∈codesD f,c.length≤n∧thin w c
def Znx(f:Fd):Nat:=((codesD f).map List.length).sum
def mxT(F:List Nat)(k:Nat):Nat→Nat
 | 0=>0
 | j+1=>max (mxT F k j) (F.getD (k-j-1) 0)
def Zrp(l:List Nd)(F:List Nat)(i k a j:Nat):St:=⟨[(3,.bs (.loc 3) 1 1 0 (k-j)),(6,.i .i64 (mxT F k j:Nat)),(10,.sl (Zhq l) .an),(11,.i .i64 l.length),(12,.i .i64 i),(18,.i .i64 a),(19,.i .i64 j)],[(.loc 3,⟨1,.own,1,dps F⟩)],3⟩
def Zrq(l:List Nd)(F:List Nat)(k i:Nat):St:=⟨[(3,.bs (.loc 3) 1 1 0 k),(10,.sl (Zhq l) .an),(11,.i .i64 l.length),(12,.i .i64 i)],[(.loc 3,⟨1,.own,1,dps F⟩)],3⟩
end
end Go.Ab
end
section
namespace Go.Ab
def nameB(s:List UInt8):Bool:=Zbl 2 s&&decide (s≠[116])&&decide (s≠[121])&&decide (s≠[112])&&decide (s≠[108,101,116])
def twB(l:List Lt)(nm:List UInt8):Bool:=l.any fun x=>decide (x.name=nm)
def ptA(dim pars lets:Int)(c:List Nd):Int:=if Zj0 dim pars lets c<0∧40<Zpt c then c.length else Zj0 dim pars lets c
def Zow(dim pars:Int)(L:List Lt):Nat→List Lt→Option (Int×Int×Int)
 | _,[]=>none
 | i,x::r=>if nameB x.name=false∨twB (L.take i) x.name=true then some ((i:Int)+1,1,0) else if 0≤ptA dim pars i x.code then some ((i:Int)+1,0,ptA dim pars i x.code) else Zow dim pars L (i+1) r
def Zox(dim pars:Int)(n:Nat):Nat→List (List Nd)→Option (Int×Int×Int)
 | _,[]=>none
 | i,c::r=>if 0≤ptA dim pars n c then some (((n+i:Nat):Int)+1,0,ptA dim pars n c) else Zox dim pars n (i+1) r
def whB(f:Fd)(dim pars:Int):Bool:=decide (1≤dim∧dim≤6∧0≤pars∧pars≤6∧(f.outs.length:Int)=dim∧f.lets.length≤10∧Znx f≤300)
def Zrr(f:Fd)(dim pars:Int):Option (Int×Int×Int):=
 if whB f dim pars=false then some (0,0,0) else match Zow dim pars f.lets 0 f.lets with
  | some q=>some q
  | none=>Zox dim pars f.lets.length 0 f.outs
end Go.Ab
end
section
namespace Go.Ab
class Zn7 (T:Tbl):Prop where
end Go.Ab
end
section
namespace Go.Ab
def Znz(P:Po)(ls:List Rat)(x:Nd):Rat:=if x.op=1 then ((val x.n:Nat):Rat) else if x.op=3 then gI P.y x.i else if x.op=4 then gI P.p x.i else if x.op=5 then gI ls x.i else P.t
def unV(x:Nd)(a:Rat):Rat×Bool:=if x.op=6 then (-a,true) else Ze8 a x.i
def biV(op:Int)(a b:Rat):Rat×Bool:=if op=7 then (a+b,true) else if op=8 then (a-b,true) else if op=9 then (a*b,true) else (a/b,decide (b≠0))
def Zm1(lim:Nat)(v:Rat×Bool)(i:Nat):Rat×Nat×Nat:=if v.2=false then (0,3,i) else if lim<Zf3 v.1 then (0,6,i) else (v.1,0,0)
def Zf8(P:Po)(ls:List Rat)(s:List Rat)(x:Nd):(Rat×Bool)×List Rat:=
 if arN x.op=0 then ((Znz P ls x,true),s) else if arN x.op=1 then (unV x (s.headD 0),s.tail) else (biV x.op (s.tail.headD 0) (s.headD 0),s.tail.tail)
def Zgv(lim:Nat)(P:Po)(ls:List Rat):Nat→List Rat→List Nd→Rat×Nat×Nat
 | _,s,[]=>(s.headD 0,0,0)
 | i,s,x::r=>if (Zm1 lim (Zf8 P ls s x).1 i).2.1≠0 then Zm1 lim (Zf8 P ls s x).1 i else Zgv lim P ls (i+1) ((Zf8 P ls s x).1.1::(Zf8 P ls s x).2) r
def evT(lim:Nat)(P:Po)(ls:List Rat):Tre→Nat→Rat×Nat×Nat
 | .leaf x,i=>Zm1 lim (Znz P ls x,true) i
 | .un x a,i=>if (evT lim P ls a i).2.1≠0 then evT lim P ls a i else Zm1 lim (unV x (evT lim P ls a i).1) (i+a.flat.length)
 | .bin x a b,i=>if (evT lim P ls a i).2.1≠0 then evT lim P ls a i else if (evT lim P ls b (i+a.flat.length)).2.1≠0 then evT lim P ls b (i+a.flat.length)
   else Zm1 lim (biV x.op (evT lim P ls a i).1 (evT lim P ls b (i+a.flat.length)).1) (i+a.flat.length+b.flat.length)
def Zo0(lim:Nat)(P:Po)(ls:List Rat):List Rat→List Nd→Int→Int→Int×Int
 | _,[],c,p=>(c,p)
 | s,x::r,c,p=>if (Zf8 P ls s x).1.2=false then (c,p) else if lim<Zf3 (Zf8 P ls s x).1.1 then (Zgg c,Zg5 p (fz (Zf8 P ls s x).1.1))
   else Zo0 lim P ls ((Zf8 P ls s x).1.1::(Zf8 P ls s x).2) r (Zgg c) (Zg5 p (fz (Zf8 P ls s x).1.1))
end Go.Ab
end
section
namespace Go.Ab
abbrev hpA(gk:Nat)(Q:PoF)(LS:List Fz)(s p L seen:Int)(F:List Fz)(m:Nat):Heap:=
 [(.bor 0,⟨0,.str,9,[[.b Q.t.1,.sl (Zb Q.t.2.1) .an,.sl (Zb Q.t.2.2) .an,.sl (Zc Q.y) .an,.sl (Zc Q.p) .an,.sl (Zc LS) .an,.ptr (.bor 1) 1 3 0 0,.i .i64 seen,.bs (.bor 2) gk 3 0 m]]⟩),(.bor 1,bxG 1 s p L),(.bor 2,⟨gk,.own,3,Zc F⟩)]
abbrev wP:AV:=.ptr (.bor 0) 0 9 0 0
end Go.Ab
end
section
namespace Go.Ab
abbrev Zpg(z:Fz):Box:=⟨7,.str,3,[[.b z.1,.sl (Zb z.2.1) .an,.sl (Zb z.2.2) .an]]⟩
abbrev Zph(a b c d:Int):Box:=⟨8,.str,4,[[.i .i64 a,.i .i64 b,.i .i64 c,.i .i64 d]]⟩
abbrev hqA(gk:Nat)(Q:PoF)(LS:List Fz)(s p L seen:Int)(F:List Fz)(m:Nat)(z:Fz)(a b c d:Int):Heap:=
 [(.bor 0,⟨0,.str,9,[[.b Q.t.1,.sl (Zb Q.t.2.1) .an,.sl (Zb Q.t.2.2) .an,.sl (Zc Q.y) .an,.sl (Zc Q.p) .an,.sl (Zc LS) .an,.ptr (.bor 1) 1 3 0 0,.i .i64 seen,.bs (.bor 2) gk 3 0 m]]⟩),(.bor 1,bxG 1 s p L),(.bor 2,⟨gk,.own,3,Zc F⟩),(.loc 4,Zpg z),(.loc 5,Zph a b c d)]
def Zq0(gk:Nat)(Q:PoF)(LS:List Fz)(s p L seen:Int)(F:List Fz)(m:Nat)(code:List Nd)(i:Nat):St:=
 ⟨[(0,wP),(4,.ptr (.loc 4) 7 3 0 0),(5,.ptr (.loc 5) 8 4 0 0),(18,.sl (Zhq code) .an),(19,.i .i64 code.length),(20,.i .i64 i)],hqA gk Q LS s p L seen F m (false,[],[]) 0 0 0 0,10⟩
def Zok(gk:Nat)(Q:PoF)(LS:List Fz)(s p L seen:Int)(F:List Fz)(m:Nat):Ex×St:=
 (.n,⟨[(0,wP),(4,.ptr (.loc 4) 7 3 0 0),(5,.ptr (.loc 5) 8 4 0 0)],hqA gk Q LS s p L seen F m (false,[],[]) 0 0 0 0,10⟩)
def Zol(gk:Nat)(Q:PoF)(LS:List Fz)(s p L seen:Int)(F:List Fz)(m:Nat)(kind at_:Int):Ex×St:=
 (.r,⟨[(4,.ptr (.loc 4) 7 3 0 0),(5,.ptr (.loc 5) 8 4 0 0)],hqA gk Q LS s p L seen F m (fz 0) kind 0 0 at_,10⟩)
end Go.Ab
end
section
namespace Go.Ab
section
variable{T:Tbl}[Zaj T][Zs T][Z2 T][Z4 T][Zu T][Zw T][Zf T][Zl T][Zp T][Ze6 T][Zah T][Za4 T][Zdh T][Zal T][Zar T][Zbs T][Zn7 T][Zl6 T][Za0 T][Znv T]
def Zp4(P:Po)(lim:Nat)(ls:List Rat)(n:Nat)(R:Rat×Nat×Nat)(r:Ex×St):Prop:=
 (R.2.1=0∧∃gk s p F,(gk=2∨gk=6)∧F[0]? = some (fz R.1)∧F.length≤5000∧r=Zok gk P.f (fzs ls) s p lim n F 1) ∨
 (R.2.1≠0∧∃gk s p seen F m,(gk=2∨gk=6)∧r=Zol gk P.f (fzs ls) s p lim seen F m R.2.1 R.2.2)
end
end Go.Ab
end
section
namespace Go.Ab
end Go.Ab
end
section
namespace Go.Ab
abbrev Zq2(a b c d:Int):AV:=.agg [.i .i64 a,.i .i64 b,.i .i64 c,.i .i64 d]
end Go.Ab
end
section
namespace Go.Ab
def Zm0(lim:Nat)(P:Po):Nat→List Rat→List (List Nd)→Nat×List Rat×Nat×Nat
 | n,ls,[]=>(n,ls,0,0)
 | n,ls,c::r=>if (Zgv lim P ls n [] c).2.1≠0 then (n,ls,(Zgv lim P ls n [] c).2.1,(Zgv lim P ls n [] c).2.2) else Zm0 lim P (n+c.length) (ls++[(Zgv lim P ls n [] c).1]) r
def Zoz(lim:Nat)(P:Po)(ls:List Rat):Nat→List Rat→List (List Nd)→List Rat×Nat×Nat
 | _,os,[]=>(os,0,0)
 | n,os,c::r=>if (Zgv lim P ls n [] c).2.1≠0 then ([],(Zgv lim P ls n [] c).2.1,(Zgv lim P ls n [] c).2.2) else Zoz lim P ls (n+c.length) (os++[(Zgv lim P ls n [] c).1]) r
def evD(lim:Nat)(P:Po)(f:Fd):List Rat×Nat×Nat:=
 if (Zm0 lim P 0 [] (f.lets.map (·.code))).2.2.1≠0 then ([],(Zm0 lim P 0 [] (f.lets.map (·.code))).2.2) else Zoz lim P (Zm0 lim P 0 [] (f.lets.map (·.code))).2.1 (Zm0 lim P 0 [] (f.lets.map (·.code))).1 [] f.outs
structure FineD (f:Fd) (dim pars:Int):Prop where
 wh:1≤dim∧dim≤6∧0≤pars∧pars≤6∧(f.outs.length:Int)=dim∧f.lets.length≤10∧Znx f≤300
 lets:∀k x,f.lets[k]? = some x→Zj0 dim pars (k:Nat) x.code<0
 outs:∀c∈f.outs,Zj0 dim pars f.lets.length c<0
end Go.Ab
end
section
namespace Go.Ab
class Zo8 (T:Tbl):Prop where
end Go.Ab
end
section
namespace Go.Ab
class Zoh (T:Tbl):Prop where
end Go.Ab
end
section
namespace Go.Ab
class Zpf (T:Tbl):Prop where
end Go.Ab
end
section
namespace Go.Ab
def prim344:List AV→Option AV
 | [.s s,.s [47,46]]=>if s.length≤1000000 then some (.i .i64 (Lib.indexAny s [47,46])) else none
 | _=>none
def prim194:List AV→Option AV
 | [.s s,.s [c]]=>some (.i .i64 (Lib.indexByte s c))
 | _=>none
def prim361:List AV→Option AV
 | [.s s,.s [c]]=>some (.i .i64 (Lib.countByte s c))
 | _=>none
def prim343:List AV→Option AV
 | [.s [48],.i .i64 n]=>if 0≤n∧n≤64 then some (.s (List.replicate n.toNat 48)) else none
 | _=>none
end Go.Ab
end
section
namespace Go.Ab
class Zoj (T:Tbl):Prop where
end Go.Ab
end
section
namespace Go.Ab
class Zl5 (T:Tbl):Prop where
end Go.Ab
end
section
namespace Go.Ab
def Zkv(c:UInt8):List UInt8→List (List UInt8)
 | []=>[[]]
 | b::l=>if b=c then []::Zkv c l else match Zkv c l with
  | []=>[[b]]
  | p::r=>(b::p)::r
section
variable{T:Tbl}[Zoj T][Zl5 T]
def Zrm(c:UInt8)(N:Nat)(ps:List (List UInt8))(s:List UInt8):St:=
 ⟨[(0,.s s),(1,.s [c]),(2,.i .i64 0),(3,.i .i64 ((N:Int)-1)),(9,.bs (.loc 31) 1 1 0 N),(10,.i .i64 ps.length)],[(.loc 31,⟨1,.own,1,Zb7 ps++List.replicate (N-ps.length) [.s []]⟩)],3⟩
end
end Go.Ab
end
section
namespace Go.Ab
abbrev flt(k a:Int):AV:=.agg [.i .i64 k,.i .i64 0,.i .i64 0,.i .i64 a]
def Zom(c:UInt8):Bool:=c == 47 || c == 46
def Zl7:List UInt8→Nat
 | []=>0
 | c::r=>if Zom c then 0 else Zl7 r+1
def Zpi(z:Int)(neg:Bool)(s:List UInt8)(c:UInt8)(at_:Nat):Rat×Int×Int:=
 let rest:=s.drop at_
 if 0≤Zkx rest then (0,1,Zkx rest+at_)
 else if c=47 then (if rd rest=0 then (0,2,at_) else (mkRat z (rd rest),0,0))
 else (mkRat (sg neg (z.natAbs*10^rest.length+rd rest)) (10^rest.length),0,0)
def Zna(s:List UInt8):Rat×Int×Int:=
 let first:=s.take (Zl7 s)
 if 0≤Zmy first then (0,1,Zmy first+Zov first)
 else if Zl7 s<s.length then Zpi (Zny first) (s.head? = some 45) s (s.getD (Zl7 s) 0) (Zl7 s+1)
 else (mkRat (Zny first) 1,0,0)
end Go.Ab
end
section
namespace Go.Ab
def Znw:List (List UInt8)→Nat→List Rat→List Rat×Int×Int
 | [],_,acc=>(acc,0,0)
 | w::ws,k,acc=>if (Zna w).2.1=0 then Znw ws (k+w.length+1) (acc++[(Zna w).1]) else ([],(Zna w).2.1,(Zna w).2.2+k)
def Zq3(s:List UInt8):List Rat×Int×Int:=if s=[] then ([],0,0) else Znw (Zkv 44 s) 0 []
section
variable{T:Tbl}[Zaj T][Zs T][Z2 T][Z4 T][Zu T][Zw T][Zap T][Za0 T][Zf T][Zl T][Zp T][Ze6 T][Zoj T][Zl5 T][Zdh T][Zpf T][Zaz T][Zbr T][Zoh T]
def Zq4(ws:List (List UInt8))(y:Nat×Nat×List Rat):St:=
 ⟨[(3,.ptr (.loc 3) 1 4 0 0),(4,.bs (.loc 4) 2 3 0 y.2.2.length),(5,.i .i64 y.2.1),(14,.sl (Zb7 ws) .an),(15,.i .i64 ws.length),(16,.i .i64 y.1)],
  [(.loc 3,⟨1,.str,4,[[.i .i64 0,.i .i64 0,.i .i64 0,.i .i64 0]]⟩),(.loc 4,⟨2,.own,3,Zc (fzs y.2.2)⟩)],4⟩
def Zp5(r:List Rat×Int×Int):Option (Ex×St):=
 if r.2.1=0 then some (.n,⟨[(3,.ptr (.loc 3) 1 4 0 0),(4,.bs (.loc 4) 2 3 0 r.1.length)],[(.loc 3,⟨1,.str,4,[[.i .i64 0,.i .i64 0,.i .i64 0,.i .i64 0]]⟩),(.loc 4,⟨2,.own,3,Zc (fzs r.1)⟩)],4⟩)
 else some (.r,⟨[(2,.sl [] .an),(3,.ptr (.loc 3) 1 4 0 0)],[(.loc 3,⟨1,.str,4,[[.i .i64 r.2.1,.i .i64 0,.i .i64 0,.i .i64 r.2.2]]⟩)],3⟩)
end
end Go.Ab
end
section
namespace Go.Ab
end Go.Ab
end
section
namespace Go.Ab
def Zid(t:Tp)(many words:Nat):Bool:=((t.code.take many).any fun i=>decide (words<fsz i.n)) || decide (many<t.code.length) || decide (many<t.outs.length)
theorem zjf{t:Tp}{many words:Nat}(h:Zid t many words=false):t.code.length≤many∧t.outs.length≤many∧∀i∈t.code,fsz i.n≤words:=by
 unfold Zid at h;simp only[Yb9,decide_eq_false_iff_not,Yd7,decide_eq_true_eq]at h;obtain⟨⟨h1,h2⟩,h3⟩:=h;rw[Yb (by omega)]at h1;exact⟨by omega,by omega,fun x hx=>by have:=h1 x hx;omega⟩
def Zqe(x:PoF)(many words:Nat):Bool:=decide (words<fsz x.t) || Zan x.y many words || Zan x.p many words
section
variable{T:Tbl}[Z0 T][Z7 T][Zy T][Zaa T][Zz T][Zab T][Zk T][Zac T][Zb1 T][Zbq T][Zdr T]
def Zk9(t:Tp)(many words i:Nat):St:=⟨[(1,.i .i64 many),(2,.i .i64 words),(3,.ptr (.loc 3) 1 4 0 0),(7,.i .i64 i)],[(.loc 3,bxT t)],3⟩
def Znb(t:Tp)(many:Nat):Ex×St:=(.n,⟨[(1,.i .i64 many),(3,.ptr (.loc 3) 1 4 0 0)],[(.loc 3,bxT t)],3⟩)
theorem zud(t:Tp)(many words:Nat)(hm:many≤1000) :
  Ze T 0 0 (.norm false [1,3]) l379_0 (Zk9 t many words 0)=if (t.code.take many).any (fun i=>decide (words<fsz i.n))=true then some (.r,⟨[(6,.b true)],[],2⟩) else some (Znb t many):=by
 have e0:t.code.take many=(t.code.take many).drop 0:=rfl;rw[e0];obtain⟨n,hn⟩:∃n,n=(t.code.take many).length:=⟨_,rfl⟩;have hn':n≤many∧n≤t.code.length∧(n=many∨n=t.code.length):=by rw[hn,Yaj];omega
 refine zak (Zk9 t many words) n (fun i=>if ((t.code.take many).drop i).any (fun x=>decide (words<fsz x.n))=true then some (.r,⟨[(6,.b true)],[],2⟩) else some (Znb t many)) (fun i hi=>?_) ?_
 ·have h1:i<t.code.length:=by omega
  have h2:(i:Int)<t.code.length:=by omega
  have h3:i<many:=by omega
  have h4:(i:Int)<many:=by omega
  have hg:t.code[i]? = some (t.code[i]'h1):=Ya h1;have hws2:=zaz h3 (by omega);have c:=zd1 (T:=T) (t.code[i]'h1).n words;have key:((t.code.take many).drop i).any (fun x=>decide (words<fsz x.n))=(decide (words<fsz (t.code[i]'h1).n) || ((t.code.take many).drop (i+1)).any fun x=>decide (words<fsz x.n)):=by
   rw[Ye (by rw[←hn];exact hi),Yeb,List.getElem_take]
  by_cases he:words<fsz (t.code[i]'h1).n
  ·right;rw[if_pos (by rw[key,decide_eq_true he,Yeq])];rw[decide_eq_true he]at c;unfold Zk9 bxT;clear key he hn hn';constructor<;>simp -implicitDefEqProofs[l379_0,h1,h2,h3,h4,hg,c]
  ·left;refine⟨?_,by simp only[key,decide_eq_false he,Bool.false_or]⟩;rw[decide_eq_false he]at c;unfold Zk9 bxT;clear key he hn hn';simp -implicitDefEqProofs[l379_0,h1,h2,h3,h4,hg,hws2,c]
 ·rw[Yas (by omega),if_neg (by simp)];unfold Zk9 Znb bxT;by_cases hc:n<t.code.length
  ·have h5:n=many:=by omega
   have h6:(n:Int)<t.code.length:=by omega
   subst h5;constructor<;>simp -implicitDefEqProofs[l379_0,hc,h6]
  ·have h5:¬ (n:Int)<t.code.length:=by omega
   constructor<;>simp -implicitDefEqProofs[l379_0,hc,h5]
theorem zue(t:Tp)(many words:Nat)(hm:many≤1000):Za T 379 [etp t,.i .i64 many,.i .i64 words]=some (.b (Zid t many words)):=by
 have h:=zud (T:=T) t many words hm;unfold Zk9 Znb bxT at h;simp only[Yl]at h;unfold Zid;generalize ((t.code.take many).any fun i=>decide (words<fsz i.n))=B at *
 obtain⟨code,outs,dim,par⟩:=t;dsimp only at *
 rw[zaa Zdr.h379 rfl,b379];cases B with
 | true=>
  rw[if_pos rfl]at h;simp -implicitDefEqProofs[h]
 | false=>
  rw[if_neg (by decide)]at h;by_cases h1:many<code.length
  ·have h2:(many:Int)<code.length:=by omega
   simp -implicitDefEqProofs[h,h1,h2]
  ·have h2:¬ (many:Int)<code.length:=by omega
   have e:decide ((many:Int)<outs.length)=decide (many<outs.length):=by
    by_cases h3:many<outs.length
    ·rw[decide_eq_true h3,decide_eq_true (by omega)]
    ·rw[decide_eq_false h3,decide_eq_false (by omega)]
   simp -implicitDefEqProofs[h,h1,h2,e]
@[simp] theorem zajd(l:List Int):Option.all (fun r=>decide (r.length=1)) (ints l).head? = true:=by cases l<;>rfl
def fC:BId:=.fld (.loc 3) 0
def Zkn(t:Tp)(i:Nat):St:=⟨[(1,.ptr (.loc 1) 1 4 0 0),(2,.ptr (.loc 2) 2 4 0 0),(3,.ptr (.loc 3) 3 4 0 0),(4,.i .i64 i)],
 [(.loc 1,bxT t),(.loc 2,⟨2,.str,4,[[.sl [] .an,.sl [] .an,.i .i64 0,.i .i64 0]]⟩),(.loc 3,⟨3,.str,4,[[.bs fC 4 6 0 i,.bs (.loc 13) 5 1 0 t.outs.length,.i .i64 t.dim,.i .i64 t.par]]⟩),(fC,⟨4,.own,6,Zc9 (t.code.take i)⟩),(.loc 13,⟨5,.own,1,ints t.outs⟩)],7⟩
theorem zyh(t:Tp)(i:Nat)(hi:i<t.code.length)(hl:t.code.length≤1000):evX (orc T) T 0 l382_0 (Zkn t i)=some (.n,Zkn t (i+1)):=by
 have hws:=zaz hi (by omega);have hb:i≤4294967295:=by omega
 have hg:t.code[i]? = some (t.code[i]'hi):=Ya hi;have hn:=zdm (T:=T) (t.code[i]'hi).n;have hi':(i:Int)<t.code.length:=by omega
 have hml:(t.code.take i).length=i:=by simp;omega
 have ht:List.take i (t.code.take i)=t.code.take i:=Yb (by omega);have e:=ze0 t.code hi;have hp:=z1k hml (t.code[i]'hi);rw[ht]at hp;unfold Zkn bxT fC;rw[e];clear e;generalize t.code.take i=M at *
 simp -implicitDefEqProofs[l382_0,hi,hi',hws,hb,hg,hn,hml,ht,hp]
theorem z2r(t:Tp)(hl:t.code.length≤1000):Ze T 0 0 (.norm false [2,3]) l382_0 (Zkn t 0) =
  some (.n,⟨[(2,.ptr (.loc 2) 1 4 0 0),(3,.ptr (.loc 3) 2 4 0 0)],[(.loc 2,⟨1,.str,4,[[.sl [] .an,.sl [] .an,.i .i64 0,.i .i64 0]]⟩),(.loc 3,⟨2,.str,4,[[.bs fC 3 6 0 t.code.length,.bs (.loc 13) 4 1 0 t.outs.length,.i .i64 t.dim,.i .i64 t.par]]⟩),(fC,⟨3,.own,6,Zc9 t.code⟩),(.loc 13,⟨4,.own,1,ints t.outs⟩)],6⟩):=by
 refine zai (Zkn t) t.code.length _ (fun i hi=>zyh t i hi hl) ?_;unfold Zkn bxT fC;rw[Yb (Yg _)];constructor<;>simp -implicitDefEqProofs[l382_0]
theorem z2s(t:Tp)(hl:t.code.length≤1000)(ho:t.outs.length≤1000):Za T 382 [etp t]=some (etp t):=by
 have ht:List.take t.code.length t.code=t.code:=Yb (by omega);have hs:List.take t.outs.length t.outs=t.outs:=Yb (by omega);have h:=z2r (T:=T) t hl;unfold Zkn bxT fC at h;simp only[Yl,Ya4,z4r]at h;obtain⟨code,outs,dim,par⟩:=t;dsimp only at *
 have ho2:outs.length≤4294967296:=by omega
 rw[zaa Zdr.h382 rfl,b382];simp -implicitDefEqProofs[ht,hs,ho2,h]
end
end Go.Ab
end
section
namespace Go.Ab
def doV(op i:Int)(a b:Rat):Rat×Bool:=if op=6 then (-a,true) else if op=11 then Ze8 a i else biV op a b
section
variable{T:Tbl}[Z0 T][Z7 T][Zy T][Zaa T][Zz T][Zab T][Zk T][Zac T][Zcw T][Zd6 T][Zc2 T]
theorem zq5(b:Int):Za T 465 [.i .i64 b]=some (.i .i64 (Zjr b)):=by
 rw[zaa Zc2.h465 rfl,b465];unfold Zjr;by_cases h1:b<0
 ·simp -implicitDefEqProofs[h1]
 ·by_cases h2:4096<b
  ·simp -implicitDefEqProofs[h1,h2]
  ·simp -implicitDefEqProofs[h1,h2]
theorem zlh(x:Fz)(lim:Int)(hx:fsz x≤10000):Za T 476 [efz x,.i .i64 lim]=some (.b (decide ((Zci x:Int)≤lim))):=by
 have c:=zlm (T:=T) x hx;obtain⟨x0,x1,x2⟩:=x;rw[zaa Zc2.h476 rfl,b476];generalize Zci (x0,x1,x2)=S at *
 by_cases h:(S:Int)≤lim
 ·simp -implicitDefEqProofs[c,h]
 ·simp -implicitDefEqProofs[c,h]
theorem zss(op i:Int)(a b:Rat)(hop:6≤op∧op≤11)(ha:sz a≤129)(hb:sz b≤129) :
  Za T 475 [.i .i64 op,.i .i64 i,efz (fz a),efz (fz b)]=some (.tup [efz (fz (doV op i a b).1),.b (doV op i a b).2]):=by
 have c6:=zgw (T:=T) (fz a) (by rw[zar];omega);rw[za7]at c6;have c7:=zb2 (T:=T) a b (by omega) (by omega);have c8:=z8a (T:=T) a b (by omega) (by omega);have c9:=zd2 (T:=T) a b (by omega) (by omega);have c11:=zy7 (T:=T) a ha i;have cz:=zjk (T:=T) b;have c10:=zjr (T:=T) (fz a) (fz b) (by rw[zar];omega) (by rw[zar];omega);rw[za7,za7]at c10;rw[zaa Zc2.h475 rfl,b475];have hcase:op=6∨op=7∨op=8∨op=9∨op=10∨op=11:=by omega
 rcases hcase with rfl | rfl | rfl | rfl | rfl | rfl
 ·have e:doV 6 i a b=(-a,true):=rfl;rw[e];dsimp only;generalize fz a=A at *
  generalize fz b=B at *
  generalize fz (-a)=V at *
  obtain⟨a0,a1,a2⟩:=A;obtain⟨b0,b1,b2⟩:=B;obtain⟨v0,v1,v2⟩:=V;simp -implicitDefEqProofs[c6]
 ·have e:doV 7 i a b=(a+b,true):=rfl;rw[e];dsimp only;generalize fz (a+b)=V at *
  generalize fz a=A at *
  generalize fz b=B at *
  obtain⟨a0,a1,a2⟩:=A;obtain⟨b0,b1,b2⟩:=B;obtain⟨v0,v1,v2⟩:=V;simp -implicitDefEqProofs[c7]
 ·have e:doV 8 i a b=(a-b,true):=rfl;rw[e];dsimp only;generalize fz (a-b)=V at *
  generalize fz a=A at *
  generalize fz b=B at *
  obtain⟨a0,a1,a2⟩:=A;obtain⟨b0,b1,b2⟩:=B;obtain⟨v0,v1,v2⟩:=V;simp -implicitDefEqProofs[c8]
 ·have e:doV 9 i a b=(a*b,true):=rfl;rw[e];dsimp only;generalize fz (a*b)=V at *
  generalize fz a=A at *
  generalize fz b=B at *
  obtain⟨a0,a1,a2⟩:=A;obtain⟨b0,b1,b2⟩:=B;obtain⟨v0,v1,v2⟩:=V;simp -implicitDefEqProofs[c9]
 ·have e:doV 10 i a b=(a/b,decide (b≠0)):=rfl;rw[e];dsimp only;by_cases hz:b=0
  ·have e2:a/b=b:=by rw[hz,Yds,Rat.inv_zero,Yeo]
   have e3:decide (b≠0)=false:=by rw[hz];rfl
   rw[decide_eq_true hz]at cz;rw[e3,e2];clear e e2 e3 c10 c6 c7 c8 c9 c11;generalize fz a=A at *
   generalize fz b=B at *
   obtain⟨a0,a1,a2⟩:=A;obtain⟨b0,b1,b2⟩:=B;simp -implicitDefEqProofs[cz]
  ·rw[decide_eq_true hz];rw[decide_eq_false hz]at cz;clear e;generalize fz (a/b)=V at *
   generalize fz a=A at *
   generalize fz b=B at *
   obtain⟨a0,a1,a2⟩:=A;obtain⟨b0,b1,b2⟩:=B;obtain⟨v0,v1,v2⟩:=V;simp -implicitDefEqProofs[c10,cz]
 ·have e:doV 11 i a b=Ze8 a i:=rfl;rw[e];generalize Ze8 a i=R at *
  obtain⟨r,ok⟩:=R;dsimp only at *
  generalize fz r=V at *
  generalize fz a=A at *
  generalize fz b=B at *
  obtain⟨a0,a1,a2⟩:=A;obtain⟨b0,b1,b2⟩:=B;obtain⟨v0,v1,v2⟩:=V;simp -implicitDefEqProofs[c11]
end
end Go.Ab
end
section
namespace Go.Ab
theorem zzy{dim par:Int}{p:Nat}{i:Ins}(h:Zcg dim par p i=true)(ho:i.op=1):fz (fv i.n)=i.n:=by
 grind[Zcg,Zae]
section
variable{T:Tbl}[Z0 T][Z7 T][Zy T][Zaa T][Zz T][Zab T][Zk T][Zac T][Zcw T][Zd6 T][Zc2 T][Zbk T]
theorem zvf(i:Ins)(P:Po)(D:List Rat)(dim par:Int)(hm:Zcg dim par D.length i=true)(hd:(P.y.length:Int)=dim)(hp:(P.p.length:Int)=par)(hD:∀q∈D,sz q≤129) :
  Za T 558 [.agg (Zfa i),ept P.f,.sl (Zc (fzs D)) .an]=some (.tup [efz (fz (Z6 P D i).1),.b (Z6 P D i).2]):=by
 have hop:=z1l hm;by_cases h1:i.op=1
 ·have hr:=zzy hm h1;have e:Z6 P D i=(fv i.n,true):=by simp[Z6,h1]
  rw[e];dsimp only;rw[hr];clear hr e hm hop;obtain⟨op,a,b,n0,n1,n2⟩:=i;generalize P.f=Q at *
  generalize fzs D=DD at *
  obtain⟨⟨t0,t1,t2⟩,y,p⟩:=Q;dsimp only at *
  subst h1;rw[zaa Zbk.h558 rfl,b558];simp -implicitDefEqProofs[]
 by_cases h2:i.op=2
 ·have e:Z6 P D i=(P.t,true):=by simp[Z6,h2]
  rw[e];dsimp only;have e2:fz P.t=P.f.t:=rfl;rw[e2];clear e hm hop e2;obtain⟨op,a,b,n0,n1,n2⟩:=i;generalize P.f=Q at *
  generalize fzs D=DD at *
  obtain⟨⟨t0,t1,t2⟩,y,p⟩:=Q;dsimp only at *
  subst h2;rw[zaa Zbk.h558 rfl,b558];simp -implicitDefEqProofs[]
 by_cases h3:i.op=3
 ·have ha:=zac9 hm h3;obtain⟨k,hk1,hk2,hk3,hka⟩:=zh6 (D:=P.y) (a:=i.a) ⟨ha.1,by omega⟩;have e:Z6 P D i=(gI P.y i.a,true):=by simp[Z6,h3]
  rw[e];dsimp only;have hl:P.f.y.length=P.y.length:=zal _;have hka':P.f.y[k]? = some (fz (gI P.y i.a)):=hka;have hkae:=(Yd.1 hka').2;generalize fz (gI P.y i.a)=z at *
  rw[←hl]at hk2 hk3;clear e hm hop hl hka ha hd hp;obtain⟨op,a,b,n0,n1,n2⟩:=i;generalize P.f=Q at *
  generalize fzs D=DD at *
  obtain⟨⟨t0,t1,t2⟩,y,p⟩:=Q;obtain⟨z0,z1,z2⟩:=z;dsimp only at *
  subst h3 hk1;rw[zaa Zbk.h558 rfl,b558];simp -implicitDefEqProofs[hk2,hk3,hkae]
 by_cases h4:i.op=4
 ·have ha:=zada hm h4;obtain⟨k,hk1,hk2,hk3,hka⟩:=zh6 (D:=P.p) (a:=i.a) ⟨ha.1,by omega⟩;have e:Z6 P D i=(gI P.p i.a,true):=by simp[Z6,h4]
  rw[e];dsimp only;have hl:P.f.p.length=P.p.length:=zal _;have hka':P.f.p[k]? = some (fz (gI P.p i.a)):=hka;have hkae:=(Yd.1 hka').2;generalize fz (gI P.p i.a)=z at *
  rw[←hl]at hk2 hk3;clear e hm hop hl hka ha hd hp;obtain⟨op,a,b,n0,n1,n2⟩:=i;generalize P.f=Q at *
  generalize fzs D=DD at *
  obtain⟨⟨t0,t1,t2⟩,y,p⟩:=Q;obtain⟨z0,z1,z2⟩:=z;dsimp only at *
  subst h4 hk1;rw[zaa Zbk.h558 rfl,b558];simp -implicitDefEqProofs[hk2,hk3,hkae]
 have ha:=zac7 hm (by omega);obtain⟨k,hk1,hk2,hk3,hka⟩:=zh6 ha;have sa:sz (gI D i.a)≤129:=zkq (by decide) hD;have hl:(fzs D).length=D.length:=zal D;have hkae:=(Yd.1 hka).2;by_cases h6:i.op=6∨i.op=11
 ·have c:=zss (T:=T) i.op i.b (gI D i.a) (gI D i.a) (by omega) sa sa;have e:Z6 P D i=doV i.op i.b (gI D i.a) (gI D i.a):=by
   grind[Z6,doV,z8w,z0h]
  rw[e];generalize doV i.op i.b (gI D i.a) (gI D i.a)=V at *
  obtain⟨V,ok⟩:=V;dsimp only at *
  generalize fz V=z at *
  generalize fz (gI D i.a)=u at *
  rw[←hl]at hk2 hk3;clear e hm hop hl ha hd hp sa hD;obtain⟨op,a,b,n0,n1,n2⟩:=i;generalize P.f=Q at *
  generalize fzs D=DD at *
  obtain⟨⟨t0,t1,t2⟩,y,p⟩:=Q;obtain⟨z0,z1,z2⟩:=z;dsimp only at *
  subst hk1;rw[zaa Zbk.h558 rfl,b558];rcases h6 with rfl | rfl
  ·simp -implicitDefEqProofs[hk2,hk3,hkae,c]
  ·simp -implicitDefEqProofs[hk2,hk3,hkae,c]
 have hb:=zac8 hm (by omega);obtain⟨j,hj1,hj2,hj3,hjb⟩:=zh6 hb;have sb:sz (gI D i.b)≤129:=zkq (by decide) hD;have hjbe:=(Yd.1 hjb).2;have c:=zss (T:=T) i.op 0 (gI D i.a) (gI D i.b) (by omega) sa sb;have hop':i.op=7∨i.op=8∨i.op=9∨i.op=10:=by omega
 have e:Z6 P D i=doV i.op 0 (gI D i.a) (gI D i.b):=by
  grind[Z6,doV,biV]
 rw[e];generalize doV i.op 0 (gI D i.a) (gI D i.b)=V at *
 obtain⟨V,ok⟩:=V;generalize fz V=z at *
 rw[←hl]at hk2 hk3 hj2 hj3;obtain⟨op,a,b,n0,n1,n2⟩:=i;generalize P.f=Q at *
 generalize fzs D=DD at *
 subst hk1 hj1;rw[zaa Zbk.h558 rfl,b558];rcases hop' with rfl | rfl | rfl | rfl
 ·simp -implicitDefEqProofs[hk2,hk3,hkae,hj2,hj3,hjbe,c]
 ·simp -implicitDefEqProofs[hk2,hk3,hkae,hj2,hj3,hjbe,c]
 ·simp -implicitDefEqProofs[hk2,hk3,hkae,hj2,hj3,hjbe,c]
 ·simp -implicitDefEqProofs[hk2,hk3,hkae,hj2,hj3,hjbe,c]
def Zdx(Q:PoF)(L:Int)(t:Tp)(i:Nat)(D:List Fz):St:=
 ⟨[(2,.i .i64 L),(3,.ptr (.loc 3) 1 4 0 0),(4,.ptr (.loc 4) 2 5 0 0),(9,.bs (.loc 9) 3 3 0 i),(10,.i .i64 i)],
  [(.loc 3,bxT t),(.loc 4,⟨2,.str,5,[[.b Q.t.1,.sl (Zb Q.t.2.1) .an,.sl (Zb Q.t.2.2) .an,.sl (Zc Q.y) .an,.sl (Zc Q.p) .an]]⟩),(.loc 9,⟨3,.sh,3,Zc D⟩)],5⟩
def Zjv(D:List Fz)(n:Nat):Ex×St:=(.n,⟨[(9,.bs (.loc 9) 1 3 0 n)],[(.loc 9,⟨1,.sh,3,Zc D⟩)],3⟩)
def Zg9(kind at_:Int):Ex×St:=(.r,⟨[(6,.sl [] .an),(7,.i .i64 kind),(8,.i .i64 at_)],[],2⟩)
theorem zzz(Q:PoF)(L:Int)(t:Tp)(i:Nat)(D:List Fz)(x:Ins)(v:Fz)(hi:i<t.code.length)(hc:t.code.length≤1000)(hg:t.code[i]? = some x)(hdl:D.length=i)(hv:fsz v≤10000)
  (c:Za T 558 [.agg (Zfa x),ept Q,.sl (Zc D) .an]=some (.tup [efz v,.b true])) (hf:(Zci v:Int)≤L) :
  evX (orc T) T 0 l544_0 (Zdx Q L t i D)=some (.n,Zdx Q L t (i+1) (D++[v])):=by
 have hf2:=zlh (T:=T) v L hv;rw[decide_eq_true hf]at hf2;have hws:=zaz hi (by omega);have hge:=(Yd.1 hg).2;have ht:List.take i D=D:=Yb (by omega);have hp:wkL (Zc D++[Z1 v])=Zc (D++[v]):=by rw[ze7,zbt]
 have hi':(i:Int)<t.code.length:=by omega
 have hb:i+1≤4294967296:=by omega
 unfold Zdx bxT;obtain⟨code,outs,dim,par⟩:=t;simp -implicitDefEqProofs[l544_0,hi,hi',hge,hws,c,hf2,hp,hdl,hb,ht,zme Zbk.h558]
theorem z3q(Q:PoF)(L:Int)(t:Tp)(i:Nat)(D:List Fz)(x:Ins)(v:Fz)(hi:i<t.code.length)(hc:t.code.length≤1000)(hg:t.code[i]? = some x)(hdl:D.length=i)
  (c:Za T 558 [.agg (Zfa x),ept Q,.sl (Zc D) .an]=some (.tup [efz v,.b false])) :
  Zd4 (evX (orc T) T 0 l544_0 (Zdx Q L t i D))=true∧Zdg 0 0 (.norm false [9]) (evX (orc T) T 0 l544_0 (Zdx Q L t i D))=some (Zg9 3 i):=by
 have hge:=(Yd.1 hg).2;have ht:List.take i D=D:=Yb (by omega);have hi':(i:Int)<t.code.length:=by omega
 unfold Zdx bxT Zg9;obtain⟨code,outs,dim,par⟩:=t;constructor<;>simp -implicitDefEqProofs[l544_0,hi,hi',hge,c,hdl,ht,zme Zbk.h558]
theorem z3r(Q:PoF)(L:Int)(t:Tp)(i:Nat)(D:List Fz)(x:Ins)(v:Fz)(hi:i<t.code.length)(hc:t.code.length≤1000)(hg:t.code[i]? = some x)(hdl:D.length=i)(hv:fsz v≤10000)
  (c:Za T 558 [.agg (Zfa x),ept Q,.sl (Zc D) .an]=some (.tup [efz v,.b true])) (hf:¬ (Zci v:Int)≤L) :
  Zd4 (evX (orc T) T 0 l544_0 (Zdx Q L t i D))=true∧Zdg 0 0 (.norm false [9]) (evX (orc T) T 0 l544_0 (Zdx Q L t i D))=some (Zg9 6 i):=by
 have hf2:=zlh (T:=T) v L hv;rw[decide_eq_false hf]at hf2;have hge:=(Yd.1 hg).2;have ht:List.take i D=D:=Yb (by omega);have hi':(i:Int)<t.code.length:=by omega
 unfold Zdx bxT Zg9;obtain⟨code,outs,dim,par⟩:=t;constructor<;>simp -implicitDefEqProofs[l544_0,hi,hi',hge,c,hf2,hdl,ht,zme Zbk.h558]
theorem z7r(Q:PoF)(L:Int)(t:Tp)(D:List Fz) :
  Zd4 (evX (orc T) T 0 l544_0 (Zdx Q L t t.code.length D))=true∧Zdg 0 0 (.norm false [9]) (evX (orc T) T 0 l544_0 (Zdx Q L t t.code.length D))=some (Zjv D t.code.length):=by
 unfold Zdx bxT Zjv;obtain⟨⟨q0,q1,q2⟩,qy,qp⟩:=Q;obtain⟨code,outs,dim,par⟩:=t;dsimp only at *
 constructor<;>simp -implicitDefEqProofs[l544_0]
def Zii(lim:Nat)(P:Po)(n:Nat)(l:List Ins)(D:List Rat):Ex×St:=
 if (Za3 lim P l D).2.1=0 then Zjv (fzs (Za3 lim P l D).1) n else Zg9 (Za3 lim P l D).2.1 (Za3 lim P l D).2.2
theorem z3s(P:Po)(lim:Nat)(hlim:lim≤4096)(t:Tp)(ht:OkTp t)(hn:∀i∈t.code,fsz i.n≤1000)(hd:(P.y.length:Int)=t.dim)(hp:(P.p.length:Int)=t.par)(hP:PvS P 1000) :
  Ze T 0 0 (.norm false [9]) l544_0 (Zdx P.f lim t 0 [])=some (Zii lim P t.code.length t.code []):=by
 have hc:=ht.cl;have key:=zav (T:=T) (k:=0) (id:=0) (g2:=.norm false [9]) (c:=l544_0) (fun x:Nat×List Rat=>Zdx P.f lim t x.1 (fzs x.2))
  (fun x=>x.1≤t.code.length∧x.2.length=x.1∧(∀q∈x.2,sz q≤129)) (fun x=>t.code.length-x.1)
  (fun x=>some (Zii lim P t.code.length (t.code.drop x.1) x.2)) ?_ (0,[]) ⟨Yv _,rfl,by simp⟩
 ·exact key
 rintro⟨i,D⟩ ⟨hi,hdl,hD⟩
 by_cases hlt:i<t.code.length
 ·have hg:t.code[i]? = some (t.code[i]'hlt):=Ya hlt;have hmem:=Yi hlt;have hm:=ht.may i _ hg;have hdr:t.code.drop i=t.code[i]'hlt::t.code.drop (i+1):=Ye hlt;generalize hx:t.code[i]'hlt=x at *
  have hm':Zcg t.dim t.par D.length x=true:=by grind
  have c:=zvf (T:=T) x P D t.dim t.par hm' hd hp hD;have hvs:fsz (fz (Z6 P D x).1)≤10000:=Yc (z0j hm' hP (hn x hmem) hD) (by decide);have hfl:(fzs D).length=i:=by simp_all
  cases hok:(Z6 P D x).2 with
  | false=>
   grind[z3q,zbz,Zii]
  | true=>
   rw[hok]at c;by_cases hfit:Zf3 (Z6 P D x).1≤lim
   ·left;have e:=zzz (T:=T) P.f lim t i (fzs D) x _ hlt (by omega) hg hfl hvs c (by unfold Zf3 at hfit;omega);refine⟨(i+1,D++[(Z6 P D x).1]),⟨by omega,by grind,fun q hq=>?_⟩,by omega,?_,?_⟩
    ·rcases Yag.1 hq with h | h
     ·grind
     ·rw[Ybe.1 h];have:=zj0 hfit;omega
    ·rw[e];simp[fzs]
    grind[zbz,Zii]
   grind[z3r,Zf3,zbz,Zii]
 grind[z7r,Zii,Za3]
theorem zvg(t:Tp)(P:Po)(lim:Nat)(hlim:lim≤4096)(ht:OkTp t)(hn:∀i∈t.code,fsz i.n≤1000)(hd:(P.y.length:Int)=t.dim)(hp:(P.p.length:Int)=t.par)(hP:PvS P 1000) :
  Za T 544 [etp t,ept P.f,.i .i64 lim]=some (.tup [.sl (Zc (fzs (Za3 lim P t.code []).1)) .an,.i .i64 (Za3 lim P t.code []).2.1,.i .i64 (Za3 lim P t.code []).2.2]):=by
 have hl:=z3s (T:=T) P lim hlim t ht hn hd hp hP;unfold Zii at hl;by_cases hk:(Za3 lim P t.code []).2.1=0
 ·obtain⟨e2,E,e3,e4⟩:=ze9 lim P t.code [] hk;rw[if_pos hk]at hl;rw[hk,e2];have hlen:(fzs (Za3 lim P t.code []).1).length=t.code.length:=by simp_all
  unfold Zdx bxT Zjv at hl;simp only[Yl,zau]at hl;generalize P.f=Q at *
  generalize fzs (Za3 lim P t.code []).1=D at *
  obtain⟨code,outs,dim,par⟩:=t;dsimp only at *
  have htk:List.take code.length D=D:=Yb (by omega);rw[zaa Zbk.h544 rfl,b544];simp -implicitDefEqProofs[hl,hlen,htk]
 ·have e1:=(zrk lim P t.code [] hk).1;rw[if_neg hk]at hl;rw[e1];have e0:fzs []=[]:=rfl;rw[e0,zau];unfold Zdx bxT Zg9 at hl;simp only[Yl,zau]at hl;generalize P.f=Q at *
  obtain⟨code,outs,dim,par⟩:=t;rw[zaa Zbk.h544 rfl,b544];simp -implicitDefEqProofs[hl]
def Zf1(outs:List Int)(D:List Rat):List Rat:=outs.map fun o=>gI D o
def Zkb(t:Tp)(D:List Fz)(i:Nat)(R:List Fz):St:=
 ⟨[(1,.sl (Zc D) .an),(2,.ptr (.loc 2) 1 4 0 0),(5,.bs (.loc 5) 2 3 0 i),(6,.i .i64 i)],[(.loc 2,bxT t),(.loc 5,⟨2,.own,3,Zc R⟩)],4⟩
theorem z3t(t:Tp)(D:List Rat)(ho:t.outs.length≤1000)(hr:∀o∈t.outs,0≤o∧o<D.length) :
  Ze T 0 0 (.norm false [5]) l547_0 (Zkb t (fzs D) 0 [])=some (.n,⟨[(5,.bs (.loc 5) 1 3 0 t.outs.length)],[(.loc 5,⟨1,.own,3,Zc (fzs (Zf1 t.outs D))⟩)],3⟩):=by
 have key:=zai (T:=T) (k:=0) (id:=0) (g2:=.norm false [5]) (c:=l547_0) (fun i=>Zkb t (fzs D) i (fzs (Zf1 (t.outs.take i) D))) t.outs.length
  (some (.n,⟨[(5,.bs (.loc 5) 1 3 0 t.outs.length)],[(.loc 5,⟨1,.own,3,Zc (fzs (Zf1 t.outs D))⟩)],3⟩)) (fun i hi=>?_) ?_
 ·exact key
 ·have hi':(i:Int)<t.outs.length:=by omega
  have hws:=zaz hi (by omega);obtain⟨k,hk1,hk2,hk3,hka⟩:=zh6 (hr _ (Yi hi));have hl:(fzs D).length=D.length:=zal D;have hkae:=(Yd.1 hka).2;have hlen:(fzs (Zf1 (t.outs.take i) D)).length=i:=by simp[Zf1];omega
  have hnext:fzs (Zf1 (t.outs.take (i+1)) D)=fzs (Zf1 (t.outs.take i) D)++[fz (gI D (t.outs[i]'hi))]:=by
   grind[List.take_succ_eq_append_getElem,Zf1,fzs]
  rw[hnext];generalize fzs (Zf1 (t.outs.take i) D)=R at *
  have hp:wkL (Zc (List.take i R)++[Z1 (fz (gI D (t.outs[i]'hi)))])=Zc (R++[fz (gI D (t.outs[i]'hi))]):=by
   grind[ze7,zbt]
  have hb:i+1≤4294967296:=by omega
  rw[←hl]at hk2 hk3;unfold Zkb bxT;generalize hgo:t.outs[i]'hi=o at *
  generalize fz (gI D o)=z at *
  generalize fzs D=DD at *
  subst hk1;obtain⟨code,outs,dim,par⟩:=t;have ht:List.take i R=R:=Yb (by omega);rw[ht]at hp;simp -implicitDefEqProofs[l547_0,hi,hi',hgo,hws,hk2,hk3,hkae,hlen,hp,ht,hb]
 ·rw[Yb (Yg _)];unfold Zkb bxT;have hlen:(fzs (Zf1 t.outs D)).length=t.outs.length:=by simp[Zf1]
  generalize fzs (Zf1 t.outs D)=R at *
  generalize fzs D=DD at *
  obtain⟨code,outs,dim,par⟩:=t;dsimp only at *
  constructor<;>simp -implicitDefEqProofs[l547_0]
theorem zvh(t:Tp)(D:List Rat)(ho:t.outs.length≤1000)(hr:∀o∈t.outs,0≤o∧o<D.length):Za T 547 [etp t,.sl (Zc (fzs D)) .an]=some (.sl (Zc (fzs (Zcl t D))) .an):=by
 have e:Zcl t D=Zf1 t.outs D:=rfl;rw[e];have hl:=z3t (T:=T) t D ho hr;unfold Zkb bxT at hl;simp only[Yl,zau]at hl;have hlen:(fzs (Zf1 t.outs D)).length=t.outs.length:=by simp[Zf1]
 generalize fzs (Zf1 t.outs D)=R at *
 obtain⟨code,outs,dim,par⟩:=t;dsimp only at *
 have htk:List.take outs.length R=R:=Yb (by omega);rw[zaa Zbk.h547 rfl,b547];simp -implicitDefEqProofs[hl,hlen,htk]
end
end Go.Ab
end
section
namespace Go.Ab
section
variable{T:Tbl}[Z0 T][Z7 T][Zy T][Zz T][Zaa T][Zab T][Zk T][Zb2 T]
theorem zbd(n lo hi:Int):Za T 538 [.i .i64 n,.i .i64 lo,.i .i64 hi]=some (.b (decide (lo≤n)&&decide (n≤hi))):=by
 rw[zaa Zb2.h538 rfl,b538];by_cases h1:lo≤n
 ·by_cases h2:n≤hi
  ·simp -implicitDefEqProofs[h1,h2]
  ·simp -implicitDefEqProofs[h1,h2]
 ·simp -implicitDefEqProofs[h1]
theorem zh5(a m:Int):(decide (0≤a)&&decide (a≤m-1))=Zn a m:=by
 grind[Zn]
theorem zzv(dim par:Int)(p:Nat)(x:Ins)(hf:fsz x.n≤10000)(d:1≤dim∧dim≤6)(q:0≤par∧par≤6)(hp:p≤4294967296) :
  Za T 539 [.agg (Zfa x),.i .i64 p,.i .i64 dim,.i .i64 par]=some (.b (Zcg dim par p x)):=by
 have hn:=zbn (T:=T) x.n hf;have hs:=za8 (T:=T) (fz (fv x.n)) x.n (by exact za4 hf (by decide));have hrt:decide (fz (fv x.n)=x.n)=Zae x.n:=by grind[Zae]
 rw[hrt]at hs;have w1:IntKind.wrap .i64 ((p:Int)-1)=(p:Int)-1:=zac _ (by omega);have w2:IntKind.wrap .i64 (dim-1)=dim-1:=zac _ (by omega);have w3:IntKind.wrap .i64 (par-1)=par-1:=zac _ (by omega);have cy:=zbd (T:=T) x.a 0 (dim-1);have cp:=zbd (T:=T) x.a 0 (par-1);have ca:=zbd (T:=T) x.a 0 ((p:Int)-1);have cb:=zbd (T:=T) x.b 0 ((p:Int)-1);have ce:=zbd (T:=T) x.b (-8) 8;have co:=zbd (T:=T) x.op 7 10;rw[zh5]at cy cp ca cb;obtain⟨op,a,b,s,nn,dd⟩:=x;rw[zaa Zb2.h539 rfl,b539];by_cases h1:op=1
 ·subst h1;have e:Zcg dim par p ⟨1,a,b,s,nn,dd⟩=(decide (a=0)&&decide (b=0)&&Zae (s,nn,dd)):=rfl;rw[e];by_cases ha:a=0
  ·subst ha;by_cases hb:b=0
   ·subst hb;simp -implicitDefEqProofs[hn,hs]
   ·simp -implicitDefEqProofs[hb]
  ·simp -implicitDefEqProofs[ha]
 have hm:Zcg dim par p ⟨op,a,b,s,nn,dd⟩=(Zhb (s,nn,dd)&&(if op=2 then decide (a=0)&&decide (b=0) else if op=3 then Zn a dim&&decide (b=0) else if op=4 then Zn a par&&decide (b=0)
   else if op=6 then Zn a p&&decide (b=0) else if op=11 then Zn a p&&(decide (-8≤b)&&decide (b≤8)) else decide (7≤op)&&decide (op≤10)&&Zn a p&&Zn b p)):=by
  unfold Zcg;rw[if_neg h1]
  grind[Zaf]
 rw[hm];have e0:Zhb (s,nn,dd)=(!s&&nn.isEmpty&&dd.isEmpty):=rfl;rw[e0];cases s with
 | true=>simp -implicitDefEqProofs[h1]
 | false=>
 cases nn with
 | cons n0 nn=>simp -implicitDefEqProofs[h1]
 | nil=>
 cases dd with
 | cons d0 dd=>simp -implicitDefEqProofs[h1]
 | nil=>
 have hbd:(b == 0)=decide (b=0):=rfl;generalize Zn a dim=B1 at *
 generalize Zn a par=B2 at *
 generalize Zn a p=B3 at *
 by_cases h2:op=2
 ·subst h2;by_cases ha:a=0
  ·subst ha;simp -implicitDefEqProofs[hbd]
  ·simp -implicitDefEqProofs[ha]
 by_cases h3:op=3
 ·subst h3;cases B1<;>simp -implicitDefEqProofs[w2,cy,hbd]
 by_cases h4:op=4
 ·subst h4;cases B2<;>simp -implicitDefEqProofs[w3,cp,hbd]
 by_cases h6:op=6
 ·subst h6;cases B3<;>simp -implicitDefEqProofs[w1,ca,hbd]
 by_cases h11:op=11
 ·subst h11;cases B3<;>simp -implicitDefEqProofs[w1,ca,ce]
 generalize (decide (7≤op)&&decide (op≤10))=B5 at *
 cases B5<;>cases B3<;>simp -implicitDefEqProofs[h1,h2,h3,h4,h6,h11,w1,ca,cb,co]
def Zle(t:Tp)(i:Nat):St:=⟨[(1,.ptr (.loc 1) 1 4 0 0),(3,.i .i64 i)],[(.loc 1,bxT t)],3⟩
theorem zzw(t:Tp)(hs:TpS t)(d:1≤t.dim∧t.dim≤6)(q:0≤t.par∧t.par≤6)(hl:t.code.length≤300):Ze T 0 0 (.norm false [1]) l528_0 (Zle t 0) =
  if Za6 t.dim t.par 0 t.code=-1 then some (.n,⟨[(1,.ptr (.loc 1) 1 4 0 0)],[(.loc 1,bxT t)],3⟩) else some (.r,⟨[(2,.i .i64 (Za6 t.dim t.par 0 t.code))],[],2⟩):=by
 have e0:t.code.drop 0=t.code:=rfl;refine zak (Zle t) t.code.length (fun i=>if Za6 t.dim t.par i (t.code.drop i)=-1 then some (.n,_) else some (.r,⟨[(2,.i .i64 (Za6 t.dim t.par i (t.code.drop i)))],[],2⟩)) (fun i hi=>?_) ?_
 ·have hws:=zaz hi (by omega);have hd:t.code.drop i=t.code[i]'hi::t.code.drop (i+1):=Ye hi;have cm:=zzv (T:=T) t.dim t.par i (t.code[i]'hi) (Yc (hs.ns _ (Yi hi)) (by decide)) d q (by omega);have hi':(i:Int)<t.code.length:=by omega
  have hf:Za6 t.dim t.par i (t.code.drop i)=if Zcg t.dim t.par i (t.code[i]'hi) then Za6 t.dim t.par (i+1) (t.code.drop (i+1)) else i:=by rw[hd];rfl
  by_cases hb:Zcg t.dim t.par i (t.code[i]'hi)=true
  ·left;rw[hb]at cm;refine⟨?_,by grind⟩;unfold Zle bxT;simp -implicitDefEqProofs[l528_0,hi,hi',hws,cm]
  ·right;have hb':Zcg t.dim t.par i (t.code[i]'hi)=false:=by grind
   rw[hb']at cm;rw[if_neg hb]at hf;have hne:¬ (i:Int)=-1:=by omega
   simp only[hf,if_neg hne];unfold Zle bxT;clear hf hd;constructor<;>simp -implicitDefEqProofs[l528_0,hi,hi',cm]
 ·have hf:Za6 t.dim t.par t.code.length (t.code.drop t.code.length)=-1:=by rw[Yp];rfl
  simp only[hf,if_true];unfold Zle bxT;constructor<;>simp -implicitDefEqProofs[l528_0]
def Zlf(t:Tp)(i:Nat):St:=⟨[(1,.ptr (.loc 1) 1 4 0 0),(4,.i .i64 i)],[(.loc 1,bxT t)],3⟩
theorem zzx(t:Tp)(hl:t.code.length≤300)(ho:t.outs.length≤300):Ze T 0 2 (.norm false []) l528_1 (Zlf t 0) =
  if (t.outs.all fun o=>Zn o t.code.length)=true then some (.n,⟨[],[],2⟩) else some (.r,⟨[(2,.i .i64 t.code.length)],[],2⟩):=by
 refine zak (Zlf t) t.outs.length (fun i=>if ((t.outs.drop i).all fun o=>Zn o t.code.length)=true then some (.n,_) else some (.r,_)) (fun i hi=>?_) ?_
 ·have hws:=zaz hi (by omega);have hd:t.outs.drop i=t.outs[i]'hi::t.outs.drop (i+1):=Ye hi;have w1:IntKind.wrap .i64 ((t.code.length:Int)-1)=(t.code.length:Int)-1:=zac _ (by omega);have cm:=zbd (T:=T) (t.outs[i]'hi) 0 ((t.code.length:Int)-1);rw[zh5]at cm;have hi':(i:Int)<t.outs.length:=by omega
  by_cases hb:Zn (t.outs[i]'hi) t.code.length=true
  ·left;rw[hb]at cm;refine⟨?_,by grind⟩;unfold Zlf bxT;clear hd;simp -implicitDefEqProofs[l528_1,hi,hi',hws,w1,cm]
  ·right;have hb':Zn (t.outs[i]'hi) t.code.length=false:=by grind
   rw[hb']at cm;have hall:((t.outs.drop i).all fun o=>Zn o t.code.length)=false:=by grind
   simp only[hall,Y2,if_false];unfold Zlf bxT;clear hall hd;constructor<;>simp -implicitDefEqProofs[l528_1,hi,hi',w1,cm]
 ·simp only[Yp,Ybk,if_true];unfold Zlf bxT;constructor<;>simp -implicitDefEqProofs[l528_1]
theorem zq6(t:Tp)(hs:TpS t):Za T 528 [etp t]=some (.i .i64 (Zfb t)):=by
 have k1:=zbd (T:=T) t.dim 1 6;have k2:=zbd (T:=T) t.par 0 6;have e1:(decide (1≤t.dim)&&decide (t.dim≤6))=Zn (t.dim-1) 6:=by
  grind[Zn]
 have e2:(decide (0≤t.par)&&decide (t.par≤6))=Zn t.par 7:=by
  grind[Zn]
 rw[e1]at k1;rw[e2]at k2;unfold Zfb Zeo;by_cases b1:Zn (t.dim-1) 6=true
 ·by_cases b2:Zn t.par 7=true
  ·by_cases b3:(t.outs.length:Int)=t.dim
   ·by_cases b4:t.code.length≤300
    ·rw[←e1]at b1;rw[←e2]at b2;have d:=b1;have q:=b2;simp only[Yh,decide_eq_true_eq]at d q;have h1:=zzw (T:=T) t hs d q b4;have h2:=zzx (T:=T) t b4 (by omega);rw[e1]at b1;rw[e2]at b2;unfold Zle bxT at h1;unfold Zlf bxT at h2;simp only[Yl]at h1 h2;generalize hfi:Za6 t.dim t.par 0 t.code=F at *
     generalize hal:(t.outs.all fun o=>Zn o t.code.length)=AL at *
     have b4':¬ 300<(t.code.length:Int):=by omega
     obtain⟨code,outs,dim,par⟩:=t;rw[b1]at k1 ⊢;rw[b2]at k2 ⊢;rw[zaa Zb2.h528 rfl,b528];by_cases hf:F=-1
     ·subst hf;cases AL with
      | false=>
       simp -implicitDefEqProofs[k1,k2,b3,b4,b4',h1,h2]
      | true=>
       simp -implicitDefEqProofs[k1,k2,b3,b4,b4',h1,h2]
     ·simp -implicitDefEqProofs[k1,k2,b3,b4,b4',h1,hf]
    ·have b4':300<(t.code.length:Int):=by omega
     obtain⟨code,outs,dim,par⟩:=t;rw[b1]at k1 ⊢;rw[b2]at k2 ⊢;rw[zaa Zb2.h528 rfl,b528];simp -implicitDefEqProofs[k1,k2,b3,b4,b4']
   ·obtain⟨code,outs,dim,par⟩:=t;rw[b1]at k1 ⊢;rw[b2]at k2 ⊢;rw[zaa Zb2.h528 rfl,b528];simp -implicitDefEqProofs[k1,k2,b3]
  ·have b2':Zn t.par 7=false:=by grind
   obtain⟨code,outs,dim,par⟩:=t;rw[b1]at k1 ⊢;rw[b2']at k2 ⊢;rw[zaa Zb2.h528 rfl,b528];simp -implicitDefEqProofs[k1,k2]
 ·have b1':Zn (t.dim-1) 6=false:=by grind
  obtain⟨code,outs,dim,par⟩:=t;rw[b1']at k1 ⊢;rw[zaa Zb2.h528 rfl,b528];simp -implicitDefEqProofs[k1]
end
end Go.Ab
end
section
namespace Go.Ab
theorem z0q(l:List Fz)(x:Fz):sumF (l++[x])=sumF l+fv x:=by simp[sumF]
theorem zj3(l:List Fz){i:Nat}(h:i<l.length):sumF (l.take (i+1))=sumF (l.take i)+fv (l[i]'h):=by
 rw[Yz h,z0q]
theorem zj4{l:List Fz}{B:Nat}(hw:∀x∈l,fsz x≤B)(hB:1≤B):∀i,i≤l.length→sz (sumF (l.take i))≤i*(B+1)+1
 | 0,_=>by
  grind[sumF,zeq]
 | i+1,hi=>by
  have ih:=zj4 hw hB i (by omega);rw[zj3 l hi];have h1:=zfz (sumF (l.take i)) (fv (l[i]'hi));have h3:=za4 (hw _ (Yi hi)) hB
  grind
theorem zhn{x:Fz}(h:Zb4 x=true):fsz x≤6:=by
 unfold Zb4 at h;simp only[Yh,decide_eq_true_eq]at h;obtain⟨h1,h2⟩:=h;unfold Zae at h1;have e:x=fz (fv x):=by grind
 rw[e]at h2 ⊢;have:=zj0 (q:=fv x) (b:=190) h2;rw[zar];omega
section
variable{T:Tbl}[Zaj T][Zs T][Z2 T][Z4 T][Zu T][Zw T][Zf T][Zl T][Zp T][Zah T][Za4 T][Zdh T][Zal T][Zar T][Zbs T][Zas T][Zew T][Zag T]
def Zmv(l:List Fz)(i:Nat):St:=⟨[(2,.ptr (.loc 2) 1 3 0 0),(3,.ptr (.loc 3) 2 3 0 0),(7,.sl (Zc l) .an),(8,.i .i64 l.length),(9,.i .i64 i)],
 [(.loc 2,⟨1,.str,3,[Zdi]⟩),(.loc 3,⟨2,.str,3,[Z1 (fz (sumF (l.take i)))]⟩)],4⟩
theorem z4b(l:List Fz){B:Nat}(hw:∀x∈l,fsz x≤B)(hB:1≤B)(hS:l.length*(B+1)+1≤1000) :
  Ze T 0 0 (.norm false [2,3]) l562_0 (Zmv l 0)=some (.n,⟨[(2,.ptr (.loc 2) 1 3 0 0),(3,.ptr (.loc 3) 2 3 0 0)],[(.loc 2,⟨1,.str,3,[Zdi]⟩),(.loc 3,⟨2,.str,3,[Z1 (fz (sumF l))]⟩)],4⟩):=by
 refine zai (Zmv l) l.length _ (fun i hi=>?_) ?_
 ·have hlen:l.length*1≤1000:=Yc (Yac _ (show 1≤B+1 by omega)) (by omega);have hBB:B+1≤1000:=Yc (Yb1 _ (show 0<l.length by omega)) (by omega);have hws:=zaz hi (by omega);have ha1:=hw _ (Yi hi);have s1:=zj4 hw hB i (by omega);have s2:i*(B+1)≤l.length*(B+1):=Yt _ (by omega);have c2:=zgn (T:=T) (fz (sumF (l.take i))) (l[i]'hi) (by rw[zar];omega) (by omega);rw[za7,←zj3 l hi]at c2;unfold Zmv;simp -implicitDefEqProofs[l562_0,hi,hws,c2]
 ·unfold Zmv;constructor<;>simp -implicitDefEqProofs[l562_0]
theorem zho(l:List Fz){B:Nat}(hw:∀x∈l,fsz x≤B)(hB:1≤B)(hS:l.length*(B+1)+1≤1000) :
  Za T 562 [.sl (Zc l) .an]=some (efz (fz (sumF l))):=by
 have h0:=zif (T:=T);have h:=z4b (T:=T) l hw hB hS;unfold Zmv at h;have e0:sumF (l.take 0)=0:=rfl;rw[e0]at h;simp only[Yl]at h;rw[zaa Zag.h562 rfl,b562];simp -implicitDefEqProofs[h0,h]
def Zim(m:List (List Fz))(r:List Fz)(j i:Nat):St:=⟨[(7,.sl (Zv m) .an),(8,.i .i64 m.length),(9,.i .i64 j),(13,.sl (Zc r) .an),(14,.i .i64 r.length),(15,.i .i64 i)],[],2⟩
theorem z0r(m:List (List Fz))(r:List Fz)(j:Nat)(hl:r.length≤1000)(hw:∀x∈r,fsz x≤1000) :
  Ze T 0 2 (.norm false [7,8,9]) l560_0 (Zim m r j 0)=if (r.drop 0).all Zb4=true then some (.n,⟨[(7,.sl (Zv m) .an),(8,.i .i64 m.length),(9,.i .i64 j)],[],2⟩) else some (.r,⟨[(2,.b false)],[],2⟩):=by
 refine zak (Zim m r j) r.length (fun i=>if (r.drop i).all Zb4=true then some (.n,⟨[(7,.sl (Zv m) .an),(8,.i .i64 m.length),(9,.i .i64 j)],[],2⟩) else some (.r,⟨[(2,.b false)],[],2⟩)) (fun i hi=>?_) ?_
 ·have hws:=zaz hi (by omega);have hx:=hw _ (Yi hi);have c1:=zhg (T:=T) (r[i]'hi) (by omega);have c2:=zk9 (T:=T) (r[i]'hi) (by omega);have key:(r.drop i).all Zb4=(Zb4 (r[i]'hi)&&(r.drop (i+1)).all Zb4):=by rw[Ye hi,Yam]
  have hn:Zb4 (r[i]'hi)=(Zae (r[i]'hi)&&decide (Zci (r[i]'hi)≤190)):=rfl;by_cases h1:Zae (r[i]'hi)=true
  ·by_cases h2:Zci (r[i]'hi)≤190
   ·left;refine⟨?_,by grind⟩;have h3:¬ (190:Int)<Zci (r[i]'hi):=by omega
    unfold Zim;simp -implicitDefEqProofs[l560_0,hi,hws,c1,c2,h1,h3]
   ·right;have h3:(190:Int)<Zci (r[i]'hi):=by omega
    rw[if_neg (by grind)];unfold Zim;constructor<;>simp -implicitDefEqProofs[l560_0,hi,c1,c2,h1,h3]
  ·right;have h1':Zae (r[i]'hi)=false:=by grind
   rw[if_neg (by grind)];unfold Zim;constructor<;>simp -implicitDefEqProofs[l560_0,hi,c1,h1']
 ·simp only[Yp,Ybk,if_true];unfold Zim;constructor<;>simp -implicitDefEqProofs[l560_0]
def Zjf(m:List (List Fz))(i:Nat):St:=⟨[(7,.sl (Zv m) .an),(8,.i .i64 m.length),(9,.i .i64 i)],[],2⟩
theorem z0s(m:List (List Fz))(hl:m.length≤1000)(hw:∀r∈m,r.length≤1000∧∀x∈r,fsz x≤1000) :
  Ze T 0 0 (.norm false []) l560_1 (Zjf m 0)=if Zdu (m.drop 0)=true then some (.n,⟨[],[],2⟩) else some (.r,⟨[(2,.b false)],[],2⟩):=by
 refine zak (Zjf m) m.length (fun i=>if Zdu (m.drop i)=true then some (.n,⟨[],[],2⟩) else some (.r,⟨[(2,.b false)],[],2⟩)) (fun i hi=>?_) ?_
 ·have hws:=zaz hi (by omega);obtain⟨h1,h2⟩:=hw _ (Yi hi);have h:=z0r (T:=T) m (m[i]'hi) i h1 h2;have key:Zdu (m.drop i)=((m[i]'hi).all Zb4&&Zdu (m.drop (i+1))):=by grind[Zdu,List.drop_eq_getElem_cons]
  unfold Zim at h;rw[Y3]at h;simp only[Yl]at h;by_cases hr:(m[i]'hi).all Zb4=true
  ·left;rw[if_pos hr]at h;refine⟨?_,by grind⟩;unfold Zjf;simp -implicitDefEqProofs[l560_1,hi,hws,h]
  ·right;rw[if_neg hr]at h;rw[if_neg (by grind)];unfold Zjf;constructor<;>simp -implicitDefEqProofs[l560_1,hi,h]
 ·have e:Zdu []=true:=rfl;simp only[Yp,e,if_true];unfold Zjf;constructor<;>simp -implicitDefEqProofs[l560_1]
theorem zfy(m:List (List Fz))(hl:m.length≤1000)(hw:∀r∈m,r.length≤1000∧∀x∈r,fsz x≤1000):Za T 560 [.sl (Zv m) .an]=some (.b (Zdu m)):=by
 have h:=z0s (T:=T) m hl hw;unfold Zjf at h;rw[Y3]at h;simp only[Yl]at h;rw[zaa Zag.h560 rfl,b560];cases hn:Zdu m with
 | true=>rw[hn]at h;simp at h;simp -implicitDefEqProofs[h]
 | false=>rw[hn]at h;simp at h;simp -implicitDefEqProofs[h]
def Zjg(a:List (List Fz))(i:Nat):St:=⟨[(43,.sl (Zv a) .an),(44,.i .i64 a.length),(45,.i .i64 i)],[],2⟩
theorem zvn(a:List (List Fz))(hl:a.length≤1000) :
  Ze T 0 0 (.norm false []) l559_0 (Zjg a 0)=if Zbf (a.drop 0) 0=true then some (.n,⟨[],[],2⟩) else some (.r,⟨[(2,.b false)],[],2⟩):=by
 refine zak (Zjg a) a.length (fun i=>if Zbf (a.drop i) i=true then some (.n,⟨[],[],2⟩) else some (.r,⟨[(2,.b false)],[],2⟩)) (fun i hi=>?_) ?_
 ·have hws:=zaz hi (by omega);have key:Zbf (a.drop i) i=(decide ((a[i]'hi).length=i)&&Zbf (a.drop (i+1)) (i+1)):=by rw[Ye hi,Zbf]
  by_cases hr:(a[i]'hi).length=i
  ·left;refine⟨?_,by grind⟩;unfold Zjg;simp -implicitDefEqProofs[l559_0,hi,hws,hr]
  ·right;have hr':¬ ((a[i]'hi).length:Int)=i:=by omega
   rw[if_neg (by grind)];unfold Zjg;constructor<;>simp -implicitDefEqProofs[l559_0,hi,hr']
 ·have e:Zbf [] a.length=true:=rfl;simp only[Yp,e,if_true];unfold Zjg;constructor<;>simp -implicitDefEqProofs[l559_0]
theorem zpb(s:Sm)(hs:SmS s):Za T 559 [esm s]=some (.b (Zb3 s)):=by
 have h:=zvn (T:=T) s.a hs.al;unfold Zjg at h;rw[Y3]at h;have l4:=hs.el;rw[zaa Zag.h559 rfl,b559];unfold Zb3;obtain⟨nm,c,a,b,e⟩:=s;by_cases p1:b.length<1
 ·have q2:b=[]:=Ya1.1 (by omega);subst q2;simp -implicitDefEqProofs[]
 have p1':1≤b.length:=by omega
 have m2:¬ (b.length:Int)<1:=by omega
 by_cases p2:8<b.length
 ·have q2:¬ b.length≤8:=by omega
  have m3:(8:Int)<b.length:=by omega
  simp -implicitDefEqProofs[p1',q2,m2,m3]
 have p2':b.length≤8:=by omega
 have m3:¬ (8:Int)<b.length:=by omega
 by_cases p3:c.length=b.length
 rotate_left
 ·have q3:¬ (c.length:Int)=b.length:=by omega
  simp -implicitDefEqProofs[p1',p2',m2,m3,p3,q3]
 by_cases p4:a.length=b.length
 rotate_left
 ·have q4:¬ (a.length:Int)=b.length:=by omega
  simp -implicitDefEqProofs[p1',p2',m2,m3,p3,p4,q4]
 rw[p4]at h;by_cases p5:e.length=b.length
 ·cases hsh:Zbf a 0<;>rw[hsh]at h<;>simp at h<;>simp -implicitDefEqProofs[p1',p2',m2,m3,p3,p4,p5,h]
 have q5:¬ (e.length:Int)=b.length:=by omega
 by_cases p6:e.length=0
 ·have e0:e=[]:=Ya1.1 p6;have q7:¬ (0:Int)=b.length:=by omega
  have q8:¬ 0=b.length:=by omega
  subst e0;cases hsh:Zbf a 0<;>rw[hsh]at h<;>simp at h<;>simp -implicitDefEqProofs[p1',p2',m2,m3,p3,p4,q7,q8,h]
 ·have q7:¬ e=[]:=fun h=>p6 (by grind);simp -implicitDefEqProofs[p1',p2',m2,m3,p3,p4,p5,q5,p6]
def bxS(s:Sm):Box:=⟨1,.str,5,[[.s s.nm,.sl (Zc s.c) .an,.sl (Zv s.a) .an,.sl (Zc s.b) .an,.sl (Zc s.e) .an]]⟩
def Zlh(s:Sm)(i:Nat):St:=⟨[(1,.ptr (.loc 1) 1 5 0 0),(6,.sl (Zv s.a) .an),(7,.i .i64 s.a.length),(8,.i .i64 i)],[(.loc 1,bxS s)],3⟩
theorem z0t(s:Sm)(hl:s.a.length≤8)(hc:s.c.length=s.a.length)(h1:∀r∈s.a,r.length≤8∧∀x∈r,fsz x≤6)(h2:∀x∈s.c,fsz x≤6) :
  Ze T 0 0 (.norm false []) l561_0 (Zlh s 0)=if Zb5 (s.a.drop 0) (s.c.drop 0)=true then some (.n,⟨[],[],2⟩) else some (.r,⟨[(2,.b false)],[],2⟩):=by
 refine zak (Zlh s) s.a.length (fun i=>if Zb5 (s.a.drop i) (s.c.drop i)=true then some (.n,⟨[],[],2⟩) else some (.r,⟨[(2,.b false)],[],2⟩)) (fun i hi=>?_) ?_
 ·have hic:i<s.c.length:=by omega
  have hws:=zaz hi (by omega);obtain⟨g1,g2⟩:=h1 _ (Yi hi);have g3:=h2 _ (Yi hic);have c1:=zho (T:=T) (s.a[i]'hi) g2 (by decide) (by omega);have z1:=zj4 g2 (by decide) (s.a[i]'hi).length (Yg _);rw[Yb (Yg _)]at z1;have c2:=zcr (T:=T) (fz (sumF (s.a[i]'hi))) (s.c[i]'hic) (by rw[zar];omega) (by omega);rw[za7]at c2;have key:Zb5 (s.a.drop i) (s.c.drop i)=(decide (sumF (s.a[i]'hi)=fv (s.c[i]'hic))&&Zb5 (s.a.drop (i+1)) (s.c.drop (i+1))):=by
   grind[Zb5,List.drop_eq_getElem_cons,List.zip_cons_cons]
  have hic':(i:Int)<s.c.length:=by omega
  generalize fz (sumF (s.a[i]'hi))=z at *
  by_cases he:sumF (s.a[i]'hi)=fv (s.c[i]'hic)
  ·left;refine⟨?_,by grind⟩;unfold Zlh bxS;simp -implicitDefEqProofs[l561_0,hi,hws,c1,c2,he,hic,hic']
  ·right;rw[if_neg (by grind)];unfold Zlh bxS;constructor<;>simp -implicitDefEqProofs[l561_0,hi,c1,c2,he,hic,hic']
 ·have e:Zb5 [] (s.c.drop s.a.length)=true:=rfl;simp only[Yp,e,if_true];unfold Zlh bxS;constructor<;>simp -implicitDefEqProofs[l561_0]
theorem zre(s:Sm)(hl:s.a.length≤8)(hc:s.c.length=s.a.length)(h1:∀r∈s.a,r.length≤8∧∀x∈r,fsz x≤6)(h2:∀x∈s.c,fsz x≤6):Za T 561 [esm s]=some (.b (Zb5 s.a s.c)):=by
 have h:=z0t (T:=T) s hl hc h1 h2;unfold Zlh bxS at h;rw[Y3,Y3]at h;rw[zaa Zag.h561 rfl,b561];obtain⟨nm,c,a,b,e⟩:=s;cases hr:Zb5 a c<;>rw[hr]at h<;>simp at h<;>simp -implicitDefEqProofs[h]
theorem zfp:∀(a:List (List Fz)) (i:Nat),Zbf a i=true→∀r∈a,r.length≤i+a.length
 | [],_,_,r,hr=>by grind
 | x::a,i,h,r,hr=>by
  simp only[Zbf,Yh,decide_eq_true_eq]at h;rcases Y7.1 hr with rfl | hr
  ·omega
  ·have:=zfp a (i+1) h.2 r hr
   grind
theorem zvo{s:Sm}(h:Zb3 s=true):1≤s.b.length∧s.b.length≤8∧s.c.length=s.b.length∧s.a.length=s.b.length∧(s.e.length=s.b.length∨s.e.length=0)∧Zbf s.a 0=true:=by
 grind[Zb3]
theorem zsz{m:List (List Fz)}(h:Zdu m=true):∀r∈m,∀x∈r,fsz x≤6:=by
 grind[Zdu,zhn]
theorem zfq{l:List Fz}(hl:l.length≤8)(hw:∀x∈l,fsz x≤6):sz (sumF l)≤57:=by
 have:=zj4 hw (by decide) l.length (Yg _)
 grind
end
section
variable{T:Tbl}[Zaj T][Zs T][Z2 T][Z4 T][Zu T][Zw T][Zf T][Zl T][Zp T][Zah T][Za4 T][Zdh T][Zal T][Zar T][Zbs T][Zas T][Zew T][Zaz T][Zc1 T][Zag T]
theorem zpc(s:Sm)(hs:SmS s):Za T 551 [esm s]=some (.i .i64 (Zgj s)):=by
 have o1:=zmg (T:=T);have c1:=zyn (T:=T) 2 0 s.nm (Yc hs.nm (by decide));have c2:=zpb (T:=T) s hs;have c3:=zfy (T:=T) s.a hs.al (fun r hr=>⟨(hs.a r hr).1,fun x hx=>Yc ((hs.a r hr).2 x hx) (by decide)⟩);have c4:=zfy (T:=T) [s.b,s.c,s.e] (by simp) (fun r hr=>by
  simp only[Y7,Ybv,or_false]at hr;rcases hr with rfl | rfl | rfl
  ·exact⟨hs.bl,fun x hx=>Yc (hs.b x hx) (by decide)⟩
  ·exact⟨hs.cl,fun x hx=>Yc (hs.c x hx) (by decide)⟩
  ·exact⟨hs.el,fun x hx=>Yc (hs.e x hx) (by decide)⟩)
 replace c4:Za T 560 [.sl [[.sl (Zc s.b) .an],[.sl (Zc s.c) .an],[.sl (Zc s.e) .an]] .an]=some (.b (Zdu [s.b,s.c,s.e])):=c4;have k5:=zre (T:=T) s;have k6:=fun(hl:s.b.length≤8) (h:∀x∈s.b,fsz x≤6)=>zho (T:=T) s.b h (by decide) (by omega);have k7:=fun(hl:s.e.length≤8) (h:∀x∈s.e,fsz x≤6)=>zho (T:=T) s.e h (by decide) (by omega);rw[zaa Zag.h551 rfl,b551];unfold Zgj;cases g1:Zbl 2 s.nm with
 | false=>
  rw[g1]at c1;obtain⟨nm,c,a,b,e⟩:=s;generalize fz 1=z1 at *
  dsimp only at *
  simp -implicitDefEqProofs[o1,c1]
 | true=>
 rw[g1]at c1;cases g2:Zb3 s with
 | false=>
  rw[g2]at c2;obtain⟨nm,c,a,b,e⟩:=s;generalize fz 1=z1 at *
  dsimp only at *
  simp -implicitDefEqProofs[o1,c1,c2]
 | true=>
 rw[g2]at c2;obtain⟨s1,s2,s3,s4,s5,s6⟩:=zvo g2;cases g3:Zdu s.a with
 | false=>
  rw[g3]at c3;obtain⟨nm,c,a,b,e⟩:=s;simp -implicitDefEqProofs[o1,c1,c2,c3]
 | true=>
 rw[g3]at c3;cases g4:Zdu [s.b,s.c,s.e]with
 | false=>
  rw[g4]at c4;obtain⟨nm,c,a,b,e⟩:=s;simp -implicitDefEqProofs[o1,c1,c2,c3,c4]
 | true=>
 rw[g4]at c4;have n1:=zsz g3;have n2:=zsz g4;have nb:=n2 s.b (by simp);have nc:=n2 s.c (by simp);have ne:=n2 s.e (by simp);have c5:=k5 (by omega) (by omega) (fun r hr=>⟨by have:=zfp _ _ s6 r hr;omega,n1 r hr⟩) nc;have c6:=k6 (by omega) nb;have c7:=k7 (by omega) ne;have z6:=zfq (l:=s.b) (by omega) nb;have z7:=zfq (l:=s.e) (by omega) ne;have d6:=zcr (T:=T) (fz (sumF s.b)) (fz 1) (by rw[zar];omega) (by rw[zar,zke];omega);have d7:=zcr (T:=T) (fz (sumF s.e)) (fz 1) (by rw[zar];omega) (by rw[zar,zke];omega);rw[za7,za7]at d6 d7;cases g5:Zb5 s.a s.c with
 | false=>
  rw[g5]at c5;obtain⟨nm,c,a,b,e⟩:=s;simp -implicitDefEqProofs[o1,c1,c2,c3,c4,c5]
 | true=>
 rw[g5]at c5;obtain⟨nm,c,a,b,e⟩:=s;generalize fz (sumF b)=zb at *
 generalize fz (sumF e)=ze at *
 by_cases g6:sumF b=1
 ·by_cases g7:e=[]
  ·subst g7;replace c2:Za T 559 [.agg [.s nm,.sl (Zc c) .an,.sl (Zv a) .an,.sl (Zc b) .an,.sl [] .an]]=_:=c2;replace c4:Za T 560 [.sl [[.sl (Zc b) .an],[.sl (Zc c) .an],[.sl [] .an]] .an]=_:=c4;replace c5:Za T 561 [.agg [.s nm,.sl (Zc c) .an,.sl (Zv a) .an,.sl (Zc b) .an,.sl [] .an]]=_:=c5;simp -implicitDefEqProofs[o1,c1,c2,c3,c4,c5,c6,d6,g6]
  ·have l7:0<e.length:=Ybm.2 g7;by_cases g8:sumF e=1
   ·simp -implicitDefEqProofs[o1,c1,c2,c3,c4,c5,c6,d6,g6,c7,d7,g7,g8,l7]
   ·simp -implicitDefEqProofs[o1,c1,c2,c3,c4,c5,c6,d6,g6,c7,d7,g7,g8,l7]
 ·simp -implicitDefEqProofs[o1,c1,c2,c3,c4,c5,c6,d6,g6]
theorem zpd(s:Sm)(hs:SmS s):Za T 536 [esm s]=some (.b (okS s)):=by
 have h:=zpc (T:=T) s hs;rw[zaa Zag.h536 rfl,b536];unfold okS;generalize Zgj s=w at *
 by_cases hw:w=0
 ·subst hw;simp -implicitDefEqProofs[h]
 ·simp -implicitDefEqProofs[h,hw]
end
end Go.Ab
end
section
namespace Go.Ab
theorem zzn{c:UInt8}{n:Nat}(hn:n<256)(h:c≠UInt8.ofNat n):¬ c.toNat=n:=fun e=>h (by
 grind[UInt8.toNat_inj,UInt8.toNat_ofNat'])
section
variable{T:Tbl}[Za1 T]
theorem zjv(c:UInt8):Za T 189 [u8 c.toNat]=some (.b (isD c)):=by
 rw[zaa Za1.h189 rfl,b189];by_cases h1:48≤c.toNat
 ·simp -implicitDefEqProofs[isD,h1]
 ·simp -implicitDefEqProofs[isD,h1]
theorem zh4(c:UInt8):Za T 190 [u8 c.toNat]=some (.b (isL c)):=by
 rw[zaa Za1.h190 rfl,b190];by_cases h1:97≤c.toNat<;>by_cases h2:c.toNat≤122<;>by_cases h3:65≤c.toNat<;>by_cases h4:c.toNat≤90<;>by_cases h5:c.toNat=95 <;>
  simp -implicitDefEqProofs[isL,h1,h2,h3,h4,h5]
end
section
variable{T:Tbl}
theorem zzo(c:UInt8)(l:List UInt8)(hl:l.length≤1000)(R:Bool):∀i:Nat,(i≤l.length∧(l.drop i).contains c=R) →
  Ze T 0 0 (.norm false []) l181_0 ⟨[(0,u8 c.toNat),(3,.s l),(4,.i .i64 i)],[],2⟩=if R=true then some (.r,⟨[(2,.i .i64 3)],[],2⟩) else some (.n,⟨[],[],2⟩):=by
 refine zav (fun i:Nat=>⟨[(0,u8 c.toNat),(3,.s l),(4,.i .i64 i)],[],2⟩) _ (fun i=>l.length-i) _ ?_
 rintro i ⟨hi,hR⟩
 by_cases h0:i<l.length
 ·have hg:l[i]? = some (l[i]'h0):=Ya h0;have hd:=Ye h0;have hw:IntKind.wrap .i64 ((i:Int)+1)=((i+1:Nat):Int):=zac _ (by omega);rw[hd,List.contains_cons]at hR;by_cases hc:(l[i]'h0).toNat=c.toNat
  ·right;have:c=l[i]'h0:=(UInt8.toNat_inj.1 hc).symm;have hR':R=true:=by grind
   subst hR';clear hR hd;constructor<;>simp -implicitDefEqProofs[l181_0,h0,hc]
  ·left;have hne:(c == l[i]'h0)=false:=by
    grind
   rw[hne,Bool.false_or]at hR;refine⟨i+1,⟨h0,hR⟩,by omega,?_,rfl⟩;simp -implicitDefEqProofs[l181_0,h0,hc,hw]
 ·right;have:i=l.length:=by omega
  subst this;subst hR;constructor<;>simp -implicitDefEqProofs[l181_0]
end
section
variable{T:Tbl}[Za1 T]
theorem zfk(c:UInt8):Za T 181 [u8 c.toNat]=some (.i .i64 (Zi c)):=by
 have h1:=zjv (T:=T) c;have h2:=zh4 (T:=T) c;have h:=zzo (T:=T) c Zio (by decide) _ 0 ⟨by decide,rfl⟩;rw[Y3,show Zio.contains c=isS c from rfl]at h;simp only[Zio]at h;rw[zaa Za1.h181 rfl,b181];cases e1:isD c<;>cases e2:isL c<;>cases e3:isS c<;>simp only[e3]at h<;>simp at h<;>simp -implicitDefEqProofs[Zi,h1,h2,h,e1,e2,e3]
theorem zhj(k:Nat)(c:UInt8):Za T 180 [.i .i64 k,u8 c.toNat]=some (.b (Zbd k c)):=by
 have h1:=zjv (T:=T) c;have h2:=zh4 (T:=T) c;rw[zaa Za1.h180 rfl,b180];by_cases k1:k=1
 ·subst k1;cases e1:isD c<;>cases e2:isL c<;>simp -implicitDefEqProofs[Zbd,h1,e1,e2]
 ·have k1':¬ (k:Int)=1:=by omega
  by_cases k2:k=2
  ·subst k2;cases e1:isD c<;>cases e2:isL c<;>simp -implicitDefEqProofs[Zbd,h1,h2,e1,e2]
  ·have k2':¬ (k:Int)=2:=by omega
   simp -implicitDefEqProofs[Zbd,k1,k2,k1',k2']
theorem zhk(k:Nat):Za T 182 [.i .i64 k]=some (.i .i64 (Zau k)):=by
 rw[zaa Za1.h182 rfl,b182];by_cases k1:k=1
 ·subst k1;simp -implicitDefEqProofs[Zau]
 ·have k1':¬ (k:Int)=1:=by omega
  by_cases k2:k=2
  ·subst k2;simp -implicitDefEqProofs[Zau]
  ·have k2':¬ (k:Int)=2:=by omega
   simp -implicitDefEqProofs[Zau,k1,k2,k1',k2']
def Zc4(s:List UInt8)(i:Nat)(note:Bool)(acc:List Wd):St:=
 ⟨[(0,.s s),(4,.bs (.loc 4) 1 3 0 acc.length),(5,.b note),(6,.i .i64 i)],[(.loc 4,⟨1,.own,3,Z9 acc⟩)],3⟩
def Zfr:Except Nat (List Wd)→Option (Ex×St)
 | .ok ws=>some (.n,⟨[(4,.bs (.loc 4) 1 3 0 ws.length)],[(.loc 4,⟨1,.own,3,Z9 ws⟩)],3⟩)
 | .error e=>some (.r,⟨[(2,.sl [] .an),(3,.i .i64 e)],[],2⟩)
def Zpq(acc:List Wd)(i:Nat):Prop:=∀k t a,acc.getLast? = some (k,t,a)→a+t.length≤i
theorem zzp(s:List UInt8)(hs:s.length≤4000)(i:Nat)(h0:i<s.length)(note:Bool)(acc:List Wd)(ha:acc.length≤i)(c:UInt8)(hc:s[i]'h0=c)
  (hsk:((if c=35 then true else if c=10 then false else note) || isB c)=true) :
  evX (orc T) T 0 l168_0 (Zc4 s i note acc)=some (.n,Zc4 s (i+1) (if c=35 then true else if c=10 then false else note) acc):=by
 have hw:IntKind.wrap .i64 ((i:Int)+1)=((i+1:Nat):Int):=zac _ (by omega);rw[z64]at hsk;have e35:=zjg c 35 (by decide);have e10:=zjg c 10 (by decide);rw[show UInt8.ofNat 35=35 from rfl]at e35;rw[show UInt8.ofNat 10=10 from rfl]at e10;simp only[e35,e10]at hsk ⊢;obtain⟨n,hn⟩:∃n,n=c.toNat:=⟨_,rfl⟩;have hn':=hn.symm;by_cases c35:n=35
 ·subst c35;simp -implicitDefEqProofs[l168_0,Zc4,h0,hc,hn',hw]
 ·by_cases c10:n=10
  ·subst c10;simp -implicitDefEqProofs[l168_0,Zc4,h0,hc,hn',hw]
  ·cases note with
   | true=>simp -implicitDefEqProofs[l168_0,Zc4,h0,hc,hn',hw,c35,c10]
   | false=>
    by_cases c32:n=32
    ·subst c32;simp -implicitDefEqProofs[l168_0,Zc4,h0,hc,hn',hw]
    ·by_cases c9:n=9
     ·subst c9;simp -implicitDefEqProofs[l168_0,Zc4,h0,hc,hn',hw]
     ·have c13:n=13:=by grind
      subst c13;simp -implicitDefEqProofs[l168_0,Zc4,h0,hc,hn',hw]
theorem zc4(pre:List Wd)(k a:Nat)(t:List UInt8):(Z9 (pre++[(k,t,a)]))[pre.length]? = some [.i .i64 k,.s t,.i .i64 a]:=by
 simp[Z9,wdR]
theorem zzq(s:List UInt8)(hs:s.length≤4000)(i:Nat)(h0:i<s.length)(c:UInt8)(hc:s[i]'h0=c)
  (c35:¬ c.toNat=35) (c10:¬ c.toNat=10) (c32:¬ c.toNat=32) (c9:¬ c.toNat=9) (c13:¬ c.toNat=13) (k:Nat) (hk0:Zi c=k) (hz:¬ k=0) :
  evX (orc T) T 0 l168_0 (Zc4 s i false [])=some (.n,Zc4 s (i+1) false [(k,[c],i)]):=by
 have hw:IntKind.wrap .i64 ((i:Int)+1)=((i+1:Nat):Int):=zac _ (by omega);have hk:=zfk (T:=T) c;rw[hk0]at hk;have b1:(i:Int)+1≤s.length:=by omega
 have b2:List.drop i (List.take (i+1) s)=[c]:=by
  grind[List.drop_eq_getElem_cons]
 have hm:=zhk (T:=T) k;have hq:=ze8 k;have hq':¬ ((Zau k:Nat):Int)<1:=by omega
 simp -implicitDefEqProofs[l168_0,Zc4,Z9,wdR,h0,hc,hw,c35,c10,c32,c9,c13,hk,hm,b1,b2,hz,hq']
theorem zmu(s:List UInt8)(hs:s.length≤4000)(i:Nat)(h0:i<s.length)(c:UInt8)(hc:s[i]'h0=c)
  (c35:¬ c.toNat=35) (c10:¬ c.toNat=10) (c32:¬ c.toNat=32) (c9:¬ c.toNat=9) (c13:¬ c.toNat=13) (hk0:Zi c=0) :
  Zd4 (evX (orc T) T 0 l168_0 (Zc4 s i false []))=true∧Zdg 0 0 (Gh.norm false [4]) (evX (orc T) T 0 l168_0 (Zc4 s i false []))=Zfr (.error i):=by
 have hw:IntKind.wrap .i64 ((i:Int)+1)=((i+1:Nat):Int):=zac _ (by omega);have hk:=zfk (T:=T) c;rw[hk0]at hk;have b1:(i:Int)+1≤s.length:=by omega
 have b2:List.drop i (List.take (i+1) s)=[c]:=by
  grind[List.drop_eq_getElem_cons]
 constructor<;>simp -implicitDefEqProofs[l168_0,Zc4,Zfr,Z9,h0,hc,hw,c35,c10,c32,c9,c13,hk,b1,b2]
theorem zzr(s:List UInt8)(hs:s.length≤4000)(i:Nat)(h0:i<s.length)(c:UInt8)(hc:s[i]'h0=c)
  (c35:¬ c.toNat=35) (c10:¬ c.toNat=10) (c32:¬ c.toNat=32) (c9:¬ c.toNat=9) (c13:¬ c.toNat=13) (pre:List Wd) (hp:pre.length<i) (k0 a0:Nat) (t0:List UInt8) (ht0:a0+t0.length≤i) (hadj:¬ (a0+t0.length=i∧Zbd k0 c=true)) (k:Nat) (hk0:Zi c=k) (hz:¬ k=0) :
  evX (orc T) T 0 l168_0 (Zc4 s i false (pre++[(k0,t0,a0)]))=some (.n,Zc4 s (i+1) false (pre++[(k0,t0,a0)]++[(k,[c],i)])):=by
 have hg:s[i]? = some c:=by grind
 have hw:IntKind.wrap .i64 ((i:Int)+1)=((i+1:Nat):Int):=zac _ (by omega);have hwi:IntKind.wrap .i64 (i:Int)=(i:Int):=zac _ (by omega);have b1:(i:Int)+1≤s.length:=by omega
 have b2:List.drop i (List.take (i+1) s)=[c]:=by
  grind[List.drop_eq_getElem_cons]
 have hmo:=zhj (T:=T) k0 c;have hl:=zc4 pre k0 a0 t0;have hll:(Z9 (pre++[(k0,t0,a0)])).length=pre.length+1:=by simp
 have hl2:=zc4 (pre++[(k0,t0,a0)]) k i [c];have hll2:(Z9 (pre++[(k0,t0,a0)]++[(k,[c],i)])).length=pre.length+2:=by simp
 have hpu:wkL (List.take (pre.length+1) (Z9 (pre++[(k0,t0,a0)]))++[[AV.i .i64 k,.s [c],.i .i64 i]])=Z9 (pre++[(k0,t0,a0)]++[(k,[c],i)]):=by
  grind[zlc,List.length_singleton]
 have hwp:IntKind.wrap .i64 (pre.length:Int)=(pre.length:Int):=zac _ (by omega);have hwp1:IntKind.wrap .i64 ((pre.length:Int)+1)=(pre.length:Int)+1:=zac _ (by omega);have hlt:(pre.length:Int)<(pre.length:Int)+1:=by omega
 have hws:IntKind.wrap .i64 ((a0:Int)+t0.length)=((a0:Int)+t0.length):=zac _ (by omega);have hk:=zfk (T:=T) c;rw[hk0]at hk;have hm:=zhk (T:=T) k;have hq:=ze8 k;have hq':¬ ((Zau k:Nat):Int)<1:=by omega
 have hz':¬ (k:Int)=0:=by omega
 have hal:(pre++[(k0,t0,a0)]).length=pre.length+1:=by simp
 have hal2:(pre++[(k0,t0,a0)]++[(k,[c],i)]).length=pre.length+2:=by simp
 have hpl:pre.length≤4294967294:=by omega
 unfold Zc4;rw[hal,hal2];rw[hal]at hl2;have g1:=zem (pre++[(k0,t0,a0)]);have g2:=zgr (pre++[(k0,t0,a0)]);have g3:=zem (pre++[(k0,t0,a0)]++[(k,[c],i)]);have g4:=zgr (pre++[(k0,t0,a0)]++[(k,[c],i)]);generalize Z9 (pre++[(k0,t0,a0)]++[(k,[c],i)])=RW2 at *
 generalize Z9 (pre++[(k0,t0,a0)])=RW at *
 generalize pre.length=m at *
 obtain⟨hx1,hgE⟩:=Yd.1 hl;have hT:List.take (m+1) RW=RW:=Yb (by omega);rw[hT]at hpu;have hl3:(RW++[[AV.i .i64 k,.s [c],.i .i64 i]])[m+1]? = some [AV.i .i64 k,.s [c],.i .i64 i]:=by
  grind
 obtain⟨hx3,hgE3⟩:=Yd.1 hl3;have hm1:((m:Int)+1).toNat=m+1:=by omega
 by_cases had:a0+t0.length=i
 ·have had':(a0:Int)+t0.length=i:=by omega
  have hmm:Zbd k0 c=false:=by grind
  simp -implicitDefEqProofs[l168_0,h0,hc,hw,hwi,c35,c10,c32,c9,c13,hk,hm,b1,b2,hz,hq',hmo,hll,hT,hpu,hm1,hwp,hwp1,hlt,hgE,hgE3,had',hmm,hpl]
 ·have had':¬ (a0:Int)+t0.length=i:=by omega
  simp -implicitDefEqProofs[l168_0,h0,hc,hw,c35,c10,c32,c9,c13,hk,hm,b1,b2,hz,hq',hll,hT,hpu,hm1,hwp,hwp1,hws,hlt,hgE,hgE3,had',hpl]
theorem zmv(s:List UInt8)(hs:s.length≤4000)(i:Nat)(h0:i<s.length)(c:UInt8)(hc:s[i]'h0=c)
  (c35:¬ c.toNat=35) (c10:¬ c.toNat=10) (c32:¬ c.toNat=32) (c9:¬ c.toNat=9) (c13:¬ c.toNat=13) (pre:List Wd) (hp:pre.length<i) (k0 a0:Nat) (t0:List UInt8) (ht0:a0+t0.length≤i) (hadj:¬ (a0+t0.length=i∧Zbd k0 c=true)) (hk0:Zi c=0) :
  Zd4 (evX (orc T) T 0 l168_0 (Zc4 s i false (pre++[(k0,t0,a0)])))=true∧Zdg 0 0 (Gh.norm false [4]) (evX (orc T) T 0 l168_0 (Zc4 s i false (pre++[(k0,t0,a0)])))=Zfr (.error i):=by
 obtain⟨k,hkk⟩:∃k:Nat,k=0:=⟨_,rfl⟩;have hw:IntKind.wrap .i64 ((i:Int)+1)=((i+1:Nat):Int):=zac _ (by omega);have hwi:IntKind.wrap .i64 (i:Int)=(i:Int):=zac _ (by omega);have b1:(i:Int)+1≤s.length:=by omega
 have b2:List.drop i (List.take (i+1) s)=[c]:=by
  grind[List.drop_eq_getElem_cons]
 have hmo:=zhj (T:=T) k0 c;have hl:=zc4 pre k0 a0 t0;have hll:(Z9 (pre++[(k0,t0,a0)])).length=pre.length+1:=by simp
 have hl2:=zc4 (pre++[(k0,t0,a0)]) k i [c];have hpu:wkL (List.take (pre.length+1) (Z9 (pre++[(k0,t0,a0)]))++[[AV.i .i64 k,.s [c],.i .i64 i]])=Z9 (pre++[(k0,t0,a0)]++[(k,[c],i)]):=by
  grind[zlc,List.length_singleton]
 have hwp:IntKind.wrap .i64 (pre.length:Int)=(pre.length:Int):=zac _ (by omega);have hwp1:IntKind.wrap .i64 ((pre.length:Int)+1)=(pre.length:Int)+1:=zac _ (by omega);have hlt:(pre.length:Int)<(pre.length:Int)+1:=by omega
 have hws:IntKind.wrap .i64 ((a0:Int)+t0.length)=((a0:Int)+t0.length):=zac _ (by omega);have hk:=zfk (T:=T) c;rw[hk0]at hk;have hz':(k:Int)=0:=by omega
 have hal:(pre++[(k0,t0,a0)]).length=pre.length+1:=by simp
 have hpl:pre.length≤4294967294:=by omega
 unfold Zc4 Zfr;rw[hal];have g4:=zgr (pre++[(k0,t0,a0)]++[(k,[c],i)]);generalize Z9 (pre++[(k0,t0,a0)])=RW at *
 generalize pre.length=m at *
 obtain⟨hx1,hgE⟩:=Yd.1 hl;have hT:List.take (m+1) RW=RW:=Yb (by omega);have hl3:(RW++[[AV.i .i64 k,.s [c],.i .i64 i]])[m+1]? = some [AV.i .i64 k,.s [c],.i .i64 i]:=by
  grind
 have hm1:((m:Int)+1).toNat=m+1:=by omega
 by_cases had:a0+t0.length=i
 ·have had':(a0:Int)+t0.length=i:=by omega
  have hmm:Zbd k0 c=false:=by grind
  constructor<;>simp -implicitDefEqProofs[l168_0,h0,hc,hw,hwi,c35,c10,c32,c9,c13,hk,b1,b2,hmo,hll,hT,hm1,hwp,hwp1,hlt,hgE,had',hmm,hpl]
 ·have had':¬ (a0:Int)+t0.length=i:=by omega
  constructor<;>simp -implicitDefEqProofs[l168_0,h0,hc,hw,c35,c10,c32,c9,c13,hk,b1,b2,hll,hT,hm1,hwp,hwp1,hws,hlt,hgE,had',hpl]
theorem zzs(pre:List Wd)(k a:Nat)(t t':List UInt8):(Z9 (pre++[(k,t,a)])).set pre.length [.i .i64 k,.s t',.i .i64 a]=Z9 (pre++[(k,t',a)]):=by
 have e:Z9 (pre++[(k,t,a)])=Z9 pre++[wdR (k,t,a)]:=by simp[Z9]
 have e':Z9 (pre++[(k,t',a)])=Z9 pre++[wdR (k,t',a)]:=by simp[Z9]
 rw[e,e',Yad _ _ (by simp),ze1,Ycg]
 rfl
theorem z3p(s:List UInt8)(hs:s.length≤4000)(i:Nat)(h0:i<s.length)(c:UInt8)(hc:s[i]'h0=c)
  (c35:¬ c.toNat=35) (c10:¬ c.toNat=10) (c32:¬ c.toNat=32) (c9:¬ c.toNat=9) (c13:¬ c.toNat=13) (pre:List Wd) (hp:pre.length<i) (k0 a0:Nat) (t0:List UInt8) (had:a0+t0.length=i) (hmm:Zbd k0 c=true) (hz:¬ k0=0) :
  (t0.length+1≤Zau k0→evX (orc T) T 0 l168_0 (Zc4 s i false (pre++[(k0,t0,a0)]))=some (.n,Zc4 s (i+1) false (pre++[(k0,t0++[c],a0)]))) ∧
  (Zau k0<t0.length+1→Zd4 (evX (orc T) T 0 l168_0 (Zc4 s i false (pre++[(k0,t0,a0)])))=true∧Zdg 0 0 (Gh.norm false [4]) (evX (orc T) T 0 l168_0 (Zc4 s i false (pre++[(k0,t0,a0)])))=Zfr (.error i)):=by
 have hw:IntKind.wrap .i64 ((i:Int)+1)=((i+1:Nat):Int):=zac _ (by omega);have hwi:IntKind.wrap .i64 (i:Int)=(i:Int):=zac _ (by omega);have b1:(i:Int)+1≤s.length:=by omega
 have b2:List.drop i (List.take (i+1) s)=[c]:=by
  grind[List.drop_eq_getElem_cons]
 have hmo:=zhj (T:=T) k0 c;rw[hmm]at hmo;have hl:=zc4 pre k0 a0 t0;have hll:(Z9 (pre++[(k0,t0,a0)])).length=pre.length+1:=by simp
 have hl2:=zc4 pre k0 a0 (t0++[c]);have hll2:(Z9 (pre++[(k0,t0++[c],a0)])).length=pre.length+1:=by simp
 have hset:=zzs pre k0 a0 t0 (t0++[c]);have hwp:IntKind.wrap .i64 (pre.length:Int)=(pre.length:Int):=zac _ (by omega);have hlt:(pre.length:Int)<(pre.length:Int)+1:=by omega
 have had':(a0:Int)+t0.length=i:=by omega
 have hm:=zhk (T:=T) k0;have hal:(pre++[(k0,t0,a0)]).length=pre.length+1:=by simp
 have hal2:(pre++[(k0,t0++[c],a0)]).length=pre.length+1:=by simp
 have hcl:t0.length+1≤9223372036854775807:=by omega
 unfold Zc4 Zfr;rw[hal,hal2];have g3:=zem (pre++[(k0,t0++[c],a0)]);have g4:=zgr (pre++[(k0,t0++[c],a0)]);obtain⟨hx1,hgE⟩:=Yd.1 hl;obtain⟨hx2,hgE2⟩:=Yd.1 hl2;refine⟨fun hq=>?_,fun hq=>?_⟩
 ·have hq2:¬ ((Zau k0:Nat):Int)<(t0.length:Int)+1:=by omega
  simp -implicitDefEqProofs[l168_0,h0,hc,hw,hwi,c35,c10,c32,c9,c13,hm,b1,b2,hz,hmo,hll,hll2,hset,hwp,hlt,hgE,hgE2,had',hcl,hq2,g3]
 ·have hq2:((Zau k0:Nat):Int)<(t0.length:Int)+1:=by omega
  constructor<;>simp -implicitDefEqProofs[l168_0,h0,hc,hw,hwi,c35,c10,c32,c9,c13,hm,b1,b2,hz,hmo,hll,hll2,hset,hwp,hlt,hgE,hgE2,had',hcl,hq2]
theorem zzt(s:List UInt8)(hs:s.length≤4000):∀y:Nat×Bool×List Wd,(y.1≤s.length∧y.2.2.length≤y.1∧(∀k t a,y.2.2.getLast? = some (k,t,a)→a+t.length≤y.1∧¬ k=0)) →
  Ze T 0 0 (.norm false [4]) l168_0 (Zc4 s y.1 y.2.1 y.2.2)=Zfr (Zfi (s.drop y.1) y.1 y.2.1 y.2.2):=by
 refine zav (fun y:Nat×Bool×List Wd=>Zc4 s y.1 y.2.1 y.2.2) (fun y=>y.1≤s.length∧y.2.2.length≤y.1∧(∀k t a,y.2.2.getLast? = some (k,t,a)→a+t.length≤y.1∧¬ k=0)) (fun y=>s.length-y.1) (fun y=>Zfr (Zfi (s.drop y.1) y.1 y.2.1 y.2.2)) ?_
 rintro⟨i,note,acc⟩ ⟨hi,ha,he⟩
 by_cases h0:i<s.length
 ·obtain⟨c,hc⟩:∃c,s[i]'h0=c:=⟨_,rfl⟩;have hd:s.drop i=c::s.drop (i+1):=by rw[Ye h0,hc]
  by_cases hsk:((if c=35 then true else if c=10 then false else note) || isB c)=true
  ·left;refine⟨(i+1,(if c=35 then true else if c=10 then false else note),acc),⟨h0,by grind,fun k t a h=>by
    grind⟩,by omega,zzp s hs i h0 note acc ha c hc hsk,?_⟩
   grind[Zfi]
  ·have hsk':=hsk;simp only[Ycc,not_or,Yb5]at hsk';obtain⟨h1,h2⟩:=hsk';have n35:c≠35:=fun e=>by grind
   have n10:c≠10:=fun e=>by subst e;simp[isB]at h2
   have hnote:note=false:=by grind
   subst hnote;have hB:¬ c=32∧¬ c=9∧¬ c=13:=by
    grind[isB]
   have c35:¬ c.toNat=35:=zzn (n:=35) (by decide) n35;have c10:¬ c.toNat=10:=zzn (n:=10) (by decide) n10;have c32:¬ c.toNat=32:=zzn (n:=32) (by decide) hB.1;have c9:¬ c.toNat=9:=zzn (n:=9) (by decide) hB.2.1;have c13:¬ c.toNat=13:=zzn (n:=13) (by decide) hB.2.2;have hR:Zfi (s.drop i) i false acc=if Zfg (Zdj c i acc)=true then .error i else Zfi (s.drop (i+1)) (i+1) false (Zdj c i acc):=by
    grind[Zfi]
   rw[hR];have hmp:=ze8 (Zi c);rcases List.eq_nil_or_concat acc with rfl | ⟨pre,⟨k0,t0,a0⟩,rfl⟩
   ·have hs1:Zdj c i []=[(Zi c,[c],i)]:=rfl;have hb1:Zfg [(Zi c,[c],i)]=decide (Zi c=0):=by
     simp[Zfg];omega
    rw[hs1,hb1];by_cases hk:Zi c=0
    ·grind[zmu]
    ·left;rw[decide_eq_false hk,if_neg (by decide)];refine⟨(i+1,false,[(Zi c,[c],i)]),⟨h0,by simp,fun k t a h=>by
      grind⟩,by omega,zzq (T:=T) s hs i h0 c hc c35 c10 c32 c9 c13 (Zi c) rfl hk,rfl⟩
   ·rw[List.concat_eq_append]at he ha ⊢;obtain⟨e1,e2⟩:=he k0 t0 a0 (by simp);have hp:pre.length<i:=by
     grind
    by_cases hadj:a0+t0.length=i∧Zbd k0 c=true
    ·have hs1:Zdj c i (pre++[(k0,t0,a0)])=pre++[(k0,t0++[c],a0)]:=by simp[Zdj,hadj.1,hadj.2]
     have hb1:Zfg (pre++[(k0,t0++[c],a0)])=decide (Zau k0<t0.length+1):=by simp[Zfg,e2]
     rw[hs1,hb1];obtain⟨x1,x2⟩:=z3p (T:=T) s hs i h0 c hc c35 c10 c32 c9 c13 pre hp k0 a0 t0 hadj.1 hadj.2 e2;by_cases hq:Zau k0<t0.length+1
     ·grind
     ·left;rw[decide_eq_false hq,if_neg (by decide)];refine⟨(i+1,false,pre++[(k0,t0++[c],a0)]),⟨h0,by grind,fun k t a h=>by
       grind⟩,by omega,x1 (by omega),rfl⟩
    ·have hs1:Zdj c i (pre++[(k0,t0,a0)])=pre++[(k0,t0,a0)]++[(Zi c,[c],i)]:=by
      unfold Zdj
      grind
     have hb1:Zfg (pre++[(k0,t0,a0)]++[(Zi c,[c],i)])=decide (Zi c=0):=by
      simp[Zfg];omega
     rw[hs1,hb1];by_cases hk:Zi c=0
     ·grind[zmv]
     ·left;rw[decide_eq_false hk,if_neg (by decide)];refine⟨(i+1,false,pre++[(k0,t0,a0)]++[(Zi c,[c],i)]),⟨h0,by grind,fun k t a h=>by
       grind⟩,by omega,zzr (T:=T) s hs i h0 c hc c35 c10 c32 c9 c13 pre hp k0 a0 t0 e1 hadj (Zi c) rfl hk,rfl⟩
 ·right;have hi2:i=s.length:=by omega
  subst hi2;rw[Yp];have er:Zfi [] s.length note acc=.ok acc:=rfl;rw[er];simp only[Zfr,Zc4];have g1:=zem acc;have g2:=zgr acc;have g3:=ze1 acc;generalize Z9 acc=RW at *
  generalize acc.length=m at *
  constructor<;>simp -implicitDefEqProofs[l168_0,g1]
def Zg8(r:Except Nat (List Wd)):AV:=
 match r with
 | .ok ws=>.tup [.sl (Z9 ws) .an,.i .i64 (-1)]
 | .error e=>.tup [.sl [] .an,.i .i64 e]
theorem zvd(s:List UInt8)(hs:s.length≤1000000):Za T 168 [.s s]=some (Zg8 (Zj6 s)):=by
 rw[zaa Za1.h168 rfl,b168];unfold Zj6;by_cases h1:4000<s.length
 ·have h1':(4000:Int)<s.length:=by omega
  rw[if_pos h1];simp -implicitDefEqProofs[Zg8,h1']
 ·have h1':¬ (4000:Int)<s.length:=by omega
  rw[if_neg h1];have h:=zzt (T:=T) s (by omega) (0,false,[]) ⟨Yv _,Yg _,fun k t a h=>by grind⟩;simp only[Y3]at h;rw[z1i]at h;have e0:Z9 []=[]:=rfl;simp only[Zc4,e0,Yav,Yl]at h;cases hr:Zdy (s.drop (Zbi false s)) (Zbi false s) []with
  | ok ws=>
   rw[hr]at h;simp only[Zfr]at h;have g1:=zem ws;have g3:=ze1 ws;simp only[Zg8];generalize Z9 ws=RW at *
   generalize ws.length=m at *
   have ht:List.take m RW=RW:=Yb (by omega);simp -implicitDefEqProofs[h1',h,g1,ht,g3]
  | error e=>
   rw[hr]at h;simp only[Zfr]at h;simp -implicitDefEqProofs[Zg8,h1',h]
end
end Go.Ab
end
section
namespace Go.Ab
theorem zo4:∀(n:Nat) (l:List UInt8) (i:Nat) (acc ws:List Wd),l.length=n→Zdy l i acc=.ok ws→∃r,ws=acc++r:=by
 intro n
 induction n using Nat.strongRecOn with
 | _ n ih=>
  intro l i acc ws hl h;cases l with
  | nil=>rw[zg4]at h;cases h;exact⟨[],by simp⟩
  | cons c r=>
   rw[zhv]at h;split at h
   ·cases h
   ·split at h
    ·cases h
    ·obtain⟨r',hr'⟩:=ih _ (by simp only[Yb4,Yn]at hl ⊢;omega) _ _ _ _ rfl h;exact⟨_,by rw[hr',Ya3]⟩
def Zgr(k:Int)(t:List UInt8):Except Nat (List Wd)→Bool
 | .ok [(k',t',_)]=>decide ((k':Int)=k)&&decide (t'=t)
 | _=>false
theorem zzu(k:Nat)(r:List UInt8):1≤Z8 k r∧Z8 k r≤r.length+1:=by
 unfold Z8;have:=(List.takeWhile_sublist (Zbd k) (l:=r)).length_le;omega
theorem zve(k:Int)(t:List UInt8)(ht:t.length≤4000):Zgr k t (Zj6 t)=Zbl k t:=by
 unfold Zj6;rw[if_neg (by omega)];cases t with
 | nil=>simp[Zbi,zg4,Zgr,Zbl]
 | cons c r=>
  simp only[Yn]at ht;by_cases hsk:Zbi false (c::r)=0
  ·rw[hsk,Y3,zhv];obtain⟨f1,f2⟩:=zzu (Zi c) r;by_cases hk:Zi c=0
   ·rw[if_pos hk];simp only[Zgr,Zbl,hk];by_cases hk0:k=0
    ·simp[hk0]
    ·have:¬ (0:Int)=k:=fun h=>hk0 h.symm;simp[this]
   ·rw[if_neg hk];by_cases hm:Zau (Zi c)<Z8 (Zi c) r
    ·rw[if_pos hm];simp only[Zgr,Zbl];by_cases hfl:Z8 (Zi c) r=r.length+1
     ·have:¬ r.length+1≤Zau (Zi c):=by omega
      simp[this]
     ·simp[hfl]
    ·rw[if_neg hm,Yax];by_cases hfl:Z8 (Zi c) r=r.length+1
     ·have e1:r.drop (Z8 (Zi c) r-1)=[]:=by
       rw[hfl];exact Yb0 (by omega)
      have e2:(c::r).take (Z8 (Zi c) r)=c::r:=by
       rw[hfl];exact Yb (by simp)
      rw[e1,e2];simp only[Zbi,List.drop_nil,zg4,Zgr,Zbl,hfl];have:r.length+1≤Zau (Zi c):=by omega
      by_cases hkk:(Zi c:Int)=k
      ·have hk0:k≠0:=by omega
       simp[hkk,hk0,this]
      ·simp[hkk]
     ·have hfalse:Zbl k (c::r)=false:=by simp[Zbl,hfl]
      rw[hfalse];generalize hws:Zdy ((r.drop (Z8 (Zi c) r-1)).drop (Zbi false (r.drop (Z8 (Zi c) r-1)))) (0+Z8 (Zi c) r+Zbi false (r.drop (Z8 (Zi c) r-1))) [(Zi c,(c::r).take (Z8 (Zi c) r),0)]=res;cases res with
      | error e=>rfl
      | ok ws=>
       obtain⟨x,hx⟩:=zo4 _ _ _ _ _ rfl hws;rw[hx];cases x with
       | nil=>
        simp only[Ya8,Zgr];have hne:¬ (c::r).take (Z8 (Zi c) r)=c::r:=fun h=>by
         have:=congrArg List.length h;rw[Yaj,Yn]at this;omega
        rw[decide_eq_false hne,Bool.and_false]
       | cons y x=>rfl
  ·have hle:=ztb false (c::r);have hk:Zi c=0∨isB c=true∨c=35:=by
    right;by_cases hb:((if c=35 then true else if c=10 then false else false) || isB c)=true
    ·by_cases h35:c=35
     ·exact .inr h35
     ·simp[h35]at hb;exact .inl hb
    ·exfalso;apply hsk;simp only[Zbi];rw[if_neg hb]
   have hk0:Zi c=0:=by
    rcases hk with h | h | h
    ·exact h
    ·simp only[isB,Ycc,decide_eq_true_eq]at h;rcases h with ((rfl | rfl) | rfl) | rfl<;>decide
    ·subst h;decide
   have hr:Zbl k (c::r)=false:=by
    simp only[Zbl,hk0];by_cases hk0:k=0
    ·simp[hk0]
    ·have:¬ (0:Int)=k:=fun h=>hk0 h.symm;simp[this]
   rw[hr]
   -- every word is shorter than the text
   have key:∀(l:List UInt8) (i:Nat),l.length<(c::r).length→Zgr k (c::r) (Zdy l i [])=false:=by
    intro l i hl;cases l with
    | nil=>rw[zg4];rfl
    | cons d q=>
     rw[zhv];split
     ·rfl
     ·split
      ·rfl
      ·generalize hws:Zdy ((q.drop (Z8 (Zi d) q-1)).drop (Zbi false (q.drop (Z8 (Zi d) q-1)))) (i+Z8 (Zi d) q+Zbi false (q.drop (Z8 (Zi d) q-1))) ([]++[(Zi d,(d::q).take (Z8 (Zi d) q),i)])=res;cases res with
       | error e=>rfl
       | ok ws=>
        obtain⟨x,hx⟩:=zo4 _ _ _ _ _ rfl hws;rw[hx];cases x with
        | nil=>
         simp only[Yax,Ya8,Zgr];have hne:¬ (d::q).take (Z8 (Zi d) q)=c::r:=fun h=>by
          have:=congrArg List.length h;rw[Yaj]at this;omega
         rw[decide_eq_false hne,Bool.and_false]
        | cons y x=>rfl
   exact key _ _ (by rw[Yb4];omega)
section
variable{T:Tbl}[Za1 T]
theorem zq4(k a:Int)(t:List UInt8)(ht:t.length≤4000):Za T 173 [.agg [.i .i64 k,.s t,.i .i64 a]]=some (.b (Zbl k t)):=by
 have c:=zvd (T:=T) t (by omega);rw[←zve k t ht,zaa Za1.h173 rfl,b173];cases hr:Zj6 t with
 | error e=>
  rw[hr]at c;simp only[Zg8]at c;have he:¬ (e:Int)<0:=by omega
  simp -implicitDefEqProofs[c,Zgr,he]
 | ok ws=>
  rw[hr]at c;simp only[Zg8]at c
  match ws with
  | []=>
   have e0:Z9 []=[]:=rfl;rw[e0]at c;simp -implicitDefEqProofs[c,Zgr]
  | [(k',t',a')]=>
   have e1:Z9 [(k',t',a')]=[[.i .i64 k',.s t',.i .i64 a']]:=rfl;rw[e1]at c;by_cases hk:(k':Int)=k
   ·by_cases htt:t'=t
    ·simp -implicitDefEqProofs[c,Zgr,hk,htt]
    ·simp -implicitDefEqProofs[c,Zgr,hk,htt]
   ·simp -implicitDefEqProofs[c,Zgr,hk]
  | w1::w2::r=>
   have hl:(Z9 (w1::w2::r)).length=r.length+2:=by simp
   have hne:¬ ((r.length:Int)+2=1):=by omega
   have hne':¬ (r.length+2=1):=by omega
   have g1:=zem (w1::w2::r);have hone:Zgr k t (.ok (w1::w2::r))=false:=rfl;rw[hone];generalize Z9 (w1::w2::r)=RW at *
   generalize r.length=m at *
   simp -implicitDefEqProofs[c,hl,hne,hne',g1]
end
end Go.Ab
end
section
namespace Go.Ab
theorem zli{x:Fz}(h:Zb4 x=true):x=fz (fv x):=by
 grind[Zb4,Zae]
theorem z3u{l:List Fz}(h:l.all Zb4=true):l=fzs (l.map fv):=by
 unfold fzs
 conv=>lhs;rw[←List.map_id l]
 grind[List.map_congr_left,zli]
theorem z3v(l:List Rat)(i:Nat)(h:i<l.length):sumF ((fzs l).take (i+1))=sumF ((fzs l).take i)+l[i]'h:=by
 have h':i<(fzs l).length:=by simp_all
 rw[zj3 (fzs l) h'];simp[fzs]
section
variable{T:Tbl}[Z0 T][Z7 T][Zy T][Zaa T][Zz T][Zab T][Zk T][Zac T][Zcw T][Zcr T]
def Zij(l:List Fz)(i:Nat):St:=⟨[(0,.sl (Zc l) .an),(3,.i .i64 i)],[],2⟩
theorem zvi(l:List Fz)(hl:l.length≤1000)(hw:∀x∈l,fsz x≤10000) :
  Ze T 0 0 (.norm false []) l540_0 (Zij l 0)=if (l.drop 0).all Zb4=true then some (.n,⟨[],[],2⟩) else some (.r,⟨[(2,.b true)],[],2⟩):=by
 refine zak (Zij l) l.length (fun i=>if (l.drop i).all Zb4=true then some (.n,⟨[],[],2⟩) else some (.r,⟨[(2,.b true)],[],2⟩)) (fun i hi=>?_) ?_
 ·have hi':(i:Int)<l.length:=by omega
  have hws:=zaz hi (by omega);have hx:=hw _ (Yi hi);have c1:=zbn (T:=T) (l[i]'hi) hx;have c2:=za8 (T:=T) (fz (fv (l[i]'hi))) (l[i]'hi) (by exact za4 hx (by decide));have c3:=zlm (T:=T) (l[i]'hi) hx;have key:(l.drop i).all Zb4=(Zb4 (l[i]'hi)&&(l.drop (i+1)).all Zb4):=by rw[Ye hi,Yam]
  have hn:Zb4 (l[i]'hi)=(Zae (l[i]'hi)&&decide (Zci (l[i]'hi)≤190)):=rfl;have hr:decide (fz (fv (l[i]'hi))=l[i]'hi)=Zae (l[i]'hi):=by grind[Zae]
  rw[hr]at c2;by_cases h1:Zae (l[i]'hi)=true
  ·by_cases h2:Zci (l[i]'hi)≤190
   ·left;refine⟨?_,by grind⟩;have h3:¬ (190:Int)<Zci (l[i]'hi):=by omega
    unfold Zij;simp -implicitDefEqProofs[l540_0,hi,hi',hws,c1,c2,c3,h1,h3]
   ·right;have h3:(190:Int)<Zci (l[i]'hi):=by omega
    rw[if_neg (by grind)];unfold Zij;constructor<;>simp -implicitDefEqProofs[l540_0,hi,hi',c1,c2,c3,h1,h3]
  ·right;have h1':Zae (l[i]'hi)=false:=by grind
   rw[if_neg (by grind)];unfold Zij;constructor<;>simp -implicitDefEqProofs[l540_0,hi,hi',c1,c2,h1']
 ·simp only[Yp,Ybk,if_true];unfold Zij;constructor<;>simp -implicitDefEqProofs[l540_0]
theorem zgx(l:List Fz)(hl:l.length≤1000)(hw:∀x∈l,fsz x≤10000):Za T 540 [.sl (Zc l) .an]=some (.b (!l.all Zb4)):=by
 have h:=zvi (T:=T) l hl hw;unfold Zij at h;rw[zaa Zcr.h540 rfl,b540];cases hn:l.all Zb4 with
 | true=>simp_all
 | false=>simp_all
def Zkc(l:List Rat)(i:Nat):St:=⟨[(0,.sl (Zc (fzs l)) .an),(2,.ptr (.loc 2) 1 3 0 0),(3,.ptr (.loc 3) 2 3 0 0),(4,.i .i64 i)],
 [(.loc 2,⟨1,.str,3,[Zdi]⟩),(.loc 3,⟨2,.str,3,[Z1 (fz (sumF ((fzs l).take i)))]⟩)],4⟩
theorem zvj(l:List Rat){B:Nat}(hw:∀x∈l,sz x≤B)(hB:1≤B)(hS:l.length*(B+1)+1≤1000) :
  Ze T 0 0 (.norm false [2,3]) l541_0 (Zkc l 0)=some (.n,⟨[(2,.ptr (.loc 2) 1 3 0 0),(3,.ptr (.loc 3) 2 3 0 0)],[(.loc 2,⟨1,.str,3,[Zdi]⟩),(.loc 3,⟨2,.str,3,[Z1 (fz (sumF (fzs l)))]⟩)],4⟩):=by
 refine zai (Zkc l) l.length _ (fun i hi=>?_) ?_
 ·have hlen:l.length*1≤1000:=Yc (Yac _ (show 1≤B+1 by omega)) (by omega);have hBB:B+1≤1000:=Yc (Yb1 _ (show 0<l.length by omega)) (by omega);have hi2:i<(fzs l).length:=by simp_all
  have hga:(fzs l)[i]? = some (fz (l[i]'hi)):=by simp[fzs,hi]
  have hi':(i:Int)<(fzs l).length:=by omega
  have hws:=zaz hi (by omega);have ha1:=hw _ (Yi hi);have hw':∀x∈fzs l,fsz x≤B:=by
   intro x hx;obtain⟨q,hq,rfl⟩:=Yx.1 hx;rw[zar];grind
  have s1:=zj4 hw' hB i (by omega);have s2:i*(B+1)≤l.length*(B+1):=Yt _ (by omega);have c2:=zb2 (T:=T) (sumF ((fzs l).take i)) (l[i]'hi) (by omega) (by omega);rw[←z3v l i hi]at c2;have hge:(fzs l)[i]'hi2=fz (l[i]'hi):=by grind
  unfold Zkc;generalize fzs l=L at *
  simp -implicitDefEqProofs[l541_0,hi',hi2,hge,hws,c2]
 ·unfold Zkc;rw[Yb (by simp_all)];constructor<;>simp -implicitDefEqProofs[l541_0]
theorem zz0(l:List Rat){B:Nat}(hw:∀x∈l,sz x≤B)(hB:1≤B)(hS:l.length*(B+1)+1≤1000) :
  Za T 541 [.sl (Zc (fzs l)) .an]=some (efz (fz (sumF (fzs l)))):=by
 have h0:=zc3 (T:=T);have h:=zvj (T:=T) l hw hB hS;unfold Zkc at h;have e0:sumF ((fzs l).take 0)=0:=rfl;rw[e0]at h;simp only[Yl]at h;rw[zaa Zcr.h541 rfl,b541];simp -implicitDefEqProofs[h0,h]
theorem zfl(l:List Fz)(hl:l.length≤8)(hn:l.all Zb4=true):Za T 541 [.sl (Zc l) .an]=some (efz (fz (sumF l))):=by
 have e:=z3u hn;have c:=zz0 (T:=T) (l.map fv) (B:=6) (fun q hq=>by
  obtain⟨x,hx,rfl⟩:=Yx.1 hq;exact za4 (zhn (Ym.1 hn x hx)) (by decide)) (by decide) (by grind)
 grind
end
end Go.Ab
end
section
namespace Go.Ab
theorem zjw{p q:Rat}:fz p=fz q↔p=q:=⟨fun h=>by have:=congrArg fv h;rwa [za7,za7]at this,fun h=>by rw[h]⟩
section
variable{T:Tbl}[Z0 T][Z7 T][Zy T][Zaa T][Zz T][Zab T][Zk T][Zac T][Zcw T][Za1 T][Zcr T]
def Zjc(s:Sm)(i:Nat):St:=⟨[(1,.ptr (.loc 1) 1 5 0 0),(3,.i .i64 s.b.length),(4,.i .i64 i)],[(.loc 1,bxS s)],3⟩
theorem zz1(s:Sm)(hl:s.b.length≤8)(ha:s.a.length=s.b.length) :
  Ze T 0 0 (.norm false [1,3]) l529_0 (Zjc s 0)=if Zbf (s.a.drop 0) 0=true then some (.n,⟨[(1,.ptr (.loc 1) 1 5 0 0),(3,.i .i64 s.b.length)],[(.loc 1,bxS s)],3⟩) else some (.r,⟨[(2,.i .i64 2)],[],2⟩):=by
 refine zak (Zjc s) s.a.length (fun i=>if Zbf (s.a.drop i) i=true then some (.n,⟨[(1,.ptr (.loc 1) 1 5 0 0),(3,.i .i64 s.b.length)],[(.loc 1,bxS s)],3⟩) else some (.r,⟨[(2,.i .i64 2)],[],2⟩)) (fun i hi=>?_) ?_
 ·have hib:i<s.b.length:=by omega
  have hib':(i:Int)<s.b.length:=by omega
  have hia':(i:Int)<s.a.length:=by omega
  have hws:=zaz hi (by omega);have key:Zbf (s.a.drop i) i=(decide ((s.a[i]'hi).length=i)&&Zbf (s.a.drop (i+1)) (i+1)):=by rw[Ye hi,Zbf]
  by_cases hr:(s.a[i]'hi).length=i
  ·left;refine⟨?_,by grind⟩;unfold Zjc bxS;simp -implicitDefEqProofs[l529_0,hi,hib',hia',hws,hr]
  ·right;have hr':¬ ((s.a[i]'hi).length:Int)=i:=by omega
   rw[if_neg (by grind)];unfold Zjc bxS;constructor<;>simp -implicitDefEqProofs[l529_0,hi,hib',hia',hr']
 ·have e:Zbf [] s.a.length=true:=rfl;simp only[Yp,e,if_true];unfold Zjc bxS;have hx:¬ (s.a.length:Int)<s.b.length:=by omega
  have hx2:¬ s.a.length<s.b.length:=by omega
  constructor<;>simp -implicitDefEqProofs[l529_0,ha]
def Zjd(s:Sm)(i:Nat):St:=⟨[(1,.ptr (.loc 1) 1 5 0 0),(3,.i .i64 s.b.length),(5,.i .i64 i)],[(.loc 1,bxS s)],3⟩
theorem zz2(s:Sm)(hl:s.b.length≤8)(ha:s.a.length=s.b.length)(hw:∀r∈s.a,r.length≤1000∧∀x∈r,fsz x≤10000) :
  Ze T 0 2 (.norm false [1,3]) l529_1 (Zjd s 0)=if Zdu (s.a.drop 0)=true then some (.n,⟨[(1,.ptr (.loc 1) 1 5 0 0),(3,.i .i64 s.b.length)],[(.loc 1,bxS s)],3⟩) else some (.r,⟨[(2,.i .i64 3)],[],2⟩):=by
 refine zak (Zjd s) s.a.length (fun i=>if Zdu (s.a.drop i)=true then some (.n,⟨[(1,.ptr (.loc 1) 1 5 0 0),(3,.i .i64 s.b.length)],[(.loc 1,bxS s)],3⟩) else some (.r,⟨[(2,.i .i64 3)],[],2⟩)) (fun i hi=>?_) ?_
 ·have hib:i<s.b.length:=by omega
  have hib':(i:Int)<s.b.length:=by omega
  have hia':(i:Int)<s.a.length:=by omega
  have hws:=zaz hi (by omega);obtain⟨g1,g2⟩:=hw _ (Yi hi);have cb:=zgx (T:=T) (s.a[i]'hi) g1 g2;have key:Zdu (s.a.drop i)=((s.a[i]'hi).all Zb4&&Zdu (s.a.drop (i+1))):=by grind[Zdu,List.drop_eq_getElem_cons]
  by_cases hr:(s.a[i]'hi).all Zb4=true
  ·left;rw[hr]at cb;refine⟨?_,by grind⟩;unfold Zjd bxS;simp -implicitDefEqProofs[l529_1,hi,hib',hia',hws,cb]
  ·right;have hr':(s.a[i]'hi).all Zb4=false:=(Yb5 _).mp hr;rw[hr']at cb;rw[if_neg (by grind)];unfold Zjd bxS;constructor<;>simp -implicitDefEqProofs[l529_1,hi,hib',hia',cb]
 ·have e:Zdu []=true:=rfl;simp only[Yp,e,if_true];unfold Zjd bxS;have hx:¬ (s.a.length:Int)<s.b.length:=by omega
  have hx2:¬ s.a.length<s.b.length:=by omega
  constructor<;>simp -implicitDefEqProofs[l529_1,ha]
def Zje(s:Sm)(i:Nat):St:=⟨[(1,.ptr (.loc 1) 1 5 0 0),(3,.i .i64 s.b.length),(6,.i .i64 i)],[(.loc 1,bxS s)],3⟩
theorem zz3(s:Sm)(hl:s.b.length≤8)(ha:s.a.length=s.b.length)(hc:s.c.length=s.b.length)(h1:∀r∈s.a,r.length≤8∧r.all Zb4=true)(h2:s.c.all Zb4=true) :
  Ze T 0 4 (.norm false [1]) l529_2 (Zje s 0)=if Zb5 (s.a.drop 0) (s.c.drop 0)=true then some (.n,⟨[(1,.ptr (.loc 1) 1 5 0 0)],[(.loc 1,bxS s)],3⟩) else some (.r,⟨[(2,.i .i64 4)],[],2⟩):=by
 refine zak (Zje s) s.a.length (fun i=>if Zb5 (s.a.drop i) (s.c.drop i)=true then some (.n,⟨[(1,.ptr (.loc 1) 1 5 0 0)],[(.loc 1,bxS s)],3⟩) else some (.r,⟨[(2,.i .i64 4)],[],2⟩)) (fun i hi=>?_) ?_
 ·have hic:i<s.c.length:=by omega
  have hib':(i:Int)<s.b.length:=by omega
  have hia':(i:Int)<s.a.length:=by omega
  have hic':(i:Int)<s.c.length:=by omega
  have hws:=zaz hi (by omega);obtain⟨g1,g2⟩:=h1 _ (Yi hi);have g3:=Ym.1 h2 _ (Yi hic);have c1:=zfl (T:=T) (s.a[i]'hi) g1 g2;have z1:=zfq g1 (fun x hx=>zhn (Ym.1 g2 x hx));have c2:=za8 (T:=T) (fz (sumF (s.a[i]'hi))) (s.c[i]'hic) (by rw[zar];omega);have hr3:=zli g3;have hd:decide (fz (sumF (s.a[i]'hi))=s.c[i]'hic)=decide (sumF (s.a[i]'hi)=fv (s.c[i]'hic)):=by
   grind[za7]
  rw[hd]at c2;have key:Zb5 (s.a.drop i) (s.c.drop i)=(decide (sumF (s.a[i]'hi)=fv (s.c[i]'hic))&&Zb5 (s.a.drop (i+1)) (s.c.drop (i+1))):=by
   grind[Zb5,List.drop_eq_getElem_cons,List.zip_cons_cons]
  generalize fz (sumF (s.a[i]'hi))=z at *
  by_cases he:sumF (s.a[i]'hi)=fv (s.c[i]'hic)
  ·left;refine⟨?_,by grind⟩;unfold Zje bxS;simp -implicitDefEqProofs[l529_2,hi,hib',hia',hws,c1,c2,he,hic,hic']
  ·right;rw[if_neg (by grind)];unfold Zje bxS;constructor<;>simp -implicitDefEqProofs[l529_2,hi,hib',hia',c1,c2,he,hic,hic']
 ·have e:Zb5 [] (s.c.drop s.a.length)=true:=rfl;simp only[Yp,e,if_true];unfold Zje bxS;have hx:¬ (s.a.length:Int)<s.b.length:=by omega
  have hx2:¬ s.a.length<s.b.length:=by omega
  constructor<;>simp -implicitDefEqProofs[l529_2,ha]
theorem zajh(b c e:List Fz):Zdu [b,c,e]=(b.all Zb4&&c.all Zb4&&e.all Zb4):=by
 grind[Zdu]
theorem zq7(s:Sm)(hs:SmS s):Za T 529 [esm s]=some (.i .i64 (Zgj s)):=by
 have o1:=zfj (T:=T);have c1:=zq4 (T:=T) 2 0 s.nm (Yc hs.nm (by decide));have kb:=zgx (T:=T) s.b hs.bl (fun x hx=>Yc (hs.b x hx) (by decide));have kc:=zgx (T:=T) s.c hs.cl (fun x hx=>Yc (hs.c x hx) (by decide));have ke:=zgx (T:=T) s.e hs.el (fun x hx=>Yc (hs.e x hx) (by decide));have ha:=fun r hr=>(show r.length≤1000∧∀x∈r,fsz x≤10000 from ⟨(hs.a r hr).1,fun x hx=>Yc ((hs.a r hr).2 x hx) (by decide)⟩);rw[zaa Zcr.h529 rfl,b529];unfold Zgj;cases g1:Zbl 2 s.nm with
 | false=>
  rw[g1]at c1;obtain⟨nm,c,a,b,e⟩:=s;generalize fz 1=z1 at *
  dsimp only at *
  simp -implicitDefEqProofs[c1]
 | true=>
 rw[g1]at c1;by_cases p1:s.b.length<1
 ·have q2:s.b=[]:=Ya1.1 (by omega);have hsh:Zb3 s=false:=by unfold Zb3;grind
  rw[hsh];obtain⟨nm,c,a,b,e⟩:=s;subst q2;simp -implicitDefEqProofs[c1]
 have m2:¬ (s.b.length:Int)<1:=by omega
 by_cases p2:8<s.b.length
 ·have m3:(8:Int)<s.b.length:=by omega
  have hsh:Zb3 s=false:=by unfold Zb3;grind
  rw[hsh];simp -implicitDefEqProofs[c1,m2,m3]
 have p2':s.b.length≤8:=by omega
 have m3:¬ (8:Int)<s.b.length:=by omega
 by_cases p3:s.c.length=s.b.length
 rotate_left
 ·have q3:¬ (s.c.length:Int)=s.b.length:=by omega
  have hsh:Zb3 s=false:=by unfold Zb3;grind
  rw[hsh];simp -implicitDefEqProofs[c1,m2,m3,q3]
 by_cases p4:s.a.length=s.b.length
 rotate_left
 ·have q4:¬ (s.a.length:Int)=s.b.length:=by omega
  have hsh:Zb3 s=false:=by unfold Zb3;grind
  rw[hsh];simp -implicitDefEqProofs[c1,m2,m3,p3,q4]
 by_cases p5:s.e.length=s.b.length∨s.e.length=0
 rotate_left
 ·have q5:¬ (s.e.length:Int)=s.b.length:=by omega
  have q7:¬ s.e=[]:=fun h=>p5 (.inr (by grind));have hsh:Zb3 s=false:=by
   grind[Zb3]
  rw[hsh];simp -implicitDefEqProofs[c1,m2,m3,p3,p4,q5,q7]
 -- the shapes are right as far as lengths go
 have hsh:Zb3 s=Zbf s.a 0:=by
  grind[Zb3]
 have h0:=zz1 (T:=T) s p2' p4;have h1:=zz2 (T:=T) s p2' p4 ha;have h2:=fun g1 g2=>zz3 (T:=T) s p2' p4 p3 g1 g2;rw[hsh];unfold Zjc bxS at h0;unfold Zjd bxS at h1;unfold Zje bxS at h2;rw[Y3]at h0 h1 h2;rw[Y3]at h2;simp only[Yl]at h0 h1 h2;have hm:=zajh s.b s.c s.e;have m6:¬ s.b=[]:=fun h=>by grind
 rcases p5 with p5 | p5
 ·have q6:¬ s.e=[]:=fun h=>by grind
  have q7:0<s.b.length:=by omega
  cases hq:Zbf s.a 0 with
  | false=>
   rw[hq]at h0;simp -implicitDefEqProofs[c1,m2,m3,p3,p4,p5,m6,h0]
  | true=>
  rw[hq]at h0;cases hna:Zdu s.a with
  | false=>
   rw[hna]at h1;simp -implicitDefEqProofs[c1,m2,m3,p3,p4,p5,m6,h0,h1]
  | true=>
  rw[hna]at h1;cases hnb:s.b.all Zb4 with
  | false=>
   rw[hnb]at kb;rw[hnb]at hm;simp -implicitDefEqProofs[c1,m2,m3,p3,p4,p5,m6,h0,h1,kb,hm]
  | true=>
  rw[hnb]at kb;rw[hnb]at hm;cases hnc:s.c.all Zb4 with
  | false=>
   rw[hnc]at kc;rw[hnc]at hm;simp -implicitDefEqProofs[c1,m2,m3,p3,p4,p5,m6,h0,h1,kb,kc,hm]
  | true=>
  rw[hnc]at kc;rw[hnc]at hm;cases hne:s.e.all Zb4 with
  | false=>
   rw[hne]at ke;rw[hne]at hm;simp -implicitDefEqProofs[c1,m2,m3,p3,p4,p5,m6,h0,h1,kb,kc,ke,hm]
  | true=>
  rw[hne]at ke;rw[hne]at hm;have hna':=Ym.1 hna;have h2':=h2 (fun r hr=>⟨by have:=zfp _ _ hq r hr;omega,hna' r hr⟩) hnc;have k6:=zfl (T:=T) s.b p2' hnb;have z6:=zfq p2' (fun x hx=>zhn (Ym.1 hnb x hx));have d6:=za8 (T:=T) (fz (sumF s.b)) (fz 1) (by rw[zar];omega);have k7:=zfl (T:=T) s.e (by omega) hne;have z7:=zfq (l:=s.e) (by omega) (fun x hx=>zhn (Ym.1 hne x hx));have d7:=za8 (T:=T) (fz (sumF s.e)) (fz 1) (by rw[zar];omega);have i7:decide (fz (sumF s.e)=fz 1)=decide (sumF s.e=1):=by rw[decide_eq_decide];exact zjw
  rw[i7]at d7;have i6:decide (fz (sumF s.b)=fz 1)=decide (sumF s.b=1):=by rw[decide_eq_decide];exact zjw
  rw[i6]at d6;cases hrw:Zb5 s.a s.c with
  | false=>
   rw[hrw]at h2';simp -implicitDefEqProofs[c1,m2,m3,p3,p4,p5,m6,h0,h1,kb,kc,ke,hm,h2']
  | true=>
  rw[hrw]at h2';generalize fz (sumF s.b)=zb at *
  generalize fz (sumF s.e)=ze at *
  by_cases g6:sumF s.b=1
  ·by_cases g8:sumF s.e=1
   ·dsimp only at *
    simp -implicitDefEqProofs[c1,m2,m3,p3,p4,p5,q6,q7,m6,h0,h1,kb,kc,ke,hm,h2',o1,k6,d6,g6,k7,d7,g8]
   ·dsimp only at *
    simp -implicitDefEqProofs[c1,m2,m3,p3,p4,p5,q6,q7,m6,h0,h1,kb,kc,ke,hm,h2',o1,k6,d6,g6,k7,d7,g8]
  ·dsimp only at *
   simp -implicitDefEqProofs[c1,m2,m3,p3,p4,p5,m6,h0,h1,kb,kc,ke,hm,h2',o1,k6,d6,g6]
 ·have e0:s.e=[]:=Ya1.1 p5;rw[e0]at ke;rw[←e0]at ke;cases hq:Zbf s.a 0 with
  | false=>
   rw[hq]at h0;obtain⟨nm,c,a,b,e⟩:=s;subst e0;simp only[zau]at *
   simp -implicitDefEqProofs[c1,m2,m3,p3,p4,h0]
  | true=>
  rw[hq]at h0;cases hna:Zdu s.a with
  | false=>
   rw[hna]at h1;obtain⟨nm,c,a,b,e⟩:=s;subst e0;simp only[zau]at *
   simp -implicitDefEqProofs[c1,m2,m3,p3,p4,h0,h1]
  | true=>
  rw[hna]at h1;cases hnb:s.b.all Zb4 with
  | false=>
   rw[hnb]at kb;rw[hnb]at hm;obtain⟨nm,c,a,b,e⟩:=s;subst e0;simp only[zau]at *
   simp -implicitDefEqProofs[c1,m2,m3,p3,p4,h0,h1,kb,hm]
  | true=>
  rw[hnb]at kb;rw[hnb]at hm;cases hnc:s.c.all Zb4 with
  | false=>
   rw[hnc]at kc;rw[hnc]at hm;obtain⟨nm,c,a,b,e⟩:=s;subst e0;simp only[zau]at *
   simp -implicitDefEqProofs[c1,m2,m3,p3,p4,h0,h1,kb,kc,hm]
  | true=>
  rw[hnc]at kc;rw[hnc]at hm;cases hne:s.e.all Zb4 with
  | false=>
   grind
  | true=>
  rw[e0]at ke hm;have hna':=Ym.1 hna;have h2':=h2 (fun r hr=>⟨by have:=zfp _ _ hq r hr;omega,hna' r hr⟩) hnc;have k6:=zfl (T:=T) s.b p2' hnb;have z6:=zfq p2' (fun x hx=>zhn (Ym.1 hnb x hx));have d6:=za8 (T:=T) (fz (sumF s.b)) (fz 1) (by rw[zar];omega);have i6:decide (fz (sumF s.b)=fz 1)=decide (sumF s.b=1):=by rw[decide_eq_decide];exact zjw
  rw[i6]at d6;cases hrw:Zb5 s.a s.c with
  | false=>
   rw[hrw]at h2';obtain⟨nm,c,a,b,e⟩:=s;subst e0;simp only[zau]at *
   simp -implicitDefEqProofs[c1,m2,m3,p3,p4,h0,h1,kb,kc,ke,hm,h2']
  | true=>
  rw[hrw]at h2';generalize fz (sumF s.b)=zb at *
  by_cases g6:sumF s.b=1
  ·obtain⟨nm,c,a,b,e⟩:=s;subst e0;simp only[zau]at *
   simp -implicitDefEqProofs[c1,m2,m3,p3,p4,h0,h1,kb,kc,ke,hm,h2',o1,k6,d6,g6]
  ·obtain⟨nm,c,a,b,e⟩:=s;subst e0;simp only[zau]at *
   simp -implicitDefEqProofs[c1,m2,m3,p3,p4,h0,h1,kb,kc,ke,hm,h2',o1,k6,d6,g6]
end
end Go.Ab
end
section
namespace Go.Ab
structure PbS (q:Pb):Prop where
 t:TpS q.t
 s:SmS q.s
 p:∀x∈q.p,fsz x≤1000
 pl:q.p.length≤1000
def Zm(p:Pb)(t:Fz)(y:List Fz):List Rat×Nat×Nat:=Zce (Zcj p.bits) p.t ⟨fv t,y.map fv,p.p.map fv⟩
section
variable{T:Tbl}[Zaj T][Zs T][Z2 T][Z4 T][Zu T][Zw T][Zf T][Zl T][Zp T][Zah T][Za4 T][Zdh T][Zal T][Zar T][Zbs T][Zas T][Zew T][Zaz T][Zc1 T][Zag T][Zdn T]
theorem zb3(p:Pb)(hp:PbS p):Za T 524 [epb p]=some (.b (okP p)):=by
 have c1:=zd8 (T:=T) p.t hp.t.small;have c2:=zpd (T:=T) p.s hp.s;unfold okP;rw[zaa Zdn.h524 rfl,b524];clear hp;generalize okT p.t=A at *
 generalize okS p.s=B at *
 obtain⟨⟨code,outs,dim,par⟩,⟨nm,c,a,b,e⟩,pp,bits⟩:=p;dsimp only at *
 cases A with
 | false=>simp -implicitDefEqProofs[c1]
 | true=>
 cases B with
 | false=>simp -implicitDefEqProofs[c1,c2]
 | true=>
  by_cases h:(pp.length:Int)=par
  ·simp -implicitDefEqProofs[c1,c2,h]
  ·simp -implicitDefEqProofs[c1,c2,h]
theorem z8i(p:Pb)(t:Fz)(y:List Fz):Za T 563 [epb p,efz t,.sl (Zc y) .an]=some (ept ⟨t,y,p.p⟩):=by
 rw[zaa Zdn.h563 rfl,b563];obtain⟨⟨code,outs,dim,par⟩,⟨nm,c,a,b,e⟩,pp,bits⟩:=p;obtain⟨t1,t2,t3⟩:=t;simp -implicitDefEqProofs[]
theorem zj8(p:Pb)(t:Fz)(y:List Fz)(hp:PbS p)(ht:fsz t≤1000)(hy:∀x∈y,fsz x≤1000)(hl:y.length≤1000) :
  Za T 577 [epb p,efz t,.sl (Zc y) .an]=some (if okP p=true then .tup [.sl (Zc (fzs (Zm p t y).1)) .an,Zcf (Zm p t y).2.1 0 0 (Zm p t y).2.2] else .tup [.sl [] .an,Zcf 2 0 0 0]):=by
 have c1:=zb3 (T:=T) p hp;have c2:=z8i (T:=T) p t y;have c3:=z0p (T:=T) p.t ⟨t,y,p.p⟩ p.bits hp.t ⟨ht,hy,hp.p,hl,hp.pl⟩;have e:(⟨t,y,p.p⟩:PoF).v=⟨fv t,y.map fv,p.p.map fv⟩:=rfl;rw[e]at c3;unfold Zm;generalize Zce (Zcj p.bits) p.t ⟨fv t,y.map fv,p.p.map fv⟩=R at *
 rw[zaa Zdn.h577 rfl,b577];clear hp ht hy hl e;generalize okP p=B at *
 obtain⟨R1,R2,R3⟩:=R;obtain⟨⟨code,outs,dim,par⟩,⟨nm,c,a,b,e⟩,pp,bits⟩:=p;obtain⟨t1,t2,t3⟩:=t;dsimp only at *
 have hRR:wkL (Zc (fzs R1))=Zc (fzs R1):=zbt _;generalize Zc (fzs R1)=RR at *
 cases B with
 | false=>simp -implicitDefEqProofs[c1]
 | true=>simp -implicitDefEqProofs[c1,c2,c3,hRR]
end
end Go.Ab
end
section
namespace Go.Ab
section
variable{T:Tbl}[Z0 T][Z7 T][Zy T][Zaa T][Zz T][Zab T][Zk T][Zac T][Zcw T][Za1 T][Zb2 T][Zcr T][Zd5 T]
theorem zq8(p:Pb)(hp:PbS p):Za T 508 [epb p]=some (.b (okP p)):=by
 have c1:=zq6 (T:=T) p.t hp.t;have c2:=zq7 (T:=T) p.s hp.s;unfold okP okT okS;rw[zaa Zd5.h508 rfl,b508];clear hp;generalize Zfb p.t=A at *
 generalize Zgj p.s=B at *
 obtain⟨⟨code,outs,dim,par⟩,⟨nm,c,a,b,e⟩,pp,bits⟩:=p;dsimp only at *
 by_cases hA:A=-1
 ·subst hA;by_cases hB:B=0
  ·subst hB;by_cases h:(pp.length:Int)=par
   ·simp -implicitDefEqProofs[c1,c2,h]
   ·simp -implicitDefEqProofs[c1,c2,h]
  ·simp -implicitDefEqProofs[c1,c2,hB]
 ·simp -implicitDefEqProofs[c1,hA]
theorem zq9(p:Pb)(t:Fz)(y:List Fz)(hl:p.p.length≤1000)(hw:∀x∈p.p,fsz x≤1000):Za T 545 [epb p,efz t,.sl (Zc y) .an]=some (ept ⟨t,y,nrm p.p⟩):=by
 have c:=zjs (T:=T) p.p hl hw;rw[zaa Zd5.h545 rfl,b545];clear hl hw;generalize nrm p.p=N at *
 obtain⟨⟨code,outs,dim,par⟩,⟨nm,c0,a,b,e⟩,pp,bits⟩:=p;obtain⟨t1,t2,t3⟩:=t;dsimp only at *
 simp -implicitDefEqProofs[c]
end
end Go.Ab
end
section
namespace Go.Ab
theorem z68(l:List Fz):scl 1 l=nrm l:=by
 grind[scl,nrm]
section
variable{T:Tbl}[Zaj T][Zs T][Z2 T][Z4 T][Zu T][Zw T][Zf T][Zl T][Zp T][Zah T][Za4 T][Zdh T][Zal T][Zar T][Zbs T][Zas T][Zew T][Zap T][Za0 T][Zaz T][Zbr T][Zam T]
theorem zf6(l:List Fz)(hl:l.length≤1000)(hw:∀x∈l,fsz x≤1000):Za T 533 [.sl (Zc l) .an]=some (.sl (Zc (nrm l)) .an):=by
 have h0:=zmg (T:=T);have h:=z0c (T:=T) (fz 1) (by decide +kernel) l hl hw;rw[za7,z68]at h;rw[zaa Zam.h533 rfl,b533]
 simp_all
theorem zh1(r:Tr):Za T 549 [.agg (Ziw r)]=some (.sl (Zc r.nums) .an):=by
 have e:Zc r.nums=[Z1 r.t,Z1 r.w,Z1 r.h,Z1 r.e]:=rfl;rw[zaa Zam.h549 rfl,b549,e];simp -implicitDefEqProofs[]
def Zja(m:List (List Fz))(r:List Fz)(j i:Nat):St:=⟨[(7,.sl (Zv m) .an),(8,.i .i64 m.length),(9,.i .i64 j),(13,.sl (Zc r) .an),(14,.i .i64 r.length),(15,.i .i64 i)],[],2⟩
theorem zop(m:List (List Fz))(r:List Fz)(j:Nat)(hl:r.length≤1000)(hw:∀x∈r,fsz x≤1000) :
  Ze T 0 2 (.norm false [7,8,9]) l584_0 (Zja m r j 0)=if Zg (r.drop 0)=true then some (.n,⟨[(7,.sl (Zv m) .an),(8,.i .i64 m.length),(9,.i .i64 j)],[],2⟩) else some (.r,⟨[(2,.b false)],[],2⟩):=by
 refine zak (Zja m r j) r.length (fun i=>if Zg (r.drop i)=true then some (.n,⟨[(7,.sl (Zv m) .an),(8,.i .i64 m.length),(9,.i .i64 j)],[],2⟩) else some (.r,⟨[(2,.b false)],[],2⟩)) (fun i hi=>?_) ?_
 ·have hws:=zaz hi (by omega);have hx:=hw _ (Yi hi);have c1:=zhg (T:=T) (r[i]'hi) (by omega);have key:Zg (r.drop i)=(Zae (r[i]'hi)&&Zg (r.drop (i+1))):=by grind[Zg,List.drop_eq_getElem_cons]
  by_cases h1:Zae (r[i]'hi)=true
  ·left;refine⟨?_,by grind⟩;unfold Zja;simp -implicitDefEqProofs[l584_0,hi,hws,c1,h1]
  ·right;have h1':Zae (r[i]'hi)=false:=by grind
   rw[if_neg (by grind)];unfold Zja;constructor<;>simp -implicitDefEqProofs[l584_0,hi,c1,h1']
 ·have e:Zg []=true:=rfl;simp only[Yp,e,if_true];unfold Zja;constructor<;>simp -implicitDefEqProofs[l584_0]
def Zjb(m:List (List Fz))(i:Nat):St:=⟨[(7,.sl (Zv m) .an),(8,.i .i64 m.length),(9,.i .i64 i)],[],2⟩
theorem zjj(m:List (List Fz))(hl:m.length≤1000)(hw:∀r∈m,r.length≤1000∧∀x∈r,fsz x≤1000):Za T 584 [.sl (Zv m) .an]=some (.b (m.all Zg)):=by
 have h:Ze T 0 0 (.norm false []) l584_1 (Zjb m 0)=if (m.drop 0).all Zg=true then some (.n,⟨[],[],2⟩) else some (.r,⟨[(2,.b false)],[],2⟩):=by
  refine zak (Zjb m) m.length (fun i=>if (m.drop i).all Zg=true then some (.n,⟨[],[],2⟩) else some (.r,⟨[(2,.b false)],[],2⟩)) (fun i hi=>?_) ?_
  ·have hws:=zaz hi (by omega);obtain⟨h1,h2⟩:=hw _ (Yi hi);have h:=zop (T:=T) m (m[i]'hi) i h1 h2;have key:(m.drop i).all Zg=(Zg (m[i]'hi)&&(m.drop (i+1)).all Zg):=by rw[Ye hi,Yam]
   unfold Zja at h;rw[Y3]at h;simp only[Yl]at h;by_cases hr:Zg (m[i]'hi)=true
   ·left;rw[if_pos hr]at h;refine⟨?_,by grind⟩;unfold Zjb;simp -implicitDefEqProofs[l584_1,hi,hws,h]
   ·right;rw[if_neg hr]at h;rw[if_neg (by grind)];unfold Zjb;constructor<;>simp -implicitDefEqProofs[l584_1,hi,h]
  ·simp only[Yp,Ybk,if_true];unfold Zjb;constructor<;>simp -implicitDefEqProofs[l584_1]
 unfold Zjb at h;rw[Y3]at h;rw[zaa Zam.h584 rfl,b584];cases hn:m.all Zg<;>rw[hn]at h<;>simp at h<;>simp -implicitDefEqProofs[h]
def bxH(h:Hs):Box:=⟨1,.str,5,[[.sl (Zax h.l) .an,.b h.t.1,.sl (Zb h.t.2.1) .an,.sl (Zb h.t.2.2) .an,.sl (Zc h.y) .an]]⟩
def Zff(h:Hs)(i:Nat):St:=⟨[(1,.ptr (.loc 1) 1 5 0 0),(6,.sl (Zax h.l) .an),(7,.i .i64 h.l.length),(8,.i .i64 i)],[(.loc 1,bxH h)],3⟩
theorem zus(h:Hs)(hs:HsS h 1000):Za T 580 [ehs h]=some (.b (Zc5 h)):=by
 have hlen:=hs.len;have hlp:Ze T 0 0 (.norm false [1]) l580_0 (Zff h 0)=if ((h.l.drop 0).all fun r=>Zg r.nums&&Zg r.y)=true then some (.n,⟨[(1,.ptr (.loc 1) 1 5 0 0)],[(.loc 1,bxH h)],3⟩) else some (.r,⟨[(2,.b false)],[],2⟩):=by
  refine zak (Zff h) h.l.length (fun i=>if ((h.l.drop i).all fun r=>Zg r.nums&&Zg r.y)=true then some (.n,⟨[(1,.ptr (.loc 1) 1 5 0 0)],[(.loc 1,bxH h)],3⟩) else some (.r,⟨[(2,.b false)],[],2⟩)) (fun i hi=>?_) ?_
  ·have hws:=zaz hi (by omega);have hm:=Yi hi;have c1:=zh1 (T:=T) (h.l[i]'hi);have c2:=zjj (T:=T) [(h.l[i]'hi).nums,(h.l[i]'hi).y] (by simp) (fun r hr=>by
    simp only[Y7,Ybv,or_false]at hr;rcases hr with rfl | rfl
    ·exact⟨by simp[Tr.nums],hs.rt _ hm⟩
    ·exact⟨hs.rl _ hm,hs.ry _ hm⟩)
   have e2:([(h.l[i]'hi).nums,(h.l[i]'hi).y].all Zg)=(Zg (h.l[i]'hi).nums&&Zg (h.l[i]'hi).y):=by simp
   rw[e2]at c2;have key:((h.l.drop i).all fun r=>Zg r.nums&&Zg r.y)=((Zg (h.l[i]'hi).nums&&Zg (h.l[i]'hi).y)&&((h.l.drop (i+1)).all fun r=>Zg r.nums&&Zg r.y)):=by rw[Ye hi,Yam]
   generalize hB:(Zg (h.l[i]'hi).nums&&Zg (h.l[i]'hi).y)=B at *
   generalize hq:h.l[i]'hi=q at *
   replace c2:Za T 584 [.sl [[.sl (Zc q.nums) .an],[.sl (Zc q.y) .an]] .an]=some (.b B):=c2;have hnn:wkL (Zc q.nums)=Zc q.nums:=zbt _;obtain⟨q1,q2,q3,q4,q5,q6⟩:=q;cases B with
   | true=>
    left;refine⟨?_,by grind⟩;unfold Zff bxH;simp -implicitDefEqProofs[l580_0,hi,hq,hws,c1,c2,hnn]
   | false=>
    right;rw[if_neg (by grind)];unfold Zff bxH;constructor<;>simp -implicitDefEqProofs[l580_0,hi,hq,c1,c2,hnn]
  ·simp only[Yp,Ybk,if_true];unfold Zff bxH;constructor<;>simp -implicitDefEqProofs[l580_0]
 have c3:=zjj (T:=T) [[h.t],h.y] (by simp) (fun r hr=>by
  simp only[Y7,Ybv,or_false]at hr;rcases hr with rfl | rfl
  ·exact⟨by simp,fun x hx=>by rw[Ybe.1 hx];exact hs.t⟩
  ·exact⟨hs.yl,hs.y⟩)
 have e3:([[h.t],h.y].all Zg)=(Zae h.t&&Zg h.y):=by simp[Zg]
 rw[e3]at c3;unfold Zff bxH at hlp;rw[Y3]at hlp;unfold Zc5;generalize (Zae h.t&&Zg h.y)=R at *
 generalize (h.l.all fun r=>Zg r.nums&&Zg r.y)=A at *
 replace c3:Za T 584 [.sl [[.sl [Z1 h.t] .an],[.sl (Zc h.y) .an]] .an]=some (.b R):=c3;rw[zaa Zam.h580 rfl,b580];obtain⟨L,⟨t1,t2,t3⟩,y⟩:=h;cases A<;>simp at hlp<;>simp -implicitDefEqProofs[hlp,c3]
theorem zoq(h:Hs)(hl:h.l.length≤1000):Za T 581 [ehs h]=some (.b (Zhj h)):=by
 have hlp:Ze T 0 0 (.norm false [1]) l581_0 (Zff h 0)=if ((h.l.drop 0).all fun r=>decide (r.y.length=h.y.length))=true then some (.n,⟨[(1,.ptr (.loc 1) 1 5 0 0)],[(.loc 1,bxH h)],3⟩) else some (.r,⟨[(2,.b false)],[],2⟩):=by
  refine zak (Zff h) h.l.length (fun i=>if ((h.l.drop i).all fun r=>decide (r.y.length=h.y.length))=true then some (.n,⟨[(1,.ptr (.loc 1) 1 5 0 0)],[(.loc 1,bxH h)],3⟩) else some (.r,⟨[(2,.b false)],[],2⟩)) (fun i hi=>?_) ?_
  ·have hga:h.l[i]? = some (h.l[i]'hi):=Ya hi;have hws:=zaz hi (by omega);have key:((h.l.drop i).all fun r=>decide (r.y.length=h.y.length))=(decide ((h.l[i]'hi).y.length=h.y.length)&&((h.l.drop (i+1)).all fun r=>decide (r.y.length=h.y.length))):=by rw[Ye hi,Yam]
   generalize hq:h.l[i]'hi=q at *
   obtain⟨L,t,y⟩:=h;obtain⟨q1,q2,q3,q4,q5,q6⟩:=q;dsimp only at *
   by_cases he:q5.length=y.length
   ·left;have he':(q5.length:Int)=y.length:=by omega
    refine⟨?_,by grind⟩;unfold Zff bxH;simp -implicitDefEqProofs[l581_0,hi,hq,hws,he]
   ·right;have he':¬ (q5.length:Int)=y.length:=by omega
    rw[if_neg (by grind)];unfold Zff bxH;constructor<;>simp -implicitDefEqProofs[l581_0,hi,hq,he']
  ·simp only[Yp,Ybk,if_true];unfold Zff bxH;constructor<;>simp -implicitDefEqProofs[l581_0]
 unfold Zff bxH at hlp;rw[Y3]at hlp;simp only[Yl]at hlp;unfold Zhj;generalize (h.l.all fun r=>decide (r.y.length=h.y.length))=A at *
 rw[zaa Zam.h581 rfl,b581];obtain⟨L,t,y⟩:=h;dsimp only at *
 cases A with
 | false=>simp at hlp;simp -implicitDefEqProofs[hlp]
 | true=>
  simp at hlp;by_cases h1:1≤y.length
  ·have h1':(1:Int)≤y.length:=by omega
   by_cases h2:y.length≤6
   ·have h2':(y.length:Int)≤6:=by omega
    simp -implicitDefEqProofs[hlp,h1,h1',h2,h2']
   ·have h2':¬ (y.length:Int)≤6:=by omega
    simp -implicitDefEqProofs[hlp,h1,h1',h2,h2']
  ·have h1':¬ (1:Int)≤y.length:=by omega
   simp -implicitDefEqProofs[hlp,h1,h1']
def Zjs(l:List Tr)(i:Nat):St:=⟨[(6,.sl (Zax l) .an),(7,.i .i64 l.length),(8,.i .i64 i)],[],2⟩
theorem zut(h:Hs)(hs:HsS h 1000):Za T 582 [ehs h]=some (.b (Zfu h)):=by
 have hlen:=hs.len;have hlp:Ze T 0 0 (.norm false []) l582_0 (Zjs h.l 0)=if (h.l.drop 0).all Zcx=true then some (.n,⟨[],[],2⟩) else some (.r,⟨[(2,.b false)],[],2⟩):=by
  refine zak (Zjs h.l) h.l.length (fun i=>if (h.l.drop i).all Zcx=true then some (.n,⟨[],[],2⟩) else some (.r,⟨[(2,.b false)],[],2⟩)) (fun i hi=>?_) ?_
  ·have hws:=zaz hi (by omega);have hm:=Yi hi;have key:(h.l.drop i).all Zcx=(Zcx (h.l[i]'hi)&&(h.l.drop (i+1)).all Zcx):=by rw[Ye hi,Yam]
   have hr:=hs.rt _ hm;have w1:=hr (h.l[i]'hi).w (by simp[Tr.nums]);have w2:=hr (h.l[i]'hi).h (by simp[Tr.nums]);have w3:=hr (h.l[i]'hi).e (by simp[Tr.nums]);generalize hq:h.l[i]'hi=q at *
   have c1:=zd0 (T:=T) q.w (by omega);have c2:=zd0 (T:=T) q.h (by omega);have c3:=zmh (T:=T) q.h q.w w2 w1;have c4:=zd0 (T:=T) q.e (by omega);have e1:(0<fv q.w)↔¬ sgQ (fv q.w)≤0:=by rw[←zdi];omega
   have e2:(0<fv q.h)↔¬ sgQ (fv q.h)≤0:=by rw[←zdi];omega
   have e3:(fv q.h≤fv q.w)↔¬ 0<sgQ (fv q.h-fv q.w):=by rw[zdi];grind
   have e4:(0≤fv q.e)↔¬ sgQ (fv q.e)<0:=by rw[zrh];grind
   have hz:Zcx q=(!decide (sgQ (fv q.w)≤0)&&!decide (sgQ (fv q.h)≤0)&&!decide (0<sgQ (fv q.h-fv q.w))&&!decide (sgQ (fv q.e)<0)):=by
    grind[Zcx]
   rw[hz]at key;obtain⟨q1,q2,q3,q4,q5,q6⟩:=q;generalize sgQ (fv q2)=g1 at *
   generalize sgQ (fv q3-fv q2)=g3 at *
   generalize sgQ (fv q3)=g2 at *
   generalize sgQ (fv q4)=g4 at *
   by_cases h1:g1≤0
   ·right;rw[if_neg (by grind)];unfold Zjs;constructor<;>simp -implicitDefEqProofs[l582_0,hi,hq,c1,h1]
   by_cases h2:g2≤0
   ·right;rw[if_neg (by grind)];unfold Zjs;constructor<;>simp -implicitDefEqProofs[l582_0,hi,hq,c1,c2,h1,h2]
   by_cases h3:0<g3
   ·right;rw[if_neg (by grind)];unfold Zjs;constructor<;>simp -implicitDefEqProofs[l582_0,hi,hq,c1,c2,c3,h1,h2,h3]
   by_cases h4:g4<0
   ·right;rw[if_neg (by grind)];unfold Zjs;constructor<;>simp -implicitDefEqProofs[l582_0,hi,hq,c1,c2,c3,c4,h1,h2,h3,h4]
   ·left;refine⟨?_,by grind⟩;unfold Zjs;simp -implicitDefEqProofs[l582_0,hi,hq,hws,c1,c2,c3,c4,h1,h2,h3,h4]
  ·simp only[Yp,Ybk,if_true];unfold Zjs;constructor<;>simp -implicitDefEqProofs[l582_0]
 unfold Zjs at hlp;rw[Y3]at hlp;unfold Zfu;rw[zaa Zam.h582 rfl,b582];obtain⟨L,t,y⟩:=h;cases hA:L.all Zcx<;>rw[hA]at hlp<;>simp at hlp<;>simp -implicitDefEqProofs[hlp]
theorem zh2(r:Tr)(t:Fz)(y:List Fz)(h1:∀x∈r.nums,fsz x≤400)(h2:fsz t≤400)(h3:∀x∈y,fsz x≤1000)(h4:∀x∈r.y,fsz x≤1000)(hl:y.length≤1000):Za T 585 [.agg (Ziw r),efz t,.sl (Zc y) .an]=some (.b (Zf9 r t y)):=by
 have w1:=h1 r.t (by simp[Tr.nums]);have w2:=h1 r.h (by simp[Tr.nums]);have c1:=zgn (T:=T) r.t r.h (by omega) (by omega);have z1:=zfz (fv r.t) (fv r.h);have z2:=za4 (L:=400) w1 (by decide);have z3:=za4 (L:=400) w2 (by decide);have c2:=zcr (T:=T) t (fz (fv r.t+fv r.h)) (by omega) (by rw[zar];omega);rw[za7]at c2;have c3:=zcr (T:=T) t r.t (by omega) (by omega);have c4:=z32 (T:=T) y r.y hl h3 h4;unfold Zf9;rw[zaa Zam.h585 rfl,b585];obtain⟨q1,q2,q3,q4,q5,q6⟩:=r;cases q6 with
 | true=>simp -implicitDefEqProofs[c1,c2]
 | false=>
  by_cases he:fv t=fv q1
  ·simp -implicitDefEqProofs[c3,c4,he]
  ·simp -implicitDefEqProofs[c3,he]
def Zj9(h:Hs)(i:Nat):St:=⟨[(1,.ptr (.loc 1) 1 5 0 0),(8,.sl (Zax h.l) .an),(9,.i .i64 h.l.length),(10,.i .i64 i)],[(.loc 1,bxH h)],3⟩
theorem zuu(h:Hs)(hs:HsS h 400):Za T 583 [ehs h]=some (.b (Ze9 h)):=by
 have hlen:=hs.len;have hlp:Ze T 0 0 (.norm false []) l583_0 (Zj9 h 0)=if Zct (h.l.drop 0) h.t h.y=true then some (.n,⟨[],[],2⟩) else some (.r,⟨[(2,.b false)],[],2⟩):=by
  refine zak (Zj9 h) h.l.length (fun i=>if Zct (h.l.drop i) h.t h.y=true then some (.n,⟨[],[],2⟩) else some (.r,⟨[(2,.b false)],[],2⟩)) (fun i hi=>?_) ?_
  ·have hws:=zaz hi (by omega);have hm:=Yi hi;have key:Zct (h.l.drop i) h.t h.y=(Zf9 (h.l[i]'hi) (Zc6 (h.l.drop (i+1)) h.t h.y).1 (Zc6 (h.l.drop (i+1)) h.t h.y).2&&Zct (h.l.drop (i+1)) h.t h.y):=by rw[Ye hi,Zct]
   have f1:=hs.rt _ hm;have f2:=hs.ry _ hm;generalize hq:h.l[i]'hi=q at *
   by_cases hn:i+1<h.l.length
   ·have hn':(i:Int)+1<h.l.length:=by omega
    have hm2:=Yi hn;have en:Zc6 (h.l.drop (i+1)) h.t h.y=((h.l[i+1]'hn).t,(h.l[i+1]'hn).y):=by rw[Ye hn];rfl
    rw[en]at key;have c:=zh2 (T:=T) q (h.l[i+1]'hn).t (h.l[i+1]'hn).y f1 (hs.rt _ hm2 _ (by simp[Tr.nums])) (fun x hx=>Yc (hs.ry _ hm2 x hx) (by decide)) (fun x hx=>Yc (f2 x hx) (by decide)) (hs.rl _ hm2);generalize hq2:h.l[i+1]'hn=p at *
    generalize hB:Zf9 q p.t p.y=B at *
    obtain⟨p1,p2,p3,p4,p5,p6⟩:=p;have hci:((i:Int)+1).toNat=i+1:=by omega
    cases B with
    | true=>
     left;refine⟨?_,by grind⟩;unfold Zj9 bxH;simp -implicitDefEqProofs[l583_0,hi,hq,hq2,hws,hn,hn',c,hci]
    | false=>
     right;rw[if_neg (by grind)];unfold Zj9 bxH;constructor<;>simp -implicitDefEqProofs[l583_0,hi,hq,hq2,hws,hn,hn',c,hci]
   ·have hn':¬ (i:Int)+1<h.l.length:=by omega
    have en:Zc6 (h.l.drop (i+1)) h.t h.y=(h.t,h.y):=by rw[Yb0 (by omega)];rfl
    rw[en]at key;have c:=zh2 (T:=T) q h.t h.y f1 hs.t (fun x hx=>Yc (hs.y x hx) (by decide)) (fun x hx=>Yc (f2 x hx) (by decide)) hs.yl;generalize hB:Zf9 q h.t h.y=B at *
    obtain⟨q1,q2,q3,q4,q5,q6⟩:=q;cases B with
    | true=>
     left;refine⟨?_,by grind⟩;unfold Zj9 bxH;simp -implicitDefEqProofs[l583_0,hi,hq,hws,hn',c]
    | false=>
     right;rw[if_neg (by grind)];unfold Zj9 bxH;constructor<;>simp -implicitDefEqProofs[l583_0,hi,hq,hws,hn',c]
  ·have e:Zct [] h.t h.y=true:=rfl;simp only[Yp,e,if_true];unfold Zj9 bxH;constructor<;>simp -implicitDefEqProofs[l583_0]
 unfold Zj9 bxH at hlp;rw[Y3]at hlp;unfold Ze9;rw[zaa Zam.h583 rfl,b583];obtain⟨L,t,y⟩:=h;cases hA:Zct L t y<;>rw[hA]at hlp<;>simp at hlp<;>simp -implicitDefEqProofs[hlp]
theorem HsS.mono{h:Hs}{A B:Nat}(hs:HsS h A)(hAB:A≤B):HsS h B:=
 ⟨hs.len,Yc hs.t hAB,fun x hx=>Yc (hs.y x hx) hAB,hs.yl,fun r hr x hx=>Yc (hs.rt r hr x hx) hAB,fun r hr x hx=>Yc (hs.ry r hr x hx) hAB,hs.rl⟩
theorem zuv(h:Hs)(hs:HsS h 400):Za T 579 [ehs h]=some (.i .i64 (Zd9 h)):=by
 have hs2:HsS h 1000:=hs.mono (by decide);have c1:=zus (T:=T) h hs2;have c2:=zoq (T:=T) h hs.len;have c3:=zut (T:=T) h hs2;have c4:=zuu (T:=T) h hs;unfold Zd9;rw[zaa Zam.h579 rfl,b579];generalize Zc5 h=P at *
 generalize Zhj h=Ln at *
 generalize Zfu h=Sz at *
 generalize Ze9 h=Ch at *
 obtain⟨L,t,y⟩:=h;cases P with
 | false=>simp -implicitDefEqProofs[c1]
 | true=>
 cases Ln with
 | false=>simp -implicitDefEqProofs[c1,c2]
 | true=>
 by_cases hl:200<L.length
 ·have hl':(200:Int)<L.length:=by omega
  simp -implicitDefEqProofs[c1,c2,hl,hl']
 have hl':¬ (200:Int)<L.length:=by omega
 cases Sz with
 | false=>simp -implicitDefEqProofs[c1,c2,hl,hl',c3]
 | true=>
 cases Ch<;>simp -implicitDefEqProofs[c1,c2,hl,hl',c3,c4]
theorem zb1(h:Hs)(hs:HsS h 400):Za T 576 [ehs h]=some (.b (Z5 h)):=by
 have c:=zuv (T:=T) h hs;unfold Z5;rw[zaa Zam.h576 rfl,b576];generalize Zd9 h=w at *
 by_cases hw:w=0
 ·subst hw;simp -implicitDefEqProofs[c]
 ·simp -implicitDefEqProofs[c,hw]
theorem zy5(l:List Tr)(r:Tr):Zcp (l++[r])=if r.ok then Zcp l++[Zjz r] else Zcp l:=by
 grind[Zcp]
def Zme(l:List Tr)(i n:Nat):St:=⟨[(3,.bs (.loc 3) 1 14 0 n),(8,.sl (Zax l) .an),(9,.i .i64 l.length),(10,.i .i64 i)],[(.loc 3,⟨1,.own,14,Zax (Zcp (l.take i))⟩)],3⟩
theorem zmr(h:Hs)(hs:HsS h 1000):Za T 532 [ehs h]=some (.sl (Zax (Zcp h.l)) .an):=by
 have hlen:=hs.len;have al:∀i,(Zcp (h.l.take i)).length≤i:=by
  grind[Zcp]
 have hlp:Ze T 0 0 (.norm false [3]) l532_0 (Zme h.l 0 (Zcp (h.l.take 0)).length)=some (.n,⟨[(3,.bs (.loc 3) 1 14 0 (Zcp h.l).length)],[(.loc 3,⟨1,.own,14,Zax (Zcp h.l)⟩)],3⟩):=by
  refine zai (fun i=>Zme h.l i (Zcp (h.l.take i)).length) h.l.length _ (fun i hi=>?_) ?_
  ·have hga:h.l[i]? = some (h.l[i]'hi):=Ya hi;have hws:=zaz hi (by omega);have hm:=Yi hi;have key:Zcp (h.l.take (i+1))=if (h.l[i]'hi).ok then Zcp (h.l.take i)++[Zjz (h.l[i]'hi)] else Zcp (h.l.take i):=by
    rw[Yz hi,zy5]
   have hai:=al i;have c1:=zh1 (T:=T) (h.l[i]'hi);have c2:=zf6 (T:=T) (h.l[i]'hi).nums (by simp[Tr.nums]) (hs.rt _ hm);have c3:=zf6 (T:=T) (h.l[i]'hi).y (hs.rl _ hm) (hs.ry _ hm);generalize hq:h.l[i]'hi=q at *
   have hA1:(Zcp (h.l.take i)).length+1≤4294967296:=by omega
   clear hs hm al;unfold Zme;simp only[key];generalize hA:Zcp (h.l.take i)=A at *
   clear hA key;have hnn:wkL (Zc q.nums)=Zc q.nums:=zbt _;replace c2:Za T 533 [.sl (Zc q.nums) .an]=some (.sl [Z1 (fz (fv q.t)),Z1 (fz (fv q.w)),Z1 (fz (fv q.h)),Z1 (fz (fv q.e))] .an):=c2;generalize hN:Zc q.nums=NN at *
   clear hN;have hpush:wkL (Zax A++[Ziw (Zjz q)])=Zax (A++[Zjz q]):=by rw[zlv,zta]
   unfold Zjz at *
   obtain⟨q1,q2,q3,q4,q5,q6⟩:=q;dsimp only at *
   generalize fz (fv q1)=z1 at *
   generalize fz (fv q2)=z2 at *
   generalize fz (fv q3)=z3 at *
   generalize fz (fv q4)=z4 at *
   generalize nrm q5=z5 at *
   obtain⟨L,t,y⟩:=h;dsimp only at *
   cases q6 with
   | true=>
    simp -implicitDefEqProofs[l532_0,hi,hq,hws,c1,c2,c3,hnn,hA1,hpush]
   | false=>
    simp -implicitDefEqProofs[l532_0,hi,hq,hws]
  ·simp only[Yeh];unfold Zme;simp only[Yeh];constructor<;>simp -implicitDefEqProofs[l532_0]
 have e0:Zcp (h.l.take 0)=[]:=rfl;unfold Zme at hlp;rw[e0]at hlp;simp only[Yl,Yav,zpt]at hlp;have ht:List.take (Zcp h.l).length (Zcp h.l)=Zcp h.l:=Yeh ..;rw[zaa Zam.h532 rfl,b532];obtain⟨L,t,y⟩:=h;simp -implicitDefEqProofs[hlp,ht]
end
end Go.Ab
end
section
namespace Go.Ab
section
variable{T:Tbl}[Zaj T][Zs T][Z2 T][Z4 T][Zu T][Zw T][Zf T][Zl T][Zp T][Zah T][Za4 T][Zdh T][Zal T][Zar T][Zbs T][Zas T][Zew T][Zap T][Za0 T][Zaz T][Zbr T][Zam T][Zej T]
theorem zsn(l:List Tr):(Zcp l).length≤l.length:=by
 unfold Zcp;rw[Yaw];exact Ydj ..
def Zq6(A:List Tr)(i:Nat):St:=⟨[(3,.bs (.loc 3) 1 3 0 i),(7,.sl (Zax A) .an),(8,.i .i64 A.length),(9,.i .i64 i)],[(.loc 3,⟨1,.own,3,Zc ((A.take i).map (·.h))⟩)],3⟩
def Zmf(h:Hs)(A:List Tr)(i:Nat):St:=⟨[(1,.ptr (.loc 1) 1 5 0 0),(4,.bs (.loc 4) 2 3 0 i),(5,.bs (.loc 5) 3 1 0 i),(9,.sl (Zax A) .an),(10,.i .i64 A.length),(11,.i .i64 i)],
 [(.loc 1,bxH h),(.loc 4,⟨2,.own,3,Zc ((A.take i).map (·.t))⟩),(.loc 5,⟨3,.own,1,Zv ((A.take i).map (·.y))⟩)],5⟩
theorem zuw(h:Hs)(A:List Tr)(hl:A.length≤1000):Ze T 0 0 (.norm false [1,4,5]) l513_0 (Zmf h A 0) =
  some (.n,⟨[(1,.ptr (.loc 1) 1 5 0 0),(4,.bs (.loc 4) 2 3 0 A.length),(5,.bs (.loc 5) 3 1 0 A.length)],[(.loc 1,bxH h),(.loc 4,⟨2,.own,3,Zc (A.map (·.t))⟩),(.loc 5,⟨3,.own,1,Zv (A.map (·.y))⟩)],5⟩):=by
 refine zai (Zmf h A) A.length _ (fun i hi=>?_) ?_
 ·have hga:A[i]? = some (A[i]'hi):=Ya hi;have hws:=zaz hi (by omega);have key:(A.take (i+1)).map (·.t)=(A.take i).map (·.t)++[(A[i]'hi).t]:=by rw[Yz hi,Yda];rfl
  have key2:(A.take (i+1)).map (·.y)=(A.take i).map (·.y)++[(A[i]'hi).y]:=by rw[Yz hi,Yda];rfl
  have hml:((A.take i).map (·.t)).length=i:=by simp;omega
  have hml2:((A.take i).map (·.y)).length=i:=by simp;omega
  have hi4:i+1≤4294967296:=by omega
  generalize hq:A[i]'hi=q at *
  unfold Zmf bxH;simp only[key,key2];generalize (A.take i).map (·.t)=M at *
  generalize (A.take i).map (·.y)=N at *
  have hpush:=zba hml q.t;have hpush2:=zez hml2 q.y;obtain⟨q1,q2,q3,q4,q5,q6⟩:=q;dsimp only at *
  simp -implicitDefEqProofs[l513_0,hi,hga,hq,hws,hml,hml2,hi4,hpush,hpush2]
 ·unfold Zmf bxH;rw[Yb (Yg _)];constructor<;>simp -implicitDefEqProofs[l513_0]
theorem zc2(h:Hs)(hs:HsS h 1000):Za T 513 [ehs h]=some (.tup [.sl (Zc (Zx h)) .an,.sl (Zv (Zaq h)) .an]):=by
 have c:=zmr (T:=T) h hs;have hl:=Yc (zsn h.l) hs.len;have c2:=zcq (T:=T) h.t (Yc hs.t (by decide));have c3:=zf6 (T:=T) h.y hs.yl hs.y;unfold Zx Zaq;generalize Zcp h.l=A at *
 have hlp:=zuw (T:=T) h A hl;unfold Zmf bxH at hlp;simp only[Yl,Ya4,Ybz,zau,zm3]at hlp;have hml:(A.map (·.t)).length=A.length:=by simp
 have hml2:(A.map (·.y)).length=A.length:=by simp
 have hi4:A.length+1≤4294967296:=by omega
 rw[zaa Zam.h513 rfl,b513];clear hs;generalize A.map (·.t)=M at *
 generalize A.map (·.y)=N at *
 generalize hn:A.length=n at *
 have hpush:=zba hml (fz (fv h.t));have hpush2:=zez hml2 (nrm h.y);generalize fz (fv h.t)=z at *
 generalize nrm h.y=Y at *
 have ht1:List.take (n+1) (M++[z])=M++[z]:=Yb (by simp;omega);have ht2:List.take (n+1) (N++[Y])=N++[Y]:=Yb (by simp;omega);obtain⟨L,⟨t1,t2,t3⟩,y⟩:=h;dsimp only at *
 simp -implicitDefEqProofs[c,c2,c3,hlp,hml,hml2,hi4,hpush,hpush2,hn,ht1,ht2]
end
end Go.Ab
end
section
namespace Go.Ab
theorem zacr(a b c:Fz):Zc [a,b,c]=[Z1 a,Z1 b,Z1 c]:=rfl
theorem zajk(a b c d:Fz):Zc [a,b,c,d]=[Z1 a,Z1 b,Z1 c,Z1 d]:=rfl
theorem zajl(a b:Fz):Zc [a,b]=[Z1 a,Z1 b]:=rfl
theorem z5d{l:List Rat}{B:Nat}(h:∀q∈l,sz q≤B):∀x∈fzs l,fsz x≤B:=by
 intro x hx;obtain⟨q,hq,rfl⟩:=Yx.1 hx;exact h q hq
def Zez(t h s:Rat):Rat:=(s-t)/h
def Ziu(h x y:Rat):List Rat:=[y*y*(1+2*x),x*x*(3 + -2*x),h*x*y*y,h*x*x * -y]
def Zjy(h x y:Rat):List Rat:=[-(6*x*y/h),6*x*y/h,y*(1 + -3*x),x*(-2+3*x)]
def Zhp(c:List Rat)(y0 y1 f0 f1:List Fz):List Rat:=Zey ((fzs c).zip [y0,y1,f0,f1]) (List.replicate y0.length 0)
theorem z5e(a b c:Rat):Zbw [fz a,fz b,fz c]=a*b*c:=by simp[Zbw,Rat.one_mul]
theorem zacs(a b:Rat):Zbw [fz a,fz b]=a*b:=by simp[Zbw,Rat.one_mul]
theorem zact(a:Fz)(b c d:Rat):Zbw [a,fz b,fz c,fz d]=fv a*b*c*d:=by simp[Zbw,Rat.one_mul]
section
variable{T:Tbl}[Zs T][Z2 T][Z4 T][Zu T][Zw T][Za0 T][Zf T][Zl T][Zp T][Zaz T][Zbr T][Zbg T]
theorem z5f{t h s:Fz}(ht:fsz t≤6)(hh:fsz h≤6)(hs:fsz s≤6):sz (Zez (fv t) (fv h) (fv s))≤19:=by
 unfold Zez;have e1:=zh8 (fv s) (fv t);have e2:=za4 (L:=6) ht (by decide);have e3:=za4 (L:=6) hs (by decide);have e4:=za4 (L:=6) hh (by decide);have e5:=zs8 (fv s-fv t) (fv h);omega
theorem zlo{a b:Int}{x:Rat}{S:Nat}(hx:sz x≤S)(ha1:-100≤a)(ha2:a≤100)(hb1:-100≤b)(hb2:b≤100):sz ((a:Rat)+(b:Rat)*x)≤S+3:=by
 grind[zmy,zct,zfz]
theorem mem3{a b c:Fz}{B:Nat}(h1:fsz a≤B)(h2:fsz b≤B)(h3:fsz c≤B):∀x∈[a,b,c],fsz x≤B:=by
 grind
theorem mem2{a b:Fz}{B:Nat}(h1:fsz a≤B)(h2:fsz b≤B):∀x∈[a,b],fsz x≤B:=by
 grind
theorem mem4{a b c d:Fz}{B:Nat}(h1:fsz a≤B)(h2:fsz b≤B)(h3:fsz c≤B)(h4:fsz d≤B):∀x∈[a,b,c,d],fsz x≤B:=by
 grind
theorem z0u(t h s:Fz)(y0 y1 f0 f1:List Fz)(ht:fsz t≤6)(hh:fsz h≤6)(hs:fsz s≤6)(hr:Zen h y0 y1 f0 f1=true)(hw:∀r∈[y0,y1,f0,f1],∀x∈r,fsz x≤89) :
  Za T 324 [agS t h y0 y1 f0 f1,efz s]=some (.tup [.sl (Zc (fzs (Zhp (Ziu (fv h) (Zez (fv t) (fv h) (fv s)) (1 + -1*Zez (fv t) (fv h) (fv s))) y0 y1 f0 f1))) .an,.b true]):=by
 have c0:=zln (T:=T) t h y0 y1 f0 f1 (by omega);rw[hr]at c0;have c1:=zpf (T:=T) t h s y0 y1 f0 f1 (by omega) (by omega) (by omega);have zx:=z5f ht hh hs
 change Za T 335 _=some (efz (fz (Zez (fv t) (fv h) (fv s)))) at c1
 obtain⟨x,hx⟩:∃x,x=Zez (fv t) (fv h) (fv s):=⟨_,rfl⟩;rw[←hx]at c1 zx;rw[←hx];have zy:sz (1 + -1*x)≤22:=zlo (a:=1) (b:=-1) zx (by decide) (by decide) (by decide) (by decide);have z1:sz (1+2*x)≤22:=zlo (a:=1) (b:=2) zx (by decide) (by decide) (by decide) (by decide);have z2:sz (3 + -2*x)≤22:=zlo (a:=3) (b:=-2) zx (by decide) (by decide) (by decide) (by decide);have k1:Za T 336 [.i .i64 1,.i .i64 (-1),efz (fz x)]=some (efz (fz (1 + -1*x))):=by
  grind[zce,zar,za7]
 have k2:Za T 336 [.i .i64 1,.i .i64 2,efz (fz x)]=some (efz (fz (1+2*x))):=by
  grind[zce,zar,za7]
 have k3:Za T 336 [.i .i64 3,.i .i64 (-2),efz (fz x)]=some (efz (fz (3 + -2*x))):=by
  grind[zce,zar,za7]
 generalize 1 + -1*x=y at *
 have k4:=zmi (T:=T) (fz y) (by rw[zar];omega);rw[za7]at k4;have zn:sz (-y)≤22:=by rw[zh7];omega
 have m1:=zcf (T:=T) [fz y,fz y,fz (1+2*x)] (B:=22) (by simp) (by decide) (mem3 zy zy z1) (by simp);have m2:=zcf (T:=T) [fz x,fz x,fz (3 + -2*x)] (B:=22) (by simp) (by decide) (mem3 (Yc zx (by decide)) (Yc zx (by decide)) z2) (by simp);have m3:=zcf (T:=T) [h,fz x,fz y,fz y] (B:=22) (by simp) (by decide) (mem4 (by omega) (Yc zx (by decide)) zy zy) (by simp);have m4:=zcf (T:=T) [h,fz x,fz x,fz (-y)] (B:=22) (by simp) (by decide) (mem4 (by omega) (Yc zx (by decide)) (Yc zx (by decide)) zn) (by simp);have q1:=zdo (B:=22) (by decide) [fz y,fz y,fz (1+2*x)] (mem3 zy zy z1) 3;have q2:=zdo (B:=22) (by decide) [fz x,fz x,fz (3 + -2*x)] (mem3 (Yc zx (by decide)) (Yc zx (by decide)) z2) 3;have q3:=zdo (B:=22) (by decide) [h,fz x,fz y,fz y] (mem4 (by omega) (Yc zx (by decide)) zy zy) 4;have q4:=zdo (B:=22) (by decide) [h,fz x,fz x,fz (-y)] (mem4 (by omega) (Yc zx (by decide)) (Yc zx (by decide)) zn) 4;simp only[Ycj,Ye0,Yn,Yav]at q1 q2 q3 q4;rw[z5e]at m1 m2 q1 q2;rw[zact]at m3 m4 q3 q4;simp only[Zen,Yh,decide_eq_true_eq]at hr;obtain⟨⟨⟨⟨_,h2⟩,h3⟩,h4⟩,h5⟩:=hr;have mx:=zyy (T:=T) (fzs (Ziu (fv h) x y)) [y0,y1,f0,f1] y0.length (by simp[Ziu]) h2 (by simp) (B:=89) (z5d (by
  grind[Ziu])) hw (by decide) (by simp) (by
  grind)
 have rw5:=zpe (T:=T) t h y0 y1 f0 f1
 change Za T 271 _=some (.tup [.sl (Zc (fzs (Zhp (Ziu (fv h) x y) y0 y1 f0 f1))) .an,.b true]) at mx
 have ef:Zc (fzs (Ziu (fv h) x y))=[Z1 (fz (y*y*(1+2*x))),Z1 (fz (x*x*(3 + -2*x))),Z1 (fz (fv h*x*y*y)),Z1 (fz (fv h*x*x * -y))]:=rfl;rw[ef]at mx;rw[zacr]at m1 m2;rw[zajk]at m3 m4;rw[zaa Zbg.h324 rfl,b324];clear hw ef q1 q2 q3 q4 zx zy z1 z2 zn hx;generalize fzs (Zhp (Ziu (fv h) x y) y0 y1 f0 f1)=R at *
 generalize [y0,y1,f0,f1]=LL at *
 generalize fz (y*y*(1+2*x))=F0 at *
 generalize fz (x*x*(3 + -2*x))=F1 at *
 generalize fz (fv h*x*y*y)=F2 at *
 generalize fz (fv h*x*x * -y)=F3 at *
 generalize fz (-y)=Y' at *
 generalize fz (1+2*x)=L1 at *
 generalize fz (3 + -2*x)=L2 at *
 generalize fz x=X at *
 generalize fz y=Y at *
 simp -implicitDefEqProofs[c0,c1,k1,k2,k3,k4,m1,m2,m3,m4,mx,rw5]
theorem zvq(t h s:Fz)(y0 y1 f0 f1:List Fz)(ht:fsz t≤6)(hh:fsz h≤6)(hs:fsz s≤6)(hr:Zen h y0 y1 f0 f1=true)(hw:∀r∈[y0,y1,f0,f1],∀x∈r,fsz x≤89) :
  Za T 326 [agS t h y0 y1 f0 f1,efz s]=some (.tup [.sl (Zc (fzs (Zhp (Zjy (fv h) (Zez (fv t) (fv h) (fv s)) (1 + -1*Zez (fv t) (fv h) (fv s))) y0 y1 f0 f1))) .an,.b true]):=by
 have c0:=zln (T:=T) t h y0 y1 f0 f1 (by omega);rw[hr]at c0;have c1:=zpf (T:=T) t h s y0 y1 f0 f1 (by omega) (by omega) (by omega);have zx:=z5f ht hh hs
 change Za T 335 _=some (efz (fz (Zez (fv t) (fv h) (fv s)))) at c1
 obtain⟨x,hx⟩:∃x,x=Zez (fv t) (fv h) (fv s):=⟨_,rfl⟩;rw[←hx]at c1 zx;rw[←hx];have zy:sz (1 + -1*x)≤22:=zlo (a:=1) (b:=-1) zx (by decide) (by decide) (by decide) (by decide);have z1:sz (1 + -3*x)≤22:=zlo (a:=1) (b:=-3) zx (by decide) (by decide) (by decide) (by decide);have z2:sz (-2+3*x)≤22:=zlo (a:=-2) (b:=3) zx (by decide) (by decide) (by decide) (by decide);have z6:sz (6:Rat)≤1:=zmy (k:=6) (by decide) (by decide);have k0:Za T 205 [.i .i64 6]=some (efz (fz 6)):=zdu (T:=T) 6 (by decide) (by decide);have k1:Za T 336 [.i .i64 1,.i .i64 (-1),efz (fz x)]=some (efz (fz (1 + -1*x))):=by
  grind[zce,zar,za7]
 have k2:Za T 336 [.i .i64 1,.i .i64 (-3),efz (fz x)]=some (efz (fz (1 + -3*x))):=by
  grind[zce,zar,za7]
 have k3:Za T 336 [.i .i64 (-2),.i .i64 3,efz (fz x)]=some (efz (fz (-2+3*x))):=by
  grind[zce,zar,za7]
 generalize 1 + -1*x=y at *
 have zx22:fsz (fz x)≤22:=Yc zx (by decide);have z622:fsz (fz 6)≤22:=Yc z6 (by decide);have m1:=zcf (T:=T) [fz 6,fz x,fz y] (B:=22) (by simp) (by decide) (mem3 z622 zx22 zy) (by simp);have m2:=zcf (T:=T) [fz y,fz (1 + -3*x)] (B:=22) (by simp) (by decide) (mem2 zy z1) (by simp);have m3:=zcf (T:=T) [fz x,fz (-2+3*x)] (B:=22) (by simp) (by decide) (mem2 zx22 z2) (by simp);have q1:=zdo (B:=22) (by decide) [fz 6,fz x,fz y] (mem3 z622 zx22 zy) 3;have q2:=zdo (B:=22) (by decide) [fz y,fz (1 + -3*x)] (mem2 zy z1) 2;have q3:=zdo (B:=22) (by decide) [fz x,fz (-2+3*x)] (mem2 zx22 z2) 2;simp only[Ycj,Ye0,Yn,Yav]at q1 q2 q3;rw[z5e]at m1 q1;rw[zacs]at m2 m3 q2 q3;have zh:=za4 (L:=6) hh (by decide);have zq:=zs8 (6*x*y) (fv h);have k4:=zmk (T:=T) (fz (6*x*y)) h (by rw[zar];omega) (by omega);rw[za7]at k4;have k5:=zmi (T:=T) (fz (6*x*y/fv h)) (by rw[zar];omega);rw[za7]at k5;have zn:sz (-(6*x*y/fv h))≤89:=by rw[zh7];omega
 simp only[Zen,Yh,decide_eq_true_eq]at hr;obtain⟨⟨⟨⟨_,h2⟩,h3⟩,h4⟩,h5⟩:=hr;have mx:=zyy (T:=T) (fzs (Zjy (fv h) x y)) [y0,y1,f0,f1] y0.length (by simp[Zjy]) h2 (by simp) (B:=89) (z5d (by
  grind[Zjy])) hw (by decide) (by simp) (by
  grind)
 have rw5:=zpe (T:=T) t h y0 y1 f0 f1
 change Za T 271 _=some (.tup [.sl (Zc (fzs (Zhp (Zjy (fv h) x y) y0 y1 f0 f1))) .an,.b true]) at mx
 have ef:Zc (fzs (Zjy (fv h) x y))=[Z1 (fz (-(6*x*y/fv h))),Z1 (fz (6*x*y/fv h)),Z1 (fz (y*(1 + -3*x))),Z1 (fz (x*(-2+3*x)))]:=rfl;rw[ef]at mx;rw[zacr]at m1;rw[zajl]at m2 m3;rw[zaa Zbg.h326 rfl,b326];simp -implicitDefEqProofs[c0,c1,k0,k1,k2,k3,k4,k5,m1,m2,m3,mx,rw5]
end
end Go.Ab
end
section
namespace Go.Ab
def Zf2(s:Rat):List Fz→Nat→Option Nat
 | [],_=>none
 | t::l,i=>if s≤fv t then some i else Zf2 s l (i+1)
def Ziv(s:Rat):List Fz→Option Nat
 | []=>none
 | t::l=>if s<fv t then none else Zf2 s l 0
def Zbe:Option Nat→AV
 | some i=>.tup [.i .i64 i,.b true]
 | none=>.tup [.i .i64 (-1),.b false]
theorem zvr(h:Hs):∃t l,Zx h=t::l:=by
 cases e:Zx h with
 | nil=>exact absurd e (by simp[Zx])
 | cons t l=>exact⟨t,l,rfl⟩
theorem zcl{h:Hs}{B:Nat}(hs:HsS h B)(hB:1≤B):∀x∈Zx h,fsz x≤B:=by
 intro x hx;unfold Zx at hx;rcases Yag.1 hx with hx | hx
 ·obtain⟨r,hr,rfl⟩:=Yx.1 hx;unfold Zcp at hr;obtain⟨q,hq,rfl⟩:=Yx.1 hr;have:=hs.rt q (Ydq.1 hq).1 q.t (by simp[Tr.nums]);exact za4 this hB
 ·rw[Ybe.1 hx];exact za4 hs.t hB
theorem z5g{l:List Fz}{B:Nat}(h:∀x∈l,fsz x≤B)(hB:1≤B):∀x∈nrm l,fsz x≤B:=by
 intro x hx;obtain⟨y,hy,rfl⟩:=Yx.1 hx;exact za4 (h y hy) hB
theorem zeo{h:Hs}{B:Nat}(hs:HsS h B)(hB:1≤B):∀y∈Zaq h,(∀x∈y,fsz x≤B)∧y.length≤1000:=by
 intro y hy;unfold Zaq at hy;rcases Yag.1 hy with hy | hy
 ·obtain⟨r,hr,rfl⟩:=Yx.1 hy;unfold Zcp at hr;obtain⟨q,hq,rfl⟩:=Yx.1 hr;have hm:=(Ydq.1 hq).1;exact⟨z5g (hs.ry q hm) hB,by show (nrm q.y).length≤1000;simp[nrm];exact hs.rl q hm⟩
 ·rw[Ybe.1 hy];exact⟨z5g hs.y hB,by simp[nrm];exact hs.yl⟩
theorem zj5(h:Hs):(Zaq h).length=(Zx h).length:=by simp[Zaq,Zx]
theorem zd7{h:Hs}{B:Nat}(hs:HsS h B):(Zx h).length≤1001:=by
 have:=Yc (zsn h.l) hs.len;simp[Zx];omega
section
variable{T:Tbl}[Zaj T][Zs T][Z2 T][Z4 T][Zu T][Zw T][Zf T][Zl T][Zp T][Zah T][Za4 T][Zdh T][Zal T][Zar T][Zbs T][Zas T][Zew T][Zap T][Za0 T][Zaz T][Zbr T][Zam T][Zej T][Zc1 T][Zag T][Zdn T][Zbg T][Zba T]
def Zli(s:Fz)(l:List Fz)(i:Nat):St:=⟨[(3,.ptr (.loc 3) 1 3 0 0),(25,.sl (Zc l) .an),(26,.i .i64 l.length),(27,.i .i64 i)],[(.loc 3,⟨1,.str,3,[Z1 s]⟩)],3⟩
def Zjh:Option Nat→Ex×St
 | some i=>(.r,⟨[(4,.i .i64 i),(5,.b true)],[],2⟩)
 | none=>(.n,⟨[],[],2⟩)
theorem zvs(s:Fz)(l:List Fz)(hl:l.length≤1001)(hw:∀x∈l,fsz x≤1000)(hs:fsz s≤1000):Ze T 0 0 (.norm false []) l568_0 (Zli s l 0)=some (Zjh (Zf2 (fv s) (l.drop 0) 0)):=by
 refine zak (Zli s l) l.length (fun i=>some (Zjh (Zf2 (fv s) (l.drop i) i))) (fun i hi=>?_) ?_
 ·have hga:l[i]? = some (l[i]'hi):=Ya hi;have hws:=zaz hi (by omega);have c:=zmh (T:=T) s (l[i]'hi) hs (hw _ (Yi hi));have key:Zf2 (fv s) (l.drop i) i=if fv s≤fv (l[i]'hi) then some i else Zf2 (fv s) (l.drop (i+1)) (i+1):=by rw[Ye hi,Zf2]
  have e1:(fv s≤fv (l[i]'hi))↔sgQ (fv s-fv (l[i]'hi))≤0:=by
   have:=@zdi (fv s-fv (l[i]'hi));constructor
   ·intro h;apply Int.not_lt.1;rw[this];grind
   ·intro h;have h2:=Int.not_lt.2 h;rw[this]at h2;grind
  simp only[e1]at key;generalize hq:l[i]'hi=q at *
  generalize sgQ (fv s-fv q)=g at *
  clear e1;by_cases hg:g≤0
  ·right;rw[key,if_pos hg];unfold Zli Zjh;constructor<;>simp -implicitDefEqProofs[l568_0,hi,hga,hq,hws,c,hg]
  ·left;rw[key,if_neg hg];refine⟨?_,rfl⟩;unfold Zli;simp -implicitDefEqProofs[l568_0,hi,hga,hq,hws,c,hg]
 ·rw[Yp];unfold Zli Zjh Zf2;constructor<;>simp -implicitDefEqProofs[l568_0]
theorem zhq(h:Hs)(s:Fz)(hh:HsS h 400)(hs:fsz s≤1000):Za T 568 [ehs h,efz s]=some (if Z5 h=true then Zbe (Ziv (fv s) (Zx h)) else Zbe none):=by
 have c1:=zb1 (T:=T) h hh;have c2:=zc2 (T:=T) h (hh.mono (by decide));have hz:=zcl (hh.mono (B:=1000) (by decide)) (by decide);have hn:=zd7 hh;obtain⟨t,l,e⟩:=zvr h;rw[e]at c2 hz hn ⊢;have c3:=zmh (T:=T) s t hs (hz t (by simp));have c4:=zvs (T:=T) s l (by simp at hn;omega) (fun x hx=>hz x (by simp[hx])) hs;have e1:(fv s<fv t)↔sgQ (fv s-fv t)<0:=by rw[zrh];grind
 have e2:(1:Int)≤(l.length:Int)+1:=by omega
 have e3:1≤l.length+1:=by omega
 rw[Y3]at c4;unfold Zli at c4;simp only[Yl]at c4;rw[zaa Zba.h568 rfl,b568];unfold Ziv;simp only[e1];generalize sgQ (fv s-fv t)=g at *
 generalize Zf2 (fv s) l 0=r at *
 generalize Zv (Zaq h)=YY at *
 generalize Z5 h=R at *
 have e4:Zc (t::l)=Z1 t::Zc l:=rfl;rw[e4]at c2;clear hh hz hn e e1 e4;obtain⟨L,⟨h1,h2,h3⟩,y⟩:=h;obtain⟨s1,s2,s3⟩:=s;obtain⟨t1,t2,t3⟩:=t;cases R with
 | false=>
  unfold Zbe;simp -implicitDefEqProofs[c1]
 | true=>
  by_cases hg:g<0
  ·unfold Zbe;simp -implicitDefEqProofs[c1,c2,c3,hg]
  ·cases r with
   | none=>
    unfold Zjh at c4;unfold Zbe;simp -implicitDefEqProofs[c1,c2,c3,hg,c4,e2,e3]
   | some i=>
    unfold Zjh at c4;unfold Zbe;simp -implicitDefEqProofs[c1,c2,c3,hg,c4,e2,e3]
end
end Go.Ab
end
section
namespace Go.Ab
def Zg6(s:Sm)(many words:Nat):Bool:=decide (50<s.nm.length) || decide (many<s.a.length) || Zan s.b many words || Zan s.c many words || Zan s.e many words || s.a.any fun r=>Zan r many words
def Zie(p:Pb)(many stages words:Nat):Bool:=Zid p.t many words || Zg6 p.s stages 4 || Zan p.p 6 words
def Zgq(r:Tr)(words:Nat):Bool:=Zan r.nums 4 words || Zan r.y 8 words
def Zi8(h:Hs)(many words:Nat):Bool:=decide (many<h.l.length) || decide (words<fsz h.t) || Zan h.y 8 words || h.l.any fun r=>Zgq r words
theorem zom{s:Sm}{many words:Nat}(h:Zg6 s many words=false)(hm:many≤1000)(hw:words≤300):SmS s∧(∀x∈s.c,fsz x≤words)∧s.b.length≤many∧s.a.length≤many∧s.c.length≤many∧s.e.length≤many∧(∀r∈s.a,r.length≤many):=by
 unfold Zg6 at h;simp only[Yb9,decide_eq_false_iff_not,Yd7]at h;obtain⟨⟨⟨⟨⟨h1,h2⟩,h3⟩,h4⟩,h5⟩,h6⟩:=h;obtain⟨b1,b2⟩:=zbe h3;obtain⟨c1,c2⟩:=zbe h4;obtain⟨e1,e2⟩:=zbe h5;have ha:∀r∈s.a,r.length≤many∧∀x∈r,fsz x≤words:=fun r hr=>zbe (by grind);exact⟨⟨by omega,by omega,by omega,by omega,by omega,fun x hx=>Yc (c2 x hx) hw,fun r hr=>⟨Yc (ha r hr).1 hm,fun x hx=>Yc ((ha r hr).2 x hx) hw⟩,fun x hx=>Yc (b2 x hx) hw,fun x hx=>Yc (e2 x hx) hw⟩,c2,b1,by omega,c1,e1,fun r hr=>(ha r hr).1⟩
theorem zqy{h:Hs}{many words:Nat}(e:Zi8 h many words=false)(hm:many≤1000):HsS h words∧h.l.length≤many∧h.y.length≤8∧∀r∈h.l,r.y.length≤8:=by
 unfold Zi8 Zgq at e;simp only[Yb9,decide_eq_false_iff_not,Yd7]at e;obtain⟨⟨⟨h1,h2⟩,h3⟩,h4⟩:=e;obtain⟨y1,y2⟩:=zbe h3;have hr:∀r∈h.l,(Zan r.nums 4 words=false)∧Zan r.y 8 words=false:=fun r hr=>by
  grind
 exact⟨⟨by omega,by omega,y2,by omega,fun r hx=>(zbe (hr r hx).1).2,fun r hx=>(zbe (hr r hx).2).2,fun r hx=>Yc (zbe (hr r hx).2).1 (by decide)⟩,by omega,y1,fun r hx=>(zbe (hr r hx).2).1⟩
section
variable{T:Tbl}[Zaj T][Zs T][Z2 T][Z4 T][Zu T][Zw T][Zf T][Zl T][Zp T][Zah T][Za4 T][Zdh T][Zal T][Zar T][Zbs T][Zas T][Zew T][Zap T][Za0 T][Zaz T][Zbr T]
variable[Z0 T][Z7 T][Zy T][Zaa T][Zz T][Zab T][Zk T][Zac T][Zfq T][Zb1 T][Zbq T][Zei T][Zgp T][Zdr T][Za5 T][Zex T]
theorem zmq(r:Tr):Za T 516 [.agg (Ziw r)]=some (.sl (Zc r.nums) .an):=by
 have e:Zc r.nums=[Z1 r.t,Z1 r.w,Z1 r.h,Z1 r.e]:=rfl;rw[zaa Za5.h516 rfl,b516,e];simp -implicitDefEqProofs[]
def Zma(s:Sm):Box:=⟨1,.str,5,[[.s s.nm,.sl (Zc s.c) .an,.sl (Zv s.a) .an,.sl (Zc s.b) .an,.sl (Zc s.e) .an]]⟩
def Zi9(s:Sm)(many words i:Nat):St:=⟨[(1,.i .i64 many),(2,.i .i64 words),(3,.ptr (.loc 3) 1 5 0 0),(7,.i .i64 i)],[(.loc 3,Zma s)],3⟩
theorem zum(s:Sm)(many words:Nat)(hm:many≤1000):Za T 515 [esm s,.i .i64 many,.i .i64 words]=some (.b (Zg6 s many words)):=by
 have cb:=zbr (T:=T) s.b many words hm;have cc:=zbr (T:=T) s.c many words hm;have ce:=zbr (T:=T) s.e many words hm;have hlp:s.a.length≤many→Ze T 0 0 (.norm false []) l515_0 (Zi9 s many words 0)=if (s.a.drop 0).any (fun r=>Zan r many words)=true then some (.r,⟨[(6,.b true)],[],2⟩) else some (.n,⟨[],[],2⟩):=by
  intro hl;refine zak (Zi9 s many words) s.a.length (fun i=>if (s.a.drop i).any (fun r=>Zan r many words)=true then some (.r,⟨[(6,.b true)],[],2⟩) else some (.n,⟨[],[],2⟩)) (fun i hi=>?_) ?_
  ·have hi':(i:Int)<s.a.length:=by omega
   have hws:=zaz hi (by omega);have c:=zbr (T:=T) (s.a[i]'hi) many words hm;have key:(s.a.drop i).any (fun r=>Zan r many words)=(Zan (s.a[i]'hi) many words || (s.a.drop (i+1)).any fun r=>Zan r many words):=by rw[Ye hi,Yeb]
   generalize hq:s.a[i]'hi=q at *
   obtain⟨nm,c',a,b,e⟩:=s;cases hL:Zan q many words with
   | true=>
    right;rw[hL]at c;rw[if_pos (by rw[key,hL,Yeq])];unfold Zi9 Zma;constructor<;>simp -implicitDefEqProofs[l515_0,hi,hi',hq,c]
   | false=>
    left;rw[hL]at c;refine⟨?_,by grind⟩;unfold Zi9 Zma;simp -implicitDefEqProofs[l515_0,hi,hi',hq,hws,c]
  ·simp only[Yp,List.any_nil,Y2,if_false];unfold Zi9 Zma;constructor<;>simp -implicitDefEqProofs[l515_0]
 rw[Y3]at hlp;unfold Zi9 Zma at hlp;unfold Zg6;rw[zaa Za5.h515 rfl,b515];obtain⟨nm,c,a,b,e⟩:=s;dsimp only at *
 by_cases h1:50<nm.length
 ·have h1':(50:Int)<nm.length:=by omega
  simp -implicitDefEqProofs[h1,h1']
 have h1':¬ (50:Int)<nm.length:=by omega
 by_cases h2:many<a.length
 ·have h2':(many:Int)<a.length:=by omega
  simp -implicitDefEqProofs[h1,h1',h2,h2']
 have h2':¬ (many:Int)<a.length:=by omega
 have hl:=hlp (by omega);generalize Zan b many words=B1 at *
 generalize Zan c many words=B2 at *
 generalize Zan e many words=B3 at *
 generalize a.any (fun r=>Zan r many words)=B4 at *
 cases B1 with
 | true=>simp -implicitDefEqProofs[h1,h1',h2,h2',cb]
 | false=>
 cases B2 with
 | true=>simp -implicitDefEqProofs[h1,h1',h2,h2',cb,cc]
 | false=>
 cases B3 with
 | true=>simp -implicitDefEqProofs[h1,h1',h2,h2',cb,cc,ce]
 | false=>
  cases B4<;>simp at hl<;>simp -implicitDefEqProofs[h1,h1',h2,h2',cb,cc,ce,hl]
theorem zun(p:Pb)(many stages words:Nat)(hm:many≤1000)(hs:stages≤1000):Za T 496 [epb p,.i .i64 many,.i .i64 stages,.i .i64 words]=some (.b (Zie p many stages words)):=by
 have c1:=zue (T:=T) p.t many words hm;have c2:=zum (T:=T) p.s stages 4 hs;have c3:=zbr (T:=T) p.p 6 words (by decide);replace c2:Za T 515 [esm p.s,.i .i64 stages,.i .i64 4]=_:=c2;replace c3:Za T 286 [.sl (Zc p.p) .an,.i .i64 6,.i .i64 words]=_:=c3;unfold Zie;rw[zaa Za5.h496 rfl,b496];generalize Zid p.t many words=A at *
 generalize Zg6 p.s stages 4=B at *
 obtain⟨⟨code,outs,dim,par⟩,⟨nm,c,a,b,e⟩,pp,bits⟩:=p;cases A with
 | true=>simp -implicitDefEqProofs[c1]
 | false=>
 cases B with
 | true=>simp -implicitDefEqProofs[c1,c2]
 | false=>simp -implicitDefEqProofs[c1,c2,c3]
def Zlc(h:Hs):Box:=⟨1,.str,5,[[.sl (Zax h.l) .an,.b h.t.1,.sl (Zb h.t.2.1) .an,.sl (Zb h.t.2.2) .an,.sl (Zc h.y) .an]]⟩
def Zif(h:Hs)(words i:Nat):St:=⟨[(2,.i .i64 words),(3,.ptr (.loc 3) 1 5 0 0),(7,.i .i64 i)],[(.loc 3,Zlc h)],3⟩
theorem zuo(h:Hs)(many words:Nat)(hm:many≤1000):Za T 497 [ehs h,.i .i64 many,.i .i64 words]=some (.b (Zi8 h many words)):=by
 have c1:=zd1 (T:=T) h.t words;have c2:=zbr (T:=T) h.y 8 words (by decide);replace c2:Za T 286 [.sl (Zc h.y) .an,.i .i64 8,.i .i64 words]=_:=c2;have hlp:h.l.length≤many→Ze T 0 0 (.norm false []) l497_0 (Zif h words 0)=if (h.l.drop 0).any (fun r=>Zgq r words)=true then some (.r,⟨[(6,.b true)],[],2⟩) else some (.n,⟨[],[],2⟩):=by
  intro hl;refine zak (Zif h words) h.l.length (fun i=>if (h.l.drop i).any (fun r=>Zgq r words)=true then some (.r,⟨[(6,.b true)],[],2⟩) else some (.n,⟨[],[],2⟩)) (fun i hi=>?_) ?_
  ·have hi':(i:Int)<h.l.length:=by omega
   have hws:=zaz hi (by omega);have d1:=zmq (T:=T) (h.l[i]'hi);have d2:=zbr (T:=T) (h.l[i]'hi).nums 4 words (by decide);have d3:=zbr (T:=T) (h.l[i]'hi).y 8 words (by decide);replace d2:Za T 286 [.sl (Zc (h.l[i]'hi).nums) .an,.i .i64 4,.i .i64 words]=_:=d2;replace d3:Za T 286 [.sl (Zc (h.l[i]'hi).y) .an,.i .i64 8,.i .i64 words]=_:=d3;have key:(h.l.drop i).any (fun r=>Zgq r words)=(Zgq (h.l[i]'hi) words || (h.l.drop (i+1)).any fun r=>Zgq r words):=by rw[Ye hi,Yeb]
   generalize hq:h.l[i]'hi=q at *
   have hR:Zgq q words=(Zan q.nums 4 words || Zan q.y 8 words):=rfl;generalize Zan q.nums 4 words=A at *
   generalize Zan q.y 8 words=B at *
   have hnn:wkL (Zc q.nums)=Zc q.nums:=zbt _;obtain⟨q1,q2,q3,q4,q5,q6⟩:=q;cases A with
   | true=>
    right;rw[if_pos (by grind)];unfold Zif Zlc;constructor<;>simp -implicitDefEqProofs[l497_0,hi,hi',hq,d1,d2,hnn]
   | false=>
   cases B with
   | true=>
    right;rw[if_pos (by grind)];unfold Zif Zlc;constructor<;>simp -implicitDefEqProofs[l497_0,hi,hi',hq,d1,d2,d3,hnn]
   | false=>
    left;refine⟨?_,by grind⟩;unfold Zif Zlc;simp -implicitDefEqProofs[l497_0,hi,hi',hq,hws,d1,d2,d3,hnn]
  ·simp only[Yp,List.any_nil,Y2,if_false];unfold Zif Zlc;constructor<;>simp -implicitDefEqProofs[l497_0]
 rw[Y3]at hlp;unfold Zif Zlc at hlp;unfold Zi8;rw[zaa Za5.h497 rfl,b497];generalize Zan h.y 8 words=B2 at *
 generalize (h.l.any fun r=>Zgq r words)=B4 at *
 generalize hft:fsz h.t=ft at *
 obtain⟨L,t,y⟩:=h;dsimp only at *
 by_cases h1:many<L.length
 ·have h1':(many:Int)<L.length:=by omega
  simp -implicitDefEqProofs[h1,h1']
 have h1':¬ (many:Int)<L.length:=by omega
 have hl:=hlp (by omega);by_cases h2:words<ft
 ·simp -implicitDefEqProofs[h1,h1',c1,h2]
 cases B2 with
 | true=>simp -implicitDefEqProofs[h1,h1',c1,h2,c2]
 | false=>
  cases B4<;>simp at hl<;>simp -implicitDefEqProofs[h1,h1',c1,h2,c2,hl]
theorem z25(s:Sm)(hs:SmS s):Za T 527 [esm s]=some (esm s):=by
 have c1:=zel (T:=T) s.c (by have:=hs.cl;omega);have c2:=z2q (T:=T) s.a (by have:=hs.al;omega) (fun r hr=>by have:=(hs.a r hr).1;omega);have c3:=zel (T:=T) s.b (by have:=hs.bl;omega);have c4:=zel (T:=T) s.e (by have:=hs.el;omega);rw[zaa Zex.h527 rfl,b527];obtain⟨nm,c,a,b,e⟩:=s;simp -implicitDefEqProofs[c1,c2,c3,c4]
theorem z26(p:Pb)(hp:PbS p)(hc:p.t.code.length≤1000)(ho:p.t.outs.length≤1000):Za T 507 [epb p]=some (epb p):=by
 have c1:=z2s (T:=T) p.t hc ho;have c2:=z25 (T:=T) p.s hp.s;have c3:=zel (T:=T) p.p (by have:=hp.pl;omega);rw[zaa Zex.h507 rfl,b507];obtain⟨⟨code,outs,dim,par⟩,⟨nm,c,a,b,e⟩,pp,bits⟩:=p;simp -implicitDefEqProofs[c1,c2,c3]
def Zko(h:Hs)(i:Nat):St:=⟨[(1,.ptr (.loc 1) 1 5 0 0),(2,.ptr (.loc 2) 2 5 0 0),(3,.ptr (.loc 3) 3 5 0 0),(4,.i .i64 i)],
 [(.loc 1,bxH h),(.loc 2,⟨2,.str,5,[[.sl [] .an,.b false,.sl [] .an,.sl [] .an,.sl [] .an]]⟩),(.loc 3,⟨3,.str,5,[[.bs fC 4 14 0 i,.b h.t.1,.sl (Zb h.t.2.1) .an,.sl (Zb h.t.2.2) .an,.sl (Zc h.y) .an]]⟩),(fC,⟨4,.own,14,Zax (h.l.take i)⟩)],6⟩
theorem zup(h:Hs)(i:Nat)(hi:i<h.l.length)(hl:h.l.length≤1000)(hy:∀r∈h.l,r.y.length≤1000):evX (orc T) T 0 l500_0 (Zko h i)=some (.n,Zko h (i+1)):=by
 have hws:=zaz hi (by omega);have hb:i≤4294967295:=by omega
 have c1:=zdm (T:=T) (h.l[i]'hi).t;have c2:=zdm (T:=T) (h.l[i]'hi).w;have c3:=zdm (T:=T) (h.l[i]'hi).h;have c4:=zdm (T:=T) (h.l[i]'hi).e;have c5:=zel (T:=T) (h.l[i]'hi).y (by grind);have hi':(i:Int)<h.l.length:=by omega
 have hml:(h.l.take i).length=i:=by grind
 have ht:List.take i (h.l.take i)=h.l.take i:=Yb (by omega);have e:=ze0 h.l hi;have hp:=zv3 hml (h.l[i]'hi);rw[ht]at hp;unfold Zko bxH fC;rw[e];generalize hq:h.l[i]'hi=q at *
 obtain⟨L,t,y⟩:=h;simp -implicitDefEqProofs[l500_0,hi,hi',hws,hb,hq,c1,c2,c3,c4,c5,hml,ht,hp]
theorem z27(h:Hs)(hl:h.l.length≤1000)(hy:∀r∈h.l,r.y.length≤1000)(hyl:h.y.length≤1000):Za T 500 [ehs h]=some (ehs h):=by
 have hlp:Ze T 0 0 (.norm false [2,3]) l500_0 (Zko h 0)=some (.n,⟨[(2,.ptr (.loc 2) 1 5 0 0),(3,.ptr (.loc 3) 2 5 0 0)],[(.loc 2,⟨1,.str,5,[[.sl [] .an,.b false,.sl [] .an,.sl [] .an,.sl [] .an]]⟩),(.loc 3,⟨2,.str,5,[[.bs fC 3 14 0 h.l.length,.b h.t.1,.sl (Zb h.t.2.1) .an,.sl (Zb h.t.2.2) .an,.sl (Zc h.y) .an]]⟩),(fC,⟨3,.own,14,Zax h.l⟩)],5⟩):=by
  refine zai (Zko h) h.l.length _ (fun i hi=>zup h i hi hl hy) ?_;unfold Zko bxH fC;constructor<;>simp -implicitDefEqProofs[l500_0]
 have ht:List.take h.l.length h.l=h.l:=Yb (by omega);have c1:=zdm (T:=T) h.t;have c2:=zel (T:=T) h.y (by omega);unfold Zko bxH fC at hlp;simp only[Yl,Ya4,zpt]at hlp;rw[zaa Zex.h500 rfl,b500];obtain⟨L,t,y⟩:=h;simp -implicitDefEqProofs[ht,c1,c2,hlp]
end
end Go.Ab
end
section
namespace Go.Ab
theorem zhl(l:List Fz):decide (nrm l=l)=Zg l:=by
 unfold Zg nrm
 induction l with
 | nil=>rfl
 | cons x l ih=>
  rw[Yam,←ih];unfold Zae
  grind[List.cons.injEq]
theorem z7s{l:List Fz}{B:Nat}(h:∀x∈l,fsz x≤B)(hB:1≤B):∀x∈nrm l,fsz x≤B:=by
 grind[nrm,zar,za4]
def Znh(h:Hs):List Fz:=(h.l.filter (·.ok)).map (·.t)++[h.t]
def Zni(h:Hs):List (List Fz):=(h.l.filter (·.ok)).map (·.y)++[h.y]
section
variable{T:Tbl}[Z0 T][Z7 T][Zy T][Zaa T][Zz T][Zab T][Zk T][Zac T][Zcw T][Za5 T][Zcs T]
theorem zgy(l:List Fz)(hl:l.length≤1000)(hw:∀x∈l,fsz x≤1000):Za T 578 [.sl (Zc l) .an]=some (.b (!Zg l)):=by
 have c1:=zjs (T:=T) l hl hw;have c2:=zcc (T:=T) (nrm l) l (by unfold nrm;grind) (fun x hx=>Yc (z7s hw (by decide) x hx) (by decide));rw[zhl]at c2;rw[zaa Zcs.h578 rfl,b578]
 simp_all
def Zkd(h:Hs)(i:Nat)(M:List Fz)(N:List (List Fz)):St:=⟨[(1,.ptr (.loc 1) 1 5 0 0),(4,.bs (.loc 4) 2 3 0 M.length),(5,.bs (.loc 5) 3 1 0 N.length),(6,.i .i64 i)],
 [(.loc 1,bxH h),(.loc 4,⟨2,.own,3,Zc M⟩),(.loc 5,⟨3,.own,1,Zv N⟩)],5⟩
theorem z3w(h:Hs)(hl:h.l.length≤1000):Ze T 0 0 (.norm false [1,4,5]) l522_0 (Zkd h 0 [] []) =
  some (.n,⟨[(1,.ptr (.loc 1) 1 5 0 0),(4,.bs (.loc 4) 2 3 0 ((h.l.filter (·.ok)).map (·.t)).length),(5,.bs (.loc 5) 3 1 0 ((h.l.filter (·.ok)).map (·.y)).length)],[(.loc 1,bxH h),(.loc 4,⟨2,.own,3,Zc ((h.l.filter (·.ok)).map (·.t))⟩),(.loc 5,⟨3,.own,1,Zv ((h.l.filter (·.ok)).map (·.y))⟩)],5⟩):=by
 have key:=zai (T:=T) (k:=0) (id:=0) (g2:=.norm false [1,4,5]) (c:=l522_0) (fun i=>Zkd h i (((h.l.take i).filter (·.ok)).map (·.t)) (((h.l.take i).filter (·.ok)).map (·.y))) h.l.length
  (some (.n,⟨[(1,.ptr (.loc 1) 1 5 0 0),(4,.bs (.loc 4) 2 3 0 ((h.l.filter (·.ok)).map (·.t)).length),(5,.bs (.loc 5) 3 1 0 ((h.l.filter (·.ok)).map (·.y)).length)],[(.loc 1,bxH h),(.loc 4,⟨2,.own,3,Zc ((h.l.filter (·.ok)).map (·.t))⟩),(.loc 5,⟨3,.own,1,Zv ((h.l.filter (·.ok)).map (·.y))⟩)],5⟩)) (fun i hi=>?_) ?_
 ·grind
 ·have hi':(i:Int)<h.l.length:=by omega
  have hws:=zaz hi (by omega);have key:(h.l.take (i+1)).filter (·.ok)=if (h.l[i]'hi).ok then (h.l.take i).filter (·.ok)++[h.l[i]'hi] else (h.l.take i).filter (·.ok):=by
   grind[List.take_succ_eq_append_getElem]
  have hAl:((h.l.take i).filter (·.ok)).length≤1000:=Yc (Ydj ..) (by grind);rw[key];generalize (h.l.take i).filter (·.ok)=A at *
  generalize hq:h.l[i]'hi=q at *
  have hml:(A.map (·.t)).length=A.length:=by simp
  have hml2:(A.map (·.y)).length=A.length:=by simp
  have hi4:A.length+1≤4294967296:=by omega
  have hpush:=zba hml q.t;have hpush2:=zez hml2 q.y;have e1:(A++[q]).map (·.t)=A.map (·.t)++[q.t]:=by simp
  have e2:(A++[q]).map (·.y)=A.map (·.y)++[q.y]:=by simp
  have t1:List.take A.length (A.map (·.t))=A.map (·.t):=Yb (by omega);have t2:List.take A.length (A.map (·.y))=A.map (·.y):=Yb (by omega);rw[t1]at hpush;rw[t2]at hpush2;unfold Zkd bxH;cases hok:q.ok with
  | true=>
   simp only[if_true,e1,e2,Ya7,Yn,Yav,hml,hml2];obtain⟨q1,q2,q3,q4,q5,q6⟩:=q;subst hok;simp -implicitDefEqProofs[l522_0,hi,hi',hq,hws,hml,hml2,hi4,hpush,hpush2,t1,t2]
  | false=>
   simp only[Y2,if_false,hml,hml2];generalize A.map (·.t)=M at *
   generalize A.map (·.y)=N at *
   obtain⟨q1,q2,q3,q4,q5,q6⟩:=q;dsimp only at *
   subst hok;simp -implicitDefEqProofs[l522_0,hi,hi',hq,hws]
 ·rw[Yb (Yg _)];generalize (h.l.filter (·.ok)).map (·.t)=M at *
  generalize (h.l.filter (·.ok)).map (·.y)=N at *
  unfold Zkd bxH;constructor<;>simp -implicitDefEqProofs[l522_0]
theorem zf7(h:Hs)(hl:h.l.length≤1000):Za T 522 [ehs h]=some (.tup [.sl (Zc (Znh h)) .an,.sl (Zv (Zni h)) .an]):=by
 have hlp:=z3w (T:=T) h hl;have hAl:(h.l.filter (·.ok)).length≤1000:=Yc (Ydj ..) hl;unfold Znh Zni;generalize h.l.filter (·.ok)=A at *
 unfold Zkd bxH at hlp;simp only[Yl,Yav,zau,zm3]at hlp;have hml:(A.map (·.t)).length=A.length:=by simp
 have hml2:(A.map (·.y)).length=A.length:=by simp
 have hi4:A.length+1≤4294967296:=by omega
 rw[zaa Zcs.h522 rfl,b522];generalize A.map (·.t)=M at *
 generalize A.map (·.y)=N at *
 generalize hn:A.length=n at *
 have hpush:=zba hml h.t;have hpush2:=zez hml2 h.y;have ht1:List.take (n+1) (M++[h.t])=M++[h.t]:=Yb (by grind);have ht2:List.take (n+1) (N++[h.y])=N++[h.y]:=Yb (by grind);obtain⟨L,⟨t1,t2,t3⟩,y⟩:=h;simp -implicitDefEqProofs[hlp,hml,hml2,hi4,hpush,hpush2,ht1,ht2,z6m]
end
end Go.Ab
end