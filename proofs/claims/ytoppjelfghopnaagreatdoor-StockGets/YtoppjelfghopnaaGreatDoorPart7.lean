/-
  A calculus of values, boxes and code, and what functions of the program compute, proved in it.
  Conditions: none beyond those that the theorems state. (Part 7: GpSchP1, GpSchP2, GpSchP3, GpSchP4, GpSchP5, GpSchP6, GpSchC1, GpSchC2, GpSchC3, GpRef10, GcLaw11c, GcLaw11b, GpLaw11b, GpLaw11c, GpRef11b, GpSchC4, GpSchC5, GpSchB1, GpLaw11e, GpSchB2, GpSchC6, GpSchB3, GpStk4, GpStk5, GpStk6, GpStk7, GpStk8, GpRef16, GpRef16b, GpRef30, GpRef30b, GpStk9, GpStk10, GpStk1, GpStk2, GpStk3, GpStk11, GcSpan2, GcPast2, GcPast, GpPast, GpPast2, GpSpan2, GpSpan3, GpLaw24, GpLong33, GpStk12.)
-/
import Derived.Test.YtoppjelfghopnaaGreatDoorPart6

set_option linter.unusedSectionVars false
set_option linter.unusedVariables false
set_option linter.unusedSimpArgs false
set_option linter.unnecessarySimpa false

section
namespace Go.Ab
def bxR(g:Nat)(r:Rd):Box:=⟨g,.str,3,[[.s r.rest,.i .i64 r.at_,.b r.over]]⟩
theorem zvl(c:UInt8):∀l:List UInt8,decide (0≤Lib.indexByte l c)=l.contains c:=by
 intro l;have h:=Lib.indexByte;rcases zcu c l with ⟨h1,h2,_⟩ | ⟨m,h1,h2,h3⟩
 ·rw[h2];have:c∉l:=fun hc=>by have:=List.count_pos_iff.2 hc;omega
  simp[this]
 ·rw[h2];have:c∈l:=by
   have hc:l.count c≠0:=by
    intro h0;rcases zcu c l with ⟨_,k,_⟩ | ⟨k,_,_,h4⟩
    ·rw[k]at h2;omega
    ·have:=zbz c l;rw[h3,Yd,zbz,h0]at this;omega
   exact List.count_pos_iff.1 (by omega)
  simp[this]
section
variable{T:Tbl}[Zr T][Zaz T][Zcb T][Zcv T][Zao T][Za3 T]
theorem zrs(l:List UInt8)(c:UInt8)(hl:l.length≤1000000):Zb T 64 [.s l,.s [c,32]]=some (.tup [.s (if l.take 2=[c,32] then l.drop 2 else l),.b (decide (l.take 2=[c,32]))]):=by
 have h1:Zb T 123 [.s l,.s [c,32]]=some (.b (decide (l.take 2=[c,32]))):=by
  rw[zac Zr.h123 rfl,b123]
  match l with
  | []=>simp -implicitDefEqProofs
  | [a]=>simp -implicitDefEqProofs
  | a::b::r=>
   have h2:(2:Int)≤(r.length:Int)+1+1:=by omega
   have h3:2≤r.length+1+1:=by omega
   by_cases ha:a=c
   ·by_cases hb:b=32
    ·simp -implicitDefEqProofs[h2,h3,ha,hb]
    ·simp -implicitDefEqProofs[h2,h3,ha,hb]
   ·simp -implicitDefEqProofs[h2,h3,ha]
 have h3:Zb T 98 [.s l,.s [c,32]]=some (.tup [.s (if l.take 2=[c,32] then l.drop 2 else l),.b (decide (l.take 2=[c,32]))]):=by
  rw[zac Zr.h98 rfl,b98];by_cases h:l.take 2=[c,32]
  ·have hlen:2≤l.length:=by
    have:=congrArg List.length h;rw[Y6]at this;simp at this;omega
   have hlen':(2:Int)≤l.length:=by omega
   rw[decide_eq_true h]at h1;rw[if_pos h,decide_eq_true h];clear h;simp -implicitDefEqProofs[h1,hlen,hlen']
  ·rw[decide_eq_false h]at h1;rw[if_neg h,decide_eq_false h];clear h;simp -implicitDefEqProofs[h1]
 rw[zac Zr.h64 rfl,b64];generalize decide (l.take 2=[c,32])=B at *
 generalize (if l.take 2=[c,32] then l.drop 2 else l)=M at *
 simp -implicitDefEqProofs[h3]
theorem zod(l:List UInt8)(c:UInt8):Zb T 618 [.s l,.s [c]]=some (.b (l.contains c)):=by
 have h:=zmy (T:=T) l c;have e:=zvl c l;rw[zac Za3.h618 rfl,b618,←e];generalize Lib.indexByte l c=n at *
 simp -implicitDefEqProofs[h]
theorem zf5(r:Rd)(hr:r.rest.length≤1000000)(ha:r.at_≤1000000) :
  Zbx T 614 [.ptr (.bor 0) 0 3 0 0] [(.bor 0,bxR 0 r)]=some (.tup [.s (Zc r),.i .i64 r.at_,.b (!r.over)],[(.bor 0,bxR 0 (Zo r))]):=by
 have c:=zua (T:=T) r.rest hr;unfold bxR Zc Zo;obtain⟨l,a,o⟩:=r;dsimp only at *
 have e1:l.takeWhile (· != 10)=hdC 10 l:=rfl;have e2:(l.dropWhile (· != 10)).drop 1=tlC 10 l:=rfl;have hle:(hdC 10 l).length≤l.length:=(Ya7 _).length_le;rw[e1,e2]at c;rw[za4 Za3.h614 rfl,b614];cases o with
 | true=>simp -implicitDefEqProofs[]
 | false=>
  generalize hdC 10 l=H at *
  generalize tlC 10 l=Tl at *
  have w1:IntKind.wrap .i64 ((a:Int)+H.length)=((a+H.length:Nat):Int):=by rw[zab _ (by omega)];omega
  have w2:IntKind.wrap .i64 ((a:Int)+H.length+1)=(a:Int)+H.length+1:=zab _ (by omega);cases hc:l.contains 10 with
  | true=>
   rw[hc]at c;simp -implicitDefEqProofs[c,w1,w2]
  | false=>
   rw[hc]at c;simp -implicitDefEqProofs[c,w1,w2]
theorem z2p(r:Rd)(t:List UInt8)(n:Nat)(hn:n≤t.length)(ht:t.length≤1000000) :
  Zbx T 619 [.ptr (.bor 0) 0 3 0 0,.s t,.i .i64 n] [(.bor 0,bxR 0 r)]=some (.tup [],[(.bor 0,bxR 0 ⟨t.drop n,n,false⟩)]):=by
 unfold bxR;obtain⟨l,a,o⟩:=r;dsimp only at *
 have hn':(n:Int)≤t.length:=by omega
 rw[za4 Za3.h619 rfl,b619];simp -implicitDefEqProofs[hn,hn']
theorem zh6(k a b:Int)(h1:-1000000≤a∧a≤1000000)(h2:-2000000≤b∧b≤2000000):Zb T 621 [flt k a,.i .i64 b]=some (flt (shF (k,a) b).1 (shF (k,a) b).2):=by
 have w:IntKind.wrap .i64 (a+b)=a+b:=zab _ (by omega);unfold shF;rw[zac Za3.h621 rfl,b621];by_cases hk:k=0
 ·by_cases ha:a=0
  ·subst hk ha;simp -implicitDefEqProofs[]
  ·simp -implicitDefEqProofs[hk,ha,w]
 ·simp -implicitDefEqProofs[hk,w]
end
end Go.Ab
end
section
namespace Go.Ab
theorem zf6(c:UInt8):∀l:List UInt8,((Zx c l).map fun w=>w.length+1).sum=l.length+1
 | []=>rfl
 | b::l=>by
  have ih:=zf6 c l;by_cases h:b=c
  ·subst h;simp[Zx,ih];omega
  ·cases hs:Zx c l with
   | nil=>rw[hs]at ih;simp at ih
   | cons p r=>
    rw[hs]at ih;simp only[Y2,Yc0]at ih;simp[Zx,h,hs];omega
theorem zh7:∀(ws:List (List UInt8)) (k:Nat) (acc:List Rat),((Za4 ws k acc).2.1=0∧(Za4 ws k acc).2.2=0) ∨
  (((Za4 ws k acc).2.1=1∨(Za4 ws k acc).2.1=2)∧0≤(Za4 ws k acc).2.2∧(Za4 ws k acc).2.2≤k+((ws.map fun w=>w.length+1).sum:Nat)+62)
 | [],_,_=>.inl ⟨rfl,rfl⟩
 | w::ws,k,acc=>by
  unfold Za4;by_cases h1:(Z6 w).2.1=0
  ·rw[if_pos h1];rcases zh7 ws (k+w.length+1) (acc++[(Z6 w).1]) with h | ⟨h2,h3,h4⟩
   ·exact .inl h
   ·refine .inr ⟨h2,h3,?_⟩;simp only[Y2,Yc0];omega
  ·rw[if_neg h1];rcases zcb w with h | ⟨h2,h3,h4⟩
   ·exact absurd h.1 h1
   ·refine .inr ⟨h2,?_,?_⟩
    ·show 0≤(Z6 w).2.2+(k:Int);omega
    ·show (Z6 w).2.2+(k:Int)≤_;simp only[Y2,Yc0];omega
theorem zce(s:List UInt8):((Za2 s).2.1=0∧(Za2 s).2.2=0)∨(((Za2 s).2.1=1∨(Za2 s).2.1=2)∧0≤(Za2 s).2.2∧(Za2 s).2.2≤s.length+63):=by
 unfold Za2;by_cases h:s=[]
 ·rw[if_pos h];exact .inl ⟨rfl,rfl⟩
 ·rw[if_neg h];rcases zh7 (Zx 44 s) 0 []with h | ⟨h2,h3,h4⟩
  ·exact .inl h
  ·refine .inr ⟨h2,h3,?_⟩;rw[zf6]at h4;omega
theorem zyx{f:Int×Int}(h:(f.1=0∧f.2=0)∨((f.1=1∨f.1=2)∧0≤f.2)):f=(0,0)↔f.1=0:=by
 obtain⟨a,b⟩:=f;simp only[Prod.mk.injEq];omega
section
variable{T:Tbl}[Zab T][Zu T][Zz T][Z1 T][Zw T][Zs T][Zr T][Za0 T][Zg T][Zj T][Z0 T][Zay T][Zcv T][Zao T][Zby T][Zcu T][Zaz T][Zcj T][Zco T][Zcb T][Za3 T]
theorem zmt(hcut:∀l:List UInt8,l.length≤1000000→Zb T 184 [.s l,.s [124]]=some (.tup [.s (hdC 124 l),.s (tlC 124 l),.b (l.contains 124)]))
  (l:List UInt8) (n:Nat) (hl:l.length≤100000) (hn:n≤500000) :
  Zb T 620 [.s l,.i .i64 n]=some (.tup [efz (fz (Zbr l n).1),.sl (Zf (fzs (Zbr l n).2.1)) .an,flt (Zbr l n).2.2.1 (Zbr l n).2.2.2]):=by
 have c:=hcut l (by omega);have h1:(hdC 124 l).length≤l.length:=(Ya7 _).length_le;have h2:(tlC 124 l).length≤l.length:=by
  unfold tlC;rw[Yv];have:=(Yei (fun x:UInt8=>x != 124) (l:=l)).length_le;omega
 have c1:=zl8 (T:=T) (hdC 124 l) (by omega);have c2:=zph (T:=T) (tlC 124 l) (by omega);have f1:=zcb (hdC 124 l);have f2:=zce (tlC 124 l);have w1:IntKind.wrap .i64 ((n:Int)+(hdC 124 l).length)=(n:Int)+(hdC 124 l).length:=zab _ (by omega);have w2:IntKind.wrap .i64 ((n:Int)+(hdC 124 l).length+1)=(n:Int)+(hdC 124 l).length+1:=zab _ (by omega);have s1:=zh6 (T:=T) (Z6 (hdC 124 l)).2.1 (Z6 (hdC 124 l)).2.2 n (by omega) (by omega);have s2:=zh6 (T:=T) (Za2 (tlC 124 l)).2.1 (Za2 (tlC 124 l)).2.2 ((n:Int)+(hdC 124 l).length+1) (by omega) (by omega);have z1:=zyx (f:=(Z6 (hdC 124 l)).2) (by omega);unfold Zbr;rw[zac Za3.h620 rfl,b620];generalize hF:Z6 (hdC 124 l)=F at *
 generalize Za2 (tlC 124 l)=R at *
 obtain⟨q,k,a⟩:=F;obtain⟨L,k2,a2⟩:=R;dsimp only at *
 by_cases hk:k=0
 ·have ha:a=0:=by omega
  subst hk ha;rw[if_neg (by simp)];generalize shF (k2,a2) ((n:Int)+(hdC 124 l).length+1)=S at *
  generalize fz q=Z at *
  generalize fzs L=M at *
  generalize hdC 124 l=H at *
  generalize tlC 124 l=K at *
  obtain⟨g1,g2⟩:=S;obtain⟨y1,y2,y3⟩:=Z;dsimp only at *
  simp -implicitDefEqProofs[c,c1,c2,w1,w2,s2,z1f]
 ·rw[if_pos (fun h=>hk (congrArg Prod.fst h))];generalize shF (k,a) (n:Int)=S at *
  generalize fz q=Z at *
  generalize hdC 124 l=H at *
  generalize tlC 124 l=K at *
  have e0:fzs []=[]:=rfl;obtain⟨g1,g2⟩:=S;obtain⟨y1,y2,y3⟩:=Z;dsimp only at *
  rw[e0];simp -implicitDefEqProofs[c,c1,s1,hk]
theorem zh8(r:Rd)(c:UInt8)(hr:r.rest.length≤100000)(ha:r.at_≤500000) :
  Zbx T 616 [.ptr (.bor 0) 0 3 0 0,.s [c]] [(.bor 0,bxR 0 r)]=some (.tup [.sl (Zf (fzs (Zcd c r).1)) .an,flt (Zcd c r).2.1 (Zcd c r).2.2],[(.bor 0,bxR 0 (Zo r))]):=by
 have c1:=zf5 (T:=T) r (by omega) (by omega);have hlen:(Zc r).length≤r.rest.length:=by
  unfold Zc;split
  ·simp
  ·exact(Ya7 _).length_le
 have c2:=zrs (T:=T) (Zc r) c (by omega);have c3:=zph (T:=T) ((Zc r).drop 2) (by rw[Yv];omega);have f2:=zce ((Zc r).drop 2);rw[Yv]at f2;have w1:IntKind.wrap .i64 ((r.at_:Int)+1)=(r.at_:Int)+1:=zab _ (by omega);have w2:IntKind.wrap .i64 ((r.at_:Int)+1+1)=(r.at_:Int)+2:=by rw[zab _ (by omega)];omega
 have s2:=zh6 (T:=T) (Za2 ((Zc r).drop 2)).2.1 (Za2 ((Zc r).drop 2)).2.2 ((r.at_:Int)+2) (by omega) (by omega);unfold Zcd;unfold bxR at *
 generalize Zo r=r' at *
 rw[za4 Za3.h616 rfl,b616];by_cases h:(Zc r).take 2=[c,32]
 ·rw[if_pos h,decide_eq_true h]at c2;rw[if_pos h];clear f2 h;generalize (Zc r).drop 2=D at *
  generalize Zc r=L at *
  generalize Za2 D=R at *
  obtain⟨M,k2,a2⟩:=R;dsimp only at *
  generalize shF (k2,a2) ((r.at_:Int)+2)=S at *
  obtain⟨g1,g2⟩:=S;generalize fzs M=N at *
  obtain⟨rest,a,o⟩:=r;obtain⟨rest',a',o'⟩:=r';dsimp only at *
  simp -implicitDefEqProofs[c1,c2,c3,w1,w2,s2]
 ·rw[if_neg h,decide_eq_false h]at c2;rw[if_neg h];have e0:fzs []=[]:=rfl;clear f2 h c3 s2;generalize Zc r=L at *
  obtain⟨rest,a,o⟩:=r;obtain⟨rest',a',o'⟩:=r';dsimp only at *
  rw[e0];simp -implicitDefEqProofs[c1,c2]
end
end Go.Ab
end
section
namespace Go.Ab
structure Sg where
 nm:List UInt8
 c:List Fz
 a:List (List Fz)
def hpG(r:Rd)(s:Sg):Heap:=[(.bor 0,bxR 0 r),(.bor 1,⟨1,.str,5,[[.s s.nm,.bs (.fld (.bor 1) 1) 5 3 0 s.c.length,.bs (.fld (.bor 1) 2) 6 1 0 s.a.length,.sl [] .nl,.sl [] .nl]]⟩),
 (.fld (.bor 1) 1,⟨5,.own,3,Zf s.c⟩),(.fld (.bor 1) 2,⟨6,.own,1,Z2 s.a⟩)]
def stG(t:List UInt8)(r:Rd)(s:Sg):St:=⟨[(0,.ptr (.bor 0) 0 3 0 0),(1,.s t),(2,.ptr (.bor 1) 1 5 0 0),(6,.ptr (.loc 6) 7 4 0 0)],
 hpG r s++[(.loc 6,⟨7,.str,4,[[.i .i64 0,.i .i64 0,.i .i64 0,.i .i64 0]]⟩)],9⟩
def Zf3(r:Rd)(s:Sg)(k a:Int):Ex×St:=(.r,⟨[(6,.ptr (.loc 6) 7 4 0 0)],hpG r s++[(.loc 6,⟨7,.str,4,[[.i .i64 k,.i .i64 0,.i .i64 0,.i .i64 a]]⟩)],9⟩)
section
variable{T:Tbl}[Zab T][Zu T][Zz T][Z1 T][Zw T][Zs T][Zr T][Za0 T][Zg T][Zj T][Z0 T][Zay T][Zcv T][Zao T][Zby T][Zcu T][Zaz T][Zcj T][Zco T][Zcb T][Za3 T]
theorem z7q(t:List UInt8)(r:Rd)(s:Sg)(ho:r.over=true)(hr:r.rest.length≤1000000)(ha:r.at_≤1000000) :
  evX (orc T) T 2 l615_0 (stG t r s)=some (Zf3 r s 0 0):=by
 have c1:=zf5 (T:=T) r hr ha;have e1:Zc r=[]:=by unfold Zc;rw[ho];rfl
 have e2:Zo r=r:=by unfold Zo;rw[ho];rfl
 rw[e1,e2,ho]at c1;unfold bxR at c1;unfold stG Zf3 hpG bxR;obtain⟨rest,a,o⟩:=r;obtain⟨nm,C,A⟩:=s;dsimp only at *
 simp -implicitDefEqProofs[l615_0,c1]
theorem z7r(t:List UInt8)(r:Rd)(s:Sg)(ho:r.over=false)(hb:(Zc r).contains 124=false)(hr:r.rest.length≤1000000)(ha:r.at_≤t.length)(ht:t.length≤1000000) :
  evX (orc T) T 2 l615_0 (stG t r s)=some (Zf3 ⟨t.drop r.at_,r.at_,false⟩ s 0 0):=by
 have c1:=zf5 (T:=T) r hr (by omega);have c2:=zod (T:=T) (Zc r) 124;have c3:=z2p (T:=T) (Zo r) t r.at_ ha ht;rw[ho]at c1;rw[hb]at c2;unfold bxR at c1 c3;unfold stG Zf3 hpG bxR;generalize Zo r=r' at *
 generalize Zc r=L at *
 obtain⟨rest,a,o⟩:=r;obtain⟨rest',a',o'⟩:=r';obtain⟨nm,C,A⟩:=s;dsimp only at *
 simp -implicitDefEqProofs[l615_0,c1,c2,c3]
theorem zagf(hcut:∀l:List UInt8,l.length≤1000000→Zb T 184 [.s l,.s [124]]=some (.tup [.s (hdC 124 l),.s (tlC 124 l),.b (l.contains 124)]))
  (t:List UInt8) (r:Rd) (s:Sg) (ho:r.over=false) (hb:(Zc r).contains 124=true) (hr:r.rest.length≤100000) (ha:r.at_≤100000) (hf:(Zbr (Zc r) r.at_).2.2≠(0,0)) :
  evX (orc T) T 2 l615_0 (stG t r s)=some (Zf3 (Zo r) s (Zbr (Zc r) r.at_).2.2.1 (Zbr (Zc r) r.at_).2.2.2):=by
 have c1:=zf5 (T:=T) r (by omega) (by omega);have c2:=zod (T:=T) (Zc r) 124;have hlen:(Zc r).length≤r.rest.length:=by
  unfold Zc;split
  ·simp
  ·exact(Ya7 _).length_le
 have c3:=zmt (T:=T) hcut (Zc r) r.at_ (by omega) (by omega);rw[ho]at c1;rw[hb]at c2;unfold bxR at c1;unfold stG Zf3 hpG bxR;generalize Zo r=r' at *
 generalize Zc r=L at *
 generalize Zbr L (r.at_:Int)=S at *
 obtain⟨q,M,k,b⟩:=S;generalize fz q=z at *
 generalize fzs M=N at *
 obtain⟨rest,a,o⟩:=r;obtain⟨rest',a',o'⟩:=r';obtain⟨nm,C,A⟩:=s;obtain⟨z1,z2,z3⟩:=z;dsimp only at *
 by_cases hk:k=0
 ·have hb0:¬ b=0:=fun h=>hf (by rw[hk,h]);simp -implicitDefEqProofs[l615_0,c1,c2,c3,hk,hb0]
 ·simp -implicitDefEqProofs[l615_0,c1,c2,c3,hk]
theorem z2q(hcut:∀l:List UInt8,l.length≤1000000→Zb T 184 [.s l,.s [124]]=some (.tup [.s (hdC 124 l),.s (tlC 124 l),.b (l.contains 124)]))
  (t:List UInt8) (r:Rd) (s:Sg) (ho:r.over=false) (hb:(Zc r).contains 124=true) (hr:r.rest.length≤100000) (ha:r.at_≤100000) (hc:s.c.length≤1000000) (hA:s.a.length≤1000000) (hf:(Zbr (Zc r) r.at_).2.2=(0,0)) :
  evX (orc T) T 2 l615_0 (stG t r s)=some (.n,stG t (Zo r) ⟨s.nm,s.c++[fz (Zbr (Zc r) r.at_).1],s.a++[fzs (Zbr (Zc r) r.at_).2.1]⟩):=by
 have c1:=zf5 (T:=T) r (by omega) (by omega);have c2:=zod (T:=T) (Zc r) 124;have hlen:(Zc r).length≤r.rest.length:=by
  unfold Zc;split
  ·simp
  ·exact(Ya7 _).length_le
 have c3:=zmt (T:=T) hcut (Zc r) r.at_ (by omega) (by omega);rw[ho]at c1;rw[hb]at c2;unfold bxR at c1;unfold stG hpG bxR;generalize Zo r=r' at *
 generalize Zc r=L at *
 generalize Zbr L (r.at_:Int)=S at *
 obtain⟨q,M,k,b⟩:=S;generalize fz q=z at *
 generalize fzs M=N at *
 obtain⟨rest,a,o⟩:=r;obtain⟨rest',a',o'⟩:=r';obtain⟨nm,C,A⟩:=s;dsimp only at *
 obtain⟨rfl,rfl⟩:=Prod.mk.inj hf;have p1:=zih C z;have p2:Z2 A++[[.sl (Zf N) .an]]=Z2 (A++[N]):=by simp[Z2]
 have t1:List.take C.length C=C:=Ybf;have t2:List.take A.length A=A:=Ybf;have h1:C.length+1≤4294967296:=by omega
 have h2:A.length+1≤4294967296:=by omega
 obtain⟨z1,z2,z3⟩:=z;rw[Yu,Yu];simp -implicitDefEqProofs[l615_0,c1,c2,c3,p1,p2,t1,t2,h1,h2]
end
end Go.Ab
end
section
namespace Go.Ab
def Zac(t:List UInt8):Nat→Rd→Sg→Rd×Sg×Int×Int
 | 0,r,s=>(r,s,0,0)
 | n+1,r,s=>
  if r.over=true then (r,s,0,0)
  else if (Zc r).contains 124=false then (⟨t.drop r.at_,r.at_,false⟩,s,0,0)
  else if (Zbr (Zc r) r.at_).2.2≠(0,0) then (Zo r,s,(Zbr (Zc r) r.at_).2.2)
  else Zac t n (Zo r) ⟨s.nm,s.c++[fz (Zbr (Zc r) r.at_).1],s.a++[fzs (Zbr (Zc r) r.at_).2.1]⟩
def muR(r:Rd):Nat:=if r.over then 0 else r.rest.length+1
theorem zkq:∀(l:List UInt8) (c:UInt8) (_:l.contains c=true),(hdC c l).length+1+(tlC c l).length=l.length
 | [],c,h=>by simp at h
 | b::l,c,h=>by
  by_cases hb:b=c
  ·subst hb;simp[hdC,tlC];omega
  ·have h2:l.contains c=true:=by
    rw[Ybd]at h ⊢;rcases Yw.1 h with h | h
    ·exact absurd h.symm hb
    ·exact h
   have ih:=zkq l c h2;unfold hdC tlC at *
   simp only[Ycp,List.dropWhile_cons,bne_iff_ne,ne_eq,hb,not_false_eq_true,if_true,Yd];omega
theorem zmu(c:UInt8)(l:List UInt8):(hdC c l).length≤l.length:=(Ya7 _).length_le
structure RdOk (t:List UInt8) (r:Rd):Prop where
 a:r.at_≤t.length
 l:r.rest.length≤t.length
 s:r.over=false→r.at_+r.rest.length=t.length
theorem z7s(c:UInt8)(l:List UInt8):(tlC c l).length≤l.length:=by
 unfold tlC;rw[Yv];have:=(Yei (fun x:UInt8=>x != c) (l:=l)).length_le;omega
theorem zf7{t:List UInt8}{r:Rd}(h:RdOk t r)(ho:r.over=false):RdOk t (Zo r)∧muR (Zo r)<muR r:=by
 have e:Zo r=⟨tlC 10 r.rest,r.at_+(hdC 10 r.rest).length+(if r.rest.contains 10 then 1 else 0),!r.rest.contains 10⟩:=by unfold Zo;rw[ho];rfl
 have h1:=h.s ho;have h2:=zmu 10 r.rest;have h3:=z7s 10 r.rest;have h4:=h.l;rw[e];unfold muR;rw[ho];cases hc:r.rest.contains 10 with
 | true=>
  have h5:=zkq r.rest 10 hc;refine⟨⟨?_,?_,fun _=>?_⟩,?_⟩
  ·simp;omega
  ·simp;omega
  ·simp;omega
  ·simp;omega
 | false=>
  refine⟨⟨?_,?_,fun h=>?_⟩,?_⟩
  ·simp;omega
  ·simp;omega
  ·cases h
  ·simp
section
variable{T:Tbl}[Zab T][Zu T][Zz T][Z1 T][Zw T][Zs T][Zr T][Za0 T][Zg T][Zj T][Z0 T][Zay T][Zcv T][Zao T][Zby T][Zcu T][Zaz T][Zcj T][Zco T][Zcb T][Za3 T]
theorem zvm(r:Rd)(s:Sg)(k a:Int):Zdk (some (Zf3 r s k a))=true∧Zdj 2 0 (.norm true [6]) (some (Zf3 r s k a))=some (Zf3 r s k a):=by
 unfold Zf3 hpG bxR;constructor<;>simp -implicitDefEqProofs
theorem z7t(hcut:∀l:List UInt8,l.length≤1000000→Zb T 184 [.s l,.s [124]]=some (.tup [.s (hdC 124 l),.s (tlC 124 l),.b (l.contains 124)]))
  (t:List UInt8) (ht:t.length≤100000) (n:Nat) (r:Rd) (s:Sg) (hr:RdOk t r) (hn:muR r<n) (hc:s.c.length+n≤1000000) (ha:s.a.length+n≤1000000) :
  Zn T 2 0 (.norm true [6]) l615_0 (stG t r s)=some (Zf3 (Zac t n r s).1 (Zac t n r s).2.1 (Zac t n r s).2.2.1 (Zac t n r s).2.2.2):=by
 refine zan (T:=T) (k:=2) (id:=0) (g2:=.norm true [6]) (c:=l615_0) (fun x:Nat×Rd×Sg=>stG t x.2.1 x.2.2)
  (fun x=>RdOk t x.2.1∧muR x.2.1<x.1∧x.2.2.c.length+x.1≤1000000∧x.2.2.a.length+x.1≤1000000) (fun x=>x.1)
  (fun x=>some (Zf3 (Zac t x.1 x.2.1 x.2.2).1 (Zac t x.1 x.2.1 x.2.2).2.1 (Zac t x.1 x.2.1 x.2.2).2.2.1 (Zac t x.1 x.2.1 x.2.2).2.2.2)) ?_ (n,r,s) ⟨hr,hn,hc,ha⟩
 rintro⟨n,r,s⟩ ⟨hr,hn,hc,ha⟩
 dsimp only at *
 obtain⟨m,rfl⟩:∃m,n=m+1:=⟨n-1,by omega⟩;have b1:=hr.a;have b2:=hr.l;cases ho:r.over with
 | true=>
  right;have e:Zac t (m+1) r s=(r,s,0,0):=by rw[Zac,if_pos ho]
  rw[e,z7q (T:=T) t r s ho (by omega) (by omega)];exact zvm r s 0 0
 | false=>
 cases hb:(Zc r).contains 124 with
 | false=>
  right;have e:Zac t (m+1) r s=(⟨t.drop r.at_,r.at_,false⟩,s,0,0):=by rw[Zac,if_neg (by rw[ho];decide),if_pos hb]
  rw[e,z7r (T:=T) t r s ho hb (by omega) b1 (by omega)];exact zvm _ s 0 0
 | true=>
 by_cases hf:(Zbr (Zc r) r.at_).2.2=(0,0)
 ·left;have e:Zac t (m+1) r s=Zac t m (Zo r) ⟨s.nm,s.c++[fz (Zbr (Zc r) r.at_).1],s.a++[fzs (Zbr (Zc r) r.at_).2.1]⟩:=by
   rw[Zac,if_neg (by rw[ho];decide),if_neg (by rw[hb];decide),if_neg (by simpa using hf)]
  obtain⟨k1,k2⟩:=zf7 hr ho;have e2:=z2q (T:=T) hcut t r s ho hb (by omega) (by omega) (by omega) (by omega) hf;refine⟨(m,Zo r,⟨s.nm,s.c++[fz (Zbr (Zc r) r.at_).1],s.a++[fzs (Zbr (Zc r) r.at_).2.1]⟩),⟨k1,show muR (Zo r)<m by omega,?_,?_⟩,by show m<m+1;omega,e2,by rw[e]⟩
  ·simp only[Yu,Yd,Y1];omega
  ·simp only[Yu,Yd,Y1];omega
 ·right;have e:Zac t (m+1) r s=(Zo r,s,(Zbr (Zc r) r.at_).2.2):=by
   rw[Zac,if_neg (by rw[ho];decide),if_neg (by rw[hb];decide),if_pos hf]
  rw[e,zagf (T:=T) hcut t r s ho hb (by omega) (by omega) hf];exact zvm _ s _ _
def Zj7(nm:List UInt8):Box:=⟨1,.str,5,[[.s nm,.sl [] .nl,.sl [] .nl,.sl [] .nl,.sl [] .nl]]⟩
theorem zrt(hcut:∀l:List UInt8,l.length≤1000000→Zb T 184 [.s l,.s [124]]=some (.tup [.s (hdC 124 l),.s (tlC 124 l),.b (l.contains 124)]))
  (t nm:List UInt8) (ht:t.length≤100000) (n:Nat) (r:Rd) (hr:RdOk t r) (hn:muR r<n) (hc:n≤1000000) :
  Zbx T 615 [.ptr (.bor 0) 0 3 0 0,.s t,.ptr (.bor 1) 1 5 0 0] [(.bor 0,bxR 0 r),(.bor 1,Zj7 nm)] =
   some (flt (Zac t n r ⟨nm,[],[]⟩).2.2.1 (Zac t n r ⟨nm,[],[]⟩).2.2.2,hpG (Zac t n r ⟨nm,[],[]⟩).1 (Zac t n r ⟨nm,[],[]⟩).2.1):=by
 have hl:=z7t (T:=T) hcut t ht n r ⟨nm,[],[]⟩ hr hn (by simpa using hc) (by simpa using hc);generalize Zac t n r ⟨nm,[],[]⟩=S at *
 obtain⟨r',s',k,a⟩:=S;unfold stG Zf3 hpG bxR at hl;unfold hpG bxR Zj7;obtain⟨rest,at_,o⟩:=r;obtain⟨rest',at',o'⟩:=r';obtain⟨nm',C,A⟩:=s';dsimp only at *
 simp only[Y1,zaz,zgw,Ybj,Yaz]at hl;rw[za4 Za3.h615 rfl,b615];simp -implicitDefEqProofs[hl]
end
end Go.Ab
end
section
namespace Go.Ab
theorem zef{t:List UInt8}{r:Rd}(h:RdOk t r):RdOk t (Zo r):=by
 cases ho:r.over with
 | true=>
  have e:Zo r=r:=by unfold Zo;rw[ho];rfl
  rw[e];exact h
 | false=>exact(zf7 h ho).1
theorem zoe{t:List UInt8}:∀(n:Nat) (r:Rd) (s:Sg),RdOk t r→RdOk t (Zac t n r s).1
 | 0,_,_,h=>h
 | n+1,r,s,h=>by
  unfold Zac;by_cases h1:r.over=true
  ·rw[if_pos h1];exact h
  rw[if_neg h1];by_cases h2:(Zc r).contains 124=false
  ·rw[if_pos h2];exact⟨h.a,by simp,fun _=>by have:=h.a;simp;omega⟩
  rw[if_neg h2];by_cases h3:(Zbr (Zc r) r.at_).2.2≠(0,0)
  ·rw[if_pos h3];exact zef h
  ·rw[if_neg h3];exact zoe n _ _ (zef h)
def smG(s:Sg)(b e:List Fz):Sm:=⟨s.nm,s.c,s.a,b,e⟩
def Zak(t:List UInt8):Rd×Sg×Int×Int:=Zac t (t.length+2) (Zo ⟨t,0,false⟩) ⟨Zc ⟨t,0,false⟩,[],[]⟩
def Zag(t:List UInt8):Sm×Int×Int:=
 if Zam 2 (Zc ⟨t,0,false⟩)=false then (⟨Zc ⟨t,0,false⟩,[],[],[],[]⟩,1,0)
 else if (Zak t).2.2≠(0,0) then (smG (Zak t).2.1 [] [],(Zak t).2.2)
 else if (Zcd 98 (Zak t).1).2≠(0,0)∨(Zo (Zak t).1).over=true then (smG (Zak t).2.1 (fzs (Zcd 98 (Zak t).1).1) [],(Zcd 98 (Zak t).1).2)
 else if (Zcd 101 (Zo (Zak t).1)).2≠(0,0)∨(Zo (Zo (Zak t).1)).over=true then
  (smG (Zak t).2.1 (fzs (Zcd 98 (Zak t).1).1) (fzs (Zcd 101 (Zo (Zak t).1)).1),(Zcd 101 (Zo (Zak t).1)).2)
 else (smG (Zak t).2.1 (fzs (Zcd 98 (Zak t).1).1) (fzs (Zcd 101 (Zo (Zak t).1)).1),1,(Zo (Zo (Zak t).1)).at_)
section
variable{T:Tbl}[Zab T][Zu T][Zz T][Z1 T][Zw T][Zs T][Zr T][Za0 T][Zg T][Zj T][Z0 T][Zay T][Zcv T][Zao T][Zby T][Zcu T][Zaz T][Zcj T][Zco T][Zcb T][Za3 T]
theorem zyy(hcut:∀l:List UInt8,l.length≤1000000→Zb T 184 [.s l,.s [124]]=some (.tup [.s (hdC 124 l),.s (tlC 124 l),.b (l.contains 124)]))
  (t:List UInt8) (ht:t.length≤50000):Zb T 612 [.s t]=some (.tup [esm (Zag t).1,flt (Zag t).2.1 (Zag t).2.2]):=by
 have h0:RdOk t ⟨t,0,false⟩:=⟨Yl _,Yf _,fun _=>Yah _⟩;have c1:=zf5 (T:=T) ⟨t,0,false⟩ (by show t.length≤_;omega) (Yl _);obtain⟨k1,k2⟩:=zf7 h0 rfl;have hmu:muR (⟨t,0,false⟩:Rd)=t.length+1:=rfl;have hln:(Zc ⟨t,0,false⟩).length≤t.length:=zmu 10 t;have c2:=zma (T:=T) 2 0 (Zc ⟨t,0,false⟩) (by omega);have c3:=zrt (T:=T) hcut t (Zc ⟨t,0,false⟩) (by omega) (t.length+2) (Zo ⟨t,0,false⟩) k1 (by omega) (by omega);have hS:Zak t=Zac t (t.length+2) (Zo ⟨t,0,false⟩) ⟨Zc ⟨t,0,false⟩,[],[]⟩:=rfl;rw[←hS]at c3;have o2:RdOk t (Zak t).1:=by rw[hS];exact zoe _ _ _ k1
 have o3:=zef o2;have c4:=zh8 (T:=T) (Zak t).1 98 (by have:=o2.l;omega) (by have:=o2.a;omega);have c5:=zh8 (T:=T) (Zo (Zak t).1) 101 (by have:=o3.l;omega) (by have:=o3.a;omega);unfold Zag;rw[zac Za3.h612 rfl,b612];clear hS o2 o3 h0 k1 k2 hmu hln hcut ht;generalize Zcd 98 (Zak t).1=B at *
 generalize Zcd 101 (Zo (Zak t).1)=E at *
 generalize Zo (Zo (Zak t).1)=r4 at *
 generalize Zo (Zak t).1=r3 at *
 generalize Zak t=S at *
 obtain⟨r2,s2,kS,aS⟩:=S;generalize Zo ⟨t,0,false⟩=r1 at *
 generalize Zc ⟨t,0,false⟩=nm at *
 obtain⟨B,kB,aB⟩:=B;obtain⟨E,kE,aE⟩:=E;generalize fzs B=FB at *
 generalize fzs E=FE at *
 unfold hpG Zj7 bxR at c3;unfold bxR at c1 c4 c5;simp only[Yt,Yeq]at c1;obtain⟨l1,a1,o1⟩:=r1;obtain⟨l2,a2,o2⟩:=r2;obtain⟨l3,a3,o3⟩:=r3;obtain⟨l4,a4,o4⟩:=r4;obtain⟨nm2,C,A⟩:=s2;unfold smG;dsimp only at *
 cases hR:Zam 2 nm with
 | false=>
  rw[hR]at c2;simp -implicitDefEqProofs[c1,c2]
 | true=>
 rw[hR]at c2;simp only[Bool.true_eq_false,if_false,ne_eq,Prod.mk.injEq];by_cases hk:kS=0∧aS=0
 rotate_left
 ·rw[if_pos hk];by_cases h1:kS=0
  ·have h2:¬ aS=0:=fun h=>hk ⟨h1,h⟩;simp -implicitDefEqProofs[c1,c2,c3,h1,h2]
  ·simp -implicitDefEqProofs[c1,c2,c3,h1]
 obtain⟨rfl,rfl⟩:=hk;rw[if_neg (by simp)];by_cases hb:(¬ (kB=0∧aB=0))∨o3=true
 ·rw[if_pos hb];by_cases h1:kB=0
  ·by_cases h2:aB=0
   ·subst h1 h2;have h3:o3=true:=by rcases hb with h | h;exact absurd ⟨rfl,rfl⟩ h;exact h
    subst h3;simp -implicitDefEqProofs[c1,c2,c3,c4]
   ·simp -implicitDefEqProofs[c1,c2,c3,c4,h1,h2]
  ·simp -implicitDefEqProofs[c1,c2,c3,c4,h1]
 ·rw[if_neg hb];have h1:kB=0∧aB=0:=Classical.not_not.1 fun h=>hb (.inl h);have h2:o3=false:=by cases o3;rfl;exact absurd (.inr rfl) hb
  obtain⟨rfl,rfl⟩:=h1;subst h2;clear hb;by_cases he:(¬ (kE=0∧aE=0))∨o4=true
  ·rw[if_pos he];by_cases h1:kE=0
   ·by_cases h2:aE=0
    ·subst h1 h2;have h3:o4=true:=by rcases he with h | h;exact absurd ⟨rfl,rfl⟩ h;exact h
     subst h3;simp -implicitDefEqProofs[c1,c2,c3,c4,c5]
    ·simp -implicitDefEqProofs[c1,c2,c3,c4,c5,h1,h2]
   ·simp -implicitDefEqProofs[c1,c2,c3,c4,c5,h1]
  ·rw[if_neg he];have h1:kE=0∧aE=0:=Classical.not_not.1 fun h=>he (.inl h);have h2:o4=false:=by cases o4;rfl;exact absurd (.inr rfl) he
   obtain⟨rfl,rfl⟩:=h1;subst h2;simp -implicitDefEqProofs[c1,c2,c3,c4,c5]
end
end Go.Ab
end
section
namespace Go.Ab
def Zbb(t:List UInt8):Sm×Int×Int:=
 if 4000<t.length then (⟨[],[],[],[],[]⟩,1,4000)
 else if (Zag t).2≠(0,0) then (⟨[],[],[],[],[]⟩,(Zag t).2)
 else if Zcl (Zag t).1≠0 then (⟨[],[],[],[],[]⟩,2,Zcl (Zag t).1)
 else ((Zag t).1,0,0)
section
variable{T:Tbl}[Zab T][Zu T][Zz T][Z1 T][Zw T][Zs T][Zr T][Za0 T][Zg T][Zj T][Z0 T][Zay T][Za9 T][Zbi T][Zcv T][Zao T][Zby T][Zcu T][Zcz T][Zca T][Zdb T][Ze4 T][Ze3 T][Zaz T][Zcj T][Zco T][Zcb T][Zat T][Za3 T]
theorem zmv(hcut:∀l:List UInt8,l.length≤1000000→Zb T 184 [.s l,.s [124]]=some (.tup [.s (hdC 124 l),.s (tlC 124 l),.b (l.contains 124)]))
  (t:List UInt8) (ht:t.length≤1000000) (hs:t.length≤4000→(Zag t).2=(0,0)→SmS (Zag t).1):Zb T 608 [.s t]=some (.tup [esm (Zbb t).1,flt (Zbb t).2.1 (Zbb t).2.2]):=by
 unfold Zbb;rw[zac Za3.h608 rfl,b608];by_cases h1:4000<t.length
 ·have h1':(4000:Int)<t.length:=by omega
  rw[if_pos h1];clear hs;simp -implicitDefEqProofs[h1,h1']
 have h1':¬ (4000:Int)<t.length:=by omega
 rw[if_neg h1];have c1:=zyy (T:=T) hcut t (by omega);have c2:(Zag t).2=(0,0)→Zb T 551 [esm (Zag t).1]=some (.i .i64 (Zcl (Zag t).1)):=fun h=>zmx (T:=T) (Zag t).1 (hs (by omega) h);clear hs hcut ht;generalize Zcl (Zag t).1=W at *
 generalize Zag t=R at *
 obtain⟨⟨nm,C,A,B,E⟩,k,a⟩:=R;dsimp only at *
 simp only[ne_eq,Prod.mk.injEq];by_cases hk:k=0
 ·by_cases ha:a=0
  ·subst hk ha;have c2:=c2 rfl;rw[if_neg (by simp)];by_cases hw:W=0
   ·subst hw;rw[if_neg (by simp)];simp -implicitDefEqProofs[h1,h1',c1,c2]
   ·rw[if_pos hw];simp -implicitDefEqProofs[h1,h1',c1,c2,hw]
  ·rw[if_pos (fun h=>ha h.2)];simp -implicitDefEqProofs[h1,h1',c1,hk,ha]
 ·rw[if_pos (fun h=>hk h.1)];simp -implicitDefEqProofs[h1,h1',c1,hk]
end
end Go.Ab
end
section
namespace Go.Ab
def Zme(a b:List (List Fz)):Bool:=(a.zip b).all fun p=>decide (p.1.map fv=p.2.map fv)
def Zoy(a b:Sm):Bool:=decide (a.nm=b.nm)&&decide (a.a.length=b.a.length)&&decide (a.b.map fv=b.b.map fv)&&decide (a.c.map fv=b.c.map fv)&&decide (a.e.map fv=b.e.map fv)&&Zme a.a b.a
def eqM(a b:List (List Fz)):Bool:=(a.zip b).all fun p=>decide (p.1=p.2)
def eqS(a b:Sm):Bool:=decide (a.nm=b.nm)&&decide (a.a.length=b.a.length)&&decide (a.b=b.b)&&decide (a.c=b.c)&&decide (a.e=b.e)&&eqM a.a b.a
def Zqi(s:Sm):Sm:=⟨s.nm,nrm s.c,s.a.map nrm,nrm s.b,nrm s.e⟩
section
variable{T:Tbl}[Zab T][Zu T][Zz T][Z1 T][Zw T][Zs T][Za0 T][Zg T][Zj T][Z0 T][Zaz T][Zcj T][Za3 T]
def Zoz(a b:Sm)(i:Nat):St:=⟨[(3,.ptr (.loc 3) 1 5 0 0),(46,.sl (Z2 a.a) .an),(47,.i .i64 a.a.length),(48,.i .i64 i)],[(.loc 3,bxS b)],3⟩
end
section
variable{T:Tbl}[Z5 T][Zah T][Z3 T][Zaa T][Z4 T][Zai T][Z8 T][Zas T][Zf0 T][Zfa T][Zfh T]
def Zhb(g:Nat)(s:Sm):Box:=⟨g,.str,5,[[.s s.nm,.sl (Zf s.c) .an,.sl (Z2 s.a) .an,.sl (Zf s.b) .an,.sl (Zf s.e) .an]]⟩
def Zjf(a b:Sm)(i:Nat):St:=⟨[(2,.ptr (.loc 2) 1 5 0 0),(3,.ptr (.loc 3) 2 5 0 0),(5,.i .i64 i)],[(.loc 2,Zhb 1 a),(.loc 3,Zhb 2 b)],4⟩
theorem zvk(a b:Sm)(ha:SmS a)(hl:a.a.length=b.a.length) :
  Zn T 0 0 (.norm false []) l599_0 (Zjf a b 0)=if eqM (a.a.drop 0) (b.a.drop 0)=true then some (.n,⟨[],[],2⟩) else some (.r,⟨[(4,.b false)],[],2⟩):=by
 have hal:=ha.al;refine zbb (Zjf a b) a.a.length (fun i=>if eqM (a.a.drop i) (b.a.drop i)=true then some (.n,⟨[],[],2⟩) else some (.r,⟨[(4,.b false)],[],2⟩)) (fun i hi=>?_) ?_
 ·have hi':(i:Int)<a.a.length:=by omega
  have hj:i<b.a.length:=by omega
  have hj':(i:Int)<b.a.length:=by omega
  have hga:a.a[i]? = some (a.a[i]'hi):=Ya hi;have hgb:b.a[i]? = some (b.a[i]'hj):=Ya hj;have hws:=zbr hi (by omega);have q1:=ha.a _ (Yaf hi);have c:=zeb (T:=T) (a.a[i]'hi) (b.a[i]'hj) q1.1 (fun x hx=>Ye (q1.2 x hx) (by decide));have key:eqM (a.a.drop i) (b.a.drop i)=(decide (a.a[i]'hi=b.a[i]'hj)&&eqM (a.a.drop (i+1)) (b.a.drop (i+1))):=by
   unfold eqM;rw[Yk hi,Yk hj,List.zip_cons_cons,Ybz]
  clear q1 ha;by_cases h:a.a[i]'hi=b.a[i]'hj
  ·left;rw[decide_eq_true h]at c key;refine⟨?_,by simp only[key,Yev]⟩;unfold Zjf Zhb;clear h key;simp -implicitDefEqProofs[l599_0,hi,hi',hga,hj,hj',hgb,hws,c]
  ·right;rw[decide_eq_false h]at c key;rw[if_neg (by simp[key])];unfold Zjf Zhb;clear h key;constructor<;>simp -implicitDefEqProofs[l599_0,hi,hi',hga,hj,hj',hgb,hws,c]
 ·have e:eqM [] (b.a.drop a.a.length)=true:=rfl;simp only[Yac,e,if_true];unfold Zjf Zhb;constructor<;>simp -implicitDefEqProofs[l599_0]
theorem zjm(a b:Sm)(ha:SmS a):Zb T 599 [esm a,esm b]=some (.b (eqS a b)):=by
 have le:∀{l:List Fz},(∀x∈l,fsz x≤300)→∀x∈l,fsz x≤10000:=fun h x hx=>Ye (h x hx) (by decide);have c1:=zeb (T:=T) a.b b.b ha.bl (le ha.b);have c2:=zeb (T:=T) a.c b.c ha.cl (le ha.c);have c3:=zeb (T:=T) a.e b.e ha.el (le ha.e);have hlp:=fun hl=>zvk (T:=T) a b ha hl;unfold eqS;unfold Zjf Zhb at hlp;simp only[Yaa,Yt]at hlp;rw[zac Zfa.h599 rfl,b599];clear ha le;generalize decide (a.b=b.b)=B1 at *
 generalize decide (a.c=b.c)=B2 at *
 generalize decide (a.e=b.e)=B3 at *
 generalize eqM a.a b.a=B4 at *
 obtain⟨nm,c,A,B,E⟩:=a;obtain⟨nm',c',A',B',E'⟩:=b;dsimp only at *
 by_cases hn:nm=nm'
 ·by_cases hl:A.length=A'.length
  ·have hl':(A.length:Int)=A'.length:=by omega
   have h:=hlp hl;clear hlp;subst hn;cases B1 with
   | false=>simp -implicitDefEqProofs[hl,hl',c1]
   | true=>
   cases B2 with
   | false=>simp -implicitDefEqProofs[hl,hl',c1,c2]
   | true=>
   cases B3 with
   | false=>simp -implicitDefEqProofs[hl,hl',c1,c2,c3]
   | true=>
   cases B4 with
   | false=>
    simp only[Yz,if_false]at h;simp -implicitDefEqProofs[hl,hl',c1,c2,c3,h]
   | true=>
    simp only[if_true]at h;simp -implicitDefEqProofs[hl,hl',c1,c2,c3,h]
  ·have hl':¬ (A.length:Int)=A'.length:=by omega
   simp -implicitDefEqProofs[hn,hl,hl']
 ·simp -implicitDefEqProofs[hn]
end
end Go.Ab
end
section
namespace Go.Ab
def Zmf(a b:List Fz):List Fz:=fzs (Zms (a.map fv) (Zlq ((-1:Int):Rat) (b.map fv)))
def Zqj(s:Sm):List Fz:=if okS s=true∧s.e≠[] then Zmf s.b s.e else []
def Zo0(s:Sm):Bool:=match s.b.getLast?,s.c.getLast?,s.a.getLast? with
 | some b,some c,some a=>decide (fv b=0)&&(decide (fv c=1)&&decide (a.map fv=(s.b.take (s.b.length-1)).map fv))
 | _,_,_=>false
structure OkSm (s:Sm):Prop where
 b1:1≤s.b.length
 b8:s.b.length≤8
 cl:s.c.length=s.b.length
 al:s.a.length=s.b.length
 el:s.e.length=s.b.length∨s.e.length=0
 sh:Zbe s.a 0=true
 na:Zck s.a=true
 nb:s.b.all Zbf=true
 nc:s.c.all Zbf=true
 ne:s.e.all Zbf=true
theorem zz0(b c e:List Fz):Zck [b,c,e]=(b.all Zbf&&c.all Zbf&&e.all Zbf):=by
 unfold Zck;simp only[Ybz,Yd5,Yeb,Bool.and_assoc]
theorem zpr{s:Sm}(h:okS s=true):OkSm s∧Zcl s=0:=by
 unfold okS at h;have hw:=of_decide_eq_true h;refine⟨?_,hw⟩;unfold Zcl at hw;cases g1:Zam 2 s.nm with
 | false=>rw[g1]at hw;simp at hw
 | true=>
 cases g2:Zbp s with
 | false=>rw[g1,g2]at hw;simp at hw
 | true=>
 cases g3:Zck s.a with
 | false=>rw[g1,g2,g3]at hw;simp at hw
 | true=>
 cases g4:Zck [s.b,s.c,s.e]with
 | false=>rw[g1,g2,g3,g4]at hw;simp at hw
 | true=>
 obtain⟨s1,s2,s3,s4,s5,s6⟩:=zjn g2;rw[zz0]at g4;simp only[Yo]at g4;exact⟨s1,s2,s3,s4,s5,s6,g3,g4.1.1,g4.1.2,g4.2⟩
theorem zoc{l:List Fz}(h:l.all Zbf=true):∀x∈l,fsz x≤6:=fun x hx=>zey (Yh.1 h x hx)
end Go.Ab
end
section
namespace Go.Ab
abbrev Zo1:List UInt8:=[104,101,117,110,10,48,124,10,49,124,49,10,98,32,49,47,50,44,49,47,50,10,101,32,49,44,48]
abbrev Zqk:List UInt8:=[101,117,108,101,114,10,48,124,10,98,32,50]
def Zo2:Sm:=⟨[104,101,117,110],[fz 0,fz 1],[[],[fz 1]],[fz (mkRat 1 2),fz (mkRat 1 2)],[fz 1,fz 0]⟩
def Zql:Sm:=⟨[101,117,108,101,114],[fz 0],[[]],[fz 2],[]⟩
theorem zrr{q:Rat}(h:sz q≤2):Zbf (fz q)=true:=by
 unfold Zbf Zce;rw[zit,decide_eq_true rfl,Yev,decide_eq_true_eq];have:=z2m (x:=fz q) (k:=2) (by rw[zco];exact h);omega
end Go.Ab
end
section
namespace Go.Ab
theorem zu0{s:List UInt8}{i:Nat}(h:i<s.length)(hc:Ze s=i+Ze (s.drop i)) :
  (Zdr (s[i]'h)=true∧Ze s=i)∨(Zdr (s[i]'h)=false∧Ze s=(i+1)+Ze (s.drop (i+1))):=by
 have hd:s.drop i=s[i]'h::s.drop (i+1):=Yk h;rw[hd]at hc;simp only[Ze]at hc;cases hC:Zdr (s[i]'h) with
 | true=>
  rw[hC]at hc;simp only[if_true]at hc;exact .inl ⟨rfl,by omega⟩
 | false=>
  rw[hC]at hc;simp only[Yz,if_false]at hc;exact .inr ⟨rfl,by omega⟩
theorem zyo{c:UInt8}(h:Zdr c=true):c=47∨c=46:=by simpa[Zdr]using h
theorem zyp{c:UInt8}(h:Zdr c=false):c≠47∧c≠46:=by simpa[Zdr]using h
theorem zu1{c:UInt8}{n:Nat}(hn:n<256)(h:c≠UInt8.ofNat n):¬ c.toNat=n:=fun e=>h (by
 rw[←UInt8.toNat_inj,e];rw[UInt8.toNat_ofNat'];omega)
section
variable{T:Tbl}[Z5 T][Zah T][Z3 T][Zaa T][Z4 T][Zai T][Z8 T][Zbv T]
theorem zrk(n:Nat)(hn:n≤60):Zb T 260 [.i .i64 n]=some (.sl (Za (ofN (10^n))) .an):=by
 have hl:∀i:Nat,i≤n→Zn T 0 0 (.norm false [3]) l260_0 ⟨[(0,.i .i64 n),(3,.sl (Za (ofN (10^i))) .an),(4,.i .i64 i)],[],2⟩=some (.n,⟨[(3,.sl (Za (ofN (10^n))) .an)],[],2⟩):=by
  refine zan (fun i:Nat=>⟨[(0,.i .i64 n),(3,.sl (Za (ofN (10^i))) .an),(4,.i .i64 i)],[],2⟩) _ (fun i=>n-i) _ ?_;intro i hi;by_cases h0:i<n
  ·left;have hw:IntKind.wrap .i64 ((i:Int)+1)=((i+1:Nat):Int):=zab _ (by omega);have hil:(i:Int)<n:=by omega
   have hol:=zkc (n:=i) (by omega);have hml:=zcl (T:=T) (ofN (10^i)) [w32 10] (by omega) (by simp);have hv10:val [w32 10]=10:=by decide
   rw[zae,hv10,←Y8]at hml;have e10:Za [w32 10]=[[u32 10]]:=rfl;rw[e10]at hml;refine⟨i+1,h0,by show n-(i+1)<n-i;omega,?_,rfl⟩;clear hol hv10;generalize ofN (10^(i+1))=R at *
   generalize ofN (10^i)=S at *
   simp -implicitDefEqProofs[l260_0,h0,hil,hml,hw]
  ·right;have:i=n:=by omega
   subst this;generalize ofN (10^i)=S at *
   constructor<;>simp -implicitDefEqProofs[l260_0]
 have h:=hl 0 (Yl _);have e1:Za (ofN (10^0))=[[u32 1]]:=by rw[Yc9,zd2];rfl
 rw[e1]at h;simp only[Yt]at h;rw[zac Zbv.h260 rfl,b260];generalize ofN (10^n)=R at *
 simp -implicitDefEqProofs[h]
theorem z2k(s:List UInt8)(hs:s.length≤1000000):∀i:Nat,(i≤s.length∧Ze s=i+Ze (s.drop i)) →
  Zn T 0 0 (.norm false [0,2,5]) l261_0 ⟨[(0,.s s),(2,.ptr (.loc 2) 1 3 0 0),(5,.i .i64 i)],[(.loc 2,⟨1,.str,3,[[.b false,.sl [] .an,.sl [] .an]]⟩)],3⟩=some (.n,⟨[(0,.s s),(2,.ptr (.loc 2) 1 3 0 0),(5,.i .i64 (Ze s))],[(.loc 2,⟨1,.str,3,[[.b false,.sl [] .an,.sl [] .an]]⟩)],3⟩):=by
 refine zan (fun i:Nat=>⟨[(0,.s s),(2,.ptr (.loc 2) 1 3 0 0),(5,.i .i64 i)],[(.loc 2,⟨1,.str,3,[[.b false,.sl [] .an,.sl [] .an]]⟩)],3⟩) _ (fun i=>s.length-i) _ ?_
 rintro i ⟨hi,hcut⟩
 by_cases h0:i<s.length
 ·have hil:(i:Int)<s.length:=by omega
  have hw:IntKind.wrap .i64 ((i:Int)+1)=((i+1:Nat):Int):=zab _ (by omega);have hg:s[i]? = some (s[i]'h0):=Ya h0;rcases zu0 h0 hcut with ⟨h1,h2⟩ | ⟨h1,h2⟩
  ·right;rw[h2];clear hcut;generalize s[i]'h0=c at *
   obtain⟨_,hgE⟩:=Yc.1 hg;rcases zyo h1 with rfl | rfl<;>(constructor<;>simp -implicitDefEqProofs[l261_0,h0,hil,hg,hgE])
  ·left;refine⟨i+1,⟨h0,h2⟩,by show s.length-(i+1)<s.length-i;omega,?_,rfl⟩;clear hcut h2;generalize s[i]'h0=c at *
   obtain⟨_,hgE⟩:=Yc.1 hg;obtain⟨n1,n2⟩:=zyp h1;have n3:=zu1 (n:=47) (by decide) n1;have n4:=zu1 (n:=46) (by decide) n2;simp -implicitDefEqProofs[l261_0,h0,hil,hg,hgE,hw,n1,n2,n3,n4]
 ·right;have:i=s.length:=by omega
  subst this;rw[Yac]at hcut;have:Ze s=s.length:=by simpa[Ze]using hcut
  rw[this];constructor<;>simp -implicitDefEqProofs[l261_0]
theorem zjh(s:List UInt8)(hs:s.length≤100000) :
  Zb T 261 [.s s]=some (.tup [efz (fz (Z6 s).1),.i .i64 (Z6 s).2.1,.i .i64 (Z6 s).2.2]):=by
 have hl:=z2k (T:=T) s (by omega) 0 ⟨Yl _,by simp⟩;simp only[Yt]at hl;have hr:=zrh (T:=T) (s.take (Ze s)) (by rw[Y6];omega);have hle:=zhp s;have c0:=zf2 (T:=T);have q1:(0:Int)≤(Ze s:Int):=by omega
 have q2:(Ze s:Int)≤s.length:=by omega
 rw[zac Zbv.h261 rfl,b261];by_cases h0:0≤Zbc (s.take (Ze s))
 ·have eR:Z6 s=(0,1,Zbc (s.take (Ze s))+Zcc (s.take (Ze s))):=by simp only[Z6,if_pos h0]
  rw[eR];rw[if_pos h0]at hr;have hnn:=zl7 (s.take (Ze s));have q3:0≤Zbc (s.take (Ze s))+Zcc (s.take (Ze s)):=by omega
  clear eR hnn h0;simp only;generalize fz 0=Z at *
  generalize Zbc (s.take (Ze s))+Zcc (s.take (Ze s))=W at *
  simp -implicitDefEqProofs[hl,hr,c0,q1,q2,q3,hle]
 ·rw[if_neg h0]at hr;have hrl:=zgv h0;by_cases hc:Ze s<s.length
  ·obtain⟨c,hg,hcc⟩:=zkb s hc;obtain⟨_,hgE⟩:=Yc.1 hg;have hd:s.getD (Ze s) 0=c:=by rw[Yd2,hg];rfl
   have eR:Z6 s=Zdn (Zy (s.take (Ze s))) (decide (s.head? = some 45)) s c (Ze s+1):=by simp only[Z6,if_neg h0,if_pos hc,hd]
   rw[eR];have q4:(Ze s:Int)<s.length:=by omega
   have q5:¬ (Ze s:Int)=s.length:=by omega
   have q6:¬ Ze s=s.length:=by omega
   have w1:IntKind.wrap .i64 ((Ze s:Int)+1)=((Ze s+1:Nat):Int):=zab _ (by omega);have ec:((Ze s+1:Nat):Int)=(Ze s:Int)+1:=by omega
   have q7:(Ze s:Int)+1≤s.length:=by omega
   have q8:Ze s+1≤s.length:=by omega
   have q9:(0:Int)≤(Ze s:Int)+1:=by omega
   have hwr:=zh1 (T:=T) (s.drop (Ze s+1)) (by rw[Yv];omega);by_cases h1:0≤Zp (s.drop (Ze s+1))
   ·have eB:Zdn (Zy (s.take (Ze s))) (decide (s.head? = some 45)) s c (Ze s+1)=(0,1,Zp (s.drop (Ze s+1))+((Ze s+1:Nat):Int)):=by simp only[Zdn,if_pos h1]
    rw[eB];have hwb:Zp (s.drop (Ze s+1))≤60:=by
     unfold Zp;split
     ·omega
     ·exact ze0 0 _ (by decide)
    have w2:IntKind.wrap .i64 ((Ze s:Int)+1+Zp (s.drop (Ze s+1)))=Zp (s.drop (Ze s+1))+((Ze s:Int)+1):=by
     rw[zab _ (by omega)];omega
    rw[ec]at w1 ⊢;clear eR eB hrl h0 hd;simp only;generalize fz 0=Z at *
    generalize Zy (s.take (Ze s))=RZ at *
    generalize Zp (s.drop (Ze s+1))=W at *
    simp -implicitDefEqProofs[hl,hr,c0,q1,q2,q4,q5,q6,q7,q8,q9,hle,hwr,h1,w1,w2]
   ·obtain⟨hl60,hrdl⟩:=zpg h1;have hdg:∀b∈s.drop (Ze s+1),48≤b.toNat∧b.toNat≤57:=by
     have h2:Zb1 0 (s.drop (Ze s+1))<0:=by
      unfold Zp at h1;split at h1
      ·omega
      ·omega
     exact(zdl 0 _ (Yl _) h2).2
    have hrr:=zjf (T:=T) (s.drop (Ze s+1)) hl60 hdg;rw[ec]at w1;rcases hcc with rfl | rfl
    ·by_cases hz:rd (s.drop (Ze s+1))=0
     ·have eB:Zdn (Zy (s.take (Ze s))) (decide (s.head? = some 45)) s 47 (Ze s+1)=(0,2,((Ze s+1:Nat):Int)):=by simp only[Zdn,if_neg h1,if_true,if_pos hz]
      rw[eB];rw[hz,zgu]at hrr;rw[ec];clear eR eB hrl h0 hd hrdl;simp only;generalize fz 0=Z at *
      generalize Zy (s.take (Ze s))=RZ at *
      generalize Zp (s.drop (Ze s+1))=W at *
      simp -implicitDefEqProofs[hl,hr,c0,q1,q2,q4,q5,q6,q7,q8,q9,hle,hwr,h1,w1,hg,hgE,hrr]
     ·have eB:Zdn (Zy (s.take (Ze s))) (decide (s.head? = some 45)) s 47 (Ze s+1)=(mkRat (Zy (s.take (Ze s))) (rd (s.drop (Ze s+1))),0,0):=by simp only[Zdn,if_neg h1,if_true,if_neg hz]
      rw[eB];have hn:=zby (T:=T) (decide (Zy (s.take (Ze s))<0),ofN (Zy (s.take (Ze s))).natAbs,ofN (rd (s.drop (Ze s+1)))) (by
       refine Yea.2 ⟨?_,?_⟩<;>simp only<;>omega)
      have ev:fv (decide (Zy (s.take (Ze s))<0),ofN (Zy (s.take (Ze s))).natAbs,ofN (rd (s.drop (Ze s+1))))=mkRat (Zy (s.take (Ze s))) (rd (s.drop (Ze s+1))):=by
       show mkRat (wv _ _) (val _)=_;rw[zie,zae]
      rw[ev]at hn;have hz2:¬ (ofN (rd (s.drop (Ze s+1)))).length=0:=by
       intro h;have:=congrArg val (Ya3 h);rw[zae]at this;exact hz this
      clear eR eB hrl h0 hd hrdl ev hz;simp only;generalize fz (mkRat (Zy (s.take (Ze s))) (rd (s.drop (Ze s+1))))=Z at *
      generalize Zy (s.take (Ze s))=RZ at *
      generalize ofN (rd (s.drop (Ze s+1)))=RR at *
      generalize Zp (s.drop (Ze s+1))=W at *
      have hz3:¬ RR=[]:=fun h=>hz2 (by rw[h];rfl);simp -implicitDefEqProofs[hl,hr,q1,q2,q4,q5,q6,q7,q8,q9,hle,hwr,h1,w1,hg,hgE,hrr,hn,hz2,hz3]
    ·have eB:Zdn (Zy (s.take (Ze s))) (decide (s.head? = some 45)) s 46 (Ze s+1)=(mkRat (sg (decide (s.head? = some 45)) ((Zy (s.take (Ze s))).natAbs*10^(s.drop (Ze s+1)).length+rd (s.drop (Ze s+1)))) (10^(s.drop (Ze s+1)).length),0,0):=by
      simp only[Zdn,if_neg h1,show ¬ ((46:UInt8)=47) by decide,if_false]
     rw[eB];have ht:=zrk (T:=T) (s.drop (Ze s+1)).length hl60;have ht60:=zkc hl60;have hm:=zcl (T:=T) (ofN (Zy (s.take (Ze s))).natAbs) (ofN (10^(s.drop (Ze s+1)).length)) (by omega) (by omega);rw[zae,zae]at hm;have hml:(ofN ((Zy (s.take (Ze s))).natAbs*10^(s.drop (Ze s+1)).length)).length≤1060:=by
      have e2:=zbp (x:=(Zy (s.take (Ze s))).natAbs) (y:=10^(s.drop (Ze s+1)).length) (L:=1000) (M:=60) (by omega) ht60;omega
     have ha:=zfm (T:=T) (ofN ((Zy (s.take (Ze s))).natAbs*10^(s.drop (Ze s+1)).length)) (ofN (rd (s.drop (Ze s+1)))) (by omega) (by omega);rw[zae,zae]at ha;have hal:(ofN ((Zy (s.take (Ze s))).natAbs*10^(s.drop (Ze s+1)).length+rd (s.drop (Ze s+1)))).length≤10000:=by
      have e3:=zbo (x:=(((Zy (s.take (Ze s))).natAbs*10^(s.drop (Ze s+1)).length:Nat):Int)) (y:=((rd (s.drop (Ze s+1)):Nat):Int)) (L:=1060) (by rw[Yba];exact hml) (by rw[Yba];omega);rw[←Yad,Yba]at e3;omega
     have hn:=zby (T:=T) (decide (s.head? = some 45),ofN ((Zy (s.take (Ze s))).natAbs*10^(s.drop (Ze s+1)).length+rd (s.drop (Ze s+1))),ofN (10^(s.drop (Ze s+1)).length)) (by
      refine Yea.2 ⟨?_,?_⟩<;>simp only<;>omega)
     have ev:fv (decide (s.head? = some 45),ofN ((Zy (s.take (Ze s))).natAbs*10^(s.drop (Ze s+1)).length+rd (s.drop (Ze s+1))),ofN (10^(s.drop (Ze s+1)).length))=mkRat (sg (decide (s.head? = some 45)) ((Zy (s.take (Ze s))).natAbs*10^(s.drop (Ze s+1)).length+rd (s.drop (Ze s+1)))) (10^(s.drop (Ze s+1)).length):=by
      show mkRat (sg _ (val _)) (val _)=_;rw[zae,zae]
     rw[ev]at hn;obtain⟨x,hx⟩:∃x,s[0]? = some x:=⟨s[0]'(by omega),Ya (by omega)⟩;obtain⟨_,hxE⟩:=Yc.1 hx;have hh:decide (s.head? = some 45)=decide (x.toNat=45):=by
      have:(s.head? = some 45)↔x.toNat=45:=by
       rw[List.head?_eq_getElem?,hx,Option.some.injEq,←UInt8.toNat_inj];exact Iff.rfl
      exact decide_eq_decide.2 this
     have hp1:(0:Int)<s.length:=by omega
     have hp2:0<s.length:=by omega
     have hdl:(s.drop (Ze s+1)).length=s.length-(Ze s+1):=Yv;have hdi:((s.length-(Ze s+1):Nat):Int)=(s.length:Int)-((Ze s:Int)+1):=by omega
     rw[hh]at hn ev ⊢;rw[hdl]at ht;clear eR eB hrl h0 hd hrdl ev hml hal ht60 hh;simp only;generalize fz (mkRat (sg (decide (x.toNat=45)) ((Zy (s.take (Ze s))).natAbs*10^(s.drop (Ze s+1)).length+rd (s.drop (Ze s+1)))) (10^(s.drop (Ze s+1)).length))=Z at *
     generalize ofN ((Zy (s.take (Ze s))).natAbs*10^(s.drop (Ze s+1)).length+rd (s.drop (Ze s+1)))=R1 at *
     generalize ofN ((Zy (s.take (Ze s))).natAbs*10^(s.drop (Ze s+1)).length)=R2 at *
     rw[←hdl]at ht;generalize ofN (10^(s.drop (Ze s+1)).length)=R4 at *
     rw[hdl]at ht;generalize Zy (s.take (Ze s))=RZ at *
     generalize ofN (rd (s.drop (Ze s+1)))=RR at *
     generalize Zp (s.drop (Ze s+1))=W at *
     generalize Ze s=k at *
     simp -implicitDefEqProofs[hl,hr,q1,q2,q4,q5,q6,q7,q8,q9,hle,hwr,h1,w1,hg,hgE,hrr,hn,ht,hm,ha,hx,hxE,hp1,hp2]
  ·have hcl:Ze s=s.length:=by omega
   have htk:s.take (Ze s)=s:=by rw[hcl];exact Ybf
   have eR:Z6 s=(mkRat (Zy s) 1,0,0):=by simp only[Z6,htk,if_neg (htk▸h0),if_neg hc]
   rw[eR];rw[htk]at hr h0 hrl;have hn:=zby (T:=T) (decide (Zy s<0),ofN (Zy s).natAbs,[w32 1]) (by
    refine Yea.2 ⟨?_,?_⟩
    ·simp only;omega
    ·show (1:Nat)≤10000
     decide)
   have ev:fv (decide (Zy s<0),ofN (Zy s).natAbs,[w32 1])=mkRat (Zy s) 1:=by
    show mkRat (wv _ _) (val _)=_;rw[zie]
    rfl
   rw[ev]at hn
   change Zb T 231 [.agg [.b (decide (Zy s<0)),.sl (Za (ofN (Zy s).natAbs)) .an,.sl [[u32 1]] .an]]=_ at hn
   rw[hcl]at hl;clear eR hrl h0 ev;simp only;generalize fz (mkRat (Zy s) 1)=Z at *
   generalize Zy s=RZ at *
   simp -implicitDefEqProofs[hl,hr,hn]
end
end Go.Ab
end
section
namespace Go.Ab
class Zkn (T:Tbl):Prop where
end Go.Ab
end
section
namespace Go.Ab
class Zkm (T:Tbl):Prop where
end Go.Ab
end
section
namespace Go.Ab
end Go.Ab
end
section
namespace Go.Ab
section
variable{T:Tbl}[Zab T][Zu T][Zz T][Z1 T][Zw T][Zs T][Zr T][Za0 T][Zg T][Zj T][Z0 T][Zay T][Zbi T][Zcv T][Zao T][Zby T][Zcu T][Zaz T][Zcj T][Zco T][Zfq T][Z5 T][Zah T][Z3 T][Zaa T][Z4 T][Zai T][Z8 T][Zas T][Zei T][Zdv T][Zdw T][Zkm T][Zkn T]
def Zoc(l:List Fz)(i:Nat):St:=⟨[(0,.sl (Zf l) .an),(3,.i .i64 (Zmb (l.take i))),(4,.i .i64 i)],[],2⟩
end
end Go.Ab
end
section
namespace Go.Ab
section
variable{T:Tbl}[Z5 T][Zah T][Z3 T][Zaa T][Z4 T][Zai T][Z8 T][Zbv T][Zas T][Zbn T]
def Zg2(s:List UInt8)(y:Nat×Nat×List Rat):St:=
 ⟨[(0,.s s),(5,.bs (.loc 5) 1 3 0 y.2.2.length),(6,.i .i64 y.2.1),(7,.i .i64 y.1)],[(.loc 5,⟨1,.own,3,Zf (fzs y.2.2)⟩)],3⟩
def Zg3(r:List Rat×Int×Int):Option (Ex×St):=
 if r.2.1=0 then some (.n,⟨[(5,.bs (.loc 5) 1 3 0 r.1.length)],[(.loc 5,⟨1,.own,3,Zf (fzs r.1)⟩)],3⟩)
 else some (.r,⟨[(2,.sl [] .an),(3,.i .i64 r.2.1),(4,.i .i64 r.2.2)],[],2⟩)
def Zc9(s:List UInt8)(y:Nat×Nat×List Rat):List Rat×Int×Int:=
 if y.1≤s.length then Za4 (Zx 44 (s.drop y.2.1)) y.2.1 y.2.2 else (y.2.2,0,0)
def piece(s:List UInt8)(i from_:Nat):List UInt8:=(s.drop from_).take (i-from_)
theorem zu2{s:List UInt8}{i f:Nat}(h:i<s.length)(hf:f≤i)(hp:∀c∈piece s i f,c≠44)(hc:s[i]'h≠44):∀c∈piece s (i+1) f,c≠44:=by
 unfold piece at hp ⊢;have h1:i+1-f=(i-f)+1:=by omega
 have h2:i-f<(s.drop f).length:=by rw[Yv];omega
 rw[h1,Ybb h2];intro c hc2;rcases Yax.1 hc2 with hc3 | hc3
 ·exact hp c hc3
 ·have:c=s[i]'h:=by
   have:=Ya9.1 hc3;rw[this,Ydi];congr 1;omega
  rw[this];exact hc
theorem zu3{s:List UInt8}{i f:Nat}(h:i<s.length)(hf:f≤i)(hp:∀c∈piece s i f,c≠44)(hc:s[i]'h=44):Zx 44 (s.drop f)=piece s i f::Zx 44 (s.drop (i+1)):=by
 have h2:i-f<(s.drop f).length:=by rw[Yv];omega
 have e:s.drop f=piece s i f++44::s.drop (i+1):=by
  unfold piece;have e1:=(Yaq (i-f) (s.drop f)).symm;have e2:(s.drop f).drop (i-f)=44::s.drop (i+1):=by
   rw[Yct,show f+(i-f)=i by omega,Yk h,hc]
  rw[e2]at e1;exact e1
 conv=>lhs;rw[e]
 exact zjs _ hp
theorem zmq{s:List UInt8}{f:Nat}(hf:f≤s.length):piece s s.length f=s.drop f:=by
 unfold piece;exact Yb (by rw[Yv];exact Yf _)
theorem zmr{s:List UInt8}{i f:Nat}(hf:f≤i)(hi:i≤s.length):(piece s i f).length=i-f:=by
 unfold piece;rw[Y6,Yv];omega
theorem zyq(s:List UInt8)(hs:s.length≤100000):∀y:Nat×Nat×List Rat,(y.2.1≤y.1∧y.1≤s.length+1∧y.2.2.length≤y.1∧∀c∈piece s y.1 y.2.1,c≠44) →
  Zn T 0 0 (.norm false [5]) l285_0 (Zg2 s y)=Zg3 (Zc9 s y):=by
 refine zan (Zg2 s) (fun y=>y.2.1≤y.1∧y.1≤s.length+1∧y.2.2.length≤y.1∧∀c∈piece s y.1 y.2.1,c≠44) (fun y=>s.length+1-y.1) (fun y=>Zg3 (Zc9 s y)) ?_
 rintro⟨i,f,acc⟩ ⟨hf,hi,ha,hp⟩
 simp only at hf hi ha hp ⊢;have hml:(fzs acc).length=acc.length:=zc7 acc;have hws:IntKind.wrap .i64 ((i:Int)+1)=((i+1:Nat):Int):=zab _ (by omega);by_cases hle:i≤s.length
 ·have hle':(i:Int)≤s.length:=by omega
  have q1:(0:Int)≤(f:Int):=by omega
  have q2:(f:Int)≤i:=by omega
  have hb4:acc.length≤4294967295:=by omega
  have cw:=zjh (T:=T) (piece s i f) (by rw[zmr hf hle];omega);have hff:=zcb (piece s i f);have hwl:=zmr hf hle;have c0:=zf2 (T:=T);by_cases hend:i<s.length∧s[i]?≠some 44
  ·obtain⟨hil,h44⟩:=hend;have hil':(i:Int)<s.length:=by omega
   have hg:s[i]? = some (s[i]'hil):=Ya hil;rw[hg]at h44;have hne:s[i]'hil≠44:=fun h=>h44 (by rw[h]);have hpe:=zu2 hil hf hp hne;left;refine⟨(i+1,f,acc),⟨by simp only;omega,by simp only;omega,by simp only;omega,hpe⟩,by simp only;omega,?_,?_⟩
   ·unfold Zg2;simp only;clear hp hpe hff cw h44;generalize s[i]'hil=c at *
    obtain⟨_,hgE⟩:=Yc.1 hg;have hne2:=zu1 (n:=44) (by decide) hne;generalize fzs acc=M at *
    generalize acc.length=n at *
    simp -implicitDefEqProofs[l285_0,hle',hle,hil,hil',hg,hgE,hne,hne2,hws,hml]
   ·unfold Zc9;simp only;rw[if_pos hle,if_pos (by omega)]
  ·have hsp:Zx 44 (s.drop f)=piece s i f::(if i<s.length then Zx 44 (s.drop (i+1)) else []):=by
    by_cases hil:i<s.length
    ·rw[if_pos hil];have h44:s[i]? = some 44:=by
      rcases Decidable.em (s[i]? = some 44) with h | h
      ·exact h
      ·exact absurd ⟨hil,h⟩ hend
     rw[Ya hil]at h44;exact zu3 hil hf hp (Option.some.inj h44)
    ·rw[if_neg hil];have:i=s.length:=by omega
     subst this;rw[zmq hf]at hp ⊢;exact znd hp
   have hd44:(i<s.length∧s[i]? = some 44)∨i=s.length:=by
    by_cases hil:i<s.length
    ·left;refine⟨hil,?_⟩;rcases Decidable.em (s[i]? = some 44) with h | h
     ·exact h
     ·exact absurd ⟨hil,h⟩ hend
    ·right;omega
   have epc:(s.take i).drop f=piece s i f:=by
    unfold piece;rw[List.drop_take]
   have epc2:(s.drop f).take (i-f)=piece s i f:=rfl;have epc3:i=s.length→s.drop f=piece s i f:=fun h=>by
    subst h;exact(zmq hf).symm
   rcases hff with ⟨f1,f2⟩ | ⟨f1,f2,f3⟩
   ·left;have hpu:=zh5 hml (fz (Z6 (piece s i f)).1);have ef:fzs (acc++[(Z6 (piece s i f)).1])=fzs acc++[fz (Z6 (piece s i f)).1]:=by simp[fzs]
    refine⟨(i+1,i+1,acc++[(Z6 (piece s i f)).1]),⟨by simp only;omega,by simp only;omega,by simp;omega,by
     intro c hc;unfold piece at hc;simp at hc⟩,by simp only;omega,?_,?_⟩
    ·unfold Zg2;simp only[Yu,Yd,Y1];rw[ef];rw[f1,f2]at cw;clear hp ef hsp f1 f2 hend;generalize fz (Z6 (piece s i f)).1=X at *
     generalize piece s i f=w at *
     generalize fzs acc=M at *
     generalize acc.length=n at *
     rcases hd44 with ⟨hil,hg⟩ | rfl
     ·obtain⟨_,hgE⟩:=Yc.1 hg;have hil':(i:Int)<s.length:=by omega
      simp -implicitDefEqProofs[l285_0,hle',hle,hil,hil',hg,hgE,hws,hml,cw,epc,epc2,q1,q2,hb4,hpu,hf]
     ·have e3:=epc3 rfl;clear epc epc2 epc3;simp -implicitDefEqProofs[l285_0,hle',hle,hws,hml,cw,e3,q1,q2,hb4,hpu,hf]
    ·unfold Zc9;simp only;rw[if_pos hle,hsp,Za4,if_pos f1];by_cases hil:i<s.length
     ·rw[if_pos hil,if_pos (by omega),hwl,show f+(i-f)+1=i+1 by omega]
     ·rw[if_neg hil,if_neg (by omega),Za4]
   ·right;have hne:¬ (Z6 (piece s i f)).2.1=0:=by omega
    have er:Zc9 s (i,f,acc)=([],(Z6 (piece s i f)).2.1,(Z6 (piece s i f)).2.2+f):=by
     unfold Zc9;simp only;rw[if_pos hle,hsp,Za4,if_neg hne]
    rw[er];unfold Zg3 Zg2;simp only;rw[if_neg hne];have w1:IntKind.wrap .i64 ((f:Int)+(Z6 (piece s i f)).2.2)=(Z6 (piece s i f)).2.2+(f:Int):=by
     rw[zab _ (by omega)];omega
    clear hp hsp hend er;generalize fz (Z6 (piece s i f)).1=X at *
    generalize (Z6 (piece s i f)).2.1=K at *
    generalize (Z6 (piece s i f)).2.2=A at *
    generalize piece s i f=w at *
    generalize fzs acc=M at *
    generalize acc.length=n at *
    rcases hd44 with ⟨hil,hg⟩ | rfl
    ·obtain⟨_,hgE⟩:=Yc.1 hg;have hil':(i:Int)<s.length:=by omega
     rcases f1 with rfl | rfl<;>(constructor<;>simp -implicitDefEqProofs[l285_0,hle',hle,hil,hil',hg,hgE,hml,cw,epc,epc2,q1,q2,w1,hf])
    ·have e3:=epc3 rfl;clear epc epc2 epc3;rcases f1 with rfl | rfl<;>(constructor<;>simp -implicitDefEqProofs[l285_0,hle',hle,hml,cw,e3,q1,q2,w1,hf])
 ·right;have hle':¬ (i:Int)≤s.length:=by omega
  have hle2:¬ (s.length:Int)≥i:=by omega
  have er:Zc9 s (i,f,acc)=(acc,0,0):=by
   unfold Zc9;simp only;rw[if_neg hle]
  rw[er];unfold Zg3 Zg2;simp only[if_true];clear hp;generalize fzs acc=M at *
  generalize acc.length=n at *
  constructor<;>simp -implicitDefEqProofs[l285_0,hle',hle]
end
end Go.Ab
end
section
namespace Go.Ab
section
variable{T:Tbl}[Zab T][Zu T][Zz T][Z1 T][Zw T][Zs T][Zr T][Za0 T][Zg T][Zj T][Z0 T][Zay T][Za9 T][Zbi T][Zcv T][Zao T][Zby T][Zcu T][Zcz T][Zca T][Zdb T][Ze4 T][Ze3 T][Zaz T][Zcj T][Zco T][Zfq T][Zcb T][Zat T][Za3 T][Zfa T][Zfh T]
def Zmg(s:Sm)(i:Nat):St:=⟨[(1,.ptr (.loc 1) 1 5 0 0),(4,.bs (.loc 33) 2 1 0 (i+1)),(14,.sl (Z2 s.a) .an),(15,.i .i64 s.a.length),(16,.i .i64 i)],
 [(.loc 1,bxS s),(.loc 33,⟨2,.own,1,Zaj ([s.nm]++((s.c.zip s.a).take i).map fun p=>Zkx p.1 p.2)⟩)],4⟩
def Zqm(s:Sm):Nat→St
 | 0=>⟨[(1,.ptr (.loc 1) 1 5 0 0),(4,.sl (Zaj [s.nm]) .fu),(14,.sl (Z2 s.a) .an),(15,.i .i64 s.a.length),(16,.i .i64 0)],[(.loc 1,bxS s)],3⟩
 | i+1=>Zmg s (i+1)
end
end Go.Ab
end
section
namespace Go.Ab
section
variable{T:Tbl}[Zab T][Zu T][Zz T][Z1 T][Zw T][Zs T][Zr T][Za0 T][Zg T][Zj T][Z0 T][Zay T][Za9 T][Zbi T][Z5 T][Zah T][Z3 T][Z4 T][Zaa T][Zai T][Z8 T][Zbv T][Zas T][Zbn T][Zcv T][Zao T][Zby T][Zcu T][Zcz T][Zca T][Zdb T][Ze4 T][Ze3 T][Zaz T][Zcj T][Zco T][Zfq T][Zcb T][Zat T][Za3 T][Zfa T][Zfh T]
def Zno(s:Sm)(i:Nat):List UInt8:=List.intercalate [10] ([s.nm]++((s.c.zip s.a).take i).map fun p=>Zkx p.1 p.2)
def Zo3(s:Sm)(i:Nat):St:=⟨[(1,.ptr (.loc 1) 1 5 0 0),(3,.s (Zno s i)),(4,.i .i64 i)],[(.loc 1,bxS s)],3⟩
end
end Go.Ab
end
section
namespace Go.Ab
def Zqg(l:List UInt8):Prop:=∀b∈l,44≤b.toNat∧b.toNat≤57
theorem zko(c:UInt8):∀l:List UInt8,(∀b∈l,b≠c)→hdC c l=l∧l.contains c=false
 | [],_=>by simp[hdC]
 | b::l,h=>by
  have h1:=h b Y9;obtain⟨e1,e2⟩:=zko c l fun d hd=>h d (Ys _ hd);have h2:¬ c=b:=fun e=>h1 e.symm;unfold hdC at *
  simp at e2;simp[Ycp,h1,h2,e1,e2]
def Znn:List (Fz×List Fz)→List UInt8→List UInt8
 | [],W=>W
 | p::l,W=>Zkx p.1 p.2++10::Znn l W
def Zqh(s:Sm):List UInt8:=98::32::List.intercalate [44] (Zje s.b)++(if s.e=[] then [] else 10::101::32::List.intercalate [44] (Zje s.e))
end Go.Ab
end
section
namespace Go.Ab
theorem zt8(w:List UInt8):sz (Z6 w).1≤200:=by
 have z0:sz 0≤200:=by rw[zwq];decide
 unfold Z6;simp only;split
 ·exact z0
 ·next h0=>
  have hl:=zgv h0;split
  ·unfold Zdn;simp only;split
   ·exact z0
   ·next h1=>
    obtain⟨h60,hr⟩:=zpg h1;have ht:=zkc h60;split
    ·split
     ·exact z0
     ·exact zwr (by omega) (by omega) (by decide)
    ·refine zwr ?_ (by omega) (by decide);rw[zm9];have e2:=zbp (x:=(Zy (w.take (Ze w))).natAbs) (y:=10^(w.drop (Ze w+1)).length) (L:=60) (M:=60) hl ht;have e3:=zbo (x:=(((Zy (w.take (Ze w))).natAbs*10^(w.drop (Ze w+1)).length:Nat):Int)) (y:=((rd (w.drop (Ze w+1)):Nat):Int)) (L:=120) (by rw[Yba];exact e2) (by rw[Yba];omega);rw[←Yad,Yba]at e3;omega
  ·exact zwr (by omega) (by rw[zd2];decide) (by decide)
theorem zpi:∀(ws:List (List UInt8)) (k:Nat) (acc:List Rat),(∀q∈acc,sz q≤200)→∀q∈(Za4 ws k acc).1,sz q≤200
 | [],_,_,h=>h
 | w::ws,k,acc,h=>by
  unfold Za4;split
  ·exact zpi ws _ _ fun q hq=>by
    rcases Yax.1 hq with h1 | h1
    ·exact h q h1
    ·rw[Ya9]at h1;rw[h1];exact zt8 w
  ·intro q hq;simp at hq
theorem z1w(s:List UInt8):∀q∈(Za2 s).1,sz q≤200:=by
 unfold Za2;split
 ·intro q hq;simp at hq
 ·exact zpi _ _ _ fun q hq=>by simp at hq
section
variable{T:Tbl}[Z5 T][Zah T][Z3 T][Zaa T][Z4 T][Zai T][Z8 T][Zbv T][Zas T][Zbn T]
theorem zex(s:List UInt8)(hs:s.length≤100000) :
  Zb T 285 [.s s]=some (.tup [.sl (Zf (fzs (Za2 s).1)) .an,.i .i64 (Za2 s).2.1,.i .i64 (Za2 s).2.2]):=by
 rw[zac Zbn.h285 rfl,b285];unfold Za2;have e0:fzs []=[]:=rfl;by_cases h0:s=[]
 ·subst h0;simp only[if_true,e0,zaz];simp -implicitDefEqProofs
 ·rw[if_neg h0];have h:=zyq (T:=T) s hs (0,0,[]) ⟨Yf _,Yl _,Yf _,by
   intro c hc;simp[piece]at hc⟩
  have er:Zc9 s (0,0,[])=Za4 (Zx 44 s) 0 []:=by
   unfold Zc9;simp only[Yl,if_true,Yaa]
  rw[er]at h;unfold Zg2 at h;simp only[e0,zaz,Yt,Y1]at h;have hnil:=zhq (Zx 44 s) 0 [];have hat:=zke (Zx 44 s) 0 [];generalize Za4 (Zx 44 s) 0 []=r at *
  unfold Zg3 at h;by_cases hr:r.2.1=0
  ·rw[if_pos hr]at h;have ha:=hat hr;rw[hr,ha];have hml:(fzs r.1).length=r.1.length:=zc7 r.1;generalize fzs r.1=M at *
   generalize r.1.length=m at *
   have ht:List.take m M=M:=Yb (by omega);simp -implicitDefEqProofs[h0,h,ht,hml]
  ·rw[if_neg hr]at h;rw[hnil hr];simp only[e0,zaz];simp -implicitDefEqProofs[h0,h]
end
end Go.Ab
end
section
namespace Go.Ab
theorem zjk{t:List UInt8}(h:Zam 2 t=true):(∀b∈t,b≠10)∧t.length≤12:=by
 cases t with
 | nil=>simp[Zam]at h
 | cons c r=>
  simp only[Zam,Yo,decide_eq_true_eq]at h;obtain⟨⟨⟨_,h1⟩,h2⟩,h3⟩:=h;have hk:Zi c=2:=by omega
  rw[hk]at h2 h3;unfold Z9 at h2;have ht:(r.takeWhile (Zap 2)).length=r.length:=by omega
  have e:r.takeWhile (Zap 2)=r:=(Ya7 _).eq_of_length ht;have hall:=List.all_takeWhile (p:=Zap 2) (l:=r);rw[e]at hall;refine⟨fun b hb=>?_,h3⟩;rcases Yw.1 hb with rfl | hb
  ·rintro rfl
   revert hk
   decide
  ·have:=Yh.1 hall b hb
   rintro rfl
   revert this
   decide
theorem zyv{s:Sm}(h:okS s=true):Zam 2 s.nm=true:=by
 unfold okS at h;have hw:=of_decide_eq_true h;unfold Zcl at hw;cases g:Zam 2 s.nm with
 | true=>rfl
 | false=>rw[g]at hw;simp at hw
theorem zyw{t:List UInt8}(h:(Zbb t).2=(0,0)):(Zag t).2=(0,0)∧Zbb t=((Zag t).1,0,0)∧okS (Zag t).1=true:=by
 unfold Zbb at h ⊢;by_cases h1:4000<t.length
 ·rw[if_pos h1]at h;simp at h
 rw[if_neg h1]at h ⊢;by_cases h2:(Zag t).2≠(0,0)
 ·rw[if_pos h2]at h;exact absurd h h2
 rw[if_neg h2]at h ⊢;by_cases h3:Zcl (Zag t).1≠0
 ·rw[if_pos h3]at h;simp at h
 rw[if_neg h3];refine⟨Classical.not_not.1 h2,rfl,?_⟩;unfold okS;exact decide_eq_true (Classical.not_not.1 h3)
end Go.Ab
end
section
namespace Go.Ab
section
variable{T:Tbl}[Zab T][Zu T][Zz T][Z1 T][Zw T][Zs T][Zr T][Za0 T][Zg T][Zj T][Z0 T][Zay T][Za9 T][Zbi T][Z5 T][Zah T][Z3 T][Z4 T][Zaa T][Zai T][Z8 T][Zbv T][Zas T][Zbn T][Zcv T][Zao T][Zby T][Zcu T][Zcz T][Zca T][Zdb T][Ze4 T][Ze3 T][Zaz T][Zcj T][Zco T][Zfq T][Zei T][Zcb T][Zat T][Za3 T][Zfa T][Zfh T]
def Znp(s:Sm)(m:List UInt8)(G:List Fz):St:=⟨[(2,.ptr (.loc 2) 1 5 0 0),(5,.ptr (.loc 5) 2 5 0 0),(6,.s m),(8,.sl (Zf G) .an),(10,.sl [] .fu),(11,.i .i64 0)],[(.loc 2,Zhb 1 s),(.loc 5,Zhb 2 s)],4⟩
def Znq(s:Sm)(m:List UInt8)(G:List Fz)(i:Nat):St:=⟨[(2,.ptr (.loc 2) 1 5 0 0),(5,.ptr (.loc 5) 2 5 0 0),(6,.s m),(8,.sl (Zf G) .an),(10,.bs (.loc 106) 3 3 0 i),(11,.i .i64 i)],
 [(.loc 2,Zhb 1 s),(.loc 5,Zhb 2 s),(.loc 106,⟨3,.own,3,Zf ((Zmf s.b s.e).take i)⟩)],5⟩
def stW(s:Sm)(m:List UInt8)(G:List Fz):Nat→St
 | 0=>Znp s m G
 | i+1=>Znq s m G (i+1)
end
end Go.Ab
end
section
namespace Go.Ab
theorem z2o{w:List UInt8}(h:(Z6 w).2.1=0):1≤w.length:=by
 cases w with
 | nil=>exact absurd h (by decide)
 | cons c r=>simp
theorem zjl:∀(ws:List (List UInt8)) (k:Nat) (acc:List Rat),2*(Za4 ws k acc).1.length≤2*acc.length+(ws.map fun w=>w.length+1).sum
 | [],_,acc=>by simp[Za4]
 | w::ws,k,acc=>by
  unfold Za4;by_cases h:(Z6 w).2.1=0
  ·have h1:=z2o h;have:=zjl ws (k+w.length+1) (acc++[(Z6 w).1]);rw[if_pos h];simp only[Yu,Yd,Y1,Y2,Yc0]at this ⊢;omega
  ·rw[if_neg h];simp
theorem zvg(s:List UInt8):2*(Za2 s).1.length≤s.length+1:=by
 unfold Za2;split
 ·simp
 ·have:=zjl (Zx 44 s) 0 [];rw[zf6]at this;simpa using this
structure SgS (s:Sg):Prop where
 al:s.a.length=s.c.length
 c:∀x∈s.c,fsz x≤300
 a:∀r∈s.a,r.length≤1000∧∀x∈r,fsz x≤300
theorem zvh{l:List UInt8}(hl:l.length≤1900):(fzs (Za2 l).1).length≤1000∧∀x∈fzs (Za2 l).1,fsz x≤300:=by
 refine⟨?_,fun x hx=>?_⟩
 ·rw[zc7];have:=zvg l;omega
 ·unfold fzs at hx;obtain⟨q,hq,rfl⟩:=Yat.1 hx;rw[zco];have:=z1w l q hq;omega
theorem zvi{r:Rd}(ho:r.over=false):muR r=muR (Zo r)+(Zc r).length+1:=by
 unfold muR Zc Zo;rw[ho];cases hc:r.rest.contains 10 with
 | true=>
  have h5:=zkq r.rest 10 hc;simp;omega
 | false=>
  have:=(zko 10 r.rest (fun b hb e=>by rw[e]at hb;rw[Ybd.2 hb]at hc;cases hc)).1;simp[this]
theorem zvj(t:List UInt8)(ht:t.length≤1500):∀(n:Nat) (r:Rd) (s:Sg),RdOk t r→SgS s→2*s.c.length+muR r≤1501→SgS (Zac t n r s).2.1∧2*(Zac t n r s).2.1.c.length≤1501
 | 0,_,_,_,h,hm=>⟨h,by simp only[Zac];omega⟩
 | n+1,r,s,hr,h,hm=>by
  unfold Zac;by_cases h1:r.over=true
  ·rw[if_pos h1];exact⟨h,by dsimp only;omega⟩
  rw[if_neg h1];by_cases h2:(Zc r).contains 124=false
  ·rw[if_pos h2];exact⟨h,by dsimp only;omega⟩
  rw[if_neg h2];by_cases h3:(Zbr (Zc r) r.at_).2.2≠(0,0)
  ·rw[if_pos h3];exact⟨h,by dsimp only;omega⟩
  rw[if_neg h3];have ho:r.over=false:=by simpa using h1
  have hmu:=zvi ho;have hl1:1≤(Zc r).length:=by
   cases hl:Zc r with
   | nil=>rw[hl]at h2;simp at h2
   | cons c q=>simp
  have hl2:(Zc r).length≤1500:=by
   have:=hr.l;have e:Zc r=hdC 10 r.rest:=by unfold Zc;rw[ho];rfl
   rw[e];have:=zmu 10 r.rest;omega
  have k1:fsz (fz (Zbr (Zc r) r.at_).1)≤300:=by
   rw[zco];have:=zt8 (hdC 124 (Zc r));unfold Zbr;split
   ·dsimp only;omega
   ·dsimp only;omega
  have k2:(fzs (Zbr (Zc r) r.at_).2.1).length≤1000∧∀x∈fzs (Zbr (Zc r) r.at_).2.1,fsz x≤300:=by
   unfold Zbr;split
   ·simp[fzs]
   ·exact zvh (by have:=z7s 124 (Zc r);omega)
  refine zvj t ht n _ _ (zef hr) ⟨?_,?_,?_⟩ ?_
  ·have:=h.al;simp only[Yu,Yd,Y1];omega
  ·intro x hx;rcases Yax.1 hx with hx | hx
   ·exact h.c x hx
   ·rw[Ya9]at hx;rw[hx];exact k1
  ·intro q hq;rcases Yax.1 hq with hq | hq
   ·exact h.a q hq
   ·rw[Ya9]at hq;rw[hq];exact k2
  ·simp only[Yu,Yd,Y1];omega
theorem zzz(c:UInt8){r:Rd}(h:r.rest.length≤1500):(fzs (Zcd c r).1).length≤1000∧∀x∈fzs (Zcd c r).1,fsz x≤300:=by
 unfold Zcd;split
 ·refine zvh ?_;have e:(Zc r).length≤r.rest.length:=by
   unfold Zc;split
   ·simp
   ·exact zmu 10 r.rest
  simp only[Yv];omega
 ·simp[fzs]
theorem zkp(t:List UInt8)(ht:t.length≤1500)(h:(Zag t).2=(0,0)):SmS (Zag t).1:=by
 have h0:RdOk t ⟨t,0,false⟩:=⟨Yl _,Yf _,fun _=>Yah _⟩;have k1:=zef h0;have m0:=zvi (r:=⟨t,0,false⟩) rfl;have m1:muR ⟨t,0,false⟩=t.length+1:=rfl;obtain⟨S,hc⟩:=zvj t ht (t.length+2) (Zo ⟨t,0,false⟩) ⟨Zc ⟨t,0,false⟩,[],[]⟩ k1 ⟨rfl,fun x hx=>by simp at hx,fun x hx=>by simp at hx⟩ (by simp;omega);have o2:=zoe (t.length+2) (Zo ⟨t,0,false⟩) ⟨Zc ⟨t,0,false⟩,[],[]⟩ k1;have hS:Zak t=Zac t (t.length+2) (Zo ⟨t,0,false⟩) ⟨Zc ⟨t,0,false⟩,[],[]⟩:=rfl;rw[←hS]at S hc o2;have o3:=zef o2;obtain⟨b1,b2⟩:=zzz 98 (r:=(Zak t).1) (by have:=o2.l;omega);obtain⟨e1,e2⟩:=zzz 101 (r:=Zo (Zak t).1) (by have:=o3.l;omega);have nmS:∀(n:Nat) (r:Rd) (s:Sg),(Zac t n r s).2.1.nm=s.nm:=by
  intro n
  induction n with
  | zero=>intro r s;rfl
  | succ n ih=>
   intro r s;unfold Zac;split
   ·rfl
   ·split
    ·rfl
    ·split
     ·rfl
     ·rw[ih]
 have hnm:(Zak t).2.1.nm=Zc ⟨t,0,false⟩:=nmS _ _ _;unfold Zag at h ⊢;by_cases q1:Zam 2 (Zc ⟨t,0,false⟩)=false
 ·rw[if_pos q1]at h;simp at h
 have hn:=(zjk (t:=Zc ⟨t,0,false⟩) (by simpa using q1)).2;rw[if_neg q1]at h ⊢;by_cases q2:(Zak t).2.2≠(0,0)
 ·rw[if_pos q2]at h;exact absurd h q2
 rw[if_neg q2]at h ⊢;have al:=S.al;have mk:∀b e:List Fz,(b.length≤1000∧∀x∈b,fsz x≤300)→(e.length≤1000∧∀x∈e,fsz x≤300)→SmS (smG (Zak t).2.1 b e):=fun b e hb he=>
  ⟨by show (Zak t).2.1.nm.length≤1000;rw[hnm];omega,by show (Zak t).2.1.c.length≤1000;omega,by show (Zak t).2.1.a.length≤1000;omega,hb.1,he.1,S.c,S.a,hb.2,he.2⟩
 split
 ·exact mk _ _ ⟨b1,b2⟩ ⟨by simp,by simp⟩
 ·split
  ·exact mk _ _ ⟨b1,b2⟩ ⟨e1,e2⟩
  ·exact mk _ _ ⟨b1,b2⟩ ⟨e1,e2⟩
end Go.Ab
end
section
namespace Go.Ab
def Zaf(l:List Nat):List (List AV):=l.map fun(n:Nat)=>[.i .i64 n]
theorem za5(l:List Nat):(Zaf l).length=l.length:=by simp[Zaf]
theorem za6(l:List Nat):wkL (Zaf l)=Zaf l:=by
 unfold Zaf
 induction l with
 | nil=>rfl
 | cons a l ih=>rw[Y2,zxl,ih];rfl
theorem zr1(l:List Nat)(n:Nat):Zaf l++[[.i .i64 n]]=Zaf (l++[n]):=by simp[Zaf]
def Zex:Nat→List UInt8→List Nat
 | _,[]=>[]
 | k,c::r=>if c=10 then (k+1)::Zex (k+1) r else Zex (k+1) r
def stL(k:Nat)(l:List UInt8):List Nat:=Zex k l++[k+l.length+1]
theorem zm1(c:UInt8):∀(l:List UInt8) (k:Nat),Zex k (l++[c])=Zex k l++(if c=10 then [k+l.length+1] else [])
 | [],k=>by simp[Zex]
 | d::l,k=>by
  have ih:=zm1 c l (k+1);have e:k+1+l.length+1=k+(l.length+1)+1:=by omega
  simp only[Ybj,Zex,Yd];rw[ih,e];split<;>simp
def stM(t:List UInt8)(i:Nat):List Nat:=0::Zex 0 (t.take i)
theorem zy2(t:List UInt8){i:Nat}(h:i<t.length):stM t (i+1)=stM t i++(if t[i]'h=10 then [i+1] else []):=by
 unfold stM;rw[Ybb h,zm1];have:(t.take i).length=i:=by rw[Y6];omega
 rw[this,Ybj];simp
theorem zol(t:List UInt8)(i:Nat):(stM t i).length≤i+1:=by
 have key:∀(l:List UInt8) (k:Nat),(Zex k l).length≤l.length:=by
  intro l
  induction l with
  | nil=>intro k;simp[Zex]
  | cons c l ih=>
   intro k;have:=ih (k+1);simp only[Zex];split<;>simp<;>omega
 have:=key (t.take i) 0;rw[Y6]at this;unfold stM;simp only[Yd];omega
theorem zpx:∀s:List UInt8,(∀i,i<(hdC 124 s).length→s[i]?≠some 124)∧((hdC 124 s).length<s.length→s[(hdC 124 s).length]? = some 124)
 | []=>⟨fun i h=>by simp[hdC]at h,fun h=>by simp[hdC]at h⟩
 | b::s=>by
  obtain⟨h1,h2⟩:=zpx s;by_cases hb:b=124
  ·have e:hdC 124 (b::s)=[]:=by unfold hdC;rw[Ycp];simp[hb]
   rw[e];exact⟨fun i h=>by simp at h,fun _=>by simp[hb]⟩
  ·have e:hdC 124 (b::s)=b::hdC 124 s:=by unfold hdC;rw[Ycp];simp[hb]
   rw[e];refine⟨fun i h=>?_,fun h=>?_⟩
   ·cases i with
    | zero=>simpa using hb
    | succ i=>
     rw[Yb0];exact h1 i (by simpa using h)
   ·rw[Yd,Yb0];exact h2 (by simpa using h)
section
variable{T:Tbl}[Zan T]
def Zkc(t:List UInt8)(i:Nat):St:=
 if stM t i=[0] then ⟨[(0,.s t),(3,.sl [[.i .i64 0]] .fu),(4,.i .i64 i)],[],2⟩
 else ⟨[(0,.s t),(3,.bs (.loc 20) 1 1 0 (stM t i).length),(4,.i .i64 i)],[(.loc 20,⟨1,.own,1,Zaf (stM t i)⟩)],3⟩
def Zkd(t:List UInt8):Option (Ex×St):=
 if stM t t.length=[0] then some (.n,⟨[(0,.s t),(3,.sl [[.i .i64 0]] .fu)],[],2⟩)
 else some (.n,⟨[(0,.s t),(3,.bs (.loc 20) 1 1 0 (stM t t.length).length)],[(.loc 20,⟨1,.own,1,Zaf (stM t t.length)⟩)],3⟩)
theorem zom(t:List UInt8)(ht:t.length≤1000000):Zn T 0 0 (.norm true [0,3]) l636_0 (Zkc t 0)=Zkd t:=by
 refine zba (Zkc t) t.length _ (fun i hi=>?_) ?_
 ·have hi':(i:Int)<t.length:=by omega
  have hg:t[i]? = some (t[i]'hi):=Ya hi;have hws:=zbr hi (by omega);have hs:=zy2 t hi;have hlen:=zol t i;have hil:=za5 (stM t i);unfold Zkc;by_cases hc:t[i]'hi=10
  ·rw[if_pos hc]at hs;have hcn:(t[i]'hi).toNat=10:=by rw[hc];rfl
   have hne:¬ stM t (i+1)=[0]:=by
    rw[hs];unfold stM;simp
   rw[if_neg hne];have hw2:=za6 (stM t (i+1));have hl2:(stM t (i+1)).length=(stM t i).length+1:=by rw[hs];simp
   rw[hl2];rw[hs,←zr1]at hw2 ⊢;by_cases h0:stM t i=[0]
   ·rw[if_pos h0];rw[h0]at hw2 ⊢;clear hs hne hl2 hil hlen h0;have e0:Zaf [0]=[[.i .i64 0]]:=rfl;rw[e0]at hw2 ⊢;simp only[Yad,Yae]at hw2 hws ⊢;simp -implicitDefEqProofs[l636_0,hi,hi',hg,hcn,hws,hw2]
   ·rw[if_neg h0];have hcap:(stM t i).length≤4294967295:=by omega
    have htk:List.take (stM t i).length (Zaf (stM t i))=Zaf (stM t i):=Yb (by omega);clear hs hne hl2 h0 hlen;generalize (stM t i).length=m at *
    generalize Zaf (stM t i)=R at *
    simp only[Yad,Yae]at hw2 hws ⊢;simp -implicitDefEqProofs[l636_0,hi,hi',hg,hcn,hws,hw2,hcap,htk,hil]
  ·rw[if_neg hc,Ybc]at hs;rw[hs];have hw2:=za6 (stM t i);have hc':¬ (t[i]'hi).toNat=10:=fun e=>hc (UInt8.toNat_inj.1 (by show (t[i]'hi).toNat=10;omega));by_cases h0:stM t i=[0]
   ·rw[if_pos h0,if_pos h0];clear hs hlen hil hw2 h0;simp -implicitDefEqProofs[l636_0,hi,hi',hg,hc,hc',hws]
   ·rw[if_neg h0,if_neg h0];clear hs hlen h0;generalize (stM t i).length=m at *
    generalize Zaf (stM t i)=R at *
    simp -implicitDefEqProofs[l636_0,hi,hi',hg,hc,hc',hws,hw2]
 ·unfold Zkc Zkd;have hw2:=za6 (stM t t.length);by_cases h0:stM t t.length=[0]
  ·rw[if_pos h0,if_pos h0];constructor<;>simp -implicitDefEqProofs[l636_0]
  ·rw[if_neg h0,if_neg h0];generalize (stM t t.length).length=m at *
   generalize Zaf (stM t t.length)=R at *
   constructor<;>simp -implicitDefEqProofs[l636_0,hw2]
theorem zm2(t:List UInt8)(ht:t.length≤1000000):Zb T 636 [.s t]=some (.sl (Zaf (0::stL 0 t)) .an):=by
 have L:=zom (T:=T) t ht;have e:Zaf (0::stL 0 t)=Zaf (stM t t.length)++[[.i .i64 ((t.length:Int)+1)]]:=by
  unfold stM stL;rw[Ybf];simp[Zaf]
 have hlen:=zol t t.length;have hil:=za5 (stM t t.length);have hw:=za6 (0::stL 0 t);have hadd:IntKind.wrap .i64 ((t.length:Int)+1)=(t.length:Int)+1:=zab _ (by omega);have ez:stM t 0=[0]:=rfl;unfold Zkc at L;rw[if_pos ez]at L;unfold Zkd at L;simp only[Yt]at L;rw[zac Zan.h636 rfl,b636];rw[e]at hw ⊢;clear e ez;by_cases h0:stM t t.length=[0]
 ·rw[if_pos h0]at L;rw[h0]at hw ⊢;have e0:Zaf [0]=[[.i .i64 0]]:=rfl;rw[e0]at hw ⊢;clear h0 hlen hil;simp -implicitDefEqProofs[L,hw,hadd]
 ·rw[if_neg h0]at L;have hcap:(stM t t.length).length≤4294967295:=by omega
  have htk:List.take (stM t t.length).length (Zaf (stM t t.length))=Zaf (stM t t.length):=Yb (by omega);have htk2:List.take ((stM t t.length).length+1) (Zaf (stM t t.length)++[[.i .i64 ((t.length:Int)+1)]])=Zaf (stM t t.length)++[[.i .i64 ((t.length:Int)+1)]]:=Yb (by simp[hil]);clear h0 hlen;generalize (stM t t.length).length=m at *
  generalize Zaf (stM t t.length)=R at *
  simp -implicitDefEqProofs[L,hw,hadd,hcap,htk,htk2,hil]
def Zke(s:List UInt8)(i:Nat):St:=⟨[(0,.s s),(3,.i .i64 i)],[],2⟩
theorem zy3(s:List UInt8)(hs:s.length≤1000000):Zn T 0 0 (.norm false [3]) l637_0 (Zke s 0)=some (.n,⟨[(3,.i .i64 (hdC 124 s).length)],[],2⟩):=by
 have hle:=zmu 124 s;obtain⟨b1,b2⟩:=zpx s;refine zba (Zke s) (hdC 124 s).length _ (fun i hi=>?_) ?_
 ·have hi2:i<s.length:=by omega
  have hi':(i:Int)<s.length:=by omega
  have hg:s[i]? = some (s[i]'hi2):=Ya hi2;have hws:=zbr hi (by omega);have hc:¬ (s[i]'hi2).toNat=124:=fun e=>b1 i hi (by rw[hg,show s[i]'hi2=124 from UInt8.toNat_inj.1 e]);unfold Zke;simp -implicitDefEqProofs[l637_0,hi2,hi',hg,hws,hc]
 ·unfold Zke;by_cases he:(hdC 124 s).length<s.length
  ·have hi':((hdC 124 s).length:Int)<s.length:=by omega
   have hg:=b2 he;clear b1 b2;generalize (hdC 124 s).length=n at *
   obtain⟨_,hg2⟩:=Yc.1 hg;constructor<;>simp -implicitDefEqProofs[l637_0,he,hi',hg2]
  ·have he':¬ ((hdC 124 s).length:Int)<s.length:=by omega
   clear b1 b2;generalize (hdC 124 s).length=n at *
   constructor<;>simp -implicitDefEqProofs[l637_0,he,he']
theorem zm3(s:List UInt8)(hs:s.length≤1000000):Zb T 637 [.s s]=some (.i .i64 (hdC 124 s).length):=by
 have L:=zy3 (T:=T) s hs;unfold Zke at L;simp only[Yt]at L;rw[zac Zan.h637 rfl,b637];generalize (hdC 124 s).length=n at *
 simp -implicitDefEqProofs[L]
end
end Go.Ab
end
section
namespace Go.Ab
structure RdT (t:List UInt8) (r:Rd):Prop where
 o:r.over=false→t.drop r.at_=r.rest
 v:r.over=true→r.at_=t.length
def Zgd(t:List UInt8)(r:Rd):List Nat:=if r.over then [t.length+1] else r.at_::stL r.at_ r.rest
theorem zz4(c:UInt8):∀l:List UInt8,l.contains c=true→l=hdC c l++c::tlC c l
 | [],h=>by simp at h
 | b::l,h=>by
  by_cases hb:b=c
  ·subst hb;simp[hdC,tlC]
  ·have h':l.contains c=true:=by
    have hb':¬ c=b:=fun e=>hb e.symm;simpa[hb']using h
   have ih:=zz4 c l h';unfold hdC tlC at *
   simp only[Ycp,List.dropWhile_cons,bne_iff_ne,ne_eq,hb,not_false_eq_true,if_true,Ybj];rw[←ih]
theorem zagg(c:UInt8)(l:List UInt8):∀b∈hdC c l,b≠c:=fun b hb=>by
 have:=Yh.1 (List.all_takeWhile (p:=(· != c)) (l:=l)) b hb;simpa using this
theorem zy4(c:UInt8)(l:List UInt8):l.take (hdC c l).length=hdC c l:=(Yed.1 (List.takeWhile_prefix _)).symm
theorem zpy(c:UInt8)(l:List UInt8):l.drop ((hdC c l).length+1)=tlC c l:=by
 unfold tlC;rw[←Yct];congr 1;have e:hdC c l++l.dropWhile (· != c)=l:=List.takeWhile_append_dropWhile;have h:(hdC c l++l.dropWhile (· != c)).drop (hdC c l).length=l.dropWhile (· != c):=List.drop_left;rw[e]at h;exact h
theorem zpz(q:List UInt8):∀(h:List UInt8) (k:Nat),(∀b∈h,b≠10)→Zex k (h++10::q)=(k+h.length+1)::Zex (k+h.length+1) q
 | [],k,_=>by simp[Zex]
 | d::h,k,hh=>by
  have h1:=hh d Y9;have ih:=zpz q h (k+1) fun b hb=>hh b (Ys _ hb);have e:k+1+h.length+1=k+(h.length+1)+1:=by omega
  rw[Ybj,Zex,if_neg h1,ih,Yd,e]
theorem zm4:∀(h:List UInt8) (k:Nat),(∀b∈h,b≠10)→Zex k h=[]
 | [],_,_=>rfl
 | d::h,k,hh=>by
  rw[Zex,if_neg (hh d Y9)];exact zm4 h (k+1) fun b hb=>hh b (Ys _ hb)
theorem z2x{t:List UInt8}{r:Rd}(h:RdOk t r)(hT:RdT t r)(ho:r.over=false) :
  RdT t (Zo r)∧∃l,Zgd t r=r.at_::(r.at_+(Zc r).length+1)::l∧Zgd t (Zo r)=(r.at_+(Zc r).length+1)::l:=by
 have e:Zo r=⟨tlC 10 r.rest,r.at_+(hdC 10 r.rest).length+(if r.rest.contains 10 then 1 else 0),!r.rest.contains 10⟩:=by unfold Zo;rw[ho];rfl
 have el:Zc r=hdC 10 r.rest:=by unfold Zc;rw[ho];rfl
 have h1:=h.s ho;have h2:=hT.o ho;rw[e,el];cases hc:r.rest.contains 10 with
 | true=>
  have q:=zz4 10 r.rest hc;refine⟨⟨fun _=>?_,fun h=>by cases h⟩,stL (r.at_+(hdC 10 r.rest).length+1) (tlC 10 r.rest),?_,?_⟩
  ·dsimp only;rw[if_pos rfl,Yao,←Yct,h2];exact zpy 10 r.rest
  ·have e3:Zgd t r=r.at_::stL r.at_ r.rest:=by unfold Zgd;rw[ho];rfl
   have q2:stL r.at_ r.rest=(r.at_+(hdC 10 r.rest).length+1)::stL (r.at_+(hdC 10 r.rest).length+1) (tlC 10 r.rest):=by
    have hl:r.rest.length=(hdC 10 r.rest).length+((tlC 10 r.rest).length+1):=by
     have:=congrArg List.length q;rw[Yu,Yd]at this;exact this
    unfold stL;have qa:=zpz (tlC 10 r.rest) (hdC 10 r.rest) r.at_ (zagg 10 r.rest);rw[←q]at qa;rw[qa,hl,Ybj];have e2:r.at_+((hdC 10 r.rest).length+((tlC 10 r.rest).length+1))+1=r.at_+(hdC 10 r.rest).length+1+(tlC 10 r.rest).length+1:=by omega
    rw[e2]
   rw[e3,q2]
  ·rfl
 | false=>
  have hno:∀b∈r.rest,b≠10:=fun b hb e=>by rw[e]at hb;rw[Ybd.2 hb]at hc;cases hc
  have q:=(zko 10 r.rest hno).1;refine⟨⟨fun h=>by simp at h,fun _=>?_⟩,[],?_,?_⟩
  ·simp only[Yz,if_false,q];omega
  ·unfold Zgd stL;rw[ho,zm4 _ _ hno,q];simp
  ·unfold Zgd;simp only[Yeq,if_true,q];rw[h1]
theorem zf9{t:List UInt8}{r:Rd}(hT:RdT t r)(ho:r.over=false):(t.take (r.at_+(Zc r).length)).drop r.at_=Zc r:=by
 have el:Zc r=hdC 10 r.rest:=by unfold Zc;rw[ho];rfl
 rw[←List.take_drop,hT.o ho,el];exact(Yed.1 (List.takeWhile_prefix _)).symm
def ixR(t:List UInt8)(L:List Nat)(r:Rd):Nat:=L.length-(Zgd t r).length
structure RdI (t:List UInt8) (L:List Nat) (r:Rd):Prop where
 k:RdOk t r
 w:RdT t r
 l:(Zgd t r).length≤L.length
 d:L.drop (ixR t L r)=Zgd t r
theorem zcv{t:List UInt8}{L:List Nat}{r:Rd}(h:RdI t L r)(ho:r.over=false) :
  RdI t L (Zo r)∧ixR t L (Zo r)=ixR t L r+1∧L[ixR t L r]? = some r.at_∧L[ixR t L r+1]? = some (r.at_+(Zc r).length+1):=by
 obtain⟨h1,l,h2,h3⟩:=z2x h.k h.w ho;have e:ixR t L (Zo r)=ixR t L r+1:=by
  have:=h.l;unfold ixR;rw[h3];rw[h2]at this ⊢;simp only[Yd]at *
  omega
 have d:=h.d;have hl:=h.l;refine⟨⟨(zf7 h.k ho).1,h1,?_,?_⟩,e,?_,?_⟩
 ·rw[h3];rw[h2]at hl;simp only[Yd]at *;omega
 ·rw[e,←Yct,d,h2,h3];rfl
 ·rw[h2]at d;have:=congrArg (·[0]?) d;simpa using this
 ·rw[h2]at d;have:=congrArg (·[1]?) d;simpa using this
theorem zgt{t:List UInt8}{L:List Nat}{r:Rd}(h:RdI t L r)(ho:r.over=true):ixR t L r+1=L.length∧L[ixR t L r]? = some (t.length+1):=by
 have e:Zgd t r=[t.length+1]:=by unfold Zgd;rw[ho];rfl
 have d:=h.d;have hl:=h.l;rw[e]at d hl;refine⟨?_,?_⟩
 ·unfold ixR;rw[e];simp only[Yd,Y1]at *
  omega
 ·have:=congrArg (·[0]?) d;simpa using this
theorem za0{L:List Nat}{n p:Nat}(h:L[n]? = some p):(Zaf L)[n]? = some [.i .i64 p]:=by
 unfold Zaf;simp[h]
def emC:List AV:=[.s [],.sl [] .an,.sl [] .an,.sl [] .an,.sl [] .an]
def Zil(s:Sg):Heap:=[(.loc 2,⟨1,.str,5,[emC]⟩),(.loc 3,⟨2,.str,2,[[.i .i64 0,.i .i64 0]]⟩),(.loc 4,⟨3,.str,5,[emC]⟩),
 (.loc 6,⟨4,.str,5,[[.s s.nm,.bs (.fld (.loc 6) 1) 5 3 0 s.c.length,.bs (.fld (.loc 6) 2) 6 1 0 s.a.length,.sl [] .an,.sl [] .an]]⟩),
 (.fld (.loc 6) 1,⟨5,.own,3,Zf s.c⟩),(.fld (.loc 6) 2,⟨6,.own,1,Z2 s.a⟩)]
def Zd6(t:List UInt8)(L:List Nat)(n:Nat)(s:Sg):St:=⟨[(0,.s t),(2,.ptr (.loc 2) 1 5 0 0),(3,.ptr (.loc 3) 2 2 0 0),(4,.ptr (.loc 4) 3 5 0 0),(5,.sl (Zaf L) .an),(6,.ptr (.loc 6) 4 5 0 0),(7,.i .i64 n)],Zil s,8⟩
def Zc3(k a:Int):Ex×St:=(.r,⟨[(2,.ptr (.loc 2) 1 5 0 0),(3,.ptr (.loc 3) 2 2 0 0)],[(.loc 2,⟨1,.str,5,[emC]⟩),(.loc 3,⟨2,.str,2,[[.i .i64 k,.i .i64 a]]⟩)],4⟩)
section
variable{T:Tbl}[Zab T][Zu T][Zz T][Z1 T][Zw T][Zs T][Zr T][Za0 T][Zg T][Zj T][Z0 T][Zay T][Z5 T][Zah T][Z3 T][Zaa T][Z4 T][Zai T][Z8 T][Zbv T][Zas T][Zbn T][Zan T]
theorem z72(t:List UInt8)(L:List Nat)(n:Nat)(s:Sg)(hn:n+1=L.length)(hL:L.length≤1000000) :
  Zdk (evX (orc T) T 0 l629_0 (Zd6 t L n s))=true∧Zdj 0 0 (.norm false [0,2,3,4,5,6,7]) (evX (orc T) T 0 l629_0 (Zd6 t L n s))=some (.n,Zd6 t L n s):=by
 have hlen:=za5 L;have hwk:=za6 L;have hws:=zbr (n:=n+1) (show n<n+1 by omega) (by omega);rw[←hn]at hlen;unfold Zd6 Zil emC;generalize Zaf L=R at *
 obtain⟨nm,C,A⟩:=s;dsimp only;constructor<;>simp -implicitDefEqProofs[l629_0,hlen,hws,hwk]
theorem z73(t:List UInt8)(L:List Nat)(n p q:Nat)(s:Sg)(l:List UInt8)(hL:L.length≤1000000)(ht:t.length≤1000000)
  (h0:L[n]? = some p) (h1:L[n+1]? = some (q+1)) (hq:p≤q∧q≤t.length) (hs:(t.take q).drop p=l) (hb:l.contains 124=false) :
  Zdk (evX (orc T) T 0 l629_0 (Zd6 t L n s))=true∧Zdj 0 0 (.norm false [0,2,3,4,5,6,7]) (evX (orc T) T 0 l629_0 (Zd6 t L n s))=some (.n,Zd6 t L n s):=by
 have hlen:=za5 L;have hwk:=za6 L;obtain⟨k1,_⟩:=Yc.1 h1;have hws:=zbr (n:=n+1) (show n<n+1 by omega) (by omega);have hlt:(n:Int)+1<L.length:=by omega
 have hlt2:n+1<L.length:=k1;have hlt3:n<L.length:=by omega
 have i0:=za0 h0;have i1:=za0 h1;have hsub:IntKind.wrap .i64 (q:Int)=(q:Int):=zab _ (by omega);have hll:l.length≤1000000:=by rw[←hs,Yv,Y6];omega
 have cb:=zm3 (T:=T) l hll;have hno:∀b∈l,b≠124:=fun b hb' e=>by rw[e]at hb';rw[Ybd.2 hb']at hb;cases hb
 rw[(zko 124 l hno).1]at cb;unfold Zd6 Zil emC;rw[←hlen]at hlt hlt2 hlt3;generalize Zaf L=R at *
 obtain⟨j0,i0⟩:=Yc.1 i0;obtain⟨j1,i1⟩:=Yc.1 i1;have g0:R[n]? = some (R[n]'j0):=Ya j0;have g1:R[n+1]? = some (R[n+1]'j1):=Ya j1;obtain⟨nm,C,A⟩:=s;obtain⟨hq1,hq2⟩:=hq;dsimp only;have hq1':(p:Int)≤q:=by omega
 have hq2':(q:Int)≤t.length:=by omega
 simp only[Yad,Yae]at i1 hws;clear h0 h1 hno hb hlen;constructor<;>simp -implicitDefEqProofs[l629_0,hlt,hlt2,hlt3,hws,hwk,g0,g1,i0,i1,hsub,hq1,hq2,hq1',hq2',hs,cb]
end
end Go.Ab
end
section
namespace Go.Ab
section
variable{T:Tbl}[Zab T][Zu T][Zz T][Z1 T][Zw T][Zs T][Zr T][Za0 T][Zg T][Zj T][Z0 T][Zay T][Z5 T][Zah T][Z3 T][Zaa T][Z4 T][Zai T][Z8 T][Zbv T][Zas T][Zbn T][Zan T]
structure Bar (T:Tbl) (t:List UInt8) (L:List Nat) (n p q b:Nat) (l f g:List UInt8) (k a:Int) (z:Fz) (k2 a2:Int) (M:List Fz):Prop where
 c1:Zb T 637 [.s l]=some (.i .i64 b)
 c2:Zb T 261 [.s f]=some (.tup [efz z,.i .i64 k,.i .i64 a])
 c3:Zb T 285 [.s g]=some (.tup [.sl (Zf M) .an,.i .i64 k2,.i .i64 a2])
 b1:b<l.length
 s0:(t.take q).drop p=l
 s1:l.take b=f
 s2:l.drop (b+1)=g
 h0:L[n]? = some p
 h1:L[n+1]? = some (q+1)
 q1:p≤q
 q2:q≤t.length
 ht:t.length≤100000
 hL:L.length≤1000000
 a1:0≤a∧a≤200000
 a2:0≤a2∧a2≤200000
theorem z74{t:List UInt8}{L:List Nat}{n p q b:Nat}{l f g:List UInt8}{k a:Int}{z:Fz}{k2 a2:Int}{M:List Fz}(s:Sg)(H:Bar T t L n p q b l f g k a z k2 a2 M)(hk:¬ k=0) :
  evX (orc T) T 0 l629_0 (Zd6 t L n s)=some (Zc3 k (a+p)):=by
 obtain⟨c1,c2,c3,b1,s0,s1,s2,h0,h1,q1,q2,ht,hL,a1,a2⟩:=H;have hlen:=za5 L;have hwk:=za6 L;obtain⟨k1,_⟩:=Yc.1 h1;have hws:=zbr (n:=n+1) (show n<n+1 by omega) (by omega);have hlt:(n:Int)+1<L.length:=by omega
 have hlt2:n+1<L.length:=k1;have hlt3:n<L.length:=by omega
 have i0:=za0 h0;have i1:=za0 h1;have hsub:IntKind.wrap .i64 (q:Int)=(q:Int):=zab _ (by omega);have hll:l.length≤t.length:=by rw[←s0,Yv,Y6];omega
 have hb0:¬ (b:Int)=l.length:=by omega
 have hb1:¬ b=l.length:=by omega
 have hb2:b≤l.length:=by omega
 have hb3:(b:Int)≤l.length:=by omega
 have hadd:IntKind.wrap .i64 ((p:Int)+a)=a+p:=by rw[zab _ (by omega)];omega
 unfold Zd6 Zil Zc3 emC;rw[←hlen]at hlt hlt2 hlt3;generalize Zaf L=R at *
 obtain⟨j0,i0⟩:=Yc.1 i0;obtain⟨j1,i1⟩:=Yc.1 i1;have g0:R[n]? = some (R[n]'j0):=Ya j0;have g1:R[n+1]? = some (R[n+1]'j1):=Ya j1;obtain⟨nm,C,A⟩:=s;obtain⟨z1,z2,z3⟩:=z;dsimp only;have hq1':(p:Int)≤q:=by omega
 have hq2':(q:Int)≤t.length:=by omega
 simp only[Yad,Yae]at i1 hws;clear h0 h1 c3 s2 hlen b1;simp -implicitDefEqProofs[l629_0,hlt,hlt2,hlt3,hws,hwk,g0,g1,i0,i1,hsub,q1,q2,hq1',hq2',s0,s1,c1,c2,hb0,hb1,hb2,hb3,hk,hadd]
theorem z77{t:List UInt8}{L:List Nat}{n p q b:Nat}{l f g:List UInt8}{a:Int}{z:Fz}{k2 a2:Int}{M:List Fz}(s:Sg)(H:Bar T t L n p q b l f g 0 a z k2 a2 M)(hk:¬ k2=0) :
  evX (orc T) T 0 l629_0 (Zd6 t L n s)=some (Zc3 k2 (a2+((p:Int)+b+1))):=by
 obtain⟨c1,c2,c3,b1,s0,s1,s2,h0,h1,q1,q2,ht,hL,a1,a3⟩:=H;have hlen:=za5 L;have hwk:=za6 L;obtain⟨k1,_⟩:=Yc.1 h1;have hws:=zbr (n:=n+1) (show n<n+1 by omega) (by omega);have hlt:(n:Int)+1<L.length:=by omega
 have hlt2:n+1<L.length:=k1;have hlt3:n<L.length:=by omega
 have i0:=za0 h0;have i1:=za0 h1;have hsub:IntKind.wrap .i64 (q:Int)=(q:Int):=zab _ (by omega);have hll:l.length≤t.length:=by rw[←s0,Yv,Y6];omega
 have hb0:¬ (b:Int)=l.length:=by omega
 have hb1:¬ b=l.length:=by omega
 have hb2:b≤l.length:=by omega
 have hb3:(b:Int)≤l.length:=by omega
 have hwb:IntKind.wrap .i64 ((b:Int)+1)=(b:Int)+1:=zab _ (by omega);have hb4:b+1≤l.length:=by omega
 have hb5:(b:Int)+1≤l.length:=by omega
 have w1:IntKind.wrap .i64 ((p:Int)+b)=(p:Int)+b:=zab _ (by omega);have w2:IntKind.wrap .i64 ((p:Int)+b+1)=(p:Int)+b+1:=zab _ (by omega);have w3:IntKind.wrap .i64 ((p:Int)+b+1+a2)=a2+((p:Int)+b+1):=by rw[zab _ (by omega)];omega
 unfold Zd6 Zil Zc3 emC;rw[←hlen]at hlt hlt2 hlt3;generalize Zaf L=R at *
 generalize Zf M=RM at *
 obtain⟨j0,i0⟩:=Yc.1 i0;obtain⟨j1,i1⟩:=Yc.1 i1;have g0:R[n]? = some (R[n]'j0):=Ya j0;have g1:R[n+1]? = some (R[n+1]'j1):=Ya j1;obtain⟨nm,C,A⟩:=s;obtain⟨z1,z2,z3⟩:=z;dsimp only;have hq1':(p:Int)≤q:=by omega
 have hq2':(q:Int)≤t.length:=by omega
 simp only[Yad,Yae]at i1 hws;clear h0 h1 hlen b1;simp -implicitDefEqProofs[l629_0,hlt,hlt2,hlt3,hws,hwk,g0,g1,i0,i1,hsub,q1,q2,hq1',hq2',s0,s1,s2,c1,c2,c3,hb0,hb1,hb2,hb3,hwb,hb4,hb5,hk,w1,w2,w3]
theorem z2y{t:List UInt8}{L:List Nat}{n p q b:Nat}{l f g:List UInt8}{a:Int}{z:Fz}{a2:Int}{M:List Fz}(s:Sg)(H:Bar T t L n p q b l f g 0 a z 0 a2 M)(hc:s.c.length≤1000000)(hA:s.a.length≤1000000) :
  evX (orc T) T 0 l629_0 (Zd6 t L n s)=some (.n,Zd6 t L (n+1) ⟨s.nm,s.c++[z],s.a++[M]⟩):=by
 obtain⟨c1,c2,c3,b1,s0,s1,s2,h0,h1,q1,q2,ht,hL,a1,a3⟩:=H;have hlen:=za5 L;have hwk:=za6 L;obtain⟨k1,_⟩:=Yc.1 h1;have hws:=zbr (n:=n+1) (show n<n+1 by omega) (by omega);have hlt:(n:Int)+1<L.length:=by omega
 have hlt2:n+1<L.length:=k1;have hlt3:n<L.length:=by omega
 have i0:=za0 h0;have i1:=za0 h1;have hsub:IntKind.wrap .i64 (q:Int)=(q:Int):=zab _ (by omega);have hll:l.length≤t.length:=by rw[←s0,Yv,Y6];omega
 have hb0:¬ (b:Int)=l.length:=by omega
 have hb1:¬ b=l.length:=by omega
 have hb2:b≤l.length:=by omega
 have hb3:(b:Int)≤l.length:=by omega
 have hwb:IntKind.wrap .i64 ((b:Int)+1)=(b:Int)+1:=zab _ (by omega);have hb4:b+1≤l.length:=by omega
 have hb5:(b:Int)+1≤l.length:=by omega
 unfold Zd6 Zil emC;rw[←hlen]at hlt hlt2 hlt3;generalize Zaf L=R at *
 obtain⟨j0,i0⟩:=Yc.1 i0;obtain⟨j1,i1⟩:=Yc.1 i1;have g0:R[n]? = some (R[n]'j0):=Ya j0;have g1:R[n+1]? = some (R[n+1]'j1):=Ya j1;obtain⟨nm,C,A⟩:=s;have p1:=zih C z;have p2:Z2 A++[[.sl (Zf M) .an]]=Z2 (A++[M]):=by simp[Z2]
 have t1:List.take C.length C=C:=Ybf;have t2:List.take A.length A=A:=Ybf;have h1:C.length+1≤4294967296:=by dsimp only at hc;omega
 have h2:A.length+1≤4294967296:=by dsimp only at hA;omega
 obtain⟨z1,z2,z3⟩:=z;dsimp only;have hq1':(p:Int)≤q:=by omega
 have hq2':(q:Int)≤t.length:=by omega
 simp only[Yad,Yae]at i1 hws;rw[Yu,Yu];clear h0 hlen b1;simp -implicitDefEqProofs[l629_0,hlt,hlt2,hlt3,hws,hwk,g0,g1,i0,i1,hsub,q1,q2,hq1',hq2',s0,s1,s2,c1,c2,c3,hb0,hb1,hb2,hb3,hwb,hb4,hb5,p1,p2,t1,t2,h1,h2]
end
end Go.Ab
end
section
namespace Go.Ab
theorem zv5{f:Int×Int}(h:f.1≠0)(b:Int):shF f b=(f.1,f.2+b):=by
 unfold shF;rw[if_neg (fun e=>h (by rw[e]))]
theorem zv6{l:List UInt8}{p:Int}(h:(Z6 (hdC 124 l)).2.1≠0):(Zbr l p).2.2=((Z6 (hdC 124 l)).2.1,(Z6 (hdC 124 l)).2.2+p):=by
 unfold Zbr;rw[if_pos (fun e=>h (by rw[e]))];exact zv5 h p
theorem zv7{w:List UInt8}(h:(Z6 w).2.1=0):(Z6 w).2=(0,0):=by
 have:=zcb w;exact Prod.ext h (by show (Z6 w).2.2=0;omega)
theorem zv8{w:List UInt8}(h:(Za2 w).2.1=0):(Za2 w).2=(0,0):=by
 have:=zce w;exact Prod.ext h (by show (Za2 w).2.2=0;omega)
theorem zv9{l:List UInt8}{p:Int}(h:(Z6 (hdC 124 l)).2.1=0)(h2:(Za2 (tlC 124 l)).2.1≠0) :
  (Zbr l p).2.2=((Za2 (tlC 124 l)).2.1,(Za2 (tlC 124 l)).2.2+(p+(hdC 124 l).length+1)):=by
 unfold Zbr;rw[if_neg (fun e=>e (zv7 h))];exact zv5 h2 _
theorem z2z{l:List UInt8}{p:Int}(h:(Z6 (hdC 124 l)).2.1=0)(h2:(Za2 (tlC 124 l)).2.1=0) :
  Zbr l p=((Z6 (hdC 124 l)).1,(Za2 (tlC 124 l)).1,0,0):=by
 unfold Zbr;rw[if_neg (fun e=>e (zv7 h)),zv8 h2]
 rfl
section
variable{T:Tbl}[Zab T][Zu T][Zz T][Z1 T][Zw T][Zs T][Zr T][Za0 T][Zg T][Zj T][Z0 T][Zay T][Z5 T][Zah T][Z3 T][Zaa T][Z4 T][Zai T][Z8 T][Zbv T][Zas T][Zbn T][Zcv T][Zao T][Zby T][Zcu T][Zaz T][Zcj T][Zco T][Zan T]
theorem z78{t:List UInt8}{L:List Nat}{r:Rd}(hI:RdI t L r)(ho:r.over=false)(hb:(Zc r).contains 124=true)(ht:t.length≤50000)(hL:L.length≤1000000) :
  Bar T t L (ixR t L r) r.at_ (r.at_+(Zc r).length) (hdC 124 (Zc r)).length (Zc r) (hdC 124 (Zc r)) (tlC 124 (Zc r)) (Z6 (hdC 124 (Zc r))).2.1 (Z6 (hdC 124 (Zc r))).2.2
   (fz (Z6 (hdC 124 (Zc r))).1) (Za2 (tlC 124 (Zc r))).2.1 (Za2 (tlC 124 (Zc r))).2.2 (fzs (Za2 (tlC 124 (Zc r))).1):=by
 obtain⟨_,_,h0,h1⟩:=zcv hI ho;have hl:=hI.k.l;have hs:=hI.k.s ho;have el:Zc r=hdC 10 r.rest:=by unfold Zc;rw[ho];rfl
 have hle:(Zc r).length≤r.rest.length:=by rw[el];exact zmu 10 r.rest
 have hc:=zkq (Zc r) 124 hb;have f1:=zcb (hdC 124 (Zc r));have f2:=zce (tlC 124 (Zc r));refine⟨zm3 (T:=T) (Zc r) (by omega),zjh (T:=T) _ (by omega),zex (T:=T) _ (by omega),by omega,zf9 hI.w ho,zy4 124 _,zpy 124 _,h0,h1,by omega,by omega,by omega,hL,by omega,by omega⟩
def Zim(t:List UInt8)(L:List Nat)(R:Rd×Sg×Int×Int):Ex×St:=if R.2.2=(0,0) then (.n,Zd6 t L (ixR t L R.1) R.2.1) else Zc3 R.2.2.1 R.2.2.2
theorem zcn(k a:Int)(id:Nat)(live:List Nat):Zdk (some (Zc3 k a))=true∧Zdj 0 id (.norm false live) (some (Zc3 k a))=some (Zc3 k a):=by
 unfold Zc3;constructor<;>simp -implicitDefEqProofs
theorem z79(t:List UInt8)(L:List Nat)(ht:t.length≤50000)(hL:L.length≤1000000)(n:Nat)(r:Rd)(s:Sg)(hr:RdI t L r)(hn:muR r<n)(hc:s.c.length+n≤1000000)(ha:s.a.length+n≤1000000) :
  Zn T 0 0 (.norm false [0,2,3,4,5,6,7]) l629_0 (Zd6 t L (ixR t L r) s)=some (Zim t L (Zac t n r s)):=by
 refine zan (T:=T) (k:=0) (id:=0) (g2:=.norm false [0,2,3,4,5,6,7]) (c:=l629_0) (fun x:Nat×Rd×Sg=>Zd6 t L (ixR t L x.2.1) x.2.2)
  (fun x=>RdI t L x.2.1∧muR x.2.1<x.1∧x.2.2.c.length+x.1≤1000000∧x.2.2.a.length+x.1≤1000000) (fun x=>x.1)
  (fun x=>some (Zim t L (Zac t x.1 x.2.1 x.2.2))) ?_ (n,r,s) ⟨hr,hn,hc,ha⟩
 rintro⟨n,r,s⟩ ⟨hr,hn,hc,ha⟩
 dsimp only at *
 obtain⟨m,rfl⟩:∃m,n=m+1:=⟨n-1,by omega⟩;cases ho:r.over with
 | true=>
  right;have e:Zac t (m+1) r s=(r,s,0,0):=by rw[Zac,if_pos ho]
  rw[e];obtain⟨e1,_⟩:=zgt hr ho;obtain⟨q1,q2⟩:=z72 (T:=T) t L (ixR t L r) s e1 hL;refine⟨q1,q2.trans ?_⟩;unfold Zim;rw[if_pos rfl]
 | false=>
 obtain⟨hI2,hx,h0,h1⟩:=zcv hr ho;have hs:=hr.k.s ho;have el:Zc r=hdC 10 r.rest:=by unfold Zc;rw[ho];rfl
 have hle:(Zc r).length≤r.rest.length:=by rw[el];exact zmu 10 r.rest
 cases hb:(Zc r).contains 124 with
 | false=>
  right;have e:Zac t (m+1) r s=(r,s,0,0):=by
   rw[Zac,if_neg (by rw[ho];decide),if_pos hb,hr.w.o ho];obtain⟨a1,a2,a3⟩:=r;dsimp only at ho;rw[ho]
  rw[e];obtain⟨q1,q2⟩:=z73 (T:=T) t L (ixR t L r) r.at_ (r.at_+(Zc r).length) s (Zc r) hL (by omega) h0 h1 (by omega) (zf9 hr.w ho) hb;refine⟨q1,q2.trans ?_⟩;unfold Zim;rw[if_pos rfl]
 | true=>
 have B:=z78 (T:=T) hr ho hb ht hL;by_cases hk:(Z6 (hdC 124 (Zc r))).2.1=0
 ·rw[hk]at B;by_cases hk2:(Za2 (tlC 124 (Zc r))).2.1=0
  ·left;rw[hk2]at B;have hok:=z2z (p:=(r.at_:Int)) hk hk2;have e:Zac t (m+1) r s=Zac t m (Zo r) ⟨s.nm,s.c++[fz (Zbr (Zc r) r.at_).1],s.a++[fzs (Zbr (Zc r) r.at_).2.1]⟩:=by
    rw[Zac,if_neg (by rw[ho];decide),if_neg (by rw[hb];decide),if_neg (by rw[hok];simp)]
   have e2:=z2y (T:=T) s B (by omega) (by omega);rw[hok]at e;rw[←hx]at e2;have hmu:=(zf7 hr.k ho).2;refine⟨(m,Zo r,⟨s.nm,s.c++[fz (Z6 (hdC 124 (Zc r))).1],s.a++[fzs (Za2 (tlC 124 (Zc r))).1]⟩),⟨hI2,show muR (Zo r)<m by omega,?_,?_⟩,by show m<m+1;omega,e2,by rw[e]⟩
   ·simp only[Yu,Yd,Y1];omega
   ·simp only[Yu,Yd,Y1];omega
  ·right;have hbad:=zv9 (p:=(r.at_:Int)) hk hk2;have e:Zac t (m+1) r s=(Zo r,s,(Zbr (Zc r) r.at_).2.2):=by
    rw[Zac,if_neg (by rw[ho];decide),if_neg (by rw[hb];decide),if_pos (by rw[hbad];exact fun e=>hk2 (congrArg (·.1) e))]
   rw[e,z77 (T:=T) s B hk2,hbad];unfold Zim;rw[if_neg (fun e=>hk2 (congrArg (·.1) e))];exact zcn _ _ _ _
 ·right;have hbad:=zv6 (p:=(r.at_:Int)) hk;have e:Zac t (m+1) r s=(Zo r,s,(Zbr (Zc r) r.at_).2.2):=by
   rw[Zac,if_neg (by rw[ho];decide),if_neg (by rw[hb];decide),if_pos (by rw[hbad];exact fun e=>hk (congrArg (·.1) e))]
  rw[e,z74 (T:=T) s B hk,hbad];unfold Zim;rw[if_neg (fun e=>hk (congrArg (·.1) e))];exact zcn _ _ _ _
end
end Go.Ab
end
section
namespace Go.Ab
def bxQ(s:Sg)(B E:List Fz):Heap:=[(.loc 2,⟨1,.str,5,[emC]⟩),(.loc 3,⟨2,.str,2,[[.i .i64 0,.i .i64 0]]⟩),(.loc 4,⟨3,.str,5,[emC]⟩),
 (.loc 6,⟨4,.str,5,[[.s s.nm,.bs (.fld (.loc 6) 1) 5 3 0 s.c.length,.bs (.fld (.loc 6) 2) 6 1 0 s.a.length,.sl (Zf B) .an,.sl (Zf E) .an]]⟩),
 (.fld (.loc 6) 1,⟨5,.own,3,Zf s.c⟩),(.fld (.loc 6) 2,⟨6,.own,1,Z2 s.a⟩)]
def stQ(t:List UInt8)(L:List Nat)(n:Nat)(s:Sg)(B E:List Fz)(j:Nat):St:=⟨[(0,.s t),(2,.ptr (.loc 2) 1 5 0 0),(3,.ptr (.loc 3) 2 2 0 0),(4,.ptr (.loc 4) 3 5 0 0),(5,.sl (Zaf L) .an),(6,.ptr (.loc 6) 4 5 0 0),(7,.i .i64 n),(14,.i .i64 j)],bxQ s B E,8⟩
def stE(L:List Nat)(n:Nat)(s:Sg)(B E:List Fz):St:=⟨[(2,.ptr (.loc 2) 1 5 0 0),(3,.ptr (.loc 3) 2 2 0 0),(4,.ptr (.loc 4) 3 5 0 0),(5,.sl (Zaf L) .an),(6,.ptr (.loc 6) 4 5 0 0),(7,.i .i64 n)],bxQ s B E,8⟩
section
variable{T:Tbl}[Zab T][Zu T][Zz T][Z1 T][Zw T][Zs T][Zr T][Za0 T][Zg T][Zj T][Z0 T][Zay T][Z5 T][Zah T][Z3 T][Zaa T][Z4 T][Zai T][Z8 T][Zbv T][Zas T][Zbn T][Zan T]
theorem zagh(t:List UInt8)(L:List Nat)(n:Nat)(s:Sg)(B E:List Fz) :
  Zdk (evX (orc T) T 0 l629_1 (stQ t L n s B E 2))=true∧Zdj 0 2 (.norm false [2,3,4,5,6,7]) (evX (orc T) T 0 l629_1 (stQ t L n s B E 2))=some (.n,stE L n s B E):=by
 have hwk:=za6 L;unfold stQ stE bxQ emC;generalize Zaf L=R at *
 obtain⟨nm,C,A⟩:=s;dsimp only;constructor<;>simp -implicitDefEqProofs[l629_1,hwk]
theorem z8a(t:List UInt8)(L:List Nat)(n:Nat)(s:Sg)(B E:List Fz)(hn:n+1=L.length)(hL:L.length≤1000000) :
  Zdk (evX (orc T) T 0 l629_1 (stQ t L n s B E 1))=true∧Zdj 0 2 (.norm false [2,3,4,5,6,7]) (evX (orc T) T 0 l629_1 (stQ t L n s B E 1))=some (.n,stE L n s B E):=by
 have hwk:=za6 L;have hlen:=za5 L;have hws:=zbr (n:=n+1) (show n<n+1 by omega) (by omega);rw[←hn]at hlen;unfold stQ stE bxQ emC;generalize Zaf L=R at *
 obtain⟨nm,C,A⟩:=s;dsimp only;simp only[Yad,Yae]at hws;constructor<;>simp -implicitDefEqProofs[l629_1,hwk,hlen,hws]
theorem z8b(t:List UInt8)(L:List Nat)(n:Nat)(s:Sg)(B E:List Fz)(hn:n+1=L.length)(hL:L.length≤1000000)(ht:t.length≤100000)(h0:L[n]? = some (t.length+1)) :
  evX (orc T) T 0 l629_1 (stQ t L n s B E 0)=some (Zc3 1 t.length):=by
 have hwk:=za6 L;have hlen:=za5 L;have hws:=zbr (n:=n+1) (show n<n+1 by omega) (by omega);have hlt3:n<L.length:=by omega
 have i0:=za0 h0;have hmin:¬ (t.length:Int)+1≤t.length:=by omega
 have hmin2:(t.length:Int)<(t.length:Int)+1:=by omega
 have hnn:(n:Int)<(n:Int)+1:=by omega
 rw[←hlen]at hlt3;rw[←hn]at hlen;unfold stQ Zc3 bxQ emC;generalize Zaf L=R at *
 obtain⟨j0,i0⟩:=Yc.1 i0;have g0:R[n]? = some (R[n]'j0):=Ya j0;obtain⟨nm,C,A⟩:=s;dsimp only;simp only[Yad,Yae]at hws i0;clear h0;simp -implicitDefEqProofs[l629_1,hwk,hlen,hws,hlt3,g0,i0,hmin,hmin2,hnn]
structure Lin (t:List UInt8) (L:List Nat) (n p q:Nat) (l:List UInt8):Prop where
 s0:(t.take q).drop p=l
 h0:L[n]? = some p
 h1:L[n+1]? = some (q+1)
 q1:p≤q
 q2:q≤t.length
 ht:t.length≤100000
 hL:L.length≤1000000
theorem z8c(j:Nat)(c:UInt8)(hj:j=0∧c=98∨j=1∧c=101){t:List UInt8}{L:List Nat}{n p q:Nat}{l:List UInt8}(s:Sg)(B E:List Fz)(H:Lin t L n p q l)(hl:¬ l.take 2=[c,32]) :
  evX (orc T) T 0 l629_1 (stQ t L n s B E j)=some (Zc3 1 p):=by
 obtain⟨s0,h0,h1,q1,q2,ht,hL⟩:=H;have hwk:=za6 L;have hlen:=za5 L;obtain⟨k1,_⟩:=Yc.1 h1;have hws:=zbr (n:=n+1) (show n<n+1 by omega) (by omega);have hlt:(n:Int)+1<L.length:=by omega
 have hlt2:n+1<L.length:=k1;have hlt3:n<L.length:=by omega
 have hne:¬ n+1=L.length:=by omega
 have hne':¬ (n:Int)+1=L.length:=by omega
 have i0:=za0 h0;have i1:=za0 h1;have hsub:IntKind.wrap .i64 (q:Int)=(q:Int):=zab _ (by omega);have hq1':(p:Int)≤q:=by omega
 have hq2':(q:Int)≤t.length:=by omega
 have hpt:(p:Int)≤t.length:=by omega
 have hpt2:¬ (t.length:Int)<p:=by omega
 unfold stQ Zc3 bxQ emC;rw[←hlen]at hlt hlt2 hlt3 hne hne';generalize Zaf L=R at *
 obtain⟨j0,i0⟩:=Yc.1 i0;obtain⟨j1,i1⟩:=Yc.1 i1;have g0:R[n]? = some (R[n]'j0):=Ya j0;have g1:R[n+1]? = some (R[n+1]'j1):=Ya j1;obtain⟨nm,C,A⟩:=s;dsimp only;simp only[Yad,Yae]at i1 hws;clear h0 h1 hlen;by_cases h2:l.length<2
 ·have h2':(l.length:Int)<2:=by omega
  rcases hj with ⟨rfl,rfl⟩ | ⟨rfl,rfl⟩<;>simp -implicitDefEqProofs[l629_1,hlt,hlt2,hlt3,hne,hne',hws,hwk,g0,g1,i0,i1,hsub,q1,q2,hq1',hq2',s0,h2,h2',hpt,hpt2]
 ·have h2':¬ (l.length:Int)<2:=by omega
  have h3:2≤l.length:=by omega
  have h3':(2:Int)≤l.length:=by omega
  rcases hj with ⟨rfl,rfl⟩ | ⟨rfl,rfl⟩<;>simp -implicitDefEqProofs[l629_1,hlt,hlt2,hlt3,hne,hne',hws,hwk,g0,g1,i0,i1,hsub,q1,q2,hq1',hq2',s0,h2,h2',h3,h3',hpt,hpt2,hl]
theorem zwa(j:Nat)(c:UInt8)(hj:j=0∧c=98∨j=1∧c=101){t:List UInt8}{L:List Nat}{n p q:Nat}{l g:List UInt8}{k a:Int}{M:List Fz}(s:Sg)(B E:List Fz)(H:Lin t L n p q l)(hl:l.take 2=[c,32])
  (hg:l.drop 2=g) (c1:Zb T 285 [.s g]=some (.tup [.sl (Zf M) .an,.i .i64 k,.i .i64 a])) (hk:¬ k=0) (ha:0≤a∧a≤200000) :
  evX (orc T) T 0 l629_1 (stQ t L n s B E j)=some (Zc3 k (a+((p:Int)+2))):=by
 obtain⟨s0,h0,h1,q1,q2,ht,hL⟩:=H;have hwk:=za6 L;have hlen:=za5 L;obtain⟨k1,_⟩:=Yc.1 h1;have hws:=zbr (n:=n+1) (show n<n+1 by omega) (by omega);have hlt:(n:Int)+1<L.length:=by omega
 have hlt2:n+1<L.length:=k1;have hlt3:n<L.length:=by omega
 have hne:¬ n+1=L.length:=by omega
 have hne':¬ (n:Int)+1=L.length:=by omega
 have i0:=za0 h0;have i1:=za0 h1;have hsub:IntKind.wrap .i64 (q:Int)=(q:Int):=zab _ (by omega);have hq1':(p:Int)≤q:=by omega
 have hq2':(q:Int)≤t.length:=by omega
 have h3:2≤l.length:=by
  have:=congrArg List.length hl;rw[Y6]at this;simp only[Yd,Y1]at this;omega
 have h3':(2:Int)≤l.length:=by omega
 have h2:¬ l.length<2:=by omega
 have h2':¬ (l.length:Int)<2:=by omega
 have w1:IntKind.wrap .i64 ((p:Int)+2)=(p:Int)+2:=zab _ (by omega);have w2:IntKind.wrap .i64 ((p:Int)+2+a)=a+((p:Int)+2):=by rw[zab _ (by omega)];omega
 unfold stQ Zc3 bxQ emC;rw[←hlen]at hlt hlt2 hlt3 hne hne';generalize Zaf L=R at *
 generalize Zf M=RM at *
 obtain⟨j0,i0⟩:=Yc.1 i0;obtain⟨j1,i1⟩:=Yc.1 i1;have g0:R[n]? = some (R[n]'j0):=Ya j0;have g1:R[n+1]? = some (R[n+1]'j1):=Ya j1;obtain⟨nm,C,A⟩:=s;dsimp only;simp only[Yad,Yae]at i1 hws;clear h0 h1 hlen;rcases hj with ⟨rfl,rfl⟩ | ⟨rfl,rfl⟩<;>simp -implicitDefEqProofs[l629_1,hlt,hlt2,hlt3,hne,hne',hws,hwk,g0,g1,i0,i1,hsub,q1,q2,hq1',hq2',s0,h2,h2',h3,h3',hl,hg,c1,hk,w1,w2]
theorem zagi{t:List UInt8}{L:List Nat}{n p q:Nat}{l g:List UInt8}{a:Int}{M:List Fz}(s:Sg)(B E:List Fz)(H:Lin t L n p q l)(hl:l.take 2=[98,32])
  (hg:l.drop 2=g) (c1:Zb T 285 [.s g]=some (.tup [.sl (Zf M) .an,.i .i64 0,.i .i64 a])) :
  evX (orc T) T 0 l629_1 (stQ t L n s B E 0)=some (.n,stQ t L (n+1) s M E 1):=by
 obtain⟨s0,h0,h1,q1,q2,ht,hL⟩:=H;have hwk:=za6 L;have hlen:=za5 L;obtain⟨k1,_⟩:=Yc.1 h1;have hws:=zbr (n:=n+1) (show n<n+1 by omega) (by omega);have hlt:(n:Int)+1<L.length:=by omega
 have hlt2:n+1<L.length:=k1;have hlt3:n<L.length:=by omega
 have hne:¬ n+1=L.length:=by omega
 have hne':¬ (n:Int)+1=L.length:=by omega
 have i0:=za0 h0;have i1:=za0 h1;have hsub:IntKind.wrap .i64 (q:Int)=(q:Int):=zab _ (by omega);have hq1':(p:Int)≤q:=by omega
 have hq2':(q:Int)≤t.length:=by omega
 have h3:2≤l.length:=by
  have:=congrArg List.length hl;rw[Y6]at this;simp only[Yd,Y1]at this;omega
 have h3':(2:Int)≤l.length:=by omega
 have h2:¬ l.length<2:=by omega
 have h2':¬ (l.length:Int)<2:=by omega
 unfold stQ bxQ emC;rw[←hlen]at hlt hlt2 hlt3 hne hne';generalize Zaf L=R at *
 obtain⟨j0,i0⟩:=Yc.1 i0;obtain⟨j1,i1⟩:=Yc.1 i1;have g0:R[n]? = some (R[n]'j0):=Ya j0;have g1:R[n+1]? = some (R[n+1]'j1):=Ya j1;obtain⟨nm,C,A⟩:=s;dsimp only;simp only[Yad,Yae]at i1 hws;clear h0 h1 hlen;simp -implicitDefEqProofs[l629_1,hlt,hlt2,hlt3,hne,hne',hws,hwk,g0,g1,i0,i1,hsub,q1,q2,hq1',hq2',s0,h2,h2',h3,h3',hl,hg,c1]
theorem zagj{t:List UInt8}{L:List Nat}{n p q:Nat}{l g:List UInt8}{a:Int}{M:List Fz}(s:Sg)(B E:List Fz)(H:Lin t L n p q l)(hl:l.take 2=[101,32])
  (hg:l.drop 2=g) (c1:Zb T 285 [.s g]=some (.tup [.sl (Zf M) .an,.i .i64 0,.i .i64 a])) :
  evX (orc T) T 0 l629_1 (stQ t L n s B E 1)=some (.n,stQ t L (n+1) s B M 2):=by
 obtain⟨s0,h0,h1,q1,q2,ht,hL⟩:=H;have hwk:=za6 L;have hlen:=za5 L;obtain⟨k1,_⟩:=Yc.1 h1;have hws:=zbr (n:=n+1) (show n<n+1 by omega) (by omega);have hlt:(n:Int)+1<L.length:=by omega
 have hlt2:n+1<L.length:=k1;have hlt3:n<L.length:=by omega
 have hne:¬ n+1=L.length:=by omega
 have hne':¬ (n:Int)+1=L.length:=by omega
 have i0:=za0 h0;have i1:=za0 h1;have hsub:IntKind.wrap .i64 (q:Int)=(q:Int):=zab _ (by omega);have hq1':(p:Int)≤q:=by omega
 have hq2':(q:Int)≤t.length:=by omega
 have h3:2≤l.length:=by
  have:=congrArg List.length hl;rw[Y6]at this;simp only[Yd,Y1]at this;omega
 have h3':(2:Int)≤l.length:=by omega
 have h2:¬ l.length<2:=by omega
 have h2':¬ (l.length:Int)<2:=by omega
 unfold stQ bxQ emC;rw[←hlen]at hlt hlt2 hlt3 hne hne';generalize Zaf L=R at *
 obtain⟨j0,i0⟩:=Yc.1 i0;obtain⟨j1,i1⟩:=Yc.1 i1;have g0:R[n]? = some (R[n]'j0):=Ya j0;have g1:R[n+1]? = some (R[n+1]'j1):=Ya j1;obtain⟨nm,C,A⟩:=s;dsimp only;simp only[Yad,Yae]at i1 hws;clear h0 h1 hlen;simp -implicitDefEqProofs[l629_1,hlt,hlt2,hlt3,hne,hne',hws,hwk,g0,g1,i0,i1,hsub,q1,q2,hq1',hq2',s0,h2,h2',h3,h3',hl,hg,c1]
end
end Go.Ab
end
section
namespace Go.Ab
theorem zu4{c:UInt8}{n:Nat}(hn:n<256)(h:c≠UInt8.ofNat n):¬ c.toNat=n:=fun e=>h (by
 grind[UInt8.toNat_inj,UInt8.toNat_ofNat'])
section
variable{T:Tbl}[Zba T]
theorem zh2(c:UInt8):Zb T 189 [u8 c.toNat]=some (.b (isD c)):=by
 rw[zac Zba.h189 rfl,b189];by_cases h1:48≤c.toNat
 ·simp -implicitDefEqProofs[isD,h1]
 ·simp -implicitDefEqProofs[isD,h1]
theorem zgj(c:UInt8):Zb T 190 [u8 c.toNat]=some (.b (isL c)):=by
 rw[zac Zba.h190 rfl,b190];by_cases h1:97≤c.toNat<;>by_cases h2:c.toNat≤122<;>by_cases h3:65≤c.toNat<;>by_cases h4:c.toNat≤90<;>by_cases h5:c.toNat=95 <;>
  simp -implicitDefEqProofs[isL,h1,h2,h3,h4,h5]
end
section
variable{T:Tbl}
theorem zu5(c:UInt8)(l:List UInt8)(hl:l.length≤1000)(R:Bool):∀i:Nat,(i≤l.length∧(l.drop i).contains c=R) →
  Zn T 0 0 (.norm false []) l181_0 ⟨[(0,u8 c.toNat),(3,.s l),(4,.i .i64 i)],[],2⟩=if R=true then some (.r,⟨[(2,.i .i64 3)],[],2⟩) else some (.n,⟨[],[],2⟩):=by
 refine zan (fun i:Nat=>⟨[(0,u8 c.toNat),(3,.s l),(4,.i .i64 i)],[],2⟩) _ (fun i=>l.length-i) _ ?_
 rintro i ⟨hi,hR⟩
 by_cases h0:i<l.length
 ·have hg:l[i]? = some (l[i]'h0):=Ya h0;have hd:=Yk h0;have hw:IntKind.wrap .i64 ((i:Int)+1)=((i+1:Nat):Int):=zab _ (by omega);rw[hd,List.contains_cons]at hR;by_cases hc:(l[i]'h0).toNat=c.toNat
  ·right;have:c=l[i]'h0:=(UInt8.toNat_inj.1 hc).symm;have hR':R=true:=by grind
   subst hR';clear hR hd;constructor<;>simp -implicitDefEqProofs[l181_0,h0,hc]
  ·left;have hne:(c == l[i]'h0)=false:=by
    grind
   rw[hne,Bool.false_or]at hR;refine⟨i+1,⟨h0,hR⟩,by omega,?_,rfl⟩;simp -implicitDefEqProofs[l181_0,h0,hc,hw]
 ·right;have:i=l.length:=by omega
  subst this;subst hR;constructor<;>simp -implicitDefEqProofs[l181_0]
end
section
variable{T:Tbl}[Zba T]
theorem zec(c:UInt8):Zb T 181 [u8 c.toNat]=some (.i .i64 (Zi c)):=by
 have h1:=zh2 (T:=T) c;have h2:=zgj (T:=T) c;have h:=zu5 (T:=T) c Zg7 (by decide) _ 0 ⟨by decide,rfl⟩;rw[Yaa,show Zg7.contains c=isS c from rfl]at h;simp only[Zg7]at h;rw[zac Zba.h181 rfl,b181];cases e1:isD c<;>cases e2:isL c<;>cases e3:isS c<;>simp only[e3]at h<;>simp at h<;>simp -implicitDefEqProofs[Zi,h1,h2,h,e1,e2,e3]
theorem zf3(k:Nat)(c:UInt8):Zb T 180 [.i .i64 k,u8 c.toNat]=some (.b (Zap k c)):=by
 have h1:=zh2 (T:=T) c;have h2:=zgj (T:=T) c;rw[zac Zba.h180 rfl,b180];by_cases k1:k=1
 ·subst k1;cases e1:isD c<;>cases e2:isL c<;>simp -implicitDefEqProofs[Zap,h1,e1,e2]
 ·have k1':¬ (k:Int)=1:=by omega
  by_cases k2:k=2
  ·subst k2;cases e1:isD c<;>cases e2:isL c<;>simp -implicitDefEqProofs[Zap,h1,h2,e1,e2]
  ·have k2':¬ (k:Int)=2:=by omega
   simp -implicitDefEqProofs[Zap,k1,k2,k1',k2']
theorem zf4(k:Nat):Zb T 182 [.i .i64 k]=some (.i .i64 (Zaw k)):=by
 rw[zac Zba.h182 rfl,b182];by_cases k1:k=1
 ·subst k1;simp -implicitDefEqProofs[Zaw]
 ·have k1':¬ (k:Int)=1:=by omega
  by_cases k2:k=2
  ·subst k2;simp -implicitDefEqProofs[Zaw]
  ·have k2':¬ (k:Int)=2:=by omega
   simp -implicitDefEqProofs[Zaw,k1,k2,k1',k2']
def Zc0(s:List UInt8)(i:Nat)(note:Bool)(acc:List Wd):St:=
 ⟨[(0,.s s),(4,.bs (.loc 4) 1 3 0 acc.length),(5,.b note),(6,.i .i64 i)],[(.loc 4,⟨1,.own,3,Zae acc⟩)],3⟩
def Zev:Except Nat (List Wd)→Option (Ex×St)
 | .ok ws=>some (.n,⟨[(4,.bs (.loc 4) 1 3 0 ws.length)],[(.loc 4,⟨1,.own,3,Zae ws⟩)],3⟩)
 | .error e=>some (.r,⟨[(2,.sl [] .an),(3,.i .i64 e)],[],2⟩)
def Zng(acc:List Wd)(i:Nat):Prop:=∀k t a,acc.getLast? = some (k,t,a)→a+t.length≤i
theorem zu6(s:List UInt8)(hs:s.length≤4000)(i:Nat)(h0:i<s.length)(note:Bool)(acc:List Wd)(ha:acc.length≤i)(c:UInt8)(hc:s[i]'h0=c)
  (hsk:((if c=35 then true else if c=10 then false else note) || isB c)=true) :
  evX (orc T) T 0 l168_0 (Zc0 s i note acc)=some (.n,Zc0 s (i+1) (if c=35 then true else if c=10 then false else note) acc):=by
 have hw:IntKind.wrap .i64 ((i:Int)+1)=((i+1:Nat):Int):=zab _ (by omega);rw[z1x]at hsk;have e35:=zht c 35 (by decide);have e10:=zht c 10 (by decide);rw[show UInt8.ofNat 35=35 from rfl]at e35;rw[show UInt8.ofNat 10=10 from rfl]at e10;simp only[e35,e10]at hsk ⊢;obtain⟨n,hn⟩:∃n,n=c.toNat:=⟨_,rfl⟩;have hn':=hn.symm;by_cases c35:n=35
 ·subst c35;simp -implicitDefEqProofs[l168_0,Zc0,h0,hc,hn',hw]
 ·by_cases c10:n=10
  ·subst c10;simp -implicitDefEqProofs[l168_0,Zc0,h0,hc,hn',hw]
  ·cases note with
   | true=>simp -implicitDefEqProofs[l168_0,Zc0,h0,hc,hn',hw,c35,c10]
   | false=>
    by_cases c32:n=32
    ·subst c32;simp -implicitDefEqProofs[l168_0,Zc0,h0,hc,hn',hw]
    ·by_cases c9:n=9
     ·subst c9;simp -implicitDefEqProofs[l168_0,Zc0,h0,hc,hn',hw]
     ·have c13:n=13:=by grind
      subst c13;simp -implicitDefEqProofs[l168_0,Zc0,h0,hc,hn',hw]
theorem zcd(pre:List Wd)(k a:Nat)(t:List UInt8):(Zae (pre++[(k,t,a)]))[pre.length]? = some [.i .i64 k,.s t,.i .i64 a]:=by
 simp[Zae,wdR]
theorem zu7(s:List UInt8)(hs:s.length≤4000)(i:Nat)(h0:i<s.length)(c:UInt8)(hc:s[i]'h0=c)
  (c35:¬ c.toNat=35) (c10:¬ c.toNat=10) (c32:¬ c.toNat=32) (c9:¬ c.toNat=9) (c13:¬ c.toNat=13) (k:Nat) (hk0:Zi c=k) (hz:¬ k=0) :
  evX (orc T) T 0 l168_0 (Zc0 s i false [])=some (.n,Zc0 s (i+1) false [(k,[c],i)]):=by
 have hw:IntKind.wrap .i64 ((i:Int)+1)=((i+1:Nat):Int):=zab _ (by omega);have hk:=zec (T:=T) c;rw[hk0]at hk;have b1:(i:Int)+1≤s.length:=by omega
 have b2:List.drop i (List.take (i+1) s)=[c]:=by
  grind[List.drop_eq_getElem_cons]
 have hm:=zf4 (T:=T) k;have hq:=zd3 k;have hq':¬ ((Zaw k:Nat):Int)<1:=by omega
 simp -implicitDefEqProofs[l168_0,Zc0,Zae,wdR,h0,hc,hw,c35,c10,c32,c9,c13,hk,hm,b1,b2,hz,hq']
theorem zkm(s:List UInt8)(hs:s.length≤4000)(i:Nat)(h0:i<s.length)(c:UInt8)(hc:s[i]'h0=c)
  (c35:¬ c.toNat=35) (c10:¬ c.toNat=10) (c32:¬ c.toNat=32) (c9:¬ c.toNat=9) (c13:¬ c.toNat=13) (hk0:Zi c=0) :
  Zdk (evX (orc T) T 0 l168_0 (Zc0 s i false []))=true∧Zdj 0 0 (Gh.norm false [4]) (evX (orc T) T 0 l168_0 (Zc0 s i false []))=Zev (.error i):=by
 have hw:IntKind.wrap .i64 ((i:Int)+1)=((i+1:Nat):Int):=zab _ (by omega);have hk:=zec (T:=T) c;rw[hk0]at hk;have b1:(i:Int)+1≤s.length:=by omega
 have b2:List.drop i (List.take (i+1) s)=[c]:=by
  grind[List.drop_eq_getElem_cons]
 constructor<;>simp -implicitDefEqProofs[l168_0,Zc0,Zev,Zae,h0,hc,hw,c35,c10,c32,c9,c13,hk,b1,b2]
theorem zu8(s:List UInt8)(hs:s.length≤4000)(i:Nat)(h0:i<s.length)(c:UInt8)(hc:s[i]'h0=c)
  (c35:¬ c.toNat=35) (c10:¬ c.toNat=10) (c32:¬ c.toNat=32) (c9:¬ c.toNat=9) (c13:¬ c.toNat=13) (pre:List Wd) (hp:pre.length<i) (k0 a0:Nat) (t0:List UInt8) (ht0:a0+t0.length≤i) (hadj:¬ (a0+t0.length=i∧Zap k0 c=true)) (k:Nat) (hk0:Zi c=k) (hz:¬ k=0) :
  evX (orc T) T 0 l168_0 (Zc0 s i false (pre++[(k0,t0,a0)]))=some (.n,Zc0 s (i+1) false (pre++[(k0,t0,a0)]++[(k,[c],i)])):=by
 have hg:s[i]? = some c:=by grind
 have hw:IntKind.wrap .i64 ((i:Int)+1)=((i+1:Nat):Int):=zab _ (by omega);have hwi:IntKind.wrap .i64 (i:Int)=(i:Int):=zab _ (by omega);have b1:(i:Int)+1≤s.length:=by omega
 have b2:List.drop i (List.take (i+1) s)=[c]:=by
  grind[List.drop_eq_getElem_cons]
 have hmo:=zf3 (T:=T) k0 c;have hl:=zcd pre k0 a0 t0;have hll:(Zae (pre++[(k0,t0,a0)])).length=pre.length+1:=by simp
 have hl2:=zcd (pre++[(k0,t0,a0)]) k i [c];have hll2:(Zae (pre++[(k0,t0,a0)]++[(k,[c],i)])).length=pre.length+2:=by simp
 have hpu:wkL (List.take (pre.length+1) (Zae (pre++[(k0,t0,a0)]))++[[AV.i .i64 k,.s [c],.i .i64 i]])=Zae (pre++[(k0,t0,a0)]++[(k,[c],i)]):=by
  grind[zjb,List.length_singleton]
 have hwp:IntKind.wrap .i64 (pre.length:Int)=(pre.length:Int):=zab _ (by omega);have hwp1:IntKind.wrap .i64 ((pre.length:Int)+1)=(pre.length:Int)+1:=zab _ (by omega);have hlt:(pre.length:Int)<(pre.length:Int)+1:=by omega
 have hws:IntKind.wrap .i64 ((a0:Int)+t0.length)=((a0:Int)+t0.length):=zab _ (by omega);have hk:=zec (T:=T) c;rw[hk0]at hk;have hm:=zf4 (T:=T) k;have hq:=zd3 k;have hq':¬ ((Zaw k:Nat):Int)<1:=by omega
 have hz':¬ (k:Int)=0:=by omega
 have hal:(pre++[(k0,t0,a0)]).length=pre.length+1:=by simp
 have hal2:(pre++[(k0,t0,a0)]++[(k,[c],i)]).length=pre.length+2:=by simp
 have hpl:pre.length≤4294967294:=by omega
 unfold Zc0;rw[hal,hal2];rw[hal]at hl2;have g1:=zdk (pre++[(k0,t0,a0)]);have g2:=zfj (pre++[(k0,t0,a0)]);have g3:=zdk (pre++[(k0,t0,a0)]++[(k,[c],i)]);have g4:=zfj (pre++[(k0,t0,a0)]++[(k,[c],i)]);generalize Zae (pre++[(k0,t0,a0)]++[(k,[c],i)])=RW2 at *
 generalize Zae (pre++[(k0,t0,a0)])=RW at *
 generalize pre.length=m at *
 obtain⟨hx1,hgE⟩:=Yc.1 hl;have hT:List.take (m+1) RW=RW:=Yb (by omega);rw[hT]at hpu;have hl3:(RW++[[AV.i .i64 k,.s [c],.i .i64 i]])[m+1]? = some [AV.i .i64 k,.s [c],.i .i64 i]:=by
  grind
 obtain⟨hx3,hgE3⟩:=Yc.1 hl3;have hm1:((m:Int)+1).toNat=m+1:=by omega
 by_cases had:a0+t0.length=i
 ·have had':(a0:Int)+t0.length=i:=by omega
  have hmm:Zap k0 c=false:=by grind
  simp -implicitDefEqProofs[l168_0,h0,hc,hw,hwi,c35,c10,c32,c9,c13,hk,hm,b1,b2,hz,hq',hmo,hll,hT,hpu,hm1,hwp,hwp1,hlt,hgE,hgE3,had',hmm,hpl]
 ·have had':¬ (a0:Int)+t0.length=i:=by omega
  simp -implicitDefEqProofs[l168_0,h0,hc,hw,c35,c10,c32,c9,c13,hk,hm,b1,b2,hz,hq',hll,hT,hpu,hm1,hwp,hwp1,hws,hlt,hgE,hgE3,had',hpl]
theorem zkn(s:List UInt8)(hs:s.length≤4000)(i:Nat)(h0:i<s.length)(c:UInt8)(hc:s[i]'h0=c)
  (c35:¬ c.toNat=35) (c10:¬ c.toNat=10) (c32:¬ c.toNat=32) (c9:¬ c.toNat=9) (c13:¬ c.toNat=13) (pre:List Wd) (hp:pre.length<i) (k0 a0:Nat) (t0:List UInt8) (ht0:a0+t0.length≤i) (hadj:¬ (a0+t0.length=i∧Zap k0 c=true)) (hk0:Zi c=0) :
  Zdk (evX (orc T) T 0 l168_0 (Zc0 s i false (pre++[(k0,t0,a0)])))=true∧Zdj 0 0 (Gh.norm false [4]) (evX (orc T) T 0 l168_0 (Zc0 s i false (pre++[(k0,t0,a0)])))=Zev (.error i):=by
 obtain⟨k,hkk⟩:∃k:Nat,k=0:=⟨_,rfl⟩;have hw:IntKind.wrap .i64 ((i:Int)+1)=((i+1:Nat):Int):=zab _ (by omega);have hwi:IntKind.wrap .i64 (i:Int)=(i:Int):=zab _ (by omega);have b1:(i:Int)+1≤s.length:=by omega
 have b2:List.drop i (List.take (i+1) s)=[c]:=by
  grind[List.drop_eq_getElem_cons]
 have hmo:=zf3 (T:=T) k0 c;have hl:=zcd pre k0 a0 t0;have hll:(Zae (pre++[(k0,t0,a0)])).length=pre.length+1:=by simp
 have hl2:=zcd (pre++[(k0,t0,a0)]) k i [c];have hpu:wkL (List.take (pre.length+1) (Zae (pre++[(k0,t0,a0)]))++[[AV.i .i64 k,.s [c],.i .i64 i]])=Zae (pre++[(k0,t0,a0)]++[(k,[c],i)]):=by
  grind[zjb,List.length_singleton]
 have hwp:IntKind.wrap .i64 (pre.length:Int)=(pre.length:Int):=zab _ (by omega);have hwp1:IntKind.wrap .i64 ((pre.length:Int)+1)=(pre.length:Int)+1:=zab _ (by omega);have hlt:(pre.length:Int)<(pre.length:Int)+1:=by omega
 have hws:IntKind.wrap .i64 ((a0:Int)+t0.length)=((a0:Int)+t0.length):=zab _ (by omega);have hk:=zec (T:=T) c;rw[hk0]at hk;have hz':(k:Int)=0:=by omega
 have hal:(pre++[(k0,t0,a0)]).length=pre.length+1:=by simp
 have hpl:pre.length≤4294967294:=by omega
 unfold Zc0 Zev;rw[hal];have g4:=zfj (pre++[(k0,t0,a0)]++[(k,[c],i)]);generalize Zae (pre++[(k0,t0,a0)])=RW at *
 generalize pre.length=m at *
 obtain⟨hx1,hgE⟩:=Yc.1 hl;have hT:List.take (m+1) RW=RW:=Yb (by omega);have hl3:(RW++[[AV.i .i64 k,.s [c],.i .i64 i]])[m+1]? = some [AV.i .i64 k,.s [c],.i .i64 i]:=by
  grind
 have hm1:((m:Int)+1).toNat=m+1:=by omega
 by_cases had:a0+t0.length=i
 ·have had':(a0:Int)+t0.length=i:=by omega
  have hmm:Zap k0 c=false:=by grind
  constructor<;>simp -implicitDefEqProofs[l168_0,h0,hc,hw,hwi,c35,c10,c32,c9,c13,hk,b1,b2,hmo,hll,hT,hm1,hwp,hwp1,hlt,hgE,had',hmm,hpl]
 ·have had':¬ (a0:Int)+t0.length=i:=by omega
  constructor<;>simp -implicitDefEqProofs[l168_0,h0,hc,hw,c35,c10,c32,c9,c13,hk,b1,b2,hll,hT,hm1,hwp,hwp1,hws,hlt,hgE,had',hpl]
theorem zu9(pre:List Wd)(k a:Nat)(t t':List UInt8):(Zae (pre++[(k,t,a)])).set pre.length [.i .i64 k,.s t',.i .i64 a]=Zae (pre++[(k,t',a)]):=by
 have e:Zae (pre++[(k,t,a)])=Zae pre++[wdR (k,t,a)]:=by simp[Zae]
 have e':Zae (pre++[(k,t',a)])=Zae pre++[wdR (k,t',a)]:=by simp[Zae]
 rw[e,e',Yai _ _ (by simp),zdy,Ybv]
 rfl
theorem zyr(s:List UInt8)(hs:s.length≤4000)(i:Nat)(h0:i<s.length)(c:UInt8)(hc:s[i]'h0=c)
  (c35:¬ c.toNat=35) (c10:¬ c.toNat=10) (c32:¬ c.toNat=32) (c9:¬ c.toNat=9) (c13:¬ c.toNat=13) (pre:List Wd) (hp:pre.length<i) (k0 a0:Nat) (t0:List UInt8) (had:a0+t0.length=i) (hmm:Zap k0 c=true) (hz:¬ k0=0) :
  (t0.length+1≤Zaw k0→evX (orc T) T 0 l168_0 (Zc0 s i false (pre++[(k0,t0,a0)]))=some (.n,Zc0 s (i+1) false (pre++[(k0,t0++[c],a0)]))) ∧
  (Zaw k0<t0.length+1→Zdk (evX (orc T) T 0 l168_0 (Zc0 s i false (pre++[(k0,t0,a0)])))=true∧Zdj 0 0 (Gh.norm false [4]) (evX (orc T) T 0 l168_0 (Zc0 s i false (pre++[(k0,t0,a0)])))=Zev (.error i)):=by
 have hw:IntKind.wrap .i64 ((i:Int)+1)=((i+1:Nat):Int):=zab _ (by omega);have hwi:IntKind.wrap .i64 (i:Int)=(i:Int):=zab _ (by omega);have b1:(i:Int)+1≤s.length:=by omega
 have b2:List.drop i (List.take (i+1) s)=[c]:=by
  grind[List.drop_eq_getElem_cons]
 have hmo:=zf3 (T:=T) k0 c;rw[hmm]at hmo;have hl:=zcd pre k0 a0 t0;have hll:(Zae (pre++[(k0,t0,a0)])).length=pre.length+1:=by simp
 have hl2:=zcd pre k0 a0 (t0++[c]);have hll2:(Zae (pre++[(k0,t0++[c],a0)])).length=pre.length+1:=by simp
 have hset:=zu9 pre k0 a0 t0 (t0++[c]);have hwp:IntKind.wrap .i64 (pre.length:Int)=(pre.length:Int):=zab _ (by omega);have hlt:(pre.length:Int)<(pre.length:Int)+1:=by omega
 have had':(a0:Int)+t0.length=i:=by omega
 have hm:=zf4 (T:=T) k0;have hal:(pre++[(k0,t0,a0)]).length=pre.length+1:=by simp
 have hal2:(pre++[(k0,t0++[c],a0)]).length=pre.length+1:=by simp
 have hcl:t0.length+1≤9223372036854775807:=by omega
 unfold Zc0 Zev;rw[hal,hal2];have g3:=zdk (pre++[(k0,t0++[c],a0)]);have g4:=zfj (pre++[(k0,t0++[c],a0)]);obtain⟨hx1,hgE⟩:=Yc.1 hl;obtain⟨hx2,hgE2⟩:=Yc.1 hl2;refine⟨fun hq=>?_,fun hq=>?_⟩
 ·have hq2:¬ ((Zaw k0:Nat):Int)<(t0.length:Int)+1:=by omega
  simp -implicitDefEqProofs[l168_0,h0,hc,hw,hwi,c35,c10,c32,c9,c13,hm,b1,b2,hz,hmo,hll,hll2,hset,hwp,hlt,hgE,hgE2,had',hcl,hq2,g3]
 ·have hq2:((Zaw k0:Nat):Int)<(t0.length:Int)+1:=by omega
  constructor<;>simp -implicitDefEqProofs[l168_0,h0,hc,hw,hwi,c35,c10,c32,c9,c13,hm,b1,b2,hz,hmo,hll,hll2,hset,hwp,hlt,hgE,hgE2,had',hcl,hq2]
theorem zva(s:List UInt8)(hs:s.length≤4000):∀y:Nat×Bool×List Wd,(y.1≤s.length∧y.2.2.length≤y.1∧(∀k t a,y.2.2.getLast? = some (k,t,a)→a+t.length≤y.1∧¬ k=0)) →
  Zn T 0 0 (.norm false [4]) l168_0 (Zc0 s y.1 y.2.1 y.2.2)=Zev (Zem (s.drop y.1) y.1 y.2.1 y.2.2):=by
 refine zan (fun y:Nat×Bool×List Wd=>Zc0 s y.1 y.2.1 y.2.2) (fun y=>y.1≤s.length∧y.2.2.length≤y.1∧(∀k t a,y.2.2.getLast? = some (k,t,a)→a+t.length≤y.1∧¬ k=0)) (fun y=>s.length-y.1) (fun y=>Zev (Zem (s.drop y.1) y.1 y.2.1 y.2.2)) ?_
 rintro⟨i,note,acc⟩ ⟨hi,ha,he⟩
 by_cases h0:i<s.length
 ·obtain⟨c,hc⟩:∃c,s[i]'h0=c:=⟨_,rfl⟩;have hd:s.drop i=c::s.drop (i+1):=by rw[Yk h0,hc]
  by_cases hsk:((if c=35 then true else if c=10 then false else note) || isB c)=true
  ·left;refine⟨(i+1,(if c=35 then true else if c=10 then false else note),acc),⟨h0,by grind,fun k t a h=>by
    grind⟩,by omega,zu6 s hs i h0 note acc ha c hc hsk,?_⟩
   grind[Zem]
  ·have hsk':=hsk;simp only[Yav,not_or,Ydm]at hsk';obtain⟨h1,h2⟩:=hsk';have n35:c≠35:=fun e=>by grind
   have n10:c≠10:=fun e=>by subst e;simp[isB]at h2
   have hnote:note=false:=by grind
   subst hnote;have hB:¬ c=32∧¬ c=9∧¬ c=13:=by
    grind[isB]
   have c35:¬ c.toNat=35:=zu4 (n:=35) (by decide) n35;have c10:¬ c.toNat=10:=zu4 (n:=10) (by decide) n10;have c32:¬ c.toNat=32:=zu4 (n:=32) (by decide) hB.1;have c9:¬ c.toNat=9:=zu4 (n:=9) (by decide) hB.2.1;have c13:¬ c.toNat=13:=zu4 (n:=13) (by decide) hB.2.2;have hR:Zem (s.drop i) i false acc=if Zek (Zc7 c i acc)=true then .error i else Zem (s.drop (i+1)) (i+1) false (Zc7 c i acc):=by
    grind[Zem]
   rw[hR];have hmp:=zd3 (Zi c);rcases List.eq_nil_or_concat acc with rfl | ⟨pre,⟨k0,t0,a0⟩,rfl⟩
   ·have hs1:Zc7 c i []=[(Zi c,[c],i)]:=rfl;have hb1:Zek [(Zi c,[c],i)]=decide (Zi c=0):=by
     simp[Zek];omega
    rw[hs1,hb1];by_cases hk:Zi c=0
    ·grind[zkm]
    ·left;rw[decide_eq_false hk,if_neg (by decide)];refine⟨(i+1,false,[(Zi c,[c],i)]),⟨h0,by simp,fun k t a h=>by
      grind⟩,by omega,zu7 (T:=T) s hs i h0 c hc c35 c10 c32 c9 c13 (Zi c) rfl hk,rfl⟩
   ·rw[List.concat_eq_append]at he ha ⊢;obtain⟨e1,e2⟩:=he k0 t0 a0 (by simp);have hp:pre.length<i:=by
     grind
    by_cases hadj:a0+t0.length=i∧Zap k0 c=true
    ·have hs1:Zc7 c i (pre++[(k0,t0,a0)])=pre++[(k0,t0++[c],a0)]:=by simp[Zc7,hadj.1,hadj.2]
     have hb1:Zek (pre++[(k0,t0++[c],a0)])=decide (Zaw k0<t0.length+1):=by simp[Zek,e2]
     rw[hs1,hb1];obtain⟨x1,x2⟩:=zyr (T:=T) s hs i h0 c hc c35 c10 c32 c9 c13 pre hp k0 a0 t0 hadj.1 hadj.2 e2;by_cases hq:Zaw k0<t0.length+1
     ·grind
     ·left;rw[decide_eq_false hq,if_neg (by decide)];refine⟨(i+1,false,pre++[(k0,t0++[c],a0)]),⟨h0,by grind,fun k t a h=>by
       grind⟩,by omega,x1 (by omega),rfl⟩
    ·have hs1:Zc7 c i (pre++[(k0,t0,a0)])=pre++[(k0,t0,a0)]++[(Zi c,[c],i)]:=by
      unfold Zc7
      grind
     have hb1:Zek (pre++[(k0,t0,a0)]++[(Zi c,[c],i)])=decide (Zi c=0):=by
      simp[Zek];omega
     rw[hs1,hb1];by_cases hk:Zi c=0
     ·grind[zkn]
     ·left;rw[decide_eq_false hk,if_neg (by decide)];refine⟨(i+1,false,pre++[(k0,t0,a0)]++[(Zi c,[c],i)]),⟨h0,by grind,fun k t a h=>by
       grind⟩,by omega,zu8 (T:=T) s hs i h0 c hc c35 c10 c32 c9 c13 pre hp k0 a0 t0 e1 hadj (Zi c) rfl hk,rfl⟩
 ·right;have hi2:i=s.length:=by omega
  subst hi2;rw[Yac];have er:Zem [] s.length note acc=.ok acc:=rfl;rw[er];simp only[Zev,Zc0];have g1:=zdk acc;have g2:=zfj acc;have g3:=zdy acc;generalize Zae acc=RW at *
  generalize acc.length=m at *
  constructor<;>simp -implicitDefEqProofs[l168_0,g1]
def Zf2(r:Except Nat (List Wd)):AV:=
 match r with
 | .ok ws=>.tup [.sl (Zae ws) .an,.i .i64 (-1)]
 | .error e=>.tup [.sl [] .an,.i .i64 e]
theorem zrm(s:List UInt8)(hs:s.length≤1000000):Zb T 168 [.s s]=some (Zf2 (Zie s)):=by
 rw[zac Zba.h168 rfl,b168];unfold Zie;by_cases h1:4000<s.length
 ·have h1':(4000:Int)<s.length:=by omega
  rw[if_pos h1];simp -implicitDefEqProofs[Zf2,h1']
 ·have h1':¬ (4000:Int)<s.length:=by omega
  rw[if_neg h1];have h:=zva (T:=T) s (by omega) (0,false,[]) ⟨Yl _,Yf _,fun k t a h=>by grind⟩;simp only[Yaa]at h;rw[zwv]at h;have e0:Zae []=[]:=rfl;simp only[Zc0,e0,Y1,Yt]at h;cases hr:Zdg (s.drop (Zbd false s)) (Zbd false s) []with
  | ok ws=>
   rw[hr]at h;simp only[Zev]at h;have g1:=zdk ws;have g3:=zdy ws;simp only[Zf2];generalize Zae ws=RW at *
   generalize ws.length=m at *
   have ht:List.take m RW=RW:=Yb (by omega);simp -implicitDefEqProofs[h1',h,g1,ht,g3]
  | error e=>
   rw[hr]at h;simp only[Zev]at h;simp -implicitDefEqProofs[Zf2,h1',h]
end
end Go.Ab
end
section
namespace Go.Ab
theorem zms:∀(n:Nat) (l:List UInt8) (i:Nat) (acc ws:List Wd),l.length=n→Zdg l i acc=.ok ws→∃r,ws=acc++r:=by
 intro n
 induction n using Nat.strongRecOn with
 | _ n ih=>
  intro l i acc ws hl h;cases l with
  | nil=>rw[zfs]at h;cases h;exact⟨[],by simp⟩
  | cons c r=>
   rw[zgc]at h;split at h
   ·cases h
   ·split at h
    ·cases h
    ·obtain⟨r',hr'⟩:=ih _ (by simp only[Yv,Yd]at hl ⊢;omega) _ _ _ _ rfl h;exact⟨_,by rw[hr',Ybg]⟩
def Zfr(k:Int)(t:List UInt8):Except Nat (List Wd)→Bool
 | .ok [(k',t',_)]=>decide ((k':Int)=k)&&decide (t'=t)
 | _=>false
theorem zvb(k:Nat)(r:List UInt8):1≤Z9 k r∧Z9 k r≤r.length+1:=by
 unfold Z9;have:=(Ya7 (Zap k) (l:=r)).length_le;omega
theorem zrn(k:Int)(t:List UInt8)(ht:t.length≤4000):Zfr k t (Zie t)=Zam k t:=by
 unfold Zie;rw[if_neg (by omega)];cases t with
 | nil=>simp[Zbd,zfs,Zfr,Zam]
 | cons c r=>
  simp only[Yd]at ht;by_cases hsk:Zbd false (c::r)=0
  ·rw[hsk,Yaa,zgc];obtain⟨f1,f2⟩:=zvb (Zi c) r;by_cases hk:Zi c=0
   ·rw[if_pos hk];simp only[Zfr,Zam,hk];by_cases hk0:k=0
    ·simp[hk0]
    ·have:¬ (0:Int)=k:=fun h=>hk0 h.symm;simp[this]
   ·rw[if_neg hk];by_cases hm:Zaw (Zi c)<Z9 (Zi c) r
    ·rw[if_pos hm];simp only[Zfr,Zam];by_cases hfl:Z9 (Zi c) r=r.length+1
     ·have:¬ r.length+1≤Zaw (Zi c):=by omega
      simp[this]
     ·simp[hfl]
    ·rw[if_neg hm,Yaz];by_cases hfl:Z9 (Zi c) r=r.length+1
     ·have e1:r.drop (Z9 (Zi c) r-1)=[]:=by
       rw[hfl];exact List.drop_eq_nil_of_le (by omega)
      have e2:(c::r).take (Z9 (Zi c) r)=c::r:=by
       rw[hfl];exact Yb (by simp)
      rw[e1,e2];simp only[Zbd,List.drop_nil,zfs,Zfr,Zam,hfl];have:r.length+1≤Zaw (Zi c):=by omega
      by_cases hkk:(Zi c:Int)=k
      ·have hk0:k≠0:=by omega
       simp[hkk,hk0,this]
      ·simp[hkk]
     ·have hfalse:Zam k (c::r)=false:=by simp[Zam,hfl]
      rw[hfalse];generalize hws:Zdg ((r.drop (Z9 (Zi c) r-1)).drop (Zbd false (r.drop (Z9 (Zi c) r-1)))) (0+Z9 (Zi c) r+Zbd false (r.drop (Z9 (Zi c) r-1))) [(Zi c,(c::r).take (Z9 (Zi c) r),0)]=res;cases res with
      | error e=>rfl
      | ok ws=>
       obtain⟨x,hx⟩:=zms _ _ _ _ _ rfl hws;rw[hx];cases x with
       | nil=>
        simp only[Ybc,Zfr];have hne:¬ (c::r).take (Z9 (Zi c) r)=c::r:=fun h=>by
         have:=congrArg List.length h;rw[Y6,Yd]at this;omega
        rw[decide_eq_false hne,Bool.and_false]
       | cons y x=>rfl
  ·have hle:=zp3 false (c::r);have hk:Zi c=0∨isB c=true∨c=35:=by
    right;by_cases hb:((if c=35 then true else if c=10 then false else false) || isB c)=true
    ·by_cases h35:c=35
     ·exact .inr h35
     ·simp[h35]at hb;exact .inl hb
    ·exfalso;apply hsk;simp only[Zbd];rw[if_neg hb]
   have hk0:Zi c=0:=by
    rcases hk with h | h | h
    ·exact h
    ·simp only[isB,Yav,decide_eq_true_eq]at h;rcases h with ((rfl | rfl) | rfl) | rfl<;>decide
    ·subst h;decide
   have hr:Zam k (c::r)=false:=by
    simp only[Zam,hk0];by_cases hk0:k=0
    ·simp[hk0]
    ·have:¬ (0:Int)=k:=fun h=>hk0 h.symm;simp[this]
   rw[hr]
   -- every word is shorter than the text
   have key:∀(l:List UInt8) (i:Nat),l.length<(c::r).length→Zfr k (c::r) (Zdg l i [])=false:=by
    intro l i hl;cases l with
    | nil=>rw[zfs];rfl
    | cons d q=>
     rw[zgc];split
     ·rfl
     ·split
      ·rfl
      ·generalize hws:Zdg ((q.drop (Z9 (Zi d) q-1)).drop (Zbd false (q.drop (Z9 (Zi d) q-1)))) (i+Z9 (Zi d) q+Zbd false (q.drop (Z9 (Zi d) q-1))) ([]++[(Zi d,(d::q).take (Z9 (Zi d) q),i)])=res;cases res with
       | error e=>rfl
       | ok ws=>
        obtain⟨x,hx⟩:=zms _ _ _ _ _ rfl hws;rw[hx];cases x with
        | nil=>
         simp only[Yaz,Ybc,Zfr];have hne:¬ (d::q).take (Z9 (Zi d) q)=c::r:=fun h=>by
          have:=congrArg List.length h;rw[Y6]at this;omega
         rw[decide_eq_false hne,Bool.and_false]
        | cons y x=>rfl
   exact key _ _ (by rw[Yv];omega)
section
variable{T:Tbl}[Zba T]
theorem zh3(k a:Int)(t:List UInt8)(ht:t.length≤4000):Zb T 173 [.agg [.i .i64 k,.s t,.i .i64 a]]=some (.b (Zam k t)):=by
 have c:=zrm (T:=T) t (by omega);rw[←zrn k t ht,zac Zba.h173 rfl,b173];cases hr:Zie t with
 | error e=>
  rw[hr]at c;simp only[Zf2]at c;have he:¬ (e:Int)<0:=by omega
  simp -implicitDefEqProofs[c,Zfr,he]
 | ok ws=>
  rw[hr]at c;simp only[Zf2]at c
  match ws with
  | []=>
   have e0:Zae []=[]:=rfl;rw[e0]at c;simp -implicitDefEqProofs[c,Zfr]
  | [(k',t',a')]=>
   have e1:Zae [(k',t',a')]=[[.i .i64 k',.s t',.i .i64 a']]:=rfl;rw[e1]at c;by_cases hk:(k':Int)=k
   ·by_cases htt:t'=t
    ·simp -implicitDefEqProofs[c,Zfr,hk,htt]
    ·simp -implicitDefEqProofs[c,Zfr,hk,htt]
   ·simp -implicitDefEqProofs[c,Zfr,hk]
  | w1::w2::r=>
   have hl:(Zae (w1::w2::r)).length=r.length+2:=by simp
   have hne:¬ ((r.length:Int)+2=1):=by omega
   have hne':¬ (r.length+2=1):=by omega
   have g1:=zdk (w1::w2::r);have hone:Zfr k t (.ok (w1::w2::r))=false:=rfl;rw[hone];generalize Zae (w1::w2::r)=RW at *
   generalize r.length=m at *
   simp -implicitDefEqProofs[c,hl,hne,hne',g1]
end
end Go.Ab
end
section
namespace Go.Ab
theorem zji{x:Fz}(h:Zbf x=true):x=fz (fv x):=by
 grind[Zbf,Zce]
theorem zys{l:List Fz}(h:l.all Zbf=true):l=fzs (l.map fv):=by
 unfold fzs
 conv=>lhs;rw[←List.map_id l]
 grind[List.map_congr_left,zji]
theorem zyt(l:List Rat)(i:Nat)(h:i<l.length):sumF ((fzs l).take (i+1))=sumF ((fzs l).take i)+l[i]'h:=by
 have h':i<(fzs l).length:=by simp_all
 rw[zh9 (fzs l) h'];simp[fzs]
section
variable{T:Tbl}[Z5 T][Zah T][Z3 T][Zaa T][Z4 T][Zai T][Z8 T][Zas T][Zei T][Zc6 T]
def Zg4(l:List Fz)(i:Nat):St:=⟨[(0,.sl (Zf l) .an),(3,.i .i64 i)],[],2⟩
theorem zro(l:List Fz)(hl:l.length≤1000)(hw:∀x∈l,fsz x≤10000) :
  Zn T 0 0 (.norm false []) l540_0 (Zg4 l 0)=if (l.drop 0).all Zbf=true then some (.n,⟨[],[],2⟩) else some (.r,⟨[(2,.b true)],[],2⟩):=by
 refine zbb (Zg4 l) l.length (fun i=>if (l.drop i).all Zbf=true then some (.n,⟨[],[],2⟩) else some (.r,⟨[(2,.b true)],[],2⟩)) (fun i hi=>?_) ?_
 ·have hi':(i:Int)<l.length:=by omega
  have hws:=zbr hi (by omega);have hx:=hw _ (Yaf hi);have c1:=zby (T:=T) (l[i]'hi) hx;have c2:=zcc (T:=T) (fz (fv (l[i]'hi))) (l[i]'hi) (by exact zza hx (by decide));have c3:=zrq (T:=T) (l[i]'hi) hx;have key:(l.drop i).all Zbf=(Zbf (l[i]'hi)&&(l.drop (i+1)).all Zbf):=by rw[Yk hi,Ybz]
  have hn:Zbf (l[i]'hi)=(Zce (l[i]'hi)&&decide (Zdc (l[i]'hi)≤190)):=rfl;have hr:decide (fz (fv (l[i]'hi))=l[i]'hi)=Zce (l[i]'hi):=by grind[Zce]
  rw[hr]at c2;by_cases h1:Zce (l[i]'hi)=true
  ·by_cases h2:Zdc (l[i]'hi)≤190
   ·left;refine⟨?_,by grind⟩;have h3:¬ (190:Int)<Zdc (l[i]'hi):=by omega
    unfold Zg4;simp -implicitDefEqProofs[l540_0,hi,hi',hws,c1,c2,c3,h1,h3]
   ·right;have h3:(190:Int)<Zdc (l[i]'hi):=by omega
    rw[if_neg (by grind)];unfold Zg4;constructor<;>simp -implicitDefEqProofs[l540_0,hi,hi',c1,c2,c3,h1,h3]
  ·right;have h1':Zce (l[i]'hi)=false:=by grind
   rw[if_neg (by grind)];unfold Zg4;constructor<;>simp -implicitDefEqProofs[l540_0,hi,hi',c1,c2,h1']
 ·simp only[Yac,Yd5,if_true];unfold Zg4;constructor<;>simp -implicitDefEqProofs[l540_0]
theorem zfo(l:List Fz)(hl:l.length≤1000)(hw:∀x∈l,fsz x≤10000):Zb T 540 [.sl (Zf l) .an]=some (.b (!l.all Zbf)):=by
 have h:=zro (T:=T) l hl hw;unfold Zg4 at h;rw[zac Zc6.h540 rfl,b540];cases hn:l.all Zbf with
 | true=>simp_all
 | false=>simp_all
def Zih(l:List Rat)(i:Nat):St:=⟨[(0,.sl (Zf (fzs l)) .an),(2,.ptr (.loc 2) 1 3 0 0),(3,.ptr (.loc 3) 2 3 0 0),(4,.i .i64 i)],
 [(.loc 2,⟨1,.str,3,[Zdy]⟩),(.loc 3,⟨2,.str,3,[Zd7 (fz (sumF ((fzs l).take i)))]⟩)],4⟩
theorem zrp(l:List Rat){B:Nat}(hw:∀x∈l,sz x≤B)(hB:1≤B)(hS:l.length*(B+1)+1≤1000) :
  Zn T 0 0 (.norm false [2,3]) l541_0 (Zih l 0)=some (.n,⟨[(2,.ptr (.loc 2) 1 3 0 0),(3,.ptr (.loc 3) 2 3 0 0)],[(.loc 2,⟨1,.str,3,[Zdy]⟩),(.loc 3,⟨2,.str,3,[Zd7 (fz (sumF (fzs l)))]⟩)],4⟩):=by
 refine zba (Zih l) l.length _ (fun i hi=>?_) ?_
 ·have hlen:l.length*1≤1000:=Ye (Yag _ (show 1≤B+1 by omega)) (by omega);have hBB:B+1≤1000:=Ye (Yb7 _ (show 0<l.length by omega)) (by omega);have hi2:i<(fzs l).length:=by simp_all
  have hga:(fzs l)[i]? = some (fz (l[i]'hi)):=by simp[fzs,hi]
  have hi':(i:Int)<(fzs l).length:=by omega
  have hws:=zbr hi (by omega);have ha1:=hw _ (Yaf hi);have hw':∀x∈fzs l,fsz x≤B:=by
   intro x hx;obtain⟨q,hq,rfl⟩:=Yat.1 hx;rw[zco];grind
  have s1:=zia hw' hB i (by omega);have s2:i*(B+1)≤l.length*(B+1):=Y5 _ (by omega);have c2:=zrj (T:=T) (sumF ((fzs l).take i)) (l[i]'hi) (by omega) (by omega);rw[←zyt l i hi]at c2;have hge:(fzs l)[i]'hi2=fz (l[i]'hi):=by grind
  unfold Zih;generalize fzs l=L at *
  simp -implicitDefEqProofs[l541_0,hi',hi2,hge,hws,c2]
 ·unfold Zih;rw[Yb (by simp_all)];constructor<;>simp -implicitDefEqProofs[l541_0]
theorem zvc(l:List Rat){B:Nat}(hw:∀x∈l,sz x≤B)(hB:1≤B)(hS:l.length*(B+1)+1≤1000) :
  Zb T 541 [.sl (Zf (fzs l)) .an]=some (efz (fz (sumF (fzs l)))):=by
 have h0:=zf2 (T:=T);have h:=zrp (T:=T) l hw hB hS;unfold Zih at h;have e0:sumF ((fzs l).take 0)=0:=rfl;rw[e0]at h;simp only[Yt]at h;rw[zac Zc6.h541 rfl,b541];simp -implicitDefEqProofs[h0,h]
theorem zed(l:List Fz)(hl:l.length≤8)(hn:l.all Zbf=true):Zb T 541 [.sl (Zf l) .an]=some (efz (fz (sumF l))):=by
 have e:=zys hn;have c:=zvc (T:=T) (l.map fv) (B:=6) (fun q hq=>by
  obtain⟨x,hx,rfl⟩:=Yat.1 hq;exact zza (zey (Yh.1 hn x hx)) (by decide)) (by decide) (by grind)
 grind
end
end Go.Ab
end
section
namespace Go.Ab
theorem zh4{p q:Rat}:fz p=fz q↔p=q:=⟨fun h=>by have:=congrArg fv h;rwa [zit,zit]at this,fun h=>by rw[h]⟩
section
variable{T:Tbl}[Z5 T][Zah T][Z3 T][Zaa T][Z4 T][Zai T][Z8 T][Zas T][Zei T][Zba T][Zc6 T]
def Zhm(s:Sm)(i:Nat):St:=⟨[(1,.ptr (.loc 1) 1 5 0 0),(3,.i .i64 s.b.length),(4,.i .i64 i)],[(.loc 1,bxS s)],3⟩
theorem zvd(s:Sm)(hl:s.b.length≤8)(ha:s.a.length=s.b.length) :
  Zn T 0 0 (.norm false [1,3]) l529_0 (Zhm s 0)=if Zbe (s.a.drop 0) 0=true then some (.n,⟨[(1,.ptr (.loc 1) 1 5 0 0),(3,.i .i64 s.b.length)],[(.loc 1,bxS s)],3⟩) else some (.r,⟨[(2,.i .i64 2)],[],2⟩):=by
 refine zbb (Zhm s) s.a.length (fun i=>if Zbe (s.a.drop i) i=true then some (.n,⟨[(1,.ptr (.loc 1) 1 5 0 0),(3,.i .i64 s.b.length)],[(.loc 1,bxS s)],3⟩) else some (.r,⟨[(2,.i .i64 2)],[],2⟩)) (fun i hi=>?_) ?_
 ·have hib:i<s.b.length:=by omega
  have hib':(i:Int)<s.b.length:=by omega
  have hia':(i:Int)<s.a.length:=by omega
  have hws:=zbr hi (by omega);have key:Zbe (s.a.drop i) i=(decide ((s.a[i]'hi).length=i)&&Zbe (s.a.drop (i+1)) (i+1)):=by rw[Yk hi,Zbe]
  by_cases hr:(s.a[i]'hi).length=i
  ·left;refine⟨?_,by grind⟩;unfold Zhm bxS;simp -implicitDefEqProofs[l529_0,hi,hib',hia',hws,hr]
  ·right;have hr':¬ ((s.a[i]'hi).length:Int)=i:=by omega
   rw[if_neg (by grind)];unfold Zhm bxS;constructor<;>simp -implicitDefEqProofs[l529_0,hi,hib',hia',hr']
 ·have e:Zbe [] s.a.length=true:=rfl;simp only[Yac,e,if_true];unfold Zhm bxS;have hx:¬ (s.a.length:Int)<s.b.length:=by omega
  have hx2:¬ s.a.length<s.b.length:=by omega
  constructor<;>simp -implicitDefEqProofs[l529_0,ha]
def Zhn(s:Sm)(i:Nat):St:=⟨[(1,.ptr (.loc 1) 1 5 0 0),(3,.i .i64 s.b.length),(5,.i .i64 i)],[(.loc 1,bxS s)],3⟩
theorem zve(s:Sm)(hl:s.b.length≤8)(ha:s.a.length=s.b.length)(hw:∀r∈s.a,r.length≤1000∧∀x∈r,fsz x≤10000) :
  Zn T 0 2 (.norm false [1,3]) l529_1 (Zhn s 0)=if Zck (s.a.drop 0)=true then some (.n,⟨[(1,.ptr (.loc 1) 1 5 0 0),(3,.i .i64 s.b.length)],[(.loc 1,bxS s)],3⟩) else some (.r,⟨[(2,.i .i64 3)],[],2⟩):=by
 refine zbb (Zhn s) s.a.length (fun i=>if Zck (s.a.drop i)=true then some (.n,⟨[(1,.ptr (.loc 1) 1 5 0 0),(3,.i .i64 s.b.length)],[(.loc 1,bxS s)],3⟩) else some (.r,⟨[(2,.i .i64 3)],[],2⟩)) (fun i hi=>?_) ?_
 ·have hib:i<s.b.length:=by omega
  have hib':(i:Int)<s.b.length:=by omega
  have hia':(i:Int)<s.a.length:=by omega
  have hws:=zbr hi (by omega);obtain⟨g1,g2⟩:=hw _ (Yaf hi);have cb:=zfo (T:=T) (s.a[i]'hi) g1 g2;have key:Zck (s.a.drop i)=((s.a[i]'hi).all Zbf&&Zck (s.a.drop (i+1))):=by grind[Zck,List.drop_eq_getElem_cons]
  by_cases hr:(s.a[i]'hi).all Zbf=true
  ·left;rw[hr]at cb;refine⟨?_,by grind⟩;unfold Zhn bxS;simp -implicitDefEqProofs[l529_1,hi,hib',hia',hws,cb]
  ·right;have hr':(s.a[i]'hi).all Zbf=false:=(Ydm _).mp hr;rw[hr']at cb;rw[if_neg (by grind)];unfold Zhn bxS;constructor<;>simp -implicitDefEqProofs[l529_1,hi,hib',hia',cb]
 ·have e:Zck []=true:=rfl;simp only[Yac,e,if_true];unfold Zhn bxS;have hx:¬ (s.a.length:Int)<s.b.length:=by omega
  have hx2:¬ s.a.length<s.b.length:=by omega
  constructor<;>simp -implicitDefEqProofs[l529_1,ha]
def Zho(s:Sm)(i:Nat):St:=⟨[(1,.ptr (.loc 1) 1 5 0 0),(3,.i .i64 s.b.length),(6,.i .i64 i)],[(.loc 1,bxS s)],3⟩
theorem zvf(s:Sm)(hl:s.b.length≤8)(ha:s.a.length=s.b.length)(hc:s.c.length=s.b.length)(h1:∀r∈s.a,r.length≤8∧r.all Zbf=true)(h2:s.c.all Zbf=true) :
  Zn T 0 4 (.norm false [1]) l529_2 (Zho s 0)=if Zbq (s.a.drop 0) (s.c.drop 0)=true then some (.n,⟨[(1,.ptr (.loc 1) 1 5 0 0)],[(.loc 1,bxS s)],3⟩) else some (.r,⟨[(2,.i .i64 4)],[],2⟩):=by
 refine zbb (Zho s) s.a.length (fun i=>if Zbq (s.a.drop i) (s.c.drop i)=true then some (.n,⟨[(1,.ptr (.loc 1) 1 5 0 0)],[(.loc 1,bxS s)],3⟩) else some (.r,⟨[(2,.i .i64 4)],[],2⟩)) (fun i hi=>?_) ?_
 ·have hic:i<s.c.length:=by omega
  have hib':(i:Int)<s.b.length:=by omega
  have hia':(i:Int)<s.a.length:=by omega
  have hic':(i:Int)<s.c.length:=by omega
  have hws:=zbr hi (by omega);obtain⟨g1,g2⟩:=h1 _ (Yaf hi);have g3:=Yh.1 h2 _ (Yaf hic);have c1:=zed (T:=T) (s.a[i]'hi) g1 g2;have z1:=zeg g1 (fun x hx=>zey (Yh.1 g2 x hx));have c2:=zcc (T:=T) (fz (sumF (s.a[i]'hi))) (s.c[i]'hic) (by rw[zco];omega);have hr3:=zji g3;have hd:decide (fz (sumF (s.a[i]'hi))=s.c[i]'hic)=decide (sumF (s.a[i]'hi)=fv (s.c[i]'hic)):=by
   grind[zit]
  rw[hd]at c2;have key:Zbq (s.a.drop i) (s.c.drop i)=(decide (sumF (s.a[i]'hi)=fv (s.c[i]'hic))&&Zbq (s.a.drop (i+1)) (s.c.drop (i+1))):=by
   grind[Zbq,List.drop_eq_getElem_cons,List.zip_cons_cons]
  generalize fz (sumF (s.a[i]'hi))=z at *
  by_cases he:sumF (s.a[i]'hi)=fv (s.c[i]'hic)
  ·left;refine⟨?_,by grind⟩;unfold Zho bxS;simp -implicitDefEqProofs[l529_2,hi,hib',hia',hws,c1,c2,he,hic,hic']
  ·right;rw[if_neg (by grind)];unfold Zho bxS;constructor<;>simp -implicitDefEqProofs[l529_2,hi,hib',hia',c1,c2,he,hic,hic']
 ·have e:Zbq [] (s.c.drop s.a.length)=true:=rfl;simp only[Yac,e,if_true];unfold Zho bxS;have hx:¬ (s.a.length:Int)<s.b.length:=by omega
  have hx2:¬ s.a.length<s.b.length:=by omega
  constructor<;>simp -implicitDefEqProofs[l529_2,ha]
theorem zage(b c e:List Fz):Zck [b,c,e]=(b.all Zbf&&c.all Zbf&&e.all Zbf):=by
 grind[Zck]
theorem zob(s:Sm)(hs:SmS s):Zb T 529 [esm s]=some (.i .i64 (Zcl s)):=by
 have o1:=zri (T:=T);have c1:=zh3 (T:=T) 2 0 s.nm (Ye hs.nm (by decide));have kb:=zfo (T:=T) s.b hs.bl (fun x hx=>Ye (hs.b x hx) (by decide));have kc:=zfo (T:=T) s.c hs.cl (fun x hx=>Ye (hs.c x hx) (by decide));have ke:=zfo (T:=T) s.e hs.el (fun x hx=>Ye (hs.e x hx) (by decide));have ha:=fun r hr=>(show r.length≤1000∧∀x∈r,fsz x≤10000 from ⟨(hs.a r hr).1,fun x hx=>Ye ((hs.a r hr).2 x hx) (by decide)⟩);rw[zac Zc6.h529 rfl,b529];unfold Zcl;cases g1:Zam 2 s.nm with
 | false=>
  rw[g1]at c1;obtain⟨nm,c,a,b,e⟩:=s;generalize fz 1=z1 at *
  dsimp only at *
  simp -implicitDefEqProofs[c1]
 | true=>
 rw[g1]at c1;by_cases p1:s.b.length<1
 ·have q2:s.b=[]:=Yb1.1 (by omega);have hsh:Zbp s=false:=by unfold Zbp;grind
  rw[hsh];obtain⟨nm,c,a,b,e⟩:=s;subst q2;simp -implicitDefEqProofs[c1]
 have m2:¬ (s.b.length:Int)<1:=by omega
 by_cases p2:8<s.b.length
 ·have m3:(8:Int)<s.b.length:=by omega
  have hsh:Zbp s=false:=by unfold Zbp;grind
  rw[hsh];simp -implicitDefEqProofs[c1,m2,m3]
 have p2':s.b.length≤8:=by omega
 have m3:¬ (8:Int)<s.b.length:=by omega
 by_cases p3:s.c.length=s.b.length
 rotate_left
 ·have q3:¬ (s.c.length:Int)=s.b.length:=by omega
  have hsh:Zbp s=false:=by unfold Zbp;grind
  rw[hsh];simp -implicitDefEqProofs[c1,m2,m3,q3]
 by_cases p4:s.a.length=s.b.length
 rotate_left
 ·have q4:¬ (s.a.length:Int)=s.b.length:=by omega
  have hsh:Zbp s=false:=by unfold Zbp;grind
  rw[hsh];simp -implicitDefEqProofs[c1,m2,m3,p3,q4]
 by_cases p5:s.e.length=s.b.length∨s.e.length=0
 rotate_left
 ·have q5:¬ (s.e.length:Int)=s.b.length:=by omega
  have q7:¬ s.e=[]:=fun h=>p5 (.inr (by grind));have hsh:Zbp s=false:=by
   grind[Zbp]
  rw[hsh];simp -implicitDefEqProofs[c1,m2,m3,p3,p4,q5,q7]
 -- the shapes are right as far as lengths go
 have hsh:Zbp s=Zbe s.a 0:=by
  grind[Zbp]
 have h0:=zvd (T:=T) s p2' p4;have h1:=zve (T:=T) s p2' p4 ha;have h2:=fun g1 g2=>zvf (T:=T) s p2' p4 p3 g1 g2;rw[hsh];unfold Zhm bxS at h0;unfold Zhn bxS at h1;unfold Zho bxS at h2;rw[Yaa]at h0 h1 h2;rw[Yaa]at h2;simp only[Yt]at h0 h1 h2;have hm:=zage s.b s.c s.e;have m6:¬ s.b=[]:=fun h=>by grind
 rcases p5 with p5 | p5
 ·have q6:¬ s.e=[]:=fun h=>by grind
  have q7:0<s.b.length:=by omega
  cases hq:Zbe s.a 0 with
  | false=>
   rw[hq]at h0;simp -implicitDefEqProofs[c1,m2,m3,p3,p4,p5,m6,h0]
  | true=>
  rw[hq]at h0;cases hna:Zck s.a with
  | false=>
   rw[hna]at h1;simp -implicitDefEqProofs[c1,m2,m3,p3,p4,p5,m6,h0,h1]
  | true=>
  rw[hna]at h1;cases hnb:s.b.all Zbf with
  | false=>
   rw[hnb]at kb;rw[hnb]at hm;simp -implicitDefEqProofs[c1,m2,m3,p3,p4,p5,m6,h0,h1,kb,hm]
  | true=>
  rw[hnb]at kb;rw[hnb]at hm;cases hnc:s.c.all Zbf with
  | false=>
   rw[hnc]at kc;rw[hnc]at hm;simp -implicitDefEqProofs[c1,m2,m3,p3,p4,p5,m6,h0,h1,kb,kc,hm]
  | true=>
  rw[hnc]at kc;rw[hnc]at hm;cases hne:s.e.all Zbf with
  | false=>
   rw[hne]at ke;rw[hne]at hm;simp -implicitDefEqProofs[c1,m2,m3,p3,p4,p5,m6,h0,h1,kb,kc,ke,hm]
  | true=>
  rw[hne]at ke;rw[hne]at hm;have hna':=Yh.1 hna;have h2':=h2 (fun r hr=>⟨by have:=zc8 _ _ hq r hr;omega,hna' r hr⟩) hnc;have k6:=zed (T:=T) s.b p2' hnb;have z6:=zeg p2' (fun x hx=>zey (Yh.1 hnb x hx));have d6:=zcc (T:=T) (fz (sumF s.b)) (fz 1) (by rw[zco];omega);have k7:=zed (T:=T) s.e (by omega) hne;have z7:=zeg (l:=s.e) (by omega) (fun x hx=>zey (Yh.1 hne x hx));have d7:=zcc (T:=T) (fz (sumF s.e)) (fz 1) (by rw[zco];omega);have i7:decide (fz (sumF s.e)=fz 1)=decide (sumF s.e=1):=by rw[decide_eq_decide];exact zh4
  rw[i7]at d7;have i6:decide (fz (sumF s.b)=fz 1)=decide (sumF s.b=1):=by rw[decide_eq_decide];exact zh4
  rw[i6]at d6;cases hrw:Zbq s.a s.c with
  | false=>
   rw[hrw]at h2';simp -implicitDefEqProofs[c1,m2,m3,p3,p4,p5,m6,h0,h1,kb,kc,ke,hm,h2']
  | true=>
  rw[hrw]at h2';generalize fz (sumF s.b)=zb at *
  generalize fz (sumF s.e)=ze at *
  by_cases g6:sumF s.b=1
  ·by_cases g8:sumF s.e=1
   ·dsimp only at *
    simp -implicitDefEqProofs[c1,m2,m3,p3,p4,p5,q6,q7,m6,h0,h1,kb,kc,ke,hm,h2',o1,k6,d6,g6,k7,d7,g8]
   ·dsimp only at *
    simp -implicitDefEqProofs[c1,m2,m3,p3,p4,p5,q6,q7,m6,h0,h1,kb,kc,ke,hm,h2',o1,k6,d6,g6,k7,d7,g8]
  ·dsimp only at *
   simp -implicitDefEqProofs[c1,m2,m3,p3,p4,p5,m6,h0,h1,kb,kc,ke,hm,h2',o1,k6,d6,g6]
 ·have e0:s.e=[]:=Yb1.1 p5;rw[e0]at ke;rw[←e0]at ke;cases hq:Zbe s.a 0 with
  | false=>
   rw[hq]at h0;obtain⟨nm,c,a,b,e⟩:=s;subst e0;simp only[zaz]at *
   simp -implicitDefEqProofs[c1,m2,m3,p3,p4,h0]
  | true=>
  rw[hq]at h0;cases hna:Zck s.a with
  | false=>
   rw[hna]at h1;obtain⟨nm,c,a,b,e⟩:=s;subst e0;simp only[zaz]at *
   simp -implicitDefEqProofs[c1,m2,m3,p3,p4,h0,h1]
  | true=>
  rw[hna]at h1;cases hnb:s.b.all Zbf with
  | false=>
   rw[hnb]at kb;rw[hnb]at hm;obtain⟨nm,c,a,b,e⟩:=s;subst e0;simp only[zaz]at *
   simp -implicitDefEqProofs[c1,m2,m3,p3,p4,h0,h1,kb,hm]
  | true=>
  rw[hnb]at kb;rw[hnb]at hm;cases hnc:s.c.all Zbf with
  | false=>
   rw[hnc]at kc;rw[hnc]at hm;obtain⟨nm,c,a,b,e⟩:=s;subst e0;simp only[zaz]at *
   simp -implicitDefEqProofs[c1,m2,m3,p3,p4,h0,h1,kb,kc,hm]
  | true=>
  rw[hnc]at kc;rw[hnc]at hm;cases hne:s.e.all Zbf with
  | false=>
   grind
  | true=>
  rw[e0]at ke hm;have hna':=Yh.1 hna;have h2':=h2 (fun r hr=>⟨by have:=zc8 _ _ hq r hr;omega,hna' r hr⟩) hnc;have k6:=zed (T:=T) s.b p2' hnb;have z6:=zeg p2' (fun x hx=>zey (Yh.1 hnb x hx));have d6:=zcc (T:=T) (fz (sumF s.b)) (fz 1) (by rw[zco];omega);have i6:decide (fz (sumF s.b)=fz 1)=decide (sumF s.b=1):=by rw[decide_eq_decide];exact zh4
  rw[i6]at d6;cases hrw:Zbq s.a s.c with
  | false=>
   rw[hrw]at h2';obtain⟨nm,c,a,b,e⟩:=s;subst e0;simp only[zaz]at *
   simp -implicitDefEqProofs[c1,m2,m3,p3,p4,h0,h1,kb,kc,ke,hm,h2']
  | true=>
  rw[hrw]at h2';generalize fz (sumF s.b)=zb at *
  by_cases g6:sumF s.b=1
  ·obtain⟨nm,c,a,b,e⟩:=s;subst e0;simp only[zaz]at *
   simp -implicitDefEqProofs[c1,m2,m3,p3,p4,h0,h1,kb,kc,ke,hm,h2',o1,k6,d6,g6]
  ·obtain⟨nm,c,a,b,e⟩:=s;subst e0;simp only[zaz]at *
   simp -implicitDefEqProofs[c1,m2,m3,p3,p4,h0,h1,kb,kc,ke,hm,h2',o1,k6,d6,g6]
end
end Go.Ab
end
section
namespace Go.Ab
theorem zy5{r:Rd}(c:UInt8)(h:r.over=true):Zcd c r=(([],1,(r.at_:Int)):List Rat×Int×Int):=by
 have e:Zc r=[]:=by unfold Zc;rw[h];rfl
 unfold Zcd;rw[e,if_neg (by simp)]
theorem zwb{r:Rd}{c:UInt8}(h:¬ (Zc r).take 2=[c,32]):Zcd c r=(([],1,(r.at_:Int)):List Rat×Int×Int):=by
 unfold Zcd;rw[if_neg h]
theorem zm5{r:Rd}{c:UInt8}(h:(Zc r).take 2=[c,32])(hk:(Za2 ((Zc r).drop 2)).2.1≠0) :
  (Zcd c r).2=((Za2 ((Zc r).drop 2)).2.1,(Za2 ((Zc r).drop 2)).2.2+((r.at_:Int)+2)):=by
 unfold Zcd;rw[if_pos h];exact zv5 hk _
theorem zz5{r:Rd}{c:UInt8}(h:(Zc r).take 2=[c,32])(hk:(Za2 ((Zc r).drop 2)).2.1=0):Zcd c r=((Za2 ((Zc r).drop 2)).1,0,0):=by
 unfold Zcd;rw[if_pos h,zv8 hk]
 rfl
section
variable{T:Tbl}[Zab T][Zu T][Zz T][Z1 T][Zw T][Zs T][Zr T][Za0 T][Zg T][Zj T][Z0 T][Zay T][Z5 T][Zah T][Z3 T][Zaa T][Z4 T][Zai T][Z8 T][Zbv T][Zas T][Zbn T][Zcv T][Zao T][Zby T][Zcu T][Zaz T][Zcj T][Zco T][Zan T]
theorem zwc{t:List UInt8}{L:List Nat}{r:Rd}(hI:RdI t L r)(ho:r.over=false)(ht:t.length≤50000)(hL:L.length≤1000000) :
  Lin t L (ixR t L r) r.at_ (r.at_+(Zc r).length) (Zc r)∧(Zc r).length≤t.length:=by
 obtain⟨_,_,h0,h1⟩:=zcv hI ho;have hl:=hI.k.l;have hs:=hI.k.s ho;have el:Zc r=hdC 10 r.rest:=by unfold Zc;rw[ho];rfl
 have hle:(Zc r).length≤r.rest.length:=by rw[el];exact zmu 10 r.rest
 exact⟨⟨zf9 hI.w ho,h0,h1,by omega,by omega,by omega,hL⟩,by omega⟩
theorem zagk(t:List UInt8)(L:List Nat)(ht:t.length≤50000)(hL:L.length≤1000000)(r:Rd)(s:Sg)(hI:RdI t L r)
  (RR:Sm×Int×Int) (hR:RR=if (Zcd 98 r).2≠(0,0)∨(Zo r).over=true then (smG s (fzs (Zcd 98 r).1) [],(Zcd 98 r).2)
   else if (Zcd 101 (Zo r)).2≠(0,0)∨(Zo (Zo r)).over=true then (smG s (fzs (Zcd 98 r).1) (fzs (Zcd 101 (Zo r)).1),(Zcd 101 (Zo r)).2)
   else (smG s (fzs (Zcd 98 r).1) (fzs (Zcd 101 (Zo r)).1),1,(Zo (Zo r)).at_)) :
  (∃k a,¬ (k=0∧a=0)∧Zn T 0 2 (.norm false [2,3,4,5,6,7]) l629_1 (stQ t L (ixR t L r) s [] [] 0)=some (Zc3 k a)∧RR.2=(k,a)) ∨
  (∃n B E,Zn T 0 2 (.norm false [2,3,4,5,6,7]) l629_1 (stQ t L (ixR t L r) s [] [] 0)=some (.n,stE L n s B E)∧n+1=L.length∧RR=(smG s B E,0,0)) ∨
  (∃n B E p,Zn T 0 2 (.norm false [2,3,4,5,6,7]) l629_1 (stQ t L (ixR t L r) s [] [] 0)=some (.n,stE L n s B E)∧n+1<L.length∧L[n]? = some p∧p≤t.length∧RR.2=(1,(p:Int))):=by
 have one:∀{S:Nat→St} {G:Ex×St},Zdk (evX (orc T) T 0 l629_1 (S 0))=true∧Zdj 0 2 (.norm false [2,3,4,5,6,7]) (evX (orc T) T 0 l629_1 (S 0))=some G→Zn T 0 2 (.norm false [2,3,4,5,6,7]) l629_1 (S 0)=some G:=fun {S G} h=>
  zba S 0 (some G) (fun i hi=>absurd hi (Nat.not_lt_zero _)) h
 cases ho:r.over with
 | true=>
  left;rw[zy5 98 ho,if_pos (Or.inl (by simp))]at hR;obtain⟨e1,e2⟩:=zgt hI ho;have ev:=z8b (T:=T) t L (ixR t L r) s [] [] e1 hL (by omega) e2;have hat:=hI.w.v ho;refine⟨1,r.at_,by simp,one (S:=fun _=>stQ t L (ixR t L r) s [] [] 0) ?_,by rw[hR]⟩;rw[ev,hat];exact zcn _ _ _ _
 | false=>
 obtain⟨I2,x2,_,_⟩:=zcv hI ho;obtain⟨H,hll⟩:=zwc hI ho ht hL;by_cases h2:(Zc r).take 2=[98,32]
 rotate_left
 ·left;rw[zwb h2,if_pos (Or.inl (by simp))]at hR;have ev:=z8c (T:=T) 0 98 (.inl ⟨rfl,rfl⟩) s [] [] H h2;refine⟨1,r.at_,by simp,one (S:=fun _=>stQ t L (ixR t L r) s [] [] 0) ?_,by rw[hR]⟩;rw[ev];exact zcn _ _ _ _
 have c1:=zex (T:=T) ((Zc r).drop 2) (by rw[Yv];omega);have fl:=zce ((Zc r).drop 2);rw[Yv]at fl;by_cases hk:(Za2 ((Zc r).drop 2)).2.1=0
 rotate_left
 ·left;have hw:=zm5 h2 hk;rw[hw,if_pos (Or.inl (fun e=>hk (congrArg (·.1) e)))]at hR;have ev:=zwa (T:=T) 0 98 (.inl ⟨rfl,rfl⟩) s [] [] H h2 rfl c1 hk (by omega);refine⟨_,_,fun e=>hk e.1,one (S:=fun _=>stQ t L (ixR t L r) s [] [] 0) ?_,by rw[hR]⟩;rw[ev];exact zcn _ _ _ _
 rw[hk]at c1;have ev0:=zagi (T:=T) s [] [] H h2 rfl c1;rw[←x2]at ev0;rw[zz5 h2 hk]at hR;generalize (Za2 ((Zc r).drop 2)).1=W at *
 clear c1 fl hk h2 H hll;have two:∀{G:Ex×St},Zdk (evX (orc T) T 0 l629_1 (stQ t L (ixR t L (Zo r)) s (fzs W) [] 1))=true∧Zdj 0 2 (.norm false [2,3,4,5,6,7]) (evX (orc T) T 0 l629_1 (stQ t L (ixR t L (Zo r)) s (fzs W) [] 1))=some G →
   Zn T 0 2 (.norm false [2,3,4,5,6,7]) l629_1 (stQ t L (ixR t L r) s [] [] 0)=some G:=fun {G} h=>
  zba (fun i=>match i with | 0=>stQ t L (ixR t L r) s [] [] 0 | _=>stQ t L (ixR t L (Zo r)) s (fzs W) [] 1) 1 (some G) (fun i hi=>by
   obtain rfl:i=0:=by omega
   exact ev0) h
 cases ho2:(Zo r).over with
 | true=>
  right;left;rw[if_pos (Or.inr ho2)]at hR;obtain⟨e1,e2⟩:=zgt I2 ho2;exact⟨_,_,_,two (z8a (T:=T) t L _ s (fzs W) [] e1 hL),e1,hR⟩
 | false=>
 rw[if_neg (by simp[ho2])]at hR;obtain⟨I3,x3,_,_⟩:=zcv I2 ho2;obtain⟨H,hll⟩:=zwc I2 ho2 ht hL;by_cases h2:(Zc (Zo r)).take 2=[101,32]
 rotate_left
 ·left;rw[zwb h2,if_pos (Or.inl (by simp))]at hR;have ev:=z8c (T:=T) 1 101 (.inr ⟨rfl,rfl⟩) s (fzs W) [] H h2;refine⟨1,(Zo r).at_,by simp,two ?_,by rw[hR]⟩;rw[ev];exact zcn _ _ _ _
 have c1:=zex (T:=T) ((Zc (Zo r)).drop 2) (by rw[Yv];omega);have fl:=zce ((Zc (Zo r)).drop 2);rw[Yv]at fl;by_cases hk:(Za2 ((Zc (Zo r)).drop 2)).2.1=0
 rotate_left
 ·left;have hw:=zm5 h2 hk;rw[hw,if_pos (Or.inl (fun e=>hk (congrArg (·.1) e)))]at hR;have ev:=zwa (T:=T) 1 101 (.inr ⟨rfl,rfl⟩) s (fzs W) [] H h2 rfl c1 hk (by omega);refine⟨_,_,fun e=>hk e.1,two ?_,by rw[hR]⟩;rw[ev];exact zcn _ _ _ _
 rw[hk]at c1;have ev1:=zagj (T:=T) s (fzs W) [] H h2 rfl c1;rw[←x3]at ev1;rw[zz5 h2 hk]at hR;generalize (Za2 ((Zc (Zo r)).drop 2)).1=V at *
 clear c1 fl hk h2 H hll two;have three:=zba (fun i=>match i with | 0=>stQ t L (ixR t L r) s [] [] 0 | 1=>stQ t L (ixR t L (Zo r)) s (fzs W) [] 1 | _=>stQ t L (ixR t L (Zo (Zo r))) s (fzs W) (fzs V) 2) 2 _ (fun i hi=>by
   rcases(by omega:i=0∨i=1) with rfl | rfl
   ·exact ev0
   ·exact ev1) (zagh (T:=T) t L (ixR t L (Zo (Zo r))) s (fzs W) (fzs V))
 cases ho3:(Zo (Zo r)).over with
 | true=>
  right;left;rw[if_pos (Or.inr ho3)]at hR;obtain⟨e1,e2⟩:=zgt I3 ho3;exact⟨_,_,_,three,e1,hR⟩
 | false=>
  right;right;rw[if_neg (by simp[ho3])]at hR;obtain⟨I4,_,h0,h1⟩:=zcv I3 ho3;obtain⟨k1,_⟩:=Yc.1 h1;exact⟨_,_,_,_,three,k1,h0,I3.k.a,by rw[hR]⟩
end
end Go.Ab
end
section
namespace Go.Ab
theorem zps{t:List UInt8}{L:List Nat}:∀(n:Nat) (r:Rd) (s:Sg),RdI t L r→(Zac t n r s).2.2=(0,0)→RdI t L (Zac t n r s).1
 | 0,_,_,h,_=>h
 | n+1,r,s,h,hz=>by
  unfold Zac at hz ⊢;by_cases h1:r.over=true
  ·rw[if_pos h1];exact h
  have ho:r.over=false:=by simpa using h1
  rw[if_neg h1]at hz ⊢;by_cases h2:(Zc r).contains 124=false
  ·rw[if_pos h2];have e:(⟨t.drop r.at_,r.at_,false⟩:Rd)=r:=by
    rw[h.w.o ho,←ho]
   dsimp only;rw[e];exact h
  rw[if_neg h2]at hz ⊢;by_cases h3:(Zbr (Zc r) r.at_).2.2≠(0,0)
  ·rw[if_pos h3]at hz;exact absurd hz h3
  ·rw[if_neg h3]at hz ⊢;exact zps n _ _ (zcv h ho).1 hz
section
variable{T:Tbl}[Zab T][Zu T][Zz T][Z1 T][Zw T][Zs T][Zr T][Za0 T][Zg T][Zj T][Z0 T][Zay T][Z5 T][Zah T][Z3 T][Zaa T][Z4 T][Zai T][Z8 T][Zbv T][Zas T][Zbn T][Zba T][Zc6 T][Zei T][Zcv T][Zao T][Zby T][Zcu T][Zaz T][Zcj T][Zco T][Zan T]
def Zo5(k a:Int):AV:=.tup [esm ⟨[],[],[],[],[]⟩,.agg [.i .i64 k,.i .i64 a]]
theorem zib(t:List UInt8)(ht:t.length≤1000000)(hs:t.length≤4000→(Zag t).2=(0,0)→SmS (Zag t).1) :
  Zb T 629 [.s t]=some (.tup [esm (Zbb t).1,.agg [.i .i64 (Zbb t).2.1,.i .i64 (Zbb t).2.2]]):=by
 have e0:esm ⟨[],[],[],[],[]⟩=.agg [.s [],.sl [] .an,.sl [] .an,.sl [] .an,.sl [] .an]:=rfl;unfold Zbb;rw[zac Zan.h629 rfl,b629];by_cases h1:4000<t.length
 ·have h1':(4000:Int)<t.length:=by omega
  rw[if_pos h1];clear hs;simp only[e0];simp -implicitDefEqProofs[h1,h1']
 have h1':¬ (4000:Int)<t.length:=by omega
 rw[if_neg h1]
 -- the readers
 have I0:RdI t (0::stL 0 t) ⟨t,0,false⟩:=by
  have e:Zgd t ⟨t,0,false⟩=0::stL 0 t:=rfl;refine⟨⟨Yl _,Yf _,fun _=>Yah _⟩,⟨fun _=>rfl,fun h=>by cases h⟩,by rw[e];exact Yf _,?_⟩;unfold ixR;rw[e,Ybv]
  rfl
 have hL:(0::stL 0 t).length≤1000000:=by
  have:=zol t t.length;unfold stM at this;rw[Ybf]at this;unfold stL;simp only[Yd,Yu,Y1]at *
  omega
 have x0:ixR t (0::stL 0 t) ⟨t,0,false⟩=0:=by
  unfold ixR;exact Ybv _
 obtain⟨I1,x1,_,_⟩:=zcv I0 rfl;obtain⟨H,hll⟩:=zwc I0 rfl (by omega) hL;rw[x0]at H x1;rw[Yah]at x1;have c1:=zm2 (T:=T) t ht;have c2:=zh3 (T:=T) 2 0 (Zc ⟨t,0,false⟩) (by omega);have mu1:=(zf7 I0.k rfl).2;have mu0:muR (⟨t,0,false⟩:Rd)=t.length+1:=rfl;have P:=z79 (T:=T) t (0::stL 0 t) (by omega) hL (t.length+2) (Zo ⟨t,0,false⟩) ⟨Zc ⟨t,0,false⟩,[],[]⟩ I1 (by omega) (by simp;omega) (by simp;omega);rw[x1]at P;have rdi:=zps (t.length+2) (Zo ⟨t,0,false⟩) ⟨Zc ⟨t,0,false⟩,[],[]⟩ I1;have hS:Zak t=Zac t (t.length+2) (Zo ⟨t,0,false⟩) ⟨Zc ⟨t,0,false⟩,[],[]⟩:=rfl;rw[←hS]at P rdi;have hlen:=za5 (0::stL 0 t);have hwk:=za6 (0::stL 0 t);obtain⟨s0,_,h1a,_,q2,_,_⟩:=H;have i1:=za0 h1a;rw[←hlen]at hL;have hsub:IntKind.wrap .i64 ((Zc ⟨t,0,false⟩).length:Int)=((Zc ⟨t,0,false⟩).length:Int):=zab _ (by omega);have q2':((Zc ⟨t,0,false⟩).length:Int)≤t.length:=by omega
 have q3:(Zc ⟨t,0,false⟩).length≤t.length:=hll;have hR0:Zag t=Zag t:=rfl
 conv at hR0=>rhs;unfold Zag
 have W:=fun hz:(Zak t).2.2=(0,0)=>fun hq=>zagk (T:=T) t (0::stL 0 t) (by omega) (by rw[←hlen];exact hL) (Zak t).1 (Zak t).2.1 (rdi hz) (Zag t) hq;clear I0 I1 x0 x1 mu1 mu0 rdi hS ht h1a;simp only[Yah,Yaa]at s0 i1;cases hn:Zam 2 (Zc ⟨t,0,false⟩) with
 | false=>
  rw[hn]at c2;rw[if_pos hn]at hR0;have hf:(Zag t).2=(1,0):=by rw[hR0]
  rw[if_pos (by rw[hf];simp),hf];clear hR0 hf hs P W hn;generalize Zc ⟨t,0,false⟩=nm at *
  generalize Zaf (0::stL 0 t)=R at *
  obtain⟨j1,i1⟩:=Yc.1 i1;have g1:R[1]? = some (R[1]'j1):=Ya j1;have hlt:(1:Int)<R.length:=by omega
  simp only[Yad,Yae]at i1;simp only[e0];simp -implicitDefEqProofs[h1,h1',c1,c2,g1,i1,j1,hlt,hsub,q2',q3,s0]
 | true=>
 rw[hn]at c2;rw[if_neg (by rw[hn];simp)]at hR0;by_cases hz:(Zak t).2.2=(0,0)
 rotate_left
 ·rw[if_pos hz]at hR0;have hf:(Zag t).2=(Zak t).2.2:=by rw[hR0]
  rw[if_pos (by rw[hf];exact hz),hf];unfold Zim at P;rw[if_neg hz]at P;unfold Zd6 Zil Zc3 emC at P;simp only[Y1,zaz,zgw,Yt,Yae]at P;clear hR0 hf hs W hn hz;generalize (Zak t).2.2=F at *
  obtain⟨k,a⟩:=F;generalize Zc ⟨t,0,false⟩=nm at *
  generalize Zaf (0::stL 0 t)=R at *
  obtain⟨j1,i1⟩:=Yc.1 i1;have g1:R[1]? = some (R[1]'j1):=Ya j1;have hlt:(1:Int)<R.length:=by omega
  simp only[Yad,Yae]at i1;simp only[e0];simp -implicitDefEqProofs[h1,h1',c1,c2,g1,i1,j1,hlt,hsub,q2',q3,s0,P,hwk]
 rw[if_neg (by simpa using hz)]at hR0;have W:=W hz hR0;unfold Zim at P;rw[if_pos hz]at P;unfold Zd6 Zil emC at P;simp only[Y1,zaz,zgw,Yt,Yae]at P;generalize ixR t (0::stL 0 t) (Zak t).1=n2 at *
 clear hR0 hn hz;have hwr:=fun hz:(Zag t).2=(0,0)=>zob (T:=T) (Zag t).1 (hs (by omega) hz);clear hs;generalize (Zak t).2.1=s2 at *
 generalize hRR:Zag t=RR at *
 clear hRR;rcases W with ⟨k,a,hka,Q,hf⟩ | ⟨n,B,E,Q,hn,hf⟩ | ⟨n,B,E,p,Q,hn,hp,hpt,hf⟩
 ·rw[if_pos (by rw[hf];exact fun e=>hka ⟨congrArg (·.1) e,congrArg (·.2) e⟩),hf];unfold stQ bxQ Zc3 emC at Q;simp only[zaz,Yt]at Q;clear hf hwr hka;obtain⟨nm2,C,A⟩:=s2;generalize Zc ⟨t,0,false⟩=nm at *
  generalize Zaf (0::stL 0 t)=R at *
  obtain⟨j1,i1⟩:=Yc.1 i1;have g1:R[1]? = some (R[1]'j1):=Ya j1;have hlt:(1:Int)<R.length:=by omega
  simp only[Yad,Yae]at i1;dsimp only at *
  simp only[e0];simp -implicitDefEqProofs[h1,h1',c1,c2,g1,i1,j1,hlt,hsub,q2',q3,s0,P,hwk,Q]
 ·have hf2:RR.2=(0,0):=by rw[hf]
  have hwr:=hwr hf2;rw[if_neg (by rw[hf2];simp)];rw[hf]at hwr ⊢;unfold smG at hwr ⊢;dsimp only at hwr ⊢;unfold stQ bxQ stE bxQ emC at Q;simp only[zaz,Yt]at Q;have hws:=zbr (n:=n+1) (show n<n+1 by omega) (by rw[hn,←hlen];omega);rw[←hlen]at hn;clear hf hf2;obtain⟨nm2,C,A⟩:=s2;dsimp only at *
  generalize Zcl ⟨nm2,C,A,B,E⟩=Wr at *
  generalize Zc ⟨t,0,false⟩=nm at *
  generalize Zaf (0::stL 0 t)=R at *
  obtain⟨j1,i1⟩:=Yc.1 i1;have g1:R[1]? = some (R[1]'j1):=Ya j1;have hlt:(1:Int)<R.length:=by omega
  simp only[Yad,Yae]at i1 hws;have hn':=hn.symm;have hl1:(1:Int)<(n:Int)+1:=by omega
  have hl2:0<n:=by omega
  have hl3:(0:Int)<n:=by omega
  have t1:List.take C.length (Zf C)=Zf C:=Yb (by simp);have t2:List.take A.length (Z2 A)=Z2 A:=Yb (by simp);by_cases hw:Wr=0
  ·subst hw;rw[if_neg (by simp)];simp -implicitDefEqProofs[h1,h1',c1,c2,g1,i1,j1,hlt,hsub,q2',q3,s0,P,hwk,Q,hws,hn',hwr,t1,t2,hl1,hl2,hl3]
  ·rw[if_pos hw];simp only[e0];simp -implicitDefEqProofs[h1,h1',c1,c2,g1,i1,j1,hlt,hsub,q2',q3,s0,P,hwk,Q,hws,hn',hwr,hw,t1,t2,hl1,hl2,hl3]
 ·rw[if_pos (by rw[hf];simp),hf];unfold stQ bxQ stE bxQ emC at Q;simp only[zaz,Yt]at Q;have i2:=za0 hp;have hws:=zbr (n:=n+1) (show n<n+1 by omega) (by rw[←hlen]at hn;omega);rw[←hlen]at hn;have hn':(n:Int)+1<(Zaf (0::stL 0 t)).length:=by omega
  have hn2:n<(Zaf (0::stL 0 t)).length:=by omega
  clear hf hwr hp;obtain⟨nm2,C,A⟩:=s2;generalize Zc ⟨t,0,false⟩=nm at *
  generalize Zaf (0::stL 0 t)=R at *
  obtain⟨j1,i1⟩:=Yc.1 i1;obtain⟨j2,i2⟩:=Yc.1 i2;have g1:R[1]? = some (R[1]'j1):=Ya j1;have g2:R[n]? = some (R[n]'j2):=Ya j2;have hlt:(1:Int)<R.length:=by omega
  simp only[Yad,Yae]at i1 hws;dsimp only at *
  simp only[e0];simp -implicitDefEqProofs[h1,h1',c1,c2,g1,i1,j1,hlt,hsub,q2',q3,s0,P,hwk,Q,hws,hn,hn',hn2,g2,i2]
end
end Go.Ab
end
section
namespace Go.Ab
def smQ(p:List UInt8×List Rat×List (List Rat)×List Rat×List Rat):Sm:=⟨p.1,fzs p.2.1,p.2.2.1.map fzs,fzs p.2.2.2.1,fzs p.2.2.2.2⟩
def Zj9(l:List Rat):Rat:=l.foldl (fun s x=>s+x) 0
def Zfi(q:Rat):Bool:=decide (q.num.natAbs<4294967296)&&decide (q.den<4294967296)
def okQ(p:List UInt8×List Rat×List (List Rat)×List Rat×List Rat):Bool:=
 Zam 2 p.1&&Zbp (smQ p)&&p.2.2.1.all (fun r=>r.all Zfi)&&(p.2.2.2.1.all Zfi&&p.2.1.all Zfi&&p.2.2.2.2.all Zfi)
  && (p.2.2.1.zip p.2.1).all (fun z=>decide (Zj9 z.1=z.2))&&decide (Zj9 p.2.2.2.1=1)&&(p.2.2.2.2.isEmpty || decide (Zj9 p.2.2.2.2=1))
def Zbs:Nat→List UInt8
 | 0=>[101,117,108,101,114,10,48,124,10,98,32,49]
 | 1=>[104,101,117,110,10,48,124,10,49,124,49,10,98,32,49,47,50,44,49,47,50,10,101,32,49,44,48]
 | 2=>[109,105,100,112,111,105,110,116,10,48,124,10,49,47,50,124,49,47,50,10,98,32,48,44,49,10,101,32,49,44,48]
 | 3=>[114,107,52,10,48,124,10,49,47,50,124,49,47,50,10,49,47,50,124,48,44,49,47,50,10,49,124,48,44,48,44,49,10,98,32,49,47,54,44,49,47,51,44,49,47,51,44,49,47,54]
 | 4=>[98,115,50,51,10,48,124,10,49,47,50,124,49,47,50,10,51,47,52,124,48,44,51,47,52,10,49,124,50,47,57,44,49,47,51,44,52,47,57,10,98,32,50,47,57,44,49,47,51,44,52,47,57,44,48,10,101,32,55,47,50,52,44,49,47,52,44,49,47,51,44,49,47,56]
 | 5=>[100,112,52,53,10,48,124,10,49,47,53,124,49,47,53,10,51,47,49,48,124,51,47,52,48,44,57,47,52,48,10,52,47,53,124,52,52,47,52,53,44,45,53,54,47,49,53,44,51,50,47,57,10,56,47,57,124,49,57,51,55,50,47,54,53,54,49,44,45,50,53,51,54,48,47,50,49,56,55,44,54,52,52,52,56,47,54,53,54,49,44,45,50,49,50,47,55,50,57,10,49,124,57,48,49,55,47,51,49,54,56,44,45,51,53,53,47,51,51,44,52,54,55,51,50,47,53,50,52,55,44,52,57,47,49,55,54,44,45,53,49,48,51,47,49,56,54,53,54,10,49,124,51,53,47,51,56,52,44,48,44,53,48,48,47,49,49,49,51,44,49,50,53,47,49,57,50,44,45,50,49,56,55,47,54,55,56,52,44,49,49,47,56,52,10,98,32,51,53,47,51,56,52,44,48,44,53,48,48,47,49,49,49,51,44,49,50,53,47,49,57,50,44,45,50,49,56,55,47,54,55,56,52,44,49,49,47,56,52,44,48,10,101,32,53,49,55,57,47,53,55,54,48,48,44,48,44,55,53,55,49,47,49,54,54,57,53,44,51,57,51,47,54,52,48,44,45,57,50,48,57,55,47,51,51,57,50,48,48,44,49,56,55,47,50,49,48,48,44,49,47,52,48]
 | _=>[]
def Zcr:Nat→List UInt8
 | 0=>[101,117,108,101,114]
 | 1=>[104,101,117,110]
 | 2=>[109,105,100,112,111,105,110,116]
 | 3=>[114,107,52]
 | 4=>[98,115,50,51]
 | 5=>[100,112,52,53]
 | _=>[]
def Zmj:Nat→List UInt8×List Rat×List (List Rat)×List Rat×List Rat
 | 0=>([101,117,108,101,114],[mkRat 0 1],[[]],[mkRat 1 1],[])
 | 1=>([104,101,117,110],[mkRat 0 1,mkRat 1 1],[[],[mkRat 1 1]],[mkRat 1 2,mkRat 1 2],[mkRat 1 1,mkRat 0 1])
 | 2=>([109,105,100,112,111,105,110,116],[mkRat 0 1,mkRat 1 2],[[],[mkRat 1 2]],[mkRat 0 1,mkRat 1 1],[mkRat 1 1,mkRat 0 1])
 | 3=>([114,107,52],[mkRat 0 1,mkRat 1 2,mkRat 1 2,mkRat 1 1],[[],[mkRat 1 2],[mkRat 0 1,mkRat 1 2],[mkRat 0 1,mkRat 0 1,mkRat 1 1]],[mkRat 1 6,mkRat 1 3,mkRat 1 3,mkRat 1 6],[])
 | 4=>([98,115,50,51],[mkRat 0 1,mkRat 1 2,mkRat 3 4,mkRat 1 1],[[],[mkRat 1 2],[mkRat 0 1,mkRat 3 4],[mkRat 2 9,mkRat 1 3,mkRat 4 9]],[mkRat 2 9,mkRat 1 3,mkRat 4 9,mkRat 0 1],[mkRat 7 24,mkRat 1 4,mkRat 1 3,mkRat 1 8])
 | 5=>([100,112,52,53],[mkRat 0 1,mkRat 1 5,mkRat 3 10,mkRat 4 5,mkRat 8 9,mkRat 1 1,mkRat 1 1],[[],[mkRat 1 5],[mkRat 3 40,mkRat 9 40],[mkRat 44 45,mkRat (-56) 15,mkRat 32 9],[mkRat 19372 6561,mkRat (-25360) 2187,mkRat 64448 6561,mkRat (-212) 729],[mkRat 9017 3168,mkRat (-355) 33,mkRat 46732 5247,mkRat 49 176,mkRat (-5103) 18656],[mkRat 35 384,mkRat 0 1,mkRat 500 1113,mkRat 125 192,mkRat (-2187) 6784,mkRat 11 84]],[mkRat 35 384,mkRat 0 1,mkRat 500 1113,mkRat 125 192,mkRat (-2187) 6784,mkRat 11 84,mkRat 0 1],[mkRat 5179 57600,mkRat 0 1,mkRat 7571 16695,mkRat 393 640,mkRat (-92097) 339200,mkRat 187 2100,mkRat 1 40])
 | _=>([],[],[],[],[])
def Zef(i:Nat):Sm:=smQ (Zmj i)
theorem zks(l:List Rat):sumF (fzs l)=Zj9 l:=by
 unfold sumF Zj9 fzs;rw[List.foldl_map];simp only[zit]
theorem zvs{q:Rat}(h:Zfi q=true):sz q≤1:=by
 unfold Zfi at h;simp only[Yo,decide_eq_true_eq]at h;exact zaf9 h.1 h.2
theorem zfp{l:List Rat}(h:l.all Zfi=true):(fzs l).all Zbf=true:=by
 rw[Yh];intro x hx;unfold fzs at hx;obtain⟨q,hq,rfl⟩:=Yat.1 hx;exact zrr (by have:=zvs (Yh.1 h q hq);omega)
theorem z7u(p:List UInt8×List Rat×List (List Rat)×List Rat×List Rat)(h:okQ p=true):okS (smQ p)=true:=by
 obtain⟨nm,c,a,b,e⟩:=p;unfold okQ at h;simp only[Yo,decide_eq_true_eq,Yav]at h;obtain⟨⟨⟨⟨⟨⟨h1,h2⟩,h3⟩,⟨h4,h5⟩,h6⟩,h7⟩,h8⟩,h9⟩:=h;have n1:Zck (a.map fzs)=true:=by
  unfold Zck;rw[List.all_map,Yh];intro r hr;exact zfp (Yh.1 h3 r hr)
 have n2:Zck [fzs b,fzs c,fzs e]=true:=by
  rw[zz0,zfp h4,zfp h5,zfp h6]
  rfl
 have n3:Zbq (a.map fzs) (fzs c)=true:=by
  unfold Zbq;rw[Yh]at h7 ⊢;intro z hz;have e1:(a.map fzs).zip (fzs c)=(a.zip c).map fun z=>(fzs z.1,fz z.2):=by
   unfold fzs;rw[List.zip_map]
   rfl
  rw[e1]at hz;obtain⟨y,hy,rfl⟩:=Yat.1 hz;have:=h7 y hy;rw[decide_eq_true_eq]at this ⊢;rw[zks,zit];exact this
 have n4:sumF (fzs b)=1:=by rw[zks];exact h8
 have n5:¬ (fzs e≠[]∧sumF (fzs e)≠1):=by
  rw[zks]
  rintro⟨q1,q2⟩
  rcases h9 with h9 | h9
  ·cases e with
   | nil=>exact q1 rfl
   | cons x e=>simp at h9
  ·exact q2 h9
 unfold okS Zcl;rw[show (smQ (nm,c,a,b,e)).nm=nm from rfl,show (smQ (nm,c,a,b,e)).a=a.map fzs from rfl,show (smQ (nm,c,a,b,e)).b=fzs b from rfl,show (smQ (nm,c,a,b,e)).c=fzs c from rfl,show (smQ (nm,c,a,b,e)).e=fzs e from rfl];rw[h1,h2,n1,n2,n3,if_neg n5];simp[n4]
def Znu(x:Fz):Bool:=decide ((Zg6 (fv x).num.natAbs).length≤10)&&decide ((Zg6 (fv x).den).length≤10)
theorem z2t:∀i,i<6→okQ (Zmj i)=true:=by decide +kernel
theorem zz1{i:Nat}(h:i<6):okS (Zef i)=true:=z7u _ (z2t i h)
theorem zvt:Zag (Zbs 0)=(Zef 0,0,0):=by kernel_rfl
theorem zvu:Zag (Zbs 1)=(Zef 1,0,0):=by kernel_rfl
theorem zvv:Zag (Zbs 2)=(Zef 2,0,0):=by kernel_rfl
theorem zvw:Zag (Zbs 3)=(Zef 3,0,0):=by kernel_rfl
theorem zvx:Zag (Zbs 4)=(Zef 4,0,0):=by kernel_rfl
theorem zvy:Zag (Zbs 5)=(Zef 5,0,0):=by kernel_rfl
theorem zmz{i:Nat}(h:i<6):Zbb (Zbs i)=(Zef i,0,0):=by
 have hr:Zag (Zbs i)=(Zef i,0,0):=by
  match i,h with
  | 0,_=>exact zvt
  | 1,_=>exact zvu
  | 2,_=>exact zvv
  | 3,_=>exact zvw
  | 4,_=>exact zvx
  | 5,_=>exact zvy
 have hl:∀i,i<6→(Zbs i).length≤4000:=by decide +kernel
 have:=hl i h;obtain⟨_,hw⟩:=zpr (zz1 h);unfold Zbb;rw[if_neg (by omega),hr,if_neg (by simp),if_neg (by simp[hw])]
end Go.Ab
end
section
namespace Go.Ab
def Zew(l:List UInt8)(i:Nat):Option Nat:=((List.range 6).drop i).find? fun j=>decide (Zcr j=l)
theorem zv2(l:List UInt8){i:Nat}(h:i<6):Zew l i=if Zcr i=l then some i else Zew l (i+1):=by
 unfold Zew;rw[Yk (by simpa using h),List.find?_cons,List.getElem_range];by_cases e:Zcr i=l<;>simp[e]
theorem zoh{l:List UInt8}{i j:Nat}(h:Zew l i=some j):j<6:=by
 have:=List.mem_of_find?_eq_some h;have:=Ycg this;simpa using this
theorem zv3:∀i,i<6→hdC 10 (Zbs i)=Zcr i:=by decide +kernel
theorem zgs:∀i,i<6→(Zbs i).length≤1000:=by decide +kernel
def emS:Sm:=⟨[],[],[],[],[]⟩
def Zfs(l:List UInt8):Sm:=match Zew l 0 with | some i=>Zef i | none=>emS
def Zh7(l:List UInt8):Bool:=(Zew l 0).isSome
theorem z71{s:Sm}(h:okS s=true):SmS s:=by
 obtain⟨H,_⟩:=zpr h;have hn:=(zjk (zyv h)).2;have b8:=H.b8;have al:=H.al;have cl:=H.cl;have el:=H.el;refine⟨by omega,by omega,by omega,by omega,by omega,fun x hx=>?_,fun r hr=>⟨?_,fun x hx=>?_⟩,fun x hx=>?_,fun x hx=>?_⟩
 ·have:=zoc H.nc x hx;omega
 ·have q:=zc8 _ _ H.sh r hr;omega
 ·have:=zkr H.na r hr x hx;omega
 ·have:=zoc H.nb x hx;omega
 ·have:=zoc H.ne x hx;omega
def Zjh:List AV:=[.s (Zbs 0),.s (Zbs 1),.s (Zbs 2),.s (Zbs 3),.s (Zbs 4),.s (Zbs 5)]
theorem zcm:∃a b c d e f:List UInt8,Zjh=[.s a,.s b,.s c,.s d,.s e,.s f]:=⟨_,_,_,_,_,_,rfl⟩
theorem zz3(i:Nat)(h:i<6):Ze7 1 6 none (.agg Zjh) (.i .i64 i)=some (.s (Zbs i)):=by
 match i,h with
 | 0,_=>rfl
 | 1,_=>rfl
 | 2,_=>rfl
 | 3,_=>rfl
 | 4,_=>rfl
 | 5,_=>rfl
def smC(s:Sm):List AV:=[.s s.nm,.sl (Zf s.c) .an,.sl (Z2 s.a) .an,.sl (Zf s.b) .an,.sl (Zf s.e) .an]
def Zcg(n:Nat):List (List AV):=(List.range n).map fun i=>[.s (Zcr i)]
def Zmk(n:Nat):List (List AV):=(List.range n).map fun i=>smC (Zef i)
theorem zv4(n:Nat):Zcg (n+1)=Zcg n++[[.s (Zcr n)]]:=by unfold Zcg;rw[List.range_succ,Yde];rfl
theorem zeh(n:Nat):(Zcg n).length=n:=by simp[Zcg]
theorem zpw{α:Type}(f:α→List AV)(h:∀a,wkR (f a)=f a):∀l:List α,wkL (l.map f)=l.map f
 | []=>rfl
 | a::l=>by rw[Y2,wkL,h,zpw f h l]
theorem zez(n:Nat):wkL (Zcg n)=Zcg n:=zpw _ (fun _=>rfl) _
section
variable{T:Tbl}[Zab T][Zu T][Zz T][Z1 T][Zw T][Zs T][Zr T][Za0 T][Zg T][Zj T][Z0 T][Zay T][Za9 T][Zbi T][Zcv T][Zao T][Zby T][Zcu T][Zcz T][Zca T][Zdb T][Ze4 T][Ze3 T][Zaz T][Zcj T][Zco T][Zfq T][Zcb T][Zat T][Za3 T][Zcq T]
theorem zic:Zb T 609 []=some (.agg Zjh):=by
 rw[zac Zcq.h609 rfl]
 kernel_rfl
theorem zjo(l:List UInt8)(h:l.length≤1000000):Zb T 610 [.s l]=some (.s (hdC 10 l)):=by
 have c:=zua (T:=T) l h;unfold hdC;rw[zac Zcq.h610 rfl,b610];generalize List.takeWhile (fun x=>x != 10) l=A at *
 generalize List.drop 1 (List.dropWhile (fun x=>x != 10) l)=B at *
 generalize l.contains 10=C at *
 simp -implicitDefEqProofs[c]
theorem zoi(hcut:∀l:List UInt8,l.length≤1000000→Zb T 184 [.s l,.s [124]]=some (.tup [.s (hdC 124 l),.s (tlC 124 l),.b (l.contains 124)])){i:Nat}(h:i<6):Zb T 608 [.s (Zbs i)]=some (.tup [esm (Zef i),flt 0 0]):=by
 have:=zgs i h;have q:=zmv (T:=T) hcut (Zbs i) (by omega) (fun _ g=>zkp _ (by omega) g);rw[zmz h]at q;exact q
def Zkb(l:List UInt8)(i:Nat):St:=⟨[(0,.s l),(2,.ptr (.loc 2) 1 5 0 0),(8,.agg Zjh),(9,.i .i64 i)],[(.loc 2,⟨1,.str,5,[[.s [],.sl [] .an,.sl [] .an,.sl [] .an,.sl [] .an]]⟩)],3⟩
def Zhr:Option Nat→Option (Ex×St)
 | some j=>some (.r,⟨[(2,.ptr (.loc 2) 1 5 0 0),(3,.b true)],[(.loc 2,⟨1,.str,5,[smC (Zef j)]⟩)],3⟩)
 | none=>some (.n,⟨[(2,.ptr (.loc 2) 1 5 0 0)],[(.loc 2,⟨1,.str,5,[[.s [],.sl [] .an,.sl [] .an,.sl [] .an,.sl [] .an]]⟩)],3⟩)
theorem zy1(hcut:∀l:List UInt8,l.length≤1000000→Zb T 184 [.s l,.s [124]]=some (.tup [.s (hdC 124 l),.s (tlC 124 l),.b (l.contains 124)]))(l:List UInt8) :
  Zn T 0 0 (.norm false [2]) l603_0 (Zkb l 0)=Zhr (Zew l 0):=by
 refine zbb (Zkb l) 6 (fun i=>Zhr (Zew l i)) (fun i hi=>?_) ?_
 ·have hi':(i:Int)<6:=by omega
  have hws:=zbr hi (by omega);have ha:=zz3 i hi;have c1:=zjo (T:=T) (Zbs i) (by have:=zgs i hi;omega);rw[zv3 i hi]at c1;have c2:=zoi (T:=T) hcut hi;clear hcut;rw[zv2 l hi];unfold Zkb;obtain⟨u0,u1,u2,u3,u4,u5,hA⟩:=zcm;rw[hA]at ha ⊢;clear hA;by_cases e:Zcr i=l
  ·right;rw[if_pos e];unfold Zhr smC;dsimp only;generalize Zef i=S at *
   obtain⟨nm,C,M,B,E⟩:=S;generalize Zbs i=X at *
   generalize Zcr i=N at *
   subst e;dsimp only at *
   constructor<;>simp -implicitDefEqProofs[-Ze7,l603_0,hi,hi',hws,ha,c1,c2]
  ·left;rw[if_neg e];clear c2;generalize Zbs i=X at *
   generalize Zcr i=N at *
   refine⟨?_,rfl⟩;simp -implicitDefEqProofs[-Ze7,l603_0,hi,hi',hws,ha,c1,e]
 ·have e0:Zew l 6=none:=rfl;rw[e0];unfold Zkb Zhr;obtain⟨u0,u1,u2,u3,u4,u5,hA⟩:=zcm;rw[hA];clear hA;constructor<;>simp -implicitDefEqProofs[l603_0]
theorem zfq(hcut:∀l:List UInt8,l.length≤1000000→Zb T 184 [.s l,.s [124]]=some (.tup [.s (hdC 124 l),.s (tlC 124 l),.b (l.contains 124)]))(l:List UInt8) :
  Zb T 603 [.s l]=some (.tup [esm (Zfs l),.b (Zh7 l)]):=by
 have L:=zy1 (T:=T) hcut l;have ct:=zic (T:=T);unfold Zkb at L;simp only[Yt]at L;unfold Zfs Zh7;rw[zac Zcq.h603 rfl,b603];clear hcut;cases hg:Zew l 0 with
 | none=>
  rw[hg]at L;unfold Zhr at L;dsimp only at L;clear hg;obtain⟨u0,u1,u2,u3,u4,u5,hA⟩:=zcm;rw[hA]at L ct;clear hA;have e0:esm emS=.agg [.s [],.sl [] .an,.sl [] .an,.sl [] .an,.sl [] .an]:=rfl;simp only[e0];simp -implicitDefEqProofs[L,ct]
 | some j=>
  rw[hg]at L;unfold Zhr smC at L;dsimp only at L ⊢;clear hg;obtain⟨u0,u1,u2,u3,u4,u5,hA⟩:=zcm;rw[hA]at L ct;clear hA;simp only[Yd4];generalize Zef j=S at *
  obtain⟨nm,C,M,B,E⟩:=S;dsimp only at *
  simp -implicitDefEqProofs[L,ct]
def Zij(l:List UInt8):Sm×Int×Int:=if Zh7 l=true then (Zfs l,0,0) else Zbb l
theorem zrz(hcut:∀l:List UInt8,l.length≤1000000→Zb T 184 [.s l,.s [124]]=some (.tup [.s (hdC 124 l),.s (tlC 124 l),.b (l.contains 124)]))(l:List UInt8)
  (hl:l.length≤1000000) (hs:l.length≤4000→(Zag l).2=(0,0)→SmS (Zag l).1):Zb T 627 [.s l]=some (.tup [esm (Zij l).1,flt (Zij l).2.1 (Zij l).2.2]):=by
 have c1:=zfq (T:=T) hcut l;have c2:=zmv (T:=T) hcut l hl hs;clear hcut hs;unfold Zij;rw[zac Zcq.h627 rfl,b627];generalize Zfs l=G at *
 generalize Zbb l=P at *
 obtain⟨⟨nm',C',M',B',E'⟩,k,a⟩:=P;obtain⟨nm,C,M,B,E⟩:=G;dsimp only at *
 cases hh:Zh7 l with
 | true=>
  rw[hh]at c1;clear hh c2;simp only[if_true];simp -implicitDefEqProofs[c1]
 | false=>
  rw[hh]at c1;clear hh;simp only[Yz,if_false];simp -implicitDefEqProofs[c1,c2]
def Zik(i:Nat):St:=⟨[(1,.bs (.loc 1) 1 1 0 i),(4,.agg Zjh),(5,.i .i64 i)],[(.loc 1,⟨1,.own,1,Zcg i⟩)],3⟩
theorem zr0:Zn T 0 0 (.norm false [1]) l632_0 (Zik 0)=some (.n,⟨[(1,.bs (.loc 1) 1 1 0 6)],[(.loc 1,⟨1,.own,1,Zcg 6⟩)],3⟩):=by
 refine zba Zik 6 _ (fun i hi=>?_) ?_
 ·have hi':(i:Int)<6:=by omega
  have hws:=zbr hi (by omega);have ha:=zz3 i hi;have c1:=zjo (T:=T) (Zbs i) (by have:=zgs i hi;omega);rw[zv3 i hi]at c1;have hl:=zeh i;have hc:i≤4294967295:=by omega
  have hw2:=zez (i+1);unfold Zik;rw[zv4]at hw2 ⊢;have ht:List.take i (Zcg i)=Zcg i:=Yb (by omega);have hw:wkL (Zcg i)=Zcg i:=zez _;generalize Zcg i=R at *
  obtain⟨u0,u1,u2,u3,u4,u5,hA⟩:=zcm;rw[hA]at ha ⊢;clear hA;generalize Zbs i=X at *
  generalize Zcr i=N at *
  simp -implicitDefEqProofs[-Ze7,l632_0,hi,hi',hws,ha,c1,ht,hl,hw,hc,hw2]
 ·unfold Zik;obtain⟨u0,u1,u2,u3,u4,u5,hA⟩:=zcm;rw[hA];clear hA;have hl:=zeh 6;have hw:=zez 6;generalize Zcg 6=R at *
  constructor<;>simp -implicitDefEqProofs[l632_0,hl,hw]
theorem zoj:Zb T 632 []=some (.sl (Zcg 6) .an):=by
 have L:=zr0 (T:=T);have ct:=zic (T:=T);unfold Zik at L;have e0:Zcg 0=[]:=rfl;rw[e0]at L;simp only[Yt]at L;have hl:=zeh 6;have hw:wkL (Zcg 6)=Zcg 6:=zez _;have ht:List.take 6 (Zcg 6)=Zcg 6:=Yb (by omega);rw[zac Zcq.h632 rfl,b632];obtain⟨u0,u1,u2,u3,u4,u5,hA⟩:=zcm;rw[hA]at L ct;clear hA;generalize Zcg 6=R at *
 simp -implicitDefEqProofs[L,ct,hl,hw,ht]
def Zqu(i:Nat):St:=⟨[(1,.bs (.loc 1) 1 5 0 i),(6,.agg Zjh),(7,.i .i64 i)],[(.loc 1,⟨1,.own,5,Zmk i⟩)],3⟩
end
end Go.Ab
end
section
namespace Go.Ab
theorem z2w{i:Nat}(h:i<6):(Zcg 6)[i]? = some [.s (Zcr i)]:=by
 unfold Zcg;simp[h]
section
variable{T:Tbl}[Zab T][Zu T][Zz T][Z1 T][Zw T][Zs T][Zr T][Za0 T][Zg T][Zj T][Z0 T][Zay T][Za9 T][Zbi T][Zcv T][Zao T][Zby T][Zcu T][Zcz T][Zca T][Zdb T][Ze4 T][Ze3 T][Zaz T][Zcj T][Zco T][Zfq T][Zcb T][Zat T][Za3 T][Zfa T][Zcq T][Zfz T][Zfh T]
theorem zok(hcut:∀l:List UInt8,l.length≤1000000→Zb T 184 [.s l,.s [124]]=some (.tup [.s (hdC 124 l),.s (tlC 124 l),.b (l.contains 124)])):Zb T 626 []=some (.b true):=by
 have c1:=zfq (T:=T) hcut [101,117,108,101,114];have c2:=zfq (T:=T) hcut [69,117,108,101,114];have e1:Zfs [101,117,108,101,114]=Zef 0:=rfl;have e2:Zh7 [101,117,108,101,114]=true:=rfl;have e3:Zh7 [69,117,108,101,114]=false:=rfl;rw[e1,e2]at c1;rw[e3]at c2;have hb:(Zef 0).b.length=1:=rfl;clear hcut e1 e2 e3;generalize Zfs [69,117,108,101,114]=G at *
 generalize Zef 0=S at *
 obtain⟨nm,C,M,B,E⟩:=S;obtain⟨nm',C',M',B',E'⟩:=G;dsimp only at *
 rw[zac Zfz.h626 rfl,b626];simp -implicitDefEqProofs[c1,c2,hb]
def Zo6(i:Nat):St:=⟨[(1,.sl (Zmk 6) .an),(2,.sl (Zcg 6) .an),(3,.i .i64 i)],[],2⟩
end
end Go.Ab
end
section
namespace Go.Ab
def Zlj(l:List UInt8):List UInt8:=match Zew l 0 with | some i=>(Zbs i).drop (Zcr i).length | none=>[]
theorem z2u:∀i,i<6→Zcr i++(Zbs i).drop (Zcr i).length=Zbs i∧(Zbs i).drop (Zcr i).length≠[]:=by decide +kernel
theorem zvz{l:List UInt8}(h:Zew l 0=none):∀j,j<6→¬ l=Zcr j:=by
 unfold Zew at h;rw[List.find?_eq_none]at h;intro j hj e;have:=h j (by simpa using hj);rw[decide_eq_true_eq]at this;exact this e.symm
theorem zm0{l:List UInt8}{i:Nat}(h:Zew l 0=some i):Zcr i=l:=by
 have:=Ydr h;simpa using this
section
variable{T:Tbl}[Zan T]
theorem z7v:Zb T 635 [.s (Zcr 0)]=some (.s ((Zbs 0).drop (Zcr 0).length)):=by rw[zac Zan.h635 rfl];kernel_rfl
theorem z7w:Zb T 635 [.s (Zcr 1)]=some (.s ((Zbs 1).drop (Zcr 1).length)):=by rw[zac Zan.h635 rfl];kernel_rfl
theorem z7x:Zb T 635 [.s (Zcr 2)]=some (.s ((Zbs 2).drop (Zcr 2).length)):=by rw[zac Zan.h635 rfl];kernel_rfl
theorem z7y:Zb T 635 [.s (Zcr 3)]=some (.s ((Zbs 3).drop (Zcr 3).length)):=by rw[zac Zan.h635 rfl];kernel_rfl
theorem z7z:Zb T 635 [.s (Zcr 4)]=some (.s ((Zbs 4).drop (Zcr 4).length)):=by rw[zac Zan.h635 rfl];kernel_rfl
theorem z70:Zb T 635 [.s (Zcr 5)]=some (.s ((Zbs 5).drop (Zcr 5).length)):=by rw[zac Zan.h635 rfl];kernel_rfl
theorem zrw(l:List UInt8):Zb T 635 [.s l]=some (.s (Zlj l)):=by
 unfold Zlj;cases h:Zew l 0 with
 | some i=>
  have hi:=zoh h;rw[←zm0 h]
  match i,hi with
  | 0,_=>exact z7v
  | 1,_=>exact z7w
  | 2,_=>exact z7x
  | 3,_=>exact z7y
  | 4,_=>exact z7z
  | 5,_=>exact z70
 | none=>
  have hn:=zvz h;have n0:=hn 0 (by decide);have n1:=hn 1 (by decide);have n2:=hn 2 (by decide);have n3:=hn 3 (by decide);have n4:=hn 4 (by decide);have n5:=hn 5 (by decide);simp only[Zcr]at n0 n1 n2 n3 n4 n5;clear hn h;rw[zac Zan.h635 rfl,b635];simp -implicitDefEqProofs[n0,n1,n2,n3,n4,n5]
theorem zog:Zb T 633 []=some (.sl (Zcg 6) .an):=by rw[zac Zan.h633 rfl];kernel_rfl
end
section
variable{T:Tbl}[Zab T][Zu T][Zz T][Z1 T][Zw T][Zs T][Zr T][Za0 T][Zg T][Zj T][Z0 T][Zay T][Z5 T][Zah T][Z3 T][Zaa T][Z4 T][Zai T][Z8 T][Zbv T][Zas T][Zbn T][Zba T][Zc6 T][Zei T][Zcv T][Zao T][Zby T][Zcu T][Zaz T][Zcj T][Zco T][Zan T]
theorem zv0(l:List UInt8):Zb T 628 [.s l]=some (.tup [esm (Zfs l),.b (Zh7 l)]):=by
 have c1:=zrw (T:=T) l;have e0:esm emS=.agg [.s [],.sl [] .an,.sl [] .an,.sl [] .an,.sl [] .an]:=rfl;unfold Zlj at c1;unfold Zfs Zh7;rw[zac Zan.h628 rfl,b628];cases h:Zew l 0 with
 | none=>
  rw[h]at c1;clear h;dsimp only at c1 ⊢;simp only[Ydd,e0];simp -implicitDefEqProofs[c1]
 | some i=>
  rw[h]at c1;have hi:=zoh h;have en:=zm0 h;obtain⟨s1,s2⟩:=z2u i hi;have hl:=zgs i hi;have c2:=zib (T:=T) (Zbs i) (by omega) (fun _ g=>zkp _ (by omega) g);rw[zmz hi]at c2;rw[en]at s1;dsimp only at c1 c2 ⊢;rw[en]at c1 s2;have hX:(List.drop l.length (Zbs i)).isEmpty=false:=by simpa using s2
  have hlen:l.length+(List.drop l.length (Zbs i)).length≤9223372036854775807:=by
   have:=congrArg List.length s1;rw[Yu]at this;omega
  clear h en hl;simp only[Yd4];generalize List.drop l.length (Zbs i)=X at *
  generalize Zbs i=Y at *
  generalize Zef i=S at *
  obtain⟨nm,C,M,B,E⟩:=S
  skip
  simp -implicitDefEqProofs[c1,c2,s1,s2,hX,hlen]
end
section
variable{T:Tbl}[Zdl T]
def Zka(i:Nat):St:=⟨[(0,.sl (Zcg 6) .an),(1,.sl (Zcg 6) .an),(5,.b true),(6,.i .i64 i)],[],2⟩
theorem zrx:Zb T 631 [.sl (Zcg 6) .an,.sl (Zcg 6) .an]=some (.b true):=by
 have L:Zn T 0 0 (.norm false [5]) l631_0 (Zka 0)=some (.n,⟨[(5,.b true)],[],2⟩):=by
  refine zba Zka 6 _ (fun i hi=>?_) ?_
  ·have hi':(i:Int)<6:=by omega
   have hws:=zbr hi (by omega);have r2:=z2w hi;have n2:=zeh 6;have w2:=zez 6;unfold Zka;generalize Zcg 6=RN at *
   generalize Zcr i=N at *
   obtain⟨k2,r2⟩:=Yc.1 r2;have g2:RN[i]? = some (RN[i]'k2):=Ya k2;simp -implicitDefEqProofs[l631_0,hi,hi',hws,n2,w2,g2,r2]
  ·have n2:=zeh 6;unfold Zka;generalize Zcg 6=RN at *
   constructor<;>simp -implicitDefEqProofs[l631_0,n2]
 unfold Zka at L;simp only[Yt]at L;have n2:=zeh 6;have w2:=zez 6;rw[zac Zdl.h631 rfl,b631];generalize Zcg 6=RN at *
 simp -implicitDefEqProofs[L,n2,w2]
end
end Go.Ab
end
section
namespace Go.Ab
class Zld (T:Tbl):Prop where
end Go.Ab
end
section
namespace Go.Ab
class Zj1 (T:Tbl):Prop where
end Go.Ab
end
section
namespace Go.Ab
class Zj0 (T:Tbl):Prop where
end Go.Ab
end
section
namespace Go.Ab
section
variable{T:Tbl}[Zab T][Zu T][Zz T][Z1 T][Zw T][Zs T][Zg T][Zj T][Z0 T][Za9 T][Zbi T][Zby T][Zcz T][Zca T][Zdb T][Ze4 T][Ze3 T][Zr T][Za0 T][Zaz T][Zcj T][Zj0 T]
def Zoj(m:List (List Fz))(r:List Fz)(j i:Nat):St:=⟨[(7,.sl (Z2 m) .an),(8,.i .i64 m.length),(9,.i .i64 j),(13,.sl (Zf r) .an),(14,.i .i64 r.length),(15,.i .i64 i)],[],2⟩
def Zok(m:List (List Fz))(i:Nat):St:=⟨[(7,.sl (Z2 m) .an),(8,.i .i64 m.length),(9,.i .i64 i)],[],2⟩
def bxH(h:Hs):Box:=⟨1,.str,5,[[.sl (Zej h.l) .an,.b h.t.1,.sl (Za h.t.2.1) .an,.sl (Za h.t.2.2) .an,.sl (Zf h.y) .an]]⟩
def Zol(h:Hs)(i:Nat):St:=⟨[(1,.ptr (.loc 1) 1 5 0 0),(6,.sl (Zej h.l) .an),(7,.i .i64 h.l.length),(8,.i .i64 i)],[(.loc 1,bxH h)],3⟩
def Zpp(l:List Tr)(i:Nat):St:=⟨[(6,.sl (Zej l) .an),(7,.i .i64 l.length),(8,.i .i64 i)],[],2⟩
def Zpq(h:Hs)(i:Nat):St:=⟨[(1,.ptr (.loc 1) 1 5 0 0),(8,.sl (Zej h.l) .an),(9,.i .i64 h.l.length),(10,.i .i64 i)],[(.loc 1,bxH h)],3⟩
theorem HsS.mono{h:Hs}{A B:Nat}(hs:HsS h A)(hAB:A≤B):HsS h B:=
 ⟨hs.len,Ye hs.t hAB,fun x hx=>Ye (hs.y x hx) hAB,hs.yl,fun r hr x hx=>Ye (hs.rt r hr x hx) hAB,fun r hr x hx=>Ye (hs.ry r hr x hx) hAB,hs.rl⟩
def Zpr(l:List Tr)(i n:Nat):St:=⟨[(3,.bs (.loc 3) 1 14 0 n),(8,.sl (Zej l) .an),(9,.i .i64 l.length),(10,.i .i64 i)],[(.loc 3,⟨1,.own,14,Zej (Zkv (l.take i))⟩)],3⟩
end
end Go.Ab
end
section
namespace Go.Ab
section
variable{T:Tbl}[Zab T][Zu T][Zz T][Z1 T][Zw T][Zs T][Zg T][Zj T][Z0 T][Za9 T][Zbi T][Zby T][Zcz T][Zca T][Zdb T][Ze4 T][Ze3 T][Zr T][Za0 T][Zaz T][Zcj T][Zj0 T][Zj1 T]
def Zps(A:List Tr)(i:Nat):St:=⟨[(3,.bs (.loc 3) 1 3 0 i),(7,.sl (Zej A) .an),(8,.i .i64 A.length),(9,.i .i64 i)],[(.loc 3,⟨1,.own,3,Zf ((A.take i).map (·.h))⟩)],3⟩
def Zpt(h:Hs)(A:List Tr)(i:Nat):St:=⟨[(1,.ptr (.loc 1) 1 5 0 0),(4,.bs (.loc 4) 2 3 0 i),(5,.bs (.loc 5) 3 1 0 i),(9,.sl (Zej A) .an),(10,.i .i64 A.length),(11,.i .i64 i)],
 [(.loc 1,bxH h),(.loc 4,⟨2,.own,3,Zf ((A.take i).map (·.t))⟩),(.loc 5,⟨3,.own,1,Z2 ((A.take i).map (·.y))⟩)],5⟩
end
end Go.Ab
end
section
namespace Go.Ab
def Zqo(t h s:Rat):Rat:=(s-t)/h
def Zqp(h x y:Rat):List Rat:=[y*y*(1+2*x),x*x*(3 + -2*x),h*x*y*y,h*x*x * -y]
def Zqq(h x y:Rat):List Rat:=[-(6*x*y/h),6*x*y/h,y*(1 + -3*x),x*(-2+3*x)]
def Zqr(c:List Rat)(y0 y1 f0 f1:List Fz):List Rat:=Zl8 ((fzs c).zip [y0,y1,f0,f1]) (List.replicate y0.length 0)
end Go.Ab
end
section
namespace Go.Ab
def Zmi(s:Rat):List Fz→Nat→Option Nat
 | [],_=>none
 | t::l,i=>if s≤fv t then some i else Zmi s l (i+1)
def Zqs(s:Rat):List Fz→Option Nat
 | []=>none
 | t::l=>if s<fv t then none else Zmi s l 0
def Zns:Option Nat→AV
 | some i=>.tup [.i .i64 i,.b true]
 | none=>.tup [.i .i64 (-1),.b false]
section
variable{T:Tbl}[Zab T][Zu T][Zz T][Z1 T][Zw T][Zs T][Zg T][Zj T][Z0 T][Za9 T][Zbi T][Zby T][Zcz T][Zca T][Zdb T][Ze4 T][Ze3 T][Zr T][Za0 T][Zaz T][Zcj T][Zj0 T][Zj1 T][Zcb T][Zat T][Zlx T][Zk4 T][Zld T]
def Zqt(s:Fz)(l:List Fz)(i:Nat):St:=⟨[(3,.ptr (.loc 3) 1 3 0 0),(25,.sl (Zf l) .an),(26,.i .i64 l.length),(27,.i .i64 i)],[(.loc 3,⟨1,.str,3,[Zd7 s]⟩)],3⟩
def Zo4:Option Nat→Ex×St
 | some i=>(.r,⟨[(4,.i .i64 i),(5,.b true)],[],2⟩)
 | none=>(.n,⟨[],[],2⟩)
end
end Go.Ab
end
section
namespace Go.Ab
def Zl5(t:Tp)(many words:Nat):Bool:=((t.code.take many).any fun i=>decide (words<fsz i.n)) || decide (many<t.code.length) || decide (many<t.outs.length)
def Zod(x:PoF)(many words:Nat):Bool:=decide (words<fsz x.t) || Zeu x.y many words || Zeu x.p many words
section
variable{T:Tbl}[Z5 T][Zah T][Z3 T][Zaa T][Z4 T][Zai T][Z8 T][Zas T][Zdv T][Zdw T][Zh3 T]
def Zph(t:Tp)(many words i:Nat):St:=⟨[(1,.i .i64 many),(2,.i .i64 words),(3,.ptr (.loc 3) 1 4 0 0),(7,.i .i64 i)],[(.loc 3,bxT t)],3⟩
def Zpi(t:Tp)(many:Nat):Ex×St:=(.n,⟨[(1,.i .i64 many),(3,.ptr (.loc 3) 1 4 0 0)],[(.loc 3,bxT t)],3⟩)
@[simp] theorem zaga(l:List Int):Option.all (fun r=>decide (r.length=1)) (ints l).head? = true:=by cases l<;>rfl
def fC:BId:=.fld (.loc 3) 0
def Zpj(t:Tp)(i:Nat):St:=⟨[(1,.ptr (.loc 1) 1 4 0 0),(2,.ptr (.loc 2) 2 4 0 0),(3,.ptr (.loc 3) 3 4 0 0),(4,.i .i64 i)],
 [(.loc 1,bxT t),(.loc 2,⟨2,.str,4,[[.sl [] .an,.sl [] .an,.i .i64 0,.i .i64 0]]⟩),(.loc 3,⟨3,.str,4,[[.bs fC 4 6 0 i,.bs (.loc 13) 5 1 0 t.outs.length,.i .i64 t.dim,.i .i64 t.par]]⟩),(fC,⟨4,.own,6,Zix (t.code.take i)⟩),(.loc 13,⟨5,.own,1,ints t.outs⟩)],7⟩
end
end Go.Ab
end
section
namespace Go.Ab
def Zlg(s:Sm)(many words:Nat):Bool:=decide (50<s.nm.length) || decide (many<s.a.length) || Zeu s.b many words || Zeu s.c many words || Zeu s.e many words || s.a.any fun r=>Zeu r many words
def Zna(p:Pb)(many stages words:Nat):Bool:=Zl5 p.t many words || Zlg p.s stages 4 || Zeu p.p 6 words
def Zl7(r:Tr)(words:Nat):Bool:=Zeu r.nums 4 words || Zeu r.y 8 words
def Zog(h:Hs)(many words:Nat):Bool:=decide (many<h.l.length) || decide (words<fsz h.t) || Zeu h.y 8 words || h.l.any fun r=>Zl7 r words
section
variable{T:Tbl}[Zab T][Zu T][Zz T][Z1 T][Zw T][Zs T][Zg T][Zj T][Z0 T][Za9 T][Zbi T][Zby T][Zcz T][Zca T][Zdb T][Ze4 T][Ze3 T][Zr T][Za0 T][Zaz T][Zcj T]
variable[Z5 T][Zah T][Z3 T][Zaa T][Z4 T][Zai T][Z8 T][Zas T][Zf0 T][Zdv T][Zdw T][Zh2 T][Zhl T][Zh3 T][Zh4 T][Zj2 T]
def Znb(s:Sm):Box:=⟨1,.str,5,[[.s s.nm,.sl (Zf s.c) .an,.sl (Z2 s.a) .an,.sl (Zf s.b) .an,.sl (Zf s.e) .an]]⟩
def Zoh(s:Sm)(many words i:Nat):St:=⟨[(1,.i .i64 many),(2,.i .i64 words),(3,.ptr (.loc 3) 1 5 0 0),(7,.i .i64 i)],[(.loc 3,Znb s)],3⟩
def Znc(h:Hs):Box:=⟨1,.str,5,[[.sl (Zej h.l) .an,.b h.t.1,.sl (Za h.t.2.1) .an,.sl (Za h.t.2.2) .an,.sl (Zf h.y) .an]]⟩
def Zoi(h:Hs)(words i:Nat):St:=⟨[(2,.i .i64 words),(3,.ptr (.loc 3) 1 5 0 0),(7,.i .i64 i)],[(.loc 3,Znc h)],3⟩
def Zpl(h:Hs)(i:Nat):St:=⟨[(1,.ptr (.loc 1) 1 5 0 0),(2,.ptr (.loc 2) 2 5 0 0),(3,.ptr (.loc 3) 3 5 0 0),(4,.i .i64 i)],
 [(.loc 1,bxH h),(.loc 2,⟨2,.str,5,[[.sl [] .an,.b false,.sl [] .an,.sl [] .an,.sl [] .an]]⟩),(.loc 3,⟨3,.str,5,[[.bs fC 4 14 0 i,.b h.t.1,.sl (Za h.t.2.1) .an,.sl (Za h.t.2.2) .an,.sl (Zf h.y) .an]]⟩),(fC,⟨4,.own,14,Zej (h.l.take i)⟩)],6⟩
end
end Go.Ab
end
section
namespace Go.Ab
theorem zpt:∀a:List (List Fz),eqM a a=true
 | []=>rfl
 | r::a=>by
  have:=zpt a;unfold eqM at this ⊢;rw[List.zip_cons_cons,Ybz,this,decide_eq_true rfl]
  rfl
theorem zy0(s:Sm):eqS s s=true:=by
 unfold eqS;rw[zpt];simp
theorem zz2:SmS emS:=by
 unfold emS;constructor<;>simp
theorem zv1(l:List UInt8):SmS (Zfs l):=by
 unfold Zfs;cases h:Zew l 0 with
 | none=>exact zz2
 | some i=>exact z71 (zz1 (zoh h))
theorem zpu{t:List UInt8}(ht:t.length≤1500):SmS (Zbb t).1:=by
 by_cases h:(Zbb t).2=(0,0)
 ·obtain⟨q1,q2,_⟩:=zyw h;rw[q2];exact zkp t ht q1
 ·have:(Zbb t).1=⟨[],[],[],[],[]⟩:=by
   unfold Zbb at h ⊢;by_cases h1:4000<t.length
   ·rw[if_pos h1]
   rw[if_neg h1]at h ⊢;by_cases h2:(Zag t).2≠(0,0)
   ·rw[if_pos h2]
   rw[if_neg h2]at h ⊢;by_cases h3:Zcl (Zag t).1≠0
   ·rw[if_pos h3]
   ·rw[if_neg h3]at h;exact absurd rfl h
  rw[this];exact zz2
section
variable{T:Tbl}[Zab T][Zu T][Zz T][Z1 T][Zw T][Zs T][Zr T][Za0 T][Zg T][Zj T][Z0 T][Zay T][Za9 T][Zbi T][Z5 T][Zah T][Z3 T][Z4 T][Zaa T][Zai T][Z8 T][Zbv T][Zas T][Zbn T][Zcv T][Zao T][Zby T][Zcu T][Zcz T][Zca T][Zdb T][Ze4 T][Ze3 T][Zaz T][Zcj T][Zco T][Zfq T][Zei T][Zf0 T][Zba T][Zc6 T][Zdv T][Zdw T][Zh2 T][Zhl T][Zh3 T][Zh4 T][Zj2 T][Zcb T][Zat T][Za3 T][Zfa T][Zfh T][Zcq T][Zfz T][Zan T][Zdl T]
def bxO(g:Nat)(s:Sm):Box:=⟨g,.str,5,[[.s s.nm,.sl (Zf s.c) .an,.sl (Z2 s.a) .an,.sl (Zf s.b) .an,.sl (Zf s.e) .an]]⟩
def Zii(s:Sm)(i:Nat):St:=⟨[(1,.ptr (.loc 1) 1 5 0 0),(2,.ptr (.loc 2) 2 5 0 0),(3,.ptr (.loc 3) 3 5 0 0),(4,.i .i64 i)],
 [(.loc 1,bxO 1 s),(.loc 2,⟨2,.str,5,[[.s [],.sl [] .an,.sl [] .an,.sl [] .an,.sl [] .an]]⟩),(.loc 3,⟨3,.str,5,[[.s s.nm,.sl (Zf s.c) .an,.bs (.fld (.loc 3) 2) 4 1 0 i,.sl (Zf s.b) .an,.sl (Zf s.e) .an]]⟩),(.fld (.loc 3) 2,⟨4,.own,1,Z2 (s.a.take i)⟩)],6⟩
theorem z2v(s:Sm)(hs:SmS s):Zn T 0 0 (.norm false [2,3]) l630_0 (Zii s 0)=some (.n,⟨[(2,.ptr (.loc 2) 1 5 0 0),(3,.ptr (.loc 3) 2 5 0 0)],
  [(.loc 2,⟨1,.str,5,[[.s [],.sl [] .an,.sl [] .an,.sl [] .an,.sl [] .an]]⟩),(.loc 3,⟨2,.str,5,[[.s s.nm,.sl (Zf s.c) .an,.bs (.fld (.loc 3) 2) 3 1 0 s.a.length,.sl (Zf s.b) .an,.sl (Zf s.e) .an]]⟩),(.fld (.loc 3) 2,⟨3,.own,1,Z2 s.a⟩)],5⟩):=by
 have hal:=hs.al;refine zba (Zii s) s.a.length _ (fun i hi=>?_) ?_
 ·have hi':(i:Int)<s.a.length:=by omega
  have hg:s.a[i]? = some (s.a[i]'hi):=Ya hi;have hws:=zbr hi (by omega);have hr:=(hs.a _ (Yaf hi)).1;have c1:=zgp (T:=T) (s.a[i]'hi) (by omega);have hb:i≤4294967295:=by omega
  have e:s.a.take (i+1)=s.a.take i++[s.a[i]'hi]:=Ybb hi;have hml:(Z2 (s.a.take i)).length=i:=by simp;omega
  have p2:Z2 (s.a.take i)++[[.sl (Zf (s.a[i]'hi)) .an]]=Z2 (s.a.take (i+1))  :=by rw[e];unfold Z2;rw[Yde];rfl
  have ht:List.take i (Z2 (s.a.take i))=Z2 (s.a.take i):=Yb (by omega);have hwk:=z3c (s.a.take (i+1));unfold Zii bxO;rw[←p2]at hwk ⊢;clear p2 e;generalize Z2 (s.a.take i)=M0 at *
  generalize hq:s.a[i]'hi=q at *
  clear hr hs;obtain⟨nm,C,A,B,E⟩:=s;dsimp only at *
  simp -implicitDefEqProofs[l630_0,hi,hi',hg,hq,hws,c1,hb,hml,ht,hwk]
 ·unfold Zii bxO;rw[Ybf];clear hs;obtain⟨nm,C,A,B,E⟩:=s;dsimp only at *
  constructor<;>simp -implicitDefEqProofs[l630_0]
theorem zpv(s:Sm)(hs:SmS s):Zb T 630 [esm s]=some (esm s):=by
 have L:=z2v (T:=T) s hs;have c1:=zgp (T:=T) s.c (by have:=hs.cl;omega);have c2:=zgp (T:=T) s.b (by have:=hs.bl;omega);have c3:=zgp (T:=T) s.e (by have:=hs.el;omega);unfold Zii bxO at L;rw[Yd8]at L;simp only[zgw,Yt]at L;clear hs;rw[zac Zdl.h630 rfl,b630];obtain⟨nm,C,A,B,E⟩:=s;have t2:List.take A.length (Z2 A)=Z2 A:=Yb (by simp);dsimp only at *
 simp -implicitDefEqProofs[L,c1,c2,c3,t2]
theorem zry(hcut:∀l:List UInt8,l.length≤1000000→Zb T 184 [.s l,.s [124]]=some (.tup [.s (hdC 124 l),.s (tlC 124 l),.b (l.contains 124)]))(t:List UInt8):Zb T 623 [.s t]=some (.b true):=by
 have w:=zok (T:=T) hcut;rw[zac Zdl.h623 rfl,b623];by_cases ht:1500<t.length
 ·have ht':(1500:Int)<t.length:=by omega
  clear hcut;simp -implicitDefEqProofs[w,ht,ht']
 have ht':¬ (1500:Int)<t.length:=by omega
 have hsm:t.length≤4000→(Zag t).2=(0,0)→SmS (Zag t).1:=fun _ h=>zkp t (by omega) h;have c1:=zfq (T:=T) hcut t;have c2:=zrz (T:=T) hcut t (by omega) hsm;have c3:=zv0 (T:=T) t;have c4:=zib (T:=T) t (by omega) hsm;have c5:=zoj (T:=T);have c6:=zog (T:=T);have c7:=zrx (T:=T);have o1:=zpv (T:=T) (Zfs t) (zv1 t);have o2:=zpv (T:=T) (Zbb t).1 (zpu (by omega));have q1:=zjm (T:=T) (Zfs t) (Zfs t) (zv1 t);have q2:=zjm (T:=T) (Zbb t).1 (Zbb t).1 (zpu (by omega));rw[zy0]at q1 q2;unfold Zij at c2;clear hcut hsm;have w6:=zez 6;generalize Zcg 6=RN at *
 generalize Zfs t=G at *
 generalize Zbb t=P at *
 obtain⟨⟨nm',C',M',B',E'⟩,k,a⟩:=P;obtain⟨nm,C,M,B,E⟩:=G;dsimp only at *
 cases hh:Zh7 t with
 | true=>
  rw[hh]at c1 c2 c3;simp only[if_true]at c2;clear hh;simp -implicitDefEqProofs[w,ht,ht',c1,c2,c3,c5,c6,c7,w6,o1,q1]
 | false=>
  rw[hh]at c1 c2 c3;simp only[Yz,if_false]at c2;clear hh;simp -implicitDefEqProofs[w,ht,ht',c1,c2,c3,c4,c5,c6,c7,w6,o1,q1,o2,q2]
theorem zkt(t:List UInt8):Zb T 623 [.s t]=some (.b true):=
 zry (T:=T) (fun l h=>by rw[p184,zjr l h];rfl) t
end
end Go.Ab
end