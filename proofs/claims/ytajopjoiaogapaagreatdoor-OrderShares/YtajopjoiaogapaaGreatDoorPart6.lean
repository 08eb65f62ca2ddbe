/-
  A calculus of values, boxes and code, and what functions of the program compute, proved in it.
  Conditions: none beyond those that the theorems state. (Part 6.)
-/
import Derived.Test.YtajopjoiaogapaaGreatDoorPart5

set_option linter.unusedSectionVars false
set_option linter.unusedVariables false
set_option linter.unusedSimpArgs false
set_option linter.unnecessarySimpa false

namespace Go.Ab
theorem zdy{t:List UInt8}{r:Rd}(h:RdOk t r):RdOk t (Z3 r):=by
 cases ho:r.over with
 | true=>
  have e:Z3 r=r:=by unfold Z3;rw[ho];rfl
  rw[e];exact h
 | false=>exact(zm2 h ho).1
theorem zm3{t:List UInt8}:∀(n:Nat) (r:Rd) (s:Sg),RdOk t r→RdOk t (Zap t n r s).1
 | 0,_,_,h=>h
 | n+1,r,s,h=>by
  unfold Zap;by_cases h1:r.over=true
  ·rw[if_pos h1];exact h
  rw[if_neg h1];by_cases h2:(Zl r).contains 124=false
  ·rw[if_pos h2];exact⟨h.a,by simp,fun _=>by have:=h.a;simp;omega⟩
  rw[if_neg h2];by_cases h3:(Zcb (Zl r) r.at_).2.2≠(0,0)
  ·rw[if_pos h3];exact zdy h
  ·rw[if_neg h3];exact zm3 n _ _ (zdy h)
def smG(s:Sg)(b e:List Fz):Sm:=⟨s.nm,s.c,s.a,b,e⟩
def Zam(t:List UInt8):Rd×Sg×Int×Int:=Zap t (t.length+2) (Z3 ⟨t,0,false⟩) ⟨Zl ⟨t,0,false⟩,[],[]⟩
def Zbf(t:List UInt8):Sm×Int×Int:=
 if Zbo 2 (Zl ⟨t,0,false⟩)=false then (⟨Zl ⟨t,0,false⟩,[],[],[],[]⟩,1,0)
 else if (Zam t).2.2≠(0,0) then (smG (Zam t).2.1 [] [],(Zam t).2.2)
 else if (Zd7 98 (Zam t).1).2≠(0,0)∨(Z3 (Zam t).1).over=true then (smG (Zam t).2.1 (fzs (Zd7 98 (Zam t).1).1) [],(Zd7 98 (Zam t).1).2)
 else if (Zd7 101 (Z3 (Zam t).1)).2≠(0,0)∨(Z3 (Z3 (Zam t).1)).over=true then
  (smG (Zam t).2.1 (fzs (Zd7 98 (Zam t).1).1) (fzs (Zd7 101 (Z3 (Zam t).1)).1),(Zd7 101 (Z3 (Zam t).1)).2)
 else (smG (Zam t).2.1 (fzs (Zd7 98 (Zam t).1).1) (fzs (Zd7 101 (Z3 (Zam t).1)).1),1,(Z3 (Z3 (Zam t).1)).at_)
section
variable{T:Tbl}[Zy T][Zn T][Zs T][Zw T][Zq T][Zk T][Zx T][Zaz T][Ze T][Zf T][Zr T][Za9 T][Zcn T][Zaj T][Zbj T][Zcl T][Zab T][Zbn T][Zcg T][Zbe T][Zao T]
theorem zwv(hcut:∀l:List UInt8,l.length≤1000000→Za T 184 [.s l,.s [124]]=some (.tup [.s (hdC 124 l),.s (tlC 124 l),.b (l.contains 124)]))
  (t:List UInt8) (ht:t.length≤50000):Za T 612 [.s t]=some (.tup [esm (Zbf t).1,flt (Zbf t).2.1 (Zbf t).2.2]):=by
 have h0:RdOk t ⟨t,0,false⟩:=⟨Yu _,Yg _,fun _=>Yai _⟩;have c1:=zfi (T:=T) ⟨t,0,false⟩ (by show t.length≤_;omega) (Yu _);obtain⟨k1,k2⟩:=zm2 h0 rfl;have hmu:muR (⟨t,0,false⟩:Rd)=t.length+1:=rfl;have hln:(Zl ⟨t,0,false⟩).length≤t.length:=zwu 10 t;have c2:=zk2 (T:=T) 2 0 (Zl ⟨t,0,false⟩) (by omega);have c3:=zp7 (T:=T) hcut t (Zl ⟨t,0,false⟩) (by omega) (t.length+2) (Z3 ⟨t,0,false⟩) k1 (by omega) (by omega);have hS:Zam t=Zap t (t.length+2) (Z3 ⟨t,0,false⟩) ⟨Zl ⟨t,0,false⟩,[],[]⟩:=rfl;rw[←hS]at c3;have o2:RdOk t (Zam t).1:=by rw[hS];exact zm3 _ _ _ k1
 have o3:=zdy o2;have c4:=zhd (T:=T) (Zam t).1 98 (by have:=o2.l;omega) (by have:=o2.a;omega);have c5:=zhd (T:=T) (Z3 (Zam t).1) 101 (by have:=o3.l;omega) (by have:=o3.a;omega);unfold Zbf;rw[zab Zao.h612 rfl,b612];clear hS o2 o3 h0 k1 k2 hmu hln hcut ht;generalize Zd7 98 (Zam t).1=B at *
 generalize Zd7 101 (Z3 (Zam t).1)=E at *
 generalize Z3 (Z3 (Zam t).1)=r4 at *
 generalize Z3 (Zam t).1=r3 at *
 generalize Zam t=S at *
 obtain⟨r2,s2,kS,aS⟩:=S;generalize Z3 ⟨t,0,false⟩=r1 at *
 generalize Zl ⟨t,0,false⟩=nm at *
 obtain⟨B,kB,aB⟩:=B;obtain⟨E,kE,aE⟩:=E;generalize fzs B=FB at *
 generalize fzs E=FE at *
 unfold hpG Zko bxR at c3;unfold bxR at c1 c4 c5;simp only[Y3,Bool.not_false]at c1;obtain⟨l1,a1,o1⟩:=r1;obtain⟨l2,a2,o2⟩:=r2;obtain⟨l3,a3,o3⟩:=r3;obtain⟨l4,a4,o4⟩:=r4;obtain⟨nm2,C,A⟩:=s2;unfold smG;dsimp only at *
 cases hR:Zbo 2 nm with
 | false=>
  rw[hR]at c2;simp -implicitDefEqProofs[c1,c2]
 | true=>
 rw[hR]at c2;simp only[Bool.true_eq_false,if_false,ne_eq,Prod.mk.injEq];by_cases hk:kS=0∧aS=0
 rotate_left
 ·rw[if_pos hk];by_cases h1:kS=0
  ·have h2:¬ aS=0:=fun h=>hk ⟨h1,h⟩;simp -implicitDefEqProofs[c1,c2,c3,h1,h2]
  ·simp -implicitDefEqProofs[c1,c2,c3,h1]
 obtain⟨rfl,rfl⟩:=hk;rw[if_neg (by simp)];by_cases hb:(¬ (kB=0∧aB=0))∨o3=true
 ·rw[if_pos hb];by_cases h1:kB=0
  ·by_cases h2:aB=0
   ·subst h1 h2;have h3:o3=true:=by rcases hb with h | h;exact absurd ⟨rfl,rfl⟩ h;exact h
    subst h3;simp -implicitDefEqProofs[c1,c2,c3,c4]
   ·simp -implicitDefEqProofs[c1,c2,c3,c4,h1,h2]
  ·simp -implicitDefEqProofs[c1,c2,c3,c4,h1]
 ·rw[if_neg hb];have h1:kB=0∧aB=0:=Classical.not_not.1 fun h=>hb (.inl h);have h2:o3=false:=by cases o3;rfl;exact absurd (.inr rfl) hb
  obtain⟨rfl,rfl⟩:=h1;subst h2;clear hb;by_cases he:(¬ (kE=0∧aE=0))∨o4=true
  ·rw[if_pos he];by_cases h1:kE=0
   ·by_cases h2:aE=0
    ·subst h1 h2;have h3:o4=true:=by rcases he with h | h;exact absurd ⟨rfl,rfl⟩ h;exact h
     subst h3;simp -implicitDefEqProofs[c1,c2,c3,c4,c5]
    ·simp -implicitDefEqProofs[c1,c2,c3,c4,c5,h1,h2]
   ·simp -implicitDefEqProofs[c1,c2,c3,c4,c5,h1]
  ·rw[if_neg he];have h1:kE=0∧aE=0:=Classical.not_not.1 fun h=>he (.inl h);have h2:o4=false:=by cases o4;rfl;exact absurd (.inr rfl) he
   obtain⟨rfl,rfl⟩:=h1;subst h2;simp -implicitDefEqProofs[c1,c2,c3,c4,c5]
end
def Ze9(t:List UInt8):Sm×Int×Int:=
 if 4000<t.length then (⟨[],[],[],[],[]⟩,1,4000)
 else if (Zbf t).2≠(0,0) then (⟨[],[],[],[],[]⟩,(Zbf t).2)
 else if Zcs (Zbf t).1≠0 then (⟨[],[],[],[],[]⟩,2,Zcs (Zbf t).1)
 else ((Zbf t).1,0,0)
section
variable{T:Tbl}[Zy T][Zn T][Zs T][Zw T][Zq T][Zk T][Zx T][Zaz T][Ze T][Zf T][Zr T][Za9 T][Zaa T][Zae T][Zcn T][Zaj T][Zbj T][Zcl T][Zbq T][Zay T][Zb1 T][Zdg T][Zdf T][Zab T][Zbn T][Zcg T][Zbe T][Z1 T][Zao T]
theorem ztu(hcut:∀l:List UInt8,l.length≤1000000→Za T 184 [.s l,.s [124]]=some (.tup [.s (hdC 124 l),.s (tlC 124 l),.b (l.contains 124)]))
  (t:List UInt8) (ht:t.length≤1000000) (hs:t.length≤4000→(Zbf t).2=(0,0)→SmS (Zbf t).1):Za T 608 [.s t]=some (.tup [esm (Ze9 t).1,flt (Ze9 t).2.1 (Ze9 t).2.2]):=by
 unfold Ze9;rw[zab Zao.h608 rfl,b608];by_cases h1:4000<t.length
 ·have h1':(4000:Int)<t.length:=by omega
  rw[if_pos h1];clear hs;simp -implicitDefEqProofs[h1,h1']
 have h1':¬ (4000:Int)<t.length:=by omega
 rw[if_neg h1];have c1:=zwv (T:=T) hcut t (by omega);have c2:(Zbf t).2=(0,0)→Za T 551 [esm (Zbf t).1]=some (.i .i64 (Zcs (Zbf t).1)):=fun h=>zfu (T:=T) (Zbf t).1 (hs (by omega) h);clear hs hcut ht;generalize Zcs (Zbf t).1=W at *
 generalize Zbf t=R at *
 obtain⟨⟨nm,C,A,B,E⟩,k,a⟩:=R;dsimp only at *
 simp only[ne_eq,Prod.mk.injEq];by_cases hk:k=0
 ·by_cases ha:a=0
  ·subst hk ha;have c2:=c2 rfl;rw[if_neg (by simp)];by_cases hw:W=0
   ·subst hw;rw[if_neg (by simp)];simp -implicitDefEqProofs[h1,h1',c1,c2]
   ·rw[if_pos hw];simp -implicitDefEqProofs[h1,h1',c1,c2,hw]
  ·rw[if_pos (fun h=>ha h.2)];simp -implicitDefEqProofs[h1,h1',c1,hk,ha]
 ·rw[if_pos (fun h=>hk h.1)];simp -implicitDefEqProofs[h1,h1',c1,hk]
end
def Zm3(a b:List (List Fz)):Bool:=(a.zip b).all fun p=>decide (p.1.map fv=p.2.map fv)
def Zqa(a b:Sm):Bool:=decide (a.nm=b.nm)&&decide (a.a.length=b.a.length)&&decide (a.b.map fv=b.b.map fv)&&decide (a.c.map fv=b.c.map fv)&&decide (a.e.map fv=b.e.map fv)&&Zm3 a.a b.a
def eqM(a b:List (List Fz)):Bool:=(a.zip b).all fun p=>decide (p.1=p.2)
def eqS(a b:Sm):Bool:=decide (a.nm=b.nm)&&decide (a.a.length=b.a.length)&&decide (a.b=b.b)&&decide (a.c=b.c)&&decide (a.e=b.e)&&eqM a.a b.a
def Zsc(s:Sm):Sm:=⟨s.nm,nrm s.c,s.a.map nrm,nrm s.b,nrm s.e⟩
section
variable{T:Tbl}[Zy T][Zn T][Zs T][Zw T][Zq T][Zk T][Zaz T][Ze T][Zf T][Zr T][Zab T][Zbn T][Zao T]
def Zqb(a b:Sm)(i:Nat):St:=⟨[(3,.ptr (.loc 3) 1 5 0 0),(46,.sl (Zp a.a) .an),(47,.i .i64 a.a.length),(48,.i .i64 i)],[(.loc 3,bxS b)],3⟩
end
section
variable{T:Tbl}[Zaq T][Zar T][Zai T][Zas T][Za3 T][Zba T][Zav T][Zbb T][Zfw T][Zf9 T][Zfu T]
def Zjj(g:Nat)(s:Sm):Box:=⟨g,.str,5,[[.s s.nm,.sl (Zc s.c) .an,.sl (Zp s.a) .an,.sl (Zc s.b) .an,.sl (Zc s.e) .an]]⟩
def Zsd(a b:Sm)(i:Nat):St:=⟨[(2,.ptr (.loc 2) 1 5 0 0),(3,.ptr (.loc 3) 2 5 0 0),(5,.i .i64 i)],[(.loc 2,Zjj 1 a),(.loc 3,Zjj 2 b)],4⟩
end
def Zm4(a b:List Fz):List Fz:=fzs (Znm (a.map fv) (Zme ((-1:Int):Rat) (b.map fv)))
def Zse(s:Sm):List Fz:=if okS s=true∧s.e≠[] then Zm4 s.b s.e else []
def Zqc(s:Sm):Bool:=match s.b.getLast?,s.c.getLast?,s.a.getLast? with
 | some b,some c,some a=>decide (fv b=0)&&(decide (fv c=1)&&decide (a.map fv=(s.b.take (s.b.length-1)).map fv))
 | _,_,_=>false
structure OkSm (s:Sm):Prop where
 b1:1≤s.b.length
 b8:s.b.length≤8
 cl:s.c.length=s.b.length
 al:s.a.length=s.b.length
 el:s.e.length=s.b.length∨s.e.length=0
 sh:Zb4 s.a 0=true
 na:Zdc s.a=true
 nb:s.b.all Zdl=true
 nc:s.c.all Zdl=true
 ne:s.e.all Zdl=true
theorem zxs(b c e:List Fz):Zdc [b,c,e]=(b.all Zdl&&c.all Zdl&&e.all Zdl):=by
 unfold Zdc;simp only[Ybx,Ydq,Ydz,Bool.and_assoc]
theorem zjb{s:Sm}(h:okS s=true):OkSm s∧Zcs s=0:=by
 unfold okS at h;have hw:=of_decide_eq_true h;refine⟨?_,hw⟩;unfold Zcs at hw;cases g1:Zbo 2 s.nm with
 | false=>rw[g1]at hw;simp at hw
 | true=>
 cases g2:Zei s with
 | false=>rw[g1,g2]at hw;simp at hw
 | true=>
 cases g3:Zdc s.a with
 | false=>rw[g1,g2,g3]at hw;simp at hw
 | true=>
 cases g4:Zdc [s.b,s.c,s.e]with
 | false=>rw[g1,g2,g3,g4]at hw;simp at hw
 | true=>
 obtain⟨s1,s2,s3,s4,s5,s6⟩:=zif g2;rw[zxs]at g4;simp only[Yj]at g4;exact⟨s1,s2,s3,s4,s5,s6,g3,g4.1.1,g4.1.2,g4.2⟩
theorem zmz{l:List Fz}(h:l.all Zdl=true):∀x∈l,fsz x≤6:=fun x hx=>ztw (Yh.1 h x hx)
abbrev Zqd:List UInt8:=[104,101,117,110,10,48,124,10,49,124,49,10,98,32,49,47,50,44,49,47,50,10,101,32,49,44,48]
abbrev Zsf:List UInt8:=[101,117,108,101,114,10,48,124,10,98,32,50]
def Zqe:Sm:=⟨[104,101,117,110],[fz 0,fz 1],[[],[fz 1]],[fz (mkRat 1 2),fz (mkRat 1 2)],[fz 1,fz 0]⟩
def Zsg:Sm:=⟨[101,117,108,101,114],[fz 0],[[]],[fz 2],[]⟩
theorem zp5{q:Rat}(h:sz q≤2):Zdl (fz q)=true:=by
 unfold Zdl Zct;rw[zby,decide_eq_true rfl,Yc3,decide_eq_true_eq];have:=z0a (x:=fz q) (k:=2) (by rw[zav];exact h);omega
class Zix (T:Tbl):Prop where
end Go.Ab
section
namespace Go.Ab
end Go.Ab
end
namespace Go.Ab
class Zh3 (T:Tbl):Prop where
class Zk5 (T:Tbl):Prop where
class Zk4 (T:Tbl):Prop where
end Go.Ab
section
namespace Go.Ab
end Go.Ab
end
namespace Go.Ab
section
variable{T:Tbl}[Zy T][Zn T][Zs T][Zw T][Zq T][Zk T][Zx T][Zaz T][Ze T][Zf T][Zr T][Za9 T][Zae T][Zcn T][Zaj T][Zbj T][Zcl T][Zab T][Zbn T][Zcg T][Zex T][Zaq T][Zar T][Zai T][Zas T][Za3 T][Zba T][Zav T][Zbb T][Zgx T][Zdj T][Zc9 T][Zk4 T][Zk5 T]
def Zpc(l:List Fz)(i:Nat):St:=⟨[(0,.sl (Zc l) .an),(3,.i .i64 (Zm0 (l.take i))),(4,.i .i64 i)],[],2⟩
end
section
variable{T:Tbl}[Zaq T][Zar T][Zai T][Zas T][Za3 T][Zba T][Zav T][Zix T][Zbb T][Zh3 T]
def Zpp(s:List UInt8)(y:Nat×Nat×List Rat):St:=
 ⟨[(0,.s s),(5,.bs (.loc 5) 1 3 0 y.2.2.length),(6,.i .i64 y.2.1),(7,.i .i64 y.1)],[(.loc 5,⟨1,.own,3,Zc (fzs y.2.2)⟩)],3⟩
def Zob(r:List Rat×Int×Int):Option (Ex×St):=
 if r.2.1=0 then some (.n,⟨[(5,.bs (.loc 5) 1 3 0 r.1.length)],[(.loc 5,⟨1,.own,3,Zc (fzs r.1)⟩)],3⟩)
 else some (.r,⟨[(2,.sl [] .an),(3,.i .i64 r.2.1),(4,.i .i64 r.2.2)],[],2⟩)
def Znt(s:List UInt8)(y:Nat×Nat×List Rat):List Rat×Int×Int:=
 if y.1≤s.length then Za5 (Zz 44 (s.drop y.2.1)) y.2.1 y.2.2 else (y.2.2,0,0)
def piece(s:List UInt8)(i from_:Nat):List UInt8:=(s.drop from_).take (i-from_)
end
section
variable{T:Tbl}[Zy T][Zn T][Zs T][Zw T][Zq T][Zk T][Zx T][Zaz T][Ze T][Zf T][Zr T][Za9 T][Zaa T][Zae T][Zcn T][Zaj T][Zbj T][Zcl T][Zbq T][Zay T][Zb1 T][Zdg T][Zdf T][Zab T][Zbn T][Zcg T][Zex T][Zbe T][Z1 T][Zao T][Zf9 T][Zfu T]
def Zm5(s:Sm)(i:Nat):St:=⟨[(1,.ptr (.loc 1) 1 5 0 0),(4,.bs (.loc 33) 2 1 0 (i+1)),(14,.sl (Zp s.a) .an),(15,.i .i64 s.a.length),(16,.i .i64 i)],
 [(.loc 1,bxS s),(.loc 33,⟨2,.own,1,Z4 ([s.nm]++((s.c.zip s.a).take i).map fun p=>Zli p.1 p.2)⟩)],4⟩
def Zsh(s:Sm):Nat→St
 | 0=>⟨[(1,.ptr (.loc 1) 1 5 0 0),(4,.sl (Z4 [s.nm]) .fu),(14,.sl (Zp s.a) .an),(15,.i .i64 s.a.length),(16,.i .i64 0)],[(.loc 1,bxS s)],3⟩
 | i+1=>Zm5 s (i+1)
end
section
variable{T:Tbl}[Zy T][Zn T][Zs T][Zw T][Zq T][Zk T][Zx T][Zaz T][Ze T][Zf T][Zr T][Za9 T][Zaa T][Zae T][Zaq T][Zar T][Zai T][Za3 T][Zas T][Zba T][Zav T][Zix T][Zbb T][Zh3 T][Zcn T][Zaj T][Zbj T][Zcl T][Zbq T][Zay T][Zb1 T][Zdg T][Zdf T][Zab T][Zbn T][Zcg T][Zex T][Zbe T][Z1 T][Zao T][Zf9 T][Zfu T]
def Zoo(s:Sm)(i:Nat):List UInt8:=List.intercalate [10] ([s.nm]++((s.c.zip s.a).take i).map fun p=>Zli p.1 p.2)
def Zqf(s:Sm)(i:Nat):St:=⟨[(1,.ptr (.loc 1) 1 5 0 0),(3,.s (Zoo s i)),(4,.i .i64 i)],[(.loc 1,bxS s)],3⟩
end
def Zsa(l:List UInt8):Prop:=∀b∈l,44≤b.toNat∧b.toNat≤57
theorem ztn(c:UInt8):∀l:List UInt8,(∀b∈l,b≠c)→hdC c l=l∧l.contains c=false
 | [],_=>by simp[hdC]
 | b::l,h=>by
  have h1:=h b Y2;obtain⟨e1,e2⟩:=ztn c l fun d hd=>h d (Ym _ hd);have h2:¬ c=b:=fun e=>h1 e.symm;unfold hdC at *
  simp at e2;simp[List.takeWhile_cons,h1,h2,e1,e2]
def Zon:List (Fz×List Fz)→List UInt8→List UInt8
 | [],W=>W
 | p::l,W=>Zli p.1 p.2++10::Zon l W
def Zsb(s:Sm):List UInt8:=98::32::List.intercalate [44] (Zji s.b)++(if s.e=[] then [] else 10::101::32::List.intercalate [44] (Zji s.e))
theorem zsm(w:List UInt8):sz (Zak w).1≤200:=by
 have z0:sz 0≤200:=by rw[zfo];decide
 unfold Zak;simp only;split
 ·exact z0
 ·next h0=>
  have hl:=zjj h0;split
  ·unfold Zfi;simp only;split
   ·exact z0
   ·next h1=>
    obtain⟨h60,hr⟩:=zse h1;have ht:=zsf h60;split
    ·split
     ·exact z0
     ·exact zqi (by omega) (by omega) (by decide)
    ·refine zqi ?_ (by omega) (by decide);rw[zlq];have e2:=zbz (x:=(Za0 (w.take (Z2 w))).natAbs) (y:=10^(w.drop (Z2 w+1)).length) (L:=60) (M:=60) hl ht;have e3:=zcg (x:=(((Za0 (w.take (Z2 w))).natAbs*10^(w.drop (Z2 w+1)).length:Nat):Int)) (y:=((rd (w.drop (Z2 w+1)):Nat):Int)) (L:=120) (by rw[Ybf];exact e2) (by rw[Ybf];omega);rw[←Ya3,Ybf]at e3;omega
  ·exact zqi (by omega) (by rw[zfn];decide) (by decide)
theorem zn8:∀(ws:List (List UInt8)) (k:Nat) (acc:List Rat),(∀q∈acc,sz q≤200)→∀q∈(Za5 ws k acc).1,sz q≤200
 | [],_,_,h=>h
 | w::ws,k,acc,h=>by
  unfold Za5;split
  ·exact zn8 ws _ _ fun q hq=>by
    rcases Yat.1 hq with h1 | h1
    ·exact h q h1
    ·rw[Yb4]at h1;rw[h1];exact zsm w
  ·intro q hq;simp at hq
theorem zzi(s:List UInt8):∀q∈(Zco s).1,sz q≤200:=by
 unfold Zco;split
 ·intro q hq;simp at hq
 ·exact zn8 _ _ _ fun q hq=>by simp at hq
theorem zic{t:List UInt8}(h:Zbo 2 t=true):(∀b∈t,b≠10)∧t.length≤12:=by
 cases t with
 | nil=>simp[Zbo]at h
 | cons c r=>
  simp only[Zbo,Yj,decide_eq_true_eq]at h;obtain⟨⟨⟨_,h1⟩,h2⟩,h3⟩:=h;have hk:Zbg c=2:=by omega
  rw[hk]at h2 h3;unfold Zcy at h2;have ht:(r.takeWhile (Zd4 2)).length=r.length:=by omega
  have e:r.takeWhile (Zd4 2)=r:=(Yay _).eq_of_length ht;have hall:=List.all_takeWhile (p:=Zd4 2) (l:=r);rw[e]at hall;refine⟨fun b hb=>?_,h3⟩;rcases Yy.1 hb with rfl | hb
  ·rintro rfl
   revert hk
   decide
  ·have:=Yh.1 hall b hb
   rintro rfl
   revert this
   decide
theorem zws{s:Sm}(h:okS s=true):Zbo 2 s.nm=true:=by
 unfold okS at h;have hw:=of_decide_eq_true h;unfold Zcs at hw;cases g:Zbo 2 s.nm with
 | true=>rfl
 | false=>rw[g]at hw;simp at hw
section
variable{T:Tbl}[Zy T][Zn T][Zs T][Zw T][Zq T][Zk T][Zx T][Zaz T][Ze T][Zf T][Zr T][Za9 T][Zaa T][Zae T][Zaq T][Zar T][Zai T][Za3 T][Zas T][Zba T][Zav T][Zix T][Zbb T][Zh3 T][Zcn T][Zaj T][Zbj T][Zcl T][Zbq T][Zay T][Zb1 T][Zdg T][Zdf T][Zab T][Zbn T][Zcg T][Zex T][Zgx T][Zbe T][Z1 T][Zao T][Zf9 T][Zfu T]
def Zop(s:Sm)(m:List UInt8)(G:List Fz):St:=⟨[(2,.ptr (.loc 2) 1 5 0 0),(5,.ptr (.loc 5) 2 5 0 0),(6,.s m),(8,.sl (Zc G) .an),(10,.sl [] .fu),(11,.i .i64 0)],[(.loc 2,Zjj 1 s),(.loc 5,Zjj 2 s)],4⟩
def Zoq(s:Sm)(m:List UInt8)(G:List Fz)(i:Nat):St:=⟨[(2,.ptr (.loc 2) 1 5 0 0),(5,.ptr (.loc 5) 2 5 0 0),(6,.s m),(8,.sl (Zc G) .an),(10,.bs (.loc 106) 3 3 0 i),(11,.i .i64 i)],
 [(.loc 2,Zjj 1 s),(.loc 5,Zjj 2 s),(.loc 106,⟨3,.own,3,Zc ((Zm4 s.b s.e).take i)⟩)],5⟩
def stW(s:Sm)(m:List UInt8)(G:List Fz):Nat→St
 | 0=>Zop s m G
 | i+1=>Zoq s m G (i+1)
end
theorem z0c{w:List UInt8}(h:(Zak w).2.1=0):1≤w.length:=by
 cases w with
 | nil=>exact absurd h (by decide)
 | cons c r=>simp
theorem zid:∀(ws:List (List UInt8)) (k:Nat) (acc:List Rat),2*(Za5 ws k acc).1.length≤2*acc.length+(ws.map fun w=>w.length+1).sum
 | [],_,acc=>by simp[Za5]
 | w::ws,k,acc=>by
  unfold Za5;by_cases h:(Zak w).2.1=0
  ·have h1:=z0c h;have:=zid ws (k+w.length+1) (acc++[(Zak w).1]);rw[if_pos h];simp only[Y0,Yk,Yak,Yv,Yci]at this ⊢;omega
  ·rw[if_neg h];simp
theorem zto(s:List UInt8):2*(Zco s).1.length≤s.length+1:=by
 unfold Zco;split
 ·simp
 ·have:=zid (Zz 44 s) 0 [];rw[zfj]at this;simpa using this
structure SgS (s:Sg):Prop where
 al:s.a.length=s.c.length
 c:∀x∈s.c,fsz x≤300
 a:∀r∈s.a,r.length≤1000∧∀x∈r,fsz x≤300
theorem ztp{l:List UInt8}(hl:l.length≤1900):(fzs (Zco l).1).length≤1000∧∀x∈fzs (Zco l).1,fsz x≤300:=by
 refine⟨?_,fun x hx=>?_⟩
 ·rw[zar];have:=zto l;omega
 ·unfold fzs at hx;obtain⟨q,hq,rfl⟩:=Yz.1 hx;rw[zav];have:=zzi l q hq;omega
theorem ztq{r:Rd}(ho:r.over=false):muR r=muR (Z3 r)+(Zl r).length+1:=by
 unfold muR Zl Z3;rw[ho];cases hc:r.rest.contains 10 with
 | true=>
  have h5:=zm1 r.rest 10 hc;simp;omega
 | false=>
  have:=(ztn 10 r.rest (fun b hb e=>by rw[e]at hb;rw[Yca.2 hb]at hc;cases hc)).1;simp[this]
theorem ztr(t:List UInt8)(ht:t.length≤1500):∀(n:Nat) (r:Rd) (s:Sg),RdOk t r→SgS s→2*s.c.length+muR r≤1501→SgS (Zap t n r s).2.1∧2*(Zap t n r s).2.1.c.length≤1501
 | 0,_,_,_,h,hm=>⟨h,by simp only[Zap];omega⟩
 | n+1,r,s,hr,h,hm=>by
  unfold Zap;by_cases h1:r.over=true
  ·rw[if_pos h1];exact⟨h,by dsimp only;omega⟩
  rw[if_neg h1];by_cases h2:(Zl r).contains 124=false
  ·rw[if_pos h2];exact⟨h,by dsimp only;omega⟩
  rw[if_neg h2];by_cases h3:(Zcb (Zl r) r.at_).2.2≠(0,0)
  ·rw[if_pos h3];exact⟨h,by dsimp only;omega⟩
  rw[if_neg h3];have ho:r.over=false:=by simpa using h1
  have hmu:=ztq ho;have hl1:1≤(Zl r).length:=by
   cases hl:Zl r with
   | nil=>rw[hl]at h2;simp at h2
   | cons c q=>simp
  have hl2:(Zl r).length≤1500:=by
   have:=hr.l;have e:Zl r=hdC 10 r.rest:=by unfold Zl;rw[ho];rfl
   rw[e];have:=zwu 10 r.rest;omega
  have k1:fsz (fz (Zcb (Zl r) r.at_).1)≤300:=by
   rw[zav];have:=zsm (hdC 124 (Zl r));unfold Zcb;split
   ·dsimp only;omega
   ·dsimp only;omega
  have k2:(fzs (Zcb (Zl r) r.at_).2.1).length≤1000∧∀x∈fzs (Zcb (Zl r) r.at_).2.1,fsz x≤300:=by
   unfold Zcb;split
   ·simp[fzs]
   ·exact ztp (by have:=z5g 124 (Zl r);omega)
  refine ztr t ht n _ _ (zdy hr) ⟨?_,?_,?_⟩ ?_
  ·have:=h.al;simp only[Y0,Yk,Yak];omega
  ·intro x hx;rcases Yat.1 hx with hx | hx
   ·exact h.c x hx
   ·rw[Yb4]at hx;rw[hx];exact k1
  ·intro q hq;rcases Yat.1 hq with hq | hq
   ·exact h.a q hq
   ·rw[Yb4]at hq;rw[hq];exact k2
  ·simp only[Y0,Yk,Yak];omega
theorem zxr(c:UInt8){r:Rd}(h:r.rest.length≤1500):(fzs (Zd7 c r).1).length≤1000∧∀x∈fzs (Zd7 c r).1,fsz x≤300:=by
 unfold Zd7;split
 ·refine ztp ?_;have e:(Zl r).length≤r.rest.length:=by
   unfold Zl;split
   ·simp
   ·exact zwu 10 r.rest
  simp only[Yao];omega
 ·simp[fzs]
theorem z0d(t:List UInt8)(ht:t.length≤1500)(h:(Zbf t).2=(0,0)):SmS (Zbf t).1:=by
 have h0:RdOk t ⟨t,0,false⟩:=⟨Yu _,Yg _,fun _=>Yai _⟩;have k1:=zdy h0;have m0:=ztq (r:=⟨t,0,false⟩) rfl;have m1:muR ⟨t,0,false⟩=t.length+1:=rfl;obtain⟨S,hc⟩:=ztr t ht (t.length+2) (Z3 ⟨t,0,false⟩) ⟨Zl ⟨t,0,false⟩,[],[]⟩ k1 ⟨rfl,fun x hx=>by simp at hx,fun x hx=>by simp at hx⟩ (by simp;omega);have o2:=zm3 (t.length+2) (Z3 ⟨t,0,false⟩) ⟨Zl ⟨t,0,false⟩,[],[]⟩ k1;have hS:Zam t=Zap t (t.length+2) (Z3 ⟨t,0,false⟩) ⟨Zl ⟨t,0,false⟩,[],[]⟩:=rfl;rw[←hS]at S hc o2;have o3:=zdy o2;obtain⟨b1,b2⟩:=zxr 98 (r:=(Zam t).1) (by have:=o2.l;omega);obtain⟨e1,e2⟩:=zxr 101 (r:=Z3 (Zam t).1) (by have:=o3.l;omega);have nmS:∀(n:Nat) (r:Rd) (s:Sg),(Zap t n r s).2.1.nm=s.nm:=by
  intro n
  induction n with
  | zero=>intro r s;rfl
  | succ n ih=>
   intro r s;unfold Zap;split
   ·rfl
   ·split
    ·rfl
    ·split
     ·rfl
     ·rw[ih]
 have hnm:(Zam t).2.1.nm=Zl ⟨t,0,false⟩:=nmS _ _ _;unfold Zbf at h ⊢;by_cases q1:Zbo 2 (Zl ⟨t,0,false⟩)=false
 ·rw[if_pos q1]at h;simp at h
 have hn:=(zic (t:=Zl ⟨t,0,false⟩) (by simpa using q1)).2;rw[if_neg q1]at h ⊢;by_cases q2:(Zam t).2.2≠(0,0)
 ·rw[if_pos q2]at h;exact absurd h q2
 rw[if_neg q2]at h ⊢;have al:=S.al;have mk:∀b e:List Fz,(b.length≤1000∧∀x∈b,fsz x≤300)→(e.length≤1000∧∀x∈e,fsz x≤300)→SmS (smG (Zam t).2.1 b e):=fun b e hb he=>
  ⟨by show (Zam t).2.1.nm.length≤1000;rw[hnm];omega,by show (Zam t).2.1.c.length≤1000;omega,by show (Zam t).2.1.a.length≤1000;omega,hb.1,he.1,S.c,S.a,hb.2,he.2⟩
 split
 ·exact mk _ _ ⟨b1,b2⟩ ⟨by simp,by simp⟩
 ·split
  ·exact mk _ _ ⟨b1,b2⟩ ⟨e1,e2⟩
  ·exact mk _ _ ⟨b1,b2⟩ ⟨e1,e2⟩
def Zi(l:List Nat):List (List AV):=l.map fun(n:Nat)=>[.i .i64 n]
theorem zbb(l:List Nat):(Zi l).length=l.length:=by simp[Zi]
theorem zap(l:List Nat):wkL (Zi l)=Zi l:=by
 unfold Zi
 induction l with
 | nil=>rfl
 | cons a l ih=>rw[Yv,zn0,ih];rfl
theorem zqb(l:List Nat)(n:Nat):Zi l++[[.i .i64 n]]=Zi (l++[n]):=by simp[Zi]
def Zle:Nat→List UInt8→List Nat
 | _,[]=>[]
 | k,c::r=>if c=10 then (k+1)::Zle (k+1) r else Zle (k+1) r
def stL(k:Nat)(l:List UInt8):List Nat:=Zle k l++[k+l.length+1]
def stM(t:List UInt8)(i:Nat):List Nat:=0::Zle 0 (t.take i)
section
variable{T:Tbl}[Zlz T]
def Zsq(t:List UInt8)(i:Nat):St:=
 if stM t i=[0] then ⟨[(0,.s t),(3,.sl [[.i .i64 0]] .fu),(4,.i .i64 i)],[],2⟩
 else ⟨[(0,.s t),(3,.bs (.loc 20) 1 1 0 (stM t i).length),(4,.i .i64 i)],[(.loc 20,⟨1,.own,1,Zi (stM t i)⟩)],3⟩
def Zqk(t:List UInt8):Option (Ex×St):=
 if stM t t.length=[0] then some (.n,⟨[(0,.s t),(3,.sl [[.i .i64 0]] .fu)],[],2⟩)
 else some (.n,⟨[(0,.s t),(3,.bs (.loc 20) 1 1 0 (stM t t.length).length)],[(.loc 20,⟨1,.own,1,Zi (stM t t.length)⟩)],3⟩)
def Zsr(s:List UInt8)(i:Nat):St:=⟨[(0,.s s),(3,.i .i64 i)],[],2⟩
end
def Zac(l:List (List Nat)):List (List AV):=l.map fun t=>[.sl (Zi t) .an]
theorem zdk(l:List (List Nat)):(Zac l).length=l.length:=by simp[Zac]
theorem zdx(l:List (List Nat))(t:List Nat):Zac l++[[.sl (Zi t) .an]]=Zac (l++[t]):=by simp[Zac]
theorem zbr(l:List (List Nat)):wkL (Zac l)=Zac l:=by
 unfold Zac
 induction l with
 | nil=>rfl
 | cons a l ih=>
  rw[Yv,zn0,ih];congr 1;simp[zap]
theorem zbh{L:List Nat}{n p:Nat}(h:L[n]? = some p):(Zi L)[n]? = some [.i .i64 p]:=by
 unfold Zi;simp[h]
section
variable{T:Tbl}[Z9 T]
def Zkb(l:List Nat)(i k0 j:Nat):St:=⟨[(0,.sl (Zi l) .an),(1,.i .i64 i),(5,.i .i64 (k0-j:Nat))],[],2⟩
theorem zwg(l:List Nat)(i k0 r a:Nat)(hi:i=k0+1)(hil:i<l.length)(hr:r≤k0)(hlen:l.length≤1000)(ha:l[i]? = some (a+1))(h0:l[r]? = some a)(hk:∀k,r<k→k<i→l[k]?≠some a)(hb:∀x∈l,x≤1000) :
  Zv T 0 0 (.norm false [5]) l605_0 (Zkb l i k0 0)=some (.n,⟨[(5,.i .i64 r)],[],2⟩):=by
 have hwk:=zap l;have hln:=zbb l;have ia:=zbh ha;have ha1:a+1≤1000:=hb _ (Yf ha);have hsub:IntKind.wrap .i64 (a:Int)=(a:Int):=zac _ (by omega);refine zau (Zkb l i k0) (k0-r) _ (fun j hj=>?_) ?_
 ·obtain⟨k',hk'⟩:∃k',k0-j=k'+1:=⟨k0-j-1,by omega⟩;have hk'':k0-(j+1)=k':=by omega
  have hkl:k'+1<l.length:=by omega
  have hkI:(k':Int)+1<l.length:=by omega
  have hiI:(i:Int)<l.length:=by omega
  obtain⟨x,hx⟩:∃x,l[k'+1]? = some x:=⟨l[k'+1]'hkl,Ya hkl⟩;have ix:=zbh hx;have hne:¬ x=a:=fun e=>hk (k'+1) (by omega) (by omega) (by rw[hx,e]);have hne':¬ (x:Int)=(a:Int):=by omega
  have hw:IntKind.wrap .i64 (k':Int)=(k':Int):=zac _ (by omega);unfold Zkb;rw[hk',hk''];rw[←hln]at hkl hkI hiI hil;generalize Zi l=R at *
  obtain⟨j0,ia⟩:=Ye.1 ia;obtain⟨j1,ix⟩:=Ye.1 ix;have g0:R[i]? = some (R[i]'j0):=Ya j0;have g1:R[k'+1]? = some (R[k'+1]'j1):=Ya j1;simp only[Ya3,Ya4]at ia;clear hk h0 ha hx hb hi;simp -implicitDefEqProofs[l605_0,hkl,hkI,hiI,hil,g0,g1,ia,ix,hsub,hne,hne',hw,hwk]
 ·have e:k0-(k0-r)=r:=by omega
  have hrl:r<l.length:=by omega
  have hrI:(r:Int)<l.length:=by omega
  have hiI:(i:Int)<l.length:=by omega
  have i0:=zbh h0;unfold Zkb;rw[e];rw[←hln]at hrl hrI hiI hil;generalize Zi l=R at *
  obtain⟨j0,ia⟩:=Ye.1 ia;obtain⟨j1,i0⟩:=Ye.1 i0;have g0:R[i]? = some (R[i]'j0):=Ya j0;have g1:R[r]? = some (R[r]'j1):=Ya j1;simp only[Ya3,Ya4]at ia;clear hk h0 ha hb hi;constructor<;>simp -implicitDefEqProofs[l605_0,hrl,hrI,hiI,hil,g0,g1,ia,i0,hsub]
theorem zia(l:List Nat)(i r a:Nat)(hil:i<l.length)(hr:r<i)(hlen:l.length≤1000)(ha:l[i]? = some (a+1))(h0:l[r]? = some a)(hk:∀k,r<k→k<i→l[k]?≠some a)(hb:∀x∈l,x≤1000) :
  Za T 605 [.sl (Zi l) .an,.i .i64 i]=some (.i .i64 r):=by
 obtain⟨k0,rfl⟩:∃k0,i=k0+1:=⟨i-1,by omega⟩;have L:=zwg (T:=T) l (k0+1) k0 r a rfl hil (by omega) hlen ha h0 hk hb;have hwk:=zap l;have hw:IntKind.wrap .i64 (k0:Int)=(k0:Int):=zac _ (by omega);unfold Zkb at L;simp only[Ydw,Ya3,Ya4]at L;rw[zab Z9.h605 rfl,b605];clear ha h0 hk hb;generalize Zi l=R at *
 simp -implicitDefEqProofs[L,hwk,hw]
def Zkc(n i:Nat):St:=⟨[(0,.i .i64 n),(3,.bs (.loc 3) 1 1 0 0),(4,.bs (.loc 4) 2 1 0 i),(15,.i .i64 n),(16,.i .i64 i)],[(.loc 3,⟨1,.own,1,[]⟩),(.loc 4,⟨2,.own,1,Zi (List.range i)⟩)],4⟩
theorem zwh(n:Nat)(hn:n≤1000):Zv T 0 0 (.norm false [0,3,4]) l589_0 (Zkc n 0)=some (.n,⟨[(0,.i .i64 n),(3,.bs (.loc 3) 1 1 0 0),(4,.bs (.loc 4) 2 1 0 n)],[(.loc 3,⟨1,.own,1,[]⟩),(.loc 4,⟨2,.own,1,Zi (List.range n)⟩)],4⟩):=by
 refine zau (Zkc n) n _ (fun i hi=>?_) ?_
 ·have hi':(i:Int)<n:=by omega
  have hws:=zb8 hi (by omega);have hc:i≤4294967295:=by omega
  have hl:=zbb (List.range i);rw[List.length_range]at hl;have ht:List.take i (Zi (List.range i))=Zi (List.range i):=Yb (by omega);have hw:=zap (List.range (i+1));unfold Zkc;rw[List.range_succ,←zqb]at hw ⊢;generalize Zi (List.range i)=R at *
  simp -implicitDefEqProofs[l589_0,hi,hi',hws,hc,hl,ht,hw]
 ·have hw:=zap (List.range n);unfold Zkc;generalize Zi (List.range n)=R at *
  constructor<;>simp -implicitDefEqProofs[l589_0,hw]
end
def Zer:Int→List Int→Bool
 | _,[]=>true
 | p,x::l=>decide (1≤x)&&decide (x-1≤p)&&Zer x l
def Zcr:List Int→Bool
 | []=>false
 | x::l=>decide (x=0)&&Zer x l
def Zbh(l:List Int):Bool:=decide (l.length≤8)&&Zcr l
def Zni(t:List Nat):List (List Nat):=(List.range (t.getLast?.getD 0+1)).map fun x=>t++[x+1]
def Zky:Nat→List (List Nat)
 | 0=>[[0]]
 | n+1=>(Zky n).flatMap Zni
def allT:List (List Nat):=(List.range 8).flatMap Zky
def Zbi(t:List Nat):List Int:=t.map fun(n:Nat)=>(n:Int)
def Znj(t:List Nat)(a:Nat):Nat→Nat
 | 0=>0
 | k+1=>if t[k+1]? = some a then k+1 else Znj t a k
def Zes(t:List Nat)(i:Nat):Nat:=Znj t (t[i]?.getD 0-1) (i-1)
def Znk(a:Nat):List Nat→Nat
 | []=>0
 | x::l=>if a<x then Znk a l+1 else 0
def enT(t:List Nat)(i:Nat):Nat:=i+1+Znk (t[i]?.getD 0) (t.drop (i+1))
def Zkz(t:List Nat)(i:Nat)(q:List Nat×Nat):List Nat×Nat:=
 let s:=q.1[i]?.getD 0+1
 let l:=q.1.set i s
 (if 0<i then l.set (Zes t i) (l[Zes t i]?.getD 0+s) else l,q.2*s)
def Zdb(t:List Nat):Nat→List Nat×Nat
 | 0=>(List.replicate t.length 0,1)
 | j+1=>Zkz t (t.length-1-j) (Zdb t j)
def Zk0(t:List Nat):Nat:=(Zdb t t.length).2
def Zk1(t:List Nat):Nat→Nat
 | 0=>1
 | k+1=>Zk1 t k*(enT t k-k)
def Zf0(t:List Nat):Nat:=Zk1 t t.length
def Zmb(t:List Nat)(q:Nat):List Nat:=(List.range t.length).filter fun c=>decide (0<c)&&decide (Zes t c=q)
def Zmc(t:List Nat)(e:Nat):Nat→Nat→List Nat
 | 0,_=>[]
 | f+1,c=>if c<e then c::Zmc t e f (enT t c) else []
def Zlg(t:List Nat)(q:Nat):List Nat:=Zmc t (enT t q) t.length (q+1)
def Zjc(t:List Nat)(i:Nat):Bool:=
 decide (1≤t[i]?.getD 0)&&decide (Zes t i<i)&&decide (t[Zes t i]?.getD 9+1=t[i]?.getD 0)&&((List.range i).all fun k=>decide (k≤Zes t i) || decide (t[k]?.getD 9+1≠t[i]?.getD 0))
def Ziq(t:List Nat):Bool:=
 decide (1≤t.length)&&decide (t.length≤8)&&t.all (fun x=>decide (x≤8))&&((List.range t.length).all fun i=>decide (i=0) || Zjc t i) &&
 decide (Zk0 t=Zf0 t)&&((List.range (t.length+1)).all fun j=>decide (Zk1 t j≤100000)&&(Zdb t j).1.all (fun x=>decide (x≤8))&&decide ((Zdb t j).2≤100000)&&decide ((Zdb t j).1.length=t.length)) &&
 ((List.range t.length).all fun i=>decide (Zmb t i=Zlg t i))
theorem zw5:allT.all Ziq=true:=by decide +kernel
theorem zuo(x:Int):∀(l:List Int) (p:Int),Zer p (l++[x])=(Zer p l&&(decide (1≤x)&&decide (x-1≤l.getLast?.getD p))):=by
 intro l
 induction l with
 | nil=>intro p;simp[Zer];rfl
 | cons a l ih=>
  intro p;rw[Ybl,Zer,Zer,ih];have:(a::l).getLast?.getD p=l.getLast?.getD a:=by cases l<;>simp[List.getLast?_cons]
  rw[this];simp only[Bool.and_assoc]
theorem zup:∀(n:Nat) (l:List Int),l.length=n+1→Zcr l=true→∃t∈Zky n,l=Zbi t:=by
 intro n
 induction n with
 | zero=>
  intro l hl hr
  match l,hl with
  | [x],_=>
   refine⟨[0],by simp[Zky],?_⟩;simp[Zcr,Zer]at hr;simp[Zbi,hr]
 | succ n ih=>
  intro l hl hr;obtain⟨m,x,rfl⟩:∃m x,l=m++[x]:=⟨l.dropLast,l.getLast (by intro h;simp[h]at hl),(Yb5 _).symm⟩;have hm:m.length=n+1:=by simpa using hl
  obtain⟨a,m',rfl⟩:∃a m',m=a::m':=by cases m<;>simp_all
  rw[Ybl,Zcr,zuo]at hr;simp only[Yj,decide_eq_true_eq]at hr;obtain⟨h0,h1,h2,h3⟩:=hr;obtain⟨t,ht,e⟩:=ih (a::m') hm (by subst h0;simp[Zcr,h1]);have hlast:m'.getLast?.getD a=((t.getLast?.getD 0:Nat):Int):=by
   have:(a::m').getLast? = some (m'.getLast?.getD a):=by rw[List.getLast?_cons]
   rw[e,Zbi,List.getLast?_map]at this;cases h:t.getLast? with
   | none=>rw[h]at this;simp at this
   | some y=>rw[h]at this;simp at this;simp[this]
  refine⟨t++[x.toNat],?_,?_⟩
  ·rw[Zky,Yac];refine⟨t,ht,?_⟩;rw[Zni,Yz];exact⟨x.toNat-1,by rw[Ydd];omega,by congr 2;omega⟩
  ·rw[e];simp only[Zbi,Ycd,Yv,Yb9];congr 2;omega
theorem zlt{l:List Int}(h:Zbh l=true):∃t∈allT,l=Zbi t∧Ziq t=true:=by
 simp only[Zbh,Yj,decide_eq_true_eq]at h;have h1:l≠[]:=by
  rintro rfl
  simp[Zcr]at h
 have h2:0<l.length:=Ybz.2 h1;obtain⟨t,ht,e⟩:=zup (l.length-1) l (by omega) h.2;have ha:t∈allT:=Yac.2 ⟨l.length-1,by rw[Ydd];omega,ht⟩;exact⟨t,ha,e,Yh.1 zw5 t ha⟩
structure TrOk (t:List Nat):Prop where
 l1:1≤t.length
 l8:t.length≤8
 v:∀x∈t,x≤8
 p:∀i,0<i→i<t.length→Zjc t i=true
 den:Zk0 t=Zf0 t
 dk:∀j,j≤t.length→Zk1 t j≤100000
 dj:∀j,j≤t.length→(∀x∈(Zdb t j).1,x≤8)∧(Zdb t j).2≤100000∧(Zdb t j).1.length=t.length
 kid:∀i,i<t.length→Zmb t i=Zlg t i
theorem zuq{t:List Nat}(h:Ziq t=true):TrOk t:=by
 simp only[Ziq,Yj,decide_eq_true_eq,Yh,Ya2,Ydd]at h;obtain⟨⟨⟨⟨⟨⟨h1,h2⟩,h3⟩,h4⟩,h5⟩,h6⟩,h7⟩:=h;exact⟨h1,h2,h3,fun i hi hl=>(h4 i hl).resolve_left (by omega),h5,fun j hj=>(h6 j (by omega)).1.1.1,fun j hj=>⟨(h6 j (by omega)).1.1.2,(h6 j (by omega)).1.2,(h6 j (by omega)).2⟩,h7⟩
theorem zod(t:List Nat):ints (Zbi t)=Zi t:=by simp[ints,Zbi,Zi]
theorem inRg(x:Int)(h1:-9223372036854775808≤x)(h2:x<9223372036854775808):IntKind.wrap .i64 x=x:=zac _ ⟨h1,h2⟩
section
variable{T:Tbl}[Z9 T]
def Zil(l:List Int)(i:Nat):St:=⟨[(0,.sl (ints l) .an),(3,.i .i64 ((i+1:Nat):Int))],[],2⟩
def Ze8(b:Bool):Option (Ex×St):=if b then some (.n,⟨[],[],2⟩) else some (.r,⟨[(2,.b false)],[],2⟩)
theorem zzs(x0:Int)(t:List Int)(hl:t.length≤1000000)(hw:∀x∈x0::t,-9223372036854775808≤x∧x<9223372036854775808) :
  Zv T 0 0 (.norm false []) l594_0 (Zil (x0::t) 0)=Ze8 (Zer x0 t):=by
 have key:=za3 (T:=T) (k:=0) (id:=0) (g2:=.norm false []) (c:=l594_0) (Zil (x0::t)) t.length (fun i=>Ze8 (Zer ((x0::t)[i]?.getD 0) (t.drop i))) (fun i hi=>?_) ?_
 ·simpa using key
 ·have hi':(i:Int)+1<t.length+1:=by omega
  have hii:(i:Int)<t.length+1:=by omega
  have hi2:i<t.length+1:=by omega
  have hws:IntKind.wrap .i64 ((i:Int)+1+1)=(i:Int)+1+1:=inRg _ (by omega) (by omega);have hw1:IntKind.wrap .i64 (i:Int)=(i:Int):=inRg _ (by omega) (by omega);have e1:(x0::t)[i+1]? = some t[i]:=by simp[hi]
  have e0:(x0::t)[i]? = some ((x0::t)[i]'(by simp;omega)):=Ya _;have hd:t.drop i=t[i]::t.drop (i+1):=(Ydn ..).symm;obtain⟨h1,h2⟩:=hw t[i] (by simp);rw[hd,e0,Yb1];generalize (x0::t)[i]'(by simp;omega)=p at *
  generalize hx:t[i]=x at *
  have hlen:(ints (x0::t)).length=t.length+1:=by simp
  have hwk:=zhe (x0::t);have q0:(ints (x0::t))[i]? = some [.i .i64 p]:=by rw[ints_get?,e0];rfl
  have q1:(ints (x0::t))[i+1]? = some [.i .i64 x]:=by rw[ints_get?,e1];rfl
  clear hw;have hwx:1≤x→IntKind.wrap .i64 (x-1)=x-1:=fun h=>inRg _ (by omega) (by omega);rw[show Zer p (x::t.drop (i+1))=(decide (1≤x)&&decide (x-1≤p)&&Zer x (t.drop (i+1))) from rfl];unfold Zil;generalize ints (x0::t)=R at *
  obtain⟨j0,a0⟩:=Ye.1 q0;obtain⟨j1,a1⟩:=Ye.1 q1;have q0:R[i]? = some (R[i]'j0):=Ya j0;have q1:R[i+1]? = some (R[i+1]'j1):=Ya j1;by_cases c1:1≤x
  ·have hwx:=hwx c1;have c1':¬ x<1:=by omega
   by_cases c2:x-1≤p
   ·left;have c2':¬ p<x-1:=by omega
    refine⟨?_,?_⟩
    ·simp -implicitDefEqProofs[l594_0,hlen,hwk,hi',hii,hi2,hi,hws,hw1,q0,q1,a0,a1,hwx,c1',c2']
    ·simp[c1,c2,hi,hx,Ze8]
   ·right;have c2':p<x-1:=by omega
    constructor<;>simp -implicitDefEqProofs[l594_0,hlen,hwk,hi',hii,hi2,hi,hws,hw1,q0,q1,a0,a1,hwx,c1',c1,c2,c2',Ze8]
  ·right;have c1':x<1:=by omega
   constructor<;>simp -implicitDefEqProofs[l594_0,hlen,hwk,hi',hii,hi2,hi,hws,hw1,q0,q1,a0,a1,c1',c1,Ze8]
 ·have h0:¬ (t.length:Int)+1<t.length+1:=by omega
  unfold Zil;constructor<;>simp -implicitDefEqProofs[l594_0,h0,Ze8,Zer]
theorem zmt(l:List Int)(hl:l.length≤1000000)(hw:∀x∈l,-9223372036854775808≤x∧x<9223372036854775808):Za T 594 [.sl (ints l) .an]=some (.b (Zcr l)):=by
 rw[zab Z9.h594 rfl,b594]
 match l with
 | []=>simp -implicitDefEqProofs[Zcr]
 | x::t=>
  have hne:¬ (t.length:Int)+1=0:=by omega
  have hp0:(0:Int)<(t.length:Int)+1:=by omega
  have L:=zzs (T:=T) x t (by simp at hl;omega) hw;by_cases h0:x=0
  ·subst h0;simp only[Zil,Yai,Ya4]at L;have hlen:(ints (0::t)).length=t.length+1:=by simp
   have hwk:=zhe (0::t);have q0:(ints (0::t))[0]? = some [.i .i64 0]:=rfl;have e:Zcr (0::t)=Zer 0 t:=by simp[Zcr]
   rw[e];generalize ints (0::t)=R at *
   obtain⟨j0,a0⟩:=Ye.1 q0;cases hb:Zer 0 t<;>simp -implicitDefEqProofs[L,hne,hp0,hlen,hwk,q0,a0,Ze8,hb]
  ·have e:Zcr (x::t)=false:=by simp[Zcr,h0]
   have hlen:(ints (x::t)).length=t.length+1:=by simp
   have hwk:=zhe (x::t);have q0:(ints (x::t))[0]? = some [.i .i64 x]:=rfl;rw[e];clear hw L;generalize ints (x::t)=R at *
   obtain⟨j0,a0⟩:=Ye.1 q0;simp -implicitDefEqProofs[hne,hp0,hlen,hwk,q0,a0,h0]
theorem zec(l:List Int)(hl:l.length≤1000000)(hw:∀x∈l,-9223372036854775808≤x∧x<9223372036854775808):Za T 607 [.sl (ints l) .an]=some (.b (Zbh l)):=by
 have c:=zmt (T:=T) l hl hw;rw[zab Z9.h607 rfl,b607];unfold Zbh;by_cases h:l.length≤8
 ·have h':(l.length:Int)≤8:=by omega
  simp -implicitDefEqProofs[c,h,h']
 ·have h':¬ (l.length:Int)≤8:=by omega
  simp -implicitDefEqProofs[h,h']
theorem zg7{t:List Nat}(ht:TrOk t){i:Nat}(h0:0<i)(hi:i<t.length):Zes t i<i∧Za T 605 [.sl (Zi t) .an,.i .i64 i]=some (.i .i64 (Zes t i)):=by
 have h:=ht.p i h0 hi;simp only[Zjc,Yj,decide_eq_true_eq,Yh,Ya2,Ydd]at h;obtain⟨⟨⟨h1,h2⟩,h3⟩,h4⟩:=h;refine⟨h2,?_⟩;generalize Zes t i=r at *
 have e1:t[i]? = some t[i]:=Ya hi;have e2:t[r]? = some (t[r]'(by omega)):=Ya (by omega);rw[e1]at h1 h3 h4;rw[e2]at h3;simp only[Yb1]at h1 h3 h4;have l8:=ht.l8;exact zia (T:=T) t i r t[r] hi h2 (by omega) (by rw[e1,h3]) e2 (fun k h5 h6 h7=>by
  rcases h4 k h6 with h8 | h8
  ·omega
  ·rw[h7]at h8;exact h8 h3) (fun x hx=>by have:=ht.v x hx;omega)
def Zim(t:List Nat)(j:Nat):St:=⟨[(0,.sl (Zi t) .an),(3,.bs (.loc 11) 1 1 0 t.length),(4,.i .i64 ((Zdb t j).2:Nat)),(5,.i .i64 ((t.length:Int)-1-j))],[(.loc 11,⟨1,.own,1,Zi (Zdb t j).1⟩)],3⟩
theorem zib(l:List Nat)(i x:Nat):(Zi l).set i [.i .i64 x]=Zi (l.set i x):=by
 simp[Zi,Ycc]
theorem zzt{t:List Nat}(ht:TrOk t):Zv T 0 0 (.norm false [4]) l595_0 (Zim t 0)=some (.n,⟨[(4,.i .i64 (Zk0 t:Nat))],[],2⟩):=by
 have l8:=ht.l8;have l1:=ht.l1;refine zau (Zim t) t.length _ (fun j hj=>?_) ?_
 ·obtain⟨i,hi⟩:∃i,i=t.length-1-j:=⟨_,rfl⟩;have hil:i<t.length:=by omega
  have ei:(t.length:Int)-1-j=i:=by omega
  have ei2:(t.length:Int)-1-(j+1:Nat)=i-1:=by omega
  obtain⟨b1,b2,b3⟩:=ht.dj j (by omega);obtain⟨d1,d2,d3⟩:=ht.dj (j+1) (by omega);have en:Zdb t (j+1)=Zkz t i (Zdb t j):=by rw[Zdb,hi]
  unfold Zim;rw[ei,ei2];rw[en]at d1 d2 d3 ⊢;unfold Zkz at d1 d2 d3 ⊢;generalize Zdb t j=q at *
  obtain⟨s,o⟩:=q;dsimp only at *
  have e1:s[i]? = some (s[i]'(by omega)):=Ya (by omega);have hx:s[i]'(by omega)≤100:=Yc (b1 _ (Yp _)) (by decide);rw[e1]at d1 d2 d3 ⊢;generalize s[i]'(by omega)=x at *
  simp only[Yb1]at d1 d2 d3 ⊢;obtain⟨z,hz⟩:∃z,z=x+1:=⟨_,rfl⟩;rw[←hz]at d1 d2 d3 ⊢;have hwt:=zap t;have hws:=zap s;have hwi:IntKind.wrap .i64 ((i:Int)-1)=(i:Int)-1:=inRg _ (by omega) (by omega);have hwx:IntKind.wrap .i64 ((x:Int)+1)=(z:Int):=by
   rw[inRg _ (by omega) (by omega)];omega
  have hwo:IntKind.wrap .i64 ((o:Int)*(z:Int))=((o*z:Nat):Int):=by
   rw[←Yc5];generalize o*z=m at *
   exact inRg _ (by omega) (by omega)
  have hiI:(i:Int)<t.length:=by omega
  have hls:=zbb s;have q0:=zbh e1;have hset:(Zi s).set i [.i .i64 (z:Int)]=Zi (s.set i z):=zib s i z;by_cases h0:0<i
  ·obtain⟨p1,c1⟩:=zg7 (T:=T) ht h0 hil;generalize Zes t i=p at *
   have h0':(0:Int)<i:=by omega
   have hpl:p<t.length:=by omega
   have hpI:(p:Int)<t.length:=by omega
   rw[if_pos h0]at d1 d3 ⊢;have ne:i≠p:=by omega
   obtain⟨y,e20⟩:∃y,s[p]? = some y:=⟨s[p]'(by omega),Ya (by omega)⟩;have hy:y≤100:=Yc (b1 _ (Yf e20)) (by decide);have e2:(s.set i z)[p]? = some y:=by rw[Ya6 ne];exact e20
   rw[e2]at d1 d3 ⊢;simp only[Yb1]at d1 d3 ⊢;have e3:(s.set i z)[i]? = some z:=Yar (by omega);have q2:=zbh e2;have q3:=zbh e3;obtain⟨v,hv⟩:∃v,v=y+z:=⟨_,rfl⟩;rw[←hv]at d1 d3 ⊢;have hwy:IntKind.wrap .i64 ((y:Int)+(z:Int))=(v:Int):=by
    rw[inRg _ (by omega) (by omega)];omega
   have hset2:(Zi (s.set i z)).set p [.i .i64 (v:Int)]=Zi ((s.set i z).set p v):=zib _ _ _;have hl2:=zbb (s.set i z);rw[Ydx]at hl2;have hw2:=zap (s.set i z);have hw3:=zap ((s.set i z).set p v);rw[←hset2,←hset];rw[←hset]at q2 q3 hset2 hl2 hw2;rw[←hset2]at hw3;have hgs:(i:Int)≥0:=by omega
   clear d1 d2 d3 hset hset2 e1 e2 e3 en;generalize Zi s=R at *
   generalize Zi t=Q at *
   obtain⟨j0,a0⟩:=Ye.1 q0;obtain⟨j2,a2⟩:=Ye.1 q2;obtain⟨j3,a3⟩:=Ye.1 q3;have q0:=Ya j0;have q2:=Ya j2;have q3:=Ya j3;have hi0:¬ i=0:=by omega
   simp -implicitDefEqProofs[l595_0,hi0,c1,a0,a2,a3, h0',hil,hpl,hpI,hiI,hwi,hwx,hwo,hwy,hls,hl2,b3,q0,q2,q3,hw2,hw3,hwt,hws,hgs]
  ·have h00:i=0:=by omega
   subst h00;rw[if_neg h0]at d1 d3 ⊢;have e3:(s.set 0 z)[0]? = some z:=Yar (by omega);have q3:=zbh e3;have hl2:=zbb (s.set 0 z);rw[Ydx]at hl2;have hw2:=zap (s.set 0 z);rw[←hset];rw[←hset]at q3 hl2 hw2;clear d1 d2 d3 hset e1 e3 en;generalize Zi s=R at *
   generalize Zi t=Q at *
   obtain⟨j0,a0⟩:=Ye.1 q0;obtain⟨j3,a3⟩:=Ye.1 q3;have q0:=Ya j0;have q3:=Ya j3;have hm1:IntKind.wrap .i64 (-1)=-1:=inRg _ (by omega) (by omega);have hlt:(0:Int)<t.length:=by omega
   simp only[Y3]at *
   simp -implicitDefEqProofs[l595_0,a0,a3,hil,hlt,hwx,hwo,hls,hl2,b3,q0,q3,hw2,hwt,hws,hm1]
 ·have hwt:=zap t;have ei:(t.length:Int)-1-t.length=-1:=by omega
  unfold Zim Zk0;rw[ei];generalize Zdb t t.length=q at *
  constructor<;>simp -implicitDefEqProofs[l595_0,hwt]
theorem zew{t:List Nat}(ht:TrOk t)(hs:Zbh (Zbi t)=true):Za T 595 [.sl (Zi t) .an]=some (.i .i64 (Zf0 t:Nat)):=by
 have l8:=ht.l8;have l1:=ht.l1;have L:=zzt (T:=T) ht;have c:=zec (T:=T) (Zbi t) (by simp[Zbi];omega) (fun x hx=>by
  obtain⟨n,hn,rfl⟩:=Yz.1 hx;have:=ht.v n hn;omega)
 rw[zod,hs]at c;have hwt:=zap t;have hl:=zbb t;have hw:IntKind.wrap .i64 ((t.length:Int)-1)=(t.length:Int)-1:=inRg _ (by omega) (by omega);have hr:List.replicate t.length [AV.i .i64 0]=Zi (List.replicate t.length 0):=by simp[Zi]
 have hwr:=zap (List.replicate t.length 0);rw[←ht.den];unfold Zim at L;simp only[Zdb]at L;rw[show (((0:Nat):Int))=0 from rfl,show (((1:Nat):Int))=1 from rfl,Int.sub_zero]at L;rw[zab Z9.h595 rfl,b595];generalize Zi t=Q at *
 generalize Zk0 t=D at *
 have hle:t.length≤4294967295:=by omega
 have hleI:(t.length:Int)≤4294967295:=by omega
 have hleI2:(t.length:Int)≤4294967296:=by omega
 simp -implicitDefEqProofs[c,hl,hw,hwt,hr,hwr,L,hle,hleI,hleI2]
end
def Zb7(a:List (List Fz))(N:List Fz):List Rat:=a.map fun r=>Zbs r N
theorem zla:∀(r N:List Fz),Zbs r (N.take r.length)=Zbs r N
 | [],N=>by simp[Zbs]
 | x::r,[]=>by simp[Zbs]
 | x::r,y::N=>by simp[Zbs,zla r N]
theorem zlb(r N:List Fz):Zc6 r (N.take r.length) r.length=Zbs r N:=by
 unfold Zc6;rw[Yb (Yg _),List.take_take,Nat.min_self,zla]
theorem zex{a b:List Fz}(hab:a.length=b.length){A B:Nat}(ha:∀x∈a,fsz x≤A)(hb:∀x∈b,fsz x≤B)(hA:1≤A)(hB:1≤B):∀i,i≤a.length→sz (Zc6 a b i)≤i*(A+B+1)+1
 | 0,_=>by
  have:Zc6 a b 0=0:=rfl;rw[this,zfo];omega
 | i+1,hi=>by
  have ih:=zex hab ha hb hA hB i (by omega);rw[zha hab hi];have h1:=zls (Zc6 a b i) (fv (a[i]'hi)*fv (b[i]'(by omega)));have h2:=zfw (fv (a[i]'hi)) (fv (b[i]'(by omega)));have h3:=zee (ha _ (Yp hi)) hA;have h4:=zee (hb _ (Yp (show i<b.length by omega))) hB
  grind
section
variable{T:Tbl}[Zy T][Zn T][Zs T][Zw T][Zq T][Zk T][Ze T][Zf T][Zr T][Z7 T]
def Zkd(out:List Fz)(q:Rat):Heap:=[(.loc 5,⟨1,.own,3,Zc out⟩),(.loc 8,⟨2,.str,3,[Zbk (fz q)]⟩)]
def Zke(N:List Fz)(a:List (List Fz))(i:Nat)(out:List Fz)(r:List Fz)(j:Nat):St:=
 ⟨[(1,.sl (Zc N) .an),(5,.bs (.loc 5) 1 3 0 out.length),(8,.ptr (.loc 8) 2 3 0 0),(12,.sl (Zp a) .an),(13,.i .i64 a.length),(14,.i .i64 i),(19,.sl (Zc r) .an),(20,.i .i64 r.length),(21,.i .i64 j)],
  Zkd out (Zc6 r (N.take r.length) j),4⟩
theorem zadn(N:List Fz)(a:List (List Fz))(i:Nat)(out r:List Fz)(hn:N.length≤8)(hrn:r.length≤N.length)(hr:∀x∈r,fsz x≤10)(hN:∀y∈N,fsz y≤3600) :
  Zv T 0 2 (.norm false [1,5,8,12,13,14]) l622_0 (Zke N a i out r 0) =
   some (.n,⟨[(1,.sl (Zc N) .an),(5,.bs (.loc 5) 1 3 0 out.length),(8,.ptr (.loc 8) 2 3 0 0),(12,.sl (Zp a) .an),(13,.i .i64 a.length),(14,.i .i64 i)],Zkd out (Zbs r N),4⟩):=by
 refine zau (Zke N a i out r) r.length _ (fun j hj=>?_) ?_
 ·have hab:r.length=(N.take r.length).length:=by simp;omega
  have hjN:j<N.length:=by omega
  have hjN':(j:Int)<N.length:=by omega
  have hjr':(j:Int)<r.length:=by omega
  have hws:=zb8 hj (by omega);have hb:∀y∈N.take r.length,fsz y≤3600:=fun y hy=>hN y (Y9 hy);have ha1:=hr _ (Yp hj);have hb1:=hN _ (Yp hjN);have c1:=zcz (T:=T) (r[j]'hj) (N[j]'hjN) (by omega) (by omega);have s1:=zex hab hr hb (by omega) (by omega) j (by omega);have s3:=zfw (fv (r[j]'hj)) (fv (N[j]'hjN));have s4:=zee ha1 (by omega);have s5:=zee hb1 (by omega);have c2:=zes (T:=T) (fz (Zc6 r (N.take r.length) j)) (fz (fv (r[j]'hj)*fv (N[j]'hjN))) (by rw[zav];omega) (by rw[zav];omega);have e:=zha hab hj;rw[List.getElem_take]at e;rw[zby,zby,←e]at c2;unfold Zke Zkd;generalize Zc6 r (N.take r.length) (j+1)=Q' at *
  generalize Zc6 r (N.take r.length) j=Q at *
  have e1:(Zc r)[j]? = some (Zbk (r[j]'hj)):=by simp[hj]
  simp -implicitDefEqProofs[l622_0,hj,hjr',hws,c1,c2,hjN,hjN']
 ·unfold Zke;rw[zlb];constructor<;>simp -implicitDefEqProofs[l622_0,Zkd]
def Zkf(N:List Fz)(a:List (List Fz))(i:Nat):St:=
 ⟨[(1,.sl (Zc N) .an),(5,.bs (.loc 5) 1 3 0 (fzs (Zb7 (a.take i) N)).length),(12,.sl (Zp a) .an),(13,.i .i64 a.length),(14,.i .i64 i)],[(.loc 5,⟨1,.own,3,Zc (fzs (Zb7 (a.take i) N))⟩)],3⟩
theorem z47(N:List Fz)(a:List (List Fz))(ha:a.length≤8)(hn:N.length≤8)(hr:∀r∈a,r.length≤N.length∧∀x∈r,fsz x≤10)(hN:∀y∈N,fsz y≤3600) :
  Zv T 0 0 (.norm false [5]) l622_1 (Zkf N a 0)=some (.n,⟨[(5,.bs (.loc 5) 1 3 0 a.length)],[(.loc 5,⟨1,.own,3,Zc (fzs (Zb7 a N))⟩)],3⟩):=by
 refine zau (Zkf N a) a.length _ (fun i hi=>?_) ?_
 ·have hiI:(i:Int)<a.length:=by omega
  have hws:=zb8 hi (by omega);have h0:=zco (T:=T);obtain⟨h1,h2⟩:=hr _ (Yp hi);have L:=zadn (T:=T) N a i (fzs (Zb7 (a.take i) N)) (a[i]'hi) hn h1 h2 hN;have hl:(fzs (Zb7 (a.take i) N)).length=i:=by simp[Zb7];omega
  have hl2:(fzs (Zb7 (a.take (i+1)) N)).length=i+1:=by simp[Zb7];omega
  have e:fzs (Zb7 (a.take (i+1)) N)=fzs (Zb7 (a.take i) N)++[fz (Zbs (a[i]'hi) N)]:=by
   rw[Yah hi];simp only[Zb7,fzs,Ycd,Yv,Yb9]
  unfold Zke Zkd at L;rw[show Zc6 (a[i]'hi) (N.take (a[i]'hi).length) 0=0 from rfl]at L;unfold Zkf;rw[hl2,e];rw[hl]at L ⊢;rw[show (((0:Nat):Int))=0 from rfl]at L;have e1:(Zp a)[i]? = some [.sl (Zc (a[i]'hi)) .an]:=by simp[hi]
  generalize fzs (Zb7 (a.take i) N)=O at *
  have hp:=zdl hl (fz (Zbs (a[i]'hi) N));have hc:i≤4294967295:=by omega
  have ht:O.take i=O:=Yb (by omega);rw[ht]at hp;simp -implicitDefEqProofs[l622_1,hi,hiI,hws,h0,L,e1,hl,hc,ht,hp]
 ·have e:a.take a.length=a:=Yb (by omega);have hl:(fzs (Zb7 a N)).length=a.length:=by simp[Zb7]
  unfold Zkf;rw[e,hl];constructor<;>simp -implicitDefEqProofs[l622_1]
theorem zmu(s:Sm)(N:List Fz)(ha:s.a.length≤8)(hn:N.length≤8)(hr:∀r∈s.a,r.length≤N.length∧∀x∈r,fsz x≤10)(hN:∀y∈N,fsz y≤3600) :
  Za T 622 [esm s,.sl (Zc N) .an]=some (.sl (Zc (fzs (Zb7 s.a N))) .an):=by
 have L:=z47 (T:=T) N s.a ha hn hr hN;have hl:(fzs (Zb7 s.a N)).length=s.a.length:=by simp[Zb7]
 unfold Zkf at L;simp only[Ybo]at L;rw[show fzs (Zb7 [] N)=[] from rfl,show (((0:Nat):Int))=0 from rfl]at L;have ht:(fzs (Zb7 s.a N)).take s.a.length=fzs (Zb7 s.a N):=Yb (by omega);obtain⟨nm,C,M,B,E⟩:=s;dsimp only at *
 rw[zab Z7.h622 rfl,b622];generalize fzs (Zb7 M N)=O at *
 simp only[Yak,zdz]at L;simp -implicitDefEqProofs[L,hl,ht]
end
section
variable{T:Tbl}{k:Nat}
theorem zs5{id:Nat}{g2:Gh}{c:AX}(E:Nat→Env)(n:Nat)(P:Nat→Heap→Nat→Prop)(E':Env)(P':Heap→Nat→Prop)
  (step:∀j h q,j<n→P j h q→∃h' q',P (j+1) h' q'∧evX (orc T) T k c ⟨E j,h,q⟩=some (.n,⟨E (j+1),h',q'⟩))
  (fin:∀h q,P n h q→Ze5 (evX (orc T) T k c ⟨E n,h,q⟩)=true∧∃h' q',P' h' q'∧Ze4 k id g2 (evX (orc T) T k c ⟨E n,h,q⟩)=some (.n,⟨E',h',q'⟩)) :
  ∀h q,P 0 h q→∃h' q',P' h' q'∧Zv T k id g2 c ⟨E 0,h,q⟩=some (.n,⟨E',h',q'⟩):=by
 intro h q hP;obtain⟨r,⟨h',q',hP',rfl⟩,hr⟩:=za0 (T:=T) (k:=k) (id:=id) (g2:=g2) (c:=c) (fun x:Nat×Heap×Nat=>⟨E x.1,x.2.1,x.2.2⟩)
  (fun x=>x.1≤n∧P x.1 x.2.1 x.2.2) (fun x=>n-x.1) (fun r=>∃h' q',P' h' q'∧r=(.n,⟨E',h',q'⟩)) (fun x hx=>by
   obtain⟨j,h,q⟩:=x;obtain⟨h1,h2⟩:=hx;by_cases hj:j<n
   ·obtain⟨h',q',h3,h4⟩:=step j h q hj h2;exact .inl ⟨(j+1,h',q'),⟨hj,h3⟩,by dsimp only;omega,h4⟩
   ·have:j=n:=by dsimp only at h1;omega
    subst this;obtain⟨h3,h',q',h4,h5⟩:=fin h q h2;exact .inr ⟨_,⟨h',q',h4,rfl⟩,h3,h5⟩) (0,h,q) ⟨Yu _,hP⟩
 exact⟨h',q',hP',hr⟩
end
abbrev Zg9(s:Sm):List AV:=[.s s.nm,.sl (Zc s.c) .an,.sl (Zp s.a) .an,.sl (Zc s.b) .an,.sl (Zc s.e) .an]
abbrev nlc:List AV:=[.b false,.sl [] .nl,.sl [] .nl]
structure BaWt (s:Sm) (c8:List AV) (h:Heap):Prop where
 b3:List.lookup (BId.loc 3) h=some ⟨1,.str,5,[Zg9 s]⟩
 b6:List.lookup (BId.loc 6) h=some ⟨2,.str,3,[nlc]⟩
 b8:List.lookup (BId.loc 8) h=some ⟨3,.str,3,[c8]⟩
def Zd2(n:Nat):List Fz:=List.replicate n (fz 1)
structure PrW0 (s:Sm) (c8:List AV) (n i:Nat) (h0:Heap) (els0:List (List AV)) (g:Nat) (els:List (List AV)) (j:Nat) (h:Heap):Prop where
 ba:BaWt s c8 h
 bn:List.lookup (BId.loc 37) h=some ⟨4,.str,1,els⟩
 ln:els.length=n
 ei:els[i]? = some [.bs (.fld (.loc 37) i) g 3 0 j]
 bi:List.lookup (BId.fld (.loc 37) i) h=some ⟨g,.own,3,Zc (Zd2 j)⟩
 fr:∀p,p≠i→els[p]? = els0[p]?∧List.lookup (BId.fld (.loc 37) p) h=List.lookup (BId.fld (.loc 37) p) h0
section
variable{T:Tbl}[Zy T][Zn T][Zs T][Zw T][Zq T][Zk T][Ze T][Zf T][Zr T][Z9 T][Z7 T]
def Ziz(w:List Fz)(Q:List (List AV))(n i m j:Nat):Env:=
 [(1,.sl (Zc w) .an),(2,.sl Q .an),(3,.ptr (.loc 3) 1 5 0 0),(6,.ptr (.loc 6) 2 3 0 0),(8,.ptr (.loc 8) 3 3 0 0),(9,.bs (.loc 37) 4 1 0 n),(10,.i .i64 i),(39,.i .i64 n),(40,.i .i64 i),(45,.i .i64 m),(46,.i .i64 j)]
def Zg2(w:List Fz)(Q:List (List AV))(n i:Nat):Env:=
 [(1,.sl (Zc w) .an),(2,.sl Q .an),(3,.ptr (.loc 3) 1 5 0 0),(6,.ptr (.loc 6) 2 3 0 0),(8,.ptr (.loc 8) 3 3 0 0),(9,.bs (.loc 37) 4 1 0 n),(39,.i .i64 n),(40,.i .i64 i)]
theorem zzu(s:Sm)(c8:List AV)(w:List Fz)(Q:List (List AV))(n i m:Nat)(h0:Heap)(els0:List (List AV))(hi:i<n)(hn:n≤8)(hm:m≤8)(j:Nat)(h:Heap)(q:Nat)(hj:j<m)
  (hP:∃g els,PrW0 s c8 n i h0 els0 g els j h):∃h' q',(∃g els,PrW0 s c8 n i h0 els0 g els (j+1) h')∧evX (orc T) T 0 l617_0 ⟨Ziz w Q n i m j,h,q⟩=some (.n,⟨Ziz w Q n i m (j+1),h',q'⟩):=by
 obtain⟨g,els,⟨⟨b3,b6,b8⟩,bn,ln,ei,bi,fr⟩⟩:=hP;have hiI:(i:Int)<n:=by omega
 have hjI:(j:Int)<m:=by omega
 have hws:=zb8 hj (by omega);have c1:=zf4 (T:=T);have hil:i<els.length:=by omega
 have ei':els[i]'hil=[.bs (.fld (.loc 37) i) g 3 0 j]:=by
  rw[Ya hil]at ei;exact Option.some.inj ei
 have ei2:els[i]? = some (els[i]'hil):=Ya hil;have hlo:(Zd2 j).length=j:=by simp[Zd2]
 have hlt:(Zd2 j).take j=Zd2 j:=Yb (by omega);have hc:j≤4294967295:=by omega
 unfold Ziz;have hlk:∀p,BId.fld (.loc 37) p≠.loc 37:=fun p=>by simp
 refine⟨(.loc 37,⟨4,.str,1,els.set i [.bs (.fld (.loc 37) i) q 3 0 (j+1)]⟩)::(.fld (.loc 37) i,⟨q,.own,3,Zc (Zd2 (j+1))⟩)::h,q+1,⟨q,els.set i [.bs (.fld (.loc 37) i) q 3 0 (j+1)],⟨⟨?_,?_,?_⟩,?_,?_,?_,?_,?_⟩⟩,?_⟩
 ·simpa using b3
 ·simpa using b6
 ·simpa using b8
 ·simp
 ·simpa using ln
 ·exact Yar hil
 ·simp
 ·intro p hp;rw[Ya6 (fun e=>hp e.symm)];refine⟨(fr p hp).1,?_⟩;rw[zam _ _ (hlk p),zam _ _ (by simpa using hp)];exact(fr p hp).2
 ·have e:Zc (Zd2 (j+1))=Zc (Zd2 j)++[Zbk (fz 1)]:=by
   rw[zhj];congr 1;simp[Zd2,List.replicate_succ']
  rw[e];simp -implicitDefEqProofs[l617_0,hjI,hj,hws,c1,hi,hiI,b3,b6,b8,bn,ln,ei',ei2,bi,hil,hlo,hlt,hc]
theorem zado(s:Sm)(c8:List AV)(w:List Fz)(Q:List (List AV))(hwQ:wkL Q=Q)(n i m:Nat)(h0:Heap)(els0:List (List AV))(hi:i<n)(hn:n≤8)(hm:m≤8)(h:Heap)(q:Nat)(hP:∃g els,PrW0 s c8 n i h0 els0 g els 0 h) :
  ∃h' q',(∃g els,PrW0 s c8 n i h0 els0 g els m h')∧Zv T 0 2 (.trm [1,2,3,6,8,9,39,40]) l617_0 ⟨Ziz w Q n i m 0,h,q⟩=some (.n,⟨Zg2 w Q n i,h',q'⟩):=by
 refine zs5 (Ziz w Q n i m) m (fun j h _=>∃g els,PrW0 s c8 n i h0 els0 g els j h) (Zg2 w Q n i) (fun h _=>∃g els,PrW0 s c8 n i h0 els0 g els m h) (fun j h q hj hP=>zzu s c8 w Q n i m h0 els0 hi hn hm j h q hj hP) (fun h q hP=>?_) h q hP;unfold Ziz Zg2;refine⟨?_,h,q,hP,?_⟩<;>simp -implicitDefEqProofs[l617_0]
structure PrW1 (s:Sm) (c8:List AV) (n m:Nat) (kd:Kind) (els:List (List AV)) (i:Nat) (h:Heap):Prop where
 ba:BaWt s c8 h
 bn:List.lookup (BId.loc 37) h=some ⟨4,kd,1,els⟩
 ks:kd≠.sh
 kt:0<i→kd=.str
 ln:els.length=n
 lo:∀p,p<i→∃g,els[p]? = some [.bs (.fld (.loc 37) p) g 3 0 m]∧List.lookup (BId.fld (.loc 37) p) h=some ⟨g,.own,3,Zc (Zd2 m)⟩
 hi:∀p,i≤p→p<n→els[p]? = some [.sl [] .nl]∧List.lookup (BId.fld (.loc 37) p) h=none
theorem zzv(s:Sm)(c8:List AV)(w:List Fz)(Q:List (List AV))(hwQ:wkL Q=Q)(n:Nat)(hn:n≤8)(hm:s.b.length≤8)(i:Nat)(h:Heap)(q:Nat)(hi:i<n)
  (hP:∃kd els,PrW1 s c8 n s.b.length kd els i h):∃h' q',(∃kd els,PrW1 s c8 n s.b.length kd els (i+1) h')∧evX (orc T) T 0 l617_1 ⟨Zg2 w Q n i,h,q⟩=some (.n,⟨Zg2 w Q n (i+1),h',q'⟩):=by
 obtain⟨kd,els,⟨⟨b3,b6,b8⟩,bn,ks,kt,ln,lo,hi'⟩⟩:=hP;have hiI:(i:Int)<n:=by omega
 have hws:=zb8 hi (by omega);have hil:i<els.length:=by omega
 obtain⟨ei,bi⟩:=hi' i (Yg _) hi;have ei':els[i]'hil=[.sl [] .nl]:=by
  rw[Ya hil]at ei;exact Option.some.inj ei
 have ei2:els[i]? = some (els[i]'hil):=Ya hil;have hlk:∀p,BId.fld (.loc 37) p≠.loc 37:=fun p=>by simp
 obtain⟨h',q',⟨g,els',⟨⟨b3',b6',b8'⟩,bn',ln',ei1,bi',fr⟩⟩,L⟩:=zado (T:=T) s c8 w Q hwQ n i s.b.length h els hi hn hm
  ((.loc 37,⟨4,.str,1,els.set i [.bs (.fld (.loc 37) i) q 3 0 0]⟩)::(.fld (.loc 37) i,⟨q,.own,3,[]⟩)::h) (q+1)
  ⟨q,els.set i [.bs (.fld (.loc 37) i) q 3 0 0],⟨⟨by simpa using b3,by simpa using b6,by simpa using b8⟩,by simp,by simpa using ln,Yar hil,by simp[Zd2],fun p hp=>⟨Ya6 (fun e=>hp e.symm),by
   rw[zam _ _ (hlk p),zam _ _ (by simpa using hp)]⟩⟩⟩
 refine⟨h',q',⟨.str,els',⟨⟨b3',b6',b8'⟩,bn',by decide,fun _=>rfl,ln',fun p hp=>?_,fun p h1 h2=>?_⟩⟩,?_⟩
 ·by_cases hpi:p=i
  ·subst hpi;exact⟨g,ei1,bi'⟩
  ·obtain⟨g',h1,h2⟩:=lo p (by omega);obtain⟨h3,h4⟩:=fr p hpi;exact⟨g',by rw[h3,h1],by rw[h4,h2]⟩
 ·obtain⟨h3,h4⟩:=fr p (by omega);obtain⟨h5,h6⟩:=hi' p (by omega) h2;exact⟨by rw[h3,h5],by rw[h4,h6]⟩
 ·unfold Ziz Zg2 at L;unfold Zg2;obtain⟨nm,C,M,B,E⟩:=s;dsimp only at *
  rw[show (((0:Nat):Int))=0 from rfl]at L;simp -implicitDefEqProofs[l617_1,hi,hiI,hws,b3,b6,b8,bn,ln,ei',ei2,bi,hil,ks,L]
theorem zadp(s:Sm)(c8:List AV)(w:List Fz)(Q:List (List AV))(hwQ:wkL Q=Q)(n:Nat)(hn:n≤8)(hm:s.b.length≤8)(h:Heap)(q:Nat)(hP:∃kd els,PrW1 s c8 n s.b.length kd els 0 h) :
  ∃h' q',(∃kd els,PrW1 s c8 n s.b.length kd els n h')∧Zv T 0 0 (.trm [1,2,3,6,8,9]) l617_1 ⟨Zg2 w Q n 0,h,q⟩=some (.n,⟨[(1,.sl (Zc w) .an),(2,.sl Q .an),(3,.ptr (.loc 3) 1 5 0 0),(6,.ptr (.loc 6) 2 3 0 0),(8,.ptr (.loc 8) 3 3 0 0),(9,.bs (.loc 37) 4 1 0 n)],h',q'⟩):=by
 refine zs5 (Zg2 w Q n) n (fun j h _=>∃kd els,PrW1 s c8 n s.b.length kd els j h) _ (fun h _=>∃kd els,PrW1 s c8 n s.b.length kd els n h) (fun j h q hj hP=>zzv s c8 w Q hwQ n hn hm j h q hj hP) (fun h q hP=>?_) h q hP;unfold Zg2;refine⟨?_,h,q,hP,?_⟩<;>simp -implicitDefEqProofs[l617_1]
end
def Zb8(u v:List Rat):List Rat:=List.zipWith (fun p q=>p*q) u v
def wtS(a:List (List Fz))(t:List Nat)(i:Nat)(N:List (List Rat)):List (List Rat):=
 N.set (Zes t i) (Zb8 (N[Zes t i]?.getD []) (Zb7 a (fzs (N[i]?.getD []))))
def wtJ(a:List (List Fz))(t:List Nat)(m:Nat):Nat→List (List Rat)
 | 0=>List.replicate t.length (List.replicate m 1)
 | j+1=>wtS a t (t.length-1-j) (wtJ a t m j)
def row0(N:List (List Rat)):List Rat:=N[0]?.getD []
def wtQ(a:List (List Fz))(t:List Nat)(m:Nat)(w:List Fz):Rat:=Zbs w (fzs (row0 (wtJ a t m (t.length-1))))
abbrev rwN(N:List (List Rat))(p:Nat):List Rat:=N[p]?.getD []
structure PrW2 (s:Sm) (c8:List AV) (n m:Nat) (els:List (List AV)) (N:List (List Rat)) (i:Nat) (h:Heap):Prop where
 ba:BaWt s c8 h
 bn:List.lookup (BId.loc 37) h=some ⟨4,.str,1,els⟩
 ln:els.length=n
 ro:∀p,p<n→∃g kd,els[p]? = some [.bs (.fld (.loc 37) p) g 3 0 m]∧List.lookup (BId.fld (.loc 37) p) h=some ⟨g,kd,3,Zc (fzs (rwN N p))⟩∧kd≠.str∧(p≤i→kd=.own)
structure PrW6 (s:Sm) (c8:List AV) (p g:Nat) (L u:List Rat) (h0:Heap) (k:Nat) (h:Heap):Prop where
 ba:BaWt s c8 h
 fr:∀b,b=.loc 37∨(∃p',p'≠p∧b=.fld (.loc 37) p')→List.lookup b h=List.lookup b h0
 bp:List.lookup (BId.fld (.loc 37) p) h=some ⟨g,.own,3,Zc (fzs (L.take k++u.drop k))⟩
section
variable{T:Tbl}[Zy T][Zn T][Zs T][Zw T][Zq T][Zk T][Ze T][Zf T][Zr T][Z9 T][Z7 T]
def Zkg(w:List Fz)(Q:List (List AV))(n i p g m:Nat)(x:List Rat)(k:Nat):Env:=
 [(1,.sl (Zc w) .an),(2,.sl Q .an),(3,.ptr (.loc 3) 1 5 0 0),(6,.ptr (.loc 6) 2 3 0 0),(8,.ptr (.loc 8) 3 3 0 0),(9,.bs (.loc 37) 4 1 0 n),(11,.i .i64 i),(12,.bs (.fld (.loc 37) p) g 3 0 m),(78,.sl (Zc (fzs x)) .an),(79,.i .i64 x.length),(80,.i .i64 k)]
def Zg3(w:List Fz)(Q:List (List AV))(n:Nat)(i:Nat):Env:=
 [(1,.sl (Zc w) .an),(2,.sl Q .an),(3,.ptr (.loc 3) 1 5 0 0),(6,.ptr (.loc 6) 2 3 0 0),(8,.ptr (.loc 8) 3 3 0 0),(9,.bs (.loc 37) 4 1 0 n),(11,.i .i64 i)]
theorem zadq(s:Sm)(c8:List AV)(w:List Fz)(Q:List (List AV))(hwQ:wkL Q=Q)(n i p g m:Nat)(x u:List Rat)(hx:x.length=m)(hu:u.length=m)(hm:m≤8)
  (sx:∀q∈x,sz q≤30000) (su:∀q∈u,sz q≤30000) (h0 h:Heap) (q:Nat) (hP:PrW6 s c8 p g (Zb8 u x) u h0 0 h) :
  ∃h' q',PrW6 s c8 p g (Zb8 u x) u h0 m h'∧Zv T 0 6 (.trm [1,2,3,6,8,9,11]) l617_2 ⟨Zkg w Q n i p g m x 0,h,q⟩=some (.n,⟨Zg3 w Q n i,h',q'⟩):=by
 refine zs5 (Zkg w Q n i p g m x) m (fun k h _=>PrW6 s c8 p g (Zb8 u x) u h0 k h) (Zg3 w Q n i) (fun h _=>PrW6 s c8 p g (Zb8 u x) u h0 m h) (fun k h q hk hP=>?_) (fun h q hP=>?_) h q hP
 ·obtain⟨⟨b3,b6,b8⟩,fr,bp⟩:=hP;have hkI:(k:Int)<m:=by omega
  have hws:=zb8 hk (by omega);have hlu:(Zb8 u x).length=u.length:=by simp[Zb8];omega
  have g1:=zth (L:=Zb8 u x) (acc:=u) hlu (i:=k) (by omega);have g2:=zoh (L:=Zb8 u x) (acc:=u) hlu (i:=k) (by omega);have hul:k<u.length:=by omega
  have hxl:k<x.length:=by omega
  have em:(Zb8 u x)[k]'(by omega)=u[k]'hul*x[k]'hxl:=by simp[Zb8]
  have hll:((Zb8 u x).take k++u.drop k).length=m:=by simp;omega
  have c1:=zcz (T:=T) (fz (u[k]'hul)) (fz (x[k]'hxl)) (by rw[zav];exact su _ (Yp _)) (by rw[zav];exact sx _ (Yp _));rw[zby,zby,←em]at c1;have f1:=zmy g1;have f2:(fzs x)[k]? = some (fz (x[k]'hxl)):=zmy (Ya hxl);have f3:=zti ((Zb8 u x).take k++u.drop k) k ((Zb8 u x)[k]'(by omega));rw[g2]at f3;have hlf:(fzs ((Zb8 u x).take k++u.drop k)).length=m:=by rw[zar,hll]
  have hlx:(fzs x).length=m:=by rw[zar,hx]
  refine⟨(.fld (.loc 37) p,⟨g,.own,3,Zc (fzs ((Zb8 u x).take (k+1)++u.drop (k+1)))⟩)::(.loc 14,⟨q,.str,3,[Zbk (fz (x[k]'hxl))]⟩)::(.loc 14,⟨q,.str,3,[nlc]⟩)::h,q+1,⟨⟨?_,?_,?_⟩,?_,?_⟩,?_⟩
  ·simpa using b3
  ·simpa using b6
  ·simpa using b8
  ·intro b hb;have h1:b≠.fld (.loc 37) p:=by
    rcases hb with rfl | ⟨p',hp,rfl⟩
    ·simp
    ·simpa using hp
   have h2:b≠.loc 14:=by
    rcases hb with rfl | ⟨p',hp,rfl⟩<;>simp
   rw[zam _ _ h1,zam _ _ h2,zam _ _ h2];exact fr b hb
  ·simp
  ·unfold Zkg;rw[hx,←f3,←zoo];have f1':(Zc (fzs ((Zb8 u x).take k++u.drop k)))[k]? = some (Zbk (fz (u[k]'hul))):=by rw[rowF_get?,f1];rfl
   have f2':(Zc (fzs x))[k]? = some (Zbk (fz (x[k]'hxl))):=by rw[rowF_get?,f2];rfl
   have hlf':(Zc (fzs ((Zb8 u x).take k++u.drop k))).length=m:=by rw[zb0,hlf]
   have hlx':(Zc (fzs x)).length=m:=by rw[zb0,hlx]
   generalize (Zb8 u x)[k]'(by omega)=z at *
   generalize Zc (fzs ((Zb8 u x).take k++u.drop k))=R at *
   have hwx:wkL (Zc (fzs x))=Zc (fzs x):=zdm _;generalize Zc (fzs x)=X at *
   generalize u[k]'hul=uk at *
   generalize x[k]'hxl=xk at *
   obtain⟨j0,a0⟩:=Ye.1 f1';obtain⟨j1,a1⟩:=Ye.1 f2';have q0:=Ya j0;have q1:=Ya j1;simp -implicitDefEqProofs[l617_2,hk,hkI,hws,c1,b3,b6,b8,bp,a0,a1,q0,q1,hlf',hlx',hwx,hwQ,j0]
 ·unfold Zkg Zg3;refine⟨?_,h,q,hP,?_⟩<;>simp -implicitDefEqProofs[l617_2,hx]
end
structure NOk (N:List (List Rat)) (n m:Nat):Prop where
 l:N.length=n
 r:∀p,p<n→(rwN N p).length=m∧∀q∈rwN N p,sz q≤3600
theorem zzw{a:List (List Fz)}{N:List Fz}(hn:N.length≤8)(hr:∀r∈a,r.length≤N.length∧∀x∈r,fsz x≤10)(hN:∀y∈N,fsz y≤3600):∀q∈Zb7 a N,sz q≤30000:=by
 intro q hq;obtain⟨r,h1,rfl⟩:=Yz.1 hq;obtain⟨h2,h3⟩:=hr r h1;have h:=zex (a:=r) (b:=N.take r.length) (by simp;omega) h3 (fun y hy=>hN y (Y9 hy)) (by omega) (by omega) r.length (Yg _);rw[zlb]at h;have:r.length*(10+3600+1)≤8*(10+3600+1):=Yr _ (by omega);omega
section
variable{T:Tbl}[Zy T][Zn T][Zs T][Zw T][Zq T][Zk T][Ze T][Zf T][Zr T][Z9 T][Z7 T]
theorem zzx(s:Sm)(c8:List AV)(w:List Fz)(t:List Nat)(ht:TrOk t)(m:Nat)(hm:m≤8)(ha:s.a.length=m)(hr:∀r∈s.a,r.length≤m∧∀x∈r,fsz x≤10)
  (N:List (List Rat)) (hN:NOk N t.length m) (els:List (List AV)) (i:Nat) (hi:i+1<t.length) (h:Heap) (q:Nat) (hP:PrW2 s c8 t.length m els N (i+1) h) :
  ∃h' q',PrW2 s c8 t.length m els (wtS s.a t (i+1) N) i h'∧evX (orc T) T 0 l617_3 ⟨Zg3 w (Zi t) t.length (i+1),h,q⟩=some (.n,⟨Zg3 w (Zi t) t.length i,h',q'⟩):=by
 obtain⟨⟨b3,b6,b8⟩,bn,ln,ro⟩:=hP;have l8:=ht.l8;obtain⟨p1,c1⟩:=zg7 (T:=T) ht (i:=i+1) (by omega) hi;unfold wtS;generalize Zes t (i+1)=p at *
 have hpl:p<t.length:=by omega
 have hpI:(p:Int)<t.length:=by omega
 have hiI:(i:Int)+1<t.length:=by omega
 obtain⟨gi,ki,ei,bi,nki,oki⟩:=ro (i+1) hi;obtain⟨gp,kp,ep,bp,nkp,okp⟩:=ro p hpl;have hki:=oki (Yg _);have hkp:=okp (by omega);subst hki hkp;obtain⟨ui,si⟩:=hN.r (i+1) hi;obtain⟨up,sp⟩:=hN.r p hpl;have hlN:(fzs (rwN N (i+1))).length=m:=by rw[zar,ui]
 have hNs:∀y∈fzs (rwN N (i+1)),fsz y≤3600:=by
  intro y hy;obtain⟨z,hz,rfl⟩:=Yz.1 hy;exact si z hz
 have hr':∀r∈s.a,r.length≤(fzs (rwN N (i+1))).length∧∀x∈r,fsz x≤10:=fun r hh=>by rw[hlN];exact hr r hh
 have c2:=zmu (T:=T) s (fzs (rwN N (i+1))) (by omega) (by omega) hr' hNs;have sx:=zzw (by omega) hr' hNs;have lx:(Zb7 s.a (fzs (rwN N (i+1)))).length=m:=by simp[Zb7,ha]
 rw[show (N[i+1]?.getD [])=rwN N (i+1) from rfl,show (N[p]?.getD [])=rwN N p from rfl];generalize Zb7 s.a (fzs (rwN N (i+1)))=x at *
 obtain⟨h2,hh2⟩:∃h2,Zj [BId.fld (.loc 37) (i+1)] h=h2:=⟨_,rfl⟩;have hlk:∀b,List.lookup b h2=(List.lookup b h).map fun bx=>if [BId.fld (.loc 37) (i+1)].contains b then { bx with kind:=.sh } else bx:=fun b=>by rw[←hh2];exact zch _ _ _
 have k3:List.lookup (BId.loc 3) h2=some ⟨1,.str,5,[Zg9 s]⟩:=by rw[hlk,b3];rfl
 have k6:List.lookup (BId.loc 6) h2=some ⟨2,.str,3,[nlc]⟩:=by rw[hlk,b6];rfl
 have k8:List.lookup (BId.loc 8) h2=some ⟨3,.str,3,[c8]⟩:=by rw[hlk,b8];rfl
 have kn:List.lookup (BId.loc 37) h2=some ⟨4,.str,1,els⟩:=by rw[hlk,bn];rfl
 have ki:List.lookup (BId.fld (.loc 37) (i+1)) h2=some ⟨gi,.sh,3,Zc (fzs (rwN N (i+1)))⟩:=by rw[hlk,bi];simp
 have kpp:List.lookup (BId.fld (.loc 37) p) h2=some ⟨gp,.own,3,Zc (fzs (rwN N p))⟩:=by
  rw[hlk,bp];have:¬ p=i+1:=by omega
  simp[this]
 obtain⟨h',q',⟨⟨b3',b6',b8'⟩,fr,bp'⟩,L⟩:=zadq (T:=T) s c8 w (Zi t) (zap t) t.length (i+1) p gp m x (rwN N p) lx up hm sx (fun z hz=>Yc (sp z hz) (by decide)) h2 h2 q
  ⟨⟨k3,k6,k8⟩,fun b _=>rfl,by simpa using kpp⟩
 have hLm:(Zb8 (rwN N p) x).length=m:=by simp[Zb8,up,lx]
 rw[Yb (by omega),Yas (by omega),Ybb]at bp';refine⟨h',q',⟨⟨b3',b6',b8'⟩,by rw[fr _ (.inl rfl),kn],ln,fun p' hp'=>?_⟩,?_⟩
 ·by_cases hpp:p'=p
  ·subst hpp;refine⟨gp,.own,ep,?_,by decide,fun _=>rfl⟩;rw[bp'];have:rwN (N.set p' (Zb8 (rwN N p') x)) p'=Zb8 (rwN N p') x:=by
    unfold rwN;rw[Yar (by rw[hN.l];exact hp')]
    rfl
   rw[this]
  ·obtain⟨g,kd,e1,e2,e3,e4⟩:=ro p' hp';have e5:rwN (N.set p (Zb8 (rwN N p) x)) p'=rwN N p':=by
    unfold rwN;rw[Ya6 (fun e=>hpp e.symm)]
   rw[e5,fr _ (.inr ⟨p',hpp,rfl⟩),hlk,e2];by_cases hpi:p'=i+1
   ·subst hpi;exact⟨g,.sh,e1,by simp,by decide,fun hh=>by omega⟩
   ·exact⟨g,kd,e1,by simp[hpi],e3,fun hh=>e4 (by omega)⟩
 ·have hil:i+1<els.length:=by omega
  have hpel:p<els.length:=by omega
  have ei':els[i+1]'hil=[.bs (.fld (.loc 37) (i+1)) gi 3 0 m]:=by
   rw[Ya hil]at ei;exact Option.some.inj ei
  have ei2:els[i+1]? = some (els[i+1]'hil):=Ya hil;have ep':els[p]'hpel=[.bs (.fld (.loc 37) p) gp 3 0 m]:=by
   rw[Ya hpel]at ep;exact Option.some.inj ep
  have ep2:els[p]? = some (els[p]'hpel):=Ya hpel;have hpos:(0:Int)<(i:Int)+1:=by omega
  have hw:IntKind.wrap .i64 (i:Int)=i:=zac _ (by omega);have hwQ:=zap t;have hlx:(Zc (fzs x)).length=m:=by rw[zb0,zar,lx]
  have hlNi:(Zc (fzs (rwN N (i+1)))).length=m:=by rw[zb0,hlN]
  have htk:List.take m (Zc (fzs (rwN N (i+1))))=Zc (fzs (rwN N (i+1))):=Yb (by omega);have hwN:wkL (Zc (fzs (rwN N (i+1))))=Zc (fzs (rwN N (i+1))):=zdm _;have hwx:wkL (Zc (fzs x))=Zc (fzs x):=zdm _;have s0:Zj [] h=h:=rfl;unfold Zkg Zg3 at L;unfold Zg3;rw[lx]at L;obtain⟨nm,C,M,B,E⟩:=s;dsimp only at *
  rw[show (((0:Nat):Int))=0 from rfl]at L;simp only[Ya3,Ya4]at L c1 ⊢;generalize Zi t=Q at *
  generalize Zc (fzs (rwN N (i+1)))=RI at *
  generalize Zc (fzs x)=X at *
  simp -implicitDefEqProofs[-Zj,s0,hh2,l617_3,c1,c2,hi,hiI,hpl,hpI,hpos,hw,hwQ,b3,b6,b8,bn,k3,k6,k8,kn,ki,bi,ln,ei',ei2,ep',ep2,hil,hpel,hlx,hlNi,htk,hwN,hwx,L,zvj Z7.h622]
end
theorem z48(k:Nat):k+1≤2^k:=by
 induction k with
 | zero=>decide
 | succ k ih=>rw[Nat.pow_succ];omega
theorem zoe(C B E:Nat)(hB:B+2≤C):∀(r N:List Fz) (k:Nat),(∀x∈r,sz (fv x)≤B)→(∀j y,N[j]? = some y→sz (fv y)≤1+C*2^(j+k)*E) →
  sz (Zbs r N)≤1+C*r.length+C*(2^(r.length+k)-2^k)*E
 | [],N,k,_,_=>by
  have:Zbs [] N=0:=rfl;rw[this,zfo];omega
 | x::r,[],k,_,_=>by
  have:Zbs (x::r) []=0:=rfl;rw[this,zfo];omega
 | x::r,y::N,k,h1,h2=>by
  have ih:=zoe C B E hB r N (k+1) (fun z hz=>h1 z (List.mem_cons_of_mem _ hz)) (fun j z hz=>by
   have:=h2 (j+1) z (by simpa using hz)
   rwa [show j+1+k=j+(k+1) by omega]at this)
  have h3:=h1 x (List.mem_cons_self ..);have h4:=h2 0 y rfl;have h5:=zls (fv x*fv y) (Zbs r N);have h6:=zfw (fv x) (fv y);have e:Zbs (x::r) (y::N)=fv x*fv y+Zbs r N:=rfl;rw[e,List.length_cons];rw[Nat.zero_add]at h4;have e2:r.length+(k+1)=r.length+1+k:=by omega
  rw[e2]at ih;have hp:2^(k+1)≤2^(r.length+1+k):=Nat.pow_le_pow_right (by decide) (by omega);have hq:2^(k+1)=2*2^k:=by rw[Nat.pow_succ];omega
  obtain⟨u,hu⟩:∃u,2^(r.length+1+k)=u+2^(k+1):=⟨2^(r.length+1+k)-2^(k+1),by omega⟩;have e3:2^(r.length+1+k)-2^(k+1)=u:=by omega
  have e4:2^(r.length+1+k)-2^k=u+2^k:=by omega
  rw[e3]at ih;rw[e4];have e5:C*(u+2^k)*E=C*u*E+C*2^k*E:=by rw[Nat.mul_add,Nat.add_mul]
  rw[e5,Nat.mul_add];omega
theorem zwj{u v:List Rat}{k:Nat}{q:Rat}(h:(Zb8 u v)[k]? = some q):∃a b,u[k]? = some a∧v[k]? = some b∧q=a*b:=by
 unfold Zb8 at h;rw[List.getElem?_zipWith]at h;cases hu:u[k]? with
 | none=>simp[hu]at h
 | some a=>
  cases hv:v[k]? with
  | none=>simp[hu,hv]at h
  | some b=>simp[hu,hv]at h;exact⟨a,b,rfl,rfl,h.symm⟩
theorem z49{a:List (List Fz)}{t:List Nat}(ht:TrOk t)(m:Nat)(ha:a.length=m)(hr:∀(k:Nat) (r:List Fz),a[k]? = some r→r.length=k∧∀x∈r,fsz x≤2) :
  ∀j,j<t.length→(wtJ a t m j).length=t.length∧∀p,p<t.length→(rwN (wtJ a t m j) p).length=m ∧
   ∀k q,(rwN (wtJ a t m j) p)[k]? = some q→sz q≤1+4*2^k*((Zdb t j).1[p]?.getD 0):=by
 intro j
 induction j with
 | zero=>
  intro _;refine⟨by simp[wtJ],fun p hp=>?_⟩;have e:rwN (wtJ a t m 0) p=List.replicate m 1:=by
   unfold rwN;rw[wtJ,List.getElem?_replicate,if_pos hp]
   rfl
  rw[e];refine⟨by simp,fun k q hq=>?_⟩;have:q=1:=List.eq_of_mem_replicate (List.mem_of_getElem? hq);subst this;rw[zij];omega
 | succ j ih=>
  intro hj;obtain⟨h1,h2⟩:=ih (by omega);obtain⟨d1,d2,d3⟩:=ht.dj j (by omega);have en:Zdb t (j+1)=Zkz t (t.length-1-j) (Zdb t j):=rfl;rw[en,wtJ];unfold wtS Zkz;obtain⟨i,hi⟩:∃i,i=t.length-1-j:=⟨_,rfl⟩;rw[←hi];have hil:i<t.length:=by omega
  have hi0:0<i:=by omega
  have hpo:=ht.p i hi0 hil;simp only[Zjc,Bool.and_eq_true,decide_eq_true_eq]at hpo;have p1:=hpo.1.1.2;dsimp only;rw[if_pos hi0];generalize Zes t i=p at *
  generalize wtJ a t m j=N at *
  generalize (Zdb t j).1=D at *
  rw[show (N[i]?.getD [])=rwN N i from rfl,show (N[p]?.getD [])=rwN N p from rfl];obtain⟨li,zi⟩:=h2 i hil;obtain⟨lp,zp⟩:=h2 p (by omega);obtain⟨y,hy⟩:∃y,D[i]? = some y:=⟨D[i]'(by omega),List.getElem?_eq_getElem _⟩;obtain⟨z,hz⟩:∃z,D[p]? = some z:=⟨D[p]'(by omega),List.getElem?_eq_getElem _⟩;rw[hy]at zi ⊢;rw[hz]at zp;simp only[Option.getD_some]at zi zp ⊢;have hz2:(D.set i (y+1))[p]? = some z:=by rw[List.getElem?_set_ne (by omega)];exact hz
  rw[hz2,Option.getD_some];refine⟨by simpa using h1,fun p' hp'=>?_⟩;by_cases hpp:p'=p
  ·subst hpp;have e1:rwN (N.set p' (Zb8 (rwN N p') (Zb7 a (fzs (rwN N i))))) p'=Zb8 (rwN N p') (Zb7 a (fzs (rwN N i))):=by
    unfold rwN;rw[List.getElem?_set_self (by omega)]
    rfl
   have e2:((D.set i (y+1)).set p' (z+(y+1)))[p']? = some (z+(y+1)):=List.getElem?_set_self (by simp;omega);rw[e1,e2,Option.getD_some];refine⟨by simp[Zb8,Zb7,lp,ha],fun k q hq=>?_⟩;obtain⟨u,v,hu,hv,rfl⟩:=zwj hq;have hu:=zp k u hu;have hm:=zfw u v;obtain⟨r,hr1,rfl⟩:∃r,a[k]? = some r∧Zbs r (fzs (rwN N i))=v:=by
    unfold Zb7 at hv;rw[List.getElem?_map]at hv;cases har:a[k]? with
    | none=>simp[har]at hv
    | some r=>simp[har]at hv;exact⟨r,rfl,hv⟩
   obtain⟨hr2,hr3⟩:=hr k r hr1;have hs:=zoe 4 2 y (by decide) r (fzs (rwN N i)) 0 (fun x hx=>zee (hr3 x hx) (by decide)) (fun l x hx=>by
    unfold fzs at hx;rw[List.getElem?_map]at hx;cases hl:(rwN N i)[l]? with
    | none=>simp[hl]at hx
    | some q=>simp[hl]at hx;rw[←hx,zby,Nat.add_zero];exact zi l q hl)
   rw[hr2,Nat.add_zero,Nat.pow_zero]at hs;have hk:=z48 k;obtain⟨w,hw⟩:∃w,2^k=w+1:=⟨2^k-1,by omega⟩;rw[hw,Nat.add_sub_cancel]at hs;rw[hw]at hu hk ⊢;have e3:4*(w+1)*(z+(y+1))=4*(w+1)*z+4*w*y+4*y+4*(w+1):=by
    rw[Nat.mul_add,Nat.mul_add (4*(w+1)) y 1,Nat.mul_add 4 w 1,Nat.add_mul (4*w) (4*1) y];omega
   rw[e3];generalize 4*(w+1)*z=U at *
   generalize 4*w*y=V at *
   omega
  ·have e1:rwN (N.set p (Zb8 (rwN N p) (Zb7 a (fzs (rwN N i))))) p'=rwN N p':=by
    unfold rwN;rw[List.getElem?_set_ne (fun e=>hpp e.symm)]
   rw[e1,List.getElem?_set_ne (fun e=>hpp e.symm)];obtain⟨lp',zp'⟩:=h2 p' hp';refine⟨lp',fun k q hq=>?_⟩;have h:=zp' k q hq;by_cases hpi:p'=i
   ·subst hpi;rw[List.getElem?_set_self (by omega),Option.getD_some];rw[hy,Option.getD_some]at h;have:4*2^k*y≤4*2^k*(y+1):=Nat.mul_le_mul_left _ (by omega);omega
   ·rw[List.getElem?_set_ne (fun e=>hpi e.symm)];exact h
theorem zs6{a:List (List Fz)}{t:List Nat}(ht:TrOk t)(m:Nat)(hm:m≤7)(ha:a.length=m)(hr:∀(k:Nat) (r:List Fz),a[k]? = some r→r.length=k∧∀x∈r,fsz x≤2)(j:Nat)(hj:j<t.length):NOk (wtJ a t m j) t.length m:=by
 obtain⟨h1,h2⟩:=z49 ht m ha hr j hj;obtain⟨d1,d2,d3⟩:=ht.dj j (by omega);refine⟨h1,fun p hp=>?_⟩;obtain⟨h3,h4⟩:=h2 p hp;refine⟨h3,fun q hq=>?_⟩;obtain⟨k,hk,rfl⟩:=List.getElem_of_mem hq;have h:=h4 k _ (List.getElem?_eq_getElem hk);have hd:(Zdb t j).1[p]?.getD 0≤8:=by
  rw[List.getElem?_eq_getElem (by omega),Option.getD_some];exact d1 _ (List.getElem_mem _)
 have h5:2^k≤2^6:=Nat.pow_le_pow_right (by decide) (by omega);have h6:4*2^k*((Zdb t j).1[p]?.getD 0)≤4*2^6*8:=Nat.mul_le_mul (by omega) hd;omega
end Go.Ab
namespace Go.Ab
structure PrW8 (n m:Nat) (w:List Fz) (r:List Rat) (k:Nat) (h:Heap):Prop where
 b6:List.lookup (BId.loc 6) h=some ⟨2,.str,3,[nlc]⟩
 b8:List.lookup (BId.loc 8) h=some ⟨3,.str,3,[Zbk (fz (Zc6 w (fzs r) k))]⟩
 ro:∃els g kd,List.lookup (BId.loc 37) h=some ⟨4,.str,1,els⟩∧els.length=n∧els[0]? = some [.bs (.fld (.loc 37) 0) g 3 0 m]∧List.lookup (BId.fld (.loc 37) 0) h=some ⟨g,kd,3,Zc (fzs r)⟩
section
variable{T:Tbl}[Zy T][Zn T][Zs T][Zw T][Zq T][Zk T][Ze T][Zf T][Zr T][Z9 T][Z7 T]
theorem zadr(s:Sm)(c8:List AV)(w:List Fz)(t:List Nat)(ht:TrOk t)(m:Nat)(hm:m≤7)(ha:s.a.length=m)(hr:∀(k:Nat) (r:List Fz),s.a[k]? = some r→r.length=k∧∀x∈r,fsz x≤2)
  (els:List (List AV)) (h:Heap) (q:Nat) (hP:PrW2 s c8 t.length m els (wtJ s.a t m 0) (t.length-1) h) :
  ∃h' q',PrW2 s c8 t.length m els (wtJ s.a t m (t.length-1)) 0 h'∧Zv T 0 4 (.trm [1,6,8,9]) l617_3 ⟨Zg3 w (Zi t) t.length (t.length-1),h,q⟩=some (.n,⟨[(1,.sl (Zc w) .an),(6,.ptr (.loc 6) 2 3 0 0),(8,.ptr (.loc 8) 3 3 0 0),(9,.bs (.loc 37) 4 1 0 t.length)],h',q'⟩):=by
 have l1:=ht.l1;have hwQ:=zap t;refine zs5 (fun j=>Zg3 w (Zi t) t.length (t.length-1-j)) (t.length-1) (fun j h _=>PrW2 s c8 t.length m els (wtJ s.a t m j) (t.length-1-j) h) _ (fun h _=>PrW2 s c8 t.length m els (wtJ s.a t m (t.length-1)) 0 h) (fun j h q hj hP=>?_) (fun h q hP=>?_) h q hP
 ·obtain⟨i,hi⟩:∃i,t.length-1-j=i+1:=⟨t.length-1-j-1,by omega⟩;have e:t.length-1-(j+1)=i:=by omega
  have hr2:∀r∈s.a,r.length≤m∧∀x∈r,fsz x≤10:=fun r hh=>by
   obtain⟨k,hk,rfl⟩:=List.getElem_of_mem hh;obtain⟨h1,h2⟩:=hr k _ (List.getElem?_eq_getElem hk);exact⟨by omega,fun x hx=>Nat.le_trans (h2 x hx) (by decide)⟩
  have st:=zzx (T:=T) s c8 w t ht m (by omega) ha hr2 (wtJ s.a t m j) (zs6 ht m hm ha hr j (by omega)) els i (by omega) h q (by rw[←hi];exact hP);rw[e,hi];rw[show wtJ s.a t m (j+1)=wtS s.a t (i+1) (wtJ s.a t m j) by rw[wtJ,hi]];exact st
 ·rw[Nat.sub_self]at hP ⊢;unfold Zg3;refine⟨?_,h,q,hP,?_⟩<;>simp -implicitDefEqProofs[l617_3]
def Zkh(w:List Fz)(n k:Nat):Env:=[(6,.ptr (.loc 6) 2 3 0 0),(8,.ptr (.loc 8) 3 3 0 0),(9,.bs (.loc 37) 4 1 0 n),(95,.sl (Zc w) .an),(96,.i .i64 w.length),(97,.i .i64 k)]
theorem zads(n m:Nat)(w:List Fz)(r:List Rat)(hn:1≤n)(hm:m≤7)(hw:w.length=m)(hrl:r.length=m)(ws:∀x∈w,fsz x≤10)(rs:∀q∈r,sz q≤3600)(h:Heap)(q:Nat)(hP:PrW8 n m w r 0 h) :
  ∃h' q',PrW8 n m w r m h'∧Zv T 0 8 (.trm [6,8]) l617_4 ⟨Zkh w n 0,h,q⟩=some (.n,⟨[(6,.ptr (.loc 6) 2 3 0 0),(8,.ptr (.loc 8) 3 3 0 0)],h',q'⟩):=by
 refine zs5 (Zkh w n) m (fun k h _=>PrW8 n m w r k h) _ (fun h _=>PrW8 n m w r m h) (fun k h q hk hP=>?_) (fun h q hP=>?_) h q hP
 ·obtain⟨b6,b8,els,g,kd,bn,ln,e0,b0⟩:=hP;have hkI:(k:Int)<m:=by omega
  have hws:=zb8 hk (by omega);have hkw:k<w.length:=by omega
  have hkr:k<r.length:=by omega
  have hkf:k<(fzs r).length:=by rw[zar];exact hkr
  have rsf:∀y∈fzs r,fsz y≤3600:=by
   intro y hy;obtain⟨z,hz,rfl⟩:=List.mem_map.1 hy;exact rs z hz
  have hab:w.length=(fzs r).length:=by rw[zar];omega
  have z1:=ws _ (List.getElem_mem hkw);have z2:=rsf _ (List.getElem_mem hkf);have c1:=zcz (T:=T) (w[k]'hkw) ((fzs r)[k]'hkf) (by omega) (by omega);have s1:=zex hab ws rsf (by omega) (by omega) k (by omega);have s3:=zfw (fv (w[k]'hkw)) (fv ((fzs r)[k]'hkf));have s4:=zee z1 (by omega);have s5:=zee z2 (by omega);have c2:=zes (T:=T) (fz (Zc6 w (fzs r) k)) (fz (fv (w[k]'hkw)*fv ((fzs r)[k]'hkf))) (by rw[zav];omega) (by rw[zav];omega);rw[zby,zby,←zha hab hkw]at c2;have f1:(Zc w)[k]? = some (Zbk (w[k]'hkw)):=by rw[rowF_get?,List.getElem?_eq_getElem hkw];rfl
  have f2:(Zc (fzs r))[k]? = some (Zbk ((fzs r)[k]'hkf)):=by rw[rowF_get?,List.getElem?_eq_getElem hkf];rfl
  have hlw:(Zc w).length=m:=by rw[zb0,hw]
  have hlr:(Zc (fzs r)).length=m:=by rw[zb0,zar,hrl]
  have hwk:=zdm w;have h0l:0<els.length:=by omega
  have e0':els[0]'h0l=[.bs (.fld (.loc 37) 0) g 3 0 m]:=by
   rw[List.getElem?_eq_getElem h0l]at e0;exact Option.some.inj e0
  have e02:els[0]? = some (els[0]'h0l):=List.getElem?_eq_getElem h0l;have hnI:(0:Int)<n:=by omega
  have hn0:0<n:=hn;refine⟨(.loc 8,⟨3,.str,3,[Zbk (fz (Zc6 w (fzs r) (k+1)))]⟩)::(.loc 16,⟨q,.str,3,[Zbk (w[k]'hkw)]⟩)::(.loc 16,⟨q,.str,3,[nlc]⟩)::h,q+1,⟨?_,?_,els,g,kd,?_,ln,e0,?_⟩,?_⟩
  ·simpa using b6
  ·simp
  ·simpa using bn
  ·simpa using b0
  ·unfold Zkh;rw[hw];generalize Zc6 w (fzs r) (k+1)=Q' at *
   generalize Zc6 w (fzs r) k=Q at *
   generalize (fzs r)[k]'hkf=rk at *
   generalize Zc (fzs r)=R at *
   generalize Zc w=W at *
   generalize w[k]'hkw=wk at *
   obtain⟨j0,a0⟩:=List.getElem?_eq_some_iff.1 f1;obtain⟨j1,a1⟩:=List.getElem?_eq_some_iff.1 f2;have q0:=List.getElem?_eq_getElem j0;have q1:=List.getElem?_eq_getElem j1;simp -implicitDefEqProofs[l617_4,hk,hkI,hws,c1,c2,b6,b8,bn,b0,a0,a1,q0,q1,hlw,hlr,hwk,h0l,e0',e02,hnI,hn0,j0,j1]
 ·unfold Zkh;refine⟨?_,h,q,hP,?_⟩<;>simp -implicitDefEqProofs[l617_4,hw]
end
section
variable{T:Tbl}[Zy T][Zn T][Zs T][Zw T][Zq T][Zk T][Ze T][Zf T][Zr T][Zaa T][Zae T][Zbj T][Zbq T][Zay T][Zb1 T][Zdg T][Zdf T][Zab T][Zbe T][Z1 T][Z9 T][Z7 T]
theorem zfs(s:Sm)(hs:SmS s)(w:List Fz)(t:List Nat)(ht:TrOk t)(hst:Zbh (Zbi t)=true)(hm:s.b.length≤7)(hok:okS s=true)(hw:w.length=s.b.length)
  (ha:s.a.length=s.b.length) (hr:∀(k:Nat) (r:List Fz),s.a[k]? = some r→r.length=k∧∀x∈r,fsz x≤2) (ws:∀x∈w,fsz x≤10) :
  Za T 617 [esm s,.sl (Zc w) .an,.sl (Zi t) .an]=some (.tup [efz (fz (wtQ s.a t s.b.length w)),.b true]):=by
 have l1:=ht.l1;have l8:=ht.l8;have h0:=zco (T:=T);have c1:=zfv (T:=T) s hs;rw[hok]at c1;have c2:=zec (T:=T) (Zbi t) (by simp[Zbi];omega) (fun x hx=>by
  obtain⟨n,hn,rfl⟩:=List.mem_map.1 hx;have:=ht.v n hn;omega)
 rw[zod,hst]at c2;have hQ:=zbb t;have hwQ:=zap t;have hle:t.length≤4294967295:=by omega
 have hleI:(t.length:Int)≤4294967295:=by omega
 have hleI2:(t.length:Int)≤4294967296:=by omega
 have hw1:IntKind.wrap .i64 ((t.length:Int)-1)=((t.length-1:Nat):Int):=by
  rw[inRg _ (by omega) (by omega)];omega
 obtain⟨els0,he0⟩:∃els0,els0=List.replicate t.length [AV.sl [] Fl.nl]:=⟨_,rfl⟩;have hle0:els0.length=t.length:=by rw[he0,List.length_replicate]
 obtain⟨h1,q1,⟨kd,els,⟨ba,bn,ks,kt,ln,lo,hi⟩⟩,L1⟩:=zadp (T:=T) s (Zbk (fz 0)) w (Zi t) hwQ t.length l8 (by omega)
  [(.loc 37,⟨4,.own,1,els0⟩),(.loc 8,⟨3,.str,3,[Zbk (fz 0)]⟩),(.loc 8,⟨3,.str,3,[nlc]⟩),(.loc 6,⟨2,.str,3,[nlc]⟩),(.loc 3,⟨1,.str,5,[Zg9 s]⟩)] 5
  ⟨.own,els0,⟨⟨by simp,by simp,by simp⟩,by simp,by decide,fun hh=>absurd hh (Nat.lt_irrefl 0),hle0,fun p hp=>by omega,fun p _ hp=>⟨by rw[he0,List.getElem?_replicate,if_pos hp],by simp⟩⟩⟩
 have hones:∀p,p<t.length→rwN (wtJ s.a t s.b.length 0) p=List.replicate s.b.length 1:=fun p hp=>by
  unfold rwN;rw[wtJ,List.getElem?_replicate,if_pos hp]
  rfl
 have hkd:kd=.str:=kt (by omega);subst hkd;obtain⟨h2,q2,⟨ba2,bn2,ln2,ro2⟩,L2⟩:=zadr (T:=T) s (Zbk (fz 0)) w t ht s.b.length hm ha hr els h1 q1 ⟨ba,bn,ln,fun p hp=>by
  obtain⟨g,e1,e2⟩:=lo p hp;refine⟨g,.own,e1,?_,by decide,fun _=>rfl⟩;rw[e2,hones p hp];simp[Zd2,fzs]⟩
 obtain⟨g,kd,e1,e2,_⟩:=ro2 0 (by omega);have hN:=zs6 ht s.b.length hm ha hr (t.length-1) (by omega);obtain⟨r1,r2⟩:=hN.r 0 (by omega);obtain⟨h3,q3,⟨b6,b8,_⟩,L3⟩:=zads (T:=T) t.length s.b.length w (rwN (wtJ s.a t s.b.length (t.length-1)) 0) l1 hm hw r1 ws r2 h2 q2 ⟨ba2.b6,ba2.b8,els,g,kd,bn2,ln2,e1,e2⟩;have hdot:Zc6 w (fzs (rwN (wtJ s.a t s.b.length (t.length-1)) 0)) s.b.length=wtQ s.a t s.b.length w:=by
  unfold Zc6 wtQ;rw[List.take_of_length_le (by omega),List.take_of_length_le (by rw[zar];omega)]
  rfl
 rw[hdot]at b8;generalize wtQ s.a t s.b.length w=V at *
 rw[zab Z7.h617 rfl,b617];unfold Zg2 at L1;unfold Zg3 at L2;unfold Zkh at L3;rw[show (((0:Nat):Int))=0 from rfl]at L1 L3;clear ro2 lo hi hones hN r1 r2 hdot;obtain⟨nm,C,M,B,E⟩:=s;dsimp only at *
 rw[hw]at L3;generalize Zi t=Q at *
 simp -implicitDefEqProofs[h0,c1,c2,hw,hQ,hwQ,hle,hleI,hleI2,hw1,←he0,L1,L2,L3,b6,b8]
end
def prodL:List Rat→Rat
 | []=>1
 | x::l=>x*prodL l
def dotG:List Fz→(Nat→Rat)→Rat
 | [],_=>0
 | x::r,g=>fv x*g 0+dotG r fun j=>g (j+1)
def numT(a:List (List Fz))(t:List Nat):Nat→Nat→Nat→Rat
 | 0,_,_=>1
 | f+1,i,k=>prodL ((Zlg t i).map fun c=>dotG (a[k]?.getD []) fun j=>numT a t f c j)
def gvN(a:List (List Fz))(t:List Nat)(m c:Nat):List Rat:=rwN (wtJ a t m (t.length-1-c)) c
def kidF(t:List Nat)(p q:Nat):List Nat:=(Zmb t p).filter fun c=>decide (q≤c)
def dcN(t:List Nat)(c:Nat):Nat:=(Zdb t (t.length-1-c)).1[c]?.getD 0
def Zmd(t:List Nat):List Nat→Nat
 | []=>0
 | c::l=>dcN t c+1+Zmd t l
def Zsw(t:List Nat):Bool:=(List.range t.length).all fun i=>decide (Zmd t (Zlg t i)≤7)
theorem zlu:∀{a b:List Nat},Zbi a=Zbi b→a=b
 | [],[],_=>rfl
 | [],_::_,h=>by simp[Zbi]at h
 | _::_,[],h=>by simp[Zbi]at h
 | x::a,y::b,h=>by
  simp only[Zbi,Yv,List.cons.injEq]at h;rw[zlu (show Zbi a=Zbi b from h.2),show x=y by omega]
structure AOk (a:List (List Fz)) (m:Nat):Prop where
 l:a.length=m
 m4:m≤4
 r:∀(k:Nat) (r:List Fz),a[k]? = some r→r.length=k∧∀x∈r,fsz x≤2∧Zct x=true
theorem AOk.r'{a:List (List Fz)}{m:Nat}(h:AOk a m):∀(k:Nat) (r:List Fz),a[k]? = some r→r.length=k∧∀x∈r,fsz x≤2:=fun k r hk=>⟨(h.r k r hk).1,fun x hx=>((h.r k r hk).2 x hx).1⟩
def Znl(g:Nat→Rat):Rat→List Nat→Rat
 | q,[]=>q
 | q,c::l=>Znl g (q*g c) l
def Zdh(l:List Nat)(p r:Nat):Nat→List Nat
 | 0=>l
 | k+1=>(Zdh l p r k).set (p+k) ((Zdh l p r k).getD (k+r) 0)
theorem zev(l:List Nat)(p r:Nat):∀k,(Zdh l p r k).length=l.length
 | 0=>rfl
 | k+1=>by rw[Zdh,Ydx];exact zev l p r k
theorem zs4(l:List Nat)(i x:Nat):(Zi l).set i [.i .i64 x]=Zi (l.set i x):=by
 unfold Zi;rw[Ycc]
theorem zzp{f:St→Option (Ex×St)}{l:Nat}(F:Nat→St)(R:Ex×St)(hR:∀j,R.1≠.g j)(m:Nat)(hs:∀j,j<m→f (F j)=some (.g l,F (j+1)))(he:f (F m)=some R) :
  ∀n,m+1<n→Zft f l n (some (.g l,F 0))=some R:=by
 have key:∀k j,j+k=m→∀n,k+1<n→Zft f l n (some (.g l,F j))=some R:=by
  intro k
  induction k with
  | zero=>
   intro j hj n hn;obtain⟨n,rfl⟩:∃n',n=n'+2:=⟨n-2,by omega⟩;have:j=m:=by omega
   subst this;have e1:Zft f l (n+2) (some (.g l,F j))=Zft f l (n+1) (f (F j)):=by simp[Zft]
   rw[e1,he];obtain⟨e,s⟩:=R;cases e with
   | g j=>exact absurd rfl (hR j)
   | n=>rfl
   | x i=>rfl
   | r=>rfl
  | succ k ih=>
   intro j hj n hn;obtain⟨n,rfl⟩:∃n',n=n'+1:=⟨n-1,by omega⟩;simp only[Zft,Y4,if_true];rw[hs j (by omega)];exact ih (j+1) (by omega) n (by omega)
 exact fun n hn=>key m 0 (by omega) n hn
section
variable{T:Tbl}[Z9 T]
def Zfj(out:List (List Nat))(now:List Nat):Heap:=[(.loc 3,⟨1,.own,1,Zac out⟩),(.loc 4,⟨2,.own,1,Zi now⟩)]
def Zii(n:Nat)(out:List (List Nat))(now:List Nat)(p:Int):St:=⟨[(0,.i .i64 n),(3,.bs (.loc 3) 1 1 0 out.length),(4,.bs (.loc 4) 2 1 0 now.length),(6,.i .i64 p)],Zfj out now,4⟩
theorem zk8(n:Nat)(out:List (List Nat))(now:List Nat)(hl:now.length≤1000)(p0 p:Nat)(hp0:p0<now.length)(hp:p≤p0)
  (h1:∀k,p<k→k≤p0→∃x,now[k]? = some x∧x<2) (h2:p=0∨∃x,now[p]? = some x∧2≤x) :
  Zv T 0 2 (.norm false [0,3,4,6]) l589_1 (Zii n out now p0)=some (.n,Zii n out now p):=by
 have hw1:=zbr out;have hw2:=zap now;have hl2:=zbb now;have r:=zau (T:=T) (k:=0) (id:=2) (g2:=.norm false [0,3,4,6]) (c:=l589_1) (fun j=>Zii n out now ((p0-j:Nat):Int)) (p0-p) (some (.n,Zii n out now p)) (fun j hj=>?_) ?_
 ·simpa using r
 ·obtain⟨k',hk'⟩:∃k',p0-j=k'+1:=⟨p0-j-1,by omega⟩;have hk'':p0-(j+1)=k':=by omega
  obtain⟨x,hx,hx2⟩:=h1 (k'+1) (by omega) (by omega);have ix:=zbh hx;have hx2':(x:Int)<2:=by omega
  have hkl:k'+1<now.length:=by omega
  have hkI:(k':Int)+1<now.length:=by omega
  have hk0:(0:Int)<(k':Int)+1:=by omega
  have hw:IntKind.wrap .i64 (k':Int)=(k':Int):=zac _ (by omega);rw[hk',hk''];unfold Zii Zfj;clear h1 h2 hx;generalize Zac out=R1 at *
  generalize Zi now=R at *
  obtain⟨j1,ix⟩:=Ye.1 ix;have g1:R[k'+1]? = some (R[k'+1]'j1):=Ya j1;simp -implicitDefEqProofs[l589_1,hkl,hkI,hk0,g1,ix,hx2',hx2,hw,hw1,hw2,hl2,j1]
 ·have e:p0-(p0-p)=p:=by omega
  rw[e];unfold Zii Zfj;clear h1;by_cases hz:p=0
  ·subst hz;clear h2;generalize Zac out=R1 at *
   generalize Zi now=R at *
   constructor<;>simp -implicitDefEqProofs[l589_1,hw1,hw2]
  ·obtain⟨x,hx,hx2⟩:=h2.resolve_left hz;have ix:=zbh hx;have hx2':¬ (x:Int)<2:=by omega
   have hx3:¬ x<2:=by omega
   have hkl:p<now.length:=by omega
   have hkI:(p:Int)<now.length:=by omega
   have hk0:(0:Int)<(p:Int):=by omega
   have hk1:0<p:=by omega
   clear h2 hx;generalize Zac out=R1 at *
   generalize Zi now=R at *
   obtain⟨j1,ix⟩:=Ye.1 ix;have g1:R[p]? = some (R[p]'j1):=Ya j1;constructor<;>simp -implicitDefEqProofs[l589_1,hkl,hkI,hk0,hk1,g1,ix,hx2',hx3,hw1,hw2,hl2,j1]
def Zij(n:Nat)(out:List (List Nat))(now:List Nat)(p r k:Nat):St:=⟨[(0,.i .i64 n),(3,.bs (.loc 3) 1 1 0 out.length),(4,.bs (.loc 4) 2 1 0 now.length),(6,.i .i64 p),(7,.i .i64 r),(8,.i .i64 (p+k:Nat))],Zfj out (Zdh now p r k),4⟩
theorem zwi(n:Nat)(out:List (List Nat))(now:List Nat)(hn:now.length=n)(hl:n≤1000)(p r:Nat)(hp:p≤n)(hr:r<p) :
  Zv T 0 4 (.norm false [0,3,4]) l589_2 (Zij n out now p r 0)=some (.n,⟨[(0,.i .i64 n),(3,.bs (.loc 3) 1 1 0 out.length),(4,.bs (.loc 4) 2 1 0 now.length)],Zfj out (Zdh now p r (n-p)),4⟩):=by
 have hw1:=zbr out;refine zau (Zij n out now p r) (n-p) _ (fun k hk=>?_) ?_
 ·have hw2:=zap (Zdh now p r (k+1));have hl2:=zbb (Zdh now p r k);rw[zev,hn]at hl2;have hpk:((p+k:Nat):Int)<n:=by omega
  have hws:IntKind.wrap .i64 ((p:Int)+k+1)=(p:Int)+(k+1):=by rw[zac _ (by omega)];omega
  have s1:IntKind.wrap .i64 ((p:Int)+k-p)=(k:Int):=by rw[zac _ (by omega)];omega
  have s2:IntKind.wrap .i64 ((k:Int)+r)=(k:Int)+r:=zac _ (by omega);have hkr:k+r<n:=by omega
  obtain⟨x,hx⟩:∃x,(Zdh now p r k)[k+r]? = some x:=⟨_,Ya (by rw[zev,hn];exact hkr)⟩;have hD:(Zdh now p r k).getD (k+r) 0=x:=by simp[List.getD,hx]
  have ix:=zbh hx;obtain⟨y,hy⟩:∃y,(Zdh now p r k)[p+k]? = some y:=⟨_,Ya (by rw[zev,hn];omega)⟩;have g2:=zbh hy;have hset:Zi (Zdh now p r (k+1))=(Zi (Zdh now p r k)).set (p+k) [.i .i64 x]:=by
   rw[Zdh,hD,zs4]
  unfold Zij Zfj;rw[hset]at hw2 ⊢;have q1:k+r<(Zi (Zdh now p r k)).length:=by omega
  have q2:p+k<(Zi (Zdh now p r k)).length:=by omega
  have q3:(k:Int)+r<now.length:=by omega
  have q4:(p:Int)+k<now.length:=by omega
  have q5:(p:Int)+k<n:=by omega
  have q6:k+r<now.length:=by omega
  have q7:p+k<now.length:=by omega
  clear hset hx hD;generalize Zac out=R1 at *
  generalize Zi (Zdh now p r k)=R at *
  obtain⟨j1,ix⟩:=Ye.1 ix;have g1:R[k+r]? = some (R[k+r]'j1):=Ya j1;obtain⟨j2,g2⟩:=Ye.1 g2;have g3:R[p+k]? = some (R[p+k]'j2):=Ya j2;simp -implicitDefEqProofs[l589_2,g1,g2,g3,ix,hws,s1,s2,q1,q2,q3,q4,q5,q6,q7,hw1,hw2,hl2]
 ·have hw2:=zap (Zdh now p r (n-p));have e:p+(n-p)=n:=by omega
  unfold Zij Zfj;rw[e];generalize Zac out=R1 at *
  generalize Zi (Zdh now p r (n-p))=R at *
  constructor<;>simp -implicitDefEqProofs[l589_2,hw1,hw2]
end
structure Nx (n:Nat) (now now':List Nat) (p r a:Nat):Prop where
 ln:now.length=n
 p1:1≤p
 pl:p<n
 h1:∀k,k<n→p<k→now.getD k 9<2
 h2:2≤now.getD p 0
 ha:now[p]? = some (a+1)
 hr:r<p
 h0:now[r]? = some a
 hk:∀k,k<p→r<k→now[k]?≠some a
 hb:∀x∈now,x≤1000
 re:Zdh now p r (n-p)=now'
section
variable{T:Tbl}[Z9 T]
def Ziy(n:Nat)(out:List (List Nat))(now:List Nat):St:=⟨[(0,.i .i64 n),(3,.bs (.loc 3) 1 1 0 out.length),(4,.bs (.loc 4) 2 1 0 now.length)],Zfj out now,4⟩
theorem z43{n:Nat}{now now':List Nat}{p r a:Nat}(H:Nx n now now' p r a)(out:List (List Nat))(hn:n≤1000)(ho:out.length≤1000) :
  evX (orc T) T 0 Zcm (Ziy n out now)=some (.g 0,Ziy n (out++[now]) now'):=by
 have ln:=H.ln;have pl:=H.pl;have p1:=H.p1;have F:=zk8 (T:=T) n (out++[now]) now (by omega) (n-1) p (by omega) (by omega) (fun k h1 h2=>by
  have q:=H.h1 k (by omega) h1;have hk:k<now.length:=by omega
  refine⟨now[k]'hk,Ya hk,?_⟩
  rwa [Ya7,Ya hk]at q) (.inr (by
  have q:=H.h2;have hk:p<now.length:=by omega
  refine⟨now[p]'hk,Ya hk,?_⟩
  rwa [Ya7,Ya hk]at q))
 have c1:=zia (T:=T) now p r a (by omega) H.hr (by omega) H.ha H.h0 (fun k h1 h2=>H.hk k h2 h1) H.hb;have R:=zwi (T:=T) n (out++[now]) now ln hn p r (by omega) H.hr;have re:=H.re;rw[re]at R;have ln':now'.length=n:=by rw[←re,zev];exact ln
 have hw1:=zbr (out++[now]);have hw2:=zap now;have hw3:=zap now';have hl1:=zdk out;have hw0:=zbr out;have hcap2:n≤4294967296:=by omega
 have hl2:=zbb now;rw[ln]at hl2;have hout:(out++[now]).length=out.length+1:=by simp
 unfold Zii Zfj at F;unfold Zij Zfj at R;unfold Ziy Zfj;have ez:Zdh now p r 0=now:=rfl;rw[ez]at R;rw[hout,←zdx]at F R ⊢;rw[←zdx]at hw1;rw[ln]at F R ⊢;rw[ln']at *
 have hcap:out.length≤4294967295:=by omega
 have hsub:IntKind.wrap .i64 ((n:Int)-1)=((n-1:Nat):Int):=by rw[zac _ (by omega)];omega
 have hp1:¬ (p:Int)<1:=by omega
 have hp2:¬ p<1:=by omega
 have ht:List.take out.length (Zac out)=Zac out:=Yb (by omega);have ht2:List.take n (Zi now)=Zi now:=Yb (by omega);simp only[Y1]at R;clear H re ez;generalize Zac out=R1 at *
 generalize Zi now=R2 at *
 generalize Zi now'=R3 at *
 simp -implicitDefEqProofs[Zcm,F,c1,R,hw0,hcap2,hw1,hw2,hw3,hl1,hl2,hcap,hsub,hp1,hp2,ht,ht2]
theorem z44{n:Nat}{now:List Nat}(ln:now.length=n)(h1:∀k,k<n→0<k→now.getD k 9<2)(out:List (List Nat))(hn:n≤1000)(hn0:1≤n)(ho:out.length≤1000) :
  evX (orc T) T 0 Zcm (Ziy n out now)=some (.r,⟨[(2,.bs (.loc 3) 1 1 0 (out.length+1))],[(.loc 3,⟨1,.own,1,Zac (out++[now])⟩)],3⟩):=by
 have F:=zk8 (T:=T) n (out++[now]) now (by omega) (n-1) 0 (by omega) (by omega) (fun k h2 h3=>by
  have q:=h1 k (by omega) h2;have hk:k<now.length:=by omega
  refine⟨now[k]'hk,Ya hk,?_⟩
  rwa [Ya7,Ya hk]at q) (.inl rfl)
 have hw1:=zbr (out++[now]);have hw2:=zap now;have hl1:=zdk out;have hw0:=zbr out;have hcap2:n≤4294967296:=by omega
 have hl2:=zbb now;rw[ln]at hl2;have hout:(out++[now]).length=out.length+1:=by simp
 unfold Zii Zfj at F;unfold Ziy Zfj;rw[hout,←zdx]at F;rw[←zdx]at hw1 ⊢;rw[ln]at F ⊢;have hcap:out.length≤4294967295:=by omega
 have hsub:IntKind.wrap .i64 ((n:Int)-1)=((n-1:Nat):Int):=by rw[zac _ (by omega)];omega
 have ht:List.take out.length (Zac out)=Zac out:=Yb (by omega);have ht2:List.take n (Zi now)=Zi now:=Yb (by omega);simp only[Y3]at F;clear h1;generalize Zac out=R1 at *
 generalize Zi now=R2 at *
 simp -implicitDefEqProofs[Zcm,F,hw0,hcap2,hw1,hw2,hl1,hl2,hcap,hsub,ht,ht2]
end
def trs:Nat→List (List Nat)
 | 1=>[[0]]
 | 2=>[[0,1]]
 | 3=>[[0,1,2],[0,1,1]]
 | 4=>[[0,1,2,3],[0,1,2,2],[0,1,2,1],[0,1,1,1]]
 | 5=>[[0,1,2,3,4],[0,1,2,3,3],[0,1,2,3,2],[0,1,2,3,1],[0,1,2,2,2],[0,1,2,2,1],[0,1,2,1,2],[0,1,2,1,1],[0,1,1,1,1]]
 | _=>[]
def trD:Nat→List (Nat×Nat×Nat)
 | 1=>[]
 | 2=>[]
 | 3=>[(2,1,1)]
 | 4=>[(3,2,2),(3,1,1),(2,1,1)]
 | 5=>[(4,3,3),(4,2,2),(4,1,1),(3,2,2),(4,1,1),(3,1,1),(4,3,1),(2,1,1)]
 | _=>[]
def nxB(n:Nat)(now now':List Nat)(p r a:Nat):Bool:=
 decide (now.length=n)&&decide (1≤p)&&decide (p<n)&&decide (∀k,k<n→p<k→now.getD k 9<2)&&decide (2≤now.getD p 0)&&decide (now[p]? = some (a+1))&&decide (r<p)
  && decide (now[r]? = some a)&&decide (∀k,k<p→r<k→now[k]?≠some a)&&decide (∀x∈now,x≤1000)&&decide (Zdh now p r (n-p)=now')
theorem zadm{n:Nat}{now now':List Nat}{p r a:Nat}(h:nxB n now now' p r a=true):Nx n now now' p r a:=by
 unfold nxB at h;simp only[Yj,decide_eq_true_eq]at h;obtain⟨⟨⟨⟨⟨⟨⟨⟨⟨⟨h1,h2⟩,h3⟩,h4⟩,h5⟩,h6⟩,h7⟩,h8⟩,h9⟩,h10⟩,h11⟩:=h;exact⟨h1,h2,h3,h4,h5,h6,h7,h8,h9,h10,h11⟩
theorem z45:∀n,n<6→∀j,j<(trD n).length→nxB n ((trs n).getD j []) ((trs n).getD (j+1) []) ((trD n).getD j (0,0,0)).1 ((trD n).getD j (0,0,0)).2.1 ((trD n).getD j (0,0,0)).2.2=true:=by decide +kernel
theorem zms:∀n,n<6→1≤n→(trs n).length=(trD n).length+1∧(trs n).getD 0 []=List.range n∧((trs n).getD (trD n).length []).length=n∧(∀k,k<n→0<k→((trs n).getD (trD n).length []).getD k 9<2)∧(trs n).length≤9:=by decide +kernel
section
variable{T:Tbl}[Z9 T]
def Zik(n j:Nat):St:=Ziy n ((trs n).take j) ((trs n).getD j [])
theorem zk9{α:Type}(l:List α)(d:α){j:Nat}(h:j<l.length):l.take j++[l.getD j d]=l.take (j+1):=by
 rw[Yah h,Ya7,Ya h]
 rfl
theorem zzq{n j:Nat}(hn:n<6)(h1:1≤n)(hj:j<(trD n).length):evX (orc T) T 0 Zcm (Zik n j)=some (.g 0,Zik n (j+1)):=by
 obtain⟨l1,_,_,_,l5⟩:=zms n hn h1;have q:=z43 (T:=T) (zadm (z45 n hn j hj)) ((trs n).take j) (by omega) (by rw[Yad];omega);unfold Zik;rw[←zk9 (trs n) [] (show j<(trs n).length by omega)];exact q
theorem zzr{n:Nat}(hn:n<6)(h1:1≤n):evX (orc T) T 0 Zcm (Zik n (trD n).length)=some (.r,⟨[(2,.bs (.loc 3) 1 1 0 (trs n).length)],[(.loc 3,⟨1,.own,1,Zac (trs n)⟩)],3⟩):=by
 obtain⟨l1,_,l3,l4,l5⟩:=zms n hn h1;have q:=z44 (T:=T) (n:=n) l3 l4 ((trs n).take (trD n).length) (by omega) h1 (by rw[Yad];omega);have e1:((trs n).take (trD n).length).length+1=(trs n).length:=by
  rw[Yad];omega
 have e2:(trs n).take ((trD n).length+1)=trs n:=Yb (by omega);rw[e1,zk9 (trs n) [] (by omega),e2]at q;exact q
theorem zg6(n:Nat)(hn:n<6)(h1:1≤n):Za T 589 [.i .i64 n]=some (.sl (Zac (trs n)) .an):=by
 have L:=zwh (T:=T) n (by omega);unfold Zkc at L;simp only[Y3,List.range_zero]at L;have e0:Zi []=[]:=rfl;rw[e0]at L;obtain⟨l1,l2,_,_,l5⟩:=zms n hn h1;have hF0:Zik n 0=⟨[(0,.i .i64 n),(3,.bs (.loc 3) 1 1 0 0),(4,.bs (.loc 4) 2 1 0 n)],[(.loc 3,⟨1,.own,1,[]⟩),(.loc 4,⟨2,.own,1,Zi (List.range n)⟩)],4⟩:=by
  unfold Zik Ziy Zfj;rw[l2,Ybo,List.length_range]
  rfl
 have hlt:¬ (n:Int)<1:=by omega
 have hgt:¬ (5:Int)<n:=by omega
 have hlt2:¬ n<1:=by omega
 have hgt2:¬ 5<n:=by omega
 have hl:=zdk (trs n);have hw:=zbr (trs n);have ht:List.take (trs n).length (Zac (trs n))=Zac (trs n):=Yb (by omega);have hlast:=zzr (T:=T) hn h1;have hnext:=fun j hj=>zzq (T:=T) hn h1 (j:=j) hj;have hrun:Zft (fun s=>evX (orc T) T 0 Zcm s) 0 100 (evX (orc T) T 0 Zcm (Zik n 0))=some (.r,⟨[(2,.bs (.loc 3) 1 1 0 (trs n).length)],[(.loc 3,⟨1,.own,1,Zac (trs n)⟩)],3⟩):=by
  cases hD:(trD n).length with
  | zero=>
   rw[hD]at hlast;rw[hlast]
   rfl
  | succ m=>
   rw[hnext 0 (by omega)];rw[hD]at hlast;exact zzp (fun j=>Zik n (j+1)) _ (fun j e=>by cases e) m (fun j hj=>hnext (j+1) (by omega)) hlast 100 (by omega)
 rw[zab Z9.h589 rfl,b589];rw[hF0]at hrun;clear hlast hnext l1 l2 hF0;have hlN:=zbb (List.range n);have hwN:=zap (List.range n);generalize Zi (List.range n)=NN at *
 generalize trs n=TR at *
 generalize Zac TR=TT at *
 generalize TR.length=M at *
 have hE:evX (orc T) T 0 Zcm ⟨[(7,.i .i64 0),(6,.i .i64 0),(0,.i .i64 n),(3,.bs (.loc 3) 1 1 0 0),(4,.bs (.loc 4) 2 1 0 n)],[(.loc 3,⟨1,.own,1,[]⟩),(.loc 4,⟨2,.own,1,NN⟩)],4⟩ =
   evX (orc T) T 0 Zcm ⟨[(0,.i .i64 n),(3,.bs (.loc 3) 1 1 0 0),(4,.bs (.loc 4) 2 1 0 n)],[(.loc 3,⟨1,.own,1,[]⟩),(.loc 4,⟨2,.own,1,NN⟩)],4⟩:=by
  unfold Zcm;rw[z4e,z4e];congr 1
 simp -implicitDefEqProofs[zab6,hlt,hgt,L,hE,hrun,hl,hw,ht]
end
def wOk(s:Sm)(w:List Fz):Bool:=okS s&&decide (w.length=s.b.length)
structure SmW (s:Sm):Prop where
 ok:SmS s
 b:s.b.length≤7
 a:okS s=true→s.a.length=s.b.length∧∀(k:Nat) (r:List Fz),s.a[k]? = some r→r.length=k∧∀x∈r,fsz x≤2
theorem zs7:∀n,n<6→(trs n).all (fun t=>Zbh (Zbi t)&&Ziq t)=true:=by decide +kernel
theorem zzy:∀n,n<6→(1≤n→0<(trs n).length)∧(trs n).length≤9:=by decide +kernel
section
variable{T:Tbl}[Zy T][Zn T][Zs T][Zw T][Zq T][Zk T][Ze T][Zf T][Zr T][Zaa T][Zae T][Zbj T][Zbq T][Zay T][Zb1 T][Zdg T][Zdf T][Zab T][Zbe T][Z1 T][Z9 T][Z7 T]
theorem zey(s:Sm)(hs:SmS s)(w:List Fz)(l:List Int)(hl:l.length≤1000)(hlw:∀x∈l,-9223372036854775808≤x∧x<9223372036854775808)(h:(okS s&&decide (w.length=s.b.length)&&Zbh l)=false) :
  Za T 617 [esm s,.sl (Zc w) .an,.sl (ints l) .an]=some (.tup [efz (fz 0),.b false]):=by
 have h0:=zco (T:=T);have c1:=zfv (T:=T) s hs;have c2:=zec (T:=T) l (by omega) hlw;have hwQ:=zhe l;rw[zab Z7.h617 rfl,b617];obtain⟨nm,C,M,B,E⟩:=s;dsimp only at *
 generalize ints l=Q at *
 generalize Zbh l=z at *
 cases ho:okS ⟨nm,C,M,B,E⟩ with
 | false=>
  rw[ho]at c1;simp -implicitDefEqProofs[h0,c1,hwQ]
 | true=>
  rw[ho]at c1 h;by_cases hw:w.length=B.length
  ·have hz:z=false:=by simpa[hw]using h
   subst hz;simp -implicitDefEqProofs[h0,c1,c2,hwQ,hw]
  ·have hw':¬ (w.length:Int)=B.length:=by omega
   simp -implicitDefEqProofs[h0,c1,hwQ,hw,hw']
def Zey(s:Sm)(w:List Fz)(t:List Nat):Bool:=wOk s w&&decide (wtQ s.a t s.b.length w*(Zf0 t:Nat)=1)
def Zh6(s:Sm)(w:List Fz)(n:Nat):Bool:=(trs n).all (Zey s w)
def Zgb(s:Sm)(w:List Fz):Nat→Nat→Nat
 | 0,n=>n
 | f+1,n=>if Zh6 s w (n+1) then Zgb s w f (n+1) else n
def Zgc(s:Sm)(w:List Fz):Nat:=Zgb s w 5 0
def Zha(s:Sm)(w:List Fz)(L:List (List Nat))(i:Nat):St:=
 ⟨[(1,.sl (Zc w) .an),(3,.ptr (.loc 3) 1 5 0 0),(12,.sl (Zac L) .an),(13,.i .i64 L.length),(14,.i .i64 i)],[(.loc 3,⟨1,.str,5,[Zg9 s]⟩)],3⟩
def Zg4(b:Bool):Option (Ex×St):=if b then some (.n,⟨[],[],2⟩) else some (.r,⟨[(6,.b false)],[],2⟩)
theorem z5a{t:List Nat}(ht:TrOk t):Zf0 t≤100000:=by
 rw[←ht.den];exact(ht.dj t.length (Yg _)).2.1
theorem zxo{s:Sm}{t:List Nat}{w:List Fz}(ht:TrOk t)(hm:s.b.length≤7)(hw:w.length=s.b.length)(ha:s.a.length=s.b.length)
  (hr:∀(k:Nat) (r:List Fz),s.a[k]? = some r→r.length=k∧∀x∈r,fsz x≤2) (ws:∀x∈w,fsz x≤10):sz (wtQ s.a t s.b.length w)≤26000:=by
 have l1:=ht.l1;have hN:=zs6 ht s.b.length hm ha hr (t.length-1) (by omega);obtain⟨r1,r2⟩:=hN.r 0 (by omega);have hl:w.length=(fzs (rwN (wtJ s.a t s.b.length (t.length-1)) 0)).length:=by rw[zar];omega
 have h:=zex hl ws (fun y hy=>by
  obtain⟨z,hz,rfl⟩:=Yz.1 hy;exact r2 z hz) (by omega) (by omega) w.length (Yg _)
 have e:Zc6 w (fzs (rwN (wtJ s.a t s.b.length (t.length-1)) 0)) w.length=wtQ s.a t s.b.length w:=by
  unfold Zc6 wtQ;rw[Yb (Yg _),Yb (by omega)]
  rfl
 rw[e]at h;have:w.length*(10+3600+1)≤7*(10+3600+1):=Yr _ (by omega);omega
theorem zzz(s:Sm)(hs:SmW s)(w:List Fz)(ws:∀x∈w,fsz x≤10)(L:List (List Nat))(hL:L.length≤9)(hok:∀t∈L,Zbh (Zbi t)=true∧Ziq t=true)(i:Nat)(hi:i<L.length) :
  (Zey s w L[i]=true→evX (orc T) T 0 l613_0 (Zha s w L i)=some (.n,Zha s w L (i+1))) ∧
  (Zey s w L[i]=false→Ze5 (evX (orc T) T 0 l613_0 (Zha s w L i))=true∧Ze4 0 0 (.norm false []) (evX (orc T) T 0 l613_0 (Zha s w L i))=Zg4 false):=by
 obtain⟨h1,h2⟩:=hok _ (Yp hi);have ht:=zuq h2;have e0:(Zac L)[i]? = some [.sl (Zi L[i]) .an]:=by simp[Zac,hi]
 have hlt:=zdk L;have hwt:=zbr L;have hiI:(i:Int)<L.length:=by omega
 have hws:=zb8 hi (by omega);have hwQ:=zap L[i];have o1:=zf4 (T:=T);have hd:=z5a ht;have l8:=ht.l8;have c5:=zew (T:=T) ht h1;have c3:Za T 205 [.i .i64 (Zf0 L[i]:Nat)]=some (efz (fz ((Zf0 L[i]:Nat):Rat))):=by
  have:=zmo (T:=T) ((Zf0 L[i]:Nat):Int) (by omega) (by omega);rw[this,Rat.intCast_natCast]
 unfold Zey;cases hwo:wOk s w with
 | false=>
  have c0:=zey (T:=T) s hs.ok w (Zbi L[i]) (by simp[Zbi];omega) (fun x hx=>by
   obtain⟨n,hn,rfl⟩:=Yz.1 hx;have:=ht.v n hn;omega) (by
   unfold wOk at hwo;rw[hwo]
   rfl)
  rw[zod]at c0;refine⟨fun h=>by simp at h,fun _=>?_⟩;unfold Zha Zg4;obtain⟨nm,C,M,B,E⟩:=s;dsimp only at *
  generalize Zi L[i]=Q at *
  generalize Zac L=R at *
  obtain⟨j0,a0⟩:=Ye.1 e0;have q0:=Ya j0;constructor<;>simp -implicitDefEqProofs[l613_0,hi,hiI,hws,c0,hlt,hwt,hwQ,a0,q0]
 | true=>
  have hwo2:=hwo;unfold wOk at hwo2;rw[Yj,decide_eq_true_eq]at hwo2;obtain⟨ha,hr⟩:=hs.a hwo2.1;have c0:=zfs (T:=T) s hs.ok w L[i] ht h1 hs.b hwo2.1 hwo2.2 ha hr ws;have z0:=zxo ht hs.b hwo2.2 ha hr ws;have zd:sz ((Zf0 L[i]:Nat):Rat)≤1:=Yd0.2 ⟨zae (by rw[Rat.num_natCast];simp;omega),zae (by rw[Rat.den_natCast];decide)⟩;rw[Yc3];generalize wtQ s.a L[i] s.b.length w=V at *
  generalize ((Zf0 L[i]:Nat):Rat)=D at *
  have c1:=zcz (T:=T) (fz V) (fz D) (by rw[zav];omega) (by rw[zav];omega);rw[zby,zby]at c1;have zm:=zfw V D;have c2:=zdu (T:=T) (fz (V*D)) (fz 1) (by rw[zav];omega) (by rw[zav,zij];omega);rw[zby,zby]at c2;unfold Zha Zg4;obtain⟨nm,C,M,B,E⟩:=s;dsimp only at *
  generalize Zi L[i]=Q at *
  generalize Zac L=R at *
  obtain⟨j0,a0⟩:=Ye.1 e0;have q0:=Ya j0;clear hs hok z0 zm zd hwo;refine⟨fun h=>?_,fun h=>?_⟩
  ·rw[h]at c2;simp -implicitDefEqProofs[l613_0,hi,hiI,hws,c0,c1,c2,c3,c5,o1,hlt,hwt,hwQ,a0,q0]
  ·rw[h]at c2;constructor<;>simp -implicitDefEqProofs[l613_0,hi,hiI,hws,c0,c1,c2,c3,c5,o1,hlt,hwt,hwQ,a0,q0]
theorem zadt(s:Sm)(hs:SmW s)(w:List Fz)(ws:∀x∈w,fsz x≤10)(L:List (List Nat))(hL:L.length≤9)(hok:∀t∈L,Zbh (Zbi t)=true∧Ziq t=true) :
  Zv T 0 0 (.norm false []) l613_0 (Zha s w L 0)=Zg4 (L.all (Zey s w)):=by
 have key:=za3 (T:=T) (k:=0) (id:=0) (g2:=.norm false []) (c:=l613_0) (Zha s w L) L.length (fun i=>Zg4 ((L.drop i).all (Zey s w))) (fun i hi=>?_) ?_
 ·simpa using key
 ·obtain⟨h1,h2⟩:=zzz (T:=T) s hs w ws L hL hok i hi;have hd:L.drop i=L[i]::L.drop (i+1):=(Ydn ..).symm;rw[hd,Ybx];cases hg:Zey s w L[i]with
  | true=>exact .inl ⟨h1 hg,by rw[Yc3]⟩
  | false=>exact .inr (h2 hg)
 ·have hwt:=zbr L;unfold Zha;rw[Yag];generalize Zac L=R at *
  obtain⟨nm,C,M,B,E⟩:=s;constructor<;>simp -implicitDefEqProofs[l613_0,hwt,Zg4]
theorem zmv(s:Sm)(hs:SmW s)(w:List Fz)(ws:∀x∈w,fsz x≤10)(n:Nat)(h1:1≤n)(hn:n<6) :
  Za T 613 [esm s,.sl (Zc w) .an,.i .i64 n]=some (.b (Zh6 s w n)):=by
 have L:=zadt (T:=T) s hs w ws (trs n) (zzy n hn).2 (fun t ht=>by
  have:=Yh.1 (zs7 n hn) t ht;simpa using this)
 have c:=zg6 (T:=T) n hn h1;have hl:=zdk (trs n);have hwt:=zbr (trs n);unfold Zh6;unfold Zha Zg4 at L;generalize (trs n).all (Zey s w)=z at *
 rw[zab Z7.h613 rfl,b613];obtain⟨nm,C,M,B,E⟩:=s;generalize Zac (trs n)=R at *
 rw[show (((0:Nat):Int))=0 from rfl]at L;cases z<;>simp -implicitDefEqProofs[L,c,hl,hwt]
def Zk7(s:Sm)(w:List Fz)(n:Nat):St:=⟨[(1,.sl (Zc w) .an),(2,.ptr (.loc 2) 1 5 0 0),(5,.i .i64 n)],[(.loc 2,⟨1,.str,5,[Zg9 s]⟩)],3⟩
theorem zof(s:Sm)(hs:SmW s)(w:List Fz)(ws:∀x∈w,fsz x≤10):Za T 611 [esm s,.sl (Zc w) .an]=some (.i .i64 (Zgc s w:Nat)):=by
 have key:=za3 (T:=T) (k:=0) (id:=0) (g2:=.norm false [5]) (c:=l611_0) (Zk7 s w) 5 (fun n=>some (.n,⟨[(5,.i .i64 (Zgb s w (5-n) n:Nat))],[],2⟩)) (fun n hn=>?_) ?_
 ·unfold Zk7 at key;rw[show (((0:Nat):Int))=0 from rfl,Ydw,show Zgb s w 5 0=Zgc s w from rfl]at key;generalize Zgc s w=z at *
  rw[zab Z7.h611 rfl,b611];obtain⟨nm,C,M,B,E⟩:=s;simp -implicitDefEqProofs[key]
 ·have c:=zmv (T:=T) s hs w ws (n+1) (by omega) (by omega);have hws:=zb8 hn (by omega);have hnI:(n:Int)<5:=by omega
  obtain⟨f,hf⟩:∃f,5-n=f+1:=⟨5-n-1,by omega⟩;have hf2:5-(n+1)=f:=by omega
  have ee:Zgb s w (f+1) n=if Zh6 s w (n+1) then Zgb s w f (n+1) else n:=rfl
  rw[hf,hf2,ee];unfold Zk7;cases hh:Zh6 s w (n+1) with
  | true=>
   rw[hh]at c;left;refine⟨?_,by simp⟩;obtain⟨nm,C,M,B,E⟩:=s;simp only[Ya3,Ya4]at c hws;simp -implicitDefEqProofs[l611_0,hn,hnI,hws,c]
  | false=>
   rw[hh]at c;right;obtain⟨nm,C,M,B,E⟩:=s;simp only[Ya3,Ya4]at c hws;constructor<;>simp -implicitDefEqProofs[l611_0,hn,hnI,hws,c]
 ·unfold Zk7;obtain⟨nm,C,M,B,E⟩:=s;constructor<;>simp -implicitDefEqProofs[l611_0,Zgb]
theorem zpz(s:Sm)(hs:SmW s)(wb:∀x∈s.b,fsz x≤10)(we:∀x∈s.e,fsz x≤10):Za T 604 [esm s]=some (.tup [.i .i64 (Zgc s s.b:Nat),.i .i64 (Zgc s s.e:Nat)]):=by
 have c1:=zof (T:=T) s hs s.b wb;have c2:=zof (T:=T) s hs s.e we;generalize Zgc s s.b=p at *
 generalize Zgc s s.e=q at *
 rw[zab Z7.h604 rfl,b604];obtain⟨nm,C,M,B,E⟩:=s;dsimp only at *
 simp -implicitDefEqProofs[c1,c2]
end
def Zrq(n:Int):List (List Nat):=if n<1∨5<n then [] else trs n.toNat
section
variable{T:Tbl}[Ze7 T]
def Zrr(a b:List Nat)(x:Nat×Bool):St:=⟨[(0,.sl (Zi a) .an),(1,.sl (Zi b) .an),(5,.b x.2),(6,.i .i64 x.1)],[],2⟩
def Zog(l:List Int)(i:Nat):St:=⟨[(0,.sl (ints l) .an),(3,.i .i64 ((i+1:Nat):Int))],[],2⟩
def Znu(l:List Int)(b:Bool):Option (Ex×St):=if b then some (.n,⟨[(0,.sl (ints l) .an)],[],2⟩) else some (.r,⟨[(2,.b false)],[],2⟩)
def Zrs(t:List Nat)(i j:Nat):St:=⟨[(0,.sl (Zi t) .an),(1,.i .i64 i),(5,.i .i64 ((i+1+j:Nat):Int))],[],2⟩
def Zp3(t:List Nat)(i:Nat):St:=⟨[(0,.sl (Zi t) .an),(3,.i .i64 (Zk1 t i:Nat)),(4,.i .i64 i)],[],2⟩
end
section
variable{T:Tbl}[Zy T][Zaq T][Zar T][Zai T][Zas T][Za3 T][Zba T][Zav T][Zn T][Zs T][Zw T][Zq T][Zk T][Ze T][Zf T][Zr T][Zaa T][Zae T][Zbj T][Zbq T][Zay T][Zb1 T][Zdg T][Zdf T][Zab T][Zbe T][Z1 T][Z9 T][Z7 T][Ze7 T][Zfh T]
abbrev nlw:List AV:=[.b false,.sl [] .an,.sl [] .an]
def Zmz(s:Sm)(q:Rat):Heap:=[(.loc 4,⟨1,.str,5,[Zg9 s]⟩),(.loc 8,⟨2,.str,3,[nlw]⟩),(.loc 9,⟨3,.str,3,[Zbk (fz q)]⟩)]
def Zrt(s:Sm)(t:List Nat)(i k:Nat)(x:Nat×Nat×Rat):St:=
 ⟨[(1,.sl (Zi t) .an),(2,.i .i64 i),(3,.i .i64 k),(4,.ptr (.loc 4) 1 5 0 0),(8,.ptr (.loc 8) 2 3 0 0),(9,.ptr (.loc 9) 3 3 0 0),(10,.i .i64 x.2.1)],Zmz s x.2.2,5⟩
def Zru(s:Sm)(t:List Nat)(i k c:Nat)(q:Rat)(r:List Fz)(g:Nat→Rat)(j:Nat):St:=
 ⟨[(1,.sl (Zi t) .an),(2,.i .i64 i),(3,.i .i64 k),(4,.ptr (.loc 4) 1 5 0 0),(8,.ptr (.loc 8) 2 3 0 0),(9,.ptr (.loc 9) 3 3 0 0),(10,.i .i64 c),(11,.ptr (.loc 11) 4 3 0 0),(12,.i .i64 j)],
  Zmz s q++[(.loc 11,⟨4,.str,3,[Zbk (fz (dotG (r.take j) g))]⟩)],6⟩
def Zp4(q:Rat):Option (Ex×St):=some (.n,⟨[(8,.ptr (.loc 8) 1 3 0 0),(9,.ptr (.loc 9) 2 3 0 0)],[(.loc 8,⟨1,.str,3,[nlw]⟩),(.loc 9,⟨2,.str,3,[Zbk (fz q)]⟩)],4⟩)
structure InNu (t:List Nat) (i:Nat) (x:Nat×Nat×Rat):Prop where
 h1:i<x.2.1
 h2:x.2.1≤t.length
 h3:enT t i-x.2.1≤x.1
 h4:sz x.2.2+28*Zmd t (Zmc t (enT t i) x.1 x.2.1)≤200
end
structure ROk (w:List Fz) (m:Nat):Prop where
 l:w.length=m
 x:∀x∈w,fsz x≤2∧Zct x=true
section
variable{T:Tbl}[Zy T][Zaq T][Zar T][Zai T][Zas T][Za3 T][Zba T][Zav T][Zn T][Zs T][Zw T][Zq T][Zk T][Ze T][Zf T][Zr T][Zaa T][Zae T][Zbj T][Zbq T][Zay T][Zb1 T][Zdg T][Zdf T][Zab T][Zbe T][Z1 T][Z9 T][Z7 T][Ze7 T][Zfh T]
def Zrv(s:Sm)(t:List Nat)(w:List Fz)(g:Nat→Rat)(j:Nat):St:=
 ⟨[(1,.sl (Zc w) .an),(2,.sl (Zi t) .an),(3,.ptr (.loc 3) 1 5 0 0),(6,.ptr (.loc 6) 2 3 0 0),(7,.ptr (.loc 7) 3 3 0 0),(8,.i .i64 j)],
  [(.loc 3,⟨1,.str,5,[Zg9 s]⟩),(.loc 6,⟨2,.str,3,[nlw]⟩),(.loc 7,⟨3,.str,3,[Zbk (fz (dotG (w.take j) g))]⟩)],5⟩
end
section
variable{T:Tbl}[Zy T][Zaq T][Zar T][Zai T][Zas T][Za3 T][Zba T][Zav T][Zn T][Zs T][Zw T][Zq T][Zk T][Ze T][Zf T][Zr T][Zaa T][Zae T][Zbj T][Zbq T][Zay T][Zb1 T][Zdg T][Zdf T][Zab T][Zbe T][Z1 T][Z9 T][Z7 T][Ze7 T][Zfh T]
def Zrw(s:Sm)(w:List Fz)(m:Nat)(t:List Nat):Bool:=decide (wtQ s.a t m w*(Zf0 t:Nat)=1)
def Zrx(s:Sm)(w:List Fz)(n:Nat)(L:List (List Nat))(i:Nat):St:=
 ⟨[(1,.sl (Zc w) .an),(2,.ptr (.loc 2) 1 5 0 0),(5,.i .i64 (n:Nat)),(6,.sl (Zac L) .an),(7,.i .i64 i)],[(.loc 2,⟨1,.str,5,[Zg9 s]⟩)],3⟩
def Zp5(s:Sm)(w:List Fz)(n:Nat)(b:Bool):Option (Ex×St):=
 if b then some (.n,⟨[(1,.sl (Zc w) .an),(2,.ptr (.loc 2) 1 5 0 0),(5,.i .i64 (n:Nat))],[(.loc 2,⟨1,.str,5,[Zg9 s]⟩)],3⟩) else some (.r,⟨[(4,.i .i64 ((n-1:Nat):Int))],[],2⟩)
def Zry(s:Sm)(w:List Fz)(j:Nat):St:=
 ⟨[(1,.sl (Zc w) .an),(2,.ptr (.loc 2) 1 5 0 0),(5,.i .i64 ((j+1:Nat):Int))],[(.loc 2,⟨1,.str,5,[Zg9 s]⟩)],3⟩
def Zp6(s:Sm)(w:List Fz)(f n:Nat):Option (Ex×St):=
 if Zgb s w f n=n+f then some (.n,⟨[],[],2⟩) else some (.r,⟨[(4,.i .i64 (Zgb s w f n:Nat))],[],2⟩)
end
class Zly (T:Tbl):Prop where
def smQ(p:List UInt8×List Rat×List (List Rat)×List Rat×List Rat):Sm:=⟨p.1,fzs p.2.1,p.2.2.1.map fzs,fzs p.2.2.2.1,fzs p.2.2.2.2⟩
def Zkq(l:List Rat):Rat:=l.foldl (fun s x=>s+x) 0
def Zfa(q:Rat):Bool:=decide (q.num.natAbs<4294967296)&&decide (q.den<4294967296)
def okQ(p:List UInt8×List Rat×List (List Rat)×List Rat×List Rat):Bool:=
 Zbo 2 p.1&&Zei (smQ p)&&p.2.2.1.all (fun r=>r.all Zfa)&&(p.2.2.2.1.all Zfa&&p.2.1.all Zfa&&p.2.2.2.2.all Zfa)
  && (p.2.2.1.zip p.2.1).all (fun z=>decide (Zkq z.1=z.2))&&decide (Zkq p.2.2.2.1=1)&&(p.2.2.2.2.isEmpty || decide (Zkq p.2.2.2.2=1))
def Zda:Nat→List UInt8
 | 0=>[101,117,108,101,114,10,48,124,10,98,32,49]
 | 1=>[104,101,117,110,10,48,124,10,49,124,49,10,98,32,49,47,50,44,49,47,50,10,101,32,49,44,48]
 | 2=>[109,105,100,112,111,105,110,116,10,48,124,10,49,47,50,124,49,47,50,10,98,32,48,44,49,10,101,32,49,44,48]
 | 3=>[114,107,52,10,48,124,10,49,47,50,124,49,47,50,10,49,47,50,124,48,44,49,47,50,10,49,124,48,44,48,44,49,10,98,32,49,47,54,44,49,47,51,44,49,47,51,44,49,47,54]
 | 4=>[98,115,50,51,10,48,124,10,49,47,50,124,49,47,50,10,51,47,52,124,48,44,51,47,52,10,49,124,50,47,57,44,49,47,51,44,52,47,57,10,98,32,50,47,57,44,49,47,51,44,52,47,57,44,48,10,101,32,55,47,50,52,44,49,47,52,44,49,47,51,44,49,47,56]
 | 5=>[100,112,52,53,10,48,124,10,49,47,53,124,49,47,53,10,51,47,49,48,124,51,47,52,48,44,57,47,52,48,10,52,47,53,124,52,52,47,52,53,44,45,53,54,47,49,53,44,51,50,47,57,10,56,47,57,124,49,57,51,55,50,47,54,53,54,49,44,45,50,53,51,54,48,47,50,49,56,55,44,54,52,52,52,56,47,54,53,54,49,44,45,50,49,50,47,55,50,57,10,49,124,57,48,49,55,47,51,49,54,56,44,45,51,53,53,47,51,51,44,52,54,55,51,50,47,53,50,52,55,44,52,57,47,49,55,54,44,45,53,49,48,51,47,49,56,54,53,54,10,49,124,51,53,47,51,56,52,44,48,44,53,48,48,47,49,49,49,51,44,49,50,53,47,49,57,50,44,45,50,49,56,55,47,54,55,56,52,44,49,49,47,56,52,10,98,32,51,53,47,51,56,52,44,48,44,53,48,48,47,49,49,49,51,44,49,50,53,47,49,57,50,44,45,50,49,56,55,47,54,55,56,52,44,49,49,47,56,52,44,48,10,101,32,53,49,55,57,47,53,55,54,48,48,44,48,44,55,53,55,49,47,49,54,54,57,53,44,51,57,51,47,54,52,48,44,45,57,50,48,57,55,47,51,51,57,50,48,48,44,49,56,55,47,50,49,48,48,44,49,47,52,48]
 | _=>[]
def Zin:Nat→List UInt8
 | 0=>[101,117,108,101,114]
 | 1=>[104,101,117,110]
 | 2=>[109,105,100,112,111,105,110,116]
 | 3=>[114,107,52]
 | 4=>[98,115,50,51]
 | 5=>[100,112,52,53]
 | _=>[]
def Zg6:Nat→List UInt8×List Rat×List (List Rat)×List Rat×List Rat
 | 0=>([101,117,108,101,114],[mkRat 0 1],[[]],[mkRat 1 1],[])
 | 1=>([104,101,117,110],[mkRat 0 1,mkRat 1 1],[[],[mkRat 1 1]],[mkRat 1 2,mkRat 1 2],[mkRat 1 1,mkRat 0 1])
 | 2=>([109,105,100,112,111,105,110,116],[mkRat 0 1,mkRat 1 2],[[],[mkRat 1 2]],[mkRat 0 1,mkRat 1 1],[mkRat 1 1,mkRat 0 1])
 | 3=>([114,107,52],[mkRat 0 1,mkRat 1 2,mkRat 1 2,mkRat 1 1],[[],[mkRat 1 2],[mkRat 0 1,mkRat 1 2],[mkRat 0 1,mkRat 0 1,mkRat 1 1]],[mkRat 1 6,mkRat 1 3,mkRat 1 3,mkRat 1 6],[])
 | 4=>([98,115,50,51],[mkRat 0 1,mkRat 1 2,mkRat 3 4,mkRat 1 1],[[],[mkRat 1 2],[mkRat 0 1,mkRat 3 4],[mkRat 2 9,mkRat 1 3,mkRat 4 9]],[mkRat 2 9,mkRat 1 3,mkRat 4 9,mkRat 0 1],[mkRat 7 24,mkRat 1 4,mkRat 1 3,mkRat 1 8])
 | 5=>([100,112,52,53],[mkRat 0 1,mkRat 1 5,mkRat 3 10,mkRat 4 5,mkRat 8 9,mkRat 1 1,mkRat 1 1],[[],[mkRat 1 5],[mkRat 3 40,mkRat 9 40],[mkRat 44 45,mkRat (-56) 15,mkRat 32 9],[mkRat 19372 6561,mkRat (-25360) 2187,mkRat 64448 6561,mkRat (-212) 729],[mkRat 9017 3168,mkRat (-355) 33,mkRat 46732 5247,mkRat 49 176,mkRat (-5103) 18656],[mkRat 35 384,mkRat 0 1,mkRat 500 1113,mkRat 125 192,mkRat (-2187) 6784,mkRat 11 84]],[mkRat 35 384,mkRat 0 1,mkRat 500 1113,mkRat 125 192,mkRat (-2187) 6784,mkRat 11 84,mkRat 0 1],[mkRat 5179 57600,mkRat 0 1,mkRat 7571 16695,mkRat 393 640,mkRat (-92097) 339200,mkRat 187 2100,mkRat 1 40])
 | _=>([],[],[],[],[])
def Zcq(i:Nat):Sm:=smQ (Zg6 i)
theorem zje(l:List Rat):sumF (fzs l)=Zkq l:=by
 unfold sumF Zkq fzs;rw[List.foldl_map];simp only[zby]
theorem ze2{q:Rat}(h:Zfa q=true):sz q≤1:=by
 unfold Zfa at h;simp only[Yj,decide_eq_true_eq]at h;exact zadk h.1 h.2
theorem ze3{l:List Rat}(h:l.all Zfa=true):(fzs l).all Zdl=true:=by
 rw[Yh];intro x hx;unfold fzs at hx;obtain⟨q,hq,rfl⟩:=Yz.1 hx;exact zp5 (by have:=ze2 (Yh.1 h q hq);omega)
theorem z5i(p:List UInt8×List Rat×List (List Rat)×List Rat×List Rat)(h:okQ p=true):okS (smQ p)=true:=by
 obtain⟨nm,c,a,b,e⟩:=p;unfold okQ at h;simp only[Yj,decide_eq_true_eq,Ya2]at h;obtain⟨⟨⟨⟨⟨⟨h1,h2⟩,h3⟩,⟨h4,h5⟩,h6⟩,h7⟩,h8⟩,h9⟩:=h;have n1:Zdc (a.map fzs)=true:=by
  unfold Zdc;rw[List.all_map,Yh];intro r hr;exact ze3 (Yh.1 h3 r hr)
 have n2:Zdc [fzs b,fzs c,fzs e]=true:=by
  rw[zxs,ze3 h4,ze3 h5,ze3 h6]
  rfl
 have n3:Zcz (a.map fzs) (fzs c)=true:=by
  unfold Zcz;rw[Yh]at h7 ⊢;intro z hz;have e1:(a.map fzs).zip (fzs c)=(a.zip c).map fun z=>(fzs z.1,fz z.2):=by
   unfold fzs;rw[List.zip_map]
   rfl
  rw[e1]at hz;obtain⟨y,hy,rfl⟩:=Yz.1 hz;have:=h7 y hy;rw[decide_eq_true_eq]at this ⊢;rw[zje,zby];exact this
 have n4:sumF (fzs b)=1:=by rw[zje];exact h8
 have n5:¬ (fzs e≠[]∧sumF (fzs e)≠1):=by
  rw[zje]
  rintro⟨q1,q2⟩
  rcases h9 with h9 | h9
  ·cases e with
   | nil=>exact q1 rfl
   | cons x e=>simp at h9
  ·exact q2 h9
 unfold okS Zcs;rw[show (smQ (nm,c,a,b,e)).nm=nm from rfl,show (smQ (nm,c,a,b,e)).a=a.map fzs from rfl,show (smQ (nm,c,a,b,e)).b=fzs b from rfl,show (smQ (nm,c,a,b,e)).c=fzs c from rfl,show (smQ (nm,c,a,b,e)).e=fzs e from rfl];rw[h1,h2,n1,n2,n3,if_neg n5];simp[n4]
def Zou(x:Fz):Bool:=decide ((Zg7 (fv x).num.natAbs).length≤10)&&decide ((Zg7 (fv x).den).length≤10)
theorem zm5:∀i,i<6→okQ (Zg6 i)=true:=by decide +kernel
theorem zok{i:Nat}(h:i<6):okS (Zcq i)=true:=z5i _ (zm5 i h)
theorem zt1:Zbf (Zda 0)=(Zcq 0,0,0):=by kernel_rfl
theorem zt2:Zbf (Zda 1)=(Zcq 1,0,0):=by kernel_rfl
theorem zt3:Zbf (Zda 2)=(Zcq 2,0,0):=by kernel_rfl
theorem zt4:Zbf (Zda 3)=(Zcq 3,0,0):=by kernel_rfl
theorem zt5:Zbf (Zda 4)=(Zcq 4,0,0):=by kernel_rfl
theorem zt6:Zbf (Zda 5)=(Zcq 5,0,0):=by kernel_rfl
theorem zt7{i:Nat}(h:i<6):Ze9 (Zda i)=(Zcq i,0,0):=by
 have hr:Zbf (Zda i)=(Zcq i,0,0):=by
  match i,h with
  | 0,_=>exact zt1
  | 1,_=>exact zt2
  | 2,_=>exact zt3
  | 3,_=>exact zt4
  | 4,_=>exact zt5
  | 5,_=>exact zt6
 have hl:∀i,i<6→(Zda i).length≤4000:=by decide +kernel
 have:=hl i h;obtain⟨_,hw⟩:=zjb (zok h);unfold Ze9;rw[if_neg (by omega),hr,if_neg (by simp),if_neg (by simp[hw])]
def Zh7(l:List UInt8)(i:Nat):Option Nat:=((List.range 6).drop i).find? fun j=>decide (Zin j=l)
theorem zt8(l:List UInt8){i:Nat}(h:i<6):Zh7 l i=if Zin i=l then some i else Zh7 l (i+1):=by
 unfold Zh7;rw[Yq (by simpa using h),List.find?_cons,List.getElem_range];by_cases e:Zin i=l<;>simp[e]
theorem z0i:∀i,i<6→hdC 10 (Zda i)=Zin i:=by decide +kernel
theorem zol:∀i,i<6→(Zda i).length≤1000:=by decide +kernel
def emS:Sm:=⟨[],[],[],[],[]⟩
def Zlc(l:List UInt8):Sm:=match Zh7 l 0 with | some i=>Zcq i | none=>emS
def Zld(l:List UInt8):Bool:=(Zh7 l 0).isSome
theorem z5j{s:Sm}(h:okS s=true):SmS s:=by
 obtain⟨H,_⟩:=zjb h;have hn:=(zic (zws h)).2;have b8:=H.b8;have al:=H.al;have cl:=H.cl;have el:=H.el;refine⟨by omega,by omega,by omega,by omega,by omega,fun x hx=>?_,fun r hr=>⟨?_,fun x hx=>?_⟩,fun x hx=>?_,fun x hx=>?_⟩
 ·have:=zmz H.nc x hx;omega
 ·have q:=zfl _ _ H.sh r hr;omega
 ·have:=zjd H.na r hr x hx;omega
 ·have:=zmz H.nb x hx;omega
 ·have:=zmz H.ne x hx;omega
def Zjl:List AV:=[.s (Zda 0),.s (Zda 1),.s (Zda 2),.s (Zda 3),.s (Zda 4),.s (Zda 5)]
theorem ze4:∃a b c d e f:List UInt8,Zjl=[.s a,.s b,.s c,.s d,.s e,.s f]:=⟨_,_,_,_,_,_,rfl⟩
theorem z5k(i:Nat)(h:i<6):Zfc 1 6 none (.agg Zjl) (.i .i64 i)=some (.s (Zda i)):=by
 match i,h with
 | 0,_=>rfl
 | 1,_=>rfl
 | 2,_=>rfl
 | 3,_=>rfl
 | 4,_=>rfl
 | 5,_=>rfl
def smC(s:Sm):List AV:=[.s s.nm,.sl (Zc s.c) .an,.sl (Zp s.a) .an,.sl (Zc s.b) .an,.sl (Zc s.e) .an]
def Zm8(n:Nat):List (List AV):=(List.range n).map fun i=>[.s (Zin i)]
def Zm9(n:Nat):List (List AV):=(List.range n).map fun i=>smC (Zcq i)
section
variable{T:Tbl}[Zy T][Zn T][Zs T][Zw T][Zq T][Zk T][Zx T][Zaz T][Ze T][Zf T][Zr T][Za9 T][Zaa T][Zae T][Zcn T][Zaj T][Zbj T][Zcl T][Zbq T][Zay T][Zb1 T][Zdg T][Zdf T][Zab T][Zbn T][Zcg T][Zex T][Zbe T][Z1 T][Zao T][Zcx T]
theorem zm6:Za T 609 []=some (.agg Zjl):=by
 rw[zab Zcx.h609 rfl]
 kernel_rfl
theorem zqa(l:List UInt8)(h:l.length≤1000000):Za T 610 [.s l]=some (.s (hdC 10 l)):=by
 have c:=zst (T:=T) l h;unfold hdC;rw[zab Zcx.h610 rfl,b610];generalize List.takeWhile (fun x=>x != 10) l=A at *
 generalize List.drop 1 (List.dropWhile (fun x=>x != 10) l)=B at *
 generalize l.contains 10=C at *
 simp -implicitDefEqProofs[c]
theorem zm7(hcut:∀l:List UInt8,l.length≤1000000→Za T 184 [.s l,.s [124]]=some (.tup [.s (hdC 124 l),.s (tlC 124 l),.b (l.contains 124)])){i:Nat}(h:i<6):Za T 608 [.s (Zda i)]=some (.tup [esm (Zcq i),flt 0 0]):=by
 have:=zol i h;have q:=ztu (T:=T) hcut (Zda i) (by omega) (fun _ g=>z0d _ (by omega) g);rw[zt7 h]at q;exact q
def Zkr(l:List UInt8)(i:Nat):St:=⟨[(0,.s l),(2,.ptr (.loc 2) 1 5 0 0),(8,.agg Zjl),(9,.i .i64 i)],[(.loc 2,⟨1,.str,5,[[.s [],.sl [] .an,.sl [] .an,.sl [] .an,.sl [] .an]]⟩)],3⟩
def Zhr:Option Nat→Option (Ex×St)
 | some j=>some (.r,⟨[(2,.ptr (.loc 2) 1 5 0 0),(3,.b true)],[(.loc 2,⟨1,.str,5,[smC (Zcq j)]⟩)],3⟩)
 | none=>some (.n,⟨[(2,.ptr (.loc 2) 1 5 0 0)],[(.loc 2,⟨1,.str,5,[[.s [],.sl [] .an,.sl [] .an,.sl [] .an,.sl [] .an]]⟩)],3⟩)
theorem zwx(hcut:∀l:List UInt8,l.length≤1000000→Za T 184 [.s l,.s [124]]=some (.tup [.s (hdC 124 l),.s (tlC 124 l),.b (l.contains 124)]))(l:List UInt8) :
  Zv T 0 0 (.norm false [2]) l603_0 (Zkr l 0)=Zhr (Zh7 l 0):=by
 refine za3 (Zkr l) 6 (fun i=>Zhr (Zh7 l i)) (fun i hi=>?_) ?_
 ·have hi':(i:Int)<6:=by omega
  have hws:=zb8 hi (by omega);have ha:=z5k i hi;have c1:=zqa (T:=T) (Zda i) (by have:=zol i hi;omega);rw[z0i i hi]at c1;have c2:=zm7 (T:=T) hcut hi;clear hcut;rw[zt8 l hi];unfold Zkr;obtain⟨u0,u1,u2,u3,u4,u5,hA⟩:=ze4;rw[hA]at ha ⊢;clear hA;by_cases e:Zin i=l
  ·right;rw[if_pos e];unfold Zhr smC;dsimp only;generalize Zcq i=S at *
   obtain⟨nm,C,M,B,E⟩:=S;generalize Zda i=X at *
   generalize Zin i=N at *
   subst e;dsimp only at *
   constructor<;>simp -implicitDefEqProofs[-Zfc,l603_0,hi,hi',hws,ha,c1,c2]
  ·left;rw[if_neg e];clear c2;generalize Zda i=X at *
   generalize Zin i=N at *
   refine⟨?_,rfl⟩;simp -implicitDefEqProofs[-Zfc,l603_0,hi,hi',hws,ha,c1,e]
 ·have e0:Zh7 l 6=none:=rfl;rw[e0];unfold Zkr Zhr;obtain⟨u0,u1,u2,u3,u4,u5,hA⟩:=ze4;rw[hA];clear hA;constructor<;>simp -implicitDefEqProofs[l603_0]
theorem zt9(hcut:∀l:List UInt8,l.length≤1000000→Za T 184 [.s l,.s [124]]=some (.tup [.s (hdC 124 l),.s (tlC 124 l),.b (l.contains 124)]))(l:List UInt8) :
  Za T 603 [.s l]=some (.tup [esm (Zlc l),.b (Zld l)]):=by
 have L:=zwx (T:=T) hcut l;have ct:=zm6 (T:=T);unfold Zkr at L;simp only[Y3]at L;unfold Zlc Zld;rw[zab Zcx.h603 rfl,b603];clear hcut;cases hg:Zh7 l 0 with
 | none=>
  rw[hg]at L;unfold Zhr at L;dsimp only at L;clear hg;obtain⟨u0,u1,u2,u3,u4,u5,hA⟩:=ze4;rw[hA]at L ct;clear hA;have e0:esm emS=.agg [.s [],.sl [] .an,.sl [] .an,.sl [] .an,.sl [] .an]:=rfl;simp only[e0];simp -implicitDefEqProofs[L,ct]
 | some j=>
  rw[hg]at L;unfold Zhr smC at L;dsimp only at L ⊢;clear hg;obtain⟨u0,u1,u2,u3,u4,u5,hA⟩:=ze4;rw[hA]at L ct;clear hA;simp only[Option.isSome_some];generalize Zcq j=S at *
  obtain⟨nm,C,M,B,E⟩:=S;dsimp only at *
  simp -implicitDefEqProofs[L,ct]
def Zqh(l:List UInt8):Sm×Int×Int:=if Zld l=true then (Zlc l,0,0) else Ze9 l
def Zqi(i:Nat):St:=⟨[(1,.bs (.loc 1) 1 1 0 i),(4,.agg Zjl),(5,.i .i64 i)],[(.loc 1,⟨1,.own,1,Zm8 i⟩)],3⟩
def Zsp(i:Nat):St:=⟨[(1,.bs (.loc 1) 1 5 0 i),(6,.agg Zjl),(7,.i .i64 i)],[(.loc 1,⟨1,.own,5,Zm9 i⟩)],3⟩
end
section
variable{T:Tbl}[Zy T][Zn T][Zs T][Zw T][Zq T][Zk T][Zx T][Zaz T][Ze T][Zf T][Zr T][Za9 T][Zaa T][Zae T][Zcn T][Zaj T][Zbj T][Zcl T][Zbq T][Zay T][Zb1 T][Zdg T][Zdf T][Zab T][Zbn T][Zcg T][Zex T][Zbe T][Z1 T][Zao T][Zf9 T][Zcx T][Zly T][Zfu T]
def Zqj(i:Nat):St:=⟨[(1,.sl (Zm9 6) .an),(2,.sl (Zm8 6) .an),(3,.i .i64 i)],[],2⟩
end
def Zj8:List Rat→List Rat→Rat
 | x::a,y::b=>x*y+Zj8 a b
 | _,_=>0
theorem zmq:∀(a b:List Rat),Zbs (fzs a) (fzs b)=Zj8 a b
 | [],b=>by cases b<;>rfl
 | x::a,[]=>rfl
 | x::a,y::b=>by
  rw[show fzs (x::a)=fz x::fzs a from rfl,show fzs (y::b)=fz y::fzs b from rfl,Zbs,Zj8,zby,zby,zmq a b]
def Zmu(a:List (List Rat))(t:List Nat)(i:Nat)(N:List (List Rat)):List (List Rat):=
 N.set (Zes t i) (Zb8 (N[Zes t i]?.getD []) (a.map fun r=>Zj8 r (N[i]?.getD [])))
def Zk6(a:List (List Rat))(t:List Nat)(m:Nat):Nat→List (List Rat)
 | 0=>List.replicate t.length (List.replicate m 1)
 | j+1=>Zmu a t (t.length-1-j) (Zk6 a t m j)
def wtP(a:List (List Rat))(t:List Nat)(m:Nat)(w:List Rat):Rat:=Zj8 w (row0 (Zk6 a t m (t.length-1)))
theorem zso(a:List (List Rat))(t:List Nat)(m:Nat):∀j,wtJ (a.map fzs) t m j=Zk6 a t m j
 | 0=>rfl
 | j+1=>by
  rw[wtJ,Zk6,zso a t m j];unfold wtS Zmu Zb7;rw[List.map_map];simp only[Function.comp_def,zmq]
theorem z40(a:List (List Rat))(t:List Nat)(m:Nat)(w:List Rat):wtQ (a.map fzs) t m (fzs w)=wtP a t m w:=by
 unfold wtQ wtP;rw[zso,zmq]
def Zl3(a:List (List Rat))(m:Nat)(w:List Rat)(n:Nat):Bool:=(trs n).all fun t=>decide (wtP a t m w*(Zf0 t:Nat)=1)
def Zi6(a:List (List Rat))(m:Nat)(w:List Rat):Nat→Nat→Nat
 | 0,n=>n
 | f+1,n=>if Zl3 a m w (n+1) then Zi6 a m w f (n+1) else n
def Zj9(p:List UInt8×List Rat×List (List Rat)×List Rat×List Rat)(w:List Rat):Nat:=if w.length=p.2.2.2.1.length then Zi6 p.2.2.1 p.2.2.2.1.length w 5 0 else 0
def Zif:Nat→Nat×Nat
 | 0=>(1,0)
 | 1=>(2,1)
 | 2=>(2,1)
 | 3=>(4,0)
 | 4=>(3,2)
 | 5=>(5,4)
 | _=>(0,0)
theorem zzj:∀i,i<6→(Zj9 (Zg6 i) (Zg6 i).2.2.2.1,Zj9 (Zg6 i) (Zg6 i).2.2.2.2)=Zif i:=by decide +kernel
theorem zsp(p:List UInt8×List Rat×List (List Rat)×List Rat×List Rat)(h:okS (smQ p)=true)(w:List Rat):Zgc (smQ p) (fzs w)=Zj9 p w:=by
 have eb:(smQ p).b.length=p.2.2.2.1.length:=by unfold smQ;simp
 have ea:(smQ p).a=p.2.2.1.map fzs:=rfl;by_cases hw:w.length=p.2.2.2.1.length
 ·have ho:wOk (smQ p) (fzs w)=true:=by
   unfold wOk;rw[h,eb,zar,hw];simp
  have hh:∀n,Zh6 (smQ p) (fzs w) n=Zl3 p.2.2.1 p.2.2.2.1.length w n:=by
   intro n;unfold Zh6 Zl3 Zey;rw[ho,eb,ea];simp only[z40,Yc3]
  have key:∀f n,Zgb (smQ p) (fzs w) f n=Zi6 p.2.2.1 p.2.2.2.1.length w f n:=by
   intro f
   induction f with
   | zero=>intro n;rfl
   | succ f ih=>intro n;rw[Zgb,Zi6,hh,ih]
  unfold Zgc Zj9;rw[if_pos hw,key]
 ·have ho:wOk (smQ p) (fzs w)=false:=by
   unfold wOk;rw[eb,zar];simp[hw]
  have h1:Zh6 (smQ p) (fzs w) 1=false:=by
   unfold Zh6 Zey;rw[ho]
   rfl
  unfold Zgc Zj9;rw[if_neg hw,Zgb,h1]
  rfl
theorem z41:∀i,i<6→(Zg6 i).2.2.2.1.length≤7:=by decide
theorem zkz:∀(l:List (List Fz)) (i k:Nat) (r:List Fz),Zb4 l i=true→l[k]? = some r→r.length=i+k
 | [],i,k,r,_,h=>by simp at h
 | a::l,i,k,r,hs,h=>by
  rw[Zb4,Yj,decide_eq_true_eq]at hs;cases k with
  | zero=>
   rw[Ydj]at h;cases h;exact hs.1
  | succ k=>
   rw[Ydh]at h;have:=zkz l (i+1) k r hs.2 h;omega
theorem zxm{s:Sm}(hs:SmS s)(hb:s.b.length≤7)(ha:∀r∈s.a,∀x∈r,fsz x≤2):SmW s:=by
 refine⟨hs,hb,fun ok=>?_⟩;obtain⟨H,_⟩:=zjb ok;exact⟨H.al,fun k r h=>⟨by have:=zkz _ _ k r H.sh h;omega,ha r (Yf h)⟩⟩
theorem zzk{i:Nat}(h:i<6):SmW (Zcq i):=by
 have ok:=zok h;refine zxm (z5j ok) (by have:=z41 i h;unfold Zcq smQ;simpa using this) ?_;have hq:=zm5 i h;unfold okQ at hq;simp only[Yj,decide_eq_true_eq,Ya2]at hq;obtain⟨⟨⟨⟨⟨⟨_,_⟩,h3⟩,_⟩,_⟩,_⟩,_⟩:=hq;intro r hr x hx;obtain⟨q,hq,rfl⟩:=Yz.1 hr;obtain⟨z,hz,rfl⟩:=Yz.1 hx;rw[zav];have:=ze2 (Yh.1 (Yh.1 h3 q hq) z hz);omega
theorem z42{i:Nat}(h:i<6):(∀x∈(Zcq i).b,fsz x≤10)∧∀x∈(Zcq i).e,fsz x≤10:=by
 have hq:=zm5 i h;unfold okQ at hq;simp only[Yj,decide_eq_true_eq,Ya2]at hq;obtain⟨⟨⟨⟨⟨⟨_,_⟩,_⟩,⟨h4,_⟩,h6⟩,_⟩,_⟩,_⟩:=hq;constructor
 ·intro x hx;obtain⟨z,hz,rfl⟩:=Yz.1 hx;rw[zav];have:=ze2 (Yh.1 h4 z hz);omega
 ·intro x hx;obtain⟨z,hz,rfl⟩:=Yz.1 hx;rw[zav];have:=ze2 (Yh.1 h6 z hz);omega
section
variable{T:Tbl}[Zy T][Zn T][Zs T][Zw T][Zq T][Zk T][Zx T][Zaz T][Ze T][Zf T][Zr T][Za9 T][Zaa T][Zae T][Zcn T][Zaj T][Zbj T][Zcl T][Zbq T][Zay T][Zb1 T][Zdg T][Zdf T][Zab T][Zbn T][Zcg T][Zex T][Zbe T][Z1 T][Zao T][Zf9 T][Zcx T][Z9 T][Z7 T][Ze7 T][Zfv T]
theorem zvz{i:Nat}(h:i<6):Za T 604 [esm (Zcq i)]=some (.tup [.i .i64 ((Zif i).1:Nat),.i .i64 ((Zif i).2:Nat)]):=by
 have c:=zpz (T:=T) (Zcq i) (zzk h) (z42 h).1 (z42 h).2;have e:=zzj i h;have e1:=zsp (Zg6 i) (zok h) (Zg6 i).2.2.2.1;have e2:=zsp (Zg6 i) (zok h) (Zg6 i).2.2.2.2;rw[show Zgc (Zcq i) (Zcq i).b=_ from e1,show Zgc (Zcq i) (Zcq i).e=_ from e2]at c;rw[c,←e]
theorem zmr:Za T 588 []=some (.b true):=by
 have hcut:∀l:List UInt8,l.length≤1000000→Za T 184 [.s l,.s [124]]=some (.tup [.s (hdC 124 l),.s (tlC 124 l),.b (l.contains 124)]):=fun l h=>by rw[p184,zik l h];rfl
 have c1:=zt9 (T:=T) hcut [104,101,117,110];have e1:Zlc [104,101,117,110]=Zcq 1:=rfl;have e2:Zld [104,101,117,110]=true:=rfl;rw[e1,e2]at c1;have c2:=zvz (T:=T) (i:=1) (by decide);rw[show ((Zif 1).1:Nat)=2 from rfl,show ((Zif 1).2:Nat)=1 from rfl,show (((2:Nat):Int))=2 from rfl,show (((1:Nat):Int))=1 from rfl]at c2;have c3:=zg6 (T:=T) 3 (by decide) (by decide);have hl3:(Zac (trs 3)).length=2:=rfl;have hw3:=zbr (trs 3);obtain⟨ht,hs⟩:Ziq [0,1,2]=true∧Zbh (Zbi [0,1,2])=true:=by decide
 have c4:=zew (T:=T) (zuq ht) hs;have e4:Zf0 [0,1,2]=6:=by decide
 rw[e4]at c4;have e5:Zi [0,1,2]=[[.i .i64 0],[.i .i64 1],[.i .i64 2]]:=rfl;rw[e5,show (((6:Nat):Int))=6 from rfl]at c4;rw[show (((3:Nat):Int))=3 from rfl]at c3;clear hcut e1 e2;generalize Zcq 1=S at *
 obtain⟨nm,C,M,B,E⟩:=S;generalize Zac (trs 3)=R at *
 rw[zab Zfv.h588 rfl,b588];simp -implicitDefEqProofs[c1,c2,c3,c4,hl3,hw3]
def Zqy(l:List Int)(L:List (List Nat))(i:Nat):St:=⟨[(1,.sl (ints l) .an),(5,.sl (Zac L) .an),(6,.sl (Zac L) .an),(7,.i .i64 i)],[],2⟩
end
class Znq (T:Tbl):Prop where
class Zl0 (T:Tbl):Prop where
class Zj6 (T:Tbl):Prop where
class Zj5 (T:Tbl):Prop where
section
variable{T:Tbl}[Zy T][Zn T][Zs T][Zw T][Zq T][Zk T][Ze T][Zf T][Zr T][Zaa T][Zae T][Zbj T][Zbq T][Zay T][Zb1 T][Zdg T][Zdf T][Zx T][Zaz T][Zab T][Zbn T][Zj5 T]
def Zpj(m:List (List Fz))(r:List Fz)(j i:Nat):St:=⟨[(7,.sl (Zp m) .an),(8,.i .i64 m.length),(9,.i .i64 j),(13,.sl (Zc r) .an),(14,.i .i64 r.length),(15,.i .i64 i)],[],2⟩
def Zpk(m:List (List Fz))(i:Nat):St:=⟨[(7,.sl (Zp m) .an),(8,.i .i64 m.length),(9,.i .i64 i)],[],2⟩
def bxH(h:Hs):Box:=⟨1,.str,5,[[.sl (Zd3 h.l) .an,.b h.t.1,.sl (Zb h.t.2.1) .an,.sl (Zb h.t.2.2) .an,.sl (Zc h.y) .an]]⟩
def Zpl(h:Hs)(i:Nat):St:=⟨[(1,.ptr (.loc 1) 1 5 0 0),(6,.sl (Zd3 h.l) .an),(7,.i .i64 h.l.length),(8,.i .i64 i)],[(.loc 1,bxH h)],3⟩
def Zq4(l:List Tr)(i:Nat):St:=⟨[(6,.sl (Zd3 l) .an),(7,.i .i64 l.length),(8,.i .i64 i)],[],2⟩
def Zq5(h:Hs)(i:Nat):St:=⟨[(1,.ptr (.loc 1) 1 5 0 0),(8,.sl (Zd3 h.l) .an),(9,.i .i64 h.l.length),(10,.i .i64 i)],[(.loc 1,bxH h)],3⟩
theorem HsS.mono{h:Hs}{A B:Nat}(hs:HsS h A)(hAB:A≤B):HsS h B:=
 ⟨hs.len,Yc hs.t hAB,fun x hx=>Yc (hs.y x hx) hAB,hs.yl,fun r hr x hx=>Yc (hs.rt r hr x hx) hAB,fun r hr x hx=>Yc (hs.ry r hr x hx) hAB,hs.rl⟩
def Zq6(l:List Tr)(i n:Nat):St:=⟨[(3,.bs (.loc 3) 1 14 0 n),(8,.sl (Zd3 l) .an),(9,.i .i64 l.length),(10,.i .i64 i)],[(.loc 3,⟨1,.own,14,Zd3 (Zlf (l.take i))⟩)],3⟩
end
section
variable{T:Tbl}[Zy T][Zn T][Zs T][Zw T][Zq T][Zk T][Ze T][Zf T][Zr T][Zaa T][Zae T][Zbj T][Zbq T][Zay T][Zb1 T][Zdg T][Zdf T][Zx T][Zaz T][Zab T][Zbn T][Zj5 T][Zj6 T]
def Zq7(A:List Tr)(i:Nat):St:=⟨[(3,.bs (.loc 3) 1 3 0 i),(7,.sl (Zd3 A) .an),(8,.i .i64 A.length),(9,.i .i64 i)],[(.loc 3,⟨1,.own,3,Zc ((A.take i).map (·.h))⟩)],3⟩
def Zq8(h:Hs)(A:List Tr)(i:Nat):St:=⟨[(1,.ptr (.loc 1) 1 5 0 0),(4,.bs (.loc 4) 2 3 0 i),(5,.bs (.loc 5) 3 1 0 i),(9,.sl (Zd3 A) .an),(10,.i .i64 A.length),(11,.i .i64 i)],
 [(.loc 1,bxH h),(.loc 4,⟨2,.own,3,Zc ((A.take i).map (·.t))⟩),(.loc 5,⟨3,.own,1,Zp ((A.take i).map (·.y))⟩)],5⟩
end
def Zsj(t h s:Rat):Rat:=(s-t)/h
def Zsk(h x y:Rat):List Rat:=[y*y*(1+2*x),x*x*(3 + -2*x),h*x*y*y,h*x*x * -y]
def Zsl(h x y:Rat):List Rat:=[-(6*x*y/h),6*x*y/h,y*(1 + -3*x),x*(-2+3*x)]
def Zsm(c:List Rat)(y0 y1 f0 f1:List Fz):List Rat:=Zmx ((fzs c).zip [y0,y1,f0,f1]) (List.replicate y0.length 0)
def Zm7(s:Rat):List Fz→Nat→Option Nat
 | [],_=>none
 | t::l,i=>if s≤fv t then some i else Zm7 s l (i+1)
def Zsn(s:Rat):List Fz→Option Nat
 | []=>none
 | t::l=>if s<fv t then none else Zm7 s l 0
def Zos:Option Nat→AV
 | some i=>.tup [.i .i64 i,.b true]
 | none=>.tup [.i .i64 (-1),.b false]
section
variable{T:Tbl}[Zy T][Zn T][Zs T][Zw T][Zq T][Zk T][Ze T][Zf T][Zr T][Zaa T][Zae T][Zbj T][Zbq T][Zay T][Zb1 T][Zdg T][Zdf T][Zx T][Zaz T][Zab T][Zbn T][Zj5 T][Zj6 T][Zbe T][Z1 T][Zml T][Zlp T][Zl0 T]
def Zso(s:Fz)(l:List Fz)(i:Nat):St:=⟨[(3,.ptr (.loc 3) 1 3 0 0),(25,.sl (Zc l) .an),(26,.i .i64 l.length),(27,.i .i64 i)],[(.loc 3,⟨1,.str,3,[Zbk s]⟩)],3⟩
def Zqg:Option Nat→Ex×St
 | some i=>(.r,⟨[(4,.i .i64 i),(5,.b true)],[],2⟩)
 | none=>(.n,⟨[],[],2⟩)
end
def Zmt(t:Tp)(many words:Nat):Bool:=((t.code.take many).any fun i=>decide (words<fsz i.n)) || decide (many<t.code.length) || decide (many<t.outs.length)
def Zpd(x:PoF)(many words:Nat):Bool:=decide (words<fsz x.t) || Zag x.y many words || Zag x.p many words
section
variable{T:Tbl}[Zaq T][Zar T][Zai T][Zas T][Za3 T][Zba T][Zav T][Zbb T][Zdj T][Zc9 T][Zh2 T]
def Zqv(t:Tp)(many words i:Nat):St:=⟨[(1,.i .i64 many),(2,.i .i64 words),(3,.ptr (.loc 3) 1 4 0 0),(7,.i .i64 i)],[(.loc 3,bxT t)],3⟩
def Zqw(t:Tp)(many:Nat):Ex×St:=(.n,⟨[(1,.i .i64 many),(3,.ptr (.loc 3) 1 4 0 0)],[(.loc 3,bxT t)],3⟩)
@[simp] theorem zadl(l:List Int):Option.all (fun r=>decide (r.length=1)) (ints l).head? = true:=by cases l<;>rfl
def fC:BId:=.fld (.loc 3) 0
def Zqx(t:Tp)(i:Nat):St:=⟨[(1,.ptr (.loc 1) 1 4 0 0),(2,.ptr (.loc 2) 2 4 0 0),(3,.ptr (.loc 3) 3 4 0 0),(4,.i .i64 i)],
 [(.loc 1,bxT t),(.loc 2,⟨2,.str,4,[[.sl [] .an,.sl [] .an,.i .i64 0,.i .i64 0]]⟩),(.loc 3,⟨3,.str,4,[[.bs fC 4 6 0 i,.bs (.loc 13) 5 1 0 t.outs.length,.i .i64 t.dim,.i .i64 t.par]]⟩),(fC,⟨4,.own,6,Zi1 (t.code.take i)⟩),(.loc 13,⟨5,.own,1,ints t.outs⟩)],7⟩
end
def Zcp(s:Sm)(many words:Nat):Bool:=decide (50<s.nm.length) || decide (many<s.a.length) || Zag s.b many words || Zag s.c many words || Zag s.e many words || s.a.any fun r=>Zag r many words
def Zn5(p:Pb)(many stages words:Nat):Bool:=Zmt p.t many words || Zcp p.s stages 4 || Zag p.p 6 words
def Zmw(r:Tr)(words:Nat):Bool:=Zag r.nums 4 words || Zag r.y 8 words
def Zph(h:Hs)(many words:Nat):Bool:=decide (many<h.l.length) || decide (words<fsz h.t) || Zag h.y 8 words || h.l.any fun r=>Zmw r words
theorem zk5{s:Sm}{many words:Nat}(h:Zcp s many words=false)(hm:many≤1000)(hw:words≤300):SmS s∧(∀x∈s.c,fsz x≤words)∧s.b.length≤many∧s.a.length≤many∧s.c.length≤many∧s.e.length≤many∧(∀r∈s.a,r.length≤many):=by
 unfold Zcp at h;simp only[Bool.or_eq_false_iff,decide_eq_false_iff_not,List.any_eq_false]at h;obtain⟨⟨⟨⟨⟨h1,h2⟩,h3⟩,h4⟩,h5⟩,h6⟩:=h;obtain⟨b1,b2⟩:=za7 h3;obtain⟨c1,c2⟩:=za7 h4;obtain⟨e1,e2⟩:=za7 h5;have ha:∀r∈s.a,r.length≤many∧∀x∈r,fsz x≤words:=fun r hr=>za7 (by grind);exact⟨⟨by omega,by omega,by omega,by omega,by omega,fun x hx=>Yc (c2 x hx) hw,fun r hr=>⟨Yc (ha r hr).1 hm,fun x hx=>Yc ((ha r hr).2 x hx) hw⟩,fun x hx=>Yc (b2 x hx) hw,fun x hx=>Yc (e2 x hx) hw⟩,c2,b1,by omega,c1,e1,fun r hr=>(ha r hr).1⟩
section
variable{T:Tbl}[Zy T][Zn T][Zs T][Zw T][Zq T][Zk T][Ze T][Zf T][Zr T][Zaa T][Zae T][Zbj T][Zbq T][Zay T][Zb1 T][Zdg T][Zdf T][Zx T][Zaz T][Zab T][Zbn T]
variable[Zaq T][Zar T][Zai T][Zas T][Za3 T][Zba T][Zav T][Zbb T][Zfw T][Zdj T][Zc9 T][Ze6 T][Zhl T][Zh2 T][Zeo T][Zhm T]
def Zka(s:Sm):Box:=⟨1,.str,5,[[.s s.nm,.sl (Zc s.c) .an,.sl (Zp s.a) .an,.sl (Zc s.b) .an,.sl (Zc s.e) .an]]⟩
def Zho(s:Sm)(many words i:Nat):St:=⟨[(1,.i .i64 many),(2,.i .i64 words),(3,.ptr (.loc 3) 1 5 0 0),(7,.i .i64 i)],[(.loc 3,Zka s)],3⟩
theorem zpw(s:Sm)(many words:Nat)(hm:many≤1000):Za T 515 [esm s,.i .i64 many,.i .i64 words]=some (.b (Zcp s many words)):=by
 have cb:=zbw (T:=T) s.b many words hm;have cc:=zbw (T:=T) s.c many words hm;have ce:=zbw (T:=T) s.e many words hm;have hlp:s.a.length≤many→Zv T 0 0 (.norm false []) l515_0 (Zho s many words 0)=if (s.a.drop 0).any (fun r=>Zag r many words)=true then some (.r,⟨[(6,.b true)],[],2⟩) else some (.n,⟨[],[],2⟩):=by
  intro hl;refine za3 (Zho s many words) s.a.length (fun i=>if (s.a.drop i).any (fun r=>Zag r many words)=true then some (.r,⟨[(6,.b true)],[],2⟩) else some (.n,⟨[],[],2⟩)) (fun i hi=>?_) ?_
  ·have hi':(i:Int)<s.a.length:=by omega
   have hws:=zb8 hi (by omega);have c:=zbw (T:=T) (s.a[i]'hi) many words hm;have key:(s.a.drop i).any (fun r=>Zag r many words)=(Zag (s.a[i]'hi) many words || (s.a.drop (i+1)).any fun r=>Zag r many words):=by rw[Yq hi,List.any_cons]
   generalize hq:s.a[i]'hi=q at *
   obtain⟨nm,c',a,b,e⟩:=s;cases hL:Zag q many words with
   | true=>
    right;rw[hL]at c;rw[if_pos (by rw[key,hL,Bool.true_or])];unfold Zho Zka;constructor<;>simp -implicitDefEqProofs[l515_0,hi,hi',hq,c]
   | false=>
    left;rw[hL]at c;refine⟨?_,by grind⟩;unfold Zho Zka;simp -implicitDefEqProofs[l515_0,hi,hi',hq,hws,c]
  ·simp only[Yag,List.any_nil,Yaw,if_false];unfold Zho Zka;constructor<;>simp -implicitDefEqProofs[l515_0]
 rw[Yaz]at hlp;unfold Zho Zka at hlp;unfold Zcp;rw[zab Zeo.h515 rfl,b515];obtain⟨nm,c,a,b,e⟩:=s;dsimp only at *
 by_cases h1:50<nm.length
 ·have h1':(50:Int)<nm.length:=by omega
  simp -implicitDefEqProofs[h1,h1']
 have h1':¬ (50:Int)<nm.length:=by omega
 by_cases h2:many<a.length
 ·have h2':(many:Int)<a.length:=by omega
  simp -implicitDefEqProofs[h1,h1',h2,h2']
 have h2':¬ (many:Int)<a.length:=by omega
 have hl:=hlp (by omega);generalize Zag b many words=B1 at *
 generalize Zag c many words=B2 at *
 generalize Zag e many words=B3 at *
 generalize a.any (fun r=>Zag r many words)=B4 at *
 cases B1 with
 | true=>simp -implicitDefEqProofs[h1,h1',h2,h2',cb]
 | false=>
 cases B2 with
 | true=>simp -implicitDefEqProofs[h1,h1',h2,h2',cb,cc]
 | false=>
 cases B3 with
 | true=>simp -implicitDefEqProofs[h1,h1',h2,h2',cb,cc,ce]
 | false=>
  cases B4<;>simp at hl<;>simp -implicitDefEqProofs[h1,h1',h2,h2',cb,cc,ce,hl]
def Zn6(h:Hs):Box:=⟨1,.str,5,[[.sl (Zd3 h.l) .an,.b h.t.1,.sl (Zb h.t.2.1) .an,.sl (Zb h.t.2.2) .an,.sl (Zc h.y) .an]]⟩
def Zpi(h:Hs)(words i:Nat):St:=⟨[(2,.i .i64 words),(3,.ptr (.loc 3) 1 5 0 0),(7,.i .i64 i)],[(.loc 3,Zn6 h)],3⟩
theorem zv9(s:Sm)(hs:SmS s):Za T 527 [esm s]=some (esm s):=by
 have c1:=zdv (T:=T) s.c (by have:=hs.cl;omega);have c2:=zvy (T:=T) s.a (by have:=hs.al;omega) (fun r hr=>by have:=(hs.a r hr).1;omega);have c3:=zdv (T:=T) s.b (by have:=hs.bl;omega);have c4:=zdv (T:=T) s.e (by have:=hs.el;omega);rw[zab Zhm.h527 rfl,b527];obtain⟨nm,c,a,b,e⟩:=s;simp -implicitDefEqProofs[c1,c2,c3,c4]
def Zq0(h:Hs)(i:Nat):St:=⟨[(1,.ptr (.loc 1) 1 5 0 0),(2,.ptr (.loc 2) 2 5 0 0),(3,.ptr (.loc 3) 3 5 0 0),(4,.i .i64 i)],
 [(.loc 1,bxH h),(.loc 2,⟨2,.str,5,[[.sl [] .an,.b false,.sl [] .an,.sl [] .an,.sl [] .an]]⟩),(.loc 3,⟨3,.str,5,[[.bs fC 4 14 0 i,.b h.t.1,.sl (Zb h.t.2.1) .an,.sl (Zb h.t.2.2) .an,.sl (Zc h.y) .an]]⟩),(fC,⟨4,.own,14,Zd3 (h.l.take i)⟩)],6⟩
end
section
variable{T:Tbl}[Zh4 T]
def Zro(s:List UInt8)(i:Nat)(note:Bool)(acc:List Wd):St:=
 ⟨[(0,.s s),(4,.bs (.loc 4) 1 3 0 acc.length),(5,.b note),(6,.i .i64 i)],[(.loc 4,⟨1,.own,3,Zhn acc⟩)],3⟩
def Zpx:Except Nat (List Wd)→Option (Ex×St)
 | .ok ws=>some (.n,⟨[(4,.bs (.loc 4) 1 3 0 ws.length)],[(.loc 4,⟨1,.own,3,Zhn ws⟩)],3⟩)
 | .error e=>some (.r,⟨[(2,.sl [] .an),(3,.i .i64 e)],[],2⟩)
def Zoe(acc:List Wd)(i:Nat):Prop:=∀k t a,acc.getLast? = some (k,t,a)→a+t.length≤i
def Zof(r:Except Nat (List Wd)):AV:=
 match r with
 | .ok ws=>.tup [.sl (Zhn ws) .an,.i .i64 (-1)]
 | .error e=>.tup [.sl [] .an,.i .i64 e]
end
def Zrp(k:Int)(t:List UInt8):Except Nat (List Wd)→Bool
 | .ok [(k',t',_)]=>decide ((k':Int)=k)&&decide (t'=t)
 | _=>false
section
variable{T:Tbl}[Zaq T][Zar T][Zai T][Zas T][Za3 T][Zba T][Zav T][Zbb T][Zgx T][Zh5 T]
def Zpy(l:List Fz)(i:Nat):St:=⟨[(0,.sl (Zc l) .an),(3,.i .i64 i)],[],2⟩
def Zpz(l:List Rat)(i:Nat):St:=⟨[(0,.sl (Zc (fzs l)) .an),(2,.ptr (.loc 2) 1 3 0 0),(3,.ptr (.loc 3) 2 3 0 0),(4,.i .i64 i)],
 [(.loc 2,⟨1,.str,3,[Zdz]⟩),(.loc 3,⟨2,.str,3,[Zbk (fz (sumF ((fzs l).take i)))]⟩)],4⟩
end
section
variable{T:Tbl}[Zaq T][Zar T][Zai T][Zas T][Za3 T][Zba T][Zav T][Zbb T][Zgx T][Zh4 T][Zh5 T]
def Zp0(s:Sm)(i:Nat):St:=⟨[(1,.ptr (.loc 1) 1 5 0 0),(3,.i .i64 s.b.length),(4,.i .i64 i)],[(.loc 1,bxS s)],3⟩
def Zp1(s:Sm)(i:Nat):St:=⟨[(1,.ptr (.loc 1) 1 5 0 0),(3,.i .i64 s.b.length),(5,.i .i64 i)],[(.loc 1,bxS s)],3⟩
def Zp2(s:Sm)(i:Nat):St:=⟨[(1,.ptr (.loc 1) 1 5 0 0),(3,.i .i64 s.b.length),(6,.i .i64 i)],[(.loc 1,bxS s)],3⟩
end
theorem zv1{s:Sm}{many words:Nat}(h:Zcp s many words=false):(∀r∈s.a,∀x∈r,fsz x≤words)∧(∀x∈s.b,fsz x≤words)∧∀x∈s.e,fsz x≤words:=by
 unfold Zcp at h;simp only[Bool.or_eq_false_iff,decide_eq_false_iff_not,List.any_eq_false]at h;obtain⟨⟨⟨⟨⟨h1,h2⟩,h3⟩,h4⟩,h5⟩,h6⟩:=h;exact⟨fun r hr=>(za7 (by simpa using h6 r hr)).2,(za7 h3).2,(za7 h5).2⟩
theorem zzl{s:Sm}(h:okS s=true):sumF s.b=1:=by
 have h0:=of_decide_eq_true h;unfold Zcs at h0;split at h0
 ·cases h0
 split at h0
 ·cases h0
 split at h0
 ·cases h0
 split at h0
 ·cases h0
 split at h0
 ·cases h0
 ·rename_i h5;exact Classical.byContradiction fun hn=>h5 hn
theorem zv0:∀(b:List Fz) (m:Nat),b.length=m→Zbs b (fzs (List.replicate m 1))=sumF b:=by
 intro b m hm;have key:∀(b:List Fz) (q:Rat),b.foldl (fun s x=>s+fv x) q=q+Zbs b (fzs (List.replicate b.length 1)):=by
  intro b
  induction b with
  | nil=>intro q;simp[Zbs,Rat.add_zero]
  | cons x b ih=>
   intro q;rw[Yc6,ih,Yk,Yav];show _=q+(fv x*fv (fz 1)+Zbs b (fzs (List.replicate b.length 1)));rw[zby,Rat.mul_one,Rat.add_assoc]
 subst hm;unfold sumF;rw[key,Ydu]
theorem zsq(c:Rat):∀(u v N:List Fz),u.length=v.length→Zbs (fzs (Zax ((scl c u).map fv) v)) N=c*Zbs u N+Zbs v N
 | [],[],N,_=>by
  show (0:Rat)=c*0+0;rw[Rat.mul_zero,Ydu]
 | [],_::_,_,h=>by simp at h
 | _::_,[],_,h=>by simp at h
 | x::u,y::v,[],_=>by
  show (0:Rat)=c*0+0;rw[Rat.mul_zero,Ydu]
 | x::u,y::v,z::N,h=>by
  have ih:=zsq c u v N (by simpa using h);show fv (fz (fv (fz (c*fv x))+fv y))*fv z+Zbs (fzs (Zax ((scl c u).map fv) v)) N=c*(fv x*fv z+Zbs u N)+(fv y*fv z+Zbs v N);rw[ih,zby,zby]
  grind
section
variable{T:Tbl}[Zy T][Zaq T][Zar T][Zai T][Zas T][Za3 T][Zba T][Zav T][Zbb T][Zgx T][Zh4 T][Zfw T][Zdj T][Zc9 T][Ze6 T][Zh2 T][Zhl T][Zeo T][Zhm T][Zh5 T][Zn T][Zs T][Zw T][Zq T][Zk T][Zx T][Zaz T][Ze T][Zf T][Zr T][Za9 T][Zaa T][Zae T][Zcn T][Zaj T][Zbj T][Zcl T][Zbq T][Zay T][Zb1 T][Zdg T][Zdf T][Zab T][Zbn T][Zcg T][Zex T][Zbe T][Z1 T][Zao T][Zf9 T][Zcx T][Z9 T][Z7 T][Ze7 T][Zfh T][Zfv T][Zdy T]
theorem zsr(a b:List Fz)(ha:a.length≤1000)(hb:b.length≤1000)(za:∀x∈a,fsz x≤400)(zb:∀x∈b,fsz x≤400) :
  Za T 267 [.sl [[.sl (Zc a) .an],[.sl (Zc b) .an]] .an]=some (.tup [.sl (if b.length=a.length then Zc (fzs (Zax (a.map fv) b)) else []) .an,.b (decide (b.length=a.length))]):=by
 by_cases h:b.length=a.length
 ·rw[if_pos h,decide_eq_true h];exact zz9 (T:=T) a [b] ha (by simp) (B:=400) za (fun r hr x hx=>by rw[Yb4.1 hr]at hx;exact zb x hx) (by decide) (by simp) (fun r hr=>by rw[Yb4.1 hr];exact h)
 ·rw[if_neg h,decide_eq_false h];exact zli (T:=T) a b [] ha (fun x hx=>Yc (za x hx) (by decide)) (by decide) h
theorem zdw(s:Sm)(S:SmS s)(SW:SmW s)(hs:Zcp s 4 2=false)(w:List Fz)(hw:w.length≤1000)(hx:∀x∈w,fsz x≤10)(l:List Int)(hl:l.length≤1000)(hlw:∀x∈l,-9223372036854775808≤x∧x<9223372036854775808) :
  ∃v:Rat,Za T 617 [esm s,.sl (Zc w) .an,.sl (ints l) .an]=some (.tup [efz (fz v),.b (okS s&&decide (w.length=s.b.length)&&Zbh l)])∧sz v≤26000 ∧
   ((okS s&&decide (w.length=s.b.length)&&Zbh l)=true→∀t,l=Zbi t→v=wtQ s.a t s.b.length w):=by
 cases hm:(okS s&&decide (w.length=s.b.length)&&Zbh l) with
 | false=>exact⟨0,zey (T:=T) s S w l hl hlw hm,by rw[zfo];omega,by simp⟩
 | true=>
  simp only[Yj,decide_eq_true_eq]at hm;obtain⟨⟨m1,m2⟩,m3⟩:=hm;obtain⟨t,ht,e,hc⟩:=zlt m3;subst e;have htr:=zuq hc;obtain⟨A1,A2⟩:=SW.a m1;have q1:=zfs (T:=T) s S w t htr m3 SW.b m1 m2 A1 A2 hx;rw[zod];exact⟨_,q1,zxo htr SW.b m2 A1 A2 hx,fun _ t' h'=>by rw[zlu h']⟩
theorem zk0(s:Sm)(p q:List Fz)(l:List Int)(hlw:∀x∈l,-9223372036854775808≤x∧x<9223372036854775808)(c:Fz) :
  Za T 640 [esm s,.agg [.sl (Zc p) .an,.sl (Zc q) .an],.sl (ints l) .an,efz c]=some (.b true):=by
 have wk:=zmr (T:=T);have c1:Za T 515 [esm s,.i .i64 4,.i .i64 2]=some (.b (Zcp s 4 2)):=zpw (T:=T) s 4 2 (by decide);have c2:Za T 286 [.sl (Zc p) .an,.i .i64 6,.i .i64 2]=some (.b (Zag p 6 2)):=zbw (T:=T) p 6 2 (by decide);have c3:Za T 286 [.sl (Zc q) .an,.i .i64 6,.i .i64 2]=some (.b (Zag q 6 2)):=zbw (T:=T) q 6 2 (by decide);have c4:Za T 247 [efz c,.i .i64 2]=some (.b (decide (2<fsz c))):=zfh (T:=T) c 2;have hwl:=zhe l;have hll:=zm8 l;have hwp:=zdm p;have hwq:=zdm q
 -- what is too long
 by_cases hg:Zcp s 4 2=true∨Zag p 6 2=true∨Zag q 6 2=true∨8<l.length∨2<fsz c
 ·have h8:((8:Int)<l.length)↔8<l.length:=by omega
  rw[zab Zdy.h640 rfl,b640];clear hlw;generalize Zcp s 4 2=b1 at *
  generalize Zag p 6 2=b2 at *
  generalize Zag q 6 2=b3 at *
  have hd:decide (2<fsz c)=true↔2<fsz c:=by simp
  rw[←hd]at hg;clear hd;generalize decide (2<fsz c)=b4 at *
  obtain⟨nm,C,M,B,E⟩:=s;obtain⟨c0,ca,cd⟩:=c;generalize ints l=I at *
  cases b1 with
  | true=>simp -implicitDefEqProofs[c1,wk,hwl]
  | false=>
  cases b2 with
  | true=>simp -implicitDefEqProofs[c1,c2,wk,hwl]
  | false=>
  cases b3 with
  | true=>simp -implicitDefEqProofs[c1,c2,c3,wk,hwl]
  | false=>
  by_cases h9:8<l.length
  ·simp -implicitDefEqProofs[c1,c2,c3,wk,hwl,hll,h8,h9]
  ·have hb4:b4=true:=by simpa[h9]using hg
   subst hb4;simp -implicitDefEqProofs[c1,c2,c3,c4,wk,hwl,hll,h8,h9]
 have n1:Zcp s 4 2=false:=by
  cases h:Zcp s 4 2 with
  | false=>rfl
  | true=>exact absurd (.inl h) hg
 have n2:Zag p 6 2=false:=by
  cases h:Zag p 6 2 with
  | false=>rfl
  | true=>exact absurd (.inr (.inl h)) hg
 have n3:Zag q 6 2=false:=by
  cases h:Zag q 6 2 with
  | false=>rfl
  | true=>exact absurd (.inr (.inr (.inl h))) hg
 have n4:¬ 8<l.length:=fun h=>hg (.inr (.inr (.inr (.inl h))));have n5:¬ 2<fsz c:=fun h=>hg (.inr (.inr (.inr (.inr h))));rw[n1]at c1;rw[n2]at c2;rw[n3]at c3;rw[decide_eq_false n5]at c4;have h8:¬ (8:Int)<l.length:=by omega
 obtain⟨S,_,hb4,ha4,_⟩:=zk5 n1 (by decide) (by decide);obtain⟨w1,w2,w3⟩:=zv1 n1;obtain⟨pn,px⟩:=za7 n2;obtain⟨qn,qx⟩:=za7 n3;have SW:=zxm S (by omega) w1;have t1:=zv9 (T:=T) s S;have t2:=zdv (T:=T) p (by omega);have t3:=zdv (T:=T) q (by omega);have t4:=zn7 (T:=T) c;have r1:=ztg (T:=T) c (by omega) p (by omega) (fun x hx=>Yc (px x hx) (by decide));have hsl:(scl (fv c) p).length=p.length:=by unfold scl;simp
 have cz:=zee (x:=c) (L:=2) (by omega) (by decide);have hsx:∀x∈scl (fv c) p,fsz x≤4:=fun x hx=>by
  unfold scl at hx;obtain⟨y,hy,rfl⟩:=Yz.1 hx;rw[zav];have:=zfw (fv c) (fv y);have:=zee (px y hy) (by decide);omega
 have r2:=zsr (T:=T) (scl (fv c) p) q (by omega) (by omega) (fun x hx=>Yc (hsx x hx) (by decide)) (fun x hx=>Yc (qx x hx) (by decide));rw[hsl]at r2;obtain⟨a,a1,a2,a3⟩:=zdw (T:=T) s S SW n1 p (by omega) (fun x hx=>Yc (px x hx) (by decide)) l (by omega) hlw;obtain⟨b,b1,b2,b3⟩:=zdw (T:=T) s S SW n1 q (by omega) (fun x hx=>Yc (qx x hx) (by decide)) l (by omega) hlw;cases ho:(okS s&&decide (p.length=s.b.length)&&Zbh l) with
 | false=>
  rw[ho]at a1;rw[zab Zdy.h640 rfl,b640];clear a3 b3 hlw n1 n2 n3 S SW w1 w2 w3 px qx hsx ho;generalize (okS s&&decide (q.length=s.b.length)&&Zbh l)=y1 at *
  generalize scl (fv c) p=sc at *
  generalize (if q.length=p.length then Zc (fzs (Zax (sc.map fv) q)) else [])=RR at *
  generalize decide (q.length=p.length)=y2 at *
  obtain⟨nm,C,M,B,E⟩:=s;obtain⟨c0,ca,cd⟩:=c;generalize ints l=I at *
  simp -implicitDefEqProofs[c1,c2,c3,c4,wk,hwl,hll,h8,t1,t2,t3,t4,r1,r2,a1,b1]
 | true=>
 have a4:=a3 ho;rw[ho]at a1;cases hy:(okS s&&decide (q.length=s.b.length)&&Zbh l) with
 | false=>
  rw[hy]at b1;rw[zab Zdy.h640 rfl,b640];clear a3 a4 b3 hlw n1 n2 n3 S SW w1 w2 w3 px qx hsx ho hy;generalize scl (fv c) p=sc at *
  generalize (if q.length=p.length then Zc (fzs (Zax (sc.map fv) q)) else [])=RR at *
  generalize decide (q.length=p.length)=y2 at *
  obtain⟨nm,C,M,B,E⟩:=s;obtain⟨c0,ca,cd⟩:=c;generalize ints l=I at *
  simp -implicitDefEqProofs[c1,c2,c3,c4,wk,hwl,hll,h8,t1,t2,t3,t4,r1,r2,a1,b1]
 | true=>
 have b4:=b3 hy;rw[hy]at b1;have hy0:=hy;simp only[Yj,decide_eq_true_eq]at ho hy;obtain⟨⟨k1,k2⟩,k3⟩:=ho;obtain⟨⟨_,k4⟩,_⟩:=hy;obtain⟨t,_,e,_⟩:=zlt k3;have a5:=a4 t e;have b5:=b4 t e;have hqp:q.length=p.length:=by omega
 rw[if_pos hqp,decide_eq_true hqp]at r2;have hRl:(fzs (Zax ((scl (fv c) p).map fv) q)).length=q.length:=by
  rw[zar,zed (by rw[Ybr,hsl];exact hqp),Ybr,hsl,hqp]
 have hRx:∀x∈fzs (Zax ((scl (fv c) p).map fv) q),fsz x≤10:=by
  intro x hx;obtain⟨z,hz,rfl⟩:=Yz.1 hx;unfold Zax at hz;obtain⟨j,hj⟩:=Y8 hz;rw[List.getElem?_zipWith]at hj;cases h1:((scl (fv c) p).map fv)[j]? with
  | none=>simp[h1]at hj
  | some y1=>
   cases h2:q[j]? with
   | none=>simp[h1,h2]at hj
   | some y2=>
    simp[h1,h2]at hj;obtain⟨y3,hy3,rfl⟩:=Yz.1 (Yf h1);have q1:=zee (hsx y3 hy3) (by decide);have q2:=zee (qx y2 (Yf h2)) (by decide);have q3:=zls (fv y3) (fv y2);rw[zav,←hj];omega
 obtain⟨d,d1,d2,d3⟩:=zdw (T:=T) s S SW n1 (fzs (Zax ((scl (fv c) p).map fv) q)) (by omega) hRx l (by omega) hlw;rw[hRl,hy0]at d1 d3;have d4:=d3 rfl t e;have hlin:d=fv c*a+b:=by
  rw[d4,a5,b5];exact zsq (fv c) p q _ (by omega)
 obtain⟨o,o1,o2,o3⟩:=zdw (T:=T) s S SW n1 s.b (by omega) (fun x hx=>Yc (w2 x hx) (by decide)) [0] (by simp) (by simp);have ho1:(okS s&&decide (s.b.length=s.b.length)&&Zbh [0])=true:=by
  rw[k1];simp[Zbh,Zcr,Zer]
 rw[ho1]at o1 o3;have ho2:o=1:=by
  rw[o3 rfl [0] rfl,←zzl k1];exact zv0 s.b _ rfl
 subst ho2;have hi0:ints [0]=[[.i .i64 0]]:=rfl;rw[hi0]at o1;have f1:=zcz (T:=T) c (fz a) (by omega) (by rw[zav];omega);rw[zby]at f1;have z1:=zfw (fv c) a;have f2:=zes (T:=T) (fz (fv c*a)) (fz b) (by rw[zav];omega) (by rw[zav];omega);rw[zby,zby,←hlin]at f2;have f3:=zdu (T:=T) (fz d) (fz d) (by rw[zav];omega) (by rw[zav];omega);rw[decide_eq_true rfl]at f3;have f4:=zdu (T:=T) (fz 1) (fz 1) (by rw[zav,zij];omega) (by rw[zav,zij];omega);rw[decide_eq_true rfl]at f4;have f5:=zf4 (T:=T);rw[zab Zdy.h640 rfl,b640];have hwR:=zdm (fzs (Zax ((scl (fv c) p).map fv) q));clear a3 a4 a5 b3 b4 b5 d3 d4 o3 hlw n1 n2 n3 S SW w1 w2 w3 px qx hsx hRx hRl e hlin k1 k2 k3 k4 hy0 z1;generalize fzs (Zax ((scl (fv c) p).map fv) q)=RR at *
 generalize scl (fv c) p=sc at *
 generalize fv c*a=ca1 at *
 obtain⟨nm,C,M,B,E⟩:=s;obtain⟨c0,ca,cd⟩:=c;dsimp only at *
 generalize ints l=I at *
 simp -implicitDefEqProofs[c1,c2,c3,c4,wk,hwl,hll,h8,t1,t2,t3,t4,r1,r2,a1,b1,d1,o1,f1,f2,f3,f4,f5,hwR]
end
end Go.Ab