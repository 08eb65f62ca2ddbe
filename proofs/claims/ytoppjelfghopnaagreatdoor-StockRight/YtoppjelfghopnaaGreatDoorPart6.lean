/-
  A calculus of values, boxes and code, and what functions of the program compute, proved in it.
  Conditions: none beyond those that the theorems state. (Part 6: GpFig, GpFig2, NmTxt, NmSchT, GcStep, GpScheme, GpStep, GpSchP1, GpSchP2, GpSchP3, GpSchP4, GpSchP5, GpSchP6, GpSchC1, GpSchC2, GpSchC3, GcRef10, GpRef10, GcRef11b, GcLaw11c, GcLaw11b, GpLaw11b, GpLaw11c, GpRef11b, GpSchC4, GpSchC5, GpSchB1, GpLaw11e, GpSchB2, GpStk1, GpSchC6, GpSchB3, GpStk2, GpStk3.)
-/
import Derived.Test.YtoppjelfghopnaaGreatDoorPart5

set_option linter.unusedSectionVars false
set_option linter.unusedVariables false
set_option linter.unusedSimpArgs false
set_option linter.unnecessarySimpa false

section
namespace Go.Ab
abbrev flt(k a:Int):AV:=.agg [.i .i64 k,.i .i64 0,.i .i64 0,.i .i64 a]
def Ze7(c:UInt8):Bool:=c == 47 || c == 46
def Zx:List UInt8→Nat
 | []=>0
 | c::r=>if Ze7 c then 0 else Zx r+1
theorem zjk:∀s,Zx s≤s.length
 | []=>Yi _
 | c::r=>by
  have:=zjk r;simp only[Zx];split
  ·omega
  ·simp only[Yc];omega
theorem zou:∀s:List UInt8,Lib.indexAny s [47,46]=if Zx s<s.length then (Zx s:Int) else -1
 | []=>rfl
 | c::r=>by
  have ih:=zou r;have hc:([47,46]:List UInt8).contains c=Ze7 c:=by
   rw[Yb3];simp only[Ybi,Ym,Yb8,or_false,Ze7,Ya0,beq_iff_eq]
  have hle:=zjk r;simp only[Lib.indexAny,hc,Zx];by_cases hcut:Ze7 c=true
  ·simp[hcut]
  ·simp only[hcut,if_false,Yc,Yd1,Y8];rw[ih];by_cases h:Zx r<r.length
   ·have e:((Zx r:Int) == -1)=false:=by simp
    simp[h,e]
   ·simp[h]
theorem zov:∀(s:List UInt8),Zx s<s.length→∃c,s[Zx s]? = some c∧(c=47∨c=46)
 | [],h=>by simp at h
 | c::r,h=>by
  simp only[Zx]at h ⊢;cases hc:Ze7 c with
  | true=>
   refine⟨c,by simp,?_⟩;simpa[Ze7]using hc
  | false=>
   rw[hc]at h;simp only[Y8,if_false,Yc,Yd1]at h ⊢;obtain⟨d,h1,h2⟩:=zov r h;exact⟨d,by simpa using h1,h2⟩
theorem zs6{l:List UInt8}(h0:¬ 0≤Z0 l):l.length≤60∧(ofN (rd l)).length≤60:=by
 have h1:Zcl 0 l<0:=by
  unfold Z0 at h0;split at h0
  ·omega
  ·omega
 obtain⟨h2,h3⟩:=zgb 0 l (Yz _) h1;refine⟨by omega,zah (k:=60) ?_⟩;have h4:=zu4 h3;have h5:10^l.length≤10^60:=Yr (by decide) (by omega);exact Yo h4 (Yg h5 (by decide))
def Zey(z:Int)(neg:Bool)(s:List UInt8)(c:UInt8)(at_:Nat):Rat×Int×Int:=
 let rest:=s.drop at_
 if 0≤Z0 rest then (0,1,Z0 rest+at_)
 else if c=47 then (if rd rest=0 then (0,2,at_) else (mkRat z (rd rest),0,0))
 else (mkRat (sg neg (z.natAbs*10^rest.length+rd rest)) (10^rest.length),0,0)
def Zaa(s:List UInt8):Rat×Int×Int:=
 let first:=s.take (Zx s)
 if 0≤Zbd first then (0,1,Zbd first+Zcx first)
 else if Zx s<s.length then Zey (Zap first) (s.head? = some 45) s (s.getD (Zx s) 0) (Zx s+1)
 else (mkRat (Zap first) 1,0,0)
theorem zs7{n:Nat}(h:n≤60):(ofN (10^n)).length≤60:=by
 refine zah (k:=60) ?_;have h5:10^n≤10^60:=Yr (by decide) h;exact Yc3 h5 (by decide)
theorem zs8(l:List UInt8):-1≤Zbd l∧Zbd l≤60∧0≤Zcx l∧Zcx l≤1:=by
 have key:∀l',-1≤Z0 l'∧Z0 l'≤60:=by
  intro l';unfold Z0;split
  ·omega
  ·exact⟨znt 0 l',zhn 0 l' (by decide)⟩
 unfold Zbd Zcx;refine⟨(key _).1,(key _).2,?_,?_⟩<;>split<;>omega
section
variable{T:Tbl}[Zp T][Zv T][Zy T][Zr T][Zu T][Zq T][Zf T][Zn T][Zz T][Za6 T][Zcq T][Zak T][Zcn T]
theorem zjl(n:Bool)(a d:List UInt32)(ha:a.length≤10000)(hd:d.length≤10000) :
  Zb T 204 [wh n a,.sl (Za d) .an]=some (.tup (if val d=0 then [efz (fz 0),.b false] else [efz (fz (mkRat (wv n a) (val d))),.b true])):=by
 have c0:=ze1 (T:=T);have c1:=zdx (T:=T) d (by omega);rw[zab Za6.h204 rfl,b204];by_cases h:val d=0
 ·rw[if_pos h];rw[decide_eq_true h]at c1;generalize fz 0=Z at *
  simp -implicitDefEqProofs[c0,c1]
 ·rw[if_neg h];rw[decide_eq_false h]at c1;have c2:=zne (T:=T) n a d ha hd h;generalize fz (mkRat (wv n a) (val d))=R at *
  simp -implicitDefEqProofs[c1,c2]
theorem zp8(l:List UInt8):Zb T 345 [.s l,.s [45]]=some (.b (l.head? = some 45)):=by
 have h1:Zb T 123 [.s l,.s [45]]=some (.b (l.head? = some 45)):=by
  rw[zab Zq.h123 rfl,b123];cases l with
  | nil=>simp -implicitDefEqProofs
  | cons c r=>
   have h2:(1:Int)≤(r.length:Int)+1:=by omega
   by_cases hc:c=45<;>simp -implicitDefEqProofs[h2,hc]
 rw[zab Zak.h345 rfl,b345];simp -implicitDefEqProofs[h1]
theorem zii(s:List UInt8)(k:Nat)(hk:k≤s.length)(hs:s.length≤1000000):Zb T 253 [.s s,.i .i64 k] =
  some (.tup (if 0≤Z0 (s.drop k) then [.sl [] .an,flt 1 (Z0 (s.drop k)+k)] else [.sl (Za (ofN (rd (s.drop k)))) .an,flt 0 0])):=by
 have h1:=zg6 (T:=T) (s.drop k) (by rw[Yan];omega);have hk':(k:Int)≤s.length:=by omega
 rw[zab Zcn.h253 rfl,b253];by_cases h0:0≤Z0 (s.drop k)
 ·rw[if_pos h0]at h1 ⊢;have hw:Z0 (s.drop k)≤60:=by
   unfold Z0;split
   ·omega
   ·exact zhn 0 _ (by decide)
  have w1:IntKind.wrap .i64 (Z0 (s.drop k)+(k:Int))=Z0 (s.drop k)+(k:Int):=zac _ (by omega);generalize Z0 (s.drop k)=W at *
  simp -implicitDefEqProofs[hk,hk',h1,w1]
 ·rw[if_neg h0]at h1 ⊢;generalize ofN (rd (s.drop k))=R at *
  simp -implicitDefEqProofs[hk,hk',h1]
theorem zv6(n:Bool)(a:List UInt32)(s:List UInt8)(k:Nat)(ha:a.length≤10000)(hk:k≤s.length)(hs:s.length≤1000000):Zb T 254 [wh n a,.s s,.i .i64 k] =
  some (.tup (if 0≤Z0 (s.drop k) then [efz (fz 0),flt 1 (Z0 (s.drop k)+k)] else if rd (s.drop k)=0 then [efz (fz 0),flt 2 k] else [efz (fz (mkRat (wv n a) (rd (s.drop k)))),flt 0 0])):=by
 have h1:=zii (T:=T) s k hk hs;have c0:=ze1 (T:=T);rw[zab Zcn.h254 rfl,b254];by_cases h0:0≤Z0 (s.drop k)
 ·rw[if_pos h0]at h1 ⊢;generalize fz 0=Z at *
  generalize Z0 (s.drop k)+(k:Int)=W at *
  simp -implicitDefEqProofs[h1,c0]
 ·rw[if_neg h0]at h1 ⊢;have hl:=(zs6 h0).2;have h2:=zjl (T:=T) n a (ofN (rd (s.drop k))) ha (by omega);rw[zae]at h2;by_cases hz:rd (s.drop k)=0
  ·rw[if_pos hz]at h2 ⊢;clear hl h0;generalize fz 0=Z at *
   generalize ofN (rd (s.drop k))=R at *
   simp -implicitDefEqProofs[h1,h2]
  ·rw[if_neg hz]at h2 ⊢;clear hl h0;generalize fz (mkRat (wv n a) (rd (s.drop k)))=Z at *
   generalize ofN (rd (s.drop k))=R at *
   simp -implicitDefEqProofs[h1,h2]
theorem zp9(ht:∀n:Nat,n≤60→Zb T 252 [.i .i64 n]=some (.sl (Za (ofN (10^n))) .an))(n neg:Bool)(a:List UInt32)(s:List UInt8)(k:Nat)(ha:a.length≤1000)(hk:k≤s.length)(hs:s.length≤1000000) :
  Zb T 255 [wh n a,.b neg,.s s,.i .i64 k] =
  some (.tup (if 0≤Z0 (s.drop k) then [efz (fz 0),flt 1 (Z0 (s.drop k)+k)] else [efz (fz (mkRat (sg neg (val a*10^(s.drop k).length+rd (s.drop k))) (10^(s.drop k).length))),flt 0 0])):=by
 have h1:=zii (T:=T) s k hk hs;have c0:=ze1 (T:=T);rw[zab Zcn.h255 rfl,b255];by_cases h0:0≤Z0 (s.drop k)
 ·rw[if_pos h0]at h1 ⊢;generalize fz 0=Z at *
  generalize Z0 (s.drop k)+(k:Int)=W at *
  simp -implicitDefEqProofs[h1,c0]
 ·rw[if_neg h0]at h1 ⊢;obtain⟨hl60,hl⟩:=zs6 h0;have h2:=ht (s.drop k).length hl60;have ht60:=zs7 hl60;have h3:=zf6 (T:=T) a (ofN (10^(s.drop k).length)) (by omega) (by omega);rw[zae]at h3;have hm:(ofN (val a*10^(s.drop k).length)).length≤1060:=by
   have e1:=zad a;have e2:=zc5 (x:=val a) (y:=10^(s.drop k).length) (L:=1000) (M:=60) (by omega) ht60;omega
  have h4:=ztp (T:=T) [ofN (val a*10^(s.drop k).length),ofN (rd (s.drop k))] (by simp) (by
   intro x hx;simp only[Ym,Yb8,or_false]at hx;rcases hx with rfl | rfl<;>omega)
  have e1:lls [ofN (val a*10^(s.drop k).length),ofN (rd (s.drop k))]=[[.sl (Za (ofN (val a*10^(s.drop k).length))) .an],[.sl (Za (ofN (rd (s.drop k)))) .an]]:=rfl;have e2:Zdd [ofN (val a*10^(s.drop k).length),ofN (rd (s.drop k))]=val a*10^(s.drop k).length+rd (s.drop k):=by simp[Zdd,zae]
  rw[e1,e2]at h4;have hsum:(ofN (val a*10^(s.drop k).length+rd (s.drop k))).length≤10000:=by
   have e3:=zcb (x:=((val a*10^(s.drop k).length:Nat):Int)) (y:=((rd (s.drop k):Nat):Int)) (L:=1060) (by rw[Ybk];exact hm) (by rw[Ybk];omega);rw[←Ydm,Ybk]at e3;omega
  have h5:=zjl (T:=T) neg (ofN (val a*10^(s.drop k).length+rd (s.drop k))) (ofN (10^(s.drop k).length)) hsum (by omega);have hne:¬ 10^(s.drop k).length=0:=Nat.ne_of_gt (Ybm (by decide));rw[zae,if_neg hne]at h5;unfold wv at h5;rw[zae]at h5;have hd:(s.drop k).length=s.length-k:=Yan;have w1:IntKind.wrap .i64 ((s.length:Int)-(k:Int))=(((s.drop k).length:Nat):Int):=by
   rw[hd];have:((s.length-k:Nat):Int)=(s.length:Int)-k:=by omega
   rw[this];exact zac _ (by omega)
  clear hl hl60 ht60 hm e1 e2 hsum hne h0 hd ht;generalize 10^(s.drop k).length=TN at *
  generalize (s.drop k).length=dl at *
  generalize fz (mkRat (sg neg (val a*TN+rd (s.drop k))) TN)=R at *
  generalize ofN (val a*TN+rd (s.drop k))=R1 at *
  generalize ofN (val a*TN)=R2 at *
  generalize ofN (rd (s.drop k))=R3 at *
  generalize ofN TN=R4 at *
  simp -implicitDefEqProofs[h1,h2,h3,h4,h5,w1]
theorem zv7(ht:∀n:Nat,n≤60→Zb T 252 [.i .i64 n]=some (.sl (Za (ofN (10^n))) .an))(s:List UInt8)(hs:s.length≤100000) :
  Zb T 256 [.s s]=some (.tup [efz (fz (Zaa s).1),flt (Zaa s).2.1 (Zaa s).2.2]):=by
 have hi:Zb T 344 [.s s,.s [47,46]]=some (.i .i64 (if Zx s<s.length then (Zx s:Int) else -1)):=by
  rw[p344,←zou];simp only[prim344];rw[if_pos (by omega)]
 have hr:=zq5 (T:=T) (s.take (Zx s)) (by rw[Ya1];omega);have hle:=zjk s;have c0:=ze1 (T:=T);rw[zab Zcn.h256 rfl,b256];by_cases hc:Zx s<s.length
 ·rw[if_pos hc]at hi;have q1:(0:Int)≤(Zx s:Int):=by omega
  have q2:(Zx s:Int)≤s.length:=by omega
  have q3:¬ (Zx s:Int)<0:=by omega
  by_cases h0:0≤Zbd (s.take (Zx s))
  ·have eR:Zaa s=(0,1,Zbd (s.take (Zx s))+Zcx (s.take (Zx s))):=by simp only[Zaa,if_pos h0]
   rw[eR];rw[if_pos h0]at hr;clear eR;simp only;generalize fz 0=Z at *
   generalize Zbd (s.take (Zx s))+Zcx (s.take (Zx s))=W at *
   simp -implicitDefEqProofs[hi,hr,c0,q1,q2,q3,hle]
  ·rw[if_neg h0]at hr;have hrl:=zj6 h0;obtain⟨c,hg,hcc⟩:=zov s hc;obtain⟨_,hgE⟩:=Yal.1 hg;have hd:s.getD (Zx s) 0=c:=by rw[List.getD_eq_getElem?_getD,hg];rfl
   have eR:Zaa s=Zey (Zap (s.take (Zx s))) (decide (s.head? = some 45)) s c (Zx s+1):=by simp only[Zaa,if_neg h0,if_pos hc,hd]
   rw[eR];have w1:IntKind.wrap .i64 ((Zx s:Int)+1)=((Zx s+1:Nat):Int):=zac _ (by omega);have q4:(Zx s:Int)<s.length:=by omega
   have px:=zp8 (T:=T) s;rcases hcc with rfl | rfl
   ·have ho:=zv6 (T:=T) (decide (Zap (s.take (Zx s))<0)) (ofN (Zap (s.take (Zx s))).natAbs) s (Zx s+1) (by omega) (by omega) (by omega);rw[zj5]at ho;have ho2:Zb T 254 [ez (Zap (s.take (Zx s))),.s s,.i .i64 ((Zx s+1:Nat):Int)]=some (.tup [efz (fz (Zey (Zap (s.take (Zx s))) (decide (s.head? = some 45)) s 47 (Zx s+1)).1),
      flt (Zey (Zap (s.take (Zx s))) (decide (s.head? = some 45)) s 47 (Zx s+1)).2.1 (Zey (Zap (s.take (Zx s))) (decide (s.head? = some 45)) s 47 (Zx s+1)).2.2]):=by
     rw[ho];simp only[Zey,if_true];split
     ·rfl
     ·split<;>rfl
    clear ho eR hd;generalize Zey (Zap (s.take (Zx s))) (decide (s.head? = some 45)) s 47 (Zx s+1)=R at *
    generalize fz R.1=Z at *
    have ec:((Zx s+1:Nat):Int)=(Zx s:Int)+1:=by omega
    rw[ec]at ho2 w1;clear hrl h0 c0 ht;generalize Zap (s.take (Zx s))=RZ at *
    simp -implicitDefEqProofs[hi,hr,q1,q2,q3,q4,hle,hc,hg,hgE,w1,ho2]
   ·have ho:=zp9 (T:=T) ht (decide (Zap (s.take (Zx s))<0)) (decide (s.head? = some 45)) (ofN (Zap (s.take (Zx s))).natAbs) s (Zx s+1) (by omega) (by omega) (by omega);rw[zae]at ho;have ho2:Zb T 255 [ez (Zap (s.take (Zx s))),.b (decide (s.head? = some 45)),.s s,.i .i64 ((Zx s+1:Nat):Int)]=some (.tup [efz (fz (Zey (Zap (s.take (Zx s))) (decide (s.head? = some 45)) s 46 (Zx s+1)).1),
      flt (Zey (Zap (s.take (Zx s))) (decide (s.head? = some 45)) s 46 (Zx s+1)).2.1 (Zey (Zap (s.take (Zx s))) (decide (s.head? = some 45)) s 46 (Zx s+1)).2.2]):=by
     rw[ho];simp only[Zey,show ¬ ((46:UInt8)=47) by decide,if_false];split<;>rfl
    clear ho eR hd;generalize Zey (Zap (s.take (Zx s))) (decide (s.head? = some 45)) s 46 (Zx s+1)=R at *
    generalize fz R.1=Z at *
    have ec:((Zx s+1:Nat):Int)=(Zx s:Int)+1:=by omega
    rw[ec]at ho2 w1;clear hrl h0 c0 ht;generalize Zap (s.take (Zx s))=RZ at *
    generalize decide (s.head? = some 45)=hd45 at *
    simp -implicitDefEqProofs[hi,hr,q1,q2,q3,q4,hle,hc,hg,hgE,w1,px,ho2]
 ·rw[if_neg hc]at hi;have hcl:Zx s=s.length:=by omega
  have htk:s.take (Zx s)=s:=by rw[hcl];exact Yb9
  rw[htk]at hr;by_cases h0:0≤Zbd s
  ·have eR:Zaa s=(0,1,Zbd s+Zcx s):=by simp only[Zaa,htk,if_pos h0]
   rw[eR];rw[if_pos h0]at hr;clear eR;simp only;generalize fz 0=Z at *
   generalize Zbd s+Zcx s=W at *
   simp -implicitDefEqProofs[hi,hr,c0]
  ·have eR:Zaa s=(mkRat (Zap s) 1,0,0):=by simp only[Zaa,htk,if_neg h0,if_neg hc]
   rw[eR];rw[if_neg h0]at hr;have hrl:=zj6 h0;have h1:=zdk (T:=T) 1 (by decide);have h2:=zjl (T:=T) (decide (Zap s<0)) (ofN (Zap s).natAbs) (ofN 1) (by omega) (by rw[zem];decide);rw[zae,if_neg (by decide),zj5]at h2;clear hrl h0 c0 ht eR;simp only;generalize fz (mkRat (Zap s) 1)=Z at *
   generalize Zap s=RZ at *
   generalize ofN 1=O at *
   simp -implicitDefEqProofs[hi,hr,h1,h2]
end
end Go.Ab
end
section
namespace Go.Ab
def Zao:List (List UInt8)→Nat→List Rat→List Rat×Int×Int
 | [],_,acc=>(acc,0,0)
 | w::ws,k,acc=>if (Zaa w).2.1=0 then Zao ws (k+w.length+1) (acc++[(Zaa w).1]) else ([],(Zaa w).2.1,(Zaa w).2.2+k)
def Zb0(s:List UInt8):List Rat×Int×Int:=if s=[] then ([],0,0) else Zao (Zt 44 s) 0 []
theorem zfj(w:List UInt8):((Zaa w).2.1=0∧(Zaa w).2.2=0)∨(((Zaa w).2.1=1∨(Zaa w).2.1=2)∧0≤(Zaa w).2.2∧(Zaa w).2.2≤w.length+62):=by
 have hle:=zjk w;obtain⟨z1,z2,z3,z4⟩:=zs8 (w.take (Zx w));unfold Zaa;simp only;split
 ·next h=>refine .inr ⟨.inl rfl,?_,?_⟩<;>simp only<;>omega
 ·split
  ·next h h2=>
   unfold Zey;simp only;split
   ·next h3=>
    have:Z0 (w.drop (Zx w+1))≤60:=by
     unfold Z0;split
     ·omega
     ·exact zhn 0 _ (by decide)
    refine .inr ⟨.inl rfl,?_,?_⟩<;>simp only<;>omega
   ·split
    ·split
     ·refine .inr ⟨.inr rfl,?_,?_⟩<;>simp only<;>omega
     ·left;simp
    ·left;simp
  ·left;simp
section
variable{T:Tbl}[Z9 T][Zp T][Zv T][Zy T][Zr T][Zu T][Zq T][Za0 T][Zf T][Zn T][Zz T][Za6 T][Zcq T][Zak T][Zb3 T][Zcn T][Zat T][Zby T][Zcw T]
theorem zv8(n:Nat)(hn:n≤60):Zb T 252 [.i .i64 n]=some (.sl (Za (ofN (10^n))) .an):=by
 have c1:=zdk (T:=T) 10 (by decide);have hb:Z2 10=4:=by decide +kernel
 have c2:=zwu (T:=T) (ofN 10) n (by
  have:=zah (n:=10) (k:=1) (by decide);omega) (by rw[zae,hb];decide) (by rw[zae,hb];omega)
 rw[zae]at c2;rw[zab Zcn.h252 rfl,b252];generalize ofN (10^n)=R at *
 generalize ofN 10=N at *
 simp -implicitDefEqProofs[c1,c2]
theorem zli(s:List UInt8)(hs:s.length≤100000):Zb T 256 [.s s]=some (.tup [efz (fz (Zaa s).1),flt (Zaa s).2.1 (Zaa s).2.2]):=
 zv7 (T:=T) zv8 s hs
def Zij(ws:List (List UInt8))(y:Nat×Nat×List Rat):St:=
 ⟨[(3,.ptr (.loc 3) 1 4 0 0),(4,.bs (.loc 4) 2 3 0 y.2.2.length),(5,.i .i64 y.2.1),(14,.sl (Zo ws) .an),(15,.i .i64 ws.length),(16,.i .i64 y.1)],
  [(.loc 3,⟨1,.str,4,[[.i .i64 0,.i .i64 0,.i .i64 0,.i .i64 0]]⟩),(.loc 4,⟨2,.own,3,Zi (fzs y.2.2)⟩)],4⟩
def Zhh(r:List Rat×Int×Int):Option (Ex×St):=
 if r.2.1=0 then some (.n,⟨[(3,.ptr (.loc 3) 1 4 0 0),(4,.bs (.loc 4) 2 3 0 r.1.length)],[(.loc 3,⟨1,.str,4,[[.i .i64 0,.i .i64 0,.i .i64 0,.i .i64 0]]⟩),(.loc 4,⟨2,.own,3,Zi (fzs r.1)⟩)],4⟩)
 else some (.r,⟨[(2,.sl [] .an),(3,.ptr (.loc 3) 1 4 0 0)],[(.loc 3,⟨1,.str,4,[[.i .i64 r.2.1,.i .i64 0,.i .i64 0,.i .i64 r.2.2]]⟩)],3⟩)
theorem zzv(ws:List (List UInt8))(hl:ws.length≤1000000)(hw:∀w∈ws,w.length≤100000):∀y:Nat×Nat×List Rat,(y.1≤ws.length∧y.2.1≤y.1*100001∧y.2.2.length=y.1) →
  Zw T 0 0 (.norm false [3,4]) l275_0 (Zij ws y)=Zhh (Zao (ws.drop y.1) y.2.1 y.2.2):=by
 refine zau (Zij ws) (fun y=>y.1≤ws.length∧y.2.1≤y.1*100001∧y.2.2.length=y.1) (fun y=>ws.length-y.1) (fun y=>Zhh (Zao (ws.drop y.1) y.2.1 y.2.2)) ?_
 rintro⟨i,k,acc⟩ ⟨hi,hk,ha⟩
 simp only at hi hk ha ⊢;by_cases h0:i<ws.length
 ·have hm:=Yaa h0;have hwl:=hw _ hm;have hg:(Zo ws)[i]? = some [.s (ws[i]'h0)]:=by simp[Zo,h0]
  have hil:i<(Zo ws).length:=by simpa using h0
  have hil':(i:Int)<ws.length:=by omega
  obtain⟨_,hgE⟩:=Yal.1 hg;have hwR:=zd4 ws;have c:=zli (T:=T) (ws[i]'h0) hwl;have hf:=zfj (ws[i]'h0);have hdr:ws.drop i=ws[i]'h0::ws.drop (i+1):=Yw h0;have hws:=ze0 h0 (by omega);generalize ws[i]'h0=w at *
  have hml:(fzs acc).length=i:=by rw[zdy,ha]
  have hb4:i≤4294967295:=by omega
  rcases hf with ⟨f1,f2⟩ | ⟨f1,f2,f3⟩
  ·left;have hp:=ztx hml (fz (Zaa w).1);have ef:fzs (acc++[(Zaa w).1])=fzs acc++[fz (Zaa w).1]:=by simp[fzs]
   have w1:IntKind.wrap .i64 ((w.length:Int)+1)=(w.length:Int)+1:=zac _ (by omega);have w2:IntKind.wrap .i64 ((k:Int)+((w.length:Int)+1))=((k+w.length+1:Nat):Int):=by
    have:((k+w.length+1:Nat):Int)=(k:Int)+((w.length:Int)+1):=by omega
    rw[this];exact zac _ (by omega)
   refine⟨(i+1,k+w.length+1,acc++[(Zaa w).1]),⟨by omega,by simp only;omega,by simp[ha]⟩,by simp only;omega,?_,?_⟩
   ·unfold Zij;simp only[Yp,Yc,Y5,ha];rw[ef];rw[f1,f2]at c;clear hdr ef hw f1 f2;generalize fz (Zaa w).1=X at *
    generalize fzs acc=M at *
    generalize Zo ws=R at *
    simp -implicitDefEqProofs[l275_0,h0,hil,hil',hg,hgE,c,hws,w1,w2,hml,hb4,hp,hwR]
   ·simp only;rw[hdr,Zao,if_pos f1]
  ·right;have hne:¬ (Zaa w).2.1=0:=by omega
   have er:Zao (ws.drop i) k acc=([],(Zaa w).2.1,(Zaa w).2.2+k):=by rw[hdr,Zao,if_neg hne]
   rw[er];unfold Zhh Zij;simp only[ha];rw[if_neg hne];have w1:IntKind.wrap .i64 ((Zaa w).2.2+(k:Int))=(Zaa w).2.2+(k:Int):=zac _ (by omega);clear hdr er hw;generalize fz (Zaa w).1=X at *
   generalize (Zaa w).2.1=K at *
   generalize (Zaa w).2.2=A at *
   generalize fzs acc=M at *
   generalize Zo ws=R at *
   rcases f1 with rfl | rfl<;>(constructor<;>simp -implicitDefEqProofs[l275_0,h0,hil,hil',hg,hgE,c,w1])
 ·right;have hi2:i=ws.length:=by omega
  subst hi2;rw[Yar,Zao];unfold Zhh Zij;simp only[if_true,ha];have hn:¬ ws.length<(Zo ws).length:=by simp
  generalize fzs acc=M at *
  generalize Zo ws=R at *
  generalize ws.length=n at *
  constructor<;>simp -implicitDefEqProofs[l275_0]
theorem zlj:∀(ws:List (List UInt8)) (k:Nat) (acc:List Rat),(Zao ws k acc).2.1≠0→(Zao ws k acc).1=[]
 | [],_,_,h=>by simp[Zao]at h
 | w::ws,k,acc,h=>by
  unfold Zao at h ⊢;split at h
  ·next h1=>rw[if_pos h1];exact zlj ws _ _ h
  ·next h1=>rw[if_neg h1]
theorem zow:∀(ws:List (List UInt8)) (k:Nat) (acc:List Rat),(Zao ws k acc).2.1=0→(Zao ws k acc).2.2=0
 | [],_,_,h=>rfl
 | w::ws,k,acc,h=>by
  unfold Zao at h ⊢;split at h
  ·next h1=>rw[if_pos h1];exact zow ws _ _ h
  ·next h1=>exact absurd h h1
theorem zox(s:List UInt8)(hs:s.length≤100000) :
  Zb T 275 [.s s]=some (.tup [.sl (Zi (fzs (Zb0 s).1)) .an,flt (Zb0 s).2.1 (Zb0 s).2.2]):=by
 rw[zab Zcw.h275 rfl,b275];unfold Zb0;by_cases h0:s=[]
 ·subst h0;have e0:fzs []=[]:=rfl;simp only[if_true,e0,zgc];simp -implicitDefEqProofs
 ·rw[if_neg h0];have hpl:∀(l:List UInt8) (w:List UInt8),w∈Zt 44 l→w.length≤l.length:=by
   intro l
   induction l with
   | nil=>intro w hw;simp[Zt]at hw;simp[hw]
   | cons b l ih=>
    intro w hw;unfold Zt at hw;split at hw
    ·rcases Ym.1 hw with rfl | hw
     ·simp
     ·have:=ih w hw;simp;omega
    ·cases hsp:Zt 44 l with
     | nil=>rw[hsp]at hw;simp at hw;simp[hw]
     | cons p r=>
      rw[hsp]at hw ih;rcases Ym.1 hw with rfl | hw
      ·have:=ih p Yl;simp;omega
      ·have:=ih w (Yh _ hw);simp;omega
  have hcl:(Zt 44 s).length≤s.length+1:=by
   rw[zbr];have:s.count 44≤s.length:=List.count_le_length;omega
  have c:=zuc (T:=T) s 44 (by omega);have h:=zzv (T:=T) (Zt 44 s) (by omega) (fun w hw=>by have:=hpl s w hw;omega) (0,0,[]) ⟨Yz _,Yz _,rfl⟩;have hnil:=zlj (Zt 44 s) 0 [];have hat:=zow (Zt 44 s) 0 [];simp only[Yba]at h;unfold Zij at h;have e0:fzs []=[]:=rfl;simp only[e0,zgc,Yai,Y5]at h;generalize Zao (Zt 44 s) 0 []=r at *
  unfold Zhh at h;have hsl:=zar (Zt 44 s);have hwR:=zd4 (Zt 44 s);generalize Zo (Zt 44 s)=R at *
  generalize (Zt 44 s).length=n at *
  by_cases hr:r.2.1=0
  ·rw[if_pos hr]at h;have ha:=hat hr;rw[hr,ha];have hml:(fzs r.1).length=r.1.length:=zdy r.1;generalize fzs r.1=M at *
   generalize r.1.length=m at *
   have ht:List.take m M=M:=Yb (by omega);simp -implicitDefEqProofs[h0,c,hsl,h,ht,hml,hwR]
  ·rw[if_neg hr]at h;rw[hnil hr];simp only[e0,zgc];simp -implicitDefEqProofs[h0,c,hsl,h,hwR]
end
end Go.Ab
end
section
namespace Go.Ab
def Dig(l:List UInt8):Prop:=∀c∈l,48≤c.toNat∧c.toNat≤57
theorem zgd{n:Nat}(h:n<10):(UInt8.ofNat (48+n)).toNat=48+n:=by
 rw[UInt8.toNat_ofNat'];omega
theorem zbd(n:Nat):Dig (Zs n):=by
 induction n using Nat.strongRecOn with
 | _ n ih=>
  by_cases h:n<10
  ·rw[zbs h];intro c hc;rw[Y9]at hc;rw[hc,zgd h];omega
  ·rw[zdm h];intro c hc;rcases Y4.1 hc with hc | hc
   ·exact ih (n/10) (by omega) c hc
   ·rw[Y9]at hc;rw[hc,zgd (by omega)];omega
theorem zge(n:Nat):Zs n≠[]:=by
 by_cases h:n<10
 ·rw[zbs h];simp
 ·rw[zdm h];simp
theorem zj8(n:Nat):rd (Zs n)=n:=by
 induction n using Nat.strongRecOn with
 | _ n ih=>
  by_cases h:n<10
  ·rw[zbs h];show 0*10+((UInt8.ofNat (48+n)).toNat-48)=n;rw[zgd h];omega
  ·rw[zdm h,zu3,ih (n/10) (by omega),zgd (by omega)];omega
theorem zpg:∀(l:List UInt8) (k:Nat),Dig l→k+l.length≤60→Zcl k l=-1
 | [],_,_,_=>rfl
 | c::r,k,h,hk=>by
  have hc:=h c Yl;simp only[Yc]at hk;rw[Zcl,if_neg (by omega)];exact zpg r (k+1) (fun d hd=>h d (Yh _ hd)) (by omega)
theorem zfu{l:List UInt8}(h:Dig l)(h0:l≠[])(hl:l.length≤60):Z0 l=-1:=by
 unfold Z0;rw[if_neg h0];exact zpg l 0 h (by omega)
theorem zxg{l:List UInt8}(h:Dig l):¬ l.head? = some 45:=by
 cases l with
 | nil=>simp
 | cons c r=>
  intro e;simp only[List.head?_cons,Option.some.injEq]at e;have:=h c Yl;rw[e]at this;have e2:(45:UInt8).toNat=45:=rfl;omega
theorem zi2(z:Int):((Z7 z).head? = some 45)↔z<0:=by
 unfold Z7;split
 ·next h=>simp[h]
 ·next h=>exact⟨fun e=>absurd e (zxg (zbd _)),fun e=>absurd e h⟩
theorem zq9{z:Int}(hl:(Zs z.natAbs).length≤60):Zbd (Z7 z)=-1∧Zap (Z7 z)=z:=by
 unfold Zbd Zap;by_cases hz:z<0
 ·have h1:=(zi2 z).2 hz;have h2:(Z7 z).tail=Zs z.natAbs:=by unfold Z7;rw[if_pos hz];rfl
  simp only[h1,if_true,h2,zj8,decide_true];refine⟨zfu (zbd _) (zge _) hl,?_⟩;simp[sg];omega
 ·have h1:¬ (Z7 z).head? = some 45:=fun e=>hz ((zi2 z).1 e);have h2:Z7 z=Zs z.natAbs:=by unfold Z7;rw[if_neg hz]
  simp only[h1,if_false,decide_false];rw[h2,zj8];refine⟨zfu (zbd _) (zge _) hl,?_⟩;simp[sg];omega
def Zid(l:List UInt8):Prop:=∀c∈l,Ze7 c=false
theorem zmg{l:List UInt8}(h:Dig l):Zid l:=by
 intro c hc;have:=h c hc;have e1:¬ c=47:=fun e=>by rw[e]at this;have e2:(47:UInt8).toNat=47:=rfl;omega
 have e2:¬ c=46:=fun e=>by rw[e]at this;have e2:(46:UInt8).toNat=46:=rfl;omega
 simp[Ze7,e1,e2]
theorem zhs(z:Int):Zid (Z7 z):=by
 unfold Z7;split
 ·intro c hc;rcases Ym.1 hc with rfl | hc
  ·rfl
  ·exact zmg (zbd _) c hc
 ·exact zmg (zbd _)
theorem zmh:∀{l:List UInt8},Zid l→Zx l=l.length
 | [],_=>rfl
 | c::r,h=>by
  have h1:=h c Yl;have h2:=zmh (l:=r) fun d hd=>h d (Yh _ hd);simp[Zx,h1,h2]
theorem zvb:∀{l:List UInt8} (c:UInt8) (r:List UInt8),Zid l→Ze7 c=true→Zx (l++c::r)=l.length
 | [],c,r,_,hc=>by simp[Zx,hc]
 | d::l,c,r,h,hc=>by
  have h1:=h d Yl;have h2:=zvb (l:=l) c r (fun d hd=>h d (Yh _ hd)) hc;simp[Zx,h1,h2]
theorem zmi{q:Rat}(h1:(Zs q.num.natAbs).length≤60)(h2:(Zs q.den).length≤60):Zaa (Zaj q)=(q,0,0):=by
 obtain⟨w1,w2⟩:=zq9 h1;unfold Zaj;split
 ·next hd=>
  have hc:=zmh (zhs q.num);have ht:(Z7 q.num).take (Zx (Z7 q.num))=Z7 q.num:=by rw[hc];exact Yb9
  unfold Zaa;simp only[hc,Yb9,w1,w2,Ya6,if_false,show ¬ ((0:Int)≤-1) by decide];have e:mkRat q.num 1=q:=by
   have:=Yek q
   rwa [hd]at this
  rw[e]
 ·next hd=>
  have hc:=zvb (l:=Z7 q.num) 47 (Zs q.den) (zhs q.num) rfl;have ht:(Z7 q.num++47::Zs q.den).take (Zx (Z7 q.num++47::Zs q.den))=Z7 q.num:=by rw[hc];exact List.take_left
  have hlt:Zx (Z7 q.num++47::Zs q.den)<(Z7 q.num++47::Zs q.den).length:=by rw[hc];simp
  have hg:(Z7 q.num++47::Zs q.den).getD (Zx (Z7 q.num++47::Zs q.den)) 0=47:=by rw[hc];simp
  have hdr:(Z7 q.num++47::Zs q.den).drop (Zx (Z7 q.num++47::Zs q.den)+1)=Zs q.den:=by
   rw[hc,Yd6];simp
  unfold Zaa;simp only[ht,w1,w2,hg,if_pos hlt,show ¬ ((0:Int)≤-1) by decide,if_false];unfold Zey;simp only[hdr,zfu (zbd q.den) (zge _) h2,show ¬ ((0:Int)≤-1) by decide,if_false,if_true,zj8];rw[if_neg q.den_nz,Yek]
theorem znx(q:Rat):∀c∈Zaj q,c≠44:=by
 have hz:∀z:Int,∀c∈Z7 z,c≠44:=by
  intro z;unfold Z7;have hd:∀n,∀c∈Zs n,c≠44:=fun n c hc e=>by
   have:=zbd n c hc;rw[e]at this;have e2:(44:UInt8).toNat=44:=rfl;omega
  split
  ·intro c hc;rcases Ym.1 hc with rfl | hc
   ·decide
   ·exact hd _ c hc
  ·exact hd _
 unfold Zaj;split
 ·exact hz _
 ·intro c hc;rcases Y4.1 hc with hc | hc
  ·exact hz _ c hc
  ·rcases Ym.1 hc with rfl | hc
   ·decide
   ·intro e;have:=zbd _ c hc;rw[e]at this;have e2:(44:UInt8).toNat=44:=rfl;omega
theorem zmj{c:UInt8}:∀{l:List UInt8},(∀b∈l,b≠c)→Zt c l=[l]
 | [],_=>rfl
 | b::l,h=>by
  have h1:=h b Yl;have h2:=zmj (l:=l) fun d hd=>h d (Yh _ hd);simp[Zt,h1,h2]
theorem zi3{c:UInt8}:∀{l:List UInt8} (r:List UInt8),(∀b∈l,b≠c)→Zt c (l++c::r)=l::Zt c r
 | [],r,_=>by simp[Zt]
 | b::l,r,h=>by
  have h1:=h b Yl;have h2:=zi3 (l:=l) r fun d hd=>h d (Yh _ hd);simp[Zt,h1,h2]
theorem zf0{c:UInt8}:∀(t:List UInt8) (ts:List (List UInt8)),(∀t'∈t::ts,∀b∈t',b≠c)→Zt c (List.intercalate [c] (t::ts))=t::ts
 | t,[],h=>by
  have e:List.intercalate [c] [t]=t:=by simp[List.intercalate]
  rw[e,zmj (h t Yl)]
 | t,t2::ts,h=>by
  have e:List.intercalate [c] (t::t2::ts)=t++c::List.intercalate [c] (t2::ts):=by simp[List.intercalate]
  rw[e,zi3 _ (h t Yl),zf0 t2 ts fun t' ht=>h t' (Yh _ ht)]
theorem zht:∀(l:List Rat) (k:Nat) (acc:List Rat),(∀q∈l,(Zs q.num.natAbs).length≤60∧(Zs q.den).length≤60)→Zao (l.map Zaj) k acc=(acc++l,0,0)
 | [],k,acc,_=>by simp[Zao]
 | q::l,k,acc,h=>by
  obtain⟨h1,h2⟩:=h q Yl;rw[Ys,Zao,zmi h1 h2,if_pos rfl];have:=zht l (k+(Zaj q).length+1) (acc++[q]) fun p hp=>h p (Yh _ hp);rw[this];simp
theorem zxh(q:Rat):Zaj q≠[]:=by
 unfold Zaj;have hz:Z7 q.num≠[]:=by
  unfold Z7;split
  ·simp
  ·exact zge _
 split
 ·exact hz
 ·simp
theorem zra(l:List Rat)(h:∀q∈l,(Zs q.num.natAbs).length≤60∧(Zs q.den).length≤60):Zb0 (List.intercalate [44] (l.map Zaj))=(l,0,0):=by
 cases l with
 | nil=>rfl
 | cons q l=>
  have hne:List.intercalate [44] ((q::l).map Zaj)≠[]:=by
   have:=zxh q;cases l with
   | nil=>simpa[List.intercalate]using this
   | cons p l=>simp[List.intercalate]
  unfold Zb0;rw[if_neg hne,Ys,zf0 _ _ (fun t ht=>by
   rw[←Ys]at ht;obtain⟨p,_,rfl⟩:=Y3.1 ht;exact znx p),←Ys,zht _ _ _ h]
  simp
theorem zc6{n k d:Nat}(h:(ofN n).length≤k)(hk:4294967296^k<10^(d+1)):(Zs n).length≤d+1:=by
 refine zdo ?_;have h1:=zaw (ofN n);rw[zae]at h1;have h2:4294967296^(ofN n).length≤4294967296^k:=Yr (by decide) h;omega
end Go.Ab
end
section
namespace Go.Ab
def Zcf(c:Fz)(r:List Fz):List UInt8:=Zaj (fv c)++[124]++List.intercalate [44] (Z8 r)
def Zcg(s:Sm):List (List UInt8):=
 [s.nm]++(s.c.zip s.a).map (fun p=>Zcf p.1 p.2)++[[98,32]++List.intercalate [44] (Z8 s.b)]++(if s.e=[] then [] else [[101,32]++List.intercalate [44] (Z8 s.e)])
def textS(s:Sm):List UInt8:=List.intercalate [10] (Zcg s)
structure Rd where
 rest:List UInt8
 at_:Nat
 over:Bool
def hdC(c:UInt8)(l:List UInt8):List UInt8:=l.takeWhile (· != c)
def tlC(c:UInt8)(l:List UInt8):List UInt8:=(l.dropWhile (· != c)).drop 1
def Zh(r:Rd):List UInt8:=if r.over then [] else hdC 10 r.rest
def Z1(r:Rd):Rd:=if r.over then r else ⟨tlC 10 r.rest,r.at_+(hdC 10 r.rest).length+(if r.rest.contains 10 then 1 else 0),!r.rest.contains 10⟩
def shF(f:Int×Int)(b:Int):Int×Int:=if f=(0,0) then f else (f.1,f.2+b)
def Zbt(l:List UInt8)(from_:Int):Rat×List Rat×Int×Int:=
 if (Zaa (hdC 124 l)).2≠(0,0) then ((Zaa (hdC 124 l)).1,[],shF (Zaa (hdC 124 l)).2 from_)
 else ((Zaa (hdC 124 l)).1,(Zb0 (tlC 124 l)).1,shF (Zb0 (tlC 124 l)).2 (from_+(hdC 124 l).length+1))
def Zdg(c:UInt8)(r:Rd):List Rat×Int×Int:=
 if (Zh r).take 2=[c,32] then ((Zb0 ((Zh r).drop 2)).1,shF (Zb0 ((Zh r).drop 2)).2 (r.at_+2)) else ([],1,r.at_)
end Go.Ab
end
section
namespace Go.Ab
class Zmx (T:Tbl):Prop where
end Go.Ab
end
section
namespace Go.Ab
theorem zt8(l:List Fz)(x:Fz):sumF (l++[x])=sumF l+fv x:=by simp[sumF]
theorem zl5(l:List Fz){i:Nat}(h:i<l.length):sumF (l.take (i+1))=sumF (l.take i)+fv (l[i]'h):=by
 rw[Yc6 h,zt8]
theorem zjy{l:List Fz}{B:Nat}(hw:∀x∈l,fsz x≤B)(hB:1≤B):∀i,i≤l.length→sz (sumF (l.take i))≤i*(B+1)+1
 | 0,_=>by
  grind[sumF,zu8]
 | i+1,hi=>by
  have ih:=zjy hw hB i (by omega);rw[zl5 l hi];have h1:=z5p (sumF (l.take i)) (fv (l[i]'hi));have h3:=zme (hw _ (Yaa hi)) hB
  grind
theorem znn{x:Fz}(h:Zbp x=true):fsz x≤6:=by
 unfold Zbp at h;simp only[Yk,decide_eq_true_eq]at h;obtain⟨h1,h2⟩:=h;unfold Zct at h1;have e:x=fz (fv x):=by grind
 rw[e]at h2 ⊢;have:=zz9 (q:=fv x) (b:=190) h2;rw[zeb];omega
section
variable{T:Tbl}[Z9 T][Zp T][Zv T][Zy T][Zr T][Zu T][Zf T][Zn T][Zz T][Zbc T][Zbk T][Zb3 T][Zc9 T][Zco T][Zdx T][Zgf T][Zge T][Zad T]
def Zjj(l:List Fz)(i:Nat):St:=⟨[(2,.ptr (.loc 2) 1 3 0 0),(3,.ptr (.loc 3) 2 3 0 0),(7,.sl (Zi l) .an),(8,.i .i64 l.length),(9,.i .i64 i)],
 [(.loc 2,⟨1,.str,3,[Zd9]⟩),(.loc 3,⟨2,.str,3,[Zeb (fz (sumF (l.take i)))]⟩)],4⟩
theorem zw2(l:List Fz){B:Nat}(hw:∀x∈l,fsz x≤B)(hB:1≤B)(hS:l.length*(B+1)+1≤1000) :
  Zw T 0 0 (.norm false [2,3]) l562_0 (Zjj l 0)=some (.n,⟨[(2,.ptr (.loc 2) 1 3 0 0),(3,.ptr (.loc 3) 2 3 0 0)],[(.loc 2,⟨1,.str,3,[Zd9]⟩),(.loc 3,⟨2,.str,3,[Zeb (fz (sumF l))]⟩)],4⟩):=by
 refine zb5 (Zjj l) l.length _ (fun i hi=>?_) ?_
 ·have hlen:l.length*1≤1000:=Yg (Yay _ (show 1≤B+1 by omega)) (by omega);have hBB:B+1≤1000:=Yg (Nat.le_mul_of_pos_left _ (show 0<l.length by omega)) (by omega);have hws:=ze0 hi (by omega);have ha1:=hw _ (Yaa hi);have s1:=zjy hw hB i (by omega);have s2:i*(B+1)≤l.length*(B+1):=Y0 _ (by omega);have c2:=zwa (T:=T) (fz (sumF (l.take i))) (l[i]'hi) (by rw[zeb];omega) (by omega);rw[zj7,←zl5 l hi]at c2;unfold Zjj;simp -implicitDefEqProofs[l562_0,hi,hws,c2]
 ·unfold Zjj;constructor<;>simp -implicitDefEqProofs[l562_0]
theorem zfq(l:List Fz){B:Nat}(hw:∀x∈l,fsz x≤B)(hB:1≤B)(hS:l.length*(B+1)+1≤1000) :
  Zb T 562 [.sl (Zi l) .an]=some (efz (fz (sumF l))):=by
 have h0:=ze1 (T:=T);have h:=zw2 (T:=T) l hw hB hS;unfold Zjj at h;have e0:sumF (l.take 0)=0:=rfl;rw[e0]at h;simp only[Yai]at h;rw[zab Zad.h562 rfl,b562];simp -implicitDefEqProofs[h0,h]
def Zgi(m:List (List Fz))(r:List Fz)(j i:Nat):St:=⟨[(7,.sl (Z3 m) .an),(8,.i .i64 m.length),(9,.i .i64 j),(13,.sl (Zi r) .an),(14,.i .i64 r.length),(15,.i .i64 i)],[],2⟩
theorem zt9(m:List (List Fz))(r:List Fz)(j:Nat)(hl:r.length≤1000)(hw:∀x∈r,fsz x≤1000) :
  Zw T 0 2 (.norm false [7,8,9]) l560_0 (Zgi m r j 0)=if (r.drop 0).all Zbp=true then some (.n,⟨[(7,.sl (Z3 m) .an),(8,.i .i64 m.length),(9,.i .i64 j)],[],2⟩) else some (.r,⟨[(2,.b false)],[],2⟩):=by
 refine zbq (Zgi m r j) r.length (fun i=>if (r.drop i).all Zbp=true then some (.n,⟨[(7,.sl (Z3 m) .an),(8,.i .i64 m.length),(9,.i .i64 j)],[],2⟩) else some (.r,⟨[(2,.b false)],[],2⟩)) (fun i hi=>?_) ?_
 ·have hws:=ze0 hi (by omega);have hx:=hw _ (Yaa hi);have c1:=zqd (T:=T) (r[i]'hi) (by omega);have c2:=zqe (T:=T) (r[i]'hi) (by omega);have key:(r.drop i).all Zbp=(Zbp (r[i]'hi)&&(r.drop (i+1)).all Zbp):=by rw[Yw hi,Ybx]
  have hn:Zbp (r[i]'hi)=(Zct (r[i]'hi)&&decide (Zea (r[i]'hi)≤190)):=rfl;by_cases h1:Zct (r[i]'hi)=true
  ·by_cases h2:Zea (r[i]'hi)≤190
   ·left;refine⟨?_,by grind⟩;have h3:¬ (190:Int)<Zea (r[i]'hi):=by omega
    unfold Zgi;simp -implicitDefEqProofs[l560_0,hi,hws,c1,c2,h1,h3]
   ·right;have h3:(190:Int)<Zea (r[i]'hi):=by omega
    rw[if_neg (by grind)];unfold Zgi;constructor<;>simp -implicitDefEqProofs[l560_0,hi,c1,c2,h1,h3]
  ·right;have h1':Zct (r[i]'hi)=false:=by grind
   rw[if_neg (by grind)];unfold Zgi;constructor<;>simp -implicitDefEqProofs[l560_0,hi,c1,h1']
 ·simp only[Yar,Yec,if_true];unfold Zgi;constructor<;>simp -implicitDefEqProofs[l560_0]
def Zgw(m:List (List Fz))(i:Nat):St:=⟨[(7,.sl (Z3 m) .an),(8,.i .i64 m.length),(9,.i .i64 i)],[],2⟩
theorem zua(m:List (List Fz))(hl:m.length≤1000)(hw:∀r∈m,r.length≤1000∧∀x∈r,fsz x≤1000) :
  Zw T 0 0 (.norm false []) l560_1 (Zgw m 0)=if Zc5 (m.drop 0)=true then some (.n,⟨[],[],2⟩) else some (.r,⟨[(2,.b false)],[],2⟩):=by
 refine zbq (Zgw m) m.length (fun i=>if Zc5 (m.drop i)=true then some (.n,⟨[],[],2⟩) else some (.r,⟨[(2,.b false)],[],2⟩)) (fun i hi=>?_) ?_
 ·have hws:=ze0 hi (by omega);obtain⟨h1,h2⟩:=hw _ (Yaa hi);have h:=zt9 (T:=T) m (m[i]'hi) i h1 h2;have key:Zc5 (m.drop i)=((m[i]'hi).all Zbp&&Zc5 (m.drop (i+1))):=by grind[Zc5,List.drop_eq_getElem_cons]
  unfold Zgi at h;rw[Yba]at h;simp only[Yai]at h;by_cases hr:(m[i]'hi).all Zbp=true
  ·left;rw[if_pos hr]at h;refine⟨?_,by grind⟩;unfold Zgw;simp -implicitDefEqProofs[l560_1,hi,hws,h]
  ·right;rw[if_neg hr]at h;rw[if_neg (by grind)];unfold Zgw;constructor<;>simp -implicitDefEqProofs[l560_1,hi,h]
 ·have e:Zc5 []=true:=rfl;simp only[Yar,e,if_true];unfold Zgw;constructor<;>simp -implicitDefEqProofs[l560_1]
theorem zea(m:List (List Fz))(hl:m.length≤1000)(hw:∀r∈m,r.length≤1000∧∀x∈r,fsz x≤1000):Zb T 560 [.sl (Z3 m) .an]=some (.b (Zc5 m)):=by
 have h:=zua (T:=T) m hl hw;unfold Zgw at h;rw[Yba]at h;simp only[Yai]at h;rw[zab Zad.h560 rfl,b560];cases hn:Zc5 m with
 | true=>rw[hn]at h;simp at h;simp -implicitDefEqProofs[h]
 | false=>rw[hn]at h;simp at h;simp -implicitDefEqProofs[h]
def Zgx(a:List (List Fz))(i:Nat):St:=⟨[(43,.sl (Z3 a) .an),(44,.i .i64 a.length),(45,.i .i64 i)],[],2⟩
theorem zqv(a:List (List Fz))(hl:a.length≤1000) :
  Zw T 0 0 (.norm false []) l559_0 (Zgx a 0)=if Zb4 (a.drop 0) 0=true then some (.n,⟨[],[],2⟩) else some (.r,⟨[(2,.b false)],[],2⟩):=by
 refine zbq (Zgx a) a.length (fun i=>if Zb4 (a.drop i) i=true then some (.n,⟨[],[],2⟩) else some (.r,⟨[(2,.b false)],[],2⟩)) (fun i hi=>?_) ?_
 ·have hws:=ze0 hi (by omega);have key:Zb4 (a.drop i) i=(decide ((a[i]'hi).length=i)&&Zb4 (a.drop (i+1)) (i+1)):=by rw[Yw hi,Zb4]
  by_cases hr:(a[i]'hi).length=i
  ·left;refine⟨?_,by grind⟩;unfold Zgx;simp -implicitDefEqProofs[l559_0,hi,hws,hr]
  ·right;have hr':¬ ((a[i]'hi).length:Int)=i:=by omega
   rw[if_neg (by grind)];unfold Zgx;constructor<;>simp -implicitDefEqProofs[l559_0,hi,hr']
 ·have e:Zb4 [] a.length=true:=rfl;simp only[Yar,e,if_true];unfold Zgx;constructor<;>simp -implicitDefEqProofs[l559_0]
theorem zl6(s:Sm)(hs:SmS s):Zb T 559 [esm s]=some (.b (Zed s)):=by
 have h:=zqv (T:=T) s.a hs.al;unfold Zgx at h;rw[Yba]at h;have l4:=hs.el;rw[zab Zad.h559 rfl,b559];unfold Zed;obtain⟨nm,c,a,b,e⟩:=s;by_cases p1:b.length<1
 ·have q2:b=[]:=Yc1.1 (by omega);subst q2;simp -implicitDefEqProofs[]
 have p1':1≤b.length:=by omega
 have m2:¬ (b.length:Int)<1:=by omega
 by_cases p2:8<b.length
 ·have q2:¬ b.length≤8:=by omega
  have m3:(8:Int)<b.length:=by omega
  simp -implicitDefEqProofs[p1',q2,m2,m3]
 have p2':b.length≤8:=by omega
 have m3:¬ (8:Int)<b.length:=by omega
 by_cases p3:c.length=b.length
 rotate_left
 ·have q3:¬ (c.length:Int)=b.length:=by omega
  simp -implicitDefEqProofs[p1',p2',m2,m3,p3,q3]
 by_cases p4:a.length=b.length
 rotate_left
 ·have q4:¬ (a.length:Int)=b.length:=by omega
  simp -implicitDefEqProofs[p1',p2',m2,m3,p3,p4,q4]
 rw[p4]at h;by_cases p5:e.length=b.length
 ·cases hsh:Zb4 a 0<;>rw[hsh]at h<;>simp at h<;>simp -implicitDefEqProofs[p1',p2',m2,m3,p3,p4,p5,h]
 have q5:¬ (e.length:Int)=b.length:=by omega
 by_cases p6:e.length=0
 ·have e0:e=[]:=Yc1.1 p6;have q7:¬ (0:Int)=b.length:=by omega
  have q8:¬ 0=b.length:=by omega
  subst e0;cases hsh:Zb4 a 0<;>rw[hsh]at h<;>simp at h<;>simp -implicitDefEqProofs[p1',p2',m2,m3,p3,p4,q7,q8,h]
 ·have q7:¬ e=[]:=fun h=>p6 (by grind);simp -implicitDefEqProofs[p1',p2',m2,m3,p3,p4,p5,q5,p6]
def bxS(s:Sm):Box:=⟨1,.str,5,[[.s s.nm,.sl (Zi s.c) .an,.sl (Z3 s.a) .an,.sl (Zi s.b) .an,.sl (Zi s.e) .an]]⟩
def Zio(s:Sm)(i:Nat):St:=⟨[(1,.ptr (.loc 1) 1 5 0 0),(6,.sl (Z3 s.a) .an),(7,.i .i64 s.a.length),(8,.i .i64 i)],[(.loc 1,bxS s)],3⟩
theorem zub(s:Sm)(hl:s.a.length≤8)(hc:s.c.length=s.a.length)(h1:∀r∈s.a,r.length≤8∧∀x∈r,fsz x≤6)(h2:∀x∈s.c,fsz x≤6) :
  Zw T 0 0 (.norm false []) l561_0 (Zio s 0)=if Zcr (s.a.drop 0) (s.c.drop 0)=true then some (.n,⟨[],[],2⟩) else some (.r,⟨[(2,.b false)],[],2⟩):=by
 refine zbq (Zio s) s.a.length (fun i=>if Zcr (s.a.drop i) (s.c.drop i)=true then some (.n,⟨[],[],2⟩) else some (.r,⟨[(2,.b false)],[],2⟩)) (fun i hi=>?_) ?_
 ·have hic:i<s.c.length:=by omega
  have hws:=ze0 hi (by omega);obtain⟨g1,g2⟩:=h1 _ (Yaa hi);have g3:=h2 _ (Yaa hic);have c1:=zfq (T:=T) (s.a[i]'hi) g2 (by decide) (by omega);have z1:=zjy g2 (by decide) (s.a[i]'hi).length (Yi _);rw[Yb (Yi _)]at z1;have c2:=ze2 (T:=T) (fz (sumF (s.a[i]'hi))) (s.c[i]'hic) (by rw[zeb];omega) (by omega);rw[zj7]at c2;have key:Zcr (s.a.drop i) (s.c.drop i)=(decide (sumF (s.a[i]'hi)=fv (s.c[i]'hic))&&Zcr (s.a.drop (i+1)) (s.c.drop (i+1))):=by
   grind[Zcr,List.drop_eq_getElem_cons,List.zip_cons_cons]
  have hic':(i:Int)<s.c.length:=by omega
  generalize fz (sumF (s.a[i]'hi))=z at *
  by_cases he:sumF (s.a[i]'hi)=fv (s.c[i]'hic)
  ·left;refine⟨?_,by grind⟩;unfold Zio bxS;simp -implicitDefEqProofs[l561_0,hi,hws,c1,c2,he,hic,hic']
  ·right;rw[if_neg (by grind)];unfold Zio bxS;constructor<;>simp -implicitDefEqProofs[l561_0,hi,c1,c2,he,hic,hic']
 ·have e:Zcr [] (s.c.drop s.a.length)=true:=rfl;simp only[Yar,e,if_true];unfold Zio bxS;constructor<;>simp -implicitDefEqProofs[l561_0]
theorem zno(s:Sm)(hl:s.a.length≤8)(hc:s.c.length=s.a.length)(h1:∀r∈s.a,r.length≤8∧∀x∈r,fsz x≤6)(h2:∀x∈s.c,fsz x≤6):Zb T 561 [esm s]=some (.b (Zcr s.a s.c)):=by
 have h:=zub (T:=T) s hl hc h1 h2;unfold Zio bxS at h;rw[Yba,Yba]at h;rw[zab Zad.h561 rfl,b561];obtain⟨nm,c,a,b,e⟩:=s;cases hr:Zcr a c<;>rw[hr]at h<;>simp at h<;>simp -implicitDefEqProofs[h]
theorem zco:∀(a:List (List Fz)) (i:Nat),Zb4 a i=true→∀r∈a,r.length≤i+a.length
 | [],_,_,r,hr=>by grind
 | x::a,i,h,r,hr=>by
  simp only[Zb4,Yk,decide_eq_true_eq]at h;rcases Ym.1 hr with rfl | hr
  ·omega
  ·have:=zco a (i+1) h.2 r hr
   grind
theorem zis{s:Sm}(h:Zed s=true):1≤s.b.length∧s.b.length≤8∧s.c.length=s.b.length∧s.a.length=s.b.length∧(s.e.length=s.b.length∨s.e.length=0)∧Zb4 s.a 0=true:=by
 grind[Zed]
theorem zf9{m:List (List Fz)}(h:Zc5 m=true):∀r∈m,∀x∈r,fsz x≤6:=by
 grind[Zc5,znn]
theorem zpb{l:List Fz}(hl:l.length≤8)(hw:∀x∈l,fsz x≤6):sz (sumF l)≤57:=by
 have:=zjy hw (by decide) l.length (Yi _)
 grind
end
section
variable{T:Tbl}[Z9 T][Zp T][Zv T][Zy T][Zr T][Zu T][Zf T][Zn T][Zz T][Zbc T][Zbk T][Zb3 T][Zc9 T][Zco T][Zdx T][Zgf T][Zge T][Zat T][Zbn T][Zad T]
theorem zfz(s:Sm)(hs:SmS s):Zb T 551 [esm s]=some (.i .i64 (Zcs s)):=by
 have o1:=zv9 (T:=T);have c1:=zlm (T:=T) 2 0 s.nm (Yg hs.nm (by decide));have c2:=zl6 (T:=T) s hs;have c3:=zea (T:=T) s.a hs.al (fun r hr=>⟨(hs.a r hr).1,fun x hx=>Yg ((hs.a r hr).2 x hx) (by decide)⟩);have c4:=zea (T:=T) [s.b,s.c,s.e] (by simp) (fun r hr=>by
  simp only[Ym,Yb8,or_false]at hr;rcases hr with rfl | rfl | rfl
  ·exact⟨hs.bl,fun x hx=>Yg (hs.b x hx) (by decide)⟩
  ·exact⟨hs.cl,fun x hx=>Yg (hs.c x hx) (by decide)⟩
  ·exact⟨hs.el,fun x hx=>Yg (hs.e x hx) (by decide)⟩)
 replace c4:Zb T 560 [.sl [[.sl (Zi s.b) .an],[.sl (Zi s.c) .an],[.sl (Zi s.e) .an]] .an]=some (.b (Zc5 [s.b,s.c,s.e])):=c4;have k5:=zno (T:=T) s;have k6:=fun(hl:s.b.length≤8) (h:∀x∈s.b,fsz x≤6)=>zfq (T:=T) s.b h (by decide) (by omega);have k7:=fun(hl:s.e.length≤8) (h:∀x∈s.e,fsz x≤6)=>zfq (T:=T) s.e h (by decide) (by omega);rw[zab Zad.h551 rfl,b551];unfold Zcs;cases g1:Za7 2 s.nm with
 | false=>
  rw[g1]at c1;obtain⟨nm,c,a,b,e⟩:=s;generalize fz 1=z1 at *
  dsimp only at *
  simp -implicitDefEqProofs[o1,c1]
 | true=>
 rw[g1]at c1;cases g2:Zed s with
 | false=>
  rw[g2]at c2;obtain⟨nm,c,a,b,e⟩:=s;generalize fz 1=z1 at *
  dsimp only at *
  simp -implicitDefEqProofs[o1,c1,c2]
 | true=>
 rw[g2]at c2;obtain⟨s1,s2,s3,s4,s5,s6⟩:=zis g2;cases g3:Zc5 s.a with
 | false=>
  rw[g3]at c3;obtain⟨nm,c,a,b,e⟩:=s;simp -implicitDefEqProofs[o1,c1,c2,c3]
 | true=>
 rw[g3]at c3;cases g4:Zc5 [s.b,s.c,s.e]with
 | false=>
  rw[g4]at c4;obtain⟨nm,c,a,b,e⟩:=s;simp -implicitDefEqProofs[o1,c1,c2,c3,c4]
 | true=>
 rw[g4]at c4;have n1:=zf9 g3;have n2:=zf9 g4;have nb:=n2 s.b (by simp);have nc:=n2 s.c (by simp);have ne:=n2 s.e (by simp);have c5:=k5 (by omega) (by omega) (fun r hr=>⟨by have:=zco _ _ s6 r hr;omega,n1 r hr⟩) nc;have c6:=k6 (by omega) nb;have c7:=k7 (by omega) ne;have z6:=zpb (l:=s.b) (by omega) nb;have z7:=zpb (l:=s.e) (by omega) ne;have d6:=ze2 (T:=T) (fz (sumF s.b)) (fz 1) (by rw[zeb];omega) (by rw[zeb,zye];omega);have d7:=ze2 (T:=T) (fz (sumF s.e)) (fz 1) (by rw[zeb];omega) (by rw[zeb,zye];omega);rw[zj7,zj7]at d6 d7;cases g5:Zcr s.a s.c with
 | false=>
  rw[g5]at c5;obtain⟨nm,c,a,b,e⟩:=s;simp -implicitDefEqProofs[o1,c1,c2,c3,c4,c5]
 | true=>
 rw[g5]at c5;obtain⟨nm,c,a,b,e⟩:=s;generalize fz (sumF b)=zb at *
 generalize fz (sumF e)=ze at *
 by_cases g6:sumF b=1
 ·by_cases g7:e=[]
  ·subst g7;replace c2:Zb T 559 [.agg [.s nm,.sl (Zi c) .an,.sl (Z3 a) .an,.sl (Zi b) .an,.sl [] .an]]=_:=c2;replace c4:Zb T 560 [.sl [[.sl (Zi b) .an],[.sl (Zi c) .an],[.sl [] .an]] .an]=_:=c4;replace c5:Zb T 561 [.agg [.s nm,.sl (Zi c) .an,.sl (Z3 a) .an,.sl (Zi b) .an,.sl [] .an]]=_:=c5;simp -implicitDefEqProofs[o1,c1,c2,c3,c4,c5,c6,d6,g6]
  ·have l7:0<e.length:=Ycu.2 g7;by_cases g8:sumF e=1
   ·simp -implicitDefEqProofs[o1,c1,c2,c3,c4,c5,c6,d6,g6,c7,d7,g7,g8,l7]
   ·simp -implicitDefEqProofs[o1,c1,c2,c3,c4,c5,c6,d6,g6,c7,d7,g7,g8,l7]
 ·simp -implicitDefEqProofs[o1,c1,c2,c3,c4,c5,c6,d6,g6]
theorem zl7(s:Sm)(hs:SmS s):Zb T 536 [esm s]=some (.b (okS s)):=by
 have h:=zfz (T:=T) s hs;rw[zab Zad.h536 rfl,b536];unfold okS;generalize Zcs s=w at *
 by_cases hw:w=0
 ·subst hw;simp -implicitDefEqProofs[h]
 ·simp -implicitDefEqProofs[h,hw]
end
end Go.Ab
end
section
namespace Go.Ab
structure PbS (q:Pb):Prop where
 t:TpS q.t
 s:SmS q.s
 p:∀x∈q.p,fsz x≤1000
 pl:q.p.length≤1000
def Zmn(p:Pb)(t:Fz)(y:List Fz):List Rat×Nat×Nat:=Zkl (Zmi p.bits) p.t ⟨fv t,y.map fv,p.p.map fv⟩
end Go.Ab
end
section
namespace Go.Ab
def bxR(g:Nat)(r:Rd):Box:=⟨g,.str,3,[[.s r.rest,.i .i64 r.at_,.b r.over]]⟩
theorem zt6(c:UInt8):∀l:List UInt8,decide (0≤Lib.indexByte l c)=l.contains c:=by
 intro l;have h:=Lib.indexByte;rcases zcf c l with ⟨h1,h2,_⟩ | ⟨m,h1,h2,h3⟩
 ·rw[h2];have:c∉l:=fun hc=>by have:=List.count_pos_iff.2 hc;omega
  simp[this]
 ·rw[h2];have:c∈l:=by
   have hc:l.count c≠0:=by
    intro h0;rcases zcf c l with ⟨_,k,_⟩ | ⟨k,_,_,h4⟩
    ·rw[k]at h2;omega
    ·have:=zbr c l;rw[h3,Yc,zbr,h0]at this;omega
   exact List.count_pos_iff.1 (by omega)
  simp[this]
section
variable{T:Tbl}[Zq T][Zat T][Zbn T][Zcq T][Zak T][Zai T]
theorem zqt(l:List UInt8)(c:UInt8)(hl:l.length≤1000000):Zb T 64 [.s l,.s [c,32]]=some (.tup [.s (if l.take 2=[c,32] then l.drop 2 else l),.b (decide (l.take 2=[c,32]))]):=by
 have h1:Zb T 123 [.s l,.s [c,32]]=some (.b (decide (l.take 2=[c,32]))):=by
  rw[zab Zq.h123 rfl,b123]
  match l with
  | []=>simp -implicitDefEqProofs
  | [a]=>simp -implicitDefEqProofs
  | a::b::r=>
   have h2:(2:Int)≤(r.length:Int)+1+1:=by omega
   have h3:2≤r.length+1+1:=by omega
   by_cases ha:a=c
   ·by_cases hb:b=32
    ·simp -implicitDefEqProofs[h2,h3,ha,hb]
    ·simp -implicitDefEqProofs[h2,h3,ha,hb]
   ·simp -implicitDefEqProofs[h2,h3,ha]
 have h3:Zb T 98 [.s l,.s [c,32]]=some (.tup [.s (if l.take 2=[c,32] then l.drop 2 else l),.b (decide (l.take 2=[c,32]))]):=by
  rw[zab Zq.h98 rfl,b98];by_cases h:l.take 2=[c,32]
  ·have hlen:2≤l.length:=by
    have:=congrArg List.length h;rw[Ya1]at this;simp at this;omega
   have hlen':(2:Int)≤l.length:=by omega
   rw[decide_eq_true h]at h1;rw[if_pos h,decide_eq_true h];clear h;simp -implicitDefEqProofs[h1,hlen,hlen']
  ·rw[decide_eq_false h]at h1;rw[if_neg h,decide_eq_false h];clear h;simp -implicitDefEqProofs[h1]
 rw[zab Zq.h64 rfl,b64];generalize decide (l.take 2=[c,32])=B at *
 generalize (if l.take 2=[c,32] then l.drop 2 else l)=M at *
 simp -implicitDefEqProofs[h3]
theorem znj(l:List UInt8)(c:UInt8):Zb T 618 [.s l,.s [c]]=some (.b (l.contains c)):=by
 have h:=zl8 (T:=T) l c;have e:=zt6 c l;rw[zab Zai.h618 rfl,b618,←e];generalize Lib.indexByte l c=n at *
 simp -implicitDefEqProofs[h]
theorem zfo(r:Rd)(hr:r.rest.length≤1000000)(ha:r.at_≤1000000) :
  Zcj T 614 [.ptr (.bor 0) 0 3 0 0] [(.bor 0,bxR 0 r)]=some (.tup [.s (Zh r),.i .i64 r.at_,.b (!r.over)],[(.bor 0,bxR 0 (Z1 r))]):=by
 have c:=ztg (T:=T) r.rest hr;unfold bxR Zh Z1;obtain⟨l,a,o⟩:=r;dsimp only at *
 have e1:l.takeWhile (· != 10)=hdC 10 l:=rfl;have e2:(l.dropWhile (· != 10)).drop 1=tlC 10 l:=rfl;have hle:(hdC 10 l).length≤l.length:=(Ya4 _).length_le;rw[e1,e2]at c;rw[zbl Zai.h614 rfl,b614];cases o with
 | true=>simp -implicitDefEqProofs[]
 | false=>
  generalize hdC 10 l=H at *
  generalize tlC 10 l=Tl at *
  have w1:IntKind.wrap .i64 ((a:Int)+H.length)=((a+H.length:Nat):Int):=by rw[zac _ (by omega)];omega
  have w2:IntKind.wrap .i64 ((a:Int)+H.length+1)=(a:Int)+H.length+1:=zac _ (by omega);cases hc:l.contains 10 with
  | true=>
   rw[hc]at c;simp -implicitDefEqProofs[c,w1,w2]
  | false=>
   rw[hc]at c;simp -implicitDefEqProofs[c,w1,w2]
theorem z0d(r:Rd)(t:List UInt8)(n:Nat)(hn:n≤t.length)(ht:t.length≤1000000) :
  Zcj T 619 [.ptr (.bor 0) 0 3 0 0,.s t,.i .i64 n] [(.bor 0,bxR 0 r)]=some (.tup [],[(.bor 0,bxR 0 ⟨t.drop n,n,false⟩)]):=by
 unfold bxR;obtain⟨l,a,o⟩:=r;dsimp only at *
 have hn':(n:Int)≤t.length:=by omega
 rw[zbl Zai.h619 rfl,b619];simp -implicitDefEqProofs[hn,hn']
theorem zhi(k a b:Int)(h1:-1000000≤a∧a≤1000000)(h2:-2000000≤b∧b≤2000000):Zb T 621 [flt k a,.i .i64 b]=some (flt (shF (k,a) b).1 (shF (k,a) b).2):=by
 have w:IntKind.wrap .i64 (a+b)=a+b:=zac _ (by omega);unfold shF;rw[zab Zai.h621 rfl,b621];by_cases hk:k=0
 ·by_cases ha:a=0
  ·subst hk ha;simp -implicitDefEqProofs[]
  ·simp -implicitDefEqProofs[hk,ha,w]
 ·simp -implicitDefEqProofs[hk,w]
end
end Go.Ab
end
section
namespace Go.Ab
theorem zfp(c:UInt8):∀l:List UInt8,((Zt c l).map fun w=>w.length+1).sum=l.length+1
 | []=>rfl
 | b::l=>by
  have ih:=zfp c l;by_cases h:b=c
  ·subst h;simp[Zt,ih];omega
  ·cases hs:Zt c l with
   | nil=>rw[hs]at ih;simp at ih
   | cons p r=>
    rw[hs]at ih;simp only[Ys,Ycm]at ih;simp[Zt,h,hs];omega
theorem zhj:∀(ws:List (List UInt8)) (k:Nat) (acc:List Rat),((Zao ws k acc).2.1=0∧(Zao ws k acc).2.2=0) ∨
  (((Zao ws k acc).2.1=1∨(Zao ws k acc).2.1=2)∧0≤(Zao ws k acc).2.2∧(Zao ws k acc).2.2≤k+((ws.map fun w=>w.length+1).sum:Nat)+62)
 | [],_,_=>.inl ⟨rfl,rfl⟩
 | w::ws,k,acc=>by
  unfold Zao;by_cases h1:(Zaa w).2.1=0
  ·rw[if_pos h1];rcases zhj ws (k+w.length+1) (acc++[(Zaa w).1]) with h | ⟨h2,h3,h4⟩
   ·exact .inl h
   ·refine .inr ⟨h2,h3,?_⟩;simp only[Ys,Ycm];omega
  ·rw[if_neg h1];rcases zfj w with h | ⟨h2,h3,h4⟩
   ·exact absurd h.1 h1
   ·refine .inr ⟨h2,?_,?_⟩
    ·show 0≤(Zaa w).2.2+(k:Int);omega
    ·show (Zaa w).2.2+(k:Int)≤_;simp only[Ys,Ycm];omega
theorem zir(s:List UInt8):((Zb0 s).2.1=0∧(Zb0 s).2.2=0)∨(((Zb0 s).2.1=1∨(Zb0 s).2.1=2)∧0≤(Zb0 s).2.2∧(Zb0 s).2.2≤s.length+63):=by
 unfold Zb0;by_cases h:s=[]
 ·rw[if_pos h];exact .inl ⟨rfl,rfl⟩
 ·rw[if_neg h];rcases zhj (Zt 44 s) 0 []with h | ⟨h2,h3,h4⟩
  ·exact .inl h
  ·refine .inr ⟨h2,h3,?_⟩;rw[zfp]at h4;omega
theorem zwz{f:Int×Int}(h:(f.1=0∧f.2=0)∨((f.1=1∨f.1=2)∧0≤f.2)):f=(0,0)↔f.1=0:=by
 obtain⟨a,b⟩:=f;simp only[Prod.mk.injEq];omega
section
variable{T:Tbl}[Z9 T][Zp T][Zv T][Zy T][Zr T][Zu T][Zq T][Za0 T][Zf T][Zn T][Zz T][Za6 T][Zcq T][Zak T][Zb3 T][Zcn T][Zat T][Zby T][Zcw T][Zbn T][Zai T]
theorem zl3(hcut:∀l:List UInt8,l.length≤1000000→Zb T 184 [.s l,.s [124]]=some (.tup [.s (hdC 124 l),.s (tlC 124 l),.b (l.contains 124)]))
  (l:List UInt8) (n:Nat) (hl:l.length≤100000) (hn:n≤500000) :
  Zb T 620 [.s l,.i .i64 n]=some (.tup [efz (fz (Zbt l n).1),.sl (Zi (fzs (Zbt l n).2.1)) .an,flt (Zbt l n).2.2.1 (Zbt l n).2.2.2]):=by
 have c:=hcut l (by omega);have h1:(hdC 124 l).length≤l.length:=(Ya4 _).length_le;have h2:(tlC 124 l).length≤l.length:=by
  unfold tlC;rw[Yan];have:=(Yd8 (fun x:UInt8=>x != 124) (l:=l)).length_le;omega
 have c1:=zli (T:=T) (hdC 124 l) (by omega);have c2:=zox (T:=T) (tlC 124 l) (by omega);have f1:=zfj (hdC 124 l);have f2:=zir (tlC 124 l);have w1:IntKind.wrap .i64 ((n:Int)+(hdC 124 l).length)=(n:Int)+(hdC 124 l).length:=zac _ (by omega);have w2:IntKind.wrap .i64 ((n:Int)+(hdC 124 l).length+1)=(n:Int)+(hdC 124 l).length+1:=zac _ (by omega);have s1:=zhi (T:=T) (Zaa (hdC 124 l)).2.1 (Zaa (hdC 124 l)).2.2 n (by omega) (by omega);have s2:=zhi (T:=T) (Zb0 (tlC 124 l)).2.1 (Zb0 (tlC 124 l)).2.2 ((n:Int)+(hdC 124 l).length+1) (by omega) (by omega);have z1:=zwz (f:=(Zaa (hdC 124 l)).2) (by omega);unfold Zbt;rw[zab Zai.h620 rfl,b620];generalize hF:Zaa (hdC 124 l)=F at *
 generalize Zb0 (tlC 124 l)=R at *
 obtain⟨q,k,a⟩:=F;obtain⟨L,k2,a2⟩:=R;dsimp only at *
 by_cases hk:k=0
 ·have ha:a=0:=by omega
  subst hk ha;rw[if_neg (by simp)];generalize shF (k2,a2) ((n:Int)+(hdC 124 l).length+1)=S at *
  generalize fz q=Z at *
  generalize fzs L=M at *
  generalize hdC 124 l=H at *
  generalize tlC 124 l=K at *
  obtain⟨g1,g2⟩:=S;obtain⟨y1,y2,y3⟩:=Z;dsimp only at *
  simp -implicitDefEqProofs[c,c1,c2,w1,w2,s2,zzi]
 ·rw[if_pos (fun h=>hk (congrArg Prod.fst h))];generalize shF (k,a) (n:Int)=S at *
  generalize fz q=Z at *
  generalize hdC 124 l=H at *
  generalize tlC 124 l=K at *
  have e0:fzs []=[]:=rfl;obtain⟨g1,g2⟩:=S;obtain⟨y1,y2,y3⟩:=Z;dsimp only at *
  rw[e0];simp -implicitDefEqProofs[c,c1,s1,hk]
theorem zhk(r:Rd)(c:UInt8)(hr:r.rest.length≤100000)(ha:r.at_≤500000) :
  Zcj T 616 [.ptr (.bor 0) 0 3 0 0,.s [c]] [(.bor 0,bxR 0 r)]=some (.tup [.sl (Zi (fzs (Zdg c r).1)) .an,flt (Zdg c r).2.1 (Zdg c r).2.2],[(.bor 0,bxR 0 (Z1 r))]):=by
 have c1:=zfo (T:=T) r (by omega) (by omega);have hlen:(Zh r).length≤r.rest.length:=by
  unfold Zh;split
  ·simp
  ·exact(Ya4 _).length_le
 have c2:=zqt (T:=T) (Zh r) c (by omega);have c3:=zox (T:=T) ((Zh r).drop 2) (by rw[Yan];omega);have f2:=zir ((Zh r).drop 2);rw[Yan]at f2;have w1:IntKind.wrap .i64 ((r.at_:Int)+1)=(r.at_:Int)+1:=zac _ (by omega);have w2:IntKind.wrap .i64 ((r.at_:Int)+1+1)=(r.at_:Int)+2:=by rw[zac _ (by omega)];omega
 have s2:=zhi (T:=T) (Zb0 ((Zh r).drop 2)).2.1 (Zb0 ((Zh r).drop 2)).2.2 ((r.at_:Int)+2) (by omega) (by omega);unfold Zdg;unfold bxR at *
 generalize Z1 r=r' at *
 rw[zbl Zai.h616 rfl,b616];by_cases h:(Zh r).take 2=[c,32]
 ·rw[if_pos h,decide_eq_true h]at c2;rw[if_pos h];clear f2 h;generalize (Zh r).drop 2=D at *
  generalize Zh r=L at *
  generalize Zb0 D=R at *
  obtain⟨M,k2,a2⟩:=R;dsimp only at *
  generalize shF (k2,a2) ((r.at_:Int)+2)=S at *
  obtain⟨g1,g2⟩:=S;generalize fzs M=N at *
  obtain⟨rest,a,o⟩:=r;obtain⟨rest',a',o'⟩:=r';dsimp only at *
  simp -implicitDefEqProofs[c1,c2,c3,w1,w2,s2]
 ·rw[if_neg h,decide_eq_false h]at c2;rw[if_neg h];have e0:fzs []=[]:=rfl;clear f2 h c3 s2;generalize Zh r=L at *
  obtain⟨rest,a,o⟩:=r;obtain⟨rest',a',o'⟩:=r';dsimp only at *
  rw[e0];simp -implicitDefEqProofs[c1,c2]
end
end Go.Ab
end
section
namespace Go.Ab
structure Sg where
 nm:List UInt8
 c:List Fz
 a:List (List Fz)
def hpG(r:Rd)(s:Sg):Heap:=[(.bor 0,bxR 0 r),(.bor 1,⟨1,.str,5,[[.s s.nm,.bs (.fld (.bor 1) 1) 5 3 0 s.c.length,.bs (.fld (.bor 1) 2) 6 1 0 s.a.length,.sl [] .nl,.sl [] .nl]]⟩),
 (.fld (.bor 1) 1,⟨5,.own,3,Zi s.c⟩),(.fld (.bor 1) 2,⟨6,.own,1,Z3 s.a⟩)]
def stG(t:List UInt8)(r:Rd)(s:Sg):St:=⟨[(0,.ptr (.bor 0) 0 3 0 0),(1,.s t),(2,.ptr (.bor 1) 1 5 0 0),(6,.ptr (.loc 6) 7 4 0 0)],
 hpG r s++[(.loc 6,⟨7,.str,4,[[.i .i64 0,.i .i64 0,.i .i64 0,.i .i64 0]]⟩)],9⟩
def Zfj(r:Rd)(s:Sg)(k a:Int):Ex×St:=(.r,⟨[(6,.ptr (.loc 6) 7 4 0 0)],hpG r s++[(.loc 6,⟨7,.str,4,[[.i .i64 k,.i .i64 0,.i .i64 0,.i .i64 a]]⟩)],9⟩)
section
variable{T:Tbl}[Z9 T][Zp T][Zv T][Zy T][Zr T][Zu T][Zq T][Za0 T][Zf T][Zn T][Zz T][Za6 T][Zcq T][Zak T][Zb3 T][Zcn T][Zat T][Zby T][Zcw T][Zbn T][Zai T]
theorem z5c(t:List UInt8)(r:Rd)(s:Sg)(ho:r.over=true)(hr:r.rest.length≤1000000)(ha:r.at_≤1000000) :
  evX (orc T) T 2 l615_0 (stG t r s)=some (Zfj r s 0 0):=by
 have c1:=zfo (T:=T) r hr ha;have e1:Zh r=[]:=by unfold Zh;rw[ho];rfl
 have e2:Z1 r=r:=by unfold Z1;rw[ho];rfl
 rw[e1,e2,ho]at c1;unfold bxR at c1;unfold stG Zfj hpG bxR;obtain⟨rest,a,o⟩:=r;obtain⟨nm,C,A⟩:=s;dsimp only at *
 simp -implicitDefEqProofs[l615_0,c1]
theorem z5d(t:List UInt8)(r:Rd)(s:Sg)(ho:r.over=false)(hb:(Zh r).contains 124=false)(hr:r.rest.length≤1000000)(ha:r.at_≤t.length)(ht:t.length≤1000000) :
  evX (orc T) T 2 l615_0 (stG t r s)=some (Zfj ⟨t.drop r.at_,r.at_,false⟩ s 0 0):=by
 have c1:=zfo (T:=T) r hr (by omega);have c2:=znj (T:=T) (Zh r) 124;have c3:=z0d (T:=T) (Z1 r) t r.at_ ha ht;rw[ho]at c1;rw[hb]at c2;unfold bxR at c1 c3;unfold stG Zfj hpG bxR;generalize Z1 r=r' at *
 generalize Zh r=L at *
 obtain⟨rest,a,o⟩:=r;obtain⟨rest',a',o'⟩:=r';obtain⟨nm,C,A⟩:=s;dsimp only at *
 simp -implicitDefEqProofs[l615_0,c1,c2,c3]
theorem zadn(hcut:∀l:List UInt8,l.length≤1000000→Zb T 184 [.s l,.s [124]]=some (.tup [.s (hdC 124 l),.s (tlC 124 l),.b (l.contains 124)]))
  (t:List UInt8) (r:Rd) (s:Sg) (ho:r.over=false) (hb:(Zh r).contains 124=true) (hr:r.rest.length≤100000) (ha:r.at_≤100000) (hf:(Zbt (Zh r) r.at_).2.2≠(0,0)) :
  evX (orc T) T 2 l615_0 (stG t r s)=some (Zfj (Z1 r) s (Zbt (Zh r) r.at_).2.2.1 (Zbt (Zh r) r.at_).2.2.2):=by
 have c1:=zfo (T:=T) r (by omega) (by omega);have c2:=znj (T:=T) (Zh r) 124;have hlen:(Zh r).length≤r.rest.length:=by
  unfold Zh;split
  ·simp
  ·exact(Ya4 _).length_le
 have c3:=zl3 (T:=T) hcut (Zh r) r.at_ (by omega) (by omega);rw[ho]at c1;rw[hb]at c2;unfold bxR at c1;unfold stG Zfj hpG bxR;generalize Z1 r=r' at *
 generalize Zh r=L at *
 generalize Zbt L (r.at_:Int)=S at *
 obtain⟨q,M,k,b⟩:=S;generalize fz q=z at *
 generalize fzs M=N at *
 obtain⟨rest,a,o⟩:=r;obtain⟨rest',a',o'⟩:=r';obtain⟨nm,C,A⟩:=s;obtain⟨z1,z2,z3⟩:=z;dsimp only at *
 by_cases hk:k=0
 ·have hb0:¬ b=0:=fun h=>hf (by rw[hk,h]);simp -implicitDefEqProofs[l615_0,c1,c2,c3,hk,hb0]
 ·simp -implicitDefEqProofs[l615_0,c1,c2,c3,hk]
theorem z0e(hcut:∀l:List UInt8,l.length≤1000000→Zb T 184 [.s l,.s [124]]=some (.tup [.s (hdC 124 l),.s (tlC 124 l),.b (l.contains 124)]))
  (t:List UInt8) (r:Rd) (s:Sg) (ho:r.over=false) (hb:(Zh r).contains 124=true) (hr:r.rest.length≤100000) (ha:r.at_≤100000) (hc:s.c.length≤1000000) (hA:s.a.length≤1000000) (hf:(Zbt (Zh r) r.at_).2.2=(0,0)) :
  evX (orc T) T 2 l615_0 (stG t r s)=some (.n,stG t (Z1 r) ⟨s.nm,s.c++[fz (Zbt (Zh r) r.at_).1],s.a++[fzs (Zbt (Zh r) r.at_).2.1]⟩):=by
 have c1:=zfo (T:=T) r (by omega) (by omega);have c2:=znj (T:=T) (Zh r) 124;have hlen:(Zh r).length≤r.rest.length:=by
  unfold Zh;split
  ·simp
  ·exact(Ya4 _).length_le
 have c3:=zl3 (T:=T) hcut (Zh r) r.at_ (by omega) (by omega);rw[ho]at c1;rw[hb]at c2;unfold bxR at c1;unfold stG hpG bxR;generalize Z1 r=r' at *
 generalize Zh r=L at *
 generalize Zbt L (r.at_:Int)=S at *
 obtain⟨q,M,k,b⟩:=S;generalize fz q=z at *
 generalize fzs M=N at *
 obtain⟨rest,a,o⟩:=r;obtain⟨rest',a',o'⟩:=r';obtain⟨nm,C,A⟩:=s;dsimp only at *
 obtain⟨rfl,rfl⟩:=Prod.mk.inj hf;have p1:=zmf C z;have p2:Z3 A++[[.sl (Zi N) .an]]=Z3 (A++[N]):=by simp[Z3]
 have t1:List.take C.length C=C:=Yb9;have t2:List.take A.length A=A:=Yb9;have h1:C.length+1≤4294967296:=by omega
 have h2:A.length+1≤4294967296:=by omega
 obtain⟨z1,z2,z3⟩:=z;rw[Yp,Yp];simp -implicitDefEqProofs[l615_0,c1,c2,c3,p1,p2,t1,t2,h1,h2]
end
end Go.Ab
end
section
namespace Go.Ab
def Zag(t:List UInt8):Nat→Rd→Sg→Rd×Sg×Int×Int
 | 0,r,s=>(r,s,0,0)
 | n+1,r,s=>
  if r.over=true then (r,s,0,0)
  else if (Zh r).contains 124=false then (⟨t.drop r.at_,r.at_,false⟩,s,0,0)
  else if (Zbt (Zh r) r.at_).2.2≠(0,0) then (Z1 r,s,(Zbt (Zh r) r.at_).2.2)
  else Zag t n (Z1 r) ⟨s.nm,s.c++[fz (Zbt (Zh r) r.at_).1],s.a++[fzs (Zbt (Zh r) r.at_).2.1]⟩
def muR(r:Rd):Nat:=if r.over then 0 else r.rest.length+1
theorem znk:∀(l:List UInt8) (c:UInt8) (_:l.contains c=true),(hdC c l).length+1+(tlC c l).length=l.length
 | [],c,h=>by simp at h
 | b::l,c,h=>by
  by_cases hb:b=c
  ·subst hb;simp[hdC,tlC];omega
  ·have h2:l.contains c=true:=by
    rw[Ybi]at h ⊢;rcases Ym.1 h with h | h
    ·exact absurd h.symm hb
    ·exact h
   have ih:=znk l c h2;unfold hdC tlC at *
   simp only[Ydq,List.dropWhile_cons,bne_iff_ne,ne_eq,hb,not_false_eq_true,if_true,Yc];omega
theorem zw0(c:UInt8)(l:List UInt8):(hdC c l).length≤l.length:=(Ya4 _).length_le
structure RdOk (t:List UInt8) (r:Rd):Prop where
 a:r.at_≤t.length
 l:r.rest.length≤t.length
 s:r.over=false→r.at_+r.rest.length=t.length
theorem z5e(c:UInt8)(l:List UInt8):(tlC c l).length≤l.length:=by
 unfold tlC;rw[Yan];have:=(Yd8 (fun x:UInt8=>x != c) (l:=l)).length_le;omega
theorem znl{t:List UInt8}{r:Rd}(h:RdOk t r)(ho:r.over=false):RdOk t (Z1 r)∧muR (Z1 r)<muR r:=by
 have e:Z1 r=⟨tlC 10 r.rest,r.at_+(hdC 10 r.rest).length+(if r.rest.contains 10 then 1 else 0),!r.rest.contains 10⟩:=by unfold Z1;rw[ho];rfl
 have h1:=h.s ho;have h2:=zw0 10 r.rest;have h3:=z5e 10 r.rest;have h4:=h.l;rw[e];unfold muR;rw[ho];cases hc:r.rest.contains 10 with
 | true=>
  have h5:=znk r.rest 10 hc;refine⟨⟨?_,?_,fun _=>?_⟩,?_⟩
  ·simp;omega
  ·simp;omega
  ·simp;omega
  ·simp;omega
 | false=>
  refine⟨⟨?_,?_,fun h=>?_⟩,?_⟩
  ·simp;omega
  ·simp;omega
  ·cases h
  ·simp
section
variable{T:Tbl}[Z9 T][Zp T][Zv T][Zy T][Zr T][Zu T][Zq T][Za0 T][Zf T][Zn T][Zz T][Za6 T][Zcq T][Zak T][Zb3 T][Zcn T][Zat T][Zby T][Zcw T][Zbn T][Zai T]
theorem zt7(r:Rd)(s:Sg)(k a:Int):Zff (some (Zfj r s k a))=true∧Zfe 2 0 (.norm true [6]) (some (Zfj r s k a))=some (Zfj r s k a):=by
 unfold Zfj hpG bxR;constructor<;>simp -implicitDefEqProofs
theorem z5f(hcut:∀l:List UInt8,l.length≤1000000→Zb T 184 [.s l,.s [124]]=some (.tup [.s (hdC 124 l),.s (tlC 124 l),.b (l.contains 124)]))
  (t:List UInt8) (ht:t.length≤100000) (n:Nat) (r:Rd) (s:Sg) (hr:RdOk t r) (hn:muR r<n) (hc:s.c.length+n≤1000000) (ha:s.a.length+n≤1000000) :
  Zw T 2 0 (.norm true [6]) l615_0 (stG t r s)=some (Zfj (Zag t n r s).1 (Zag t n r s).2.1 (Zag t n r s).2.2.1 (Zag t n r s).2.2.2):=by
 refine zau (T:=T) (k:=2) (id:=0) (g2:=.norm true [6]) (c:=l615_0) (fun x:Nat×Rd×Sg=>stG t x.2.1 x.2.2)
  (fun x=>RdOk t x.2.1∧muR x.2.1<x.1∧x.2.2.c.length+x.1≤1000000∧x.2.2.a.length+x.1≤1000000) (fun x=>x.1)
  (fun x=>some (Zfj (Zag t x.1 x.2.1 x.2.2).1 (Zag t x.1 x.2.1 x.2.2).2.1 (Zag t x.1 x.2.1 x.2.2).2.2.1 (Zag t x.1 x.2.1 x.2.2).2.2.2)) ?_ (n,r,s) ⟨hr,hn,hc,ha⟩
 rintro⟨n,r,s⟩ ⟨hr,hn,hc,ha⟩
 dsimp only at *
 obtain⟨m,rfl⟩:∃m,n=m+1:=⟨n-1,by omega⟩;have b1:=hr.a;have b2:=hr.l;cases ho:r.over with
 | true=>
  right;have e:Zag t (m+1) r s=(r,s,0,0):=by rw[Zag,if_pos ho]
  rw[e,z5c (T:=T) t r s ho (by omega) (by omega)];exact zt7 r s 0 0
 | false=>
 cases hb:(Zh r).contains 124 with
 | false=>
  right;have e:Zag t (m+1) r s=(⟨t.drop r.at_,r.at_,false⟩,s,0,0):=by rw[Zag,if_neg (by rw[ho];decide),if_pos hb]
  rw[e,z5d (T:=T) t r s ho hb (by omega) b1 (by omega)];exact zt7 _ s 0 0
 | true=>
 by_cases hf:(Zbt (Zh r) r.at_).2.2=(0,0)
 ·left;have e:Zag t (m+1) r s=Zag t m (Z1 r) ⟨s.nm,s.c++[fz (Zbt (Zh r) r.at_).1],s.a++[fzs (Zbt (Zh r) r.at_).2.1]⟩:=by
   rw[Zag,if_neg (by rw[ho];decide),if_neg (by rw[hb];decide),if_neg (by simpa using hf)]
  obtain⟨k1,k2⟩:=znl hr ho;have e2:=z0e (T:=T) hcut t r s ho hb (by omega) (by omega) (by omega) (by omega) hf;refine⟨(m,Z1 r,⟨s.nm,s.c++[fz (Zbt (Zh r) r.at_).1],s.a++[fzs (Zbt (Zh r) r.at_).2.1]⟩),⟨k1,show muR (Z1 r)<m by omega,?_,?_⟩,by show m<m+1;omega,e2,by rw[e]⟩
  ·simp only[Yp,Yc,Y5];omega
  ·simp only[Yp,Yc,Y5];omega
 ·right;have e:Zag t (m+1) r s=(Z1 r,s,(Zbt (Zh r) r.at_).2.2):=by
   rw[Zag,if_neg (by rw[ho];decide),if_neg (by rw[hb];decide),if_pos hf]
  rw[e,zadn (T:=T) hcut t r s ho hb (by omega) (by omega) hf];exact zt7 _ s _ _
def Zji(nm:List UInt8):Box:=⟨1,.str,5,[[.s nm,.sl [] .nl,.sl [] .nl,.sl [] .nl,.sl [] .nl]]⟩
theorem zqu(hcut:∀l:List UInt8,l.length≤1000000→Zb T 184 [.s l,.s [124]]=some (.tup [.s (hdC 124 l),.s (tlC 124 l),.b (l.contains 124)]))
  (t nm:List UInt8) (ht:t.length≤100000) (n:Nat) (r:Rd) (hr:RdOk t r) (hn:muR r<n) (hc:n≤1000000) :
  Zcj T 615 [.ptr (.bor 0) 0 3 0 0,.s t,.ptr (.bor 1) 1 5 0 0] [(.bor 0,bxR 0 r),(.bor 1,Zji nm)] =
   some (flt (Zag t n r ⟨nm,[],[]⟩).2.2.1 (Zag t n r ⟨nm,[],[]⟩).2.2.2,hpG (Zag t n r ⟨nm,[],[]⟩).1 (Zag t n r ⟨nm,[],[]⟩).2.1):=by
 have hl:=z5f (T:=T) hcut t ht n r ⟨nm,[],[]⟩ hr hn (by simpa using hc) (by simpa using hc);generalize Zag t n r ⟨nm,[],[]⟩=S at *
 obtain⟨r',s',k,a⟩:=S;unfold stG Zfj hpG bxR at hl;unfold hpG bxR Zji;obtain⟨rest,at_,o⟩:=r;obtain⟨rest',at',o'⟩:=r';obtain⟨nm',C,A⟩:=s';dsimp only at *
 simp only[Y5,zgc,zxf,Ya2,Yau]at hl;rw[zbl Zai.h615 rfl,b615];simp -implicitDefEqProofs[hl]
end
end Go.Ab
end
section
namespace Go.Ab
theorem zd2{t:List UInt8}{r:Rd}(h:RdOk t r):RdOk t (Z1 r):=by
 cases ho:r.over with
 | true=>
  have e:Z1 r=r:=by unfold Z1;rw[ho];rfl
  rw[e];exact h
 | false=>exact(znl h ho).1
theorem znm{t:List UInt8}:∀(n:Nat) (r:Rd) (s:Sg),RdOk t r→RdOk t (Zag t n r s).1
 | 0,_,_,h=>h
 | n+1,r,s,h=>by
  unfold Zag;by_cases h1:r.over=true
  ·rw[if_pos h1];exact h
  rw[if_neg h1];by_cases h2:(Zh r).contains 124=false
  ·rw[if_pos h2];exact⟨h.a,by simp,fun _=>by have:=h.a;simp;omega⟩
  rw[if_neg h2];by_cases h3:(Zbt (Zh r) r.at_).2.2≠(0,0)
  ·rw[if_pos h3];exact zd2 h
  ·rw[if_neg h3];exact znm n _ _ (zd2 h)
def smG(s:Sg)(b e:List Fz):Sm:=⟨s.nm,s.c,s.a,b,e⟩
def Zac(t:List UInt8):Rd×Sg×Int×Int:=Zag t (t.length+2) (Z1 ⟨t,0,false⟩) ⟨Zh ⟨t,0,false⟩,[],[]⟩
def Zar(t:List UInt8):Sm×Int×Int:=
 if Za7 2 (Zh ⟨t,0,false⟩)=false then (⟨Zh ⟨t,0,false⟩,[],[],[],[]⟩,1,0)
 else if (Zac t).2.2≠(0,0) then (smG (Zac t).2.1 [] [],(Zac t).2.2)
 else if (Zdg 98 (Zac t).1).2≠(0,0)∨(Z1 (Zac t).1).over=true then (smG (Zac t).2.1 (fzs (Zdg 98 (Zac t).1).1) [],(Zdg 98 (Zac t).1).2)
 else if (Zdg 101 (Z1 (Zac t).1)).2≠(0,0)∨(Z1 (Z1 (Zac t).1)).over=true then
  (smG (Zac t).2.1 (fzs (Zdg 98 (Zac t).1).1) (fzs (Zdg 101 (Z1 (Zac t).1)).1),(Zdg 101 (Z1 (Zac t).1)).2)
 else (smG (Zac t).2.1 (fzs (Zdg 98 (Zac t).1).1) (fzs (Zdg 101 (Z1 (Zac t).1)).1),1,(Z1 (Z1 (Zac t).1)).at_)
section
variable{T:Tbl}[Z9 T][Zp T][Zv T][Zy T][Zr T][Zu T][Zq T][Za0 T][Zf T][Zn T][Zz T][Za6 T][Zcq T][Zak T][Zb3 T][Zcn T][Zat T][Zby T][Zcw T][Zbn T][Zai T]
theorem zw1(hcut:∀l:List UInt8,l.length≤1000000→Zb T 184 [.s l,.s [124]]=some (.tup [.s (hdC 124 l),.s (tlC 124 l),.b (l.contains 124)]))
  (t:List UInt8) (ht:t.length≤50000):Zb T 612 [.s t]=some (.tup [esm (Zar t).1,flt (Zar t).2.1 (Zar t).2.2]):=by
 have h0:RdOk t ⟨t,0,false⟩:=⟨Yz _,Yi _,fun _=>Yas _⟩;have c1:=zfo (T:=T) ⟨t,0,false⟩ (by show t.length≤_;omega) (Yz _);obtain⟨k1,k2⟩:=znl h0 rfl;have hmu:muR (⟨t,0,false⟩:Rd)=t.length+1:=rfl;have hln:(Zh ⟨t,0,false⟩).length≤t.length:=zw0 10 t;have c2:=zlm (T:=T) 2 0 (Zh ⟨t,0,false⟩) (by omega);have c3:=zqu (T:=T) hcut t (Zh ⟨t,0,false⟩) (by omega) (t.length+2) (Z1 ⟨t,0,false⟩) k1 (by omega) (by omega);have hS:Zac t=Zag t (t.length+2) (Z1 ⟨t,0,false⟩) ⟨Zh ⟨t,0,false⟩,[],[]⟩:=rfl;rw[←hS]at c3;have o2:RdOk t (Zac t).1:=by rw[hS];exact znm _ _ _ k1
 have o3:=zd2 o2;have c4:=zhk (T:=T) (Zac t).1 98 (by have:=o2.l;omega) (by have:=o2.a;omega);have c5:=zhk (T:=T) (Z1 (Zac t).1) 101 (by have:=o3.l;omega) (by have:=o3.a;omega);unfold Zar;rw[zab Zai.h612 rfl,b612];clear hS o2 o3 h0 k1 k2 hmu hln hcut ht;generalize Zdg 98 (Zac t).1=B at *
 generalize Zdg 101 (Z1 (Zac t).1)=E at *
 generalize Z1 (Z1 (Zac t).1)=r4 at *
 generalize Z1 (Zac t).1=r3 at *
 generalize Zac t=S at *
 obtain⟨r2,s2,kS,aS⟩:=S;generalize Z1 ⟨t,0,false⟩=r1 at *
 generalize Zh ⟨t,0,false⟩=nm at *
 obtain⟨B,kB,aB⟩:=B;obtain⟨E,kE,aE⟩:=E;generalize fzs B=FB at *
 generalize fzs E=FE at *
 unfold hpG Zji bxR at c3;unfold bxR at c1 c4 c5;simp only[Yai,Bool.not_false]at c1;obtain⟨l1,a1,o1⟩:=r1;obtain⟨l2,a2,o2⟩:=r2;obtain⟨l3,a3,o3⟩:=r3;obtain⟨l4,a4,o4⟩:=r4;obtain⟨nm2,C,A⟩:=s2;unfold smG;dsimp only at *
 cases hR:Za7 2 nm with
 | false=>
  rw[hR]at c2;simp -implicitDefEqProofs[c1,c2]
 | true=>
 rw[hR]at c2;simp only[Bool.true_eq_false,if_false,ne_eq,Prod.mk.injEq];by_cases hk:kS=0∧aS=0
 rotate_left
 ·rw[if_pos hk];by_cases h1:kS=0
  ·have h2:¬ aS=0:=fun h=>hk ⟨h1,h⟩;simp -implicitDefEqProofs[c1,c2,c3,h1,h2]
  ·simp -implicitDefEqProofs[c1,c2,c3,h1]
 obtain⟨rfl,rfl⟩:=hk;rw[if_neg (by simp)];by_cases hb:(¬ (kB=0∧aB=0))∨o3=true
 ·rw[if_pos hb];by_cases h1:kB=0
  ·by_cases h2:aB=0
   ·subst h1 h2;have h3:o3=true:=by rcases hb with h | h;exact absurd ⟨rfl,rfl⟩ h;exact h
    subst h3;simp -implicitDefEqProofs[c1,c2,c3,c4]
   ·simp -implicitDefEqProofs[c1,c2,c3,c4,h1,h2]
  ·simp -implicitDefEqProofs[c1,c2,c3,c4,h1]
 ·rw[if_neg hb];have h1:kB=0∧aB=0:=Classical.not_not.1 fun h=>hb (.inl h);have h2:o3=false:=by cases o3;rfl;exact absurd (.inr rfl) hb
  obtain⟨rfl,rfl⟩:=h1;subst h2;clear hb;by_cases he:(¬ (kE=0∧aE=0))∨o4=true
  ·rw[if_pos he];by_cases h1:kE=0
   ·by_cases h2:aE=0
    ·subst h1 h2;have h3:o4=true:=by rcases he with h | h;exact absurd ⟨rfl,rfl⟩ h;exact h
     subst h3;simp -implicitDefEqProofs[c1,c2,c3,c4,c5]
    ·simp -implicitDefEqProofs[c1,c2,c3,c4,c5,h1,h2]
   ·simp -implicitDefEqProofs[c1,c2,c3,c4,c5,h1]
  ·rw[if_neg he];have h1:kE=0∧aE=0:=Classical.not_not.1 fun h=>he (.inl h);have h2:o4=false:=by cases o4;rfl;exact absurd (.inr rfl) he
   obtain⟨rfl,rfl⟩:=h1;subst h2;simp -implicitDefEqProofs[c1,c2,c3,c4,c5]
end
end Go.Ab
end
section
namespace Go.Ab
def Zde(t:List UInt8):Sm×Int×Int:=
 if 4000<t.length then (⟨[],[],[],[],[]⟩,1,4000)
 else if (Zar t).2≠(0,0) then (⟨[],[],[],[],[]⟩,(Zar t).2)
 else if Zcs (Zar t).1≠0 then (⟨[],[],[],[],[]⟩,2,Zcs (Zar t).1)
 else ((Zar t).1,0,0)
section
variable{T:Tbl}[Z9 T][Zp T][Zv T][Zy T][Zr T][Zu T][Zq T][Za0 T][Zf T][Zn T][Zz T][Za6 T][Zbc T][Zbk T][Zcq T][Zak T][Zb3 T][Zcn T][Zc9 T][Zco T][Zdx T][Zgf T][Zge T][Zat T][Zby T][Zcw T][Zbn T][Zad T][Zai T]
theorem zl4(hcut:∀l:List UInt8,l.length≤1000000→Zb T 184 [.s l,.s [124]]=some (.tup [.s (hdC 124 l),.s (tlC 124 l),.b (l.contains 124)]))
  (t:List UInt8) (ht:t.length≤1000000) (hs:t.length≤4000→(Zar t).2=(0,0)→SmS (Zar t).1):Zb T 608 [.s t]=some (.tup [esm (Zde t).1,flt (Zde t).2.1 (Zde t).2.2]):=by
 unfold Zde;rw[zab Zai.h608 rfl,b608];by_cases h1:4000<t.length
 ·have h1':(4000:Int)<t.length:=by omega
  rw[if_pos h1];clear hs;simp -implicitDefEqProofs[h1,h1']
 have h1':¬ (4000:Int)<t.length:=by omega
 rw[if_neg h1];have c1:=zw1 (T:=T) hcut t (by omega);have c2:(Zar t).2=(0,0)→Zb T 551 [esm (Zar t).1]=some (.i .i64 (Zcs (Zar t).1)):=fun h=>zfz (T:=T) (Zar t).1 (hs (by omega) h);clear hs hcut ht;generalize Zcs (Zar t).1=W at *
 generalize Zar t=R at *
 obtain⟨⟨nm,C,A,B,E⟩,k,a⟩:=R;dsimp only at *
 simp only[ne_eq,Prod.mk.injEq];by_cases hk:k=0
 ·by_cases ha:a=0
  ·subst hk ha;have c2:=c2 rfl;rw[if_neg (by simp)];by_cases hw:W=0
   ·subst hw;rw[if_neg (by simp)];simp -implicitDefEqProofs[h1,h1',c1,c2]
   ·rw[if_pos hw];simp -implicitDefEqProofs[h1,h1',c1,c2,hw]
  ·rw[if_pos (fun h=>ha h.2)];simp -implicitDefEqProofs[h1,h1',c1,hk,ha]
 ·rw[if_pos (fun h=>hk h.1)];simp -implicitDefEqProofs[h1,h1',c1,hk]
end
end Go.Ab
end
section
namespace Go.Ab
def Zeq(a b:List (List Fz)):Bool:=(a.zip b).all fun p=>decide (p.1.map fv=p.2.map fv)
def Zib(a b:Sm):Bool:=decide (a.nm=b.nm)&&decide (a.a.length=b.a.length)&&decide (a.b.map fv=b.b.map fv)&&decide (a.c.map fv=b.c.map fv)&&decide (a.e.map fv=b.e.map fv)&&Zeq a.a b.a
def eqM(a b:List (List Fz)):Bool:=(a.zip b).all fun p=>decide (p.1=p.2)
def eqS(a b:Sm):Bool:=decide (a.nm=b.nm)&&decide (a.a.length=b.a.length)&&decide (a.b=b.b)&&decide (a.c=b.c)&&decide (a.e=b.e)&&eqM a.a b.a
def Zoy(s:Sm):Sm:=⟨s.nm,nrm s.c,s.a.map nrm,nrm s.b,nrm s.e⟩
section
variable{T:Tbl}[Z9 T][Zp T][Zv T][Zy T][Zr T][Zu T][Za0 T][Zf T][Zn T][Zz T][Zat T][Zby T][Zai T]
def Zgv(a b:Sm)(i:Nat):St:=⟨[(3,.ptr (.loc 3) 1 5 0 0),(46,.sl (Z3 a.a) .an),(47,.i .i64 a.a.length),(48,.i .i64 i)],[(.loc 3,bxS b)],3⟩
theorem zqq(a b:Sm)(ha:SmS a)(hb:SmS b)(hl:a.a.length=b.a.length) :
  Zw T 0 0 (.norm false []) l598_0 (Zgv a b 0)=if Zeq (a.a.drop 0) (b.a.drop 0)=true then some (.n,⟨[],[],2⟩) else some (.r,⟨[(4,.b false)],[],2⟩):=by
 have hal:=ha.al;refine zbq (Zgv a b) a.a.length (fun i=>if Zeq (a.a.drop i) (b.a.drop i)=true then some (.n,⟨[],[],2⟩) else some (.r,⟨[(4,.b false)],[],2⟩)) (fun i hi=>?_) ?_
 ·have hj:i<b.a.length:=by omega
  have hj':(i:Int)<b.a.length:=by omega
  have hga:a.a[i]? = some (a.a[i]'hi):=Ya hi;have hgb:b.a[i]? = some (b.a[i]'hj):=Ya hj;have hws:=ze0 hi (by omega);have q1:=ha.a _ (Yaa hi);have q2:=hb.a _ (Yaa hj);have c:=zf7 (T:=T) (a.a[i]'hi) (b.a[i]'hj) q1.1 (fun x hx=>Yg (q1.2 x hx) (by decide)) (fun x hx=>Yg (q2.2 x hx) (by decide));have key:Zeq (a.a.drop i) (b.a.drop i)=(decide ((a.a[i]'hi).map fv=(b.a[i]'hj).map fv)&&Zeq (a.a.drop (i+1)) (b.a.drop (i+1))):=by
   unfold Zeq;rw[Yw hi,Yw hj,List.zip_cons_cons,Ybx]
  clear q1 q2 ha hb;by_cases h:(a.a[i]'hi).map fv=(b.a[i]'hj).map fv
  ·left;rw[decide_eq_true h]at c key;refine⟨?_,by simp only[key,Yem]⟩;unfold Zgv bxS;clear h key;simp -implicitDefEqProofs[l598_0,hi,hga,hj,hj',hgb,hws,c]
  ·right;rw[decide_eq_false h]at c key;rw[if_neg (by simp[key])];unfold Zgv bxS;clear h key;constructor<;>simp -implicitDefEqProofs[l598_0,hi,hga,hj,hj',hgb,hws,c]
 ·have e:Zeq [] (b.a.drop a.a.length)=true:=rfl;simp only[Yar,e,if_true];unfold Zgv bxS;constructor<;>simp -implicitDefEqProofs[l598_0]
theorem znh(a b:Sm)(ha:SmS a)(hb:SmS b):Zb T 598 [esm a,esm b]=some (.b (Zib a b)):=by
 have le:∀{l:List Fz},(∀x∈l,fsz x≤300)→∀x∈l,fsz x≤1000:=fun h x hx=>Yg (h x hx) (by decide);have c1:=zf7 (T:=T) a.b b.b ha.bl (le ha.b) (le hb.b);have c2:=zf7 (T:=T) a.c b.c ha.cl (le ha.c) (le hb.c);have c3:=zf7 (T:=T) a.e b.e ha.el (le ha.e) (le hb.e);have hlp:=fun hl=>zqq (T:=T) a b ha hb hl;unfold Zib;unfold Zgv bxS at hlp;simp only[Yba,Yai]at hlp;rw[zab Zai.h598 rfl,b598];clear ha hb le;generalize decide (a.b.map fv=b.b.map fv)=B1 at *
 generalize decide (a.c.map fv=b.c.map fv)=B2 at *
 generalize decide (a.e.map fv=b.e.map fv)=B3 at *
 generalize Zeq a.a b.a=B4 at *
 obtain⟨nm,c,A,B,E⟩:=a;obtain⟨nm',c',A',B',E'⟩:=b;dsimp only at *
 by_cases hn:nm=nm'
 ·by_cases hl:A.length=A'.length
  ·have hl':(A.length:Int)=A'.length:=by omega
   have h:=hlp hl;clear hlp;rw[hl]at h;cases B1 with
   | false=>simp -implicitDefEqProofs[hn,hl,hl',c1]
   | true=>
   cases B2 with
   | false=>simp -implicitDefEqProofs[hn,hl,hl',c1,c2]
   | true=>
   cases B3 with
   | false=>simp -implicitDefEqProofs[hn,hl,hl',c1,c2,c3]
   | true=>
   cases B4 with
   | false=>
    simp only[Y8,if_false]at h;simp -implicitDefEqProofs[hn,hl,hl',c1,c2,c3,h]
   | true=>
    simp only[if_true]at h;simp -implicitDefEqProofs[hn,hl,hl',c1,c2,c3,h]
  ·have hl':¬ (A.length:Int)=A'.length:=by omega
   simp -implicitDefEqProofs[hn,hl,hl']
 ·simp -implicitDefEqProofs[hn]
end
section
variable{T:Tbl}[Zbv T][Zbw T][Zbl T][Zbx T][Zcp T][Zc2 T][Zc3 T][Zc4 T][Zhz T][Ze6 T][Zfg T]
def Zim(g:Nat)(s:Sm):Box:=⟨g,.str,5,[[.s s.nm,.sl (Zi s.c) .an,.sl (Z3 s.a) .an,.sl (Zi s.b) .an,.sl (Zi s.e) .an]]⟩
def Zoz(a b:Sm)(i:Nat):St:=⟨[(2,.ptr (.loc 2) 1 5 0 0),(3,.ptr (.loc 3) 2 5 0 0),(5,.i .i64 i)],[(.loc 2,Zim 1 a),(.loc 3,Zim 2 b)],4⟩
end
end Go.Ab
end
section
namespace Go.Ab
def Zlc(a b:List Fz):List Fz:=fzs (Zll (a.map fv) (Zkt ((-1:Int):Rat) (b.map fv)))
def Zo0(s:Sm):List Fz:=if okS s=true∧s.e≠[] then Zlc s.b s.e else []
def Zno(s:Sm):Bool:=match s.b.getLast?,s.c.getLast?,s.a.getLast? with
 | some b,some c,some a=>decide (fv b=0)&&(decide (fv c=1)&&decide (a.map fv=(s.b.take (s.b.length-1)).map fv))
 | _,_,_=>false
structure OkSm (s:Sm):Prop where
 b1:1≤s.b.length
 b8:s.b.length≤8
 cl:s.c.length=s.b.length
 al:s.a.length=s.b.length
 el:s.e.length=s.b.length∨s.e.length=0
 sh:Zb4 s.a 0=true
 na:Zc5 s.a=true
 nb:s.b.all Zbp=true
 nc:s.c.all Zbp=true
 ne:s.e.all Zbp=true
theorem zx2(b c e:List Fz):Zc5 [b,c,e]=(b.all Zbp&&c.all Zbp&&e.all Zbp):=by
 unfold Zc5;simp only[Ybx,Yec,Yel,Bool.and_assoc]
theorem zd1{s:Sm}(h:okS s=true):OkSm s∧Zcs s=0:=by
 unfold okS at h;have hw:=of_decide_eq_true h;refine⟨?_,hw⟩;unfold Zcs at hw;cases g1:Za7 2 s.nm with
 | false=>rw[g1]at hw;simp at hw
 | true=>
 cases g2:Zed s with
 | false=>rw[g1,g2]at hw;simp at hw
 | true=>
 cases g3:Zc5 s.a with
 | false=>rw[g1,g2,g3]at hw;simp at hw
 | true=>
 cases g4:Zc5 [s.b,s.c,s.e]with
 | false=>rw[g1,g2,g3,g4]at hw;simp at hw
 | true=>
 obtain⟨s1,s2,s3,s4,s5,s6⟩:=zis g2;rw[zx2]at g4;simp only[Yk]at g4;exact⟨s1,s2,s3,s4,s5,s6,g3,g4.1.1,g4.1.2,g4.2⟩
theorem zc3{l:List Fz}(h:l.all Zbp=true):∀x∈l,fsz x≤6:=fun x hx=>znn (Ye.1 h x hx)
end Go.Ab
end
section
namespace Go.Ab
abbrev Znp:List UInt8:=[104,101,117,110,10,48,124,10,49,124,49,10,98,32,49,47,50,44,49,47,50,10,101,32,49,44,48]
abbrev Zo1:List UInt8:=[101,117,108,101,114,10,48,124,10,98,32,50]
def Znq:Sm:=⟨[104,101,117,110],[fz 0,fz 1],[[],[fz 1]],[fz (mkRat 1 2),fz (mkRat 1 2)],[fz 1,fz 0]⟩
def Zo2:Sm:=⟨[101,117,108,101,114],[fz 0],[[]],[fz 2],[]⟩
theorem zqr{q:Rat}(h:sz q≤2):Zbp (fz q)=true:=by
 unfold Zbp Zct;rw[zj7,decide_eq_true rfl,Yem,decide_eq_true_eq];have:=zz8 (x:=fz q) (k:=2) (by rw[zeb];exact h);omega
end Go.Ab
end
section
namespace Go.Ab
class Zhy (T:Tbl):Prop where
end Go.Ab
end
section
namespace Go.Ab
end Go.Ab
end
section
namespace Go.Ab
class Zg9 (T:Tbl):Prop where
end Go.Ab
end
section
namespace Go.Ab
class Zjx (T:Tbl):Prop where
end Go.Ab
end
section
namespace Go.Ab
class Zjw (T:Tbl):Prop where
end Go.Ab
end
section
namespace Go.Ab
end Go.Ab
end
section
namespace Go.Ab
theorem zei{K:Nat}:∀(ts:List (List UInt8)),(∀t∈ts,t.length≤K)→(List.intercalate [44] ts).length≤ts.length*(K+1)
 | [],_=>by simp[List.intercalate]
 | [t],h=>by
  have:=h t Yl;simp[List.intercalate];omega
 | t::t2::ts,h=>by
  have h1:=h t Yl;have h2:=zei (t2::ts) fun t ht=>h t (Yh _ ht);have e:List.intercalate [44] (t::t2::ts)=t++44::List.intercalate [44] (t2::ts):=by simp[List.intercalate]
  rw[e,Yp,Yc];simp only[Yc]at h2 ⊢;rw[Nat.succ_mul];omega
section
variable{T:Tbl}[Z9 T][Zp T][Zv T][Zy T][Zr T][Zu T][Zq T][Za0 T][Zf T][Zn T][Zz T][Za6 T][Zbk T][Zcq T][Zak T][Zb3 T][Zcn T][Zat T][Zby T][Zcw T][Zfs T][Zbv T][Zbw T][Zbl T][Zbx T][Zcp T][Zc2 T][Zc3 T][Zc4 T][Zjb T][Zhw T][Zhx T][Zjw T][Zjx T]
def Zm6(l:List Fz)(i:Nat):St:=⟨[(0,.sl (Zi l) .an),(3,.i .i64 (Zk9 (l.take i))),(4,.i .i64 i)],[],2⟩
end
end Go.Ab
end
section
namespace Go.Ab
theorem zqo{q:Rat}(h:sz q≤20):(Zs q.num.natAbs).length≤193∧(Zs q.den).length≤193∧(Z7 q.num).length≤194∧(Zaj q).length≤400:=by
 have h1:=zc6 (n:=q.num.natAbs) (k:=20) (d:=192) (Yg (ziy q) h) (by decide +kernel);have h2:=zc6 (n:=q.den) (k:=20) (d:=192) (Yg (zhr q) h) (by decide +kernel);have h3:(Z7 q.num).length≤194:=by
  unfold Z7;split
  ·simp;omega
  ·omega
 refine⟨h1,h2,h3,?_⟩;unfold Zaj;split
 ·omega
 ·simp;omega
section
variable{T:Tbl}[Zbv T][Zbw T][Zbl T][Zbx T][Zcp T][Zc2 T][Zc3 T][Zhy T][Zc4 T][Zg9 T]
def Znd(s:List UInt8)(y:Nat×Nat×List Rat):St:=
 ⟨[(0,.s s),(5,.bs (.loc 5) 1 3 0 y.2.2.length),(6,.i .i64 y.2.1),(7,.i .i64 y.1)],[(.loc 5,⟨1,.own,3,Zi (fzs y.2.2)⟩)],3⟩
def Zma(r:List Rat×Int×Int):Option (Ex×St):=
 if r.2.1=0 then some (.n,⟨[(5,.bs (.loc 5) 1 3 0 r.1.length)],[(.loc 5,⟨1,.own,3,Zi (fzs r.1)⟩)],3⟩)
 else some (.r,⟨[(2,.sl [] .an),(3,.i .i64 r.2.1),(4,.i .i64 r.2.2)],[],2⟩)
def Zlr(s:List UInt8)(y:Nat×Nat×List Rat):List Rat×Int×Int:=
 if y.1≤s.length then Zao (Zt 44 (s.drop y.2.1)) y.2.1 y.2.2 else (y.2.2,0,0)
def piece(s:List UInt8)(i from_:Nat):List UInt8:=(s.drop from_).take (i-from_)
end
end Go.Ab
end
section
namespace Go.Ab
section
variable{T:Tbl}[Z9 T][Zp T][Zv T][Zy T][Zr T][Zu T][Zq T][Za0 T][Zf T][Zn T][Zz T][Za6 T][Zbc T][Zbk T][Zcq T][Zak T][Zb3 T][Zcn T][Zc9 T][Zco T][Zdx T][Zgf T][Zge T][Zat T][Zby T][Zcw T][Zfs T][Zbn T][Zad T][Zai T][Ze6 T][Zfg T]
def Zgh(s:Sm)(i:Nat):St:=⟨[(1,.ptr (.loc 1) 1 5 0 0),(4,.bs (.loc 33) 2 1 0 (i+1)),(14,.sl (Z3 s.a) .an),(15,.i .i64 s.a.length),(16,.i .i64 i)],
 [(.loc 1,bxS s),(.loc 33,⟨2,.own,1,Zo ([s.nm]++((s.c.zip s.a).take i).map fun p=>Zcf p.1 p.2)⟩)],4⟩
def Zin(s:Sm):Nat→St
 | 0=>⟨[(1,.ptr (.loc 1) 1 5 0 0),(4,.sl (Zo [s.nm]) .fu),(14,.sl (Z3 s.a) .an),(15,.i .i64 s.a.length),(16,.i .i64 0)],[(.loc 1,bxS s)],3⟩
 | i+1=>Zgh s (i+1)
theorem zx3(s:Sm):Zin s 0=⟨[(1,.ptr (.loc 1) 1 5 0 0),(4,.sl [[.s s.nm]] .fu),(14,.sl (Z3 s.a) .an),(15,.i .i64 s.a.length),(16,.i .i64 0)],[(.loc 1,bxS s)],3⟩:=rfl
theorem z5b(s:Sm){i:Nat}(h:¬i=0):Zin s i=Zgh s i:=by cases i with | zero=>omega | succ m=>rfl
theorem zx4(s:Sm)(i:Nat):Zin s (i+1)=Zgh s (i+1):=rfl
theorem zqs(s:Sm)(hc:s.c.length=s.a.length)(h0:1≤s.a.length)(hl:s.a.length≤8)(h1:∀x∈s.c,fsz x≤6)(h2:∀r∈s.a,r.length≤8∧∀x∈r,fsz x≤6) :
  Zw T 0 0 (.norm false [1,4]) l597_0 (Zin s 0)=some (.n,⟨[(1,.ptr (.loc 1) 1 5 0 0),(4,.bs (.loc 33) 2 1 0 (s.a.length+1))],[(.loc 1,bxS s),(.loc 33,⟨2,.own,1,Zo ([s.nm]++(s.c.zip s.a).map fun p=>Zcf p.1 p.2)⟩)],4⟩):=by
 refine zb5 (Zin s) s.a.length _ (fun i hi=>?_) ?_
 ·have hj:i<s.c.length:=by omega
  have hj':(i:Int)<s.c.length:=by omega
  have hga:s.a[i]? = some (s.a[i]'hi):=Ya hi;have hgc:s.c[i]? = some (s.c[i]'hj):=Ya hj;have hws:=ze0 hi (by omega);have q:=h2 _ (Yaa hi);have c1:=zhc (T:=T) (s.c[i]'hj) (by have:=h1 _ (Yaa hj);omega);have c2:=zjt (T:=T) (s.a[i]'hi) (by omega) (fun x hx=>by have:=q.2 x hx;omega);have hz:i<(s.c.zip s.a).length:=by rw[Ydr];omega
  have e:((s.c.zip s.a).take (i+1)).map (fun p=>Zcf p.1 p.2)=((s.c.zip s.a).take i).map (fun p=>Zcf p.1 p.2)++[Zcf (s.c[i]'hj) (s.a[i]'hi)]:=by
   rw[Yc6 hz,Ych];simp
  have hml:([s.nm]++((s.c.zip s.a).take i).map (fun p=>Zcf p.1 p.2)).length=i+1:=by simp;omega
  have hx1:fsz (s.c[i]'hj)≤6:=h1 _ (Yaa hj);have u1:=zhd (q:=fv (s.c[i]'hj)) (by have:=zme (L:=6) hx1 (by decide);omega);have u2:=zei (K:=10000) (Z8 (s.a[i]'hi)) (fun t ht=>by
   obtain⟨x,hx,rfl⟩:=Y3.1 ht;have:=zme (L:=6) (q.2 x hx) (by decide);exact zhd (by omega))
  have u3:(Z8 (s.a[i]'hi)).length≤8:=by unfold Z8;rw[Ybc];exact q.1
  have u4:(Z8 (s.a[i]'hi)).length*(10000+1)≤8*(10000+1):=Y0 _ u3;by_cases h0:i=0
  ·subst h0;rw[zx3,zx4];unfold Zgh bxS;rw[e,←Y6];have hst:Zcf (s.c[0]'hj) (s.a[0]'hi)=Zaj (fv (s.c[0]'hj))++([124]:List UInt8)++List.intercalate [44] (Z8 (s.a[0]'hi)):=rfl;rw[hst];clear hst e;simp only[Yej,Ycd,Yat]at *
   generalize Zaj (fv (s.c[0]'hj))=t1 at *
   generalize List.intercalate [44] (Z8 (s.a[0]'hi))=t2 at *
   have hp:=zcp [s.nm] (t1++([124]:List UInt8)++t2);rw[hml]at hp;have v1:t1.length≤9223372036854775806:=by omega
   have v2:t1.length+1+t2.length≤9223372036854775807:=by omega
   have v3:t1.length+(t2.length+1)≤9223372036854775807:=by omega
   rw[Y6]at hp;simp only[Ya2,Yau]at hp
   skip
   generalize hxc:s.c[0]'hj=xc at *
   obtain⟨nm,C,A,B,E⟩:=s;obtain⟨y1,y2,y3⟩:=xc;dsimp only at *
   clear q h1 h2;simp -implicitDefEqProofs[Zo,l597_0,hi,hga,hj,hj',hgc,hxc,hws,c1,c2,v1,v2,v3]
  ·rw[z5b s h0,zx4];unfold Zgh bxS;rw[e,←Y6];have hst:Zcf (s.c[i]'hj) (s.a[i]'hi)=Zaj (fv (s.c[i]'hj))++[124]++List.intercalate [44] (Z8 (s.a[i]'hi)):=rfl;rw[hst];clear hst e;generalize [s.nm]++((s.c.zip s.a).take i).map (fun p=>Zcf p.1 p.2)=M at *
   generalize Zaj (fv (s.c[i]'hj))=t1 at *
   generalize List.intercalate [44] (Z8 (s.a[i]'hi))=t2 at *
   have hp:=zcp M (t1++[124]++t2);rw[hml]at hp;have v1:t1.length≤9223372036854775806:=by omega
   have v2:t1.length+1+t2.length≤9223372036854775807:=by omega
   have v3:t1.length+(t2.length+1)≤9223372036854775807:=by omega
   rw[Y6]at hp;simp only[Ya2,Yau]at hp;have hb:i≤4294967294:=by omega
   generalize hxc:s.c[i]'hj=xc at *
   obtain⟨nm,C,A,B,E⟩:=s;obtain⟨y1,y2,y3⟩:=xc;dsimp only at *
   clear q h1 h2;simp -implicitDefEqProofs[l597_0,hi,hga,hj,hj',hgc,hxc,hws,c1,c2,hml,hb,hp,v1,v2,v3]
 ·have e:(s.c.zip s.a).take s.a.length=s.c.zip s.a:=Yb (by rw[Ydr];omega);have e2:Zin s s.a.length=Zgh s s.a.length:=by
   cases h:s.a.length with
   | zero=>omega
   | succ m=>rfl
  rw[e2];unfold Zgh bxS;rw[e];generalize [s.nm]++(s.c.zip s.a).map (fun p=>Zcf p.1 p.2)=M at *
  constructor<;>simp -implicitDefEqProofs[l597_0]
theorem zni(s:Sm)(hs:SmS s):Zb T 597 [esm s]=some (.tup (if okS s=true then [.s (textS s),.b true] else [.s [],.b false])):=by
 have c1:=zl7 (T:=T) s hs;rw[zab Ze6.h597 rfl,b597];cases hk:okS s with
 | false=>
  rw[hk]at c1;clear hs hk;obtain⟨nm,c,a,b,e⟩:=s;simp -implicitDefEqProofs[c1]
 | true=>
 rw[hk]at c1;unfold esm at c1 ⊢;obtain⟨H,_⟩:=zd1 hk;have n1:=H.b1;have n8:=H.b8;have nc:=H.cl;have na:=H.al;have hnm:=hs.nm;have ha:∀r∈s.a,r.length≤8∧∀x∈r,fsz x≤6:=fun r hr=>⟨by have:=zco _ _ H.sh r hr;omega,zf9 H.na r hr⟩;have hl:=zqs (T:=T) s (by omega) (by omega) (by omega) (zc3 H.nc) ha;have cb:=zjt (T:=T) s.b (by omega) (fun x hx=>by have:=zc3 H.nb x hx;omega);have hel:s.e.length≤8:=by rcases H.el with h | h<;>omega
 have ce:=zjt (T:=T) s.e (by omega) (fun x hx=>by have:=zc3 H.ne x hx;omega);have lt:∀l:List Fz,l.length≤8→(∀x∈l,fsz x≤6)→(∀t∈Z8 l,t.length≤1000)∧(List.intercalate [44] (Z8 l)).length≤8008:=by
  intro l h8 h6;have hq:∀t∈Z8 l,t.length≤1000:=by
   intro t ht;obtain⟨x,hx,rfl⟩:=Y3.1 ht;have:=(zqo (q:=fv x) (by have:=zme (L:=6) (h6 x hx) (by decide);omega)).2.2.2;omega
  refine⟨hq,?_⟩;have hb:=zei (K:=1000) (Z8 l) hq;have u3:(Z8 l).length≤8:=by unfold Z8;rw[Ybc];exact h8
  have u4:(Z8 l).length*(1000+1)≤8*(1000+1):=Y0 _ u3;omega
 have lb:=(lt s.b (by omega) (zc3 H.nb)).2;have le:=(lt s.e hel (zc3 H.ne)).2;have lst:∀p∈s.c.zip s.a,(Zcf p.1 p.2).length≤10000:=by
  intro p hp;have hm:=Yei hp;have l1:=(lt [p.1] (by simp) (fun x hx=>by rw[Y9.1 hx];exact zc3 H.nc _ hm.1)).1 (Zaj (fv p.1)) (by simp[Z8]);have l2:=(lt p.2 (ha _ hm.2).1 (ha _ hm.2).2).2;unfold Zcf;simp only[Yp,Yc,Y5];omega
 have hz:(s.c.zip s.a).length=s.a.length:=by rw[Ydr];omega
 have hj:Zb T 183 [.sl (Zo (Zcg s)) .an,.s [10]]=some (.s (textS s)):=by
  have g1:∀t∈Zcg s,t.length≤10000:=by
   intro t ht;unfold Zcg at ht;simp only[Y4,Y3,Y9]at ht;rcases ht with ((h | h) | h) | h
   ·rw[h];omega
   ·obtain⟨p,hp,h⟩:=h;rw[←h];exact lst p hp
   ·rw[h];simp only[Yp,Yc,Y5];omega
   ·by_cases h0:s.e=[]
    ·rw[if_pos h0]at h;cases h
    ·rw[if_neg h0,Y9]at h;rw[h];simp only[Yp,Yc,Y5];omega
  have g2:(Zcg s).length≤1000:=by
   unfold Zcg;simp only[Yp,Ybc,Yc,Y5,hz];split<;>simp<;>omega
  rw[p183,zi1 _ _ g1 g2 (by decide)]
  rfl
 have e3:Zcg s=[s.nm]++(s.c.zip s.a).map (fun p=>Zcf p.1 p.2)++[[98,32]++List.intercalate [44] (Z8 s.b)]++(if s.e=[] then [] else [[101,32]++List.intercalate [44] (Z8 s.e)]):=rfl;rw[e3]at hj;have hml:([s.nm]++(s.c.zip s.a).map (fun p=>Zcf p.1 p.2)).length=s.a.length+1:=by simp[hz]
 have h8:s.a.length≤8:=by omega
 rw[zx3]at hl;unfold bxS at hl;generalize [s.nm]++(s.c.zip s.a).map (fun p=>Zcf p.1 p.2)=M at *
 generalize textS s=X at *
 generalize List.intercalate [44] (Z8 s.b)=tb at *
 generalize List.intercalate [44] (Z8 s.e)=te at *
 clear lst lt ha H hs hk e3 hz nc n1 n8 hel;obtain⟨nm,C,A,B,E⟩:=s;dsimp only at *
 have p1:=zcp M ([98,32]++tb);rw[hml]at p1;have p2:=zcp (M++[[98,32]++tb]) ([101,32]++te);have hm2:(M++[[98,32]++tb]).length=A.length+2:=by simp[hml]
 rw[hm2]at p2;simp only[Ya2,Yau]at p1 p2 hj hm2;have v1:2+tb.length≤9223372036854775807:=by omega
 have v2:2+te.length≤9223372036854775807:=by omega
 have v3:A.length≤4294967294:=by omega
 have v5:A.length≤4294967293:=by omega
 have v4:M.length≤4294967200:=by omega
 clear lb le h8 na;have r1:List.take (A.length+1) (Zo M)=Zo M:=Yb (by rw[zar,hml];omega);have r2:∀x:List AV,List.take (A.length+1+1) (Zo M++[x])=Zo M++[x]:=fun x=>Yb (by simp[zar,hml]);have r3:∀x y:List AV,List.take (A.length+1+1+1) (Zo M++[x,y])=Zo M++[x,y]:=fun x y=>Yb (by simp[zar,hml]);have ra:Zo (M++[98::32::tb])=Zo M++[[.s (98::32::tb)]]:=by simp[Zo]
 rw[r1]at p1;rw[ra,r2,Y6]at p2;simp only[Ya2,Yau]at p2;cases E with
 | nil=>
  rw[show Zi []=[] from rfl]at *
  clear ce p2 hm2;simp only[if_true,Yat]at hj;simp -implicitDefEqProofs[r1,r2,c1,hl,cb,p1,hml,v1,v3,v5,hj]
 | cons x E=>
  simp only[reduceCtorEq,if_false]at hj;rw[Y6]at hj;simp only[Ya2,Yau]at hj;simp -implicitDefEqProofs[r1,r2,r3,c1,hl,cb,ce,p1,p2,hml,hm2,v1,v2,v3,v5,hj]
end
end Go.Ab
end
section
namespace Go.Ab
theorem zdl{K:Nat}(c:UInt8):∀(ts:List (List UInt8)),(∀t∈ts,t.length≤K)→(List.intercalate [c] ts).length≤ts.length*(K+1)
 | [],_=>by simp[List.intercalate]
 | [t],h=>by
  have:=h t Yl;simp[List.intercalate];omega
 | t::t2::ts,h=>by
  have h1:=h t Yl;have h2:=zdl c (t2::ts) fun t ht=>h t (Yh _ ht);have e:List.intercalate [c] (t::t2::ts)=t++c::List.intercalate [c] (t2::ts):=by simp[List.intercalate]
  rw[e,Yp,Yc];simp only[Yc]at h2 ⊢;rw[Nat.succ_mul];omega
theorem zpa{x:Fz}(h:Zbp x=true):x=fz (fv x):=by
 unfold Zbp Zct at h;simp only[Yk,decide_eq_true_eq]at h;exact h.1
theorem zhh{l:List Fz}(h:l.all Zbp=true):l=fzs (l.map fv):=by
 unfold fzs;rw[Yc9];exact(List.map_id l).symm.trans (Ydi fun x hx=>zpa (Ye.1 h x hx))
section
variable{T:Tbl}[Z9 T][Zp T][Zv T][Zy T][Zr T][Zu T][Zq T][Za0 T][Zf T][Zn T][Zz T][Za6 T][Zbc T][Zbk T][Zbv T][Zbw T][Zbl T][Zcp T][Zbx T][Zc2 T][Zc3 T][Zhy T][Zc4 T][Zg9 T][Zcq T][Zak T][Zb3 T][Zcn T][Zc9 T][Zco T][Zdx T][Zgf T][Zge T][Zat T][Zby T][Zcw T][Zfs T][Zbn T][Zad T][Zai T][Ze6 T][Zfg T]
def Zmj(s:Sm)(i:Nat):List UInt8:=List.intercalate [10] ([s.nm]++((s.c.zip s.a).take i).map fun p=>Zcf p.1 p.2)
def Znr(s:Sm)(i:Nat):St:=⟨[(1,.ptr (.loc 1) 1 5 0 0),(3,.s (Zmj s i)),(4,.i .i64 i)],[(.loc 1,bxS s)],3⟩
end
end Go.Ab
end
section
namespace Go.Ab
def Zh2(l:List UInt8):Prop:=∀b∈l,44≤b.toNat∧b.toNat≤57
theorem zju{l:List UInt8}(h:Dig l):Zh2 l:=fun b hb=>by have:=h b hb;omega
theorem zil(z:Int):Zh2 (Z7 z):=by
 unfold Z7;split
 ·intro b hb;rcases Ym.1 hb with rfl | hb
  ·decide
  ·exact zju (zbd _) b hb
 ·exact zju (zbd _)
theorem zfn(q:Rat):Zh2 (Zaj q):=by
 unfold Zaj;split
 ·exact zil _
 ·intro b hb;rcases Y4.1 hb with hb | hb
  ·exact zil _ b hb
  ·rcases Ym.1 hb with rfl | hb
   ·decide
   ·exact zju (zbd _) b hb
theorem zdz(c:UInt8)(x:List UInt8)(l:List (List UInt8))(h:l≠[]):List.intercalate [c] (x::l)=x++c::List.intercalate [c] l:=by
 cases l with
 | nil=>exact absurd rfl h
 | cons y l=>simp[List.intercalate]
theorem zim:∀ts:List (List UInt8),(∀t∈ts,Zh2 t)→Zh2 (List.intercalate [44] ts)
 | [],_=>by intro b hb;simp[List.intercalate]at hb
 | [t],h=>by
  have e:List.intercalate [44] [t]=t:=by simp[List.intercalate]
  rw[e];exact h t Yl
 | t::u::ts,h=>by
  rw[zdz 44 t (u::ts) (by simp)];intro b hb;rcases Y4.1 hb with hb | hb
  ·exact h t Yl b hb
  ·rcases Ym.1 hb with rfl | hb
   ·decide
   ·exact zim (u::ts) (fun t' ht=>h t' (Yh _ ht)) b hb
theorem zhe(l:List Fz):Zh2 (List.intercalate [44] (Z8 l)):=zim _ fun t ht=>by
 unfold Z8 at ht;obtain⟨x,_,rfl⟩:=Y3.1 ht;exact zfn _
theorem zo5(c:UInt8)(r:List UInt8):∀l:List UInt8,(∀b∈l,b≠c)→hdC c (l++c::r)=l∧tlC c (l++c::r)=r
 | [],_=>by simp[hdC,tlC]
 | b::l,h=>by
  have h1:=h b Yl;obtain⟨e1,e2⟩:=zo5 c r l fun d hd=>h d (Yh _ hd);unfold hdC tlC at *
  simp[Ydq,List.dropWhile_cons,h1,e1,e2]
theorem zhf(c:UInt8):∀l:List UInt8,(∀b∈l,b≠c)→hdC c l=l∧l.contains c=false
 | [],_=>by simp[hdC]
 | b::l,h=>by
  have h1:=h b Yl;obtain⟨e1,e2⟩:=zhf c l fun d hd=>h d (Yh _ hd);have h2:¬ c=b:=fun e=>h1 e.symm;unfold hdC at *
  simp at e2;simp[Ydq,h1,h2,e1,e2]
theorem zt0(c:UInt8)(l r:List UInt8):(l++c::r).contains c=true:=by simp
theorem zhg{l:List UInt8}(h:Zh2 l){c:UInt8}(hc:c.toNat<44∨57<c.toNat):∀b∈l,b≠c:=fun b hb e=>by
 have:=h b hb;rw[e]at this;omega
theorem zin{x:Fz}(h:Zbp x=true):(Zs (fv x).num.natAbs).length≤60∧(Zs (fv x).den).length≤60:=by
 have h1:sz (fv x)≤6:=zme (znn h) (by decide);unfold sz at h1;have h2:(4294967296:Nat)^6<10^(59+1):=by decide
 exact⟨zc6 (Yg (Yc2 _ _) h1) h2,zc6 (Yg (Ycq _ _) h1) h2⟩
theorem zlz{l:List Fz}(h:l.all Zbp=true):Zb0 (List.intercalate [44] (Z8 l))=(l.map fv,0,0):=by
 have e:Z8 l=(l.map fv).map Zaj:=by unfold Z8;rw[Yc9];rfl
 rw[e];refine zra _ fun q hq=>?_;obtain⟨x,hx,rfl⟩:=Y3.1 hq;exact zin (Ye.1 h x hx)
theorem zjv(c:Fz)(r:List Fz):Zcf c r=Zaj (fv c)++124::List.intercalate [44] (Z8 r):=by
 unfold Zcf;rw[Y6]
 rfl
theorem zwy{c:Fz}{r:List Fz}(hc:Zbp c=true)(hr:r.all Zbp=true)(n:Int):Zbt (Zcf c r) n=(fv c,r.map fv,0,0):=by
 obtain⟨e1,e2⟩:=zo5 124 (List.intercalate [44] (Z8 r)) (Zaj (fv c)) (zhg (zfn _) (by decide));rw[←zjv]at e1 e2;obtain⟨a,b⟩:=zin hc;unfold Zbt shF;rw[e1,e2,zmi a b,zlz hr];simp
theorem z0a(c:Fz)(r:List Fz):∀b∈Zcf c r,b≠10:=by
 rw[zjv];intro b hb;rcases Y4.1 hb with hb | hb
 ·exact zhg (zfn _) (by decide) b hb
 ·rcases Ym.1 hb with rfl | hb
  ·decide
  ·exact zhg (zhe _) (by decide) b hb
def Zek:List (Fz×List Fz)→List UInt8→List UInt8
 | [],W=>W
 | p::l,W=>Zcf p.1 p.2++10::Zek l W
theorem zo6(W:List UInt8):∀l:List (Fz×List Fz),l.length≤(Zek l W).length
 | []=>Yz _
 | p::l=>by
  have:=zo6 W l;simp only[Zek,Yp,Yc];omega
theorem zl0(x:List UInt8)(rest:List (List UInt8)):∀l:List (Fz×List Fz),List.intercalate [10] (l.map (fun p=>Zcf p.1 p.2)++x::rest)=Zek l (List.intercalate [10] (x::rest))
 | []=>rfl
 | p::l=>by
  rw[Ys,Ya2,zdz 10 _ _ (by simp),zl0 x rest l]
  rfl
def Zez(s:Sm):List UInt8:=98::32::List.intercalate [44] (Z8 s.b)++(if s.e=[] then [] else 10::101::32::List.intercalate [44] (Z8 s.e))
theorem ze6(s:Sm):textS s=s.nm++10::Zek (s.c.zip s.a) (Zez s):=by
 unfold textS Zcg;rw[Y6,Y6,Yda,zdz 10 _ _ (by simp),Yda,zl0];unfold Zez;split
 ·simp[List.intercalate]
 ·rw[zdz 10 _ _ (by simp)];simp[List.intercalate]
theorem zjw{c:List UInt8}{r:List UInt8}{n:Nat}(h:∀b∈c,b≠10):Zh ⟨c++10::r,n,false⟩=c∧Z1 ⟨c++10::r,n,false⟩=⟨r,n+c.length+1,false⟩:=by
 obtain⟨e1,e2⟩:=zo5 10 r c h;have e3:=zt0 10 c r;unfold Zh Z1;simp only[Y8,if_false];rw[e1,e2,e3];exact⟨rfl,rfl⟩
theorem zo7{c:List UInt8}{n:Nat}(h:∀b∈c,b≠10):Zh ⟨c,n,false⟩=c∧(Z1 ⟨c,n,false⟩).over=true:=by
 obtain⟨e1,e2⟩:=zhf 10 c h;unfold Zh Z1;simp only[Y8,if_false];rw[e1,e2];exact⟨rfl,rfl⟩
theorem zl1(t W:List UInt8)(hW:(hdC 10 W).contains 124=false):∀(l:List (Fz×List Fz)) (n k:Nat) (s:Sg),(∀p∈l,Zbp p.1=true∧p.2.all Zbp=true)→l.length<n→t.drop k=Zek l W →
  ∃k',Zag t n ⟨Zek l W,k,false⟩ s=(⟨W,k',false⟩,⟨s.nm,s.c++l.map (·.1),s.a++l.map (·.2)⟩,0,0)
 | [],0,_,_,_,hn,_=>absurd hn (Ya6 _)
 | [],n+1,k,s,_,_,ht=>by
  refine⟨k,?_⟩;unfold Zag;have e:Zh ⟨Zek [] W,k,false⟩=hdC 10 W:=rfl;rw[if_neg (by simp),e,if_pos hW];dsimp only;rw[ht];simp[Zek]
 | p::l,0,_,_,_,hn,_=>absurd hn (Nat.not_lt_zero _)
 | p::l,n+1,k,s,hp,hn,ht=>by
  obtain⟨h1,h2⟩:=hp p Yl;obtain⟨e1,e2⟩:=zjw (r:=Zek l W) (n:=k) (z0a p.1 p.2);have e3:(Zcf p.1 p.2).contains 124=true:=by rw[zjv];exact zt0 _ _ _
  have hd:t.drop (k+(Zcf p.1 p.2).length+1)=Zek l W:=by
   rw[Yap,←Ydx,ht];simp[Zek]
  obtain⟨k',ih⟩:=zl1 t W hW l n (k+(Zcf p.1 p.2).length+1) ⟨s.nm,s.c++[p.1],s.a++[p.2]⟩ (fun q hq=>hp q (Yh _ hq)) (by simpa using hn) hd;refine⟨k',?_⟩;unfold Zag;have e0:Zek (p::l) W=Zcf p.1 p.2++10::Zek l W:=rfl;rw[e0,if_neg (by simp),e1,if_neg (by rw[e3];simp),zwy h1 h2,if_neg (by simp),e2];dsimp only;rw[←zpa h1,←zhh h2,ih];simp
end Go.Ab
end
section
namespace Go.Ab
theorem zte(w:List UInt8):sz (Zaa w).1≤200:=by
 have z0:sz 0≤200:=by rw[zu8];decide
 unfold Zaa;simp only;split
 ·exact z0
 ·next h0=>
  have hl:=zj6 h0;split
  ·unfold Zey;simp only;split
   ·exact z0
   ·next h1=>
    obtain⟨h60,hr⟩:=zs6 h1;have ht:=zs7 h60;split
    ·split
     ·exact z0
     ·exact zu9 (by omega) (by omega) (by decide)
    ·refine zu9 ?_ (by omega) (by decide);rw[zmd];have e2:=zc5 (x:=(Zap (w.take (Zx w))).natAbs) (y:=10^(w.drop (Zx w+1)).length) (L:=60) (M:=60) hl ht;have e3:=zcb (x:=(((Zap (w.take (Zx w))).natAbs*10^(w.drop (Zx w+1)).length:Nat):Int)) (y:=((rd (w.drop (Zx w+1)):Nat):Int)) (L:=120) (by rw[Ybk];exact e2) (by rw[Ybk];omega);rw[←Ydm,Ybk]at e3;omega
  ·exact zu9 (by omega) (by rw[zem];decide) (by decide)
theorem zoy:∀(ws:List (List UInt8)) (k:Nat) (acc:List Rat),(∀q∈acc,sz q≤200)→∀q∈(Zao ws k acc).1,sz q≤200
 | [],_,_,h=>h
 | w::ws,k,acc,h=>by
  unfold Zao;split
  ·exact zoy ws _ _ fun q hq=>by
    rcases Y4.1 hq with h1 | h1
    ·exact h q h1
    ·rw[Y9]at h1;rw[h1];exact zte w
  ·intro q hq;simp at hq
theorem zzx(s:List UInt8):∀q∈(Zb0 s).1,sz q≤200:=by
 unfold Zb0;split
 ·intro q hq;simp at hq
 ·exact zoy _ _ _ fun q hq=>by simp at hq
end Go.Ab
end
section
namespace Go.Ab
theorem zd0{t:List UInt8}(h:Za7 2 t=true):(∀b∈t,b≠10)∧t.length≤12:=by
 cases t with
 | nil=>simp[Za7]at h
 | cons c r=>
  simp only[Za7,Yk,decide_eq_true_eq]at h;obtain⟨⟨⟨_,h1⟩,h2⟩,h3⟩:=h;have hk:Za1 c=2:=by omega
  rw[hk]at h2 h3;unfold Zce at h2;have ht:(r.takeWhile (Zdy 2)).length=r.length:=by omega
  have e:r.takeWhile (Zdy 2)=r:=(Ya4 _).eq_of_length ht;have hall:=List.all_takeWhile (p:=Zdy 2) (l:=r);rw[e]at hall;refine⟨fun b hb=>?_,h3⟩;rcases Ym.1 hb with rfl | hb
  ·rintro rfl
   revert hk
   decide
  ·have:=Ye.1 hall b hb
   rintro rfl
   revert this
   decide
theorem zjx{s:Sm}(h:okS s=true):Za7 2 s.nm=true:=by
 unfold okS at h;have hw:=of_decide_eq_true h;unfold Zcs at hw;cases g:Za7 2 s.nm with
 | true=>rfl
 | false=>rw[g]at hw;simp at hw
theorem zo8{c:UInt8}{l:List Fz}(hc:c≠10):∀b∈c::32::List.intercalate [44] (Z8 l),b≠10:=by
 intro b hb;rcases Ym.1 hb with rfl | hb
 ·exact hc
 ·rcases Ym.1 hb with rfl | hb
  ·decide
  ·exact zhg (zhe _) (by decide) b hb
theorem zo9{c:UInt8}{l:List Fz}(h:l.all Zbp=true){r:Rd}(hr:Zh r=c::32::List.intercalate [44] (Z8 l)):Zdg c r=(l.map fv,0,0):=by
 unfold Zdg shF;rw[hr];have e1:(c::32::List.intercalate [44] (Z8 l)).take 2=[c,32]:=rfl;have e2:(c::32::List.intercalate [44] (Z8 l)).drop 2=List.intercalate [44] (Z8 l):=rfl;rw[e1,e2,if_pos rfl,zlz h];simp
theorem zl2(s:Sm)(h:okS s=true):Zar (textS s)=(s,0,0):=by
 obtain⟨H,_⟩:=zd1 h;have hn:=zjx h;obtain⟨n10,_⟩:=zd0 hn;obtain⟨l0,r0⟩:=zjw (r:=Zek (s.c.zip s.a) (Zez s)) (n:=0) n10;have hcl:s.c.length=s.a.length:=by have:=H.cl;have:=H.al;omega
 have z1:(s.c.zip s.a).map (·.1)=s.c:=List.map_fst_zip (by omega);have z2:(s.c.zip s.a).map (·.2)=s.a:=List.map_snd_zip (by omega);have hz:∀p∈s.c.zip s.a,Zbp p.1=true∧p.2.all Zbp=true:=fun p hp=>by
  obtain⟨q1,q2⟩:=Yei hp;exact⟨Ye.1 H.nc _ q1,Ye.1 H.na _ q2⟩
 have lb:=zo8 (c:=98) (l:=s.b) (by decide);have le:=zo8 (c:=101) (l:=s.e) (by decide);have hb124:(98::32::List.intercalate [44] (Z8 s.b)).contains 124=false:=(zhf 124 _ (fun b hb=>by
  rcases Ym.1 hb with rfl | hb
  ·decide
  ·rcases Ym.1 hb with rfl | hb
   ·decide
   ·exact zhg (zhe _) (by decide) b hb)).2
 have hW:hdC 10 (Zez s)=98::32::List.intercalate [44] (Z8 s.b):=by
  unfold Zez;split
  ·rw[Yat];exact(zhf 10 _ lb).1
  ·exact(zo5 10 _ _ lb).1
 have hlen:(s.c.zip s.a).length<(textS s).length+2:=by
  have:=zo6 (Zez s) (s.c.zip s.a);rw[ze6];simp only[Yp,Yc];omega
 have hdr:(textS s).drop (0+s.nm.length+1)=Zek (s.c.zip s.a) (Zez s):=by
  rw[ze6];simp
 obtain⟨k,hS⟩:=zl1 (textS s) (Zez s) (by rw[hW];exact hb124) (s.c.zip s.a) ((textS s).length+2) (0+s.nm.length+1) ⟨s.nm,[],[]⟩ hz hlen hdr;rw[z1,z2]at hS;have hS':Zac (textS s)=(⟨Zez s,k,false⟩,⟨s.nm,s.c,s.a⟩,0,0):=by
  unfold Zac;rw[ze6]at hS ⊢;rw[l0,r0,hS];simp
 have hl0:Zh ⟨textS s,0,false⟩=s.nm:=by rw[ze6];exact l0
 have wb:Zdg 98 ⟨Zez s,k,false⟩=(s.b.map fv,0,0):=zo9 H.nb (r:=⟨Zez s,k,false⟩) hW;unfold Zar;rw[hS',hl0,if_neg (by rw[hn];simp)];dsimp only;rw[if_neg (by simp),wb,←zhh H.nb];by_cases he:s.e=[]
 ·have ew:Zez s=98::32::List.intercalate [44] (Z8 s.b):=by unfold Zez;rw[if_pos he,Yat]
  have ho:=(zo7 (n:=k) lb).2;rw[←ew]at ho;rw[if_pos (Or.inr ho)];unfold smG;rw[←he]
 ·have ew:Zez s=(98::32::List.intercalate [44] (Z8 s.b))++10::(101::32::List.intercalate [44] (Z8 s.e)):=by unfold Zez;rw[if_neg he]
  obtain⟨_,n1⟩:=zjw (r:=101::32::List.intercalate [44] (Z8 s.e)) (n:=k) lb;rw[←ew]at n1;obtain⟨n2,n3⟩:=zo7 (n:=k+(98::32::List.intercalate [44] (Z8 s.b)).length+1) le;rw[n1,if_neg (by simp),zo9 H.ne n2,←zhh H.ne,if_pos (Or.inr n3)]
  rfl
theorem zqp(s:Sm)(h:okS s=true)(hl:(textS s).length≤4000):Zde (textS s)=(s,0,0):=by
 obtain⟨_,hw⟩:=zd1 h;unfold Zde;rw[if_neg (by omega),zl2 s h,if_neg (by simp),if_neg (by simp[hw])]
end Go.Ab
end
section
namespace Go.Ab
def smQ(p:List UInt8×List Rat×List (List Rat)×List Rat×List Rat):Sm:=⟨p.1,fzs p.2.1,p.2.2.1.map fzs,fzs p.2.2.2.1,fzs p.2.2.2.2⟩
def Zjk(l:List Rat):Rat:=l.foldl (fun s x=>s+x) 0
def Zdf(q:Rat):Bool:=decide (q.num.natAbs<4294967296)&&decide (q.den<4294967296)
def okQ(p:List UInt8×List Rat×List (List Rat)×List Rat×List Rat):Bool:=
 Za7 2 p.1&&Zed (smQ p)&&p.2.2.1.all (fun r=>r.all Zdf)&&(p.2.2.2.1.all Zdf&&p.2.1.all Zdf&&p.2.2.2.2.all Zdf)
  && (p.2.2.1.zip p.2.1).all (fun z=>decide (Zjk z.1=z.2))&&decide (Zjk p.2.2.2.1=1)&&(p.2.2.2.2.isEmpty || decide (Zjk p.2.2.2.2=1))
def Zck:Nat→List UInt8
 | 0=>[101,117,108,101,114,10,48,124,10,98,32,49]
 | 1=>[104,101,117,110,10,48,124,10,49,124,49,10,98,32,49,47,50,44,49,47,50,10,101,32,49,44,48]
 | 2=>[109,105,100,112,111,105,110,116,10,48,124,10,49,47,50,124,49,47,50,10,98,32,48,44,49,10,101,32,49,44,48]
 | 3=>[114,107,52,10,48,124,10,49,47,50,124,49,47,50,10,49,47,50,124,48,44,49,47,50,10,49,124,48,44,48,44,49,10,98,32,49,47,54,44,49,47,51,44,49,47,51,44,49,47,54]
 | 4=>[98,115,50,51,10,48,124,10,49,47,50,124,49,47,50,10,51,47,52,124,48,44,51,47,52,10,49,124,50,47,57,44,49,47,51,44,52,47,57,10,98,32,50,47,57,44,49,47,51,44,52,47,57,44,48,10,101,32,55,47,50,52,44,49,47,52,44,49,47,51,44,49,47,56]
 | 5=>[100,112,52,53,10,48,124,10,49,47,53,124,49,47,53,10,51,47,49,48,124,51,47,52,48,44,57,47,52,48,10,52,47,53,124,52,52,47,52,53,44,45,53,54,47,49,53,44,51,50,47,57,10,56,47,57,124,49,57,51,55,50,47,54,53,54,49,44,45,50,53,51,54,48,47,50,49,56,55,44,54,52,52,52,56,47,54,53,54,49,44,45,50,49,50,47,55,50,57,10,49,124,57,48,49,55,47,51,49,54,56,44,45,51,53,53,47,51,51,44,52,54,55,51,50,47,53,50,52,55,44,52,57,47,49,55,54,44,45,53,49,48,51,47,49,56,54,53,54,10,49,124,51,53,47,51,56,52,44,48,44,53,48,48,47,49,49,49,51,44,49,50,53,47,49,57,50,44,45,50,49,56,55,47,54,55,56,52,44,49,49,47,56,52,10,98,32,51,53,47,51,56,52,44,48,44,53,48,48,47,49,49,49,51,44,49,50,53,47,49,57,50,44,45,50,49,56,55,47,54,55,56,52,44,49,49,47,56,52,44,48,10,101,32,53,49,55,57,47,53,55,54,48,48,44,48,44,55,53,55,49,47,49,54,54,57,53,44,51,57,51,47,54,52,48,44,45,57,50,48,57,55,47,51,51,57,50,48,48,44,49,56,55,47,50,49,48,48,44,49,47,52,48]
 | _=>[]
def Zd0:Nat→List UInt8
 | 0=>[101,117,108,101,114]
 | 1=>[104,101,117,110]
 | 2=>[109,105,100,112,111,105,110,116]
 | 3=>[114,107,52]
 | 4=>[98,115,50,51]
 | 5=>[100,112,52,53]
 | _=>[]
def Zkm:Nat→List UInt8×List Rat×List (List Rat)×List Rat×List Rat
 | 0=>([101,117,108,101,114],[mkRat 0 1],[[]],[mkRat 1 1],[])
 | 1=>([104,101,117,110],[mkRat 0 1,mkRat 1 1],[[],[mkRat 1 1]],[mkRat 1 2,mkRat 1 2],[mkRat 1 1,mkRat 0 1])
 | 2=>([109,105,100,112,111,105,110,116],[mkRat 0 1,mkRat 1 2],[[],[mkRat 1 2]],[mkRat 0 1,mkRat 1 1],[mkRat 1 1,mkRat 0 1])
 | 3=>([114,107,52],[mkRat 0 1,mkRat 1 2,mkRat 1 2,mkRat 1 1],[[],[mkRat 1 2],[mkRat 0 1,mkRat 1 2],[mkRat 0 1,mkRat 0 1,mkRat 1 1]],[mkRat 1 6,mkRat 1 3,mkRat 1 3,mkRat 1 6],[])
 | 4=>([98,115,50,51],[mkRat 0 1,mkRat 1 2,mkRat 3 4,mkRat 1 1],[[],[mkRat 1 2],[mkRat 0 1,mkRat 3 4],[mkRat 2 9,mkRat 1 3,mkRat 4 9]],[mkRat 2 9,mkRat 1 3,mkRat 4 9,mkRat 0 1],[mkRat 7 24,mkRat 1 4,mkRat 1 3,mkRat 1 8])
 | 5=>([100,112,52,53],[mkRat 0 1,mkRat 1 5,mkRat 3 10,mkRat 4 5,mkRat 8 9,mkRat 1 1,mkRat 1 1],[[],[mkRat 1 5],[mkRat 3 40,mkRat 9 40],[mkRat 44 45,mkRat (-56) 15,mkRat 32 9],[mkRat 19372 6561,mkRat (-25360) 2187,mkRat 64448 6561,mkRat (-212) 729],[mkRat 9017 3168,mkRat (-355) 33,mkRat 46732 5247,mkRat 49 176,mkRat (-5103) 18656],[mkRat 35 384,mkRat 0 1,mkRat 500 1113,mkRat 125 192,mkRat (-2187) 6784,mkRat 11 84]],[mkRat 35 384,mkRat 0 1,mkRat 500 1113,mkRat 125 192,mkRat (-2187) 6784,mkRat 11 84,mkRat 0 1],[mkRat 5179 57600,mkRat 0 1,mkRat 7571 16695,mkRat 393 640,mkRat (-92097) 339200,mkRat 187 2100,mkRat 1 40])
 | _=>([],[],[],[],[])
def Zbs(i:Nat):Sm:=smQ (Zkm i)
theorem zjz(l:List Rat):sumF (fzs l)=Zjk l:=by
 unfold sumF Zjk fzs;rw[List.foldl_map];simp only[zj7]
theorem zud{q:Rat}(h:Zdf q=true):sz q≤1:=by
 unfold Zdf at h;simp only[Yk,decide_eq_true_eq]at h;exact zadm h.1 h.2
theorem ze7{l:List Rat}(h:l.all Zdf=true):(fzs l).all Zbp=true:=by
 rw[Ye];intro x hx;unfold fzs at hx;obtain⟨q,hq,rfl⟩:=Y3.1 hx;exact zqr (by have:=zud (Ye.1 h q hq);omega)
theorem zx5(p:List UInt8×List Rat×List (List Rat)×List Rat×List Rat)(h:okQ p=true):okS (smQ p)=true:=by
 obtain⟨nm,c,a,b,e⟩:=p;unfold okQ at h;simp only[Yk,decide_eq_true_eq,Ya0]at h;obtain⟨⟨⟨⟨⟨⟨h1,h2⟩,h3⟩,⟨h4,h5⟩,h6⟩,h7⟩,h8⟩,h9⟩:=h;have n1:Zc5 (a.map fzs)=true:=by
  unfold Zc5;rw[List.all_map,Ye];intro r hr;exact ze7 (Ye.1 h3 r hr)
 have n2:Zc5 [fzs b,fzs c,fzs e]=true:=by
  rw[zx2,ze7 h4,ze7 h5,ze7 h6]
  rfl
 have n3:Zcr (a.map fzs) (fzs c)=true:=by
  unfold Zcr;rw[Ye]at h7 ⊢;intro z hz;have e1:(a.map fzs).zip (fzs c)=(a.zip c).map fun z=>(fzs z.1,fz z.2):=by
   unfold fzs;rw[List.zip_map]
   rfl
  rw[e1]at hz;obtain⟨y,hy,rfl⟩:=Y3.1 hz;have:=h7 y hy;rw[decide_eq_true_eq]at this ⊢;rw[zjz,zj7];exact this
 have n4:sumF (fzs b)=1:=by rw[zjz];exact h8
 have n5:¬ (fzs e≠[]∧sumF (fzs e)≠1):=by
  rw[zjz]
  rintro⟨q1,q2⟩
  rcases h9 with h9 | h9
  ·cases e with
   | nil=>exact q1 rfl
   | cons x e=>simp at h9
  ·exact q2 h9
 unfold okS Zcs;rw[show (smQ (nm,c,a,b,e)).nm=nm from rfl,show (smQ (nm,c,a,b,e)).a=a.map fzs from rfl,show (smQ (nm,c,a,b,e)).b=fzs b from rfl,show (smQ (nm,c,a,b,e)).c=fzs c from rfl,show (smQ (nm,c,a,b,e)).e=fzs e from rfl];rw[h1,h2,n1,n2,n3,if_neg n5];simp[n4]
def Zmo(x:Fz):Bool:=decide ((Zs (fv x).num.natAbs).length≤10)&&decide ((Zs (fv x).den).length≤10)
theorem zpc{q:Rat}(h:Zdf q=true):(Zaj q).length≤22:=by
 unfold Zdf at h;simp only[Yk,decide_eq_true_eq]at h;have h1:(Zs q.num.natAbs).length≤10:=zdo (k:=9) (by omega);have h2:(Zs q.den).length≤10:=zdo (k:=9) (by omega);have h3:(Z7 q.num).length≤11:=by
  unfold Z7;split
  ·simp;omega
  ·omega
 unfold Zaj;split
 ·omega
 ·simp;omega
theorem znp{l:List Rat}(h:l.all Zdf=true)(h8:l.length≤8):(List.intercalate [44] (Z8 (fzs l))).length≤184:=by
 have e:Z8 (fzs l)=l.map Zaj:=by
  unfold Z8 fzs;rw[Yc9];exact Ydi fun q _=>by show Zaj (fv (fz q))=_;rw[zj7]
 rw[e];have:=zdl (K:=22) 44 (l.map Zaj) fun t ht=>by
  obtain⟨q,hq,rfl⟩:=Y3.1 ht;exact zpc (Ye.1 h q hq)
 rw[Ybc]at this;have:l.length*(22+1)≤8*23:=by omega
 omega
theorem z0h(p:List UInt8×List Rat×List (List Rat)×List Rat×List Rat)(h:okQ p=true):(textS (smQ p)).length≤4000:=by
 have hk:=zx5 p h;obtain⟨H,_⟩:=zd1 hk;have hn:=(zd0 (zjx hk)).2;obtain⟨nm,c,a,b,e⟩:=p;unfold okQ at h;simp only[Yk,decide_eq_true_eq,Ya0]at h;obtain⟨⟨⟨⟨⟨⟨_,_⟩,h3⟩,⟨h4,h5⟩,h6⟩,_⟩,_⟩,_⟩:=h;have b8:b.length≤8:=by have:=H.b8;unfold smQ at this;simpa[fzs]using this
 have e8:e.length≤8:=by
  have q2:(fzs e).length=(fzs b).length∨(fzs e).length=0:=H.el;simp only[zdy]at q2;omega
 have al:a.length=b.length:=by have:=H.al;unfold smQ at this;simpa[fzs]using this
 have hr:∀r∈a,r.length≤8:=fun r hr=>by
  have q:=zco _ _ H.sh (fzs r) (Y3.2 ⟨r,hr,rfl⟩);have e1:(smQ (nm,c,a,b,e)).a.length=a.length:=by unfold smQ;simp
  rw[e1]at q;simp[fzs]at q;omega
 have hl:∀t∈Zcg (smQ (nm,c,a,b,e)),t.length≤220:=by
  intro t ht;unfold Zcg at ht;rcases Y4.1 ht with ht | ht
  ·rcases Y4.1 ht with ht | ht
   ·rcases Y4.1 ht with ht | ht
    ·rw[Y9]at ht;rw[ht];omega
    ·obtain⟨z,hz,rfl⟩:=Y3.1 ht;obtain⟨z1,z2⟩:=Yei hz;obtain⟨q,hq,e1⟩:=Y3.1 (show z.1∈c.map fz from z1);obtain⟨r,hr',e2⟩:=Y3.1 (show z.2∈a.map fzs from z2);rw[zjv,←e1,←e2,zj7];have k1:=zpc (Ye.1 h5 q hq);have k2:=znp (Ye.1 h3 r hr') (hr r hr');simp only[Yp,Yc];omega
   ·rw[Y9]at ht;rw[ht];have:=znp h4 b8;have e1:(smQ (nm,c,a,b,e)).b=fzs b:=rfl;rw[e1];simp only[Yp,Yc,Y5];omega
  ·split at ht
   ·simp at ht
   ·rw[Y9]at ht;rw[ht];have:=znp h6 e8;have e1:(smQ (nm,c,a,b,e)).e=fzs e:=rfl;rw[e1];simp only[Yp,Yc,Y5];omega
 have hm:(Zcg (smQ (nm,c,a,b,e))).length≤11:=by
  unfold Zcg;have e1:((smQ (nm,c,a,b,e)).c.zip (smQ (nm,c,a,b,e)).a).length≤a.length:=by
   rw[Ydr];have:(smQ (nm,c,a,b,e)).a.length=a.length:=by unfold smQ;simp
   omega
  split
  ·simp only[Yp,Yc,Y5,Ybc];omega
  ·simp only[Yp,Yc,Y5,Ybc];omega
 have:=zdl (K:=220) 10 _ hl;unfold textS;have:(Zcg (smQ (nm,c,a,b,e))).length*(220+1)≤11*221:=by omega
 omega
theorem zue:∀i,i<6→okQ (Zkm i)=true:=by decide +kernel
theorem zx6{i:Nat}(h:i<6):okS (Zbs i)=true:=zx5 _ (zue i h)
theorem z0i{i:Nat}(h:i<6):(textS (Zbs i)).length≤4000:=z0h _ (zue i h)
theorem zuf:Zar (Zck 0)=(Zbs 0,0,0):=by kernel_rfl
theorem zug:Zar (Zck 1)=(Zbs 1,0,0):=by kernel_rfl
theorem zuh:Zar (Zck 2)=(Zbs 2,0,0):=by kernel_rfl
theorem zui:Zar (Zck 3)=(Zbs 3,0,0):=by kernel_rfl
theorem zuj:Zar (Zck 4)=(Zbs 4,0,0):=by kernel_rfl
theorem zuk:Zar (Zck 5)=(Zbs 5,0,0):=by kernel_rfl
theorem zul{i:Nat}(h:i<6):Zde (Zck i)=(Zbs i,0,0):=by
 have hr:Zar (Zck i)=(Zbs i,0,0):=by
  match i,h with
  | 0,_=>exact zuf
  | 1,_=>exact zug
  | 2,_=>exact zuh
  | 3,_=>exact zui
  | 4,_=>exact zuj
  | 5,_=>exact zuk
 have hl:∀i,i<6→(Zck i).length≤4000:=by decide +kernel
 have:=hl i h;obtain⟨_,hw⟩:=zd1 (zx6 h);unfold Zde;rw[if_neg (by omega),hr,if_neg (by simp),if_neg (by simp[hw])]
end Go.Ab
end
section
namespace Go.Ab
section
variable{T:Tbl}[Z9 T][Zp T][Zv T][Zy T][Zr T][Zu T][Zq T][Za0 T][Zf T][Zn T][Zz T][Za6 T][Zbc T][Zbk T][Zbv T][Zbw T][Zbl T][Zcp T][Zbx T][Zc2 T][Zc3 T][Zhy T][Zc4 T][Zg9 T][Zcq T][Zak T][Zb3 T][Zcn T][Zc9 T][Zco T][Zdx T][Zgf T][Zge T][Zat T][Zby T][Zcw T][Zfs T][Zjb T][Zbn T][Zad T][Zai T][Ze6 T][Zfg T]
def Zmk(s:Sm)(m:List UInt8)(G:List Fz):St:=⟨[(2,.ptr (.loc 2) 1 5 0 0),(5,.ptr (.loc 5) 2 5 0 0),(6,.s m),(8,.sl (Zi G) .an),(10,.sl [] .fu),(11,.i .i64 0)],[(.loc 2,Zim 1 s),(.loc 5,Zim 2 s)],4⟩
def Zml(s:Sm)(m:List UInt8)(G:List Fz)(i:Nat):St:=⟨[(2,.ptr (.loc 2) 1 5 0 0),(5,.ptr (.loc 5) 2 5 0 0),(6,.s m),(8,.sl (Zi G) .an),(10,.bs (.loc 106) 3 3 0 i),(11,.i .i64 i)],
 [(.loc 2,Zim 1 s),(.loc 5,Zim 2 s),(.loc 106,⟨3,.own,3,Zi ((Zlc s.b s.e).take i)⟩)],5⟩
def stW(s:Sm)(m:List UInt8)(G:List Fz):Nat→St
 | 0=>Zmk s m G
 | i+1=>Zml s m G (i+1)
end
end Go.Ab
end
section
namespace Go.Ab
theorem z0b{w:List UInt8}(h:(Zaa w).2.1=0):1≤w.length:=by
 cases w with
 | nil=>exact absurd h (by decide)
 | cons c r=>simp
theorem zio:∀(ws:List (List UInt8)) (k:Nat) (acc:List Rat),2*(Zao ws k acc).1.length≤2*acc.length+(ws.map fun w=>w.length+1).sum
 | [],_,acc=>by simp[Zao]
 | w::ws,k,acc=>by
  unfold Zao;by_cases h:(Zaa w).2.1=0
  ·have h1:=z0b h;have:=zio ws (k+w.length+1) (acc++[(Zaa w).1]);rw[if_pos h];simp only[Yp,Yc,Y5,Ys,Ycm]at this ⊢;omega
  ·rw[if_neg h];simp
theorem zt1(s:List UInt8):2*(Zb0 s).1.length≤s.length+1:=by
 unfold Zb0;split
 ·simp
 ·have:=zio (Zt 44 s) 0 [];rw[zfp]at this;simpa using this
structure SgS (s:Sg):Prop where
 al:s.a.length=s.c.length
 c:∀x∈s.c,fsz x≤300
 a:∀r∈s.a,r.length≤1000∧∀x∈r,fsz x≤300
theorem zt2{l:List UInt8}(hl:l.length≤1900):(fzs (Zb0 l).1).length≤1000∧∀x∈fzs (Zb0 l).1,fsz x≤300:=by
 refine⟨?_,fun x hx=>?_⟩
 ·rw[zdy];have:=zt1 l;omega
 ·unfold fzs at hx;obtain⟨q,hq,rfl⟩:=Y3.1 hx;rw[zeb];have:=zzx l q hq;omega
theorem zt3{r:Rd}(ho:r.over=false):muR r=muR (Z1 r)+(Zh r).length+1:=by
 unfold muR Zh Z1;rw[ho];cases hc:r.rest.contains 10 with
 | true=>
  have h5:=znk r.rest 10 hc;simp;omega
 | false=>
  have:=(zhf 10 r.rest (fun b hb e=>by rw[e]at hb;rw[Ybi.2 hb]at hc;cases hc)).1;simp[this]
theorem zt4(t:List UInt8)(ht:t.length≤1500):∀(n:Nat) (r:Rd) (s:Sg),RdOk t r→SgS s→2*s.c.length+muR r≤1501→SgS (Zag t n r s).2.1∧2*(Zag t n r s).2.1.c.length≤1501
 | 0,_,_,_,h,hm=>⟨h,by simp only[Zag];omega⟩
 | n+1,r,s,hr,h,hm=>by
  unfold Zag;by_cases h1:r.over=true
  ·rw[if_pos h1];exact⟨h,by dsimp only;omega⟩
  rw[if_neg h1];by_cases h2:(Zh r).contains 124=false
  ·rw[if_pos h2];exact⟨h,by dsimp only;omega⟩
  rw[if_neg h2];by_cases h3:(Zbt (Zh r) r.at_).2.2≠(0,0)
  ·rw[if_pos h3];exact⟨h,by dsimp only;omega⟩
  rw[if_neg h3];have ho:r.over=false:=by simpa using h1
  have hmu:=zt3 ho;have hl1:1≤(Zh r).length:=by
   cases hl:Zh r with
   | nil=>rw[hl]at h2;simp at h2
   | cons c q=>simp
  have hl2:(Zh r).length≤1500:=by
   have:=hr.l;have e:Zh r=hdC 10 r.rest:=by unfold Zh;rw[ho];rfl
   rw[e];have:=zw0 10 r.rest;omega
  have k1:fsz (fz (Zbt (Zh r) r.at_).1)≤300:=by
   rw[zeb];have:=zte (hdC 124 (Zh r));unfold Zbt;split
   ·dsimp only;omega
   ·dsimp only;omega
  have k2:(fzs (Zbt (Zh r) r.at_).2.1).length≤1000∧∀x∈fzs (Zbt (Zh r) r.at_).2.1,fsz x≤300:=by
   unfold Zbt;split
   ·simp[fzs]
   ·exact zt2 (by have:=z5e 124 (Zh r);omega)
  refine zt4 t ht n _ _ (zd2 hr) ⟨?_,?_,?_⟩ ?_
  ·have:=h.al;simp only[Yp,Yc,Y5];omega
  ·intro x hx;rcases Y4.1 hx with hx | hx
   ·exact h.c x hx
   ·rw[Y9]at hx;rw[hx];exact k1
  ·intro q hq;rcases Y4.1 hq with hq | hq
   ·exact h.a q hq
   ·rw[Y9]at hq;rw[hq];exact k2
  ·simp only[Yp,Yc,Y5];omega
theorem zx1(c:UInt8){r:Rd}(h:r.rest.length≤1500):(fzs (Zdg c r).1).length≤1000∧∀x∈fzs (Zdg c r).1,fsz x≤300:=by
 unfold Zdg;split
 ·refine zt2 ?_;have e:(Zh r).length≤r.rest.length:=by
   unfold Zh;split
   ·simp
   ·exact zw0 10 r.rest
  simp only[Yan];omega
 ·simp[fzs]
theorem z0c(t:List UInt8)(ht:t.length≤1500)(h:(Zar t).2=(0,0)):SmS (Zar t).1:=by
 have h0:RdOk t ⟨t,0,false⟩:=⟨Yz _,Yi _,fun _=>Yas _⟩;have k1:=zd2 h0;have m0:=zt3 (r:=⟨t,0,false⟩) rfl;have m1:muR ⟨t,0,false⟩=t.length+1:=rfl;obtain⟨S,hc⟩:=zt4 t ht (t.length+2) (Z1 ⟨t,0,false⟩) ⟨Zh ⟨t,0,false⟩,[],[]⟩ k1 ⟨rfl,fun x hx=>by simp at hx,fun x hx=>by simp at hx⟩ (by simp;omega);have o2:=znm (t.length+2) (Z1 ⟨t,0,false⟩) ⟨Zh ⟨t,0,false⟩,[],[]⟩ k1;have hS:Zac t=Zag t (t.length+2) (Z1 ⟨t,0,false⟩) ⟨Zh ⟨t,0,false⟩,[],[]⟩:=rfl;rw[←hS]at S hc o2;have o3:=zd2 o2;obtain⟨b1,b2⟩:=zx1 98 (r:=(Zac t).1) (by have:=o2.l;omega);obtain⟨e1,e2⟩:=zx1 101 (r:=Z1 (Zac t).1) (by have:=o3.l;omega);have nmS:∀(n:Nat) (r:Rd) (s:Sg),(Zag t n r s).2.1.nm=s.nm:=by
  intro n
  induction n with
  | zero=>intro r s;rfl
  | succ n ih=>
   intro r s;unfold Zag;split
   ·rfl
   ·split
    ·rfl
    ·split
     ·rfl
     ·rw[ih]
 have hnm:(Zac t).2.1.nm=Zh ⟨t,0,false⟩:=nmS _ _ _;unfold Zar at h ⊢;by_cases q1:Za7 2 (Zh ⟨t,0,false⟩)=false
 ·rw[if_pos q1]at h;simp at h
 have hn:=(zd0 (t:=Zh ⟨t,0,false⟩) (by simpa using q1)).2;rw[if_neg q1]at h ⊢;by_cases q2:(Zac t).2.2≠(0,0)
 ·rw[if_pos q2]at h;exact absurd h q2
 rw[if_neg q2]at h ⊢;have al:=S.al;have mk:∀b e:List Fz,(b.length≤1000∧∀x∈b,fsz x≤300)→(e.length≤1000∧∀x∈e,fsz x≤300)→SmS (smG (Zac t).2.1 b e):=fun b e hb he=>
  ⟨by show (Zac t).2.1.nm.length≤1000;rw[hnm];omega,by show (Zac t).2.1.c.length≤1000;omega,by show (Zac t).2.1.a.length≤1000;omega,hb.1,he.1,S.c,S.a,hb.2,he.2⟩
 split
 ·exact mk _ _ ⟨b1,b2⟩ ⟨by simp,by simp⟩
 ·split
  ·exact mk _ _ ⟨b1,b2⟩ ⟨e1,e2⟩
  ·exact mk _ _ ⟨b1,b2⟩ ⟨e1,e2⟩
theorem ziq:∀a:List (List Fz),Zeq a a=true
 | []=>rfl
 | r::a=>by
  have:=ziq a;unfold Zeq at this ⊢;rw[List.zip_cons_cons,Ybx,this,decide_eq_true rfl]
  rfl
theorem zt5(s:Sm):Zib s s=true:=by
 unfold Zib;rw[ziq];simp
end Go.Ab
end
section
namespace Go.Ab
def Zfu(l:List UInt8)(i:Nat):Option Nat:=((List.range 6).drop i).find? fun j=>decide (Zd0 j=l)
theorem zum(l:List UInt8){i:Nat}(h:i<6):Zfu l i=if Zd0 i=l then some i else Zfu l (i+1):=by
 unfold Zfu;rw[Yw (by simpa using h),List.find?_cons,List.getElem_range];by_cases e:Zd0 i=l<;>simp[e]
theorem zun:∀i,i<6→hdC 10 (Zck i)=Zd0 i:=by decide +kernel
theorem zj0:∀i,i<6→(Zck i).length≤1000:=by decide +kernel
theorem z0j(i:Nat)(h:i<6):(Zbs i).nm=Zd0 i:=by
 have:∀i,i<6→(Zkm i).1=Zd0 i:=by decide +kernel
 exact this i h
def emS:Sm:=⟨[],[],[],[],[]⟩
def Zhk(l:List UInt8):Sm:=match Zfu l 0 with | some i=>Zbs i | none=>emS
def Zha(l:List UInt8):Bool:=(Zfu l 0).isSome
theorem z5g{s:Sm}(h:okS s=true):SmS s:=by
 obtain⟨H,_⟩:=zd1 h;have hn:=(zd0 (zjx h)).2;have b8:=H.b8;have al:=H.al;have cl:=H.cl;have el:=H.el;refine⟨by omega,by omega,by omega,by omega,by omega,fun x hx=>?_,fun r hr=>⟨?_,fun x hx=>?_⟩,fun x hx=>?_,fun x hx=>?_⟩
 ·have:=zc3 H.nc x hx;omega
 ·have q:=zco _ _ H.sh r hr;omega
 ·have:=zf9 H.na r hr x hx;omega
 ·have:=zc3 H.nb x hx;omega
 ·have:=zc3 H.ne x hx;omega
def Zip:List AV:=[.s (Zck 0),.s (Zck 1),.s (Zck 2),.s (Zck 3),.s (Zck 4),.s (Zck 5)]
theorem zbg:∃a b c d e f:List UInt8,Zip=[.s a,.s b,.s c,.s d,.s e,.s f]:=⟨_,_,_,_,_,_,rfl⟩
theorem zuo(i:Nat)(h:i<6):Zd3 1 6 none (.agg Zip) (.i .i64 i)=some (.s (Zck i)):=by
 match i,h with
 | 0,_=>rfl
 | 1,_=>rfl
 | 2,_=>rfl
 | 3,_=>rfl
 | 4,_=>rfl
 | 5,_=>rfl
def smC(s:Sm):List AV:=[.s s.nm,.sl (Zi s.c) .an,.sl (Z3 s.a) .an,.sl (Zi s.b) .an,.sl (Zi s.e) .an]
def Zb6(n:Nat):List (List AV):=(List.range n).map fun i=>[.s (Zd0 i)]
def Zb7(n:Nat):List (List AV):=(List.range n).map fun i=>smC (Zbs i)
theorem zup(n:Nat):Zb6 (n+1)=Zb6 n++[[.s (Zd0 n)]]:=by unfold Zb6;rw[List.range_succ,Ych];rfl
theorem zuq(n:Nat):Zb7 (n+1)=Zb7 n++[smC (Zbs n)]:=by unfold Zb7;rw[List.range_succ,Ych];rfl
theorem ze8(n:Nat):(Zb6 n).length=n:=by simp[Zb6]
theorem zd3(n:Nat):(Zb7 n).length=n:=by simp[Zb7]
theorem zj1{α:Type}(f:α→List AV)(h:∀a,wkR (f a)=f a):∀l:List α,wkL (l.map f)=l.map f
 | []=>rfl
 | a::l=>by rw[Ys,wkL,h,zj1 f h l]
theorem zfr(n:Nat):wkL (Zb6 n)=Zb6 n:=zj1 _ (fun _=>rfl) _
theorem z5h(s:Sm):wkR (smC s)=smC s:=by
 unfold smC;simp[zva,z0v]
theorem zfs(n:Nat):wkL (Zb7 n)=Zb7 n:=zj1 _ (fun _=>z5h _) _
section
variable{T:Tbl}[Z9 T][Zp T][Zv T][Zy T][Zr T][Zu T][Zq T][Za0 T][Zf T][Zn T][Zz T][Za6 T][Zbc T][Zbk T][Zcq T][Zak T][Zb3 T][Zcn T][Zc9 T][Zco T][Zdx T][Zgf T][Zge T][Zat T][Zby T][Zcw T][Zfs T][Zbn T][Zad T][Zai T][Zbo T]
theorem zej:Zb T 609 []=some (.agg Zip):=by
 rw[zab Zbo.h609 rfl]
 kernel_rfl
theorem zit(l:List UInt8)(h:l.length≤1000000):Zb T 610 [.s l]=some (.s (hdC 10 l)):=by
 have c:=ztg (T:=T) l h;unfold hdC;rw[zab Zbo.h610 rfl,b610];generalize List.takeWhile (fun x=>x != 10) l=A at *
 generalize List.drop 1 (List.dropWhile (fun x=>x != 10) l)=B at *
 generalize l.contains 10=C at *
 simp -implicitDefEqProofs[c]
theorem zhl(hcut:∀l:List UInt8,l.length≤1000000→Zb T 184 [.s l,.s [124]]=some (.tup [.s (hdC 124 l),.s (tlC 124 l),.b (l.contains 124)])){i:Nat}(h:i<6):Zb T 608 [.s (Zck i)]=some (.tup [esm (Zbs i),flt 0 0]):=by
 have:=zj0 i h;have q:=zl4 (T:=T) hcut (Zck i) (by omega) (fun _ g=>z0c _ (by omega) g);rw[zul h]at q;exact q
def Zjl(l:List UInt8)(i:Nat):St:=⟨[(0,.s l),(2,.ptr (.loc 2) 1 5 0 0),(8,.agg Zip),(9,.i .i64 i)],[(.loc 2,⟨1,.str,5,[[.s [],.sl [] .an,.sl [] .an,.sl [] .an,.sl [] .an]]⟩)],3⟩
def Zgy:Option Nat→Option (Ex×St)
 | some j=>some (.r,⟨[(2,.ptr (.loc 2) 1 5 0 0),(3,.b true)],[(.loc 2,⟨1,.str,5,[smC (Zbs j)]⟩)],3⟩)
 | none=>some (.n,⟨[(2,.ptr (.loc 2) 1 5 0 0)],[(.loc 2,⟨1,.str,5,[[.s [],.sl [] .an,.sl [] .an,.sl [] .an,.sl [] .an]]⟩)],3⟩)
theorem zw3(hcut:∀l:List UInt8,l.length≤1000000→Zb T 184 [.s l,.s [124]]=some (.tup [.s (hdC 124 l),.s (tlC 124 l),.b (l.contains 124)]))(l:List UInt8) :
  Zw T 0 0 (.norm false [2]) l603_0 (Zjl l 0)=Zgy (Zfu l 0):=by
 refine zbq (Zjl l) 6 (fun i=>Zgy (Zfu l i)) (fun i hi=>?_) ?_
 ·have hi':(i:Int)<6:=by omega
  have hws:=ze0 hi (by omega);have ha:=zuo i hi;have c1:=zit (T:=T) (Zck i) (by have:=zj0 i hi;omega);rw[zun i hi]at c1;have c2:=zhl (T:=T) hcut hi;clear hcut;rw[zum l hi];unfold Zjl;obtain⟨u0,u1,u2,u3,u4,u5,hA⟩:=zbg;rw[hA]at ha ⊢;clear hA;by_cases e:Zd0 i=l
  ·right;rw[if_pos e];unfold Zgy smC;dsimp only;generalize Zbs i=S at *
   obtain⟨nm,C,M,B,E⟩:=S;generalize Zck i=X at *
   generalize Zd0 i=N at *
   subst e;dsimp only at *
   constructor<;>simp -implicitDefEqProofs[-Zd3,l603_0,hi,hi',hws,ha,c1,c2]
  ·left;rw[if_neg e];clear c2;generalize Zck i=X at *
   generalize Zd0 i=N at *
   refine⟨?_,rfl⟩;simp -implicitDefEqProofs[-Zd3,l603_0,hi,hi',hws,ha,c1,e]
 ·have e0:Zfu l 6=none:=rfl;rw[e0];unfold Zjl Zgy;obtain⟨u0,u1,u2,u3,u4,u5,hA⟩:=zbg;rw[hA];clear hA;constructor<;>simp -implicitDefEqProofs[l603_0]
theorem ze9(hcut:∀l:List UInt8,l.length≤1000000→Zb T 184 [.s l,.s [124]]=some (.tup [.s (hdC 124 l),.s (tlC 124 l),.b (l.contains 124)]))(l:List UInt8) :
  Zb T 603 [.s l]=some (.tup [esm (Zhk l),.b (Zha l)]):=by
 have L:=zw3 (T:=T) hcut l;have ct:=zej (T:=T);unfold Zjl at L;simp only[Yai]at L;unfold Zhk Zha;rw[zab Zbo.h603 rfl,b603];clear hcut;cases hg:Zfu l 0 with
 | none=>
  rw[hg]at L;unfold Zgy at L;dsimp only at L;clear hg;obtain⟨u0,u1,u2,u3,u4,u5,hA⟩:=zbg;rw[hA]at L ct;clear hA;have e0:esm emS=.agg [.s [],.sl [] .an,.sl [] .an,.sl [] .an,.sl [] .an]:=rfl;simp only[e0];simp -implicitDefEqProofs[L,ct]
 | some j=>
  rw[hg]at L;unfold Zgy smC at L;dsimp only at L ⊢;clear hg;obtain⟨u0,u1,u2,u3,u4,u5,hA⟩:=zbg;rw[hA]at L ct;clear hA;simp only[Option.isSome_some];generalize Zbs j=S at *
  obtain⟨nm,C,M,B,E⟩:=S;dsimp only at *
  simp -implicitDefEqProofs[L,ct]
def Zgz(l:List UInt8):Sm×Int×Int:=if Zha l=true then (Zhk l,0,0) else Zde l
theorem zqx(hcut:∀l:List UInt8,l.length≤1000000→Zb T 184 [.s l,.s [124]]=some (.tup [.s (hdC 124 l),.s (tlC 124 l),.b (l.contains 124)]))(l:List UInt8)
  (hl:l.length≤1000000) (hs:l.length≤4000→(Zar l).2=(0,0)→SmS (Zar l).1):Zb T 627 [.s l]=some (.tup [esm (Zgz l).1,flt (Zgz l).2.1 (Zgz l).2.2]):=by
 have c1:=ze9 (T:=T) hcut l;have c2:=zl4 (T:=T) hcut l hl hs;clear hcut hs;unfold Zgz;rw[zab Zbo.h627 rfl,b627];generalize Zhk l=G at *
 generalize Zde l=P at *
 obtain⟨⟨nm',C',M',B',E'⟩,k,a⟩:=P;obtain⟨nm,C,M,B,E⟩:=G;dsimp only at *
 cases hh:Zha l with
 | true=>
  rw[hh]at c1;clear hh c2;simp only[if_true];simp -implicitDefEqProofs[c1]
 | false=>
  rw[hh]at c1;clear hh;simp only[Y8,if_false];simp -implicitDefEqProofs[c1,c2]
def Zhl(i:Nat):St:=⟨[(1,.bs (.loc 1) 1 1 0 i),(4,.agg Zip),(5,.i .i64 i)],[(.loc 1,⟨1,.own,1,Zb6 i⟩)],3⟩
theorem zqy:Zw T 0 0 (.norm false [1]) l632_0 (Zhl 0)=some (.n,⟨[(1,.bs (.loc 1) 1 1 0 6)],[(.loc 1,⟨1,.own,1,Zb6 6⟩)],3⟩):=by
 refine zb5 Zhl 6 _ (fun i hi=>?_) ?_
 ·have hi':(i:Int)<6:=by omega
  have hws:=ze0 hi (by omega);have ha:=zuo i hi;have c1:=zit (T:=T) (Zck i) (by have:=zj0 i hi;omega);rw[zun i hi]at c1;have hl:=ze8 i;have hc:i≤4294967295:=by omega
  have hw2:=zfr (i+1);unfold Zhl;rw[zup]at hw2 ⊢;have ht:List.take i (Zb6 i)=Zb6 i:=Yb (by omega);have hw:wkL (Zb6 i)=Zb6 i:=zfr _;generalize Zb6 i=R at *
  obtain⟨u0,u1,u2,u3,u4,u5,hA⟩:=zbg;rw[hA]at ha ⊢;clear hA;generalize Zck i=X at *
  generalize Zd0 i=N at *
  simp -implicitDefEqProofs[-Zd3,l632_0,hi,hi',hws,ha,c1,ht,hl,hw,hc,hw2]
 ·unfold Zhl;obtain⟨u0,u1,u2,u3,u4,u5,hA⟩:=zbg;rw[hA];clear hA;have hl:=ze8 6;have hw:=zfr 6;generalize Zb6 6=R at *
  constructor<;>simp -implicitDefEqProofs[l632_0,hl,hw]
theorem znq:Zb T 632 []=some (.sl (Zb6 6) .an):=by
 have L:=zqy (T:=T);have ct:=zej (T:=T);unfold Zhl at L;have e0:Zb6 0=[]:=rfl;rw[e0]at L;simp only[Yai]at L;have hl:=ze8 6;have hw:wkL (Zb6 6)=Zb6 6:=zfr _;have ht:List.take 6 (Zb6 6)=Zb6 6:=Yb (by omega);rw[zab Zbo.h632 rfl,b632];obtain⟨u0,u1,u2,u3,u4,u5,hA⟩:=zbg;rw[hA]at L ct;clear hA;generalize Zb6 6=R at *
 simp -implicitDefEqProofs[L,ct,hl,hw,ht]
def Zjm(i:Nat):St:=⟨[(1,.bs (.loc 1) 1 5 0 i),(6,.agg Zip),(7,.i .i64 i)],[(.loc 1,⟨1,.own,5,Zb7 i⟩)],3⟩
theorem zw4(hcut:∀l:List UInt8,l.length≤1000000→Zb T 184 [.s l,.s [124]]=some (.tup [.s (hdC 124 l),.s (tlC 124 l),.b (l.contains 124)])) :
  Zw T 0 0 (.norm false [1]) l634_0 (Zjm 0)=some (.n,⟨[(1,.bs (.loc 1) 1 5 0 6)],[(.loc 1,⟨1,.own,5,Zb7 6⟩)],3⟩):=by
 refine zb5 Zjm 6 _ (fun i hi=>?_) ?_
 ·have hi':(i:Int)<6:=by omega
  have hws:=ze0 hi (by omega);have ha:=zuo i hi;have c2:=zhl (T:=T) hcut hi;clear hcut;have hl:=zd3 i;have hc:i≤4294967295:=by omega
  have hw2:=zfs (i+1);unfold Zjm;rw[zuq]at hw2 ⊢;unfold smC at hw2 ⊢;have ht:List.take i (Zb7 i)=Zb7 i:=Yb (by omega);have hw:wkL (Zb7 i)=Zb7 i:=zfs _;generalize Zb7 i=R at *
  obtain⟨u0,u1,u2,u3,u4,u5,hA⟩:=zbg;rw[hA]at ha ⊢;clear hA;generalize Zck i=X at *
  generalize Zbs i=S at *
  obtain⟨nm,C,M,B,E⟩:=S;dsimp only at *
  simp -implicitDefEqProofs[-Zd3,l634_0,hi,hi',hws,ha,c2,ht,hl,hw,hc,hw2]
 ·clear hcut;unfold Zjm;obtain⟨u0,u1,u2,u3,u4,u5,hA⟩:=zbg;rw[hA];clear hA;have hl:=zd3 6;have hw:=zfs 6;generalize Zb7 6=R at *
  constructor<;>simp -implicitDefEqProofs[l634_0,hl,hw]
theorem zur(hcut:∀l:List UInt8,l.length≤1000000→Zb T 184 [.s l,.s [124]]=some (.tup [.s (hdC 124 l),.s (tlC 124 l),.b (l.contains 124)])):Zb T 634 []=some (.sl (Zb7 6) .an):=by
 have L:=zw4 (T:=T) hcut;have ct:=zej (T:=T);clear hcut;unfold Zjm at L;have e0:Zb7 0=[]:=rfl;rw[e0]at L;simp only[Yai]at L;have hl:=zd3 6;have hw:wkL (Zb7 6)=Zb7 6:=zfs _;have ht:List.take 6 (Zb7 6)=Zb7 6:=Yb (by omega);rw[zab Zbo.h634 rfl,b634];obtain⟨u0,u1,u2,u3,u4,u5,hA⟩:=zbg;rw[hA]at L ct;clear hA;generalize Zb7 6=R at *
 simp -implicitDefEqProofs[L,ct,hl,hw,ht]
end
end Go.Ab
end
section
namespace Go.Ab
theorem zl9:∀i,i<6→Zfu (Zd0 i) 0=some i:=by decide +kernel
theorem zus{s:Sm}(h:okS s=true):Zfu (textS s) 0=none:=by
 unfold Zfu;rw[List.find?_eq_none];intro j hj;have hj:j<6:=by simpa using Ybp hj
 rw[decide_eq_true_eq];intro e;have h1:(10:UInt8)∈textS s:=by rw[ze6];simp
 rw[←e]at h1;have:∀j,j<6→¬ (10:UInt8)∈Zd0 j:=by decide
 exact this j hj h1
theorem z0k{i:Nat}(h:i<6):(Zb7 6)[i]? = some (smC (Zbs i)):=by
 unfold Zb7;simp[h]
theorem z0l{i:Nat}(h:i<6):(Zb6 6)[i]? = some [.s (Zd0 i)]:=by
 unfold Zb6;simp[h]
section
variable{T:Tbl}[Z9 T][Zp T][Zv T][Zy T][Zr T][Zu T][Zq T][Za0 T][Zf T][Zn T][Zz T][Za6 T][Zbc T][Zbk T][Zcq T][Zak T][Zb3 T][Zcn T][Zc9 T][Zco T][Zdx T][Zgf T][Zge T][Zat T][Zby T][Zcw T][Zfs T][Zbn T][Zad T][Zai T][Ze6 T][Zbo T][Zfh T][Zfg T]
theorem znr(hcut:∀l:List UInt8,l.length≤1000000→Zb T 184 [.s l,.s [124]]=some (.tup [.s (hdC 124 l),.s (tlC 124 l),.b (l.contains 124)])):Zb T 626 []=some (.b true):=by
 have c1:=ze9 (T:=T) hcut [101,117,108,101,114];have c2:=ze9 (T:=T) hcut [69,117,108,101,114];have e1:Zhk [101,117,108,101,114]=Zbs 0:=rfl;have e2:Zha [101,117,108,101,114]=true:=rfl;have e3:Zha [69,117,108,101,114]=false:=rfl;rw[e1,e2]at c1;rw[e3]at c2;have hb:(Zbs 0).b.length=1:=rfl;clear hcut e1 e2 e3;generalize Zhk [69,117,108,101,114]=G at *
 generalize Zbs 0=S at *
 obtain⟨nm,C,M,B,E⟩:=S;obtain⟨nm',C',M',B',E'⟩:=G;dsimp only at *
 rw[zab Zfh.h626 rfl,b626];simp -implicitDefEqProofs[c1,c2,hb]
def Zhm(i:Nat):St:=⟨[(1,.sl (Zb7 6) .an),(2,.sl (Zb6 6) .an),(3,.i .i64 i)],[],2⟩
theorem zqz(hcut:∀l:List UInt8,l.length≤1000000→Zb T 184 [.s l,.s [124]]=some (.tup [.s (hdC 124 l),.s (tlC 124 l),.b (l.contains 124)])) :
  Zw T 0 0 (.norm false []) l625_0 (Zhm 0)=some (.n,⟨[],[],2⟩):=by
 refine zb5 Zhm 6 _ (fun i hi=>?_) ?_
 ·have hi':(i:Int)<6:=by omega
  have hws:=ze0 hi (by omega);have ok:=zx6 hi;have S:=z5g ok;have hl:=z0i hi;have c1:=zni (T:=T) (Zbs i) S;rw[ok]at c1;simp only[if_true]at c1;have c2:=zqx (T:=T) hcut (textS (Zbs i)) (by omega) (fun _ _=>by rw[zl2 _ ok];exact S);have hf:Zgz (textS (Zbs i))=(Zbs i,0,0):=by
   unfold Zgz Zha;rw[zus ok,zqp _ ok hl]
   rfl
  rw[hf]at c2;have c3:=ze9 (T:=T) hcut (Zd0 i);have hg1:Zhk (Zd0 i)=Zbs i:=by unfold Zhk;rw[zl9 i hi]
  have hg2:Zha (Zd0 i)=true:=by unfold Zha;rw[zl9 i hi];rfl
  rw[hg1,hg2]at c3;have c4:=znh (T:=T) (Zbs i) (Zbs i) S S;rw[zt5]at c4;have hn:=z0j i hi;have w1:=zfs 6;have w2:=zfr 6;have r1:=z0k hi;have r2:=z0l hi;have n1:=zd3 6;have n2:=ze8 6;unfold Zhm;unfold smC at r1;clear hcut S ok hl hf hg1 hg2;generalize Zb7 6=RS at *
  generalize Zb6 6=RN at *
  generalize textS (Zbs i)=X at *
  rw[←hn]at r2 c3;clear hn;generalize Zbs i=S at *
  obtain⟨nm,C,M,B,E⟩:=S;dsimp only at *
  obtain⟨k1,r1⟩:=Yal.1 r1;obtain⟨k2,r2⟩:=Yal.1 r2;have g1:RS[i]? = some (RS[i]'k1):=Ya k1;have g2:RN[i]? = some (RN[i]'k2):=Ya k2;simp -implicitDefEqProofs[l625_0,hi,hi',hws,n1,n2,g1,g2,r1,r2,c1,c2,c3,c4,w1,w2]
 ·clear hcut;have n1:=zd3 6;unfold Zhm;generalize Zb7 6=RS at *
  generalize Zb6 6=RN at *
  constructor<;>simp -implicitDefEqProofs[l625_0,n1]
theorem zns(hcut:∀l:List UInt8,l.length≤1000000→Zb T 184 [.s l,.s [124]]=some (.tup [.s (hdC 124 l),.s (tlC 124 l),.b (l.contains 124)])):Zb T 625 []=some (.b true):=by
 have L:=zqz (T:=T) hcut;have w:=znr (T:=T) hcut;have c1:=zur (T:=T) hcut;have c2:=znq (T:=T);clear hcut;have n1:=zd3 6;have n2:=ze8 6;have w1:=zfs 6;have w2:=zfr 6;unfold Zhm at L;simp only[Yai]at L;generalize Zb7 6=RS at *
 generalize Zb6 6=RN at *
 rw[zab Zfh.h625 rfl,b625];simp -implicitDefEqProofs[L,w,c1,c2,n1,n2,w1,w2]
theorem zhz:Zb T 625 []=some (.b true):=
 zns (T:=T) (fun l h=>by rw[p184,ziz l h];rfl)
end
end Go.Ab
end