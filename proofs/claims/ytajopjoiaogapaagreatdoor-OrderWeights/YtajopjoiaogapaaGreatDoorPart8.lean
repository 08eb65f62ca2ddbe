/-
  A calculus of values, boxes and code, and what functions of the program compute, proved in it.
  Conditions: none beyond those that the theorems state. (Part 8.)
-/
import Derived.Test.YtajopjoiaogapaaGreatDoorPart7

set_option linter.unusedSectionVars false
set_option linter.unusedVariables false
set_option linter.unusedSimpArgs false
set_option linter.unnecessarySimpa false

namespace Go.Ab
theorem zig{p q:Rat}:fz p=fz q↔p=q:=⟨fun h=>by have:=congrArg fv h;rwa [zbx,zbx]at this,fun h=>by rw[h]⟩
section
variable{T:Tbl}[Z4 T][Zai T][Z1 T][Zao T][Z2 T][Zar T][Zz T][Za9 T][Zfi T][Zbo T][Zdr T]
def Zid(s:Sm)(i:Nat):St:=⟨[(1,.ptr (.loc 1) 1 5 0 0),(3,.i .i64 s.b.length),(4,.i .i64 i)],[(.loc 1,bxS s)],3⟩
theorem zwo(s:Sm)(hl:s.b.length≤8)(ha:s.a.length=s.b.length) :
  Zj T 0 0 (.norm false [1,3]) l529_0 (Zid s 0)=if Za1 (s.a.drop 0) 0=true then some (.n,⟨[(1,.ptr (.loc 1) 1 5 0 0),(3,.i .i64 s.b.length)],[(.loc 1,bxS s)],3⟩) else some (.r,⟨[(2,.i .i64 2)],[],2⟩):=by
 refine zaq (Zid s) s.a.length (fun i=>if Za1 (s.a.drop i) i=true then some (.n,⟨[(1,.ptr (.loc 1) 1 5 0 0),(3,.i .i64 s.b.length)],[(.loc 1,bxS s)],3⟩) else some (.r,⟨[(2,.i .i64 2)],[],2⟩)) (fun i hi=>?_) ?_
 ·have hib:i<s.b.length:=by omega
  have hib':(i:Int)<s.b.length:=by omega
  have hia':(i:Int)<s.a.length:=by omega
  have hws:=zbv hi (by omega);have key:Za1 (s.a.drop i) i=(decide ((s.a[i]'hi).length=i)&&Za1 (s.a.drop (i+1)) (i+1)):=by rw[Yj hi,Za1]
  by_cases hr:(s.a[i]'hi).length=i
  ·left;refine⟨?_,by grind⟩;unfold Zid bxS;simp -implicitDefEqProofs[l529_0,hi,hib',hia',hws,hr]
  ·right;have hr':¬ ((s.a[i]'hi).length:Int)=i:=by omega
   rw[if_neg (by grind)];unfold Zid bxS;constructor<;>simp -implicitDefEqProofs[l529_0,hi,hib',hia',hr']
 ·have e:Za1 [] s.a.length=true:=rfl;simp only[Y5,e,if_true];unfold Zid bxS;have hx:¬ (s.a.length:Int)<s.b.length:=by omega
  have hx2:¬ s.a.length<s.b.length:=by omega
  constructor<;>simp -implicitDefEqProofs[l529_0,ha]
def Zie(s:Sm)(i:Nat):St:=⟨[(1,.ptr (.loc 1) 1 5 0 0),(3,.i .i64 s.b.length),(5,.i .i64 i)],[(.loc 1,bxS s)],3⟩
theorem zwp(s:Sm)(hl:s.b.length≤8)(ha:s.a.length=s.b.length)(hw:∀r∈s.a,r.length≤1000∧∀x∈r,fsz x≤10000) :
  Zj T 0 2 (.norm false [1,3]) l529_1 (Zie s 0)=if Zcm (s.a.drop 0)=true then some (.n,⟨[(1,.ptr (.loc 1) 1 5 0 0),(3,.i .i64 s.b.length)],[(.loc 1,bxS s)],3⟩) else some (.r,⟨[(2,.i .i64 3)],[],2⟩):=by
 refine zaq (Zie s) s.a.length (fun i=>if Zcm (s.a.drop i)=true then some (.n,⟨[(1,.ptr (.loc 1) 1 5 0 0),(3,.i .i64 s.b.length)],[(.loc 1,bxS s)],3⟩) else some (.r,⟨[(2,.i .i64 3)],[],2⟩)) (fun i hi=>?_) ?_
 ·have hib:i<s.b.length:=by omega
  have hib':(i:Int)<s.b.length:=by omega
  have hia':(i:Int)<s.a.length:=by omega
  have hws:=zbv hi (by omega);obtain⟨g1,g2⟩:=hw _ (Yr hi);have cb:=zft (T:=T) (s.a[i]'hi) g1 g2;have key:Zcm (s.a.drop i)=((s.a[i]'hi).all Za6&&Zcm (s.a.drop (i+1))):=by grind[Zcm,List.drop_eq_getElem_cons]
  by_cases hr:(s.a[i]'hi).all Za6=true
  ·left;rw[hr]at cb;refine⟨?_,by grind⟩;unfold Zie bxS;simp -implicitDefEqProofs[l529_1,hi,hib',hia',hws,cb]
  ·right;have hr':(s.a[i]'hi).all Za6=false:=(Yef _).mp hr;rw[hr']at cb;rw[if_neg (by grind)];unfold Zie bxS;constructor<;>simp -implicitDefEqProofs[l529_1,hi,hib',hia',cb]
 ·have e:Zcm []=true:=rfl;simp only[Y5,e,if_true];unfold Zie bxS;have hx:¬ (s.a.length:Int)<s.b.length:=by omega
  have hx2:¬ s.a.length<s.b.length:=by omega
  constructor<;>simp -implicitDefEqProofs[l529_1,ha]
def Zif(s:Sm)(i:Nat):St:=⟨[(1,.ptr (.loc 1) 1 5 0 0),(3,.i .i64 s.b.length),(6,.i .i64 i)],[(.loc 1,bxS s)],3⟩
theorem zwq(s:Sm)(hl:s.b.length≤8)(ha:s.a.length=s.b.length)(hc:s.c.length=s.b.length)(h1:∀r∈s.a,r.length≤8∧r.all Za6=true)(h2:s.c.all Za6=true) :
  Zj T 0 4 (.norm false [1]) l529_2 (Zif s 0)=if Zbu (s.a.drop 0) (s.c.drop 0)=true then some (.n,⟨[(1,.ptr (.loc 1) 1 5 0 0)],[(.loc 1,bxS s)],3⟩) else some (.r,⟨[(2,.i .i64 4)],[],2⟩):=by
 refine zaq (Zif s) s.a.length (fun i=>if Zbu (s.a.drop i) (s.c.drop i)=true then some (.n,⟨[(1,.ptr (.loc 1) 1 5 0 0)],[(.loc 1,bxS s)],3⟩) else some (.r,⟨[(2,.i .i64 4)],[],2⟩)) (fun i hi=>?_) ?_
 ·have hic:i<s.c.length:=by omega
  have hib':(i:Int)<s.b.length:=by omega
  have hia':(i:Int)<s.a.length:=by omega
  have hic':(i:Int)<s.c.length:=by omega
  have hws:=zbv hi (by omega);obtain⟨g1,g2⟩:=h1 _ (Yr hi);have g3:=Yf.1 h2 _ (Yr hic);have c1:=zeh (T:=T) (s.a[i]'hi) g1 g2;have z1:=zek g1 (fun x hx=>ze1 (Yf.1 g2 x hx));have c2:=zb6 (T:=T) (fz (sumF (s.a[i]'hi))) (s.c[i]'hic) (by rw[za6];omega);have hr3:=zjy g3;have hd:decide (fz (sumF (s.a[i]'hi))=s.c[i]'hic)=decide (sumF (s.a[i]'hi)=fv (s.c[i]'hic)):=by
   grind[zbx]
  rw[hd]at c2;have key:Zbu (s.a.drop i) (s.c.drop i)=(decide (sumF (s.a[i]'hi)=fv (s.c[i]'hic))&&Zbu (s.a.drop (i+1)) (s.c.drop (i+1))):=by
   grind[Zbu,List.drop_eq_getElem_cons,List.zip_cons_cons]
  generalize fz (sumF (s.a[i]'hi))=z at *
  by_cases he:sumF (s.a[i]'hi)=fv (s.c[i]'hic)
  ·left;refine⟨?_,by grind⟩;unfold Zif bxS;simp -implicitDefEqProofs[l529_2,hi,hib',hia',hws,c1,c2,he,hic,hic']
  ·right;rw[if_neg (by grind)];unfold Zif bxS;constructor<;>simp -implicitDefEqProofs[l529_2,hi,hib',hia',c1,c2,he,hic,hic']
 ·have e:Zbu [] (s.c.drop s.a.length)=true:=rfl;simp only[Y5,e,if_true];unfold Zif bxS;have hx:¬ (s.a.length:Int)<s.b.length:=by omega
  have hx2:¬ s.a.length<s.b.length:=by omega
  constructor<;>simp -implicitDefEqProofs[l529_2,ha]
theorem zaib(b c e:List Fz):Zcm [b,c,e]=(b.all Za6&&c.all Za6&&e.all Za6):=by
 grind[Zcm]
theorem zo6(s:Sm)(hs:SmS s):Za T 529 [esm s]=some (.i .i64 (Zb6 s)):=by
 have o1:=zgb (T:=T);have c1:=zo5 (T:=T) 2 0 s.nm (Yc hs.nm (by decide));have kb:=zft (T:=T) s.b hs.bl (fun x hx=>Yc (hs.b x hx) (by decide));have kc:=zft (T:=T) s.c hs.cl (fun x hx=>Yc (hs.c x hx) (by decide));have ke:=zft (T:=T) s.e hs.el (fun x hx=>Yc (hs.e x hx) (by decide));have ha:=fun r hr=>(show r.length≤1000∧∀x∈r,fsz x≤10000 from ⟨(hs.a r hr).1,fun x hx=>Yc ((hs.a r hr).2 x hx) (by decide)⟩);rw[zab Zdr.h529 rfl,b529];unfold Zb6;cases g1:Zaj 2 s.nm with
 | false=>
  rw[g1]at c1;obtain⟨nm,c,a,b,e⟩:=s;generalize fz 1=z1 at *
  dsimp only at *
  simp -implicitDefEqProofs[c1]
 | true=>
 rw[g1]at c1;by_cases p1:s.b.length<1
 ·have q2:s.b=[]:=Yb1.1 (by omega);have hsh:Zbt s=false:=by unfold Zbt;grind
  rw[hsh];obtain⟨nm,c,a,b,e⟩:=s;subst q2;simp -implicitDefEqProofs[c1]
 have m2:¬ (s.b.length:Int)<1:=by omega
 by_cases p2:8<s.b.length
 ·have m3:(8:Int)<s.b.length:=by omega
  have hsh:Zbt s=false:=by unfold Zbt;grind
  rw[hsh];simp -implicitDefEqProofs[c1,m2,m3]
 have p2':s.b.length≤8:=by omega
 have m3:¬ (8:Int)<s.b.length:=by omega
 by_cases p3:s.c.length=s.b.length
 rotate_left
 ·have q3:¬ (s.c.length:Int)=s.b.length:=by omega
  have hsh:Zbt s=false:=by unfold Zbt;grind
  rw[hsh];simp -implicitDefEqProofs[c1,m2,m3,q3]
 by_cases p4:s.a.length=s.b.length
 rotate_left
 ·have q4:¬ (s.a.length:Int)=s.b.length:=by omega
  have hsh:Zbt s=false:=by unfold Zbt;grind
  rw[hsh];simp -implicitDefEqProofs[c1,m2,m3,p3,q4]
 by_cases p5:s.e.length=s.b.length∨s.e.length=0
 rotate_left
 ·have q5:¬ (s.e.length:Int)=s.b.length:=by omega
  have q7:¬ s.e=[]:=fun h=>p5 (.inr (by grind));have hsh:Zbt s=false:=by
   grind[Zbt]
  rw[hsh];simp -implicitDefEqProofs[c1,m2,m3,p3,p4,q5,q7]
 -- the shapes are right as far as lengths go
 have hsh:Zbt s=Za1 s.a 0:=by
  grind[Zbt]
 have h0:=zwo (T:=T) s p2' p4;have h1:=zwp (T:=T) s p2' p4 ha;have h2:=fun g1 g2=>zwq (T:=T) s p2' p4 p3 g1 g2;rw[hsh];unfold Zid bxS at h0;unfold Zie bxS at h1;unfold Zif bxS at h2;rw[Yad]at h0 h1 h2;rw[Yad]at h2;simp only[Yw]at h0 h1 h2;have hm:=zaib s.b s.c s.e;have m6:¬ s.b=[]:=fun h=>by grind
 rcases p5 with p5 | p5
 ·have q6:¬ s.e=[]:=fun h=>by grind
  have q7:0<s.b.length:=by omega
  cases hq:Za1 s.a 0 with
  | false=>
   rw[hq]at h0;simp -implicitDefEqProofs[c1,m2,m3,p3,p4,p5,m6,h0]
  | true=>
  rw[hq]at h0;cases hna:Zcm s.a with
  | false=>
   rw[hna]at h1;simp -implicitDefEqProofs[c1,m2,m3,p3,p4,p5,m6,h0,h1]
  | true=>
  rw[hna]at h1;cases hnb:s.b.all Za6 with
  | false=>
   rw[hnb]at kb;rw[hnb]at hm;simp -implicitDefEqProofs[c1,m2,m3,p3,p4,p5,m6,h0,h1,kb,hm]
  | true=>
  rw[hnb]at kb;rw[hnb]at hm;cases hnc:s.c.all Za6 with
  | false=>
   rw[hnc]at kc;rw[hnc]at hm;simp -implicitDefEqProofs[c1,m2,m3,p3,p4,p5,m6,h0,h1,kb,kc,hm]
  | true=>
  rw[hnc]at kc;rw[hnc]at hm;cases hne:s.e.all Za6 with
  | false=>
   rw[hne]at ke;rw[hne]at hm;simp -implicitDefEqProofs[c1,m2,m3,p3,p4,p5,m6,h0,h1,kb,kc,ke,hm]
  | true=>
  rw[hne]at ke;rw[hne]at hm;have hna':=Yf.1 hna;have h2':=h2 (fun r hr=>⟨by have:=zde _ _ hq r hr;omega,hna' r hr⟩) hnc;have k6:=zeh (T:=T) s.b p2' hnb;have z6:=zek p2' (fun x hx=>ze1 (Yf.1 hnb x hx));have d6:=zb6 (T:=T) (fz (sumF s.b)) (fz 1) (by rw[za6];omega);have k7:=zeh (T:=T) s.e (by omega) hne;have z7:=zek (l:=s.e) (by omega) (fun x hx=>ze1 (Yf.1 hne x hx));have d7:=zb6 (T:=T) (fz (sumF s.e)) (fz 1) (by rw[za6];omega);have i7:decide (fz (sumF s.e)=fz 1)=decide (sumF s.e=1):=by rw[decide_eq_decide];exact zig
  rw[i7]at d7;have i6:decide (fz (sumF s.b)=fz 1)=decide (sumF s.b=1):=by rw[decide_eq_decide];exact zig
  rw[i6]at d6;cases hrw:Zbu s.a s.c with
  | false=>
   rw[hrw]at h2';simp -implicitDefEqProofs[c1,m2,m3,p3,p4,p5,m6,h0,h1,kb,kc,ke,hm,h2']
  | true=>
  rw[hrw]at h2';generalize fz (sumF s.b)=zb at *
  generalize fz (sumF s.e)=ze at *
  by_cases g6:sumF s.b=1
  ·by_cases g8:sumF s.e=1
   ·dsimp only at *
    simp -implicitDefEqProofs[c1,m2,m3,p3,p4,p5,q6,q7,m6,h0,h1,kb,kc,ke,hm,h2',o1,k6,d6,g6,k7,d7,g8]
   ·dsimp only at *
    simp -implicitDefEqProofs[c1,m2,m3,p3,p4,p5,q6,q7,m6,h0,h1,kb,kc,ke,hm,h2',o1,k6,d6,g6,k7,d7,g8]
  ·dsimp only at *
   simp -implicitDefEqProofs[c1,m2,m3,p3,p4,p5,m6,h0,h1,kb,kc,ke,hm,h2',o1,k6,d6,g6]
 ·have e0:s.e=[]:=Yb1.1 p5;rw[e0]at ke;rw[←e0]at ke;cases hq:Za1 s.a 0 with
  | false=>
   rw[hq]at h0;obtain⟨nm,c,a,b,e⟩:=s;subst e0;simp only[za8]at *
   simp -implicitDefEqProofs[c1,m2,m3,p3,p4,h0]
  | true=>
  rw[hq]at h0;cases hna:Zcm s.a with
  | false=>
   rw[hna]at h1;obtain⟨nm,c,a,b,e⟩:=s;subst e0;simp only[za8]at *
   simp -implicitDefEqProofs[c1,m2,m3,p3,p4,h0,h1]
  | true=>
  rw[hna]at h1;cases hnb:s.b.all Za6 with
  | false=>
   rw[hnb]at kb;rw[hnb]at hm;obtain⟨nm,c,a,b,e⟩:=s;subst e0;simp only[za8]at *
   simp -implicitDefEqProofs[c1,m2,m3,p3,p4,h0,h1,kb,hm]
  | true=>
  rw[hnb]at kb;rw[hnb]at hm;cases hnc:s.c.all Za6 with
  | false=>
   rw[hnc]at kc;rw[hnc]at hm;obtain⟨nm,c,a,b,e⟩:=s;subst e0;simp only[za8]at *
   simp -implicitDefEqProofs[c1,m2,m3,p3,p4,h0,h1,kb,kc,hm]
  | true=>
  rw[hnc]at kc;rw[hnc]at hm;cases hne:s.e.all Za6 with
  | false=>
   grind
  | true=>
  rw[e0]at ke hm;have hna':=Yf.1 hna;have h2':=h2 (fun r hr=>⟨by have:=zde _ _ hq r hr;omega,hna' r hr⟩) hnc;have k6:=zeh (T:=T) s.b p2' hnb;have z6:=zek p2' (fun x hx=>ze1 (Yf.1 hnb x hx));have d6:=zb6 (T:=T) (fz (sumF s.b)) (fz 1) (by rw[za6];omega);have i6:decide (fz (sumF s.b)=fz 1)=decide (sumF s.b=1):=by rw[decide_eq_decide];exact zig
  rw[i6]at d6;cases hrw:Zbu s.a s.c with
  | false=>
   rw[hrw]at h2';obtain⟨nm,c,a,b,e⟩:=s;subst e0;simp only[za8]at *
   simp -implicitDefEqProofs[c1,m2,m3,p3,p4,h0,h1,kb,kc,ke,hm,h2']
  | true=>
  rw[hrw]at h2';generalize fz (sumF s.b)=zb at *
  by_cases g6:sumF s.b=1
  ·obtain⟨nm,c,a,b,e⟩:=s;subst e0;simp only[za8]at *
   simp -implicitDefEqProofs[c1,m2,m3,p3,p4,h0,h1,kb,kc,ke,hm,h2',o1,k6,d6,g6]
  ·obtain⟨nm,c,a,b,e⟩:=s;subst e0;simp only[za8]at *
   simp -implicitDefEqProofs[c1,m2,m3,p3,p4,h0,h1,kb,kc,ke,hm,h2',o1,k6,d6,g6]
end
theorem zku(s:Sm)(w:List Fz)(h:wOk s w=false):Zd8 s w=0:=by
 unfold Zd8;rw[Zds];have:Zfr s w 1=false:=by
  unfold Zfr Zer;rw[h]
  rfl
 rw[this]
 rfl
theorem zqn{s:Sm}{many words:Nat}(h:Zd6 s many words=false):(∀r∈s.a,∀x∈r,fsz x≤words)∧(∀x∈s.b,fsz x≤words)∧∀x∈s.e,fsz x≤words:=by
 unfold Zd6 at h;simp only[Ydk,decide_eq_false_iff_not,List.any_eq_false]at h;obtain⟨⟨⟨⟨⟨h1,h2⟩,h3⟩,h4⟩,h5⟩,h6⟩:=h;exact⟨fun r hr=>(zbr (by simpa using h6 r hr)).2,(zbr h3).2,(zbr h5).2⟩
theorem zh3{x:Fz}(h:Za6 x=true):Zbb x=true:=by
 unfold Za6 at h;rw[Yn]at h;exact h.1
theorem z09{s:Sm}{many:Nat}(h4:many≤4)(hl:Zd6 s many 2=false)(hk:okS s=true):AOk s.a s.b.length∧ROk s.b s.b.length:=by
 obtain⟨H,_⟩:=zfv hk;obtain⟨w1,w2,w3⟩:=zqn hl;obtain⟨_,_,hb,_⟩:=zgq hl (by omega) (by decide);refine⟨⟨H.al,by omega,fun k r h=>?_⟩,⟨rfl,fun x hx=>⟨w2 x hx,zh3 (Yf.1 H.nb x hx)⟩⟩⟩;have hr:=Yi h;exact⟨by have:=zh2 _ _ k r H.sh h;omega,fun x hx=>⟨w1 r hr x hx,zh3 (Yf.1 (Yf.1 H.na r hr) x hx)⟩⟩
theorem z3e(a:List (List Fz))(t:List Nat)(m:Nat)(w:List Fz):wtQ a t m (nrm w)=wtQ a t m w:=by
 unfold wtQ;generalize fzs (row0 (wtJ a t m (t.length-1)))=N
 induction w generalizing N with
 | nil=>rfl
 | cons x w ih=>
  cases N with
  | nil=>rfl
  | cons y N=>
   show fv (fz (fv x))*fv y+Zb9 (nrm w) N=fv x*fv y+Zb9 w N;rw[zbx,ih]
theorem z3f{a:List (List Fz)}{t:List Nat}(ht:TrOk t){m:Nat}(ha:AOk a m){w:List Fz}(hw:ROk w m):sz (wtQ a t m w)≤900:=by
 have l1:=ht.l1;have hm4:=ha.m4;rw[←z4g ht ha hw.l];have hgs:∀j,j<m→sz (numT a t t.length 0 j)≤1+4*2^j*dcN t 0:=fun j hj=>zlf ht ha (by omega) (by omega) hj;have hD:dcN t 0≤8:=by
  unfold dcN;have h:=(ht.dj (t.length-1-0) (by omega)).1;cases he:(Zdc t (t.length-1-0)).1[0]? with
  | none=>simp
  | some y=>exact h y (Yi he)
 have hwl:=hw.l;have z:=ziw (r:=w) (g:=numT a t t.length 0) (D:=dcN t 0) (fun x hx=>(hw.x x hx).1) (fun j hj=>hgs j (by omega)) w.length (Ye _);rw[Yb (Ye _)]at z;have hp:2^w.length≤16:=Yc (Yk (by decide) (show w.length≤4 by omega)) (by decide);have:4*(2^w.length-1)*dcN t 0≤4*16*8:=Ybh (Yx _ (by omega)) hD;omega
theorem z3g{w:List Fz}{m:Nat}(h:w.length=m)(hx:∀x∈w,fsz x≤2):ROk (nrm w) m:=by
 refine⟨by unfold nrm;simpa using h,fun x hx'=>?_⟩;unfold nrm at hx';obtain⟨y,hy,rfl⟩:=Y6.1 hx';refine⟨by rw[za6];exact ze4 (hx y hy) (by decide),?_⟩;unfold Zbb;rw[zbx];simp
section
variable{T:Tbl}[Z0 T][Z4 T][Zai T][Z1 T][Zao T][Z2 T][Zar T][Zz T][Za9 T][Zfi T][Zbo T][Zgg T][Zcx T][Zdq T][Zfp T][Ziw T][Zia T][Zfc T][Zib T][Zdr T][Zq T][Zv T][Zy T][Zr T][Zn T][Zx T][Zbc T][Zf T][Zg T][Zw T][Zbn T][Zak T][Zan T][Zc5 T][Zas T][Zbv T][Zc3 T][Zb0 T][Za8 T][Zch T][Zdx T][Zdw T][Zam T][Zcs T][Zcz T][Zfj T][Zbr T][Z9 T][Zaz T][Zgs T][Zdd T][Zah T][Zag T][Zb3 T][Zci T][Zgf T][Zd3 T]
theorem zkv(s:Sm)(w:List Fz)(l:List Int)(hlw:∀x∈l,-9223372036854775808≤x∧x<9223372036854775808):Za T 638 [esm s,.sl (Zd w) .an,.sl (ints l) .an]=some (.b true):=by
 have wk:=zou (T:=T);have c1:Za T 515 [esm s,.i .i64 4,.i .i64 2]=some (.b (Zd6 s 4 2)):=zsg (T:=T) s 4 2 (by decide);have c2:Za T 286 [.sl (Zd w) .an,.i .i64 6,.i .i64 2]=some (.b (Zbi w 6 2)):=zcs (T:=T) w 6 2 (by decide);have hwl:=ze2 l;have hll:=zpi l;have hww:=zc8 w;cases hs:Zd6 s 4 2 with
 | true=>
  rw[hs]at c1;rw[zab Zd3.h638 rfl,b638];clear hs;obtain⟨nm,C,M,B,E⟩:=s;generalize ints l=I at *
  simp -implicitDefEqProofs[c1,wk,hwl]
 | false=>
 cases hw:Zbi w 6 2 with
 | true=>
  rw[hs]at c1;rw[hw]at c2;rw[zab Zd3.h638 rfl,b638];clear hs;obtain⟨nm,C,M,B,E⟩:=s;generalize ints l=I at *
  simp -implicitDefEqProofs[c1,c2,wk,hwl]
 | false=>
 rw[hs]at c1;rw[hw]at c2;by_cases h10:10<l.length
 ·have h10':(10:Int)<l.length:=by omega
  rw[zab Zd3.h638 rfl,b638];clear hs;obtain⟨nm,C,M,B,E⟩:=s;generalize ints l=I at *
  simp -implicitDefEqProofs[c1,c2,wk,hwl,hll,h10']
 have h10':¬ (10:Int)<l.length:=by omega
 obtain⟨S,_,hb4,ha4,_⟩:=zgq hs (by decide) (by decide);obtain⟨w1,w2,w3⟩:=zqn hs;obtain⟨hwn,hwx⟩:=zbr hw;have t1:=zzj (T:=T) s S;have t2:=zfj (T:=T) w (by omega);have SW:=z08 S (by omega) w1;have rw1:=zo6 (T:=T) s S;have ob:=zju (T:=T) s SW (fun x hx=>Yc (w2 x hx) (by decide)) (fun x hx=>Yc (w3 x hx) (by decide));have oo:=zk0 (T:=T) s SW s.b (fun x hx=>Yc (w2 x hx) (by decide));have rr:=zo7 (T:=T) l (by omega) hlw;have i0:=zee (T:=T);have nn:=zo3 (T:=T) w (by omega) (fun x hx=>Yc (hwx x hx) (by decide));have hnw:(nrm w).length=w.length:=by unfold nrm;simp
 -- the weight by the program,by the document
 have may:∃v:Rat,Za T 617 [esm s,.sl (Zd w) .an,.sl (ints l) .an]=some (.tup [efz (fz v),.b (okS s&&decide (w.length=s.b.length)&&Za5 l)]) ∧
   ((okS s&&decide (w.length=s.b.length)&&Za5 l)=true→Za T 641 [esm s,.sl (Zd (nrm w)) .an,.sl (ints l) .an]=some (efz (fz v))) ∧
   ((okS s&&decide (w.length=s.b.length)&&Za5 l)=false→v=0)∧sz v≤900:=by
  cases hm:(okS s&&decide (w.length=s.b.length)&&Za5 l) with
  | false=>exact⟨0,zfp (T:=T) s S w l (by omega) hlw hm,by simp,fun _=>rfl,by rw[zgk];omega⟩
  | true=>
   simp only[Yn,decide_eq_true_eq]at hm;obtain⟨⟨m1,m2⟩,m3⟩:=hm;obtain⟨t,ht,e,hc⟩:=znw m3;subst e;have htr:=zq6 hc;obtain⟨A1,A2⟩:=SW.a m1;obtain⟨B1,_⟩:=z09 (by decide) hs m1;have q1:=zgr (T:=T) s S w t htr m3 SW.b m1 m2 A1 A2 (fun x hx=>Yc (hwx x hx) (by decide));have R:=z3g m2 hwx;have q2:=zgv (T:=T) s t htr m3 s.b.length B1 (nrm w) R;have zz:=z3f htr B1 R;rw[z3e]at q2 zz;rw[zqs];exact⟨_,q1,fun _=>q2,by simp,zz⟩
 obtain⟨v,v1,v2,v3,v4⟩:=may;have hz:okS s=decide (Zb6 s=0):=rfl;have is1:=zy9 (T:=T) (fz v) (fz v) (by rw[za6];omega);have hr8:∀b:Bool,(b&&decide (w.length=s.b.length)&&Za5 l)=(b&&decide (w.length=s.b.length)&&(Zb5 l&&decide (l.length≤8))):=fun b=>by
  unfold Za5;rw[Bool.and_comm (decide (l.length≤8))]
 cases hk:okS s with
 | false=>
  have hw0:¬ Zb6 s=0:=by rw[hk]at hz;exact of_decide_eq_false hz.symm
  rw[hk]at v1 v2 v3;simp only[Yeq]at v1 v2 v3;have v0:=v3 trivial;subst v0;have e1:=zku s s.b (by unfold wOk;rw[hk];rfl);have e2:=zku s s.e (by unfold wOk;rw[hk];rfl);rw[e1,e2]at ob;rw[e1]at oo;rw[zab Zd3.h638 rfl,b638];clear hs S SW w1 w2 w3 hz v2 v3 v4 hr8 e1 e2 hk hwx;generalize Zb6 s=W at *
  obtain⟨nm,C,M,B,E⟩:=s;dsimp only at *
  generalize ints l=I at *
  simp -implicitDefEqProofs[c1,c2,wk,hwl,hll,h10',t1,t2,v1,ob,oo,rw1,rr,i0,is1,hw0]
 | true=>
  have hw0:Zb6 s=0:=by rw[hk]at hz;exact of_decide_eq_true hz.symm
  obtain⟨A,RB⟩:=z09 (by decide) hs hk;obtain⟨H,_⟩:=zfv hk;have fb:=zqx (T:=T) s s.b.length rfl hk A s.b RB;have fe:(s.e.length=0∧Zd8 s s.e=0)∨(0<s.e.length∧Za T 642 [esm s,.sl (Zd s.e) .an]=some (.i .i64 (Zd8 s s.e:Nat))):=by
   rcases H.el with h | h
   ·exact .inr ⟨by have:=H.b1;omega,zqx (T:=T) s s.b.length rfl hk A s.e ⟨h,fun x hx=>⟨w3 x hx,zh3 (Yf.1 H.ne x hx)⟩⟩⟩
   ·exact .inl ⟨h,zku s s.e (by unfold wOk;rw[h];have h1:=H.b1;have h2:¬ 0=s.b.length:=(by omega);simp[h2])⟩
  rw[hk]at v1 v2 v3;simp only[Yck]at v1 v2 v3;rw[hw0]at rw1;have h8:Za5 l=(decide (l.length≤8)&&Zb5 l):=rfl;rw[h8]at v1 v2 v3;rw[zab Zd3.h638 rfl,b638];clear hs S SW w1 w2 hz v4 hr8 hk hwx A RB H h8 hw0;generalize Zd8 s s.b=ob1 at *
  generalize Zd8 s s.e=oe1 at *
  generalize Zb5 l=R at *
  have hwb:((w.length:Int)=s.b.length)↔w.length=s.b.length:=by omega
  have hl8:((l.length:Int)≤8)↔l.length≤8:=by omega
  have he0:(0<(s.e.length:Int))↔0<s.e.length:=by omega
  obtain⟨nm,C,M,B,E⟩:=s;dsimp only at *
  clear hlw w3 oo;by_cases hA:w.length=B.length
  ·by_cases hB:l.length≤8
   ·cases R with
    | true=>
     have v5:=v2 (by simp[hA,hB]);simp only[hA,hB,decide_true,Yck]at v1;clear v2 v3;generalize ints l=I at *
     rcases fe with ⟨f1,f2⟩ | ⟨f1,f2⟩
     ·subst f2;have f1':E=[]:=Yab f1;subst f1';simp only[esm,za8]at *
      simp -implicitDefEqProofs[c1,c2,wk,hwl,hll,h10',t1,t2,v1,v5,ob,rw1,rr,i0,is1,nn,fb,hwb,hl8,he0,hA,hB]
     ·simp -implicitDefEqProofs[c1,c2,wk,hwl,hll,h10',t1,t2,v1,v5,ob,rw1,rr,i0,is1,nn,fb,f1,f2,hwb,hl8,he0,hA,hB]
    | false=>
     have v0:=v3 (by simp);subst v0;simp only[Yd2]at v1;clear v2 v3;generalize ints l=I at *
     rcases fe with ⟨f1,f2⟩ | ⟨f1,f2⟩
     ·subst f2;have f1':E=[]:=Yab f1;subst f1';simp only[esm,za8]at *
      simp -implicitDefEqProofs[c1,c2,wk,hwl,hll,h10',t1,t2,v1,ob,rw1,rr,i0,is1,fb,hwb,hl8,he0,hA,hB]
     ·simp -implicitDefEqProofs[c1,c2,wk,hwl,hll,h10',t1,t2,v1,ob,rw1,rr,i0,is1,fb,f1,f2,hwb,hl8,he0,hA,hB]
   ·have v0:=v3 (by simp[hB]);subst v0;simp only[hB,decide_false,Yeq,Yd2]at v1;clear v2 v3;generalize ints l=I at *
    rcases fe with ⟨f1,f2⟩ | ⟨f1,f2⟩
    ·subst f2;have f1':E=[]:=Yab f1;subst f1';simp only[esm,za8]at *
     cases R<;>simp -implicitDefEqProofs[c1,c2,wk,hwl,hll,h10',t1,t2,v1,ob,rw1,rr,i0,is1,fb,hwb,hl8,he0,hA,hB]
    ·cases R<;>simp -implicitDefEqProofs[c1,c2,wk,hwl,hll,h10',t1,t2,v1,ob,rw1,rr,i0,is1,fb,f1,f2,hwb,hl8,he0,hA,hB]
  ·have v0:=v3 (by simp[hA]);subst v0;simp only[hA,decide_false,Yeq]at v1;clear v2 v3;generalize ints l=I at *
   rcases fe with ⟨f1,f2⟩ | ⟨f1,f2⟩
   ·subst f2;have f1':E=[]:=Yab f1;subst f1';simp only[esm,za8]at *
    simp -implicitDefEqProofs[c1,c2,wk,hwl,hll,h10',t1,t2,v1,ob,rw1,rr,i0,is1,fb,hwb,hl8,he0,hA]
   ·simp -implicitDefEqProofs[c1,c2,wk,hwl,hll,h10',t1,t2,v1,ob,rw1,rr,i0,is1,fb,f1,f2,hwb,hl8,he0,hA]
end
end Go.Ab