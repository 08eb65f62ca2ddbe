/-
  A calculus of values, boxes and code, and what functions of the program compute, proved in it.
  Conditions: none beyond those that the theorems state. (Part 7.)
-/
import Derived.Test.YtajopjoiaogapaaGreatDoorPart6

set_option linter.unusedSectionVars false
set_option linter.unusedVariables false
set_option linter.unusedSimpArgs false
set_option linter.unnecessarySimpa false

namespace Go.Ab
theorem zw3(l:List Fz)(x:Fz):sumF (l++[x])=sumF l+fv x:=by simp[sumF]
theorem zim(l:List Fz){i:Nat}(h:i<l.length):sumF (l.take (i+1))=sumF (l.take i)+fv (l[i]'h):=by
 rw[Ya8 h,zw3]
theorem zin{l:List Fz}{B:Nat}(hw:∀x∈l,fsz x≤B)(hB:1≤B):∀i,i≤l.length→sz (sumF (l.take i))≤i*(B+1)+1
 | 0,_=>by
  grind[sumF,zgk]
 | i+1,hi=>by
  have ih:=zin hw hB i (by omega);rw[zim l hi];have h1:=zxt (sumF (l.take i)) (fv (l[i]'hi));have h3:=ze4 (hw _ (Yr hi)) hB
  grind
theorem ze1{x:Fz}(h:Za6 x=true):fsz x≤6:=by
 unfold Za6 at h;simp only[Yn,decide_eq_true_eq]at h;obtain⟨h1,h2⟩:=h;unfold Zbb at h1;have e:x=fz (fv x):=by grind
 rw[e]at h2 ⊢;have:=z4n (q:=fv x) (b:=190) h2;rw[za6];omega
section
variable{T:Tbl}[Z0 T][Zq T][Zv T][Zy T][Zr T][Zn T][Zf T][Zg T][Zw T][Zak T][Zan T][Zbv T][Zb0 T][Za8 T][Zch T][Zdx T][Zdw T][Z9 T]
def Zlr(l:List Fz)(i:Nat):St:=⟨[(2,.ptr (.loc 2) 1 3 0 0),(3,.ptr (.loc 3) 2 3 0 0),(7,.sl (Zd l) .an),(8,.i .i64 l.length),(9,.i .i64 i)],
 [(.loc 2,⟨1,.str,3,[Zd9]⟩),(.loc 3,⟨2,.str,3,[Zbg (fz (sumF (l.take i)))]⟩)],4⟩
theorem z0f(l:List Fz){B:Nat}(hw:∀x∈l,fsz x≤B)(hB:1≤B)(hS:l.length*(B+1)+1≤1000) :
  Zj T 0 0 (.norm false [2,3]) l562_0 (Zlr l 0)=some (.n,⟨[(2,.ptr (.loc 2) 1 3 0 0),(3,.ptr (.loc 3) 2 3 0 0)],[(.loc 2,⟨1,.str,3,[Zd9]⟩),(.loc 3,⟨2,.str,3,[Zbg (fz (sumF l))]⟩)],4⟩):=by
 refine za2 (Zlr l) l.length _ (fun i hi=>?_) ?_
 ·have hlen:l.length*1≤1000:=Yc (Yx _ (show 1≤B+1 by omega)) (by omega);have hBB:B+1≤1000:=Yc (Yb4 _ (show 0<l.length by omega)) (by omega);have hws:=zbv hi (by omega);have ha1:=hw _ (Yr hi);have s1:=zin hw hB i (by omega);have s2:i*(B+1)≤l.length*(B+1):=Yu _ (by omega);have c2:=zy4 (T:=T) (fz (sumF (l.take i))) (l[i]'hi) (by rw[za6];omega) (by omega);rw[zbx,←zim l hi]at c2;unfold Zlr;simp -implicitDefEqProofs[l562_0,hi,hws,c2]
 ·unfold Zlr;constructor<;>simp -implicitDefEqProofs[l562_0]
theorem zgh(l:List Fz){B:Nat}(hw:∀x∈l,fsz x≤B)(hB:1≤B)(hS:l.length*(B+1)+1≤1000) :
  Za T 562 [.sl (Zd l) .an]=some (efz (fz (sumF l))):=by
 have h0:=zc1 (T:=T);have h:=z0f (T:=T) l hw hB hS;unfold Zlr at h;have e0:sumF (l.take 0)=0:=rfl;rw[e0]at h;simp only[Yw]at h;rw[zab Z9.h562 rfl,b562];simp -implicitDefEqProofs[h0,h]
def Zhp(m:List (List Fz))(r:List Fz)(j i:Nat):St:=⟨[(7,.sl (Zs m) .an),(8,.i .i64 m.length),(9,.i .i64 j),(13,.sl (Zd r) .an),(14,.i .i64 r.length),(15,.i .i64 i)],[],2⟩
theorem zw4(m:List (List Fz))(r:List Fz)(j:Nat)(hl:r.length≤1000)(hw:∀x∈r,fsz x≤1000) :
  Zj T 0 2 (.norm false [7,8,9]) l560_0 (Zhp m r j 0)=if (r.drop 0).all Za6=true then some (.n,⟨[(7,.sl (Zs m) .an),(8,.i .i64 m.length),(9,.i .i64 j)],[],2⟩) else some (.r,⟨[(2,.b false)],[],2⟩):=by
 refine zaq (Zhp m r j) r.length (fun i=>if (r.drop i).all Za6=true then some (.n,⟨[(7,.sl (Zs m) .an),(8,.i .i64 m.length),(9,.i .i64 j)],[],2⟩) else some (.r,⟨[(2,.b false)],[],2⟩)) (fun i hi=>?_) ?_
 ·have hws:=zbv hi (by omega);have hx:=hw _ (Yr hi);have c1:=zr7 (T:=T) (r[i]'hi) (by omega);have c2:=zr8 (T:=T) (r[i]'hi) (by omega);have key:(r.drop i).all Za6=(Za6 (r[i]'hi)&&(r.drop (i+1)).all Za6):=by rw[Yj hi,Yb0]
  have hn:Za6 (r[i]'hi)=(Zbb (r[i]'hi)&&decide (Zdn (r[i]'hi)≤190)):=rfl;by_cases h1:Zbb (r[i]'hi)=true
  ·by_cases h2:Zdn (r[i]'hi)≤190
   ·left;refine⟨?_,by grind⟩;have h3:¬ (190:Int)<Zdn (r[i]'hi):=by omega
    unfold Zhp;simp -implicitDefEqProofs[l560_0,hi,hws,c1,c2,h1,h3]
   ·right;have h3:(190:Int)<Zdn (r[i]'hi):=by omega
    rw[if_neg (by grind)];unfold Zhp;constructor<;>simp -implicitDefEqProofs[l560_0,hi,c1,c2,h1,h3]
  ·right;have h1':Zbb (r[i]'hi)=false:=by grind
   rw[if_neg (by grind)];unfold Zhp;constructor<;>simp -implicitDefEqProofs[l560_0,hi,c1,h1']
 ·simp only[Y5,Ydx,if_true];unfold Zhp;constructor<;>simp -implicitDefEqProofs[l560_0]
def Zih(m:List (List Fz))(i:Nat):St:=⟨[(7,.sl (Zs m) .an),(8,.i .i64 m.length),(9,.i .i64 i)],[],2⟩
theorem zw5(m:List (List Fz))(hl:m.length≤1000)(hw:∀r∈m,r.length≤1000∧∀x∈r,fsz x≤1000) :
  Zj T 0 0 (.norm false []) l560_1 (Zih m 0)=if Zcm (m.drop 0)=true then some (.n,⟨[],[],2⟩) else some (.r,⟨[(2,.b false)],[],2⟩):=by
 refine zaq (Zih m) m.length (fun i=>if Zcm (m.drop i)=true then some (.n,⟨[],[],2⟩) else some (.r,⟨[(2,.b false)],[],2⟩)) (fun i hi=>?_) ?_
 ·have hws:=zbv hi (by omega);obtain⟨h1,h2⟩:=hw _ (Yr hi);have h:=zw4 (T:=T) m (m[i]'hi) i h1 h2;have key:Zcm (m.drop i)=((m[i]'hi).all Za6&&Zcm (m.drop (i+1))):=by grind[Zcm,List.drop_eq_getElem_cons]
  unfold Zhp at h;rw[Yad]at h;simp only[Yw]at h;by_cases hr:(m[i]'hi).all Za6=true
  ·left;rw[if_pos hr]at h;refine⟨?_,by grind⟩;unfold Zih;simp -implicitDefEqProofs[l560_1,hi,hws,h]
  ·right;rw[if_neg hr]at h;rw[if_neg (by grind)];unfold Zih;constructor<;>simp -implicitDefEqProofs[l560_1,hi,h]
 ·have e:Zcm []=true:=rfl;simp only[Y5,e,if_true];unfold Zih;constructor<;>simp -implicitDefEqProofs[l560_1]
theorem zes(m:List (List Fz))(hl:m.length≤1000)(hw:∀r∈m,r.length≤1000∧∀x∈r,fsz x≤1000):Za T 560 [.sl (Zs m) .an]=some (.b (Zcm m)):=by
 have h:=zw5 (T:=T) m hl hw;unfold Zih at h;rw[Yad]at h;simp only[Yw]at h;rw[zab Z9.h560 rfl,b560];cases hn:Zcm m with
 | true=>rw[hn]at h;simp at h;simp -implicitDefEqProofs[h]
 | false=>rw[hn]at h;simp at h;simp -implicitDefEqProofs[h]
def Zii(a:List (List Fz))(i:Nat):St:=⟨[(43,.sl (Zs a) .an),(44,.i .i64 a.length),(45,.i .i64 i)],[],2⟩
theorem zs1(a:List (List Fz))(hl:a.length≤1000) :
  Zj T 0 0 (.norm false []) l559_0 (Zii a 0)=if Za1 (a.drop 0) 0=true then some (.n,⟨[],[],2⟩) else some (.r,⟨[(2,.b false)],[],2⟩):=by
 refine zaq (Zii a) a.length (fun i=>if Za1 (a.drop i) i=true then some (.n,⟨[],[],2⟩) else some (.r,⟨[(2,.b false)],[],2⟩)) (fun i hi=>?_) ?_
 ·have hws:=zbv hi (by omega);have key:Za1 (a.drop i) i=(decide ((a[i]'hi).length=i)&&Za1 (a.drop (i+1)) (i+1)):=by rw[Yj hi,Za1]
  by_cases hr:(a[i]'hi).length=i
  ·left;refine⟨?_,by grind⟩;unfold Zii;simp -implicitDefEqProofs[l559_0,hi,hws,hr]
  ·right;have hr':¬ ((a[i]'hi).length:Int)=i:=by omega
   rw[if_neg (by grind)];unfold Zii;constructor<;>simp -implicitDefEqProofs[l559_0,hi,hr']
 ·have e:Za1 [] a.length=true:=rfl;simp only[Y5,e,if_true];unfold Zii;constructor<;>simp -implicitDefEqProofs[l559_0]
theorem znj(s:Sm)(hs:SmS s):Za T 559 [esm s]=some (.b (Zbt s)):=by
 have h:=zs1 (T:=T) s.a hs.al;unfold Zii at h;rw[Yad]at h;have l4:=hs.el;rw[zab Z9.h559 rfl,b559];unfold Zbt;obtain⟨nm,c,a,b,e⟩:=s;by_cases p1:b.length<1
 ·have q2:b=[]:=Yb1.1 (by omega);subst q2;simp -implicitDefEqProofs[]
 have p1':1≤b.length:=by omega
 have m2:¬ (b.length:Int)<1:=by omega
 by_cases p2:8<b.length
 ·have q2:¬ b.length≤8:=by omega
  have m3:(8:Int)<b.length:=by omega
  simp -implicitDefEqProofs[p1',q2,m2,m3]
 have p2':b.length≤8:=by omega
 have m3:¬ (8:Int)<b.length:=by omega
 by_cases p3:c.length=b.length
 rotate_left
 ·have q3:¬ (c.length:Int)=b.length:=by omega
  simp -implicitDefEqProofs[p1',p2',m2,m3,p3,q3]
 by_cases p4:a.length=b.length
 rotate_left
 ·have q4:¬ (a.length:Int)=b.length:=by omega
  simp -implicitDefEqProofs[p1',p2',m2,m3,p3,p4,q4]
 rw[p4]at h;by_cases p5:e.length=b.length
 ·cases hsh:Za1 a 0<;>rw[hsh]at h<;>simp at h<;>simp -implicitDefEqProofs[p1',p2',m2,m3,p3,p4,p5,h]
 have q5:¬ (e.length:Int)=b.length:=by omega
 by_cases p6:e.length=0
 ·have e0:e=[]:=Yb1.1 p6;have q7:¬ (0:Int)=b.length:=by omega
  have q8:¬ 0=b.length:=by omega
  subst e0;cases hsh:Za1 a 0<;>rw[hsh]at h<;>simp at h<;>simp -implicitDefEqProofs[p1',p2',m2,m3,p3,p4,q7,q8,h]
 ·have q7:¬ e=[]:=fun h=>p6 (by grind);simp -implicitDefEqProofs[p1',p2',m2,m3,p3,p4,p5,q5,p6]
def bxS(s:Sm):Box:=⟨1,.str,5,[[.s s.nm,.sl (Zd s.c) .an,.sl (Zs s.a) .an,.sl (Zd s.b) .an,.sl (Zd s.e) .an]]⟩
def Zkk(s:Sm)(i:Nat):St:=⟨[(1,.ptr (.loc 1) 1 5 0 0),(6,.sl (Zs s.a) .an),(7,.i .i64 s.a.length),(8,.i .i64 i)],[(.loc 1,bxS s)],3⟩
theorem zw6(s:Sm)(hl:s.a.length≤8)(hc:s.c.length=s.a.length)(h1:∀r∈s.a,r.length≤8∧∀x∈r,fsz x≤6)(h2:∀x∈s.c,fsz x≤6) :
  Zj T 0 0 (.norm false []) l561_0 (Zkk s 0)=if Zbu (s.a.drop 0) (s.c.drop 0)=true then some (.n,⟨[],[],2⟩) else some (.r,⟨[(2,.b false)],[],2⟩):=by
 refine zaq (Zkk s) s.a.length (fun i=>if Zbu (s.a.drop i) (s.c.drop i)=true then some (.n,⟨[],[],2⟩) else some (.r,⟨[(2,.b false)],[],2⟩)) (fun i hi=>?_) ?_
 ·have hic:i<s.c.length:=by omega
  have hws:=zbv hi (by omega);obtain⟨g1,g2⟩:=h1 _ (Yr hi);have g3:=h2 _ (Yr hic);have c1:=zgh (T:=T) (s.a[i]'hi) g2 (by decide) (by omega);have z1:=zin g2 (by decide) (s.a[i]'hi).length (Ye _);rw[Yb (Ye _)]at z1;have c2:=zhz (T:=T) (fz (sumF (s.a[i]'hi))) (s.c[i]'hic) (by rw[za6];omega) (by omega);rw[zbx]at c2;have key:Zbu (s.a.drop i) (s.c.drop i)=(decide (sumF (s.a[i]'hi)=fv (s.c[i]'hic))&&Zbu (s.a.drop (i+1)) (s.c.drop (i+1))):=by
   grind[Zbu,List.drop_eq_getElem_cons,List.zip_cons_cons]
  have hic':(i:Int)<s.c.length:=by omega
  generalize fz (sumF (s.a[i]'hi))=z at *
  by_cases he:sumF (s.a[i]'hi)=fv (s.c[i]'hic)
  ·left;refine⟨?_,by grind⟩;unfold Zkk bxS;simp -implicitDefEqProofs[l561_0,hi,hws,c1,c2,he,hic,hic']
  ·right;rw[if_neg (by grind)];unfold Zkk bxS;constructor<;>simp -implicitDefEqProofs[l561_0,hi,c1,c2,he,hic,hic']
 ·have e:Zbu [] (s.c.drop s.a.length)=true:=rfl;simp only[Y5,e,if_true];unfold Zkk bxS;constructor<;>simp -implicitDefEqProofs[l561_0]
theorem zpe(s:Sm)(hl:s.a.length≤8)(hc:s.c.length=s.a.length)(h1:∀r∈s.a,r.length≤8∧∀x∈r,fsz x≤6)(h2:∀x∈s.c,fsz x≤6):Za T 561 [esm s]=some (.b (Zbu s.a s.c)):=by
 have h:=zw6 (T:=T) s hl hc h1 h2;unfold Zkk bxS at h;rw[Yad,Yad]at h;rw[zab Z9.h561 rfl,b561];obtain⟨nm,c,a,b,e⟩:=s;cases hr:Zbu a c<;>rw[hr]at h<;>simp at h<;>simp -implicitDefEqProofs[h]
theorem zde:∀(a:List (List Fz)) (i:Nat),Za1 a i=true→∀r∈a,r.length≤i+a.length
 | [],_,_,r,hr=>by grind
 | x::a,i,h,r,hr=>by
  simp only[Za1,Yn,decide_eq_true_eq]at h;rcases Y2.1 hr with rfl | hr
  ·omega
  ·have:=zde a (i+1) h.2 r hr
   grind
theorem zj4{s:Sm}(h:Zbt s=true):1≤s.b.length∧s.b.length≤8∧s.c.length=s.b.length∧s.a.length=s.b.length∧(s.e.length=s.b.length∨s.e.length=0)∧Za1 s.a 0=true:=by
 grind[Zbt]
theorem zk8{m:List (List Fz)}(h:Zcm m=true):∀r∈m,∀x∈r,fsz x≤6:=by
 grind[Zcm,ze1]
theorem zek{l:List Fz}(hl:l.length≤8)(hw:∀x∈l,fsz x≤6):sz (sumF l)≤57:=by
 have:=zin hw (by decide) l.length (Ye _)
 grind
end
section
variable{T:Tbl}[Z0 T][Zq T][Zv T][Zy T][Zr T][Zn T][Zf T][Zg T][Zw T][Zak T][Zan T][Zbv T][Zb0 T][Za8 T][Zch T][Zdx T][Zdw T][Zam T][Zbr T][Z9 T]
theorem zgw(s:Sm)(hs:SmS s):Za T 551 [esm s]=some (.i .i64 (Zb6 s)):=by
 have o1:=zks (T:=T);have c1:=zmv (T:=T) 2 0 s.nm (Yc hs.nm (by decide));have c2:=znj (T:=T) s hs;have c3:=zes (T:=T) s.a hs.al (fun r hr=>⟨(hs.a r hr).1,fun x hx=>Yc ((hs.a r hr).2 x hx) (by decide)⟩);have c4:=zes (T:=T) [s.b,s.c,s.e] (by simp) (fun r hr=>by
  simp only[Y2,Ydj,or_false]at hr;rcases hr with rfl | rfl | rfl
  ·exact⟨hs.bl,fun x hx=>Yc (hs.b x hx) (by decide)⟩
  ·exact⟨hs.cl,fun x hx=>Yc (hs.c x hx) (by decide)⟩
  ·exact⟨hs.el,fun x hx=>Yc (hs.e x hx) (by decide)⟩)
 replace c4:Za T 560 [.sl [[.sl (Zd s.b) .an],[.sl (Zd s.c) .an],[.sl (Zd s.e) .an]] .an]=some (.b (Zcm [s.b,s.c,s.e])):=c4;have k5:=zpe (T:=T) s;have k6:=fun(hl:s.b.length≤8) (h:∀x∈s.b,fsz x≤6)=>zgh (T:=T) s.b h (by decide) (by omega);have k7:=fun(hl:s.e.length≤8) (h:∀x∈s.e,fsz x≤6)=>zgh (T:=T) s.e h (by decide) (by omega);rw[zab Z9.h551 rfl,b551];unfold Zb6;cases g1:Zaj 2 s.nm with
 | false=>
  rw[g1]at c1;obtain⟨nm,c,a,b,e⟩:=s;generalize fz 1=z1 at *
  dsimp only at *
  simp -implicitDefEqProofs[o1,c1]
 | true=>
 rw[g1]at c1;cases g2:Zbt s with
 | false=>
  rw[g2]at c2;obtain⟨nm,c,a,b,e⟩:=s;generalize fz 1=z1 at *
  dsimp only at *
  simp -implicitDefEqProofs[o1,c1,c2]
 | true=>
 rw[g2]at c2;obtain⟨s1,s2,s3,s4,s5,s6⟩:=zj4 g2;cases g3:Zcm s.a with
 | false=>
  rw[g3]at c3;obtain⟨nm,c,a,b,e⟩:=s;simp -implicitDefEqProofs[o1,c1,c2,c3]
 | true=>
 rw[g3]at c3;cases g4:Zcm [s.b,s.c,s.e]with
 | false=>
  rw[g4]at c4;obtain⟨nm,c,a,b,e⟩:=s;simp -implicitDefEqProofs[o1,c1,c2,c3,c4]
 | true=>
 rw[g4]at c4;have n1:=zk8 g3;have n2:=zk8 g4;have nb:=n2 s.b (by simp);have nc:=n2 s.c (by simp);have ne:=n2 s.e (by simp);have c5:=k5 (by omega) (by omega) (fun r hr=>⟨by have:=zde _ _ s6 r hr;omega,n1 r hr⟩) nc;have c6:=k6 (by omega) nb;have c7:=k7 (by omega) ne;have z6:=zek (l:=s.b) (by omega) nb;have z7:=zek (l:=s.e) (by omega) ne;have d6:=zhz (T:=T) (fz (sumF s.b)) (fz 1) (by rw[za6];omega) (by rw[za6,znu];omega);have d7:=zhz (T:=T) (fz (sumF s.e)) (fz 1) (by rw[za6];omega) (by rw[za6,znu];omega);rw[zbx,zbx]at d6 d7;cases g5:Zbu s.a s.c with
 | false=>
  rw[g5]at c5;obtain⟨nm,c,a,b,e⟩:=s;simp -implicitDefEqProofs[o1,c1,c2,c3,c4,c5]
 | true=>
 rw[g5]at c5;obtain⟨nm,c,a,b,e⟩:=s;generalize fz (sumF b)=zb at *
 generalize fz (sumF e)=ze at *
 by_cases g6:sumF b=1
 ·by_cases g7:e=[]
  ·subst g7;replace c2:Za T 559 [.agg [.s nm,.sl (Zd c) .an,.sl (Zs a) .an,.sl (Zd b) .an,.sl [] .an]]=_:=c2;replace c4:Za T 560 [.sl [[.sl (Zd b) .an],[.sl (Zd c) .an],[.sl [] .an]] .an]=_:=c4;replace c5:Za T 561 [.agg [.s nm,.sl (Zd c) .an,.sl (Zs a) .an,.sl (Zd b) .an,.sl [] .an]]=_:=c5;simp -implicitDefEqProofs[o1,c1,c2,c3,c4,c5,c6,d6,g6]
  ·have l7:0<e.length:=Ybp.2 g7;by_cases g8:sumF e=1
   ·simp -implicitDefEqProofs[o1,c1,c2,c3,c4,c5,c6,d6,g6,c7,d7,g7,g8,l7]
   ·simp -implicitDefEqProofs[o1,c1,c2,c3,c4,c5,c6,d6,g6,c7,d7,g7,g8,l7]
 ·simp -implicitDefEqProofs[o1,c1,c2,c3,c4,c5,c6,d6,g6]
theorem zgx(s:Sm)(hs:SmS s):Za T 536 [esm s]=some (.b (okS s)):=by
 have h:=zgw (T:=T) s hs;rw[zab Z9.h536 rfl,b536];unfold okS;generalize Zb6 s=w at *
 by_cases hw:w=0
 ·subst hw;simp -implicitDefEqProofs[h]
 ·simp -implicitDefEqProofs[h,hw]
end
structure PbS (q:Pb):Prop where
 t:TpS q.t
 s:SmS q.s
 p:∀x∈q.p,fsz x≤1000
 pl:q.p.length≤1000
def Zpk(p:Pb)(t:Fz)(y:List Fz):List Rat×Nat×Nat:=Zm9 (Zpd p.bits) p.t ⟨fv t,y.map fv,p.p.map fv⟩
def bxR(g:Nat)(r:Rd):Box:=⟨g,.str,3,[[.s r.rest,.i .i64 r.at_,.b r.over]]⟩
theorem zw0(c:UInt8):∀l:List UInt8,decide (0≤Lib.indexByte l c)=l.contains c:=by
 intro l;have h:=Lib.indexByte;rcases zc3 c l with ⟨h1,h2,_⟩ | ⟨m,h1,h2,h3⟩
 ·rw[h2];have:c∉l:=fun hc=>by have:=List.count_pos_iff.2 hc;omega
  simp[this]
 ·rw[h2];have:c∈l:=by
   have hc:l.count c≠0:=by
    intro h0;rcases zc3 c l with ⟨_,k,_⟩ | ⟨k,_,_,h4⟩
    ·rw[k]at h2;omega
    ·have:=zb7 c l;rw[h3,Ym,zb7,h0]at this;omega
   exact List.count_pos_iff.1 (by omega)
  simp[this]
section
variable{T:Tbl}[Zx T][Zam T][Zbr T][Zc5 T][Zas T][Zaz T]
theorem zsz(l:List UInt8)(c:UInt8)(hl:l.length≤1000000):Za T 64 [.s l,.s [c,32]]=some (.tup [.s (if l.take 2=[c,32] then l.drop 2 else l),.b (decide (l.take 2=[c,32]))]):=by
 have h1:Za T 123 [.s l,.s [c,32]]=some (.b (decide (l.take 2=[c,32]))):=by
  rw[zab Zx.h123 rfl,b123]
  match l with
  | []=>simp -implicitDefEqProofs
  | [a]=>simp -implicitDefEqProofs
  | a::b::r=>
   have h2:(2:Int)≤(r.length:Int)+1+1:=by omega
   have h3:2≤r.length+1+1:=by omega
   by_cases ha:a=c
   ·by_cases hb:b=32
    ·simp -implicitDefEqProofs[h2,h3,ha,hb]
    ·simp -implicitDefEqProofs[h2,h3,ha,hb]
   ·simp -implicitDefEqProofs[h2,h3,ha]
 have h3:Za T 98 [.s l,.s [c,32]]=some (.tup [.s (if l.take 2=[c,32] then l.drop 2 else l),.b (decide (l.take 2=[c,32]))]):=by
  rw[zab Zx.h98 rfl,b98];by_cases h:l.take 2=[c,32]
  ·have hlen:2≤l.length:=by
    have:=congrArg List.length h;rw[Yaa]at this;simp at this;omega
   have hlen':(2:Int)≤l.length:=by omega
   rw[decide_eq_true h]at h1;rw[if_pos h,decide_eq_true h];clear h;simp -implicitDefEqProofs[h1,hlen,hlen']
  ·rw[decide_eq_false h]at h1;rw[if_neg h,decide_eq_false h];clear h;simp -implicitDefEqProofs[h1]
 rw[zab Zx.h64 rfl,b64];generalize decide (l.take 2=[c,32])=B at *
 generalize (if l.take 2=[c,32] then l.drop 2 else l)=M at *
 simp -implicitDefEqProofs[h3]
theorem zpa(l:List UInt8)(c:UInt8):Za T 618 [.s l,.s [c]]=some (.b (l.contains c)):=by
 have h:=znk (T:=T) l c;have e:=zw0 c l;rw[zab Zaz.h618 rfl,b618,←e];generalize Lib.indexByte l c=n at *
 simp -implicitDefEqProofs[h]
theorem zgf(r:Rd)(hr:r.rest.length≤1000000)(ha:r.at_≤1000000) :
  Zbz T 614 [.ptr (.bor 0) 0 3 0 0] [(.bor 0,bxR 0 r)]=some (.tup [.s (Zm r),.i .i64 r.at_,.b (!r.over)],[(.bor 0,bxR 0 (Zac r))]):=by
 have c:=zvk (T:=T) r.rest hr;unfold bxR Zm Zac;obtain⟨l,a,o⟩:=r;dsimp only at *
 have e1:l.takeWhile (· != 10)=hdC 10 l:=rfl;have e2:(l.dropWhile (· != 10)).drop 1=tlC 10 l:=rfl;have hle:(hdC 10 l).length≤l.length:=(Ya5 _).length_le;rw[e1,e2]at c;rw[za9 Zaz.h614 rfl,b614];cases o with
 | true=>simp -implicitDefEqProofs[]
 | false=>
  generalize hdC 10 l=H at *
  generalize tlC 10 l=Tl at *
  have w1:IntKind.wrap .i64 ((a:Int)+H.length)=((a+H.length:Nat):Int):=by rw[zac _ (by omega)];omega
  have w2:IntKind.wrap .i64 ((a:Int)+H.length+1)=(a:Int)+H.length+1:=zac _ (by omega);cases hc:l.contains 10 with
  | true=>
   rw[hc]at c;simp -implicitDefEqProofs[c,w1,w2]
  | false=>
   rw[hc]at c;simp -implicitDefEqProofs[c,w1,w2]
theorem z4q(r:Rd)(t:List UInt8)(n:Nat)(hn:n≤t.length)(ht:t.length≤1000000) :
  Zbz T 619 [.ptr (.bor 0) 0 3 0 0,.s t,.i .i64 n] [(.bor 0,bxR 0 r)]=some (.tup [],[(.bor 0,bxR 0 ⟨t.drop n,n,false⟩)]):=by
 unfold bxR;obtain⟨l,a,o⟩:=r;dsimp only at *
 have hn':(n:Int)≤t.length:=by omega
 rw[za9 Zaz.h619 rfl,b619];simp -implicitDefEqProofs[hn,hn']
theorem zij(k a b:Int)(h1:-1000000≤a∧a≤1000000)(h2:-2000000≤b∧b≤2000000):Za T 621 [flt k a,.i .i64 b]=some (flt (shF (k,a) b).1 (shF (k,a) b).2):=by
 have w:IntKind.wrap .i64 (a+b)=a+b:=zac _ (by omega);unfold shF;rw[zab Zaz.h621 rfl,b621];by_cases hk:k=0
 ·by_cases ha:a=0
  ·subst hk ha;simp -implicitDefEqProofs[]
  ·simp -implicitDefEqProofs[hk,ha,w]
 ·simp -implicitDefEqProofs[hk,w]
end
theorem zgg(c:UInt8):∀l:List UInt8,((Z5 c l).map fun w=>w.length+1).sum=l.length+1
 | []=>rfl
 | b::l=>by
  have ih:=zgg c l;by_cases h:b=c
  ·subst h;simp[Z5,ih];omega
  ·cases hs:Z5 c l with
   | nil=>rw[hs]at ih;simp at ih
   | cons p r=>
    rw[hs]at ih;simp only[Yy,Ycw]at ih;simp[Z5,h,hs];omega
theorem zik:∀(ws:List (List UInt8)) (k:Nat) (acc:List Rat),((Zbh ws k acc).2.1=0∧(Zbh ws k acc).2.2=0) ∨
  (((Zbh ws k acc).2.1=1∨(Zbh ws k acc).2.1=2)∧0≤(Zbh ws k acc).2.2∧(Zbh ws k acc).2.2≤k+((ws.map fun w=>w.length+1).sum:Nat)+62)
 | [],_,_=>.inl ⟨rfl,rfl⟩
 | w::ws,k,acc=>by
  unfold Zbh;by_cases h1:(Zat w).2.1=0
  ·rw[if_pos h1];rcases zik ws (k+w.length+1) (acc++[(Zat w).1]) with h | ⟨h2,h3,h4⟩
   ·exact .inl h
   ·refine .inr ⟨h2,h3,?_⟩;simp only[Yy,Ycw];omega
  ·rw[if_neg h1];rcases zga w with h | ⟨h2,h3,h4⟩
   ·exact absurd h.1 h1
   ·refine .inr ⟨h2,?_,?_⟩
    ·show 0≤(Zat w).2.2+(k:Int);omega
    ·show (Zat w).2.2+(k:Int)≤_;simp only[Yy,Ycw];omega
theorem zj3(s:List UInt8):((Zc6 s).2.1=0∧(Zc6 s).2.2=0)∨(((Zc6 s).2.1=1∨(Zc6 s).2.1=2)∧0≤(Zc6 s).2.2∧(Zc6 s).2.2≤s.length+63):=by
 unfold Zc6;by_cases h:s=[]
 ·rw[if_pos h];exact .inl ⟨rfl,rfl⟩
 ·rw[if_neg h];rcases zik (Z5 44 s) 0 []with h | ⟨h2,h3,h4⟩
  ·exact .inl h
  ·refine .inr ⟨h2,h3,?_⟩;rw[zgg]at h4;omega
theorem z0c{f:Int×Int}(h:(f.1=0∧f.2=0)∨((f.1=1∨f.1=2)∧0≤f.2)):f=(0,0)↔f.1=0:=by
 obtain⟨a,b⟩:=f;simp only[Prod.mk.injEq];omega
section
variable{T:Tbl}[Z0 T][Zq T][Zv T][Zy T][Zr T][Zn T][Zx T][Zbc T][Zf T][Zg T][Zw T][Zbn T][Zc5 T][Zas T][Zbv T][Zc3 T][Zam T][Zcs T][Zcz T][Zbr T][Zaz T]
theorem zni(hcut:∀l:List UInt8,l.length≤1000000→Za T 184 [.s l,.s [124]]=some (.tup [.s (hdC 124 l),.s (tlC 124 l),.b (l.contains 124)]))
  (l:List UInt8) (n:Nat) (hl:l.length≤100000) (hn:n≤500000) :
  Za T 620 [.s l,.i .i64 n]=some (.tup [efz (fz (Zct l n).1),.sl (Zd (fzs (Zct l n).2.1)) .an,flt (Zct l n).2.2.1 (Zct l n).2.2.2]):=by
 have c:=hcut l (by omega);have h1:(hdC 124 l).length≤l.length:=(Ya5 _).length_le;have h2:(tlC 124 l).length≤l.length:=by
  unfold tlC;rw[Yak];have:=(Yeg (fun x:UInt8=>x != 124) (l:=l)).length_le;omega
 have c1:=zmr (T:=T) (hdC 124 l) (by omega);have c2:=zql (T:=T) (tlC 124 l) (by omega);have f1:=zga (hdC 124 l);have f2:=zj3 (tlC 124 l);have w1:IntKind.wrap .i64 ((n:Int)+(hdC 124 l).length)=(n:Int)+(hdC 124 l).length:=zac _ (by omega);have w2:IntKind.wrap .i64 ((n:Int)+(hdC 124 l).length+1)=(n:Int)+(hdC 124 l).length+1:=zac _ (by omega);have s1:=zij (T:=T) (Zat (hdC 124 l)).2.1 (Zat (hdC 124 l)).2.2 n (by omega) (by omega);have s2:=zij (T:=T) (Zc6 (tlC 124 l)).2.1 (Zc6 (tlC 124 l)).2.2 ((n:Int)+(hdC 124 l).length+1) (by omega) (by omega);have z1:=z0c (f:=(Zat (hdC 124 l)).2) (by omega);unfold Zct;rw[zab Zaz.h620 rfl,b620];generalize hF:Zat (hdC 124 l)=F at *
 generalize Zc6 (tlC 124 l)=R at *
 obtain⟨q,k,a⟩:=F;obtain⟨L,k2,a2⟩:=R;dsimp only at *
 by_cases hk:k=0
 ·have ha:a=0:=by omega
  subst hk ha;rw[if_neg (by simp)];generalize shF (k2,a2) ((n:Int)+(hdC 124 l).length+1)=S at *
  generalize fz q=Z at *
  generalize fzs L=M at *
  generalize hdC 124 l=H at *
  generalize tlC 124 l=K at *
  obtain⟨g1,g2⟩:=S;obtain⟨y1,y2,y3⟩:=Z;dsimp only at *
  simp -implicitDefEqProofs[c,c1,c2,w1,w2,s2,z2r]
 ·rw[if_pos (fun h=>hk (congrArg Prod.fst h))];generalize shF (k,a) (n:Int)=S at *
  generalize fz q=Z at *
  generalize hdC 124 l=H at *
  generalize tlC 124 l=K at *
  have e0:fzs []=[]:=rfl;obtain⟨g1,g2⟩:=S;obtain⟨y1,y2,y3⟩:=Z;dsimp only at *
  rw[e0];simp -implicitDefEqProofs[c,c1,s1,hk]
theorem zil(r:Rd)(c:UInt8)(hr:r.rest.length≤100000)(ha:r.at_≤500000) :
  Zbz T 616 [.ptr (.bor 0) 0 3 0 0,.s [c]] [(.bor 0,bxR 0 r)]=some (.tup [.sl (Zd (fzs (Zex c r).1)) .an,flt (Zex c r).2.1 (Zex c r).2.2],[(.bor 0,bxR 0 (Zac r))]):=by
 have c1:=zgf (T:=T) r (by omega) (by omega);have hlen:(Zm r).length≤r.rest.length:=by
  unfold Zm;split
  ·simp
  ·exact(Ya5 _).length_le
 have c2:=zsz (T:=T) (Zm r) c (by omega);have c3:=zql (T:=T) ((Zm r).drop 2) (by rw[Yak];omega);have f2:=zj3 ((Zm r).drop 2);rw[Yak]at f2;have w1:IntKind.wrap .i64 ((r.at_:Int)+1)=(r.at_:Int)+1:=zac _ (by omega);have w2:IntKind.wrap .i64 ((r.at_:Int)+1+1)=(r.at_:Int)+2:=by rw[zac _ (by omega)];omega
 have s2:=zij (T:=T) (Zc6 ((Zm r).drop 2)).2.1 (Zc6 ((Zm r).drop 2)).2.2 ((r.at_:Int)+2) (by omega) (by omega);unfold Zex;unfold bxR at *
 generalize Zac r=r' at *
 rw[za9 Zaz.h616 rfl,b616];by_cases h:(Zm r).take 2=[c,32]
 ·rw[if_pos h,decide_eq_true h]at c2;rw[if_pos h];clear f2 h;generalize (Zm r).drop 2=D at *
  generalize Zm r=L at *
  generalize Zc6 D=R at *
  obtain⟨M,k2,a2⟩:=R;dsimp only at *
  generalize shF (k2,a2) ((r.at_:Int)+2)=S at *
  obtain⟨g1,g2⟩:=S;generalize fzs M=N at *
  obtain⟨rest,a,o⟩:=r;obtain⟨rest',a',o'⟩:=r';dsimp only at *
  simp -implicitDefEqProofs[c1,c2,c3,w1,w2,s2]
 ·rw[if_neg h,decide_eq_false h]at c2;rw[if_neg h];have e0:fzs []=[]:=rfl;clear f2 h c3 s2;generalize Zm r=L at *
  obtain⟨rest,a,o⟩:=r;obtain⟨rest',a',o'⟩:=r';dsimp only at *
  rw[e0];simp -implicitDefEqProofs[c1,c2]
end
structure Sg where
 nm:List UInt8
 c:List Fz
 a:List (List Fz)
def hpG(r:Rd)(s:Sg):Heap:=[(.bor 0,bxR 0 r),(.bor 1,⟨1,.str,5,[[.s s.nm,.bs (.fld (.bor 1) 1) 5 3 0 s.c.length,.bs (.fld (.bor 1) 2) 6 1 0 s.a.length,.sl [] .nl,.sl [] .nl]]⟩),
 (.fld (.bor 1) 1,⟨5,.own,3,Zd s.c⟩),(.fld (.bor 1) 2,⟨6,.own,1,Zs s.a⟩)]
def stG(t:List UInt8)(r:Rd)(s:Sg):St:=⟨[(0,.ptr (.bor 0) 0 3 0 0),(1,.s t),(2,.ptr (.bor 1) 1 5 0 0),(6,.ptr (.loc 6) 7 4 0 0)],
 hpG r s++[(.loc 6,⟨7,.str,4,[[.i .i64 0,.i .i64 0,.i .i64 0,.i .i64 0]]⟩)],9⟩
def Zgj(r:Rd)(s:Sg)(k a:Int):Ex×St:=(.r,⟨[(6,.ptr (.loc 6) 7 4 0 0)],hpG r s++[(.loc 6,⟨7,.str,4,[[.i .i64 k,.i .i64 0,.i .i64 0,.i .i64 a]]⟩)],9⟩)
section
variable{T:Tbl}[Z0 T][Zq T][Zv T][Zy T][Zr T][Zn T][Zx T][Zbc T][Zf T][Zg T][Zw T][Zbn T][Zc5 T][Zas T][Zbv T][Zc3 T][Zam T][Zcs T][Zcz T][Zbr T][Zaz T]
theorem z9v(t:List UInt8)(r:Rd)(s:Sg)(ho:r.over=true)(hr:r.rest.length≤1000000)(ha:r.at_≤1000000) :
  evX (orc T) T 2 l615_0 (stG t r s)=some (Zgj r s 0 0):=by
 have c1:=zgf (T:=T) r hr ha;have e1:Zm r=[]:=by unfold Zm;rw[ho];rfl
 have e2:Zac r=r:=by unfold Zac;rw[ho];rfl
 rw[e1,e2,ho]at c1;unfold bxR at c1;unfold stG Zgj hpG bxR;obtain⟨rest,a,o⟩:=r;obtain⟨nm,C,A⟩:=s;dsimp only at *
 simp -implicitDefEqProofs[l615_0,c1]
theorem z9w(t:List UInt8)(r:Rd)(s:Sg)(ho:r.over=false)(hb:(Zm r).contains 124=false)(hr:r.rest.length≤1000000)(ha:r.at_≤t.length)(ht:t.length≤1000000) :
  evX (orc T) T 2 l615_0 (stG t r s)=some (Zgj ⟨t.drop r.at_,r.at_,false⟩ s 0 0):=by
 have c1:=zgf (T:=T) r hr (by omega);have c2:=zpa (T:=T) (Zm r) 124;have c3:=z4q (T:=T) (Zac r) t r.at_ ha ht;rw[ho]at c1;rw[hb]at c2;unfold bxR at c1 c3;unfold stG Zgj hpG bxR;generalize Zac r=r' at *
 generalize Zm r=L at *
 obtain⟨rest,a,o⟩:=r;obtain⟨rest',a',o'⟩:=r';obtain⟨nm,C,A⟩:=s;dsimp only at *
 simp -implicitDefEqProofs[l615_0,c1,c2,c3]
theorem zaif(hcut:∀l:List UInt8,l.length≤1000000→Za T 184 [.s l,.s [124]]=some (.tup [.s (hdC 124 l),.s (tlC 124 l),.b (l.contains 124)]))
  (t:List UInt8) (r:Rd) (s:Sg) (ho:r.over=false) (hb:(Zm r).contains 124=true) (hr:r.rest.length≤100000) (ha:r.at_≤100000) (hf:(Zct (Zm r) r.at_).2.2≠(0,0)) :
  evX (orc T) T 2 l615_0 (stG t r s)=some (Zgj (Zac r) s (Zct (Zm r) r.at_).2.2.1 (Zct (Zm r) r.at_).2.2.2):=by
 have c1:=zgf (T:=T) r (by omega) (by omega);have c2:=zpa (T:=T) (Zm r) 124;have hlen:(Zm r).length≤r.rest.length:=by
  unfold Zm;split
  ·simp
  ·exact(Ya5 _).length_le
 have c3:=zni (T:=T) hcut (Zm r) r.at_ (by omega) (by omega);rw[ho]at c1;rw[hb]at c2;unfold bxR at c1;unfold stG Zgj hpG bxR;generalize Zac r=r' at *
 generalize Zm r=L at *
 generalize Zct L (r.at_:Int)=S at *
 obtain⟨q,M,k,b⟩:=S;generalize fz q=z at *
 generalize fzs M=N at *
 obtain⟨rest,a,o⟩:=r;obtain⟨rest',a',o'⟩:=r';obtain⟨nm,C,A⟩:=s;obtain⟨z1,z2,z3⟩:=z;dsimp only at *
 by_cases hk:k=0
 ·have hb0:¬ b=0:=fun h=>hf (by rw[hk,h]);simp -implicitDefEqProofs[l615_0,c1,c2,c3,hk,hb0]
 ·simp -implicitDefEqProofs[l615_0,c1,c2,c3,hk]
theorem z4r(hcut:∀l:List UInt8,l.length≤1000000→Za T 184 [.s l,.s [124]]=some (.tup [.s (hdC 124 l),.s (tlC 124 l),.b (l.contains 124)]))
  (t:List UInt8) (r:Rd) (s:Sg) (ho:r.over=false) (hb:(Zm r).contains 124=true) (hr:r.rest.length≤100000) (ha:r.at_≤100000) (hc:s.c.length≤1000000) (hA:s.a.length≤1000000) (hf:(Zct (Zm r) r.at_).2.2=(0,0)) :
  evX (orc T) T 2 l615_0 (stG t r s)=some (.n,stG t (Zac r) ⟨s.nm,s.c++[fz (Zct (Zm r) r.at_).1],s.a++[fzs (Zct (Zm r) r.at_).2.1]⟩):=by
 have c1:=zgf (T:=T) r (by omega) (by omega);have c2:=zpa (T:=T) (Zm r) 124;have hlen:(Zm r).length≤r.rest.length:=by
  unfold Zm;split
  ·simp
  ·exact(Ya5 _).length_le
 have c3:=zni (T:=T) hcut (Zm r) r.at_ (by omega) (by omega);rw[ho]at c1;rw[hb]at c2;unfold bxR at c1;unfold stG hpG bxR;generalize Zac r=r' at *
 generalize Zm r=L at *
 generalize Zct L (r.at_:Int)=S at *
 obtain⟨q,M,k,b⟩:=S;generalize fz q=z at *
 generalize fzs M=N at *
 obtain⟨rest,a,o⟩:=r;obtain⟨rest',a',o'⟩:=r';obtain⟨nm,C,A⟩:=s;dsimp only at *
 obtain⟨rfl,rfl⟩:=Prod.mk.inj hf;have p1:=zit C z;have p2:Zs A++[[.sl (Zd N) .an]]=Zs (A++[N]):=by simp[Zs]
 have t1:List.take C.length C=C:=Ydi;have t2:List.take A.length A=A:=Ydi;have h1:C.length+1≤4294967296:=by omega
 have h2:A.length+1≤4294967296:=by omega
 obtain⟨z1,z2,z3⟩:=z;rw[Y1,Y1];simp -implicitDefEqProofs[l615_0,c1,c2,c3,p1,p2,t1,t2,h1,h2]
end
def Za0(t:List UInt8):Nat→Rd→Sg→Rd×Sg×Int×Int
 | 0,r,s=>(r,s,0,0)
 | n+1,r,s=>
  if r.over=true then (r,s,0,0)
  else if (Zm r).contains 124=false then (⟨t.drop r.at_,r.at_,false⟩,s,0,0)
  else if (Zct (Zm r) r.at_).2.2≠(0,0) then (Zac r,s,(Zct (Zm r) r.at_).2.2)
  else Za0 t n (Zac r) ⟨s.nm,s.c++[fz (Zct (Zm r) r.at_).1],s.a++[fzs (Zct (Zm r) r.at_).2.1]⟩
def muR(r:Rd):Nat:=if r.over then 0 else r.rest.length+1
theorem zpb:∀(l:List UInt8) (c:UInt8) (_:l.contains c=true),(hdC c l).length+1+(tlC c l).length=l.length
 | [],c,h=>by simp at h
 | b::l,c,h=>by
  by_cases hb:b=c
  ·subst hb;simp[hdC,tlC];omega
  ·have h2:l.contains c=true:=by
    rw[Ycq]at h ⊢;rcases Y2.1 h with h | h
    ·exact absurd h.symm hb
    ·exact h
   have ih:=zpb l c h2;unfold hdC tlC at *
   simp only[List.takeWhile_cons,List.dropWhile_cons,bne_iff_ne,ne_eq,hb,not_false_eq_true,if_true,Ym];omega
theorem z0d(c:UInt8)(l:List UInt8):(hdC c l).length≤l.length:=(Ya5 _).length_le
structure RdOk (t:List UInt8) (r:Rd):Prop where
 a:r.at_≤t.length
 l:r.rest.length≤t.length
 s:r.over=false→r.at_+r.rest.length=t.length
theorem z9x(c:UInt8)(l:List UInt8):(tlC c l).length≤l.length:=by
 unfold tlC;rw[Yak];have:=(Yeg (fun x:UInt8=>x != c) (l:=l)).length_le;omega
theorem zpc{t:List UInt8}{r:Rd}(h:RdOk t r)(ho:r.over=false):RdOk t (Zac r)∧muR (Zac r)<muR r:=by
 have e:Zac r=⟨tlC 10 r.rest,r.at_+(hdC 10 r.rest).length+(if r.rest.contains 10 then 1 else 0),!r.rest.contains 10⟩:=by unfold Zac;rw[ho];rfl
 have h1:=h.s ho;have h2:=z0d 10 r.rest;have h3:=z9x 10 r.rest;have h4:=h.l;rw[e];unfold muR;rw[ho];cases hc:r.rest.contains 10 with
 | true=>
  have h5:=zpb r.rest 10 hc;refine⟨⟨?_,?_,fun _=>?_⟩,?_⟩
  ·simp;omega
  ·simp;omega
  ·simp;omega
  ·simp;omega
 | false=>
  refine⟨⟨?_,?_,fun h=>?_⟩,?_⟩
  ·simp;omega
  ·simp;omega
  ·cases h
  ·simp
section
variable{T:Tbl}[Z0 T][Zq T][Zv T][Zy T][Zr T][Zn T][Zx T][Zbc T][Zf T][Zg T][Zw T][Zbn T][Zc5 T][Zas T][Zbv T][Zc3 T][Zam T][Zcs T][Zcz T][Zbr T][Zaz T]
theorem zw1(r:Rd)(s:Sg)(k a:Int):Zd5 (some (Zgj r s k a))=true∧Zeh 2 0 (.norm true [6]) (some (Zgj r s k a))=some (Zgj r s k a):=by
 unfold Zgj hpG bxR;constructor<;>simp -implicitDefEqProofs
theorem z9y(hcut:∀l:List UInt8,l.length≤1000000→Za T 184 [.s l,.s [124]]=some (.tup [.s (hdC 124 l),.s (tlC 124 l),.b (l.contains 124)]))
  (t:List UInt8) (ht:t.length≤100000) (n:Nat) (r:Rd) (s:Sg) (hr:RdOk t r) (hn:muR r<n) (hc:s.c.length+n≤1000000) (ha:s.a.length+n≤1000000) :
  Zj T 2 0 (.norm true [6]) l615_0 (stG t r s)=some (Zgj (Za0 t n r s).1 (Za0 t n r s).2.1 (Za0 t n r s).2.2.1 (Za0 t n r s).2.2.2):=by
 refine zav (T:=T) (k:=2) (id:=0) (g2:=.norm true [6]) (c:=l615_0) (fun x:Nat×Rd×Sg=>stG t x.2.1 x.2.2)
  (fun x=>RdOk t x.2.1∧muR x.2.1<x.1∧x.2.2.c.length+x.1≤1000000∧x.2.2.a.length+x.1≤1000000) (fun x=>x.1)
  (fun x=>some (Zgj (Za0 t x.1 x.2.1 x.2.2).1 (Za0 t x.1 x.2.1 x.2.2).2.1 (Za0 t x.1 x.2.1 x.2.2).2.2.1 (Za0 t x.1 x.2.1 x.2.2).2.2.2)) ?_ (n,r,s) ⟨hr,hn,hc,ha⟩
 rintro⟨n,r,s⟩ ⟨hr,hn,hc,ha⟩
 dsimp only at *
 obtain⟨m,rfl⟩:∃m,n=m+1:=⟨n-1,by omega⟩;have b1:=hr.a;have b2:=hr.l;cases ho:r.over with
 | true=>
  right;have e:Za0 t (m+1) r s=(r,s,0,0):=by rw[Za0,if_pos ho]
  rw[e,z9v (T:=T) t r s ho (by omega) (by omega)];exact zw1 r s 0 0
 | false=>
 cases hb:(Zm r).contains 124 with
 | false=>
  right;have e:Za0 t (m+1) r s=(⟨t.drop r.at_,r.at_,false⟩,s,0,0):=by rw[Za0,if_neg (by rw[ho];decide),if_pos hb]
  rw[e,z9w (T:=T) t r s ho hb (by omega) b1 (by omega)];exact zw1 _ s 0 0
 | true=>
 by_cases hf:(Zct (Zm r) r.at_).2.2=(0,0)
 ·left;have e:Za0 t (m+1) r s=Za0 t m (Zac r) ⟨s.nm,s.c++[fz (Zct (Zm r) r.at_).1],s.a++[fzs (Zct (Zm r) r.at_).2.1]⟩:=by
   rw[Za0,if_neg (by rw[ho];decide),if_neg (by rw[hb];decide),if_neg (by simpa using hf)]
  obtain⟨k1,k2⟩:=zpc hr ho;have e2:=z4r (T:=T) hcut t r s ho hb (by omega) (by omega) (by omega) (by omega) hf;refine⟨(m,Zac r,⟨s.nm,s.c++[fz (Zct (Zm r) r.at_).1],s.a++[fzs (Zct (Zm r) r.at_).2.1]⟩),⟨k1,show muR (Zac r)<m by omega,?_,?_⟩,by show m<m+1;omega,e2,by rw[e]⟩
  ·simp only[Y1,Ym,Yal];omega
  ·simp only[Y1,Ym,Yal];omega
 ·right;have e:Za0 t (m+1) r s=(Zac r,s,(Zct (Zm r) r.at_).2.2):=by
   rw[Za0,if_neg (by rw[ho];decide),if_neg (by rw[hb];decide),if_pos hf]
  rw[e,zaif (T:=T) hcut t r s ho hb (by omega) (by omega) hf];exact zw1 _ s _ _
def Zlq(nm:List UInt8):Box:=⟨1,.str,5,[[.s nm,.sl [] .nl,.sl [] .nl,.sl [] .nl,.sl [] .nl]]⟩
theorem zs0(hcut:∀l:List UInt8,l.length≤1000000→Za T 184 [.s l,.s [124]]=some (.tup [.s (hdC 124 l),.s (tlC 124 l),.b (l.contains 124)]))
  (t nm:List UInt8) (ht:t.length≤100000) (n:Nat) (r:Rd) (hr:RdOk t r) (hn:muR r<n) (hc:n≤1000000) :
  Zbz T 615 [.ptr (.bor 0) 0 3 0 0,.s t,.ptr (.bor 1) 1 5 0 0] [(.bor 0,bxR 0 r),(.bor 1,Zlq nm)] =
   some (flt (Za0 t n r ⟨nm,[],[]⟩).2.2.1 (Za0 t n r ⟨nm,[],[]⟩).2.2.2,hpG (Za0 t n r ⟨nm,[],[]⟩).1 (Za0 t n r ⟨nm,[],[]⟩).2.1):=by
 have hl:=z9y (T:=T) hcut t ht n r ⟨nm,[],[]⟩ hr hn (by simpa using hc) (by simpa using hc);generalize Za0 t n r ⟨nm,[],[]⟩=S at *
 obtain⟨r',s',k,a⟩:=S;unfold stG Zgj hpG bxR at hl;unfold hpG bxR Zlq;obtain⟨rest,at_,o⟩:=r;obtain⟨rest',at',o'⟩:=r';obtain⟨nm',C,A⟩:=s';dsimp only at *
 simp only[Yal,za8,zq2,Ybm,Yam]at hl;rw[za9 Zaz.h615 rfl,b615];simp -implicitDefEqProofs[hl]
end
theorem zej{t:List UInt8}{r:Rd}(h:RdOk t r):RdOk t (Zac r):=by
 cases ho:r.over with
 | true=>
  have e:Zac r=r:=by unfold Zac;rw[ho];rfl
  rw[e];exact h
 | false=>exact(zpc h ho).1
theorem zpd{t:List UInt8}:∀(n:Nat) (r:Rd) (s:Sg),RdOk t r→RdOk t (Za0 t n r s).1
 | 0,_,_,h=>h
 | n+1,r,s,h=>by
  unfold Za0;by_cases h1:r.over=true
  ·rw[if_pos h1];exact h
  rw[if_neg h1];by_cases h2:(Zm r).contains 124=false
  ·rw[if_pos h2];exact⟨h.a,by simp,fun _=>by have:=h.a;simp;omega⟩
  rw[if_neg h2];by_cases h3:(Zct (Zm r) r.at_).2.2≠(0,0)
  ·rw[if_pos h3];exact zej h
  ·rw[if_neg h3];exact zpd n _ _ (zej h)
def smG(s:Sg)(b e:List Fz):Sm:=⟨s.nm,s.c,s.a,b,e⟩
def Zav(t:List UInt8):Rd×Sg×Int×Int:=Za0 t (t.length+2) (Zac ⟨t,0,false⟩) ⟨Zm ⟨t,0,false⟩,[],[]⟩
def Zbs(t:List UInt8):Sm×Int×Int:=
 if Zaj 2 (Zm ⟨t,0,false⟩)=false then (⟨Zm ⟨t,0,false⟩,[],[],[],[]⟩,1,0)
 else if (Zav t).2.2≠(0,0) then (smG (Zav t).2.1 [] [],(Zav t).2.2)
 else if (Zex 98 (Zav t).1).2≠(0,0)∨(Zac (Zav t).1).over=true then (smG (Zav t).2.1 (fzs (Zex 98 (Zav t).1).1) [],(Zex 98 (Zav t).1).2)
 else if (Zex 101 (Zac (Zav t).1)).2≠(0,0)∨(Zac (Zac (Zav t).1)).over=true then
  (smG (Zav t).2.1 (fzs (Zex 98 (Zav t).1).1) (fzs (Zex 101 (Zac (Zav t).1)).1),(Zex 101 (Zac (Zav t).1)).2)
 else (smG (Zav t).2.1 (fzs (Zex 98 (Zav t).1).1) (fzs (Zex 101 (Zac (Zav t).1)).1),1,(Zac (Zac (Zav t).1)).at_)
section
variable{T:Tbl}[Z0 T][Zq T][Zv T][Zy T][Zr T][Zn T][Zx T][Zbc T][Zf T][Zg T][Zw T][Zbn T][Zc5 T][Zas T][Zbv T][Zc3 T][Zam T][Zcs T][Zcz T][Zbr T][Zaz T]
theorem z0e(hcut:∀l:List UInt8,l.length≤1000000→Za T 184 [.s l,.s [124]]=some (.tup [.s (hdC 124 l),.s (tlC 124 l),.b (l.contains 124)]))
  (t:List UInt8) (ht:t.length≤50000):Za T 612 [.s t]=some (.tup [esm (Zbs t).1,flt (Zbs t).2.1 (Zbs t).2.2]):=by
 have h0:RdOk t ⟨t,0,false⟩:=⟨Yo _,Ye _,fun _=>Y8 _⟩;have c1:=zgf (T:=T) ⟨t,0,false⟩ (by show t.length≤_;omega) (Yo _);obtain⟨k1,k2⟩:=zpc h0 rfl;have hmu:muR (⟨t,0,false⟩:Rd)=t.length+1:=rfl;have hln:(Zm ⟨t,0,false⟩).length≤t.length:=z0d 10 t;have c2:=zmv (T:=T) 2 0 (Zm ⟨t,0,false⟩) (by omega);have c3:=zs0 (T:=T) hcut t (Zm ⟨t,0,false⟩) (by omega) (t.length+2) (Zac ⟨t,0,false⟩) k1 (by omega) (by omega);have hS:Zav t=Za0 t (t.length+2) (Zac ⟨t,0,false⟩) ⟨Zm ⟨t,0,false⟩,[],[]⟩:=rfl;rw[←hS]at c3;have o2:RdOk t (Zav t).1:=by rw[hS];exact zpd _ _ _ k1
 have o3:=zej o2;have c4:=zil (T:=T) (Zav t).1 98 (by have:=o2.l;omega) (by have:=o2.a;omega);have c5:=zil (T:=T) (Zac (Zav t).1) 101 (by have:=o3.l;omega) (by have:=o3.a;omega);unfold Zbs;rw[zab Zaz.h612 rfl,b612];clear hS o2 o3 h0 k1 k2 hmu hln hcut ht;generalize Zex 98 (Zav t).1=B at *
 generalize Zex 101 (Zac (Zav t).1)=E at *
 generalize Zac (Zac (Zav t).1)=r4 at *
 generalize Zac (Zav t).1=r3 at *
 generalize Zav t=S at *
 obtain⟨r2,s2,kS,aS⟩:=S;generalize Zac ⟨t,0,false⟩=r1 at *
 generalize Zm ⟨t,0,false⟩=nm at *
 obtain⟨B,kB,aB⟩:=B;obtain⟨E,kE,aE⟩:=E;generalize fzs B=FB at *
 generalize fzs E=FE at *
 unfold hpG Zlq bxR at c3;unfold bxR at c1 c4 c5;simp only[Yw,Bool.not_false]at c1;obtain⟨l1,a1,o1⟩:=r1;obtain⟨l2,a2,o2⟩:=r2;obtain⟨l3,a3,o3⟩:=r3;obtain⟨l4,a4,o4⟩:=r4;obtain⟨nm2,C,A⟩:=s2;unfold smG;dsimp only at *
 cases hR:Zaj 2 nm with
 | false=>
  rw[hR]at c2;simp -implicitDefEqProofs[c1,c2]
 | true=>
 rw[hR]at c2;simp only[Bool.true_eq_false,if_false,ne_eq,Prod.mk.injEq];by_cases hk:kS=0∧aS=0
 rotate_left
 ·rw[if_pos hk];by_cases h1:kS=0
  ·have h2:¬ aS=0:=fun h=>hk ⟨h1,h⟩;simp -implicitDefEqProofs[c1,c2,c3,h1,h2]
  ·simp -implicitDefEqProofs[c1,c2,c3,h1]
 obtain⟨rfl,rfl⟩:=hk;rw[if_neg (by simp)];by_cases hb:(¬ (kB=0∧aB=0))∨o3=true
 ·rw[if_pos hb];by_cases h1:kB=0
  ·by_cases h2:aB=0
   ·subst h1 h2;have h3:o3=true:=by rcases hb with h | h;exact absurd ⟨rfl,rfl⟩ h;exact h
    subst h3;simp -implicitDefEqProofs[c1,c2,c3,c4]
   ·simp -implicitDefEqProofs[c1,c2,c3,c4,h1,h2]
  ·simp -implicitDefEqProofs[c1,c2,c3,c4,h1]
 ·rw[if_neg hb];have h1:kB=0∧aB=0:=Classical.not_not.1 fun h=>hb (.inl h);have h2:o3=false:=by cases o3;rfl;exact absurd (.inr rfl) hb
  obtain⟨rfl,rfl⟩:=h1;subst h2;clear hb;by_cases he:(¬ (kE=0∧aE=0))∨o4=true
  ·rw[if_pos he];by_cases h1:kE=0
   ·by_cases h2:aE=0
    ·subst h1 h2;have h3:o4=true:=by rcases he with h | h;exact absurd ⟨rfl,rfl⟩ h;exact h
     subst h3;simp -implicitDefEqProofs[c1,c2,c3,c4,c5]
    ·simp -implicitDefEqProofs[c1,c2,c3,c4,c5,h1,h2]
   ·simp -implicitDefEqProofs[c1,c2,c3,c4,c5,h1]
  ·rw[if_neg he];have h1:kE=0∧aE=0:=Classical.not_not.1 fun h=>he (.inl h);have h2:o4=false:=by cases o4;rfl;exact absurd (.inr rfl) he
   obtain⟨rfl,rfl⟩:=h1;subst h2;simp -implicitDefEqProofs[c1,c2,c3,c4,c5]
end
def Zfs(t:List UInt8):Sm×Int×Int:=
 if 4000<t.length then (⟨[],[],[],[],[]⟩,1,4000)
 else if (Zbs t).2≠(0,0) then (⟨[],[],[],[],[]⟩,(Zbs t).2)
 else if Zb6 (Zbs t).1≠0 then (⟨[],[],[],[],[]⟩,2,Zb6 (Zbs t).1)
 else ((Zbs t).1,0,0)
section
variable{T:Tbl}[Z0 T][Zq T][Zv T][Zy T][Zr T][Zn T][Zx T][Zbc T][Zf T][Zg T][Zw T][Zbn T][Zak T][Zan T][Zc5 T][Zas T][Zbv T][Zc3 T][Zb0 T][Za8 T][Zch T][Zdx T][Zdw T][Zam T][Zcs T][Zcz T][Zbr T][Z9 T][Zaz T]
theorem zw2(hcut:∀l:List UInt8,l.length≤1000000→Za T 184 [.s l,.s [124]]=some (.tup [.s (hdC 124 l),.s (tlC 124 l),.b (l.contains 124)]))
  (t:List UInt8) (ht:t.length≤1000000) (hs:t.length≤4000→(Zbs t).2=(0,0)→SmS (Zbs t).1):Za T 608 [.s t]=some (.tup [esm (Zfs t).1,flt (Zfs t).2.1 (Zfs t).2.2]):=by
 unfold Zfs;rw[zab Zaz.h608 rfl,b608];by_cases h1:4000<t.length
 ·have h1':(4000:Int)<t.length:=by omega
  rw[if_pos h1];clear hs;simp -implicitDefEqProofs[h1,h1']
 have h1':¬ (4000:Int)<t.length:=by omega
 rw[if_neg h1];have c1:=z0e (T:=T) hcut t (by omega);have c2:(Zbs t).2=(0,0)→Za T 551 [esm (Zbs t).1]=some (.i .i64 (Zb6 (Zbs t).1)):=fun h=>zgw (T:=T) (Zbs t).1 (hs (by omega) h);clear hs hcut ht;generalize Zb6 (Zbs t).1=W at *
 generalize Zbs t=R at *
 obtain⟨⟨nm,C,A,B,E⟩,k,a⟩:=R;dsimp only at *
 simp only[ne_eq,Prod.mk.injEq];by_cases hk:k=0
 ·by_cases ha:a=0
  ·subst hk ha;have c2:=c2 rfl;rw[if_neg (by simp)];by_cases hw:W=0
   ·subst hw;rw[if_neg (by simp)];simp -implicitDefEqProofs[h1,h1',c1,c2]
   ·rw[if_pos hw];simp -implicitDefEqProofs[h1,h1',c1,c2,hw]
  ·rw[if_pos (fun h=>ha h.2)];simp -implicitDefEqProofs[h1,h1',c1,hk,ha]
 ·rw[if_pos (fun h=>hk h.1)];simp -implicitDefEqProofs[h1,h1',c1,hk]
end
def Zn4(a b:List (List Fz)):Bool:=(a.zip b).all fun p=>decide (p.1.map fv=p.2.map fv)
def Zqq(a b:Sm):Bool:=decide (a.nm=b.nm)&&decide (a.a.length=b.a.length)&&decide (a.b.map fv=b.b.map fv)&&decide (a.c.map fv=b.c.map fv)&&decide (a.e.map fv=b.e.map fv)&&Zn4 a.a b.a
def eqM(a b:List (List Fz)):Bool:=(a.zip b).all fun p=>decide (p.1=p.2)
def eqS(a b:Sm):Bool:=decide (a.nm=b.nm)&&decide (a.a.length=b.a.length)&&decide (a.b=b.b)&&decide (a.c=b.c)&&decide (a.e=b.e)&&eqM a.a b.a
def Zsc(s:Sm):Sm:=⟨s.nm,nrm s.c,s.a.map nrm,nrm s.b,nrm s.e⟩
section
variable{T:Tbl}[Z0 T][Zq T][Zv T][Zy T][Zr T][Zn T][Zbc T][Zf T][Zg T][Zw T][Zam T][Zcs T][Zaz T]
def Zqr(a b:Sm)(i:Nat):St:=⟨[(3,.ptr (.loc 3) 1 5 0 0),(46,.sl (Zs a.a) .an),(47,.i .i64 a.a.length),(48,.i .i64 i)],[(.loc 3,bxS b)],3⟩
end
section
variable{T:Tbl}[Z4 T][Zai T][Z1 T][Zao T][Z2 T][Zar T][Zz T][Za9 T][Zgg T][Zgs T][Zge T]
def Zkj(g:Nat)(s:Sm):Box:=⟨g,.str,5,[[.s s.nm,.sl (Zd s.c) .an,.sl (Zs s.a) .an,.sl (Zd s.b) .an,.sl (Zd s.e) .an]]⟩
def Zsd(a b:Sm)(i:Nat):St:=⟨[(2,.ptr (.loc 2) 1 5 0 0),(3,.ptr (.loc 3) 2 5 0 0),(5,.i .i64 i)],[(.loc 2,Zkj 1 a),(.loc 3,Zkj 2 b)],4⟩
end
def Zn5(a b:List Fz):List Fz:=fzs (Zok (a.map fv) (Zng ((-1:Int):Rat) (b.map fv)))
def Zse(s:Sm):List Fz:=if okS s=true∧s.e≠[] then Zn5 s.b s.e else []
def Zqs(s:Sm):Bool:=match s.b.getLast?,s.c.getLast?,s.a.getLast? with
 | some b,some c,some a=>decide (fv b=0)&&(decide (fv c=1)&&decide (a.map fv=(s.b.take (s.b.length-1)).map fv))
 | _,_,_=>false
structure OkSm (s:Sm):Prop where
 b1:1≤s.b.length
 b8:s.b.length≤8
 cl:s.c.length=s.b.length
 al:s.a.length=s.b.length
 el:s.e.length=s.b.length∨s.e.length=0
 sh:Za1 s.a 0=true
 na:Zcm s.a=true
 nb:s.b.all Za6=true
 nc:s.c.all Za6=true
 ne:s.e.all Za6=true
theorem z1i(b c e:List Fz):Zcm [b,c,e]=(b.all Za6&&c.all Za6&&e.all Za6):=by
 unfold Zcm;simp only[Yb0,Ydx,Yd8,Bool.and_assoc]
theorem zfv{s:Sm}(h:okS s=true):OkSm s∧Zb6 s=0:=by
 unfold okS at h;have hw:=of_decide_eq_true h;refine⟨?_,hw⟩;unfold Zb6 at hw;cases g1:Zaj 2 s.nm with
 | false=>rw[g1]at hw;simp at hw
 | true=>
 cases g2:Zbt s with
 | false=>rw[g1,g2]at hw;simp at hw
 | true=>
 cases g3:Zcm s.a with
 | false=>rw[g1,g2,g3]at hw;simp at hw
 | true=>
 cases g4:Zcm [s.b,s.c,s.e]with
 | false=>rw[g1,g2,g3,g4]at hw;simp at hw
 | true=>
 obtain⟨s1,s2,s3,s4,s5,s6⟩:=zj4 g2;rw[z1i]at g4;simp only[Yn]at g4;exact⟨s1,s2,s3,s4,s5,s6,g3,g4.1.1,g4.1.2,g4.2⟩
theorem zo9{l:List Fz}(h:l.all Za6=true):∀x∈l,fsz x≤6:=fun x hx=>ze1 (Yf.1 h x hx)
abbrev Zqt:List UInt8:=[104,101,117,110,10,48,124,10,49,124,49,10,98,32,49,47,50,44,49,47,50,10,101,32,49,44,48]
abbrev Zsf:List UInt8:=[101,117,108,101,114,10,48,124,10,98,32,50]
def Zqu:Sm:=⟨[104,101,117,110],[fz 0,fz 1],[[],[fz 1]],[fz (mkRat 1 2),fz (mkRat 1 2)],[fz 1,fz 0]⟩
def Zsg:Sm:=⟨[101,117,108,101,114],[fz 0],[[]],[fz 2],[]⟩
theorem zsy{q:Rat}(h:sz q≤2):Za6 (fz q)=true:=by
 unfold Za6 Zbb;rw[zbx,decide_eq_true rfl,Yck,decide_eq_true_eq];have:=z4m (x:=fz q) (k:=2) (by rw[za6];exact h);omega
class Zjv (T:Tbl):Prop where
end Go.Ab
section
namespace Go.Ab
end Go.Ab
end
namespace Go.Ab
class Zix (T:Tbl):Prop where
class Zl6 (T:Tbl):Prop where
class Zl5 (T:Tbl):Prop where
end Go.Ab
section
namespace Go.Ab
end Go.Ab
end
namespace Go.Ab
section
variable{T:Tbl}[Z0 T][Zq T][Zv T][Zy T][Zr T][Zn T][Zx T][Zbc T][Zf T][Zg T][Zw T][Zbn T][Zan T][Zc5 T][Zas T][Zbv T][Zc3 T][Zam T][Zcs T][Zcz T][Zfj T][Z4 T][Zai T][Z1 T][Zao T][Z2 T][Zar T][Zz T][Za9 T][Zfi T][Zcx T][Zdq T][Zl5 T][Zl6 T]
def Zp4(l:List Fz)(i:Nat):St:=⟨[(0,.sl (Zd l) .an),(3,.i .i64 (Zn1 (l.take i))),(4,.i .i64 i)],[],2⟩
end
section
variable{T:Tbl}[Z4 T][Zai T][Z1 T][Zao T][Z2 T][Zar T][Zz T][Zjv T][Za9 T][Zix T]
def Zqf(s:List UInt8)(y:Nat×Nat×List Rat):St:=
 ⟨[(0,.s s),(5,.bs (.loc 5) 1 3 0 y.2.2.length),(6,.i .i64 y.2.1),(7,.i .i64 y.1)],[(.loc 5,⟨1,.own,3,Zd (fzs y.2.2)⟩)],3⟩
def Zo4(r:List Rat×Int×Int):Option (Ex×St):=
 if r.2.1=0 then some (.n,⟨[(5,.bs (.loc 5) 1 3 0 r.1.length)],[(.loc 5,⟨1,.own,3,Zd (fzs r.1)⟩)],3⟩)
 else some (.r,⟨[(2,.sl [] .an),(3,.i .i64 r.2.1),(4,.i .i64 r.2.2)],[],2⟩)
def Zoq(s:List UInt8)(y:Nat×Nat×List Rat):List Rat×Int×Int:=
 if y.1≤s.length then Zbh (Z5 44 (s.drop y.2.1)) y.2.1 y.2.2 else (y.2.2,0,0)
def piece(s:List UInt8)(i from_:Nat):List UInt8:=(s.drop from_).take (i-from_)
end
section
variable{T:Tbl}[Z0 T][Zq T][Zv T][Zy T][Zr T][Zn T][Zx T][Zbc T][Zf T][Zg T][Zw T][Zbn T][Zak T][Zan T][Zc5 T][Zas T][Zbv T][Zc3 T][Zb0 T][Za8 T][Zch T][Zdx T][Zdw T][Zam T][Zcs T][Zcz T][Zfj T][Zbr T][Z9 T][Zaz T][Zgs T][Zge T]
def Zn6(s:Sm)(i:Nat):St:=⟨[(1,.ptr (.loc 1) 1 5 0 0),(4,.bs (.loc 33) 2 1 0 (i+1)),(14,.sl (Zs s.a) .an),(15,.i .i64 s.a.length),(16,.i .i64 i)],
 [(.loc 1,bxS s),(.loc 33,⟨2,.own,1,Zae ([s.nm]++((s.c.zip s.a).take i).map fun p=>Zmo p.1 p.2)⟩)],4⟩
def Zsh(s:Sm):Nat→St
 | 0=>⟨[(1,.ptr (.loc 1) 1 5 0 0),(4,.sl (Zae [s.nm]) .fu),(14,.sl (Zs s.a) .an),(15,.i .i64 s.a.length),(16,.i .i64 0)],[(.loc 1,bxS s)],3⟩
 | i+1=>Zn6 s (i+1)
end
section
variable{T:Tbl}[Z0 T][Zq T][Zv T][Zy T][Zr T][Zn T][Zx T][Zbc T][Zf T][Zg T][Zw T][Zbn T][Zak T][Zan T][Z4 T][Zai T][Z1 T][Z2 T][Zao T][Zar T][Zz T][Zjv T][Za9 T][Zix T][Zc5 T][Zas T][Zbv T][Zc3 T][Zb0 T][Za8 T][Zch T][Zdx T][Zdw T][Zam T][Zcs T][Zcz T][Zfj T][Zbr T][Z9 T][Zaz T][Zgs T][Zge T]
def Zpf(s:Sm)(i:Nat):List UInt8:=List.intercalate [10] ([s.nm]++((s.c.zip s.a).take i).map fun p=>Zmo p.1 p.2)
def Zqv(s:Sm)(i:Nat):St:=⟨[(1,.ptr (.loc 1) 1 5 0 0),(3,.s (Zpf s i)),(4,.i .i64 i)],[(.loc 1,bxS s)],3⟩
end
def Zsa(l:List UInt8):Prop:=∀b∈l,44≤b.toNat∧b.toNat≤57
theorem zwv(c:UInt8):∀l:List UInt8,(∀b∈l,b≠c)→hdC c l=l∧l.contains c=false
 | [],_=>by simp[hdC]
 | b::l,h=>by
  have h1:=h b Y9;obtain⟨e1,e2⟩:=zwv c l fun d hd=>h d (Ys _ hd);have h2:¬ c=b:=fun e=>h1 e.symm;unfold hdC at *
  simp at e2;simp[List.takeWhile_cons,h1,h2,e1,e2]
def Zpe:List (Fz×List Fz)→List UInt8→List UInt8
 | [],W=>W
 | p::l,W=>Zmo p.1 p.2++10::Zpe l W
def Zsb(s:Sm):List UInt8:=98::32::List.intercalate [44] (Zki s.b)++(if s.e=[] then [] else 10::101::32::List.intercalate [44] (Zki s.e))
theorem zvf(w:List UInt8):sz (Zat w).1≤200:=by
 have z0:sz 0≤200:=by rw[zgk];decide
 unfold Zat;simp only;split
 ·exact z0
 ·next h0=>
  have hl:=zle h0;split
  ·unfold Zf0;simp only;split
   ·exact z0
   ·next h1=>
    obtain⟨h60,hr⟩:=zu6 h1;have ht:=zu7 h60;split
    ·split
     ·exact z0
     ·exact ztb (by omega) (by omega) (by decide)
    ·refine ztb ?_ (by omega) (by decide);rw[znq];have e2:=za7 (x:=(Zbd (w.take (Zab w))).natAbs) (y:=10^(w.drop (Zab w+1)).length) (L:=60) (M:=60) hl ht;have e3:=zbw (x:=(((Zbd (w.take (Zab w))).natAbs*10^(w.drop (Zab w+1)).length:Nat):Int)) (y:=((rd (w.drop (Zab w+1)):Nat):Int)) (L:=120) (by rw[Ybv];exact e2) (by rw[Ybv];omega);rw[←Yax,Ybv]at e3;omega
  ·exact ztb (by omega) (by rw[ze3];decide) (by decide)
theorem zqm:∀(ws:List (List UInt8)) (k:Nat) (acc:List Rat),(∀q∈acc,sz q≤200)→∀q∈(Zbh ws k acc).1,sz q≤200
 | [],_,_,h=>h
 | w::ws,k,acc,h=>by
  unfold Zbh;split
  ·exact zqm ws _ _ fun q hq=>by
    rcases Ya9.1 hq with h1 | h1
    ·exact h q h1
    ·rw[Ydz]at h1;rw[h1];exact zvf w
  ·intro q hq;simp at hq
theorem z3b(s:List UInt8):∀q∈(Zc6 s).1,sz q≤200:=by
 unfold Zc6;split
 ·intro q hq;simp at hq
 ·exact zqm _ _ _ fun q hq=>by simp at hq
theorem zj1{t:List UInt8}(h:Zaj 2 t=true):(∀b∈t,b≠10)∧t.length≤12:=by
 cases t with
 | nil=>simp[Zaj]at h
 | cons c r=>
  simp only[Zaj,Yn,decide_eq_true_eq]at h;obtain⟨⟨⟨_,h1⟩,h2⟩,h3⟩:=h;have hk:Zk c=2:=by omega
  rw[hk]at h2 h3;unfold Z6 at h2;have ht:(r.takeWhile (Za2 2)).length=r.length:=by omega
  have e:r.takeWhile (Za2 2)=r:=(Ya5 _).eq_of_length ht;have hall:=List.all_takeWhile (p:=Za2 2) (l:=r);rw[e]at hall;refine⟨fun b hb=>?_,h3⟩;rcases Y2.1 hb with rfl | hb
  ·rintro rfl
   revert hk
   decide
  ·have:=Yf.1 hall b hb
   rintro rfl
   revert this
   decide
theorem z0b{s:Sm}(h:okS s=true):Zaj 2 s.nm=true:=by
 unfold okS at h;have hw:=of_decide_eq_true h;unfold Zb6 at hw;cases g:Zaj 2 s.nm with
 | true=>rfl
 | false=>rw[g]at hw;simp at hw
section
variable{T:Tbl}[Z0 T][Zq T][Zv T][Zy T][Zr T][Zn T][Zx T][Zbc T][Zf T][Zg T][Zw T][Zbn T][Zak T][Zan T][Z4 T][Zai T][Z1 T][Z2 T][Zao T][Zar T][Zz T][Zjv T][Za9 T][Zix T][Zc5 T][Zas T][Zbv T][Zc3 T][Zb0 T][Za8 T][Zch T][Zdx T][Zdw T][Zam T][Zcs T][Zcz T][Zfj T][Zfi T][Zbr T][Z9 T][Zaz T][Zgs T][Zge T]
def Zpg(s:Sm)(m:List UInt8)(G:List Fz):St:=⟨[(2,.ptr (.loc 2) 1 5 0 0),(5,.ptr (.loc 5) 2 5 0 0),(6,.s m),(8,.sl (Zd G) .an),(10,.sl [] .fu),(11,.i .i64 0)],[(.loc 2,Zkj 1 s),(.loc 5,Zkj 2 s)],4⟩
def Zph(s:Sm)(m:List UInt8)(G:List Fz)(i:Nat):St:=⟨[(2,.ptr (.loc 2) 1 5 0 0),(5,.ptr (.loc 5) 2 5 0 0),(6,.s m),(8,.sl (Zd G) .an),(10,.bs (.loc 106) 3 3 0 i),(11,.i .i64 i)],
 [(.loc 2,Zkj 1 s),(.loc 5,Zkj 2 s),(.loc 106,⟨3,.own,3,Zd ((Zn5 s.b s.e).take i)⟩)],5⟩
def stW(s:Sm)(m:List UInt8)(G:List Fz):Nat→St
 | 0=>Zpg s m G
 | i+1=>Zph s m G (i+1)
end
theorem z4o{w:List UInt8}(h:(Zat w).2.1=0):1≤w.length:=by
 cases w with
 | nil=>exact absurd h (by decide)
 | cons c r=>simp
theorem zj2:∀(ws:List (List UInt8)) (k:Nat) (acc:List Rat),2*(Zbh ws k acc).1.length≤2*acc.length+(ws.map fun w=>w.length+1).sum
 | [],_,acc=>by simp[Zbh]
 | w::ws,k,acc=>by
  unfold Zbh;by_cases h:(Zat w).2.1=0
  ·have h1:=z4o h;have:=zj2 ws (k+w.length+1) (acc++[(Zat w).1]);rw[if_pos h];simp only[Y1,Ym,Yal,Yy,Ycw]at this ⊢;omega
  ·rw[if_neg h];simp
theorem zww(s:List UInt8):2*(Zc6 s).1.length≤s.length+1:=by
 unfold Zc6;split
 ·simp
 ·have:=zj2 (Z5 44 s) 0 [];rw[zgg]at this;simpa using this
structure SgS (s:Sg):Prop where
 al:s.a.length=s.c.length
 c:∀x∈s.c,fsz x≤300
 a:∀r∈s.a,r.length≤1000∧∀x∈r,fsz x≤300
theorem zwx{l:List UInt8}(hl:l.length≤1900):(fzs (Zc6 l).1).length≤1000∧∀x∈fzs (Zc6 l).1,fsz x≤300:=by
 refine⟨?_,fun x hx=>?_⟩
 ·rw[zay];have:=zww l;omega
 ·unfold fzs at hx;obtain⟨q,hq,rfl⟩:=Y6.1 hx;rw[za6];have:=z3b l q hq;omega
theorem zwy{r:Rd}(ho:r.over=false):muR r=muR (Zac r)+(Zm r).length+1:=by
 unfold muR Zm Zac;rw[ho];cases hc:r.rest.contains 10 with
 | true=>
  have h5:=zpb r.rest 10 hc;simp;omega
 | false=>
  have:=(zwv 10 r.rest (fun b hb e=>by rw[e]at hb;rw[Ycq.2 hb]at hc;cases hc)).1;simp[this]
theorem zwz(t:List UInt8)(ht:t.length≤1500):∀(n:Nat) (r:Rd) (s:Sg),RdOk t r→SgS s→2*s.c.length+muR r≤1501→SgS (Za0 t n r s).2.1∧2*(Za0 t n r s).2.1.c.length≤1501
 | 0,_,_,_,h,hm=>⟨h,by simp only[Za0];omega⟩
 | n+1,r,s,hr,h,hm=>by
  unfold Za0;by_cases h1:r.over=true
  ·rw[if_pos h1];exact⟨h,by dsimp only;omega⟩
  rw[if_neg h1];by_cases h2:(Zm r).contains 124=false
  ·rw[if_pos h2];exact⟨h,by dsimp only;omega⟩
  rw[if_neg h2];by_cases h3:(Zct (Zm r) r.at_).2.2≠(0,0)
  ·rw[if_pos h3];exact⟨h,by dsimp only;omega⟩
  rw[if_neg h3];have ho:r.over=false:=by simpa using h1
  have hmu:=zwy ho;have hl1:1≤(Zm r).length:=by
   cases hl:Zm r with
   | nil=>rw[hl]at h2;simp at h2
   | cons c q=>simp
  have hl2:(Zm r).length≤1500:=by
   have:=hr.l;have e:Zm r=hdC 10 r.rest:=by unfold Zm;rw[ho];rfl
   rw[e];have:=z0d 10 r.rest;omega
  have k1:fsz (fz (Zct (Zm r) r.at_).1)≤300:=by
   rw[za6];have:=zvf (hdC 124 (Zm r));unfold Zct;split
   ·dsimp only;omega
   ·dsimp only;omega
  have k2:(fzs (Zct (Zm r) r.at_).2.1).length≤1000∧∀x∈fzs (Zct (Zm r) r.at_).2.1,fsz x≤300:=by
   unfold Zct;split
   ·simp[fzs]
   ·exact zwx (by have:=z9x 124 (Zm r);omega)
  refine zwz t ht n _ _ (zej hr) ⟨?_,?_,?_⟩ ?_
  ·have:=h.al;simp only[Y1,Ym,Yal];omega
  ·intro x hx;rcases Ya9.1 hx with hx | hx
   ·exact h.c x hx
   ·rw[Ydz]at hx;rw[hx];exact k1
  ·intro q hq;rcases Ya9.1 hq with hq | hq
   ·exact h.a q hq
   ·rw[Ydz]at hq;rw[hq];exact k2
  ·simp only[Y1,Ym,Yal];omega
theorem z1h(c:UInt8){r:Rd}(h:r.rest.length≤1500):(fzs (Zex c r).1).length≤1000∧∀x∈fzs (Zex c r).1,fsz x≤300:=by
 unfold Zex;split
 ·refine zwx ?_;have e:(Zm r).length≤r.rest.length:=by
   unfold Zm;split
   ·simp
   ·exact z0d 10 r.rest
  simp only[Yak];omega
 ·simp[fzs]
theorem z4p(t:List UInt8)(ht:t.length≤1500)(h:(Zbs t).2=(0,0)):SmS (Zbs t).1:=by
 have h0:RdOk t ⟨t,0,false⟩:=⟨Yo _,Ye _,fun _=>Y8 _⟩;have k1:=zej h0;have m0:=zwy (r:=⟨t,0,false⟩) rfl;have m1:muR ⟨t,0,false⟩=t.length+1:=rfl;obtain⟨S,hc⟩:=zwz t ht (t.length+2) (Zac ⟨t,0,false⟩) ⟨Zm ⟨t,0,false⟩,[],[]⟩ k1 ⟨rfl,fun x hx=>by simp at hx,fun x hx=>by simp at hx⟩ (by simp;omega);have o2:=zpd (t.length+2) (Zac ⟨t,0,false⟩) ⟨Zm ⟨t,0,false⟩,[],[]⟩ k1;have hS:Zav t=Za0 t (t.length+2) (Zac ⟨t,0,false⟩) ⟨Zm ⟨t,0,false⟩,[],[]⟩:=rfl;rw[←hS]at S hc o2;have o3:=zej o2;obtain⟨b1,b2⟩:=z1h 98 (r:=(Zav t).1) (by have:=o2.l;omega);obtain⟨e1,e2⟩:=z1h 101 (r:=Zac (Zav t).1) (by have:=o3.l;omega);have nmS:∀(n:Nat) (r:Rd) (s:Sg),(Za0 t n r s).2.1.nm=s.nm:=by
  intro n
  induction n with
  | zero=>intro r s;rfl
  | succ n ih=>
   intro r s;unfold Za0;split
   ·rfl
   ·split
    ·rfl
    ·split
     ·rfl
     ·rw[ih]
 have hnm:(Zav t).2.1.nm=Zm ⟨t,0,false⟩:=nmS _ _ _;unfold Zbs at h ⊢;by_cases q1:Zaj 2 (Zm ⟨t,0,false⟩)=false
 ·rw[if_pos q1]at h;simp at h
 have hn:=(zj1 (t:=Zm ⟨t,0,false⟩) (by simpa using q1)).2;rw[if_neg q1]at h ⊢;by_cases q2:(Zav t).2.2≠(0,0)
 ·rw[if_pos q2]at h;exact absurd h q2
 rw[if_neg q2]at h ⊢;have al:=S.al;have mk:∀b e:List Fz,(b.length≤1000∧∀x∈b,fsz x≤300)→(e.length≤1000∧∀x∈e,fsz x≤300)→SmS (smG (Zav t).2.1 b e):=fun b e hb he=>
  ⟨by show (Zav t).2.1.nm.length≤1000;rw[hnm];omega,by show (Zav t).2.1.c.length≤1000;omega,by show (Zav t).2.1.a.length≤1000;omega,hb.1,he.1,S.c,S.a,hb.2,he.2⟩
 split
 ·exact mk _ _ ⟨b1,b2⟩ ⟨by simp,by simp⟩
 ·split
  ·exact mk _ _ ⟨b1,b2⟩ ⟨e1,e2⟩
  ·exact mk _ _ ⟨b1,b2⟩ ⟨e1,e2⟩
def Ze(l:List Nat):List (List AV):=l.map fun(n:Nat)=>[.i .i64 n]
theorem zba(l:List Nat):(Ze l).length=l.length:=by simp[Ze]
theorem zan(l:List Nat):wkL (Ze l)=Ze l:=by
 unfold Ze
 induction l with
 | nil=>rfl
 | cons a l ih=>rw[Yy,zqe,ih];rfl
theorem zs4(l:List Nat)(n:Nat):Ze l++[[.i .i64 n]]=Ze (l++[n]):=by simp[Ze]
def Zml:Nat→List UInt8→List Nat
 | _,[]=>[]
 | k,c::r=>if c=10 then (k+1)::Zml (k+1) r else Zml (k+1) r
def stL(k:Nat)(l:List UInt8):List Nat:=Zml k l++[k+l.length+1]
def stM(t:List UInt8)(i:Nat):List Nat:=0::Zml 0 (t.take i)
section
variable{T:Tbl}[Zm4 T]
def Zsq(t:List UInt8)(i:Nat):St:=
 if stM t i=[0] then ⟨[(0,.s t),(3,.sl [[.i .i64 0]] .fu),(4,.i .i64 i)],[],2⟩
 else ⟨[(0,.s t),(3,.bs (.loc 20) 1 1 0 (stM t i).length),(4,.i .i64 i)],[(.loc 20,⟨1,.own,1,Ze (stM t i)⟩)],3⟩
def Zq0(t:List UInt8):Option (Ex×St):=
 if stM t t.length=[0] then some (.n,⟨[(0,.s t),(3,.sl [[.i .i64 0]] .fu)],[],2⟩)
 else some (.n,⟨[(0,.s t),(3,.bs (.loc 20) 1 1 0 (stM t t.length).length)],[(.loc 20,⟨1,.own,1,Ze (stM t t.length)⟩)],3⟩)
def Zsr(s:List UInt8)(i:Nat):St:=⟨[(0,.s s),(3,.i .i64 i)],[],2⟩
end
def Z3(l:List (List Nat)):List (List AV):=l.map fun t=>[.sl (Ze t) .an]
theorem zcq(l:List (List Nat)):(Z3 l).length=l.length:=by simp[Z3]
theorem zed(l:List (List Nat))(t:List Nat):Z3 l++[[.sl (Ze t) .an]]=Z3 (l++[t]):=by simp[Z3]
theorem zbn(l:List (List Nat)):wkL (Z3 l)=Z3 l:=by
 unfold Z3
 induction l with
 | nil=>rfl
 | cons a l ih=>
  rw[Yy,zqe,ih];congr 1;simp[zan]
theorem zbd{L:List Nat}{n p:Nat}(h:L[n]? = some p):(Ze L)[n]? = some [.i .i64 p]:=by
 unfold Ze;simp[h]
section
variable{T:Tbl}[Zah T]
def Zld(l:List Nat)(i k0 j:Nat):St:=⟨[(0,.sl (Ze l) .an),(1,.i .i64 i),(5,.i .i64 (k0-j:Nat))],[],2⟩
theorem zzq(l:List Nat)(i k0 r a:Nat)(hi:i=k0+1)(hil:i<l.length)(hr:r≤k0)(hlen:l.length≤1000)(ha:l[i]? = some (a+1))(h0:l[r]? = some a)(hk:∀k,r<k→k<i→l[k]?≠some a)(hb:∀x∈l,x≤1000) :
  Zj T 0 0 (.norm false [5]) l605_0 (Zld l i k0 0)=some (.n,⟨[(5,.i .i64 r)],[],2⟩):=by
 have hwk:=zan l;have hln:=zba l;have ia:=zbd ha;have ha1:a+1≤1000:=hb _ (Yi ha);have hsub:IntKind.wrap .i64 (a:Int)=(a:Int):=zac _ (by omega);refine za2 (Zld l i k0) (k0-r) _ (fun j hj=>?_) ?_
 ·obtain⟨k',hk'⟩:∃k',k0-j=k'+1:=⟨k0-j-1,by omega⟩;have hk'':k0-(j+1)=k':=by omega
  have hkl:k'+1<l.length:=by omega
  have hkI:(k':Int)+1<l.length:=by omega
  have hiI:(i:Int)<l.length:=by omega
  obtain⟨x,hx⟩:∃x,l[k'+1]? = some x:=⟨l[k'+1]'hkl,Ya hkl⟩;have ix:=zbd hx;have hne:¬ x=a:=fun e=>hk (k'+1) (by omega) (by omega) (by rw[hx,e]);have hne':¬ (x:Int)=(a:Int):=by omega
  have hw:IntKind.wrap .i64 (k':Int)=(k':Int):=zac _ (by omega);unfold Zld;rw[hk',hk''];rw[←hln]at hkl hkI hiI hil;generalize Ze l=R at *
  obtain⟨j0,ia⟩:=Yd.1 ia;obtain⟨j1,ix⟩:=Yd.1 ix;have g0:R[i]? = some (R[i]'j0):=Ya j0;have g1:R[k'+1]? = some (R[k'+1]'j1):=Ya j1;simp only[Yax,Yar]at ia;clear hk h0 ha hx hb hi;simp -implicitDefEqProofs[l605_0,hkl,hkI,hiI,hil,g0,g1,ia,ix,hsub,hne,hne',hw,hwk]
 ·have e:k0-(k0-r)=r:=by omega
  have hrl:r<l.length:=by omega
  have hrI:(r:Int)<l.length:=by omega
  have hiI:(i:Int)<l.length:=by omega
  have i0:=zbd h0;unfold Zld;rw[e];rw[←hln]at hrl hrI hiI hil;generalize Ze l=R at *
  obtain⟨j0,ia⟩:=Yd.1 ia;obtain⟨j1,i0⟩:=Yd.1 i0;have g0:R[i]? = some (R[i]'j0):=Ya j0;have g1:R[r]? = some (R[r]'j1):=Ya j1;simp only[Yax,Yar]at ia;clear hk h0 ha hb hi;constructor<;>simp -implicitDefEqProofs[l605_0,hrl,hrI,hiI,hil,g0,g1,ia,i0,hsub]
theorem zjs(l:List Nat)(i r a:Nat)(hil:i<l.length)(hr:r<i)(hlen:l.length≤1000)(ha:l[i]? = some (a+1))(h0:l[r]? = some a)(hk:∀k,r<k→k<i→l[k]?≠some a)(hb:∀x∈l,x≤1000) :
  Za T 605 [.sl (Ze l) .an,.i .i64 i]=some (.i .i64 r):=by
 obtain⟨k0,rfl⟩:∃k0,i=k0+1:=⟨i-1,by omega⟩;have L:=zzq (T:=T) l (k0+1) k0 r a rfl hil (by omega) hlen ha h0 hk hb;have hwk:=zan l;have hw:IntKind.wrap .i64 (k0:Int)=(k0:Int):=zac _ (by omega);unfold Zld at L;simp only[Ydb,Yax,Yar]at L;rw[zab Zah.h605 rfl,b605];clear ha h0 hk hb;generalize Ze l=R at *
 simp -implicitDefEqProofs[L,hwk,hw]
def Zle(n i:Nat):St:=⟨[(0,.i .i64 n),(3,.bs (.loc 3) 1 1 0 0),(4,.bs (.loc 4) 2 1 0 i),(15,.i .i64 n),(16,.i .i64 i)],[(.loc 3,⟨1,.own,1,[]⟩),(.loc 4,⟨2,.own,1,Ze (List.range i)⟩)],4⟩
theorem zzr(n:Nat)(hn:n≤1000):Zj T 0 0 (.norm false [0,3,4]) l589_0 (Zle n 0)=some (.n,⟨[(0,.i .i64 n),(3,.bs (.loc 3) 1 1 0 0),(4,.bs (.loc 4) 2 1 0 n)],[(.loc 3,⟨1,.own,1,[]⟩),(.loc 4,⟨2,.own,1,Ze (List.range n)⟩)],4⟩):=by
 refine za2 (Zle n) n _ (fun i hi=>?_) ?_
 ·have hi':(i:Int)<n:=by omega
  have hws:=zbv hi (by omega);have hc:i≤4294967295:=by omega
  have hl:=zba (List.range i);rw[List.length_range]at hl;have ht:List.take i (Ze (List.range i))=Ze (List.range i):=Yb (by omega);have hw:=zan (List.range (i+1));unfold Zle;rw[List.range_succ,←zs4]at hw ⊢;generalize Ze (List.range i)=R at *
  simp -implicitDefEqProofs[l589_0,hi,hi',hws,hc,hl,ht,hw]
 ·have hw:=zan (List.range n);unfold Zle;generalize Ze (List.range n)=R at *
  constructor<;>simp -implicitDefEqProofs[l589_0,hw]
end
def Zdz:Int→List Int→Bool
 | _,[]=>true
 | p,x::l=>decide (1≤x)&&decide (x-1≤p)&&Zdz x l
def Zb5:List Int→Bool
 | []=>false
 | x::l=>decide (x=0)&&Zdz x l
def Za5(l:List Int):Bool:=decide (l.length≤8)&&Zb5 l
def Zoi(t:List Nat):List (List Nat):=(List.range (t.getLast?.getD 0+1)).map fun x=>t++[x+1]
def Zlz:Nat→List (List Nat)
 | 0=>[[0]]
 | n+1=>(Zlz n).flatMap Zoi
def allT:List (List Nat):=(List.range 8).flatMap Zlz
def Zba(t:List Nat):List Int:=t.map fun(n:Nat)=>(n:Int)
def Zoj(t:List Nat)(a:Nat):Nat→Nat
 | 0=>0
 | k+1=>if t[k+1]? = some a then k+1 else Zoj t a k
def Zdu(t:List Nat)(i:Nat):Nat:=Zoj t (t[i]?.getD 0-1) (i-1)
def Zhy(a:Nat):List Nat→Nat
 | []=>0
 | x::l=>if a<x then Zhy a l+1 else 0
def enT(t:List Nat)(i:Nat):Nat:=i+1+Zhy (t[i]?.getD 0) (t.drop (i+1))
def Zl0(t:List Nat)(i:Nat)(q:List Nat×Nat):List Nat×Nat:=
 let s:=q.1[i]?.getD 0+1
 let l:=q.1.set i s
 (if 0<i then l.set (Zdu t i) (l[Zdu t i]?.getD 0+s) else l,q.2*s)
def Zdc(t:List Nat):Nat→List Nat×Nat
 | 0=>(List.replicate t.length 0,1)
 | j+1=>Zl0 t (t.length-1-j) (Zdc t j)
def Zl1(t:List Nat):Nat:=(Zdc t t.length).2
def Zht(t:List Nat):Nat→Nat
 | 0=>1
 | k+1=>Zht t k*(enT t k-k)
def Zd0(t:List Nat):Nat:=Zht t t.length
def Zi4(t:List Nat)(q:Nat):List Nat:=(List.range t.length).filter fun c=>decide (0<c)&&decide (Zdu t c=q)
def Zgx(t:List Nat)(e:Nat):Nat→Nat→List Nat
 | 0,_=>[]
 | f+1,c=>if c<e then c::Zgx t e f (enT t c) else []
def Zkm(t:List Nat)(q:Nat):List Nat:=Zgx t (enT t q) t.length (q+1)
def Zjp(t:List Nat)(i:Nat):Bool:=
 decide (1≤t[i]?.getD 0)&&decide (Zdu t i<i)&&decide (t[Zdu t i]?.getD 9+1=t[i]?.getD 0)&&((List.range i).all fun k=>decide (k≤Zdu t i) || decide (t[k]?.getD 9+1≠t[i]?.getD 0))
def Zhz(t:List Nat):Bool:=
 decide (1≤t.length)&&decide (t.length≤8)&&t.all (fun x=>decide (x≤8))&&((List.range t.length).all fun i=>decide (i=0) || Zjp t i) &&
 decide (Zl1 t=Zd0 t)&&((List.range (t.length+1)).all fun j=>decide (Zht t j≤100000)&&(Zdc t j).1.all (fun x=>decide (x≤8))&&decide ((Zdc t j).2≤100000)&&decide ((Zdc t j).1.length=t.length)) &&
 ((List.range t.length).all fun i=>decide (Zi4 t i=Zkm t i))
theorem z0r:allT.all Zhz=true:=by decide +kernel
theorem zxz(x:Int):∀(l:List Int) (p:Int),Zdz p (l++[x])=(Zdz p l&&(decide (1≤x)&&decide (x-1≤l.getLast?.getD p))):=by
 intro l
 induction l with
 | nil=>intro p;simp[Zdz];rfl
 | cons a l ih=>
  intro p;rw[Ybm,Zdz,Zdz,ih];have:(a::l).getLast?.getD p=l.getLast?.getD a:=by cases l<;>simp[List.getLast?_cons]
  rw[this];simp only[Bool.and_assoc]
theorem zx0:∀(n:Nat) (l:List Int),l.length=n+1→Zb5 l=true→∃t∈Zlz n,l=Zba t:=by
 intro n
 induction n with
 | zero=>
  intro l hl hr
  match l,hl with
  | [x],_=>
   refine⟨[0],by simp[Zlz],?_⟩;simp[Zb5,Zdz]at hr;simp[Zba,hr]
 | succ n ih=>
  intro l hl hr;obtain⟨m,x,rfl⟩:∃m x,l=m++[x]:=⟨l.dropLast,l.getLast (by intro h;simp[h]at hl),(Ycm _).symm⟩;have hm:m.length=n+1:=by simpa using hl
  obtain⟨a,m',rfl⟩:∃a m',m=a::m':=by cases m<;>simp_all
  rw[Ybm,Zb5,zxz]at hr;simp only[Yn,decide_eq_true_eq]at hr;obtain⟨h0,h1,h2,h3⟩:=hr;obtain⟨t,ht,e⟩:=ih (a::m') hm (by subst h0;simp[Zb5,h1]);have hlast:m'.getLast?.getD a=((t.getLast?.getD 0:Nat):Int):=by
   have:(a::m').getLast? = some (m'.getLast?.getD a):=by rw[List.getLast?_cons]
   rw[e,Zba,List.getLast?_map]at this;cases h:t.getLast? with
   | none=>rw[h]at this;simp at this
   | some y=>rw[h]at this;simp at this;simp[this]
  refine⟨t++[x.toNat],?_,?_⟩
  ·rw[Zlz,Yap];refine⟨t,ht,?_⟩;rw[Zoi,Y6];exact⟨x.toNat-1,by rw[Ycb];omega,by congr 2;omega⟩
  ·rw[e];simp only[Zba,Yct,Yy,Ycp];congr 2;omega
theorem znw{l:List Int}(h:Za5 l=true):∃t∈allT,l=Zba t∧Zhz t=true:=by
 simp only[Za5,Yn,decide_eq_true_eq]at h;have h1:l≠[]:=by
  rintro rfl
  simp[Zb5]at h
 have h2:0<l.length:=Ybp.2 h1;obtain⟨t,ht,e⟩:=zx0 (l.length-1) l (by omega) h.2;have ha:t∈allT:=Yap.2 ⟨l.length-1,by rw[Ycb];omega,ht⟩;exact⟨t,ha,e,Yf.1 z0r t ha⟩
structure TrOk (t:List Nat):Prop where
 l1:1≤t.length
 l8:t.length≤8
 v:∀x∈t,x≤8
 p:∀i,0<i→i<t.length→Zjp t i=true
 den:Zl1 t=Zd0 t
 dk:∀j,j≤t.length→Zht t j≤100000
 dj:∀j,j≤t.length→(∀x∈(Zdc t j).1,x≤8)∧(Zdc t j).2≤100000∧(Zdc t j).1.length=t.length
 kid:∀i,i<t.length→Zi4 t i=Zkm t i
theorem zq6{t:List Nat}(h:Zhz t=true):TrOk t:=by
 simp only[Zhz,Yn,decide_eq_true_eq,Yf,Ya1,Ycb]at h;obtain⟨⟨⟨⟨⟨⟨h1,h2⟩,h3⟩,h4⟩,h5⟩,h6⟩,h7⟩:=h;exact⟨h1,h2,h3,fun i hi hl=>(h4 i hl).resolve_left (by omega),h5,fun j hj=>(h6 j (by omega)).1.1.1,fun j hj=>⟨(h6 j (by omega)).1.1.2,(h6 j (by omega)).1.2,(h6 j (by omega)).2⟩,h7⟩
theorem zqs(t:List Nat):ints (Zba t)=Ze t:=by simp[ints,Zba,Ze]
theorem inRg(x:Int)(h1:-9223372036854775808≤x)(h2:x<9223372036854775808):IntKind.wrap .i64 x=x:=zac _ ⟨h1,h2⟩
section
variable{T:Tbl}[Zah T]
def Zji(l:List Int)(i:Nat):St:=⟨[(0,.sl (ints l) .an),(3,.i .i64 ((i+1:Nat):Int))],[],2⟩
def Zfq(b:Bool):Option (Ex×St):=if b then some (.n,⟨[],[],2⟩) else some (.r,⟨[(2,.b false)],[],2⟩)
theorem z3o(x0:Int)(t:List Int)(hl:t.length≤1000000)(hw:∀x∈x0::t,-9223372036854775808≤x∧x<9223372036854775808) :
  Zj T 0 0 (.norm false []) l594_0 (Zji (x0::t) 0)=Zfq (Zdz x0 t):=by
 have key:=zaq (T:=T) (k:=0) (id:=0) (g2:=.norm false []) (c:=l594_0) (Zji (x0::t)) t.length (fun i=>Zfq (Zdz ((x0::t)[i]?.getD 0) (t.drop i))) (fun i hi=>?_) ?_
 ·simpa using key
 ·have hi':(i:Int)+1<t.length+1:=by omega
  have hii:(i:Int)<t.length+1:=by omega
  have hi2:i<t.length+1:=by omega
  have hws:IntKind.wrap .i64 ((i:Int)+1+1)=(i:Int)+1+1:=inRg _ (by omega) (by omega);have hw1:IntKind.wrap .i64 (i:Int)=(i:Int):=inRg _ (by omega) (by omega);have e1:(x0::t)[i+1]? = some t[i]:=by simp[hi]
  have e0:(x0::t)[i]? = some ((x0::t)[i]'(by simp;omega)):=Ya _;have hd:t.drop i=t[i]::t.drop (i+1):=(Yb3 ..).symm;obtain⟨h1,h2⟩:=hw t[i] (by simp);rw[hd,e0,Yaq];generalize (x0::t)[i]'(by simp;omega)=p at *
  generalize hx:t[i]=x at *
  have hlen:(ints (x0::t)).length=t.length+1:=by simp
  have hwk:=ze2 (x0::t);have q0:(ints (x0::t))[i]? = some [.i .i64 p]:=by rw[ints_get?,e0];rfl
  have q1:(ints (x0::t))[i+1]? = some [.i .i64 x]:=by rw[ints_get?,e1];rfl
  clear hw;have hwx:1≤x→IntKind.wrap .i64 (x-1)=x-1:=fun h=>inRg _ (by omega) (by omega);rw[show Zdz p (x::t.drop (i+1))=(decide (1≤x)&&decide (x-1≤p)&&Zdz x (t.drop (i+1))) from rfl];unfold Zji;generalize ints (x0::t)=R at *
  obtain⟨j0,a0⟩:=Yd.1 q0;obtain⟨j1,a1⟩:=Yd.1 q1;have q0:R[i]? = some (R[i]'j0):=Ya j0;have q1:R[i+1]? = some (R[i+1]'j1):=Ya j1;by_cases c1:1≤x
  ·have hwx:=hwx c1;have c1':¬ x<1:=by omega
   by_cases c2:x-1≤p
   ·left;have c2':¬ p<x-1:=by omega
    refine⟨?_,?_⟩
    ·simp -implicitDefEqProofs[l594_0,hlen,hwk,hi',hii,hi2,hi,hws,hw1,q0,q1,a0,a1,hwx,c1',c2']
    ·simp[c1,c2,hi,hx,Zfq]
   ·right;have c2':p<x-1:=by omega
    constructor<;>simp -implicitDefEqProofs[l594_0,hlen,hwk,hi',hii,hi2,hi,hws,hw1,q0,q1,a0,a1,hwx,c1',c1,c2,c2',Zfq]
  ·right;have c1':x<1:=by omega
   constructor<;>simp -implicitDefEqProofs[l594_0,hlen,hwk,hi',hii,hi2,hi,hws,hw1,q0,q1,a0,a1,c1',c1,Zfq]
 ·have h0:¬ (t.length:Int)+1<t.length+1:=by omega
  unfold Zji;constructor<;>simp -implicitDefEqProofs[l594_0,h0,Zfq,Zdz]
theorem zow(l:List Int)(hl:l.length≤1000000)(hw:∀x∈l,-9223372036854775808≤x∧x<9223372036854775808):Za T 594 [.sl (ints l) .an]=some (.b (Zb5 l)):=by
 rw[zab Zah.h594 rfl,b594]
 match l with
 | []=>simp -implicitDefEqProofs[Zb5]
 | x::t=>
  have hne:¬ (t.length:Int)+1=0:=by omega
  have hp0:(0:Int)<(t.length:Int)+1:=by omega
  have L:=z3o (T:=T) x t (by simp at hl;omega) hw;by_cases h0:x=0
  ·subst h0;simp only[Zji,Y8,Yar]at L;have hlen:(ints (0::t)).length=t.length+1:=by simp
   have hwk:=ze2 (0::t);have q0:(ints (0::t))[0]? = some [.i .i64 0]:=rfl;have e:Zb5 (0::t)=Zdz 0 t:=by simp[Zb5]
   rw[e];generalize ints (0::t)=R at *
   obtain⟨j0,a0⟩:=Yd.1 q0;cases hb:Zdz 0 t<;>simp -implicitDefEqProofs[L,hne,hp0,hlen,hwk,q0,a0,Zfq,hb]
  ·have e:Zb5 (x::t)=false:=by simp[Zb5,h0]
   have hlen:(ints (x::t)).length=t.length+1:=by simp
   have hwk:=ze2 (x::t);have q0:(ints (x::t))[0]? = some [.i .i64 x]:=rfl;rw[e];clear hw L;generalize ints (x::t)=R at *
   obtain⟨j0,a0⟩:=Yd.1 q0;simp -implicitDefEqProofs[hne,hp0,hlen,hwk,q0,a0,h0]
theorem ze0(l:List Int)(hl:l.length≤1000000)(hw:∀x∈l,-9223372036854775808≤x∧x<9223372036854775808):Za T 607 [.sl (ints l) .an]=some (.b (Za5 l)):=by
 have c:=zow (T:=T) l hl hw;rw[zab Zah.h607 rfl,b607];unfold Za5;by_cases h:l.length≤8
 ·have h':(l.length:Int)≤8:=by omega
  simp -implicitDefEqProofs[c,h,h']
 ·have h':¬ (l.length:Int)≤8:=by omega
  simp -implicitDefEqProofs[h,h']
theorem zh8{t:List Nat}(ht:TrOk t){i:Nat}(h0:0<i)(hi:i<t.length):Zdu t i<i∧Za T 605 [.sl (Ze t) .an,.i .i64 i]=some (.i .i64 (Zdu t i)):=by
 have h:=ht.p i h0 hi;simp only[Zjp,Yn,decide_eq_true_eq,Yf,Ya1,Ycb]at h;obtain⟨⟨⟨h1,h2⟩,h3⟩,h4⟩:=h;refine⟨h2,?_⟩;generalize Zdu t i=r at *
 have e1:t[i]? = some t[i]:=Ya hi;have e2:t[r]? = some (t[r]'(by omega)):=Ya (by omega);rw[e1]at h1 h3 h4;rw[e2]at h3;simp only[Yaq]at h1 h3 h4;have l8:=ht.l8;exact zjs (T:=T) t i r t[r] hi h2 (by omega) (by rw[e1,h3]) e2 (fun k h5 h6 h7=>by
  rcases h4 k h6 with h8 | h8
  ·omega
  ·rw[h7]at h8;exact h8 h3) (fun x hx=>by have:=ht.v x hx;omega)
def Zjj(t:List Nat)(j:Nat):St:=⟨[(0,.sl (Ze t) .an),(3,.bs (.loc 11) 1 1 0 t.length),(4,.i .i64 ((Zdc t j).2:Nat)),(5,.i .i64 ((t.length:Int)-1-j))],[(.loc 11,⟨1,.own,1,Ze (Zdc t j).1⟩)],3⟩
theorem zjt(l:List Nat)(i x:Nat):(Ze l).set i [.i .i64 x]=Ze (l.set i x):=by
 simp[Ze,Ycs]
theorem z3p{t:List Nat}(ht:TrOk t):Zj T 0 0 (.norm false [4]) l595_0 (Zjj t 0)=some (.n,⟨[(4,.i .i64 (Zl1 t:Nat))],[],2⟩):=by
 have l8:=ht.l8;have l1:=ht.l1;refine za2 (Zjj t) t.length _ (fun j hj=>?_) ?_
 ·obtain⟨i,hi⟩:∃i,i=t.length-1-j:=⟨_,rfl⟩;have hil:i<t.length:=by omega
  have ei:(t.length:Int)-1-j=i:=by omega
  have ei2:(t.length:Int)-1-(j+1:Nat)=i-1:=by omega
  obtain⟨b1,b2,b3⟩:=ht.dj j (by omega);obtain⟨d1,d2,d3⟩:=ht.dj (j+1) (by omega);have en:Zdc t (j+1)=Zl0 t i (Zdc t j):=by rw[Zdc,hi]
  unfold Zjj;rw[ei,ei2];rw[en]at d1 d2 d3 ⊢;unfold Zl0 at d1 d2 d3 ⊢;generalize Zdc t j=q at *
  obtain⟨s,o⟩:=q;dsimp only at *
  have e1:s[i]? = some (s[i]'(by omega)):=Ya (by omega);have hx:s[i]'(by omega)≤100:=Yc (b1 _ (Yr _)) (by decide);rw[e1]at d1 d2 d3 ⊢;generalize s[i]'(by omega)=x at *
  simp only[Yaq]at d1 d2 d3 ⊢;obtain⟨z,hz⟩:∃z,z=x+1:=⟨_,rfl⟩;rw[←hz]at d1 d2 d3 ⊢;have hwt:=zan t;have hws:=zan s;have hwi:IntKind.wrap .i64 ((i:Int)-1)=(i:Int)-1:=inRg _ (by omega) (by omega);have hwx:IntKind.wrap .i64 ((x:Int)+1)=(z:Int):=by
   rw[inRg _ (by omega) (by omega)];omega
  have hwo:IntKind.wrap .i64 ((o:Int)*(z:Int))=((o*z:Nat):Int):=by
   rw[←Ydc];generalize o*z=m at *
   exact inRg _ (by omega) (by omega)
  have hiI:(i:Int)<t.length:=by omega
  have hls:=zba s;have q0:=zbd e1;have hset:(Ze s).set i [.i .i64 (z:Int)]=Ze (s.set i z):=zjt s i z;by_cases h0:0<i
  ·obtain⟨p1,c1⟩:=zh8 (T:=T) ht h0 hil;generalize Zdu t i=p at *
   have h0':(0:Int)<i:=by omega
   have hpl:p<t.length:=by omega
   have hpI:(p:Int)<t.length:=by omega
   rw[if_pos h0]at d1 d3 ⊢;have ne:i≠p:=by omega
   obtain⟨y,e20⟩:∃y,s[p]? = some y:=⟨s[p]'(by omega),Ya (by omega)⟩;have hy:y≤100:=Yc (b1 _ (Yi e20)) (by decide);have e2:(s.set i z)[p]? = some y:=by rw[Ya3 ne];exact e20
   rw[e2]at d1 d3 ⊢;simp only[Yaq]at d1 d3 ⊢;have e3:(s.set i z)[i]? = some z:=Yas (by omega);have q2:=zbd e2;have q3:=zbd e3;obtain⟨v,hv⟩:∃v,v=y+z:=⟨_,rfl⟩;rw[←hv]at d1 d3 ⊢;have hwy:IntKind.wrap .i64 ((y:Int)+(z:Int))=(v:Int):=by
    rw[inRg _ (by omega) (by omega)];omega
   have hset2:(Ze (s.set i z)).set p [.i .i64 (v:Int)]=Ze ((s.set i z).set p v):=zjt _ _ _;have hl2:=zba (s.set i z);rw[Ydq]at hl2;have hw2:=zan (s.set i z);have hw3:=zan ((s.set i z).set p v);rw[←hset2,←hset];rw[←hset]at q2 q3 hset2 hl2 hw2;rw[←hset2]at hw3;have hgs:(i:Int)≥0:=by omega
   clear d1 d2 d3 hset hset2 e1 e2 e3 en;generalize Ze s=R at *
   generalize Ze t=Q at *
   obtain⟨j0,a0⟩:=Yd.1 q0;obtain⟨j2,a2⟩:=Yd.1 q2;obtain⟨j3,a3⟩:=Yd.1 q3;have q0:=Ya j0;have q2:=Ya j2;have q3:=Ya j3;have hi0:¬ i=0:=by omega
   simp -implicitDefEqProofs[l595_0,hi0,c1,a0,a2,a3, h0',hil,hpl,hpI,hiI,hwi,hwx,hwo,hwy,hls,hl2,b3,q0,q2,q3,hw2,hw3,hwt,hws,hgs]
  ·have h00:i=0:=by omega
   subst h00;rw[if_neg h0]at d1 d3 ⊢;have e3:(s.set 0 z)[0]? = some z:=Yas (by omega);have q3:=zbd e3;have hl2:=zba (s.set 0 z);rw[Ydq]at hl2;have hw2:=zan (s.set 0 z);rw[←hset];rw[←hset]at q3 hl2 hw2;clear d1 d2 d3 hset e1 e3 en;generalize Ze s=R at *
   generalize Ze t=Q at *
   obtain⟨j0,a0⟩:=Yd.1 q0;obtain⟨j3,a3⟩:=Yd.1 q3;have q0:=Ya j0;have q3:=Ya j3;have hm1:IntKind.wrap .i64 (-1)=-1:=inRg _ (by omega) (by omega);have hlt:(0:Int)<t.length:=by omega
   simp only[Yw]at *
   simp -implicitDefEqProofs[l595_0,a0,a3,hil,hlt,hwx,hwo,hls,hl2,b3,q0,q3,hw2,hwt,hws,hm1]
 ·have hwt:=zan t;have ei:(t.length:Int)-1-t.length=-1:=by omega
  unfold Zjj Zl1;rw[ei];generalize Zdc t t.length=q at *
  constructor<;>simp -implicitDefEqProofs[l595_0,hwt]
theorem zfn{t:List Nat}(ht:TrOk t)(hs:Za5 (Zba t)=true):Za T 595 [.sl (Ze t) .an]=some (.i .i64 (Zd0 t:Nat)):=by
 have l8:=ht.l8;have l1:=ht.l1;have L:=z3p (T:=T) ht;have c:=ze0 (T:=T) (Zba t) (by simp[Zba];omega) (fun x hx=>by
  obtain⟨n,hn,rfl⟩:=Y6.1 hx;have:=ht.v n hn;omega)
 rw[zqs,hs]at c;have hwt:=zan t;have hl:=zba t;have hw:IntKind.wrap .i64 ((t.length:Int)-1)=(t.length:Int)-1:=inRg _ (by omega) (by omega);have hr:List.replicate t.length [AV.i .i64 0]=Ze (List.replicate t.length 0):=by simp[Ze]
 have hwr:=zan (List.replicate t.length 0);rw[←ht.den];unfold Zjj at L;simp only[Zdc]at L;rw[show (((0:Nat):Int))=0 from rfl,show (((1:Nat):Int))=1 from rfl,Int.sub_zero]at L;rw[zab Zah.h595 rfl,b595];generalize Ze t=Q at *
 generalize Zl1 t=D at *
 have hle:t.length≤4294967295:=by omega
 have hleI:(t.length:Int)≤4294967295:=by omega
 have hleI2:(t.length:Int)≤4294967296:=by omega
 simp -implicitDefEqProofs[c,hl,hw,hwt,hr,hwr,L,hle,hleI,hleI2]
end
def Zb1(a:List (List Fz))(N:List Fz):List Rat:=a.map fun r=>Zb9 r N
theorem zm2:∀(r N:List Fz),Zb9 r (N.take r.length)=Zb9 r N
 | [],N=>by simp[Zb9]
 | x::r,[]=>by simp[Zb9]
 | x::r,y::N=>by simp[Zb9,zm2 r N]
theorem zm3(r N:List Fz):Zdm r (N.take r.length) r.length=Zb9 r N:=by
 unfold Zdm;rw[Yb (Ye _),List.take_take,Nat.min_self,zm2]
theorem zfo{a b:List Fz}(hab:a.length=b.length){A B:Nat}(ha:∀x∈a,fsz x≤A)(hb:∀x∈b,fsz x≤B)(hA:1≤A)(hB:1≤B):∀i,i≤a.length→sz (Zdm a b i)≤i*(A+B+1)+1
 | 0,_=>by
  have:Zdm a b 0=0:=rfl;rw[this,zgk];omega
 | i+1,hi=>by
  have ih:=zfo hab ha hb hA hB i (by omega);rw[zii hab hi];have h1:=zxt (Zdm a b i) (fv (a[i]'hi)*fv (b[i]'(by omega)));have h2:=zet (fv (a[i]'hi)) (fv (b[i]'(by omega)));have h3:=ze4 (ha _ (Yr hi)) hA;have h4:=ze4 (hb _ (Yr (show i<b.length by omega))) hB
  grind
section
variable{T:Tbl}[Z0 T][Zq T][Zv T][Zy T][Zr T][Zn T][Zf T][Zg T][Zw T][Zag T]
def Zlf(out:List Fz)(q:Rat):Heap:=[(.loc 5,⟨1,.own,3,Zd out⟩),(.loc 8,⟨2,.str,3,[Zbg (fz q)]⟩)]
def Zlg(N:List Fz)(a:List (List Fz))(i:Nat)(out:List Fz)(r:List Fz)(j:Nat):St:=
 ⟨[(1,.sl (Zd N) .an),(5,.bs (.loc 5) 1 3 0 out.length),(8,.ptr (.loc 8) 2 3 0 0),(12,.sl (Zs a) .an),(13,.i .i64 a.length),(14,.i .i64 i),(19,.sl (Zd r) .an),(20,.i .i64 r.length),(21,.i .i64 j)],
  Zlf out (Zdm r (N.take r.length) j),4⟩
theorem zah1(N:List Fz)(a:List (List Fz))(i:Nat)(out r:List Fz)(hn:N.length≤8)(hrn:r.length≤N.length)(hr:∀x∈r,fsz x≤10)(hN:∀y∈N,fsz y≤3600) :
  Zj T 0 2 (.norm false [1,5,8,12,13,14]) l622_0 (Zlg N a i out r 0) =
   some (.n,⟨[(1,.sl (Zd N) .an),(5,.bs (.loc 5) 1 3 0 out.length),(8,.ptr (.loc 8) 2 3 0 0),(12,.sl (Zs a) .an),(13,.i .i64 a.length),(14,.i .i64 i)],Zlf out (Zb9 r N),4⟩):=by
 refine za2 (Zlg N a i out r) r.length _ (fun j hj=>?_) ?_
 ·have hab:r.length=(N.take r.length).length:=by simp;omega
  have hjN:j<N.length:=by omega
  have hjN':(j:Int)<N.length:=by omega
  have hjr':(j:Int)<r.length:=by omega
  have hws:=zbv hj (by omega);have hb:∀y∈N.take r.length,fsz y≤3600:=fun y hy=>hN y (Yav hy);have ha1:=hr _ (Yr hj);have hb1:=hN _ (Yr hjN);have c1:=zfh (T:=T) (r[j]'hj) (N[j]'hjN) (by omega) (by omega);have s1:=zfo hab hr hb (by omega) (by omega) j (by omega);have s3:=zet (fv (r[j]'hj)) (fv (N[j]'hjN));have s4:=ze4 ha1 (by omega);have s5:=ze4 hb1 (by omega);have c2:=zh0 (T:=T) (fz (Zdm r (N.take r.length) j)) (fz (fv (r[j]'hj)*fv (N[j]'hjN))) (by rw[za6];omega) (by rw[za6];omega);have e:=zii hab hj;rw[List.getElem_take]at e;rw[zbx,zbx,←e]at c2;unfold Zlg Zlf;generalize Zdm r (N.take r.length) (j+1)=Q' at *
  generalize Zdm r (N.take r.length) j=Q at *
  have e1:(Zd r)[j]? = some (Zbg (r[j]'hj)):=by simp[hj]
  simp -implicitDefEqProofs[l622_0,hj,hjr',hws,c1,c2,hjN,hjN']
 ·unfold Zlg;rw[zm3];constructor<;>simp -implicitDefEqProofs[l622_0,Zlf]
def Zlh(N:List Fz)(a:List (List Fz))(i:Nat):St:=
 ⟨[(1,.sl (Zd N) .an),(5,.bs (.loc 5) 1 3 0 (fzs (Zb1 (a.take i) N)).length),(12,.sl (Zs a) .an),(13,.i .i64 a.length),(14,.i .i64 i)],[(.loc 5,⟨1,.own,3,Zd (fzs (Zb1 (a.take i) N))⟩)],3⟩
theorem z9o(N:List Fz)(a:List (List Fz))(ha:a.length≤8)(hn:N.length≤8)(hr:∀r∈a,r.length≤N.length∧∀x∈r,fsz x≤10)(hN:∀y∈N,fsz y≤3600) :
  Zj T 0 0 (.norm false [5]) l622_1 (Zlh N a 0)=some (.n,⟨[(5,.bs (.loc 5) 1 3 0 a.length)],[(.loc 5,⟨1,.own,3,Zd (fzs (Zb1 a N))⟩)],3⟩):=by
 refine za2 (Zlh N a) a.length _ (fun i hi=>?_) ?_
 ·have hiI:(i:Int)<a.length:=by omega
  have hws:=zbv hi (by omega);have h0:=zc1 (T:=T);obtain⟨h1,h2⟩:=hr _ (Yr hi);have L:=zah1 (T:=T) N a i (fzs (Zb1 (a.take i) N)) (a[i]'hi) hn h1 h2 hN;have hl:(fzs (Zb1 (a.take i) N)).length=i:=by simp[Zb1];omega
  have hl2:(fzs (Zb1 (a.take (i+1)) N)).length=i+1:=by simp[Zb1];omega
  have e:fzs (Zb1 (a.take (i+1)) N)=fzs (Zb1 (a.take i) N)++[fz (Zb9 (a[i]'hi) N)]:=by
   rw[Ya8 hi];simp only[Zb1,fzs,Yct,Yy,Ycp]
  unfold Zlg Zlf at L;rw[show Zdm (a[i]'hi) (N.take (a[i]'hi).length) 0=0 from rfl]at L;unfold Zlh;rw[hl2,e];rw[hl]at L ⊢;rw[show (((0:Nat):Int))=0 from rfl]at L;have e1:(Zs a)[i]? = some [.sl (Zd (a[i]'hi)) .an]:=by simp[hi]
  generalize fzs (Zb1 (a.take i) N)=O at *
  have hp:=zfu hl (fz (Zb9 (a[i]'hi) N));have hc:i≤4294967295:=by omega
  have ht:O.take i=O:=Yb (by omega);rw[ht]at hp;simp -implicitDefEqProofs[l622_1,hi,hiI,hws,h0,L,e1,hl,hc,ht,hp]
 ·have e:a.take a.length=a:=Yb (by omega);have hl:(fzs (Zb1 a N)).length=a.length:=by simp[Zb1]
  unfold Zlh;rw[e,hl];constructor<;>simp -implicitDefEqProofs[l622_1]
theorem zox(s:Sm)(N:List Fz)(ha:s.a.length≤8)(hn:N.length≤8)(hr:∀r∈s.a,r.length≤N.length∧∀x∈r,fsz x≤10)(hN:∀y∈N,fsz y≤3600) :
  Za T 622 [esm s,.sl (Zd N) .an]=some (.sl (Zd (fzs (Zb1 s.a N))) .an):=by
 have L:=z9o (T:=T) N s.a ha hn hr hN;have hl:(fzs (Zb1 s.a N)).length=s.a.length:=by simp[Zb1]
 unfold Zlh at L;simp only[Yc4]at L;rw[show fzs (Zb1 [] N)=[] from rfl,show (((0:Nat):Int))=0 from rfl]at L;have ht:(fzs (Zb1 s.a N)).take s.a.length=fzs (Zb1 s.a N):=Yb (by omega);obtain⟨nm,C,M,B,E⟩:=s;dsimp only at *
 rw[zab Zag.h622 rfl,b622];generalize fzs (Zb1 M N)=O at *
 simp only[Yal,za8]at L;simp -implicitDefEqProofs[L,hl,ht]
end
section
variable{T:Tbl}{k:Nat}
theorem zvw{id:Nat}{g2:Gh}{c:AX}(E:Nat→Env)(n:Nat)(P:Nat→Heap→Nat→Prop)(E':Env)(P':Heap→Nat→Prop)
  (step:∀j h q,j<n→P j h q→∃h' q',P (j+1) h' q'∧evX (orc T) T k c ⟨E j,h,q⟩=some (.n,⟨E (j+1),h',q'⟩))
  (fin:∀h q,P n h q→Zd5 (evX (orc T) T k c ⟨E n,h,q⟩)=true∧∃h' q',P' h' q'∧Zeh k id g2 (evX (orc T) T k c ⟨E n,h,q⟩)=some (.n,⟨E',h',q'⟩)) :
  ∀h q,P 0 h q→∃h' q',P' h' q'∧Zj T k id g2 c ⟨E 0,h,q⟩=some (.n,⟨E',h',q'⟩):=by
 intro h q hP;obtain⟨r,⟨h',q',hP',rfl⟩,hr⟩:=zar (T:=T) (k:=k) (id:=id) (g2:=g2) (c:=c) (fun x:Nat×Heap×Nat=>⟨E x.1,x.2.1,x.2.2⟩)
  (fun x=>x.1≤n∧P x.1 x.2.1 x.2.2) (fun x=>n-x.1) (fun r=>∃h' q',P' h' q'∧r=(.n,⟨E',h',q'⟩)) (fun x hx=>by
   obtain⟨j,h,q⟩:=x;obtain⟨h1,h2⟩:=hx;by_cases hj:j<n
   ·obtain⟨h',q',h3,h4⟩:=step j h q hj h2;exact .inl ⟨(j+1,h',q'),⟨hj,h3⟩,by dsimp only;omega,h4⟩
   ·have:j=n:=by dsimp only at h1;omega
    subst this;obtain⟨h3,h',q',h4,h5⟩:=fin h q h2;exact .inr ⟨_,⟨h',q',h4,rfl⟩,h3,h5⟩) (0,h,q) ⟨Yo _,hP⟩
 exact⟨h',q',hP',hr⟩
end
abbrev Zde(s:Sm):List AV:=[.s s.nm,.sl (Zd s.c) .an,.sl (Zs s.a) .an,.sl (Zd s.b) .an,.sl (Zd s.e) .an]
abbrev nlc:List AV:=[.b false,.sl [] .nl,.sl [] .nl]
structure BaWt (s:Sm) (c8:List AV) (h:Heap):Prop where
 b3:List.lookup (BId.loc 3) h=some ⟨1,.str,5,[Zde s]⟩
 b6:List.lookup (BId.loc 6) h=some ⟨2,.str,3,[nlc]⟩
 b8:List.lookup (BId.loc 8) h=some ⟨3,.str,3,[c8]⟩
def Zeq(n:Nat):List Fz:=List.replicate n (fz 1)
structure PrW0 (s:Sm) (c8:List AV) (n i:Nat) (h0:Heap) (els0:List (List AV)) (g:Nat) (els:List (List AV)) (j:Nat) (h:Heap):Prop where
 ba:BaWt s c8 h
 bn:List.lookup (BId.loc 37) h=some ⟨4,.str,1,els⟩
 ln:els.length=n
 ei:els[i]? = some [.bs (.fld (.loc 37) i) g 3 0 j]
 bi:List.lookup (BId.fld (.loc 37) i) h=some ⟨g,.own,3,Zd (Zeq j)⟩
 fr:∀p,p≠i→els[p]? = els0[p]?∧List.lookup (BId.fld (.loc 37) p) h=List.lookup (BId.fld (.loc 37) p) h0
section
variable{T:Tbl}[Z0 T][Zq T][Zv T][Zy T][Zr T][Zn T][Zf T][Zg T][Zw T][Zah T][Zag T]
def Zjx(w:List Fz)(Q:List (List AV))(n i m j:Nat):Env:=
 [(1,.sl (Zd w) .an),(2,.sl Q .an),(3,.ptr (.loc 3) 1 5 0 0),(6,.ptr (.loc 6) 2 3 0 0),(8,.ptr (.loc 8) 3 3 0 0),(9,.bs (.loc 37) 4 1 0 n),(10,.i .i64 i),(39,.i .i64 n),(40,.i .i64 i),(45,.i .i64 m),(46,.i .i64 j)]
def Zhj(w:List Fz)(Q:List (List AV))(n i:Nat):Env:=
 [(1,.sl (Zd w) .an),(2,.sl Q .an),(3,.ptr (.loc 3) 1 5 0 0),(6,.ptr (.loc 6) 2 3 0 0),(8,.ptr (.loc 8) 3 3 0 0),(9,.bs (.loc 37) 4 1 0 n),(39,.i .i64 n),(40,.i .i64 i)]
theorem z3q(s:Sm)(c8:List AV)(w:List Fz)(Q:List (List AV))(n i m:Nat)(h0:Heap)(els0:List (List AV))(hi:i<n)(hn:n≤8)(hm:m≤8)(j:Nat)(h:Heap)(q:Nat)(hj:j<m)
  (hP:∃g els,PrW0 s c8 n i h0 els0 g els j h):∃h' q',(∃g els,PrW0 s c8 n i h0 els0 g els (j+1) h')∧evX (orc T) T 0 l617_0 ⟨Zjx w Q n i m j,h,q⟩=some (.n,⟨Zjx w Q n i m (j+1),h',q'⟩):=by
 obtain⟨g,els,⟨⟨b3,b6,b8⟩,bn,ln,ei,bi,fr⟩⟩:=hP;have hiI:(i:Int)<n:=by omega
 have hjI:(j:Int)<m:=by omega
 have hws:=zbv hj (by omega);have c1:=zks (T:=T);have hil:i<els.length:=by omega
 have ei':els[i]'hil=[.bs (.fld (.loc 37) i) g 3 0 j]:=by
  rw[Ya hil]at ei;exact Option.some.inj ei
 have ei2:els[i]? = some (els[i]'hil):=Ya hil;have hlo:(Zeq j).length=j:=by simp[Zeq]
 have hlt:(Zeq j).take j=Zeq j:=Yb (by omega);have hc:j≤4294967295:=by omega
 unfold Zjx;have hlk:∀p,BId.fld (.loc 37) p≠.loc 37:=fun p=>by simp
 refine⟨(.loc 37,⟨4,.str,1,els.set i [.bs (.fld (.loc 37) i) q 3 0 (j+1)]⟩)::(.fld (.loc 37) i,⟨q,.own,3,Zd (Zeq (j+1))⟩)::h,q+1,⟨q,els.set i [.bs (.fld (.loc 37) i) q 3 0 (j+1)],⟨⟨?_,?_,?_⟩,?_,?_,?_,?_,?_⟩⟩,?_⟩
 ·simpa using b3
 ·simpa using b6
 ·simpa using b8
 ·simp
 ·simpa using ln
 ·exact Yas hil
 ·simp
 ·intro p hp;rw[Ya3 (fun e=>hp e.symm)];refine⟨(fr p hp).1,?_⟩;rw[zap _ _ (hlk p),zap _ _ (by simpa using hp)];exact(fr p hp).2
 ·have e:Zd (Zeq (j+1))=Zd (Zeq j)++[Zbg (fz 1)]:=by
   rw[zit];congr 1;simp[Zeq,List.replicate_succ']
  rw[e];simp -implicitDefEqProofs[l617_0,hjI,hj,hws,c1,hi,hiI,b3,b6,b8,bn,ln,ei',ei2,bi,hil,hlo,hlt,hc]
theorem zah2(s:Sm)(c8:List AV)(w:List Fz)(Q:List (List AV))(hwQ:wkL Q=Q)(n i m:Nat)(h0:Heap)(els0:List (List AV))(hi:i<n)(hn:n≤8)(hm:m≤8)(h:Heap)(q:Nat)(hP:∃g els,PrW0 s c8 n i h0 els0 g els 0 h) :
  ∃h' q',(∃g els,PrW0 s c8 n i h0 els0 g els m h')∧Zj T 0 2 (.trm [1,2,3,6,8,9,39,40]) l617_0 ⟨Zjx w Q n i m 0,h,q⟩=some (.n,⟨Zhj w Q n i,h',q'⟩):=by
 refine zvw (Zjx w Q n i m) m (fun j h _=>∃g els,PrW0 s c8 n i h0 els0 g els j h) (Zhj w Q n i) (fun h _=>∃g els,PrW0 s c8 n i h0 els0 g els m h) (fun j h q hj hP=>z3q s c8 w Q n i m h0 els0 hi hn hm j h q hj hP) (fun h q hP=>?_) h q hP;unfold Zjx Zhj;refine⟨?_,h,q,hP,?_⟩<;>simp -implicitDefEqProofs[l617_0]
structure PrW1 (s:Sm) (c8:List AV) (n m:Nat) (kd:Kind) (els:List (List AV)) (i:Nat) (h:Heap):Prop where
 ba:BaWt s c8 h
 bn:List.lookup (BId.loc 37) h=some ⟨4,kd,1,els⟩
 ks:kd≠.sh
 kt:0<i→kd=.str
 ln:els.length=n
 lo:∀p,p<i→∃g,els[p]? = some [.bs (.fld (.loc 37) p) g 3 0 m]∧List.lookup (BId.fld (.loc 37) p) h=some ⟨g,.own,3,Zd (Zeq m)⟩
 hi:∀p,i≤p→p<n→els[p]? = some [.sl [] .nl]∧List.lookup (BId.fld (.loc 37) p) h=none
theorem z3r(s:Sm)(c8:List AV)(w:List Fz)(Q:List (List AV))(hwQ:wkL Q=Q)(n:Nat)(hn:n≤8)(hm:s.b.length≤8)(i:Nat)(h:Heap)(q:Nat)(hi:i<n)
  (hP:∃kd els,PrW1 s c8 n s.b.length kd els i h):∃h' q',(∃kd els,PrW1 s c8 n s.b.length kd els (i+1) h')∧evX (orc T) T 0 l617_1 ⟨Zhj w Q n i,h,q⟩=some (.n,⟨Zhj w Q n (i+1),h',q'⟩):=by
 obtain⟨kd,els,⟨⟨b3,b6,b8⟩,bn,ks,kt,ln,lo,hi'⟩⟩:=hP;have hiI:(i:Int)<n:=by omega
 have hws:=zbv hi (by omega);have hil:i<els.length:=by omega
 obtain⟨ei,bi⟩:=hi' i (Ye _) hi;have ei':els[i]'hil=[.sl [] .nl]:=by
  rw[Ya hil]at ei;exact Option.some.inj ei
 have ei2:els[i]? = some (els[i]'hil):=Ya hil;have hlk:∀p,BId.fld (.loc 37) p≠.loc 37:=fun p=>by simp
 obtain⟨h',q',⟨g,els',⟨⟨b3',b6',b8'⟩,bn',ln',ei1,bi',fr⟩⟩,L⟩:=zah2 (T:=T) s c8 w Q hwQ n i s.b.length h els hi hn hm
  ((.loc 37,⟨4,.str,1,els.set i [.bs (.fld (.loc 37) i) q 3 0 0]⟩)::(.fld (.loc 37) i,⟨q,.own,3,[]⟩)::h) (q+1)
  ⟨q,els.set i [.bs (.fld (.loc 37) i) q 3 0 0],⟨⟨by simpa using b3,by simpa using b6,by simpa using b8⟩,by simp,by simpa using ln,Yas hil,by simp[Zeq],fun p hp=>⟨Ya3 (fun e=>hp e.symm),by
   rw[zap _ _ (hlk p),zap _ _ (by simpa using hp)]⟩⟩⟩
 refine⟨h',q',⟨.str,els',⟨⟨b3',b6',b8'⟩,bn',by decide,fun _=>rfl,ln',fun p hp=>?_,fun p h1 h2=>?_⟩⟩,?_⟩
 ·by_cases hpi:p=i
  ·subst hpi;exact⟨g,ei1,bi'⟩
  ·obtain⟨g',h1,h2⟩:=lo p (by omega);obtain⟨h3,h4⟩:=fr p hpi;exact⟨g',by rw[h3,h1],by rw[h4,h2]⟩
 ·obtain⟨h3,h4⟩:=fr p (by omega);obtain⟨h5,h6⟩:=hi' p (by omega) h2;exact⟨by rw[h3,h5],by rw[h4,h6]⟩
 ·unfold Zjx Zhj at L;unfold Zhj;obtain⟨nm,C,M,B,E⟩:=s;dsimp only at *
  rw[show (((0:Nat):Int))=0 from rfl]at L;simp -implicitDefEqProofs[l617_1,hi,hiI,hws,b3,b6,b8,bn,ln,ei',ei2,bi,hil,ks,L]
theorem zah3(s:Sm)(c8:List AV)(w:List Fz)(Q:List (List AV))(hwQ:wkL Q=Q)(n:Nat)(hn:n≤8)(hm:s.b.length≤8)(h:Heap)(q:Nat)(hP:∃kd els,PrW1 s c8 n s.b.length kd els 0 h) :
  ∃h' q',(∃kd els,PrW1 s c8 n s.b.length kd els n h')∧Zj T 0 0 (.trm [1,2,3,6,8,9]) l617_1 ⟨Zhj w Q n 0,h,q⟩=some (.n,⟨[(1,.sl (Zd w) .an),(2,.sl Q .an),(3,.ptr (.loc 3) 1 5 0 0),(6,.ptr (.loc 6) 2 3 0 0),(8,.ptr (.loc 8) 3 3 0 0),(9,.bs (.loc 37) 4 1 0 n)],h',q'⟩):=by
 refine zvw (Zhj w Q n) n (fun j h _=>∃kd els,PrW1 s c8 n s.b.length kd els j h) _ (fun h _=>∃kd els,PrW1 s c8 n s.b.length kd els n h) (fun j h q hj hP=>z3r s c8 w Q hwQ n hn hm j h q hj hP) (fun h q hP=>?_) h q hP;unfold Zhj;refine⟨?_,h,q,hP,?_⟩<;>simp -implicitDefEqProofs[l617_1]
end
def Zb4(u v:List Rat):List Rat:=List.zipWith (fun p q=>p*q) u v
def wtS(a:List (List Fz))(t:List Nat)(i:Nat)(N:List (List Rat)):List (List Rat):=
 N.set (Zdu t i) (Zb4 (N[Zdu t i]?.getD []) (Zb1 a (fzs (N[i]?.getD []))))
def wtJ(a:List (List Fz))(t:List Nat)(m:Nat):Nat→List (List Rat)
 | 0=>List.replicate t.length (List.replicate m 1)
 | j+1=>wtS a t (t.length-1-j) (wtJ a t m j)
def row0(N:List (List Rat)):List Rat:=N[0]?.getD []
def wtQ(a:List (List Fz))(t:List Nat)(m:Nat)(w:List Fz):Rat:=Zb9 w (fzs (row0 (wtJ a t m (t.length-1))))
abbrev rwN(N:List (List Rat))(p:Nat):List Rat:=N[p]?.getD []
structure PrW2 (s:Sm) (c8:List AV) (n m:Nat) (els:List (List AV)) (N:List (List Rat)) (i:Nat) (h:Heap):Prop where
 ba:BaWt s c8 h
 bn:List.lookup (BId.loc 37) h=some ⟨4,.str,1,els⟩
 ln:els.length=n
 ro:∀p,p<n→∃g kd,els[p]? = some [.bs (.fld (.loc 37) p) g 3 0 m]∧List.lookup (BId.fld (.loc 37) p) h=some ⟨g,kd,3,Zd (fzs (rwN N p))⟩∧kd≠.str∧(p≤i→kd=.own)
structure PrW6 (s:Sm) (c8:List AV) (p g:Nat) (L u:List Rat) (h0:Heap) (k:Nat) (h:Heap):Prop where
 ba:BaWt s c8 h
 fr:∀b,b=.loc 37∨(∃p',p'≠p∧b=.fld (.loc 37) p')→List.lookup b h=List.lookup b h0
 bp:List.lookup (BId.fld (.loc 37) p) h=some ⟨g,.own,3,Zd (fzs (L.take k++u.drop k))⟩
section
variable{T:Tbl}[Z0 T][Zq T][Zv T][Zy T][Zr T][Zn T][Zf T][Zg T][Zw T][Zah T][Zag T]
def Zli(w:List Fz)(Q:List (List AV))(n i p g m:Nat)(x:List Rat)(k:Nat):Env:=
 [(1,.sl (Zd w) .an),(2,.sl Q .an),(3,.ptr (.loc 3) 1 5 0 0),(6,.ptr (.loc 6) 2 3 0 0),(8,.ptr (.loc 8) 3 3 0 0),(9,.bs (.loc 37) 4 1 0 n),(11,.i .i64 i),(12,.bs (.fld (.loc 37) p) g 3 0 m),(78,.sl (Zd (fzs x)) .an),(79,.i .i64 x.length),(80,.i .i64 k)]
def Zhk(w:List Fz)(Q:List (List AV))(n:Nat)(i:Nat):Env:=
 [(1,.sl (Zd w) .an),(2,.sl Q .an),(3,.ptr (.loc 3) 1 5 0 0),(6,.ptr (.loc 6) 2 3 0 0),(8,.ptr (.loc 8) 3 3 0 0),(9,.bs (.loc 37) 4 1 0 n),(11,.i .i64 i)]
theorem zah4(s:Sm)(c8:List AV)(w:List Fz)(Q:List (List AV))(hwQ:wkL Q=Q)(n i p g m:Nat)(x u:List Rat)(hx:x.length=m)(hu:u.length=m)(hm:m≤8)
  (sx:∀q∈x,sz q≤30000) (su:∀q∈u,sz q≤30000) (h0 h:Heap) (q:Nat) (hP:PrW6 s c8 p g (Zb4 u x) u h0 0 h) :
  ∃h' q',PrW6 s c8 p g (Zb4 u x) u h0 m h'∧Zj T 0 6 (.trm [1,2,3,6,8,9,11]) l617_2 ⟨Zli w Q n i p g m x 0,h,q⟩=some (.n,⟨Zhk w Q n i,h',q'⟩):=by
 refine zvw (Zli w Q n i p g m x) m (fun k h _=>PrW6 s c8 p g (Zb4 u x) u h0 k h) (Zhk w Q n i) (fun h _=>PrW6 s c8 p g (Zb4 u x) u h0 m h) (fun k h q hk hP=>?_) (fun h q hP=>?_) h q hP
 ·obtain⟨⟨b3,b6,b8⟩,fr,bp⟩:=hP;have hkI:(k:Int)<m:=by omega
  have hws:=zbv hk (by omega);have hlu:(Zb4 u x).length=u.length:=by simp[Zb4];omega
  have g1:=z4j (L:=Zb4 u x) (acc:=u) hlu (i:=k) (by omega);have g2:=zz9 (L:=Zb4 u x) (acc:=u) hlu (i:=k) (by omega);have hul:k<u.length:=by omega
  have hxl:k<x.length:=by omega
  have em:(Zb4 u x)[k]'(by omega)=u[k]'hul*x[k]'hxl:=by simp[Zb4]
  have hll:((Zb4 u x).take k++u.drop k).length=m:=by simp;omega
  have c1:=zfh (T:=T) (fz (u[k]'hul)) (fz (x[k]'hxl)) (by rw[za6];exact su _ (Yr _)) (by rw[za6];exact sx _ (Yr _));rw[zbx,zbx,←em]at c1;have f1:=zwu g1;have f2:(fzs x)[k]? = some (fz (x[k]'hxl)):=zwu (Ya hxl);have f3:=z4k ((Zb4 u x).take k++u.drop k) k ((Zb4 u x)[k]'(by omega));rw[g2]at f3;have hlf:(fzs ((Zb4 u x).take k++u.drop k)).length=m:=by rw[zay,hll]
  have hlx:(fzs x).length=m:=by rw[zay,hx]
  refine⟨(.fld (.loc 37) p,⟨g,.own,3,Zd (fzs ((Zb4 u x).take (k+1)++u.drop (k+1)))⟩)::(.loc 14,⟨q,.str,3,[Zbg (fz (x[k]'hxl))]⟩)::(.loc 14,⟨q,.str,3,[nlc]⟩)::h,q+1,⟨⟨?_,?_,?_⟩,?_,?_⟩,?_⟩
  ·simpa using b3
  ·simpa using b6
  ·simpa using b8
  ·intro b hb;have h1:b≠.fld (.loc 37) p:=by
    rcases hb with rfl | ⟨p',hp,rfl⟩
    ·simp
    ·simpa using hp
   have h2:b≠.loc 14:=by
    rcases hb with rfl | ⟨p',hp,rfl⟩<;>simp
   rw[zap _ _ h1,zap _ _ h2,zap _ _ h2];exact fr b hb
  ·simp
  ·unfold Zli;rw[hx,←f3,←z0o];have f1':(Zd (fzs ((Zb4 u x).take k++u.drop k)))[k]? = some (Zbg (fz (u[k]'hul))):=by rw[rowF_get?,f1];rfl
   have f2':(Zd (fzs x))[k]? = some (Zbg (fz (x[k]'hxl))):=by rw[rowF_get?,f2];rfl
   have hlf':(Zd (fzs ((Zb4 u x).take k++u.drop k))).length=m:=by rw[zb8,hlf]
   have hlx':(Zd (fzs x)).length=m:=by rw[zb8,hlx]
   generalize (Zb4 u x)[k]'(by omega)=z at *
   generalize Zd (fzs ((Zb4 u x).take k++u.drop k))=R at *
   have hwx:wkL (Zd (fzs x))=Zd (fzs x):=zc8 _;generalize Zd (fzs x)=X at *
   generalize u[k]'hul=uk at *
   generalize x[k]'hxl=xk at *
   obtain⟨j0,a0⟩:=Yd.1 f1';obtain⟨j1,a1⟩:=Yd.1 f2';have q0:=Ya j0;have q1:=Ya j1;simp -implicitDefEqProofs[l617_2,hk,hkI,hws,c1,b3,b6,b8,bp,a0,a1,q0,q1,hlf',hlx',hwx,hwQ,j0]
 ·unfold Zli Zhk;refine⟨?_,h,q,hP,?_⟩<;>simp -implicitDefEqProofs[l617_2,hx]
end
structure NOk (N:List (List Rat)) (n m:Nat):Prop where
 l:N.length=n
 r:∀p,p<n→(rwN N p).length=m∧∀q∈rwN N p,sz q≤3600
theorem z3s{a:List (List Fz)}{N:List Fz}(hn:N.length≤8)(hr:∀r∈a,r.length≤N.length∧∀x∈r,fsz x≤10)(hN:∀y∈N,fsz y≤3600):∀q∈Zb1 a N,sz q≤30000:=by
 intro q hq;obtain⟨r,h1,rfl⟩:=Y6.1 hq;obtain⟨h2,h3⟩:=hr r h1;have h:=zfo (a:=r) (b:=N.take r.length) (by simp;omega) h3 (fun y hy=>hN y (Yav hy)) (by omega) (by omega) r.length (Ye _);rw[zm3]at h;have:r.length*(10+3600+1)≤8*(10+3600+1):=Yu _ (by omega);omega
section
variable{T:Tbl}[Z0 T][Zq T][Zv T][Zy T][Zr T][Zn T][Zf T][Zg T][Zw T][Zah T][Zag T]
theorem z3t(s:Sm)(c8:List AV)(w:List Fz)(t:List Nat)(ht:TrOk t)(m:Nat)(hm:m≤8)(ha:s.a.length=m)(hr:∀r∈s.a,r.length≤m∧∀x∈r,fsz x≤10)
  (N:List (List Rat)) (hN:NOk N t.length m) (els:List (List AV)) (i:Nat) (hi:i+1<t.length) (h:Heap) (q:Nat) (hP:PrW2 s c8 t.length m els N (i+1) h) :
  ∃h' q',PrW2 s c8 t.length m els (wtS s.a t (i+1) N) i h'∧evX (orc T) T 0 l617_3 ⟨Zhk w (Ze t) t.length (i+1),h,q⟩=some (.n,⟨Zhk w (Ze t) t.length i,h',q'⟩):=by
 obtain⟨⟨b3,b6,b8⟩,bn,ln,ro⟩:=hP;have l8:=ht.l8;obtain⟨p1,c1⟩:=zh8 (T:=T) ht (i:=i+1) (by omega) hi;unfold wtS;generalize Zdu t (i+1)=p at *
 have hpl:p<t.length:=by omega
 have hpI:(p:Int)<t.length:=by omega
 have hiI:(i:Int)+1<t.length:=by omega
 obtain⟨gi,ki,ei,bi,nki,oki⟩:=ro (i+1) hi;obtain⟨gp,kp,ep,bp,nkp,okp⟩:=ro p hpl;have hki:=oki (Ye _);have hkp:=okp (by omega);subst hki hkp;obtain⟨ui,si⟩:=hN.r (i+1) hi;obtain⟨up,sp⟩:=hN.r p hpl;have hlN:(fzs (rwN N (i+1))).length=m:=by rw[zay,ui]
 have hNs:∀y∈fzs (rwN N (i+1)),fsz y≤3600:=by
  intro y hy;obtain⟨z,hz,rfl⟩:=Y6.1 hy;exact si z hz
 have hr':∀r∈s.a,r.length≤(fzs (rwN N (i+1))).length∧∀x∈r,fsz x≤10:=fun r hh=>by rw[hlN];exact hr r hh
 have c2:=zox (T:=T) s (fzs (rwN N (i+1))) (by omega) (by omega) hr' hNs;have sx:=z3s (by omega) hr' hNs;have lx:(Zb1 s.a (fzs (rwN N (i+1)))).length=m:=by simp[Zb1,ha]
 rw[show (N[i+1]?.getD [])=rwN N (i+1) from rfl,show (N[p]?.getD [])=rwN N p from rfl];generalize Zb1 s.a (fzs (rwN N (i+1)))=x at *
 obtain⟨h2,hh2⟩:∃h2,Zh [BId.fld (.loc 37) (i+1)] h=h2:=⟨_,rfl⟩;have hlk:∀b,List.lookup b h2=(List.lookup b h).map fun bx=>if [BId.fld (.loc 37) (i+1)].contains b then { bx with kind:=.sh } else bx:=fun b=>by rw[←hh2];exact zct _ _ _
 have k3:List.lookup (BId.loc 3) h2=some ⟨1,.str,5,[Zde s]⟩:=by rw[hlk,b3];rfl
 have k6:List.lookup (BId.loc 6) h2=some ⟨2,.str,3,[nlc]⟩:=by rw[hlk,b6];rfl
 have k8:List.lookup (BId.loc 8) h2=some ⟨3,.str,3,[c8]⟩:=by rw[hlk,b8];rfl
 have kn:List.lookup (BId.loc 37) h2=some ⟨4,.str,1,els⟩:=by rw[hlk,bn];rfl
 have ki:List.lookup (BId.fld (.loc 37) (i+1)) h2=some ⟨gi,.sh,3,Zd (fzs (rwN N (i+1)))⟩:=by rw[hlk,bi];simp
 have kpp:List.lookup (BId.fld (.loc 37) p) h2=some ⟨gp,.own,3,Zd (fzs (rwN N p))⟩:=by
  rw[hlk,bp];have:¬ p=i+1:=by omega
  simp[this]
 obtain⟨h',q',⟨⟨b3',b6',b8'⟩,fr,bp'⟩,L⟩:=zah4 (T:=T) s c8 w (Ze t) (zan t) t.length (i+1) p gp m x (rwN N p) lx up hm sx (fun z hz=>Yc (sp z hz) (by decide)) h2 h2 q
  ⟨⟨k3,k6,k8⟩,fun b _=>rfl,by simpa using kpp⟩
 have hLm:(Zb4 (rwN N p) x).length=m:=by simp[Zb4,up,lx]
 rw[Yb (by omega),Yat (by omega),Ybf]at bp';refine⟨h',q',⟨⟨b3',b6',b8'⟩,by rw[fr _ (.inl rfl),kn],ln,fun p' hp'=>?_⟩,?_⟩
 ·by_cases hpp:p'=p
  ·subst hpp;refine⟨gp,.own,ep,?_,by decide,fun _=>rfl⟩;rw[bp'];have:rwN (N.set p' (Zb4 (rwN N p') x)) p'=Zb4 (rwN N p') x:=by
    unfold rwN;rw[Yas (by rw[hN.l];exact hp')]
    rfl
   rw[this]
  ·obtain⟨g,kd,e1,e2,e3,e4⟩:=ro p' hp';have e5:rwN (N.set p (Zb4 (rwN N p) x)) p'=rwN N p':=by
    unfold rwN;rw[Ya3 (fun e=>hpp e.symm)]
   rw[e5,fr _ (.inr ⟨p',hpp,rfl⟩),hlk,e2];by_cases hpi:p'=i+1
   ·subst hpi;exact⟨g,.sh,e1,by simp,by decide,fun hh=>by omega⟩
   ·exact⟨g,kd,e1,by simp[hpi],e3,fun hh=>e4 (by omega)⟩
 ·have hil:i+1<els.length:=by omega
  have hpel:p<els.length:=by omega
  have ei':els[i+1]'hil=[.bs (.fld (.loc 37) (i+1)) gi 3 0 m]:=by
   rw[Ya hil]at ei;exact Option.some.inj ei
  have ei2:els[i+1]? = some (els[i+1]'hil):=Ya hil;have ep':els[p]'hpel=[.bs (.fld (.loc 37) p) gp 3 0 m]:=by
   rw[Ya hpel]at ep;exact Option.some.inj ep
  have ep2:els[p]? = some (els[p]'hpel):=Ya hpel;have hpos:(0:Int)<(i:Int)+1:=by omega
  have hw:IntKind.wrap .i64 (i:Int)=i:=zac _ (by omega);have hwQ:=zan t;have hlx:(Zd (fzs x)).length=m:=by rw[zb8,zay,lx]
  have hlNi:(Zd (fzs (rwN N (i+1)))).length=m:=by rw[zb8,hlN]
  have htk:List.take m (Zd (fzs (rwN N (i+1))))=Zd (fzs (rwN N (i+1))):=Yb (by omega);have hwN:wkL (Zd (fzs (rwN N (i+1))))=Zd (fzs (rwN N (i+1))):=zc8 _;have hwx:wkL (Zd (fzs x))=Zd (fzs x):=zc8 _;have s0:Zh [] h=h:=rfl;unfold Zli Zhk at L;unfold Zhk;rw[lx]at L;obtain⟨nm,C,M,B,E⟩:=s;dsimp only at *
  rw[show (((0:Nat):Int))=0 from rfl]at L;simp only[Yax,Yar]at L c1 ⊢;generalize Ze t=Q at *
  generalize Zd (fzs (rwN N (i+1)))=RI at *
  generalize Zd (fzs x)=X at *
  simp -implicitDefEqProofs[-Zh,s0,hh2,l617_3,c1,c2,hi,hiI,hpl,hpI,hpos,hw,hwQ,b3,b6,b8,bn,k3,k6,k8,kn,ki,bi,ln,ei',ei2,ep',ep2,hil,hpel,hlx,hlNi,htk,hwN,hwx,L,zyv Zag.h622]
end
theorem z9p(k:Nat):k+1≤2^k:=by
 induction k with
 | zero=>decide
 | succ k ih=>rw[Nat.pow_succ];omega
theorem zkz(C B E:Nat)(hB:B+2≤C):∀(r N:List Fz) (k:Nat),(∀x∈r,sz (fv x)≤B)→(∀j y,N[j]? = some y→sz (fv y)≤1+C*2^(j+k)*E) →
  sz (Zb9 r N)≤1+C*r.length+C*(2^(r.length+k)-2^k)*E
 | [],N,k,_,_=>by
  have:Zb9 [] N=0:=rfl;rw[this,zgk];omega
 | x::r,[],k,_,_=>by
  have:Zb9 (x::r) []=0:=rfl;rw[this,zgk];omega
 | x::r,y::N,k,h1,h2=>by
  have ih:=zkz C B E hB r N (k+1) (fun z hz=>h1 z (List.mem_cons_of_mem _ hz)) (fun j z hz=>by
   have:=h2 (j+1) z (by simpa using hz)
   rwa [show j+1+k=j+(k+1) by omega]at this)
  have h3:=h1 x (List.mem_cons_self ..);have h4:=h2 0 y rfl;have h5:=zxt (fv x*fv y) (Zb9 r N);have h6:=zet (fv x) (fv y);have e:Zb9 (x::r) (y::N)=fv x*fv y+Zb9 r N:=rfl;rw[e,List.length_cons];rw[Nat.zero_add]at h4;have e2:r.length+(k+1)=r.length+1+k:=by omega
  rw[e2]at ih;have hp:2^(k+1)≤2^(r.length+1+k):=Nat.pow_le_pow_right (by decide) (by omega);have hq:2^(k+1)=2*2^k:=by rw[Nat.pow_succ];omega
  obtain⟨u,hu⟩:∃u,2^(r.length+1+k)=u+2^(k+1):=⟨2^(r.length+1+k)-2^(k+1),by omega⟩;have e3:2^(r.length+1+k)-2^(k+1)=u:=by omega
  have e4:2^(r.length+1+k)-2^k=u+2^k:=by omega
  rw[e3]at ih;rw[e4];have e5:C*(u+2^k)*E=C*u*E+C*2^k*E:=by rw[Nat.mul_add,Nat.add_mul]
  rw[e5,Nat.mul_add];omega
theorem zzt{u v:List Rat}{k:Nat}{q:Rat}(h:(Zb4 u v)[k]? = some q):∃a b,u[k]? = some a∧v[k]? = some b∧q=a*b:=by
 unfold Zb4 at h;rw[List.getElem?_zipWith]at h;cases hu:u[k]? with
 | none=>simp[hu]at h
 | some a=>
  cases hv:v[k]? with
  | none=>simp[hu,hv]at h
  | some b=>simp[hu,hv]at h;exact⟨a,b,rfl,rfl,h.symm⟩
theorem z1b{a:List (List Fz)}{t:List Nat}(ht:TrOk t)(m:Nat)(ha:a.length=m)(hr:∀(k:Nat) (r:List Fz),a[k]? = some r→r.length=k∧∀x∈r,fsz x≤2) :
  ∀j,j<t.length→(wtJ a t m j).length=t.length∧∀p,p<t.length→(rwN (wtJ a t m j) p).length=m ∧
   ∀k q,(rwN (wtJ a t m j) p)[k]? = some q→sz q≤1+4*2^k*((Zdc t j).1[p]?.getD 0):=by
 intro j
 induction j with
 | zero=>
  intro _;refine⟨by simp[wtJ],fun p hp=>?_⟩;have e:rwN (wtJ a t m 0) p=List.replicate m 1:=by
   unfold rwN;rw[wtJ,List.getElem?_replicate,if_pos hp]
   rfl
  rw[e];refine⟨by simp,fun k q hq=>?_⟩;have:q=1:=List.eq_of_mem_replicate (List.mem_of_getElem? hq);subst this;rw[znu];omega
 | succ j ih=>
  intro hj;obtain⟨h1,h2⟩:=ih (by omega);obtain⟨d1,d2,d3⟩:=ht.dj j (by omega);have en:Zdc t (j+1)=Zl0 t (t.length-1-j) (Zdc t j):=rfl;rw[en,wtJ];unfold wtS Zl0;obtain⟨i,hi⟩:∃i,i=t.length-1-j:=⟨_,rfl⟩;rw[←hi];have hil:i<t.length:=by omega
  have hi0:0<i:=by omega
  have hpo:=ht.p i hi0 hil;simp only[Zjp,Bool.and_eq_true,decide_eq_true_eq]at hpo;have p1:=hpo.1.1.2;dsimp only;rw[if_pos hi0];generalize Zdu t i=p at *
  generalize wtJ a t m j=N at *
  generalize (Zdc t j).1=D at *
  rw[show (N[i]?.getD [])=rwN N i from rfl,show (N[p]?.getD [])=rwN N p from rfl];obtain⟨li,zi⟩:=h2 i hil;obtain⟨lp,zp⟩:=h2 p (by omega);obtain⟨y,hy⟩:∃y,D[i]? = some y:=⟨D[i]'(by omega),List.getElem?_eq_getElem _⟩;obtain⟨z,hz⟩:∃z,D[p]? = some z:=⟨D[p]'(by omega),List.getElem?_eq_getElem _⟩;rw[hy]at zi ⊢;rw[hz]at zp;simp only[Option.getD_some]at zi zp ⊢;have hz2:(D.set i (y+1))[p]? = some z:=by rw[List.getElem?_set_ne (by omega)];exact hz
  rw[hz2,Option.getD_some];refine⟨by simpa using h1,fun p' hp'=>?_⟩;by_cases hpp:p'=p
  ·subst hpp;have e1:rwN (N.set p' (Zb4 (rwN N p') (Zb1 a (fzs (rwN N i))))) p'=Zb4 (rwN N p') (Zb1 a (fzs (rwN N i))):=by
    unfold rwN;rw[List.getElem?_set_self (by omega)]
    rfl
   have e2:((D.set i (y+1)).set p' (z+(y+1)))[p']? = some (z+(y+1)):=List.getElem?_set_self (by simp;omega);rw[e1,e2,Option.getD_some];refine⟨by simp[Zb4,Zb1,lp,ha],fun k q hq=>?_⟩;obtain⟨u,v,hu,hv,rfl⟩:=zzt hq;have hu:=zp k u hu;have hm:=zet u v;obtain⟨r,hr1,rfl⟩:∃r,a[k]? = some r∧Zb9 r (fzs (rwN N i))=v:=by
    unfold Zb1 at hv;rw[List.getElem?_map]at hv;cases har:a[k]? with
    | none=>simp[har]at hv
    | some r=>simp[har]at hv;exact⟨r,rfl,hv⟩
   obtain⟨hr2,hr3⟩:=hr k r hr1;have hs:=zkz 4 2 y (by decide) r (fzs (rwN N i)) 0 (fun x hx=>ze4 (hr3 x hx) (by decide)) (fun l x hx=>by
    unfold fzs at hx;rw[List.getElem?_map]at hx;cases hl:(rwN N i)[l]? with
    | none=>simp[hl]at hx
    | some q=>simp[hl]at hx;rw[←hx,zbx,Nat.add_zero];exact zi l q hl)
   rw[hr2,Nat.add_zero,Nat.pow_zero]at hs;have hk:=z9p k;obtain⟨w,hw⟩:∃w,2^k=w+1:=⟨2^k-1,by omega⟩;rw[hw,Nat.add_sub_cancel]at hs;rw[hw]at hu hk ⊢;have e3:4*(w+1)*(z+(y+1))=4*(w+1)*z+4*w*y+4*y+4*(w+1):=by
    rw[Nat.mul_add,Nat.mul_add (4*(w+1)) y 1,Nat.mul_add 4 w 1,Nat.add_mul (4*w) (4*1) y];omega
   rw[e3];generalize 4*(w+1)*z=U at *
   generalize 4*w*y=V at *
   omega
  ·have e1:rwN (N.set p (Zb4 (rwN N p) (Zb1 a (fzs (rwN N i))))) p'=rwN N p':=by
    unfold rwN;rw[List.getElem?_set_ne (fun e=>hpp e.symm)]
   rw[e1,List.getElem?_set_ne (fun e=>hpp e.symm)];obtain⟨lp',zp'⟩:=h2 p' hp';refine⟨lp',fun k q hq=>?_⟩;have h:=zp' k q hq;by_cases hpi:p'=i
   ·subst hpi;rw[List.getElem?_set_self (by omega),Option.getD_some];rw[hy,Option.getD_some]at h;have:4*2^k*y≤4*2^k*(y+1):=Nat.mul_le_mul_left _ (by omega);omega
   ·rw[List.getElem?_set_ne (fun e=>hpi e.symm)];exact h
theorem zvx{a:List (List Fz)}{t:List Nat}(ht:TrOk t)(m:Nat)(hm:m≤7)(ha:a.length=m)(hr:∀(k:Nat) (r:List Fz),a[k]? = some r→r.length=k∧∀x∈r,fsz x≤2)(j:Nat)(hj:j<t.length):NOk (wtJ a t m j) t.length m:=by
 obtain⟨h1,h2⟩:=z1b ht m ha hr j hj;obtain⟨d1,d2,d3⟩:=ht.dj j (by omega);refine⟨h1,fun p hp=>?_⟩;obtain⟨h3,h4⟩:=h2 p hp;refine⟨h3,fun q hq=>?_⟩;obtain⟨k,hk,rfl⟩:=List.getElem_of_mem hq;have h:=h4 k _ (List.getElem?_eq_getElem hk);have hd:(Zdc t j).1[p]?.getD 0≤8:=by
  rw[List.getElem?_eq_getElem (by omega),Option.getD_some];exact d1 _ (List.getElem_mem _)
 have h5:2^k≤2^6:=Nat.pow_le_pow_right (by decide) (by omega);have h6:4*2^k*((Zdc t j).1[p]?.getD 0)≤4*2^6*8:=Nat.mul_le_mul (by omega) hd;omega
end Go.Ab
namespace Go.Ab
structure PrW8 (n m:Nat) (w:List Fz) (r:List Rat) (k:Nat) (h:Heap):Prop where
 b6:List.lookup (BId.loc 6) h=some ⟨2,.str,3,[nlc]⟩
 b8:List.lookup (BId.loc 8) h=some ⟨3,.str,3,[Zbg (fz (Zdm w (fzs r) k))]⟩
 ro:∃els g kd,List.lookup (BId.loc 37) h=some ⟨4,.str,1,els⟩∧els.length=n∧els[0]? = some [.bs (.fld (.loc 37) 0) g 3 0 m]∧List.lookup (BId.fld (.loc 37) 0) h=some ⟨g,kd,3,Zd (fzs r)⟩
section
variable{T:Tbl}[Z0 T][Zq T][Zv T][Zy T][Zr T][Zn T][Zf T][Zg T][Zw T][Zah T][Zag T]
theorem zah5(s:Sm)(c8:List AV)(w:List Fz)(t:List Nat)(ht:TrOk t)(m:Nat)(hm:m≤7)(ha:s.a.length=m)(hr:∀(k:Nat) (r:List Fz),s.a[k]? = some r→r.length=k∧∀x∈r,fsz x≤2)
  (els:List (List AV)) (h:Heap) (q:Nat) (hP:PrW2 s c8 t.length m els (wtJ s.a t m 0) (t.length-1) h) :
  ∃h' q',PrW2 s c8 t.length m els (wtJ s.a t m (t.length-1)) 0 h'∧Zj T 0 4 (.trm [1,6,8,9]) l617_3 ⟨Zhk w (Ze t) t.length (t.length-1),h,q⟩=some (.n,⟨[(1,.sl (Zd w) .an),(6,.ptr (.loc 6) 2 3 0 0),(8,.ptr (.loc 8) 3 3 0 0),(9,.bs (.loc 37) 4 1 0 t.length)],h',q'⟩):=by
 have l1:=ht.l1;have hwQ:=zan t;refine zvw (fun j=>Zhk w (Ze t) t.length (t.length-1-j)) (t.length-1) (fun j h _=>PrW2 s c8 t.length m els (wtJ s.a t m j) (t.length-1-j) h) _ (fun h _=>PrW2 s c8 t.length m els (wtJ s.a t m (t.length-1)) 0 h) (fun j h q hj hP=>?_) (fun h q hP=>?_) h q hP
 ·obtain⟨i,hi⟩:∃i,t.length-1-j=i+1:=⟨t.length-1-j-1,by omega⟩;have e:t.length-1-(j+1)=i:=by omega
  have hr2:∀r∈s.a,r.length≤m∧∀x∈r,fsz x≤10:=fun r hh=>by
   obtain⟨k,hk,rfl⟩:=List.getElem_of_mem hh;obtain⟨h1,h2⟩:=hr k _ (List.getElem?_eq_getElem hk);exact⟨by omega,fun x hx=>Nat.le_trans (h2 x hx) (by decide)⟩
  have st:=z3t (T:=T) s c8 w t ht m (by omega) ha hr2 (wtJ s.a t m j) (zvx ht m hm ha hr j (by omega)) els i (by omega) h q (by rw[←hi];exact hP);rw[e,hi];rw[show wtJ s.a t m (j+1)=wtS s.a t (i+1) (wtJ s.a t m j) by rw[wtJ,hi]];exact st
 ·rw[Nat.sub_self]at hP ⊢;unfold Zhk;refine⟨?_,h,q,hP,?_⟩<;>simp -implicitDefEqProofs[l617_3]
def Zlj(w:List Fz)(n k:Nat):Env:=[(6,.ptr (.loc 6) 2 3 0 0),(8,.ptr (.loc 8) 3 3 0 0),(9,.bs (.loc 37) 4 1 0 n),(95,.sl (Zd w) .an),(96,.i .i64 w.length),(97,.i .i64 k)]
theorem zah6(n m:Nat)(w:List Fz)(r:List Rat)(hn:1≤n)(hm:m≤7)(hw:w.length=m)(hrl:r.length=m)(ws:∀x∈w,fsz x≤10)(rs:∀q∈r,sz q≤3600)(h:Heap)(q:Nat)(hP:PrW8 n m w r 0 h) :
  ∃h' q',PrW8 n m w r m h'∧Zj T 0 8 (.trm [6,8]) l617_4 ⟨Zlj w n 0,h,q⟩=some (.n,⟨[(6,.ptr (.loc 6) 2 3 0 0),(8,.ptr (.loc 8) 3 3 0 0)],h',q'⟩):=by
 refine zvw (Zlj w n) m (fun k h _=>PrW8 n m w r k h) _ (fun h _=>PrW8 n m w r m h) (fun k h q hk hP=>?_) (fun h q hP=>?_) h q hP
 ·obtain⟨b6,b8,els,g,kd,bn,ln,e0,b0⟩:=hP;have hkI:(k:Int)<m:=by omega
  have hws:=zbv hk (by omega);have hkw:k<w.length:=by omega
  have hkr:k<r.length:=by omega
  have hkf:k<(fzs r).length:=by rw[zay];exact hkr
  have rsf:∀y∈fzs r,fsz y≤3600:=by
   intro y hy;obtain⟨z,hz,rfl⟩:=List.mem_map.1 hy;exact rs z hz
  have hab:w.length=(fzs r).length:=by rw[zay];omega
  have z1:=ws _ (List.getElem_mem hkw);have z2:=rsf _ (List.getElem_mem hkf);have c1:=zfh (T:=T) (w[k]'hkw) ((fzs r)[k]'hkf) (by omega) (by omega);have s1:=zfo hab ws rsf (by omega) (by omega) k (by omega);have s3:=zet (fv (w[k]'hkw)) (fv ((fzs r)[k]'hkf));have s4:=ze4 z1 (by omega);have s5:=ze4 z2 (by omega);have c2:=zh0 (T:=T) (fz (Zdm w (fzs r) k)) (fz (fv (w[k]'hkw)*fv ((fzs r)[k]'hkf))) (by rw[za6];omega) (by rw[za6];omega);rw[zbx,zbx,←zii hab hkw]at c2;have f1:(Zd w)[k]? = some (Zbg (w[k]'hkw)):=by rw[rowF_get?,List.getElem?_eq_getElem hkw];rfl
  have f2:(Zd (fzs r))[k]? = some (Zbg ((fzs r)[k]'hkf)):=by rw[rowF_get?,List.getElem?_eq_getElem hkf];rfl
  have hlw:(Zd w).length=m:=by rw[zb8,hw]
  have hlr:(Zd (fzs r)).length=m:=by rw[zb8,zay,hrl]
  have hwk:=zc8 w;have h0l:0<els.length:=by omega
  have e0':els[0]'h0l=[.bs (.fld (.loc 37) 0) g 3 0 m]:=by
   rw[List.getElem?_eq_getElem h0l]at e0;exact Option.some.inj e0
  have e02:els[0]? = some (els[0]'h0l):=List.getElem?_eq_getElem h0l;have hnI:(0:Int)<n:=by omega
  have hn0:0<n:=hn;refine⟨(.loc 8,⟨3,.str,3,[Zbg (fz (Zdm w (fzs r) (k+1)))]⟩)::(.loc 16,⟨q,.str,3,[Zbg (w[k]'hkw)]⟩)::(.loc 16,⟨q,.str,3,[nlc]⟩)::h,q+1,⟨?_,?_,els,g,kd,?_,ln,e0,?_⟩,?_⟩
  ·simpa using b6
  ·simp
  ·simpa using bn
  ·simpa using b0
  ·unfold Zlj;rw[hw];generalize Zdm w (fzs r) (k+1)=Q' at *
   generalize Zdm w (fzs r) k=Q at *
   generalize (fzs r)[k]'hkf=rk at *
   generalize Zd (fzs r)=R at *
   generalize Zd w=W at *
   generalize w[k]'hkw=wk at *
   obtain⟨j0,a0⟩:=List.getElem?_eq_some_iff.1 f1;obtain⟨j1,a1⟩:=List.getElem?_eq_some_iff.1 f2;have q0:=List.getElem?_eq_getElem j0;have q1:=List.getElem?_eq_getElem j1;simp -implicitDefEqProofs[l617_4,hk,hkI,hws,c1,c2,b6,b8,bn,b0,a0,a1,q0,q1,hlw,hlr,hwk,h0l,e0',e02,hnI,hn0,j0,j1]
 ·unfold Zlj;refine⟨?_,h,q,hP,?_⟩<;>simp -implicitDefEqProofs[l617_4,hw]
end
section
variable{T:Tbl}[Z0 T][Zq T][Zv T][Zy T][Zr T][Zn T][Zf T][Zg T][Zw T][Zak T][Zan T][Zbv T][Zb0 T][Za8 T][Zch T][Zdx T][Zdw T][Zam T][Zbr T][Z9 T][Zah T][Zag T]
theorem zgr(s:Sm)(hs:SmS s)(w:List Fz)(t:List Nat)(ht:TrOk t)(hst:Za5 (Zba t)=true)(hm:s.b.length≤7)(hok:okS s=true)(hw:w.length=s.b.length)
  (ha:s.a.length=s.b.length) (hr:∀(k:Nat) (r:List Fz),s.a[k]? = some r→r.length=k∧∀x∈r,fsz x≤2) (ws:∀x∈w,fsz x≤10) :
  Za T 617 [esm s,.sl (Zd w) .an,.sl (Ze t) .an]=some (.tup [efz (fz (wtQ s.a t s.b.length w)),.b true]):=by
 have l1:=ht.l1;have l8:=ht.l8;have h0:=zc1 (T:=T);have c1:=zgx (T:=T) s hs;rw[hok]at c1;have c2:=ze0 (T:=T) (Zba t) (by simp[Zba];omega) (fun x hx=>by
  obtain⟨n,hn,rfl⟩:=List.mem_map.1 hx;have:=ht.v n hn;omega)
 rw[zqs,hst]at c2;have hQ:=zba t;have hwQ:=zan t;have hle:t.length≤4294967295:=by omega
 have hleI:(t.length:Int)≤4294967295:=by omega
 have hleI2:(t.length:Int)≤4294967296:=by omega
 have hw1:IntKind.wrap .i64 ((t.length:Int)-1)=((t.length-1:Nat):Int):=by
  rw[inRg _ (by omega) (by omega)];omega
 obtain⟨els0,he0⟩:∃els0,els0=List.replicate t.length [AV.sl [] Fl.nl]:=⟨_,rfl⟩;have hle0:els0.length=t.length:=by rw[he0,List.length_replicate]
 obtain⟨h1,q1,⟨kd,els,⟨ba,bn,ks,kt,ln,lo,hi⟩⟩,L1⟩:=zah3 (T:=T) s (Zbg (fz 0)) w (Ze t) hwQ t.length l8 (by omega)
  [(.loc 37,⟨4,.own,1,els0⟩),(.loc 8,⟨3,.str,3,[Zbg (fz 0)]⟩),(.loc 8,⟨3,.str,3,[nlc]⟩),(.loc 6,⟨2,.str,3,[nlc]⟩),(.loc 3,⟨1,.str,5,[Zde s]⟩)] 5
  ⟨.own,els0,⟨⟨by simp,by simp,by simp⟩,by simp,by decide,fun hh=>absurd hh (Nat.lt_irrefl 0),hle0,fun p hp=>by omega,fun p _ hp=>⟨by rw[he0,List.getElem?_replicate,if_pos hp],by simp⟩⟩⟩
 have hones:∀p,p<t.length→rwN (wtJ s.a t s.b.length 0) p=List.replicate s.b.length 1:=fun p hp=>by
  unfold rwN;rw[wtJ,List.getElem?_replicate,if_pos hp]
  rfl
 have hkd:kd=.str:=kt (by omega);subst hkd;obtain⟨h2,q2,⟨ba2,bn2,ln2,ro2⟩,L2⟩:=zah5 (T:=T) s (Zbg (fz 0)) w t ht s.b.length hm ha hr els h1 q1 ⟨ba,bn,ln,fun p hp=>by
  obtain⟨g,e1,e2⟩:=lo p hp;refine⟨g,.own,e1,?_,by decide,fun _=>rfl⟩;rw[e2,hones p hp];simp[Zeq,fzs]⟩
 obtain⟨g,kd,e1,e2,_⟩:=ro2 0 (by omega);have hN:=zvx ht s.b.length hm ha hr (t.length-1) (by omega);obtain⟨r1,r2⟩:=hN.r 0 (by omega);obtain⟨h3,q3,⟨b6,b8,_⟩,L3⟩:=zah6 (T:=T) t.length s.b.length w (rwN (wtJ s.a t s.b.length (t.length-1)) 0) l1 hm hw r1 ws r2 h2 q2 ⟨ba2.b6,ba2.b8,els,g,kd,bn2,ln2,e1,e2⟩;have hdot:Zdm w (fzs (rwN (wtJ s.a t s.b.length (t.length-1)) 0)) s.b.length=wtQ s.a t s.b.length w:=by
  unfold Zdm wtQ;rw[List.take_of_length_le (by omega),List.take_of_length_le (by rw[zay];omega)]
  rfl
 rw[hdot]at b8;generalize wtQ s.a t s.b.length w=V at *
 rw[zab Zag.h617 rfl,b617];unfold Zhj at L1;unfold Zhk at L2;unfold Zlj at L3;rw[show (((0:Nat):Int))=0 from rfl]at L1 L3;clear ro2 lo hi hones hN r1 r2 hdot;obtain⟨nm,C,M,B,E⟩:=s;dsimp only at *
 rw[hw]at L3;generalize Ze t=Q at *
 simp -implicitDefEqProofs[h0,c1,c2,hw,hQ,hwQ,hle,hleI,hleI2,hw1,←he0,L1,L2,L3,b6,b8]
end
def prodL:List Rat→Rat
 | []=>1
 | x::l=>x*prodL l
def dotG:List Fz→(Nat→Rat)→Rat
 | [],_=>0
 | x::r,g=>fv x*g 0+dotG r fun j=>g (j+1)
def numT(a:List (List Fz))(t:List Nat):Nat→Nat→Nat→Rat
 | 0,_,_=>1
 | f+1,i,k=>prodL ((Zkm t i).map fun c=>dotG (a[k]?.getD []) fun j=>numT a t f c j)
theorem zq7:∀(r N:List Fz) (g:Nat→Rat),r.length≤N.length→(∀j,j<r.length→g j=fv (N[j]?.getD (fz 0)))→dotG r g=Zb9 r N
 | [],_,_,_,_=>rfl
 | x::r,[],_,h,_=>by simp at h
 | x::r,y::N,g,h,hg=>by
  have h0:=hg 0 (by simp);have ih:=zq7 r N (fun j=>g (j+1)) (by simpa using h) (fun j hj=>by simpa using hg (j+1) (by simpa using hj));show fv x*g 0+_=fv x*fv y+Zb9 r N;rw[ih,h0]
  rfl
theorem zpm(P:Nat→Bool)(q:Nat):∀n,q<n→(List.range n).filter (fun c=>decide (q≤c)&&P c)=(if P q then [q] else [])++(List.range n).filter (fun c=>decide (q+1≤c)&&P c):=by
 intro n
 induction n with
 | zero=>intro h;omega
 | succ n ih=>
  intro h;rw[List.range_succ,List.filter_append,List.filter_append];by_cases hq:q=n
  ·subst hq;have e1:∀b,(List.range q).filter (fun c=>decide (q+b≤c)&&P c)=[]:=by
    intro b;rw[Yeh];intro c hc;rw[Ycb]at hc;have:¬ q+b≤c:=by omega
    simp[this]
   have e2:=e1 0;simp only[Yq]at e2;rw[e2,e1 1];cases hp:P q<;>simp[hp]
  ·have h1:q≤n:=by omega
   have h2:q+1≤n:=by omega
   have e3:List.filter (fun c=>decide (q≤c)&&P c) [n]=List.filter (fun c=>decide (q+1≤c)&&P c) [n]:=by simp[Yea,h1,h2]
   rw[ih (by omega),Ybd,e3]
def gvN(a:List (List Fz))(t:List Nat)(m c:Nat):List Rat:=rwN (wtJ a t m (t.length-1-c)) c
def kidF(t:List Nat)(p q:Nat):List Nat:=(Zi4 t p).filter fun c=>decide (q≤c)
theorem zx1(t:List Nat)(p q:Nat)(h0:0<q)(hq:q<t.length):kidF t p q=(if Zdu t q=p then [q] else [])++kidF t p (q+1):=by
 unfold kidF Zi4;rw[Yd1,Yd1];have:=zpm (fun c=>decide (0<c)&&decide (Zdu t c=p)) q t.length hq;rw[this];congr 1;by_cases hp:Zdu t q=p<;>simp[h0,hp]
theorem z0s(t:List Nat)(p:Nat):kidF t p t.length=[]:=by
 unfold kidF Zi4;rw[Yd1,Yeh];intro c hc;rw[Ycb]at hc;have:¬ t.length≤c:=by omega
 simp[this]
theorem zpn(a:List (List Fz))(t:List Nat)(m:Nat):∀j,(wtJ a t m j).length=t.length
 | 0=>by simp[wtJ]
 | j+1=>by rw[wtJ,wtS,Ydq,zpn a t m j]
theorem z44{a:List (List Fz)}{t:List Nat}(ht:TrOk t)(m:Nat)(ha:a.length=m):∀j,j<t.length→∀p,p<t.length→∀k,k<m →
  (rwN (wtJ a t m j) p)[k]? = some (prodL ((kidF t p (t.length-j)).map fun c=>Zb9 (a[k]?.getD []) (fzs (gvN a t m c)))):=by
 intro j
 induction j with
 | zero=>
  intro _ p hp k hk;rw[Ydb,z0s];unfold rwN;rw[wtJ,Ybi,if_pos hp,Yaq,Ybi,if_pos hk]
  rfl
 | succ j ih=>
  intro hj p hp k hk;obtain⟨q,hq⟩:∃q,q=t.length-1-j:=⟨_,rfl⟩;have e1:t.length-(j+1)=q:=by omega
  have e2:t.length-j=q+1:=by omega
  rw[e1,zx1 t p q (by omega) (by omega)];have hpar:=ht.p q (by omega) (by omega);have hg:rwN (wtJ a t m j) q=gvN a t m q:=by
   unfold gvN;rw[show t.length-1-q=j by omega]
  have hk1:=ih (by omega) p hp k hk;rw[e2]at hk1;rw[wtJ,wtS,←hq];by_cases hpp:Zdu t q=p
  ·rw[if_pos hpp,hpp];have:rwN ((wtJ a t m j).set p (Zb4 ((wtJ a t m j)[p]?.getD []) (Zb1 a (fzs ((wtJ a t m j)[q]?.getD []))))) p=Zb4 (rwN (wtJ a t m j) p) (Zb1 a (fzs (rwN (wtJ a t m j) q))):=by
    unfold rwN;rw[Yas (by rw[zpn];exact hp)]
    rfl
   rw[this,hg];have hb:(Zb1 a (fzs (gvN a t m q)))[k]? = some (Zb9 (a[k]?.getD []) (fzs (gvN a t m q))):=by
    unfold Zb1;rw[Ybc];have:k<a.length:=by omega
    simp[this]
   unfold Zb4;rw[List.getElem?_zipWith,hk1,hb];simp only[List.singleton_append,Yy,prodL];rw[Rat.mul_comm]
  ·rw[if_neg hpp,Yam];have:rwN ((wtJ a t m j).set (Zdu t q) (Zb4 ((wtJ a t m j)[Zdu t q]?.getD []) (Zb1 a (fzs ((wtJ a t m j)[q]?.getD []))))) p=rwN (wtJ a t m j) p:=by
    unfold rwN;rw[Ya3 hpp]
   rw[this];exact hk1
theorem zx2{t:List Nat}(ht:TrOk t){p c:Nat}(hc:c∈Zi4 t p):p<c∧c<t.length:=by
 unfold Zi4 at hc;rw[List.mem_filter,Yn,decide_eq_true_eq,decide_eq_true_eq,Ycb]at hc;obtain⟨h1,h2,h3⟩:=hc;have:=ht.p c h2 h1;unfold Zjp at this;simp only[Yn,decide_eq_true_eq]at this;exact⟨by rw[←h3];exact this.1.1.2,h1⟩
theorem zaac{a:List (List Fz)}{t:List Nat}(ht:TrOk t)(m:Nat)(ha:a.length=m){p:Nat}(hp:p<t.length){k:Nat}(hk:k<m) :
  (gvN a t m p)[k]? = some (prodL ((Zi4 t p).map fun c=>Zb9 (a[k]?.getD []) (fzs (gvN a t m c)))):=by
 have l1:=ht.l1;have h:=z44 ht m ha (t.length-1-p) (by omega) p hp k hk;rw[show t.length-(t.length-1-p)=p+1 by omega]at h;have e:kidF t p (p+1)=Zi4 t p:=by
  unfold kidF;rw[List.filter_eq_self];intro c hc;have:=(zx2 ht hc).1;simp;omega
 rw[e]at h;exact h
theorem zx3{a:List (List Fz)}{t:List Nat}(ht:TrOk t)(m:Nat)(ha:a.length=m):∀j,j<t.length→∀p,p<t.length→(rwN (wtJ a t m j) p).length=m:=by
 intro j
 induction j with
 | zero=>
  intro _ p hp;unfold rwN;rw[wtJ,Ybi,if_pos hp];simp
 | succ j ih=>
  intro hj p hp;have h1:=ih (by omega);rw[wtJ,wtS];generalize t.length-1-j=q at *
  unfold rwN at h1 ⊢;by_cases hpp:Zdu t q=p
  ·rw[hpp,Yas (by rw[zpn];exact hp),Yaq];unfold Zb4 Zb1;rw[List.length_zipWith,h1 p hp,Ydd,ha,Nat.min_self]
  ·rw[Ya3 hpp];exact h1 p hp
theorem zpo{a:List (List Fz)}{t:List Nat}(ht:TrOk t)(m:Nat)(ha:a.length=m)(hr:∀(k:Nat) (r:List Fz),a[k]? = some r→r.length≤k)(hG:∀c,c<t.length→(gvN a t m c).length=m):∀f i,t.length-i≤f→i<t.length→∀k,k<m →
  (gvN a t m i)[k]? = some (numT a t f i k)
 | 0,i,h,hi,_,_=>by omega
 | f+1,i,h,hi,k,hk=>by
  rw[zaac ht m ha hi hk,numT,ht.kid i hi];congr 2;refine List.map_congr_left fun c hc=>?_;rw[←ht.kid i hi]at hc;obtain⟨c1,c2⟩:=zx2 ht hc;have hak:a[k]? = some (a[k]'(by omega)):=Ya _;have hlr:=hr k _ hak;rw[hak,Yaq];have hgl:=hG c c2;refine(zq7 _ _ _ ?_ fun j hj=>?_).symm
  ·rw[zay,hgl];omega
  ·have:=zpo ht m ha hr hG f c (by omega) c2 j (by omega);unfold fzs;rw[Ybc,this,Yco,Yaq,zbx]
def dcN(t:List Nat)(c:Nat):Nat:=(Zdc t (t.length-1-c)).1[c]?.getD 0
def Zl2(t:List Nat):List Nat→Nat
 | []=>0
 | c::l=>dcN t c+1+Zl2 t l
def Zps(t:List Nat):Bool:=(List.range t.length).all fun i=>decide (Zl2 t (Zkm t i)≤7)
theorem zx4:allT.all Zps=true:=by decide +kernel
theorem znx:∀{a b:List Nat},Zba a=Zba b→a=b
 | [],[],_=>rfl
 | [],_::_,h=>by simp[Zba]at h
 | _::_,[],h=>by simp[Zba]at h
 | x::a,y::b,h=>by
  simp only[Zba,Yy,List.cons.injEq]at h;rw[znx (show Zba a=Zba b from h.2),show x=y by omega]
theorem z45{t:List Nat}(h:Za5 (Zba t)=true){i:Nat}(hi:i<t.length):Zl2 t (Zkm t i)≤7:=by
 obtain⟨t',h1,h2,_⟩:=znw h;have:=znx h2;subst this;have:=Yf.1 zx4 t h1;have:=Yf.1 this i (Ycb.2 hi);simpa using this
structure AOk (a:List (List Fz)) (m:Nat):Prop where
 l:a.length=m
 m4:m≤4
 r:∀(k:Nat) (r:List Fz),a[k]? = some r→r.length=k∧∀x∈r,fsz x≤2∧Zbb x=true
theorem AOk.r'{a:List (List Fz)}{m:Nat}(h:AOk a m):∀(k:Nat) (r:List Fz),a[k]? = some r→r.length=k∧∀x∈r,fsz x≤2:=fun k r hk=>⟨(h.r k r hk).1,fun x hx=>((h.r k r hk).2 x hx).1⟩
theorem zlf{a:List (List Fz)}{t:List Nat}(ht:TrOk t){m:Nat}(ha:AOk a m){f c:Nat}(hf:t.length-c≤f)(hc:c<t.length){j:Nat}(hj:j<m):sz (numT a t f c j)≤1+4*2^j*dcN t c:=by
 have h1:=zpo ht m ha.l (fun k r hk=>Nat.le_of_eq (ha.r k r hk).1) (fun c hc=>zx3 ht m ha.l _ (by have:=ht.l1;omega) c hc) f c hf hc j hj;have h2:=(z1b ht m ha.l ha.r' (t.length-1-c) (by omega)).2 c hc;exact h2.2 j _ h1
theorem zpp(g:Nat→Rat):∀(r:List Fz) (j:Nat),j≤r.length→dotG (r.take j) g=Zb9 (r.take j) (fzs ((List.range j).map g)):=by
 intro r j hj;refine zq7 _ _ _ (by simp[fzs];omega) fun i hi=>?_;have:i<j:=by rw[Yaa]at hi;omega
 unfold fzs;rw[Yej,Ybc,Ydl this];simp[zbx]
theorem ziw{r:List Fz}{g:Nat→Rat}{D:Nat}(hr:∀x∈r,fsz x≤2)(hg:∀j,j<r.length→sz (g j)≤1+4*2^j*D)(j:Nat)(hj:j≤r.length):sz (dotG (r.take j) g)≤1+4*j+4*(2^j-1)*D:=by
 rw[zpp g r j hj];have hl:(r.take j).length=j:=by rw[Yaa];omega
 have:=zkz 4 2 D (by decide) (r.take j) (fzs ((List.range j).map g)) 0 (fun x hx=>ze4 (hr x (Yav hx)) (by decide)) (fun i y hy=>by
  unfold fzs at hy;rw[Yej,Ybc]at hy;have hi:i<j:=by
   obtain⟨z,hz,_⟩:=Yae.1 hy;have:=Yd.1 hz;obtain⟨h,_⟩:=this;simpa using h
  rw[Ydl hi]at hy;cases hy;simp only[Function.comp,zbx,Yq];exact hg i (by omega))
 rw[hl]at this;simpa using this
theorem zny{r:List Fz}{g:Nat→Rat}{j:Nat}(hj:j<r.length):dotG (r.take (j+1)) g=dotG (r.take j) g+fv r[j]*g j:=by
 have key:∀(r:List Fz) (g:Nat→Rat) (j:Nat) (hj:j<r.length),dotG (r.take (j+1)) g=dotG (r.take j) g+fv r[j]*g j:=by
  intro r
  induction r with
  | nil=>intro g j hj;simp at hj
  | cons x r ih=>
   intro g j hj;cases j with
   | zero=>simp[dotG,Yem,Rat.zero_add]
   | succ j=>
    simp only[Yc7,dotG,List.getElem_cons_succ];rw[ih (fun j=>g (j+1)) j (by simpa using hj),Rat.add_assoc]
 exact key r g j hj
def Zik(g:Nat→Rat):Rat→List Nat→Rat
 | q,[]=>q
 | q,c::l=>Zik g (q*g c) l
theorem zq8(g:Nat→Rat):∀(l:List Nat) (q:Rat),Zik g q l=q*prodL (l.map g)
 | [],q=>by simp[Zik,prodL,Rat.mul_one]
 | c::l,q=>by
  rw[Zik,zq8 g l,Yy,prodL,Rat.mul_assoc]
theorem zaad(t:List Nat)(c:Nat):c<enT t c:=by unfold enT;omega
def Zdy(l:List Nat)(p r:Nat):Nat→List Nat
 | 0=>l
 | k+1=>(Zdy l p r k).set (p+k) ((Zdy l p r k).getD (k+r) 0)
theorem zfm(l:List Nat)(p r:Nat):∀k,(Zdy l p r k).length=l.length
 | 0=>rfl
 | k+1=>by rw[Zdy,Ydq];exact zfm l p r k
theorem zvv(l:List Nat)(i x:Nat):(Ze l).set i [.i .i64 x]=Ze (l.set i x):=by
 unfold Ze;rw[Ycs]
theorem z3l{f:St→Option (Ex×St)}{l:Nat}(F:Nat→St)(R:Ex×St)(hR:∀j,R.1≠.g j)(m:Nat)(hs:∀j,j<m→f (F j)=some (.g l,F (j+1)))(he:f (F m)=some R) :
  ∀n,m+1<n→Zgd f l n (some (.g l,F 0))=some R:=by
 have key:∀k j,j+k=m→∀n,k+1<n→Zgd f l n (some (.g l,F j))=some R:=by
  intro k
  induction k with
  | zero=>
   intro j hj n hn;obtain⟨n,rfl⟩:∃n',n=n'+2:=⟨n-2,by omega⟩;have:j=m:=by omega
   subst this;have e1:Zgd f l (n+2) (some (.g l,F j))=Zgd f l (n+1) (f (F j)):=by simp[Zgd]
   rw[e1,he];obtain⟨e,s⟩:=R;cases e with
   | g j=>exact absurd rfl (hR j)
   | n=>rfl
   | x i=>rfl
   | r=>rfl
  | succ k ih=>
   intro j hj n hn;obtain⟨n,rfl⟩:∃n',n=n'+1:=⟨n-1,by omega⟩;simp only[Zgd,Yah,if_true];rw[hs j (by omega)];exact ih (j+1) (by omega) n (by omega)
 exact fun n hn=>key m 0 (by omega) n hn
section
variable{T:Tbl}[Zah T]
def Zf1(out:List (List Nat))(now:List Nat):Heap:=[(.loc 3,⟨1,.own,1,Z3 out⟩),(.loc 4,⟨2,.own,1,Ze now⟩)]
def Zjf(n:Nat)(out:List (List Nat))(now:List Nat)(p:Int):St:=⟨[(0,.i .i64 n),(3,.bs (.loc 3) 1 1 0 out.length),(4,.bs (.loc 4) 2 1 0 now.length),(6,.i .i64 p)],Zf1 out now,4⟩
theorem zm0(n:Nat)(out:List (List Nat))(now:List Nat)(hl:now.length≤1000)(p0 p:Nat)(hp0:p0<now.length)(hp:p≤p0)
  (h1:∀k,p<k→k≤p0→∃x,now[k]? = some x∧x<2) (h2:p=0∨∃x,now[p]? = some x∧2≤x) :
  Zj T 0 2 (.norm false [0,3,4,6]) l589_1 (Zjf n out now p0)=some (.n,Zjf n out now p):=by
 have hw1:=zbn out;have hw2:=zan now;have hl2:=zba now;have r:=za2 (T:=T) (k:=0) (id:=2) (g2:=.norm false [0,3,4,6]) (c:=l589_1) (fun j=>Zjf n out now ((p0-j:Nat):Int)) (p0-p) (some (.n,Zjf n out now p)) (fun j hj=>?_) ?_
 ·simpa using r
 ·obtain⟨k',hk'⟩:∃k',p0-j=k'+1:=⟨p0-j-1,by omega⟩;have hk'':p0-(j+1)=k':=by omega
  obtain⟨x,hx,hx2⟩:=h1 (k'+1) (by omega) (by omega);have ix:=zbd hx;have hx2':(x:Int)<2:=by omega
  have hkl:k'+1<now.length:=by omega
  have hkI:(k':Int)+1<now.length:=by omega
  have hk0:(0:Int)<(k':Int)+1:=by omega
  have hw:IntKind.wrap .i64 (k':Int)=(k':Int):=zac _ (by omega);rw[hk',hk''];unfold Zjf Zf1;clear h1 h2 hx;generalize Z3 out=R1 at *
  generalize Ze now=R at *
  obtain⟨j1,ix⟩:=Yd.1 ix;have g1:R[k'+1]? = some (R[k'+1]'j1):=Ya j1;simp -implicitDefEqProofs[l589_1,hkl,hkI,hk0,g1,ix,hx2',hx2,hw,hw1,hw2,hl2,j1]
 ·have e:p0-(p0-p)=p:=by omega
  rw[e];unfold Zjf Zf1;clear h1;by_cases hz:p=0
  ·subst hz;clear h2;generalize Z3 out=R1 at *
   generalize Ze now=R at *
   constructor<;>simp -implicitDefEqProofs[l589_1,hw1,hw2]
  ·obtain⟨x,hx,hx2⟩:=h2.resolve_left hz;have ix:=zbd hx;have hx2':¬ (x:Int)<2:=by omega
   have hx3:¬ x<2:=by omega
   have hkl:p<now.length:=by omega
   have hkI:(p:Int)<now.length:=by omega
   have hk0:(0:Int)<(p:Int):=by omega
   have hk1:0<p:=by omega
   clear h2 hx;generalize Z3 out=R1 at *
   generalize Ze now=R at *
   obtain⟨j1,ix⟩:=Yd.1 ix;have g1:R[p]? = some (R[p]'j1):=Ya j1;constructor<;>simp -implicitDefEqProofs[l589_1,hkl,hkI,hk0,hk1,g1,ix,hx2',hx3,hw1,hw2,hl2,j1]
def Zjg(n:Nat)(out:List (List Nat))(now:List Nat)(p r k:Nat):St:=⟨[(0,.i .i64 n),(3,.bs (.loc 3) 1 1 0 out.length),(4,.bs (.loc 4) 2 1 0 now.length),(6,.i .i64 p),(7,.i .i64 r),(8,.i .i64 (p+k:Nat))],Zf1 out (Zdy now p r k),4⟩
theorem zzs(n:Nat)(out:List (List Nat))(now:List Nat)(hn:now.length=n)(hl:n≤1000)(p r:Nat)(hp:p≤n)(hr:r<p) :
  Zj T 0 4 (.norm false [0,3,4]) l589_2 (Zjg n out now p r 0)=some (.n,⟨[(0,.i .i64 n),(3,.bs (.loc 3) 1 1 0 out.length),(4,.bs (.loc 4) 2 1 0 now.length)],Zf1 out (Zdy now p r (n-p)),4⟩):=by
 have hw1:=zbn out;refine za2 (Zjg n out now p r) (n-p) _ (fun k hk=>?_) ?_
 ·have hw2:=zan (Zdy now p r (k+1));have hl2:=zba (Zdy now p r k);rw[zfm,hn]at hl2;have hpk:((p+k:Nat):Int)<n:=by omega
  have hws:IntKind.wrap .i64 ((p:Int)+k+1)=(p:Int)+(k+1):=by rw[zac _ (by omega)];omega
  have s1:IntKind.wrap .i64 ((p:Int)+k-p)=(k:Int):=by rw[zac _ (by omega)];omega
  have s2:IntKind.wrap .i64 ((k:Int)+r)=(k:Int)+r:=zac _ (by omega);have hkr:k+r<n:=by omega
  obtain⟨x,hx⟩:∃x,(Zdy now p r k)[k+r]? = some x:=⟨_,Ya (by rw[zfm,hn];exact hkr)⟩;have hD:(Zdy now p r k).getD (k+r) 0=x:=by simp[List.getD,hx]
  have ix:=zbd hx;obtain⟨y,hy⟩:∃y,(Zdy now p r k)[p+k]? = some y:=⟨_,Ya (by rw[zfm,hn];omega)⟩;have g2:=zbd hy;have hset:Ze (Zdy now p r (k+1))=(Ze (Zdy now p r k)).set (p+k) [.i .i64 x]:=by
   rw[Zdy,hD,zvv]
  unfold Zjg Zf1;rw[hset]at hw2 ⊢;have q1:k+r<(Ze (Zdy now p r k)).length:=by omega
  have q2:p+k<(Ze (Zdy now p r k)).length:=by omega
  have q3:(k:Int)+r<now.length:=by omega
  have q4:(p:Int)+k<now.length:=by omega
  have q5:(p:Int)+k<n:=by omega
  have q6:k+r<now.length:=by omega
  have q7:p+k<now.length:=by omega
  clear hset hx hD;generalize Z3 out=R1 at *
  generalize Ze (Zdy now p r k)=R at *
  obtain⟨j1,ix⟩:=Yd.1 ix;have g1:R[k+r]? = some (R[k+r]'j1):=Ya j1;obtain⟨j2,g2⟩:=Yd.1 g2;have g3:R[p+k]? = some (R[p+k]'j2):=Ya j2;simp -implicitDefEqProofs[l589_2,g1,g2,g3,ix,hws,s1,s2,q1,q2,q3,q4,q5,q6,q7,hw1,hw2,hl2]
 ·have hw2:=zan (Zdy now p r (n-p));have e:p+(n-p)=n:=by omega
  unfold Zjg Zf1;rw[e];generalize Z3 out=R1 at *
  generalize Ze (Zdy now p r (n-p))=R at *
  constructor<;>simp -implicitDefEqProofs[l589_2,hw1,hw2]
end
structure Nx (n:Nat) (now now':List Nat) (p r a:Nat):Prop where
 ln:now.length=n
 p1:1≤p
 pl:p<n
 h1:∀k,k<n→p<k→now.getD k 9<2
 h2:2≤now.getD p 0
 ha:now[p]? = some (a+1)
 hr:r<p
 h0:now[r]? = some a
 hk:∀k,k<p→r<k→now[k]?≠some a
 hb:∀x∈now,x≤1000
 re:Zdy now p r (n-p)=now'
section
variable{T:Tbl}[Zah T]
def Zjw(n:Nat)(out:List (List Nat))(now:List Nat):St:=⟨[(0,.i .i64 n),(3,.bs (.loc 3) 1 1 0 out.length),(4,.bs (.loc 4) 2 1 0 now.length)],Zf1 out now,4⟩
theorem z9l{n:Nat}{now now':List Nat}{p r a:Nat}(H:Nx n now now' p r a)(out:List (List Nat))(hn:n≤1000)(ho:out.length≤1000) :
  evX (orc T) T 0 Zc4 (Zjw n out now)=some (.g 0,Zjw n (out++[now]) now'):=by
 have ln:=H.ln;have pl:=H.pl;have p1:=H.p1;have F:=zm0 (T:=T) n (out++[now]) now (by omega) (n-1) p (by omega) (by omega) (fun k h1 h2=>by
  have q:=H.h1 k (by omega) h1;have hk:k<now.length:=by omega
  refine⟨now[k]'hk,Ya hk,?_⟩
  rwa [Ybn,Ya hk]at q) (.inr (by
  have q:=H.h2;have hk:p<now.length:=by omega
  refine⟨now[p]'hk,Ya hk,?_⟩
  rwa [Ybn,Ya hk]at q))
 have c1:=zjs (T:=T) now p r a (by omega) H.hr (by omega) H.ha H.h0 (fun k h1 h2=>H.hk k h2 h1) H.hb;have R:=zzs (T:=T) n (out++[now]) now ln hn p r (by omega) H.hr;have re:=H.re;rw[re]at R;have ln':now'.length=n:=by rw[←re,zfm];exact ln
 have hw1:=zbn (out++[now]);have hw2:=zan now;have hw3:=zan now';have hl1:=zcq out;have hw0:=zbn out;have hcap2:n≤4294967296:=by omega
 have hl2:=zba now;rw[ln]at hl2;have hout:(out++[now]).length=out.length+1:=by simp
 unfold Zjf Zf1 at F;unfold Zjg Zf1 at R;unfold Zjw Zf1;have ez:Zdy now p r 0=now:=rfl;rw[ez]at R;rw[hout,←zed]at F R ⊢;rw[←zed]at hw1;rw[ln]at F R ⊢;rw[ln']at *
 have hcap:out.length≤4294967295:=by omega
 have hsub:IntKind.wrap .i64 ((n:Int)-1)=((n-1:Nat):Int):=by rw[zac _ (by omega)];omega
 have hp1:¬ (p:Int)<1:=by omega
 have hp2:¬ p<1:=by omega
 have ht:List.take out.length (Z3 out)=Z3 out:=Yb (by omega);have ht2:List.take n (Ze now)=Ze now:=Yb (by omega);simp only[Yq]at R;clear H re ez;generalize Z3 out=R1 at *
 generalize Ze now=R2 at *
 generalize Ze now'=R3 at *
 simp -implicitDefEqProofs[Zc4,F,c1,R,hw0,hcap2,hw1,hw2,hw3,hl1,hl2,hcap,hsub,hp1,hp2,ht,ht2]
theorem z9m{n:Nat}{now:List Nat}(ln:now.length=n)(h1:∀k,k<n→0<k→now.getD k 9<2)(out:List (List Nat))(hn:n≤1000)(hn0:1≤n)(ho:out.length≤1000) :
  evX (orc T) T 0 Zc4 (Zjw n out now)=some (.r,⟨[(2,.bs (.loc 3) 1 1 0 (out.length+1))],[(.loc 3,⟨1,.own,1,Z3 (out++[now])⟩)],3⟩):=by
 have F:=zm0 (T:=T) n (out++[now]) now (by omega) (n-1) 0 (by omega) (by omega) (fun k h2 h3=>by
  have q:=h1 k (by omega) h2;have hk:k<now.length:=by omega
  refine⟨now[k]'hk,Ya hk,?_⟩
  rwa [Ybn,Ya hk]at q) (.inl rfl)
 have hw1:=zbn (out++[now]);have hw2:=zan now;have hl1:=zcq out;have hw0:=zbn out;have hcap2:n≤4294967296:=by omega
 have hl2:=zba now;rw[ln]at hl2;have hout:(out++[now]).length=out.length+1:=by simp
 unfold Zjf Zf1 at F;unfold Zjw Zf1;rw[hout,←zed]at F;rw[←zed]at hw1 ⊢;rw[ln]at F ⊢;have hcap:out.length≤4294967295:=by omega
 have hsub:IntKind.wrap .i64 ((n:Int)-1)=((n-1:Nat):Int):=by rw[zac _ (by omega)];omega
 have ht:List.take out.length (Z3 out)=Z3 out:=Yb (by omega);have ht2:List.take n (Ze now)=Ze now:=Yb (by omega);simp only[Yw]at F;clear h1;generalize Z3 out=R1 at *
 generalize Ze now=R2 at *
 simp -implicitDefEqProofs[Zc4,F,hw0,hcap2,hw1,hw2,hl1,hl2,hcap,hsub,ht,ht2]
end
def trs:Nat→List (List Nat)
 | 1=>[[0]]
 | 2=>[[0,1]]
 | 3=>[[0,1,2],[0,1,1]]
 | 4=>[[0,1,2,3],[0,1,2,2],[0,1,2,1],[0,1,1,1]]
 | 5=>[[0,1,2,3,4],[0,1,2,3,3],[0,1,2,3,2],[0,1,2,3,1],[0,1,2,2,2],[0,1,2,2,1],[0,1,2,1,2],[0,1,2,1,1],[0,1,1,1,1]]
 | _=>[]
def trD:Nat→List (Nat×Nat×Nat)
 | 1=>[]
 | 2=>[]
 | 3=>[(2,1,1)]
 | 4=>[(3,2,2),(3,1,1),(2,1,1)]
 | 5=>[(4,3,3),(4,2,2),(4,1,1),(3,2,2),(4,1,1),(3,1,1),(4,3,1),(2,1,1)]
 | _=>[]
def nxB(n:Nat)(now now':List Nat)(p r a:Nat):Bool:=
 decide (now.length=n)&&decide (1≤p)&&decide (p<n)&&decide (∀k,k<n→p<k→now.getD k 9<2)&&decide (2≤now.getD p 0)&&decide (now[p]? = some (a+1))&&decide (r<p)
  && decide (now[r]? = some a)&&decide (∀k,k<p→r<k→now[k]?≠some a)&&decide (∀x∈now,x≤1000)&&decide (Zdy now p r (n-p)=now')
theorem zah0{n:Nat}{now now':List Nat}{p r a:Nat}(h:nxB n now now' p r a=true):Nx n now now' p r a:=by
 unfold nxB at h;simp only[Yn,decide_eq_true_eq]at h;obtain⟨⟨⟨⟨⟨⟨⟨⟨⟨⟨h1,h2⟩,h3⟩,h4⟩,h5⟩,h6⟩,h7⟩,h8⟩,h9⟩,h10⟩,h11⟩:=h;exact⟨h1,h2,h3,h4,h5,h6,h7,h8,h9,h10,h11⟩
theorem z9n:∀n,n<6→∀j,j<(trD n).length→nxB n ((trs n).getD j []) ((trs n).getD (j+1) []) ((trD n).getD j (0,0,0)).1 ((trD n).getD j (0,0,0)).2.1 ((trD n).getD j (0,0,0)).2.2=true:=by decide +kernel
theorem zov:∀n,n<6→1≤n→(trs n).length=(trD n).length+1∧(trs n).getD 0 []=List.range n∧((trs n).getD (trD n).length []).length=n∧(∀k,k<n→0<k→((trs n).getD (trD n).length []).getD k 9<2)∧(trs n).length≤9:=by decide +kernel
section
variable{T:Tbl}[Zah T]
def Zjh(n j:Nat):St:=Zjw n ((trs n).take j) ((trs n).getD j [])
theorem zm1{α:Type}(l:List α)(d:α){j:Nat}(h:j<l.length):l.take j++[l.getD j d]=l.take (j+1):=by
 rw[Ya8 h,Ybn,Ya h]
 rfl
theorem z3m{n j:Nat}(hn:n<6)(h1:1≤n)(hj:j<(trD n).length):evX (orc T) T 0 Zc4 (Zjh n j)=some (.g 0,Zjh n (j+1)):=by
 obtain⟨l1,_,_,_,l5⟩:=zov n hn h1;have q:=z9l (T:=T) (zah0 (z9n n hn j hj)) ((trs n).take j) (by omega) (by rw[Yaa];omega);unfold Zjh;rw[←zm1 (trs n) [] (show j<(trs n).length by omega)];exact q
theorem z3n{n:Nat}(hn:n<6)(h1:1≤n):evX (orc T) T 0 Zc4 (Zjh n (trD n).length)=some (.r,⟨[(2,.bs (.loc 3) 1 1 0 (trs n).length)],[(.loc 3,⟨1,.own,1,Z3 (trs n)⟩)],3⟩):=by
 obtain⟨l1,_,l3,l4,l5⟩:=zov n hn h1;have q:=z9m (T:=T) (n:=n) l3 l4 ((trs n).take (trD n).length) (by omega) h1 (by rw[Yaa];omega);have e1:((trs n).take (trD n).length).length+1=(trs n).length:=by
  rw[Yaa];omega
 have e2:(trs n).take ((trD n).length+1)=trs n:=Yb (by omega);rw[e1,zm1 (trs n) [] (by omega),e2]at q;exact q
theorem zh7(n:Nat)(hn:n<6)(h1:1≤n):Za T 589 [.i .i64 n]=some (.sl (Z3 (trs n)) .an):=by
 have L:=zzr (T:=T) n (by omega);unfold Zle at L;simp only[Yw,List.range_zero]at L;have e0:Ze []=[]:=rfl;rw[e0]at L;obtain⟨l1,l2,_,_,l5⟩:=zov n hn h1;have hF0:Zjh n 0=⟨[(0,.i .i64 n),(3,.bs (.loc 3) 1 1 0 0),(4,.bs (.loc 4) 2 1 0 n)],[(.loc 3,⟨1,.own,1,[]⟩),(.loc 4,⟨2,.own,1,Ze (List.range n)⟩)],4⟩:=by
  unfold Zjh Zjw Zf1;rw[l2,Yc4,List.length_range]
  rfl
 have hlt:¬ (n:Int)<1:=by omega
 have hgt:¬ (5:Int)<n:=by omega
 have hlt2:¬ n<1:=by omega
 have hgt2:¬ 5<n:=by omega
 have hl:=zcq (trs n);have hw:=zbn (trs n);have ht:List.take (trs n).length (Z3 (trs n))=Z3 (trs n):=Yb (by omega);have hlast:=z3n (T:=T) hn h1;have hnext:=fun j hj=>z3m (T:=T) hn h1 (j:=j) hj;have hrun:Zgd (fun s=>evX (orc T) T 0 Zc4 s) 0 100 (evX (orc T) T 0 Zc4 (Zjh n 0))=some (.r,⟨[(2,.bs (.loc 3) 1 1 0 (trs n).length)],[(.loc 3,⟨1,.own,1,Z3 (trs n)⟩)],3⟩):=by
  cases hD:(trD n).length with
  | zero=>
   rw[hD]at hlast;rw[hlast]
   rfl
  | succ m=>
   rw[hnext 0 (by omega)];rw[hD]at hlast;exact z3l (fun j=>Zjh n (j+1)) _ (fun j e=>by cases e) m (fun j hj=>hnext (j+1) (by omega)) hlast 100 (by omega)
 rw[zab Zah.h589 rfl,b589];rw[hF0]at hrun;clear hlast hnext l1 l2 hF0;have hlN:=zba (List.range n);have hwN:=zan (List.range n);generalize Ze (List.range n)=NN at *
 generalize trs n=TR at *
 generalize Z3 TR=TT at *
 generalize TR.length=M at *
 have hE:evX (orc T) T 0 Zc4 ⟨[(7,.i .i64 0),(6,.i .i64 0),(0,.i .i64 n),(3,.bs (.loc 3) 1 1 0 0),(4,.bs (.loc 4) 2 1 0 n)],[(.loc 3,⟨1,.own,1,[]⟩),(.loc 4,⟨2,.own,1,NN⟩)],4⟩ =
   evX (orc T) T 0 Zc4 ⟨[(0,.i .i64 n),(3,.bs (.loc 3) 1 1 0 0),(4,.bs (.loc 4) 2 1 0 n)],[(.loc 3,⟨1,.own,1,[]⟩),(.loc 4,⟨2,.own,1,NN⟩)],4⟩:=by
  unfold Zc4;rw[z8v,z8v];congr 1
 simp -implicitDefEqProofs[zagk,hlt,hgt,L,hE,hrun,hl,hw,ht]
end
def wOk(s:Sm)(w:List Fz):Bool:=okS s&&decide (w.length=s.b.length)
structure SmW (s:Sm):Prop where
 ok:SmS s
 b:s.b.length≤7
 a:okS s=true→s.a.length=s.b.length∧∀(k:Nat) (r:List Fz),s.a[k]? = some r→r.length=k∧∀x∈r,fsz x≤2
theorem zm4:∀n,n<6→(trs n).all (fun t=>Za5 (Zba t)&&Zhz t)=true:=by decide +kernel
theorem zvy:∀n,n<6→(1≤n→0<(trs n).length)∧(trs n).length≤9:=by decide +kernel
section
variable{T:Tbl}[Z0 T][Zq T][Zv T][Zy T][Zr T][Zn T][Zf T][Zg T][Zw T][Zak T][Zan T][Zbv T][Zb0 T][Za8 T][Zch T][Zdx T][Zdw T][Zam T][Zbr T][Z9 T][Zah T][Zag T]
theorem zfp(s:Sm)(hs:SmS s)(w:List Fz)(l:List Int)(hl:l.length≤1000)(hlw:∀x∈l,-9223372036854775808≤x∧x<9223372036854775808)(h:(okS s&&decide (w.length=s.b.length)&&Za5 l)=false) :
  Za T 617 [esm s,.sl (Zd w) .an,.sl (ints l) .an]=some (.tup [efz (fz 0),.b false]):=by
 have h0:=zc1 (T:=T);have c1:=zgx (T:=T) s hs;have c2:=ze0 (T:=T) l (by omega) hlw;have hwQ:=ze2 l;rw[zab Zag.h617 rfl,b617];obtain⟨nm,C,M,B,E⟩:=s;dsimp only at *
 generalize ints l=Q at *
 generalize Za5 l=z at *
 cases ho:okS ⟨nm,C,M,B,E⟩ with
 | false=>
  rw[ho]at c1;simp -implicitDefEqProofs[h0,c1,hwQ]
 | true=>
  rw[ho]at c1 h;by_cases hw:w.length=B.length
  ·have hz:z=false:=by simpa[hw]using h
   subst hz;simp -implicitDefEqProofs[h0,c1,c2,hwQ,hw]
  ·have hw':¬ (w.length:Int)=B.length:=by omega
   simp -implicitDefEqProofs[h0,c1,hwQ,hw,hw']
def Zer(s:Sm)(w:List Fz)(t:List Nat):Bool:=wOk s w&&decide (wtQ s.a t s.b.length w*(Zd0 t:Nat)=1)
def Zfr(s:Sm)(w:List Fz)(n:Nat):Bool:=(trs n).all (Zer s w)
def Zds(s:Sm)(w:List Fz):Nat→Nat→Nat
 | 0,n=>n
 | f+1,n=>if Zfr s w (n+1) then Zds s w f (n+1) else n
def Zd8(s:Sm)(w:List Fz):Nat:=Zds s w 5 0
def Zhv(s:Sm)(w:List Fz)(L:List (List Nat))(i:Nat):St:=
 ⟨[(1,.sl (Zd w) .an),(3,.ptr (.loc 3) 1 5 0 0),(12,.sl (Z3 L) .an),(13,.i .i64 L.length),(14,.i .i64 i)],[(.loc 3,⟨1,.str,5,[Zde s]⟩)],3⟩
def Zhl(b:Bool):Option (Ex×St):=if b then some (.n,⟨[],[],2⟩) else some (.r,⟨[(6,.b false)],[],2⟩)
theorem z1c{t:List Nat}(ht:TrOk t):Zd0 t≤100000:=by
 rw[←ht.den];exact(ht.dj t.length (Ye _)).2.1
theorem z9q{s:Sm}{t:List Nat}{w:List Fz}(ht:TrOk t)(hm:s.b.length≤7)(hw:w.length=s.b.length)(ha:s.a.length=s.b.length)
  (hr:∀(k:Nat) (r:List Fz),s.a[k]? = some r→r.length=k∧∀x∈r,fsz x≤2) (ws:∀x∈w,fsz x≤10):sz (wtQ s.a t s.b.length w)≤26000:=by
 have l1:=ht.l1;have hN:=zvx ht s.b.length hm ha hr (t.length-1) (by omega);obtain⟨r1,r2⟩:=hN.r 0 (by omega);have hl:w.length=(fzs (rwN (wtJ s.a t s.b.length (t.length-1)) 0)).length:=by rw[zay];omega
 have h:=zfo hl ws (fun y hy=>by
  obtain⟨z,hz,rfl⟩:=Y6.1 hy;exact r2 z hz) (by omega) (by omega) w.length (Ye _)
 have e:Zdm w (fzs (rwN (wtJ s.a t s.b.length (t.length-1)) 0)) w.length=wtQ s.a t s.b.length w:=by
  unfold Zdm wtQ;rw[Yb (Ye _),Yb (by omega)]
  rfl
 rw[e]at h;have:w.length*(10+3600+1)≤7*(10+3600+1):=Yu _ (by omega);omega
theorem z3u(s:Sm)(hs:SmW s)(w:List Fz)(ws:∀x∈w,fsz x≤10)(L:List (List Nat))(hL:L.length≤9)(hok:∀t∈L,Za5 (Zba t)=true∧Zhz t=true)(i:Nat)(hi:i<L.length) :
  (Zer s w L[i]=true→evX (orc T) T 0 l613_0 (Zhv s w L i)=some (.n,Zhv s w L (i+1))) ∧
  (Zer s w L[i]=false→Zd5 (evX (orc T) T 0 l613_0 (Zhv s w L i))=true∧Zeh 0 0 (.norm false []) (evX (orc T) T 0 l613_0 (Zhv s w L i))=Zhl false):=by
 obtain⟨h1,h2⟩:=hok _ (Yr hi);have ht:=zq6 h2;have e0:(Z3 L)[i]? = some [.sl (Ze L[i]) .an]:=by simp[Z3,hi]
 have hlt:=zcq L;have hwt:=zbn L;have hiI:(i:Int)<L.length:=by omega
 have hws:=zbv hi (by omega);have hwQ:=zan L[i];have o1:=zks (T:=T);have hd:=z1c ht;have l8:=ht.l8;have c5:=zfn (T:=T) ht h1;have c3:Za T 205 [.i .i64 (Zd0 L[i]:Nat)]=some (efz (fz ((Zd0 L[i]:Nat):Rat))):=by
  have:=zor (T:=T) ((Zd0 L[i]:Nat):Int) (by omega) (by omega);rw[this,Rat.intCast_natCast]
 unfold Zer;cases hwo:wOk s w with
 | false=>
  have c0:=zfp (T:=T) s hs.ok w (Zba L[i]) (by simp[Zba];omega) (fun x hx=>by
   obtain⟨n,hn,rfl⟩:=Y6.1 hx;have:=ht.v n hn;omega) (by
   unfold wOk at hwo;rw[hwo]
   rfl)
  rw[zqs]at c0;refine⟨fun h=>by simp at h,fun _=>?_⟩;unfold Zhv Zhl;obtain⟨nm,C,M,B,E⟩:=s;dsimp only at *
  generalize Ze L[i]=Q at *
  generalize Z3 L=R at *
  obtain⟨j0,a0⟩:=Yd.1 e0;have q0:=Ya j0;constructor<;>simp -implicitDefEqProofs[l613_0,hi,hiI,hws,c0,hlt,hwt,hwQ,a0,q0]
 | true=>
  have hwo2:=hwo;unfold wOk at hwo2;rw[Yn,decide_eq_true_eq]at hwo2;obtain⟨ha,hr⟩:=hs.a hwo2.1;have c0:=zgr (T:=T) s hs.ok w L[i] ht h1 hs.b hwo2.1 hwo2.2 ha hr ws;have z0:=z9q ht hs.b hwo2.2 ha hr ws;have zd:sz ((Zd0 L[i]:Nat):Rat)≤1:=Yen.2 ⟨zag (by rw[Rat.num_natCast];simp;omega),zag (by rw[Rat.den_natCast];decide)⟩;rw[Yck];generalize wtQ s.a L[i] s.b.length w=V at *
  generalize ((Zd0 L[i]:Nat):Rat)=D at *
  have c1:=zfh (T:=T) (fz V) (fz D) (by rw[za6];omega) (by rw[za6];omega);rw[zbx,zbx]at c1;have zm:=zet V D;have c2:=zjo (T:=T) (fz (V*D)) (fz 1) (by rw[za6];omega) (by rw[za6,znu];omega);rw[zbx,zbx]at c2;unfold Zhv Zhl;obtain⟨nm,C,M,B,E⟩:=s;dsimp only at *
  generalize Ze L[i]=Q at *
  generalize Z3 L=R at *
  obtain⟨j0,a0⟩:=Yd.1 e0;have q0:=Ya j0;clear hs hok z0 zm zd hwo;refine⟨fun h=>?_,fun h=>?_⟩
  ·rw[h]at c2;simp -implicitDefEqProofs[l613_0,hi,hiI,hws,c0,c1,c2,c3,c5,o1,hlt,hwt,hwQ,a0,q0]
  ·rw[h]at c2;constructor<;>simp -implicitDefEqProofs[l613_0,hi,hiI,hws,c0,c1,c2,c3,c5,o1,hlt,hwt,hwQ,a0,q0]
theorem zah7(s:Sm)(hs:SmW s)(w:List Fz)(ws:∀x∈w,fsz x≤10)(L:List (List Nat))(hL:L.length≤9)(hok:∀t∈L,Za5 (Zba t)=true∧Zhz t=true) :
  Zj T 0 0 (.norm false []) l613_0 (Zhv s w L 0)=Zhl (L.all (Zer s w)):=by
 have key:=zaq (T:=T) (k:=0) (id:=0) (g2:=.norm false []) (c:=l613_0) (Zhv s w L) L.length (fun i=>Zhl ((L.drop i).all (Zer s w))) (fun i hi=>?_) ?_
 ·simpa using key
 ·obtain⟨h1,h2⟩:=z3u (T:=T) s hs w ws L hL hok i hi;have hd:L.drop i=L[i]::L.drop (i+1):=(Yb3 ..).symm;rw[hd,Yb0];cases hg:Zer s w L[i]with
  | true=>exact .inl ⟨h1 hg,by rw[Yck]⟩
  | false=>exact .inr (h2 hg)
 ·have hwt:=zbn L;unfold Zhv;rw[Y5];generalize Z3 L=R at *
  obtain⟨nm,C,M,B,E⟩:=s;constructor<;>simp -implicitDefEqProofs[l613_0,hwt,Zhl]
theorem zoy(s:Sm)(hs:SmW s)(w:List Fz)(ws:∀x∈w,fsz x≤10)(n:Nat)(h1:1≤n)(hn:n<6) :
  Za T 613 [esm s,.sl (Zd w) .an,.i .i64 n]=some (.b (Zfr s w n)):=by
 have L:=zah7 (T:=T) s hs w ws (trs n) (zvy n hn).2 (fun t ht=>by
  have:=Yf.1 (zm4 n hn) t ht;simpa using this)
 have c:=zh7 (T:=T) n hn h1;have hl:=zcq (trs n);have hwt:=zbn (trs n);unfold Zfr;unfold Zhv Zhl at L;generalize (trs n).all (Zer s w)=z at *
 rw[zab Zag.h613 rfl,b613];obtain⟨nm,C,M,B,E⟩:=s;generalize Z3 (trs n)=R at *
 rw[show (((0:Nat):Int))=0 from rfl]at L;cases z<;>simp -implicitDefEqProofs[L,c,hl,hwt]
def Zl8(s:Sm)(w:List Fz)(n:Nat):St:=⟨[(1,.sl (Zd w) .an),(2,.ptr (.loc 2) 1 5 0 0),(5,.i .i64 n)],[(.loc 2,⟨1,.str,5,[Zde s]⟩)],3⟩
theorem zk0(s:Sm)(hs:SmW s)(w:List Fz)(ws:∀x∈w,fsz x≤10):Za T 611 [esm s,.sl (Zd w) .an]=some (.i .i64 (Zd8 s w:Nat)):=by
 have key:=zaq (T:=T) (k:=0) (id:=0) (g2:=.norm false [5]) (c:=l611_0) (Zl8 s w) 5 (fun n=>some (.n,⟨[(5,.i .i64 (Zds s w (5-n) n:Nat))],[],2⟩)) (fun n hn=>?_) ?_
 ·unfold Zl8 at key;rw[show (((0:Nat):Int))=0 from rfl,Ydb,show Zds s w 5 0=Zd8 s w from rfl]at key;generalize Zd8 s w=z at *
  rw[zab Zag.h611 rfl,b611];obtain⟨nm,C,M,B,E⟩:=s;simp -implicitDefEqProofs[key]
 ·have c:=zoy (T:=T) s hs w ws (n+1) (by omega) (by omega);have hws:=zbv hn (by omega);have hnI:(n:Int)<5:=by omega
  obtain⟨f,hf⟩:∃f,5-n=f+1:=⟨5-n-1,by omega⟩;have hf2:5-(n+1)=f:=by omega
  have ee:Zds s w (f+1) n=if Zfr s w (n+1) then Zds s w f (n+1) else n:=rfl
  rw[hf,hf2,ee];unfold Zl8;cases hh:Zfr s w (n+1) with
  | true=>
   rw[hh]at c;left;refine⟨?_,by simp⟩;obtain⟨nm,C,M,B,E⟩:=s;simp only[Yax,Yar]at c hws;simp -implicitDefEqProofs[l611_0,hn,hnI,hws,c]
  | false=>
   rw[hh]at c;right;obtain⟨nm,C,M,B,E⟩:=s;simp only[Yax,Yar]at c hws;constructor<;>simp -implicitDefEqProofs[l611_0,hn,hnI,hws,c]
 ·unfold Zl8;obtain⟨nm,C,M,B,E⟩:=s;constructor<;>simp -implicitDefEqProofs[l611_0,Zds]
theorem zju(s:Sm)(hs:SmW s)(wb:∀x∈s.b,fsz x≤10)(we:∀x∈s.e,fsz x≤10):Za T 604 [esm s]=some (.tup [.i .i64 (Zd8 s s.b:Nat),.i .i64 (Zd8 s s.e:Nat)]):=by
 have c1:=zk0 (T:=T) s hs s.b wb;have c2:=zk0 (T:=T) s hs s.e we;generalize Zd8 s s.b=p at *
 generalize Zd8 s s.e=q at *
 rw[zab Zag.h604 rfl,b604];obtain⟨nm,C,M,B,E⟩:=s;dsimp only at *
 simp -implicitDefEqProofs[c1,c2]
end
def Zhx(n:Int):List (List Nat):=if n<1∨5<n then [] else trs n.toNat
section
variable{T:Tbl}[Zb3 T]
def Zru(a b:List Nat)(x:Nat×Bool):St:=⟨[(0,.sl (Ze a) .an),(1,.sl (Ze b) .an),(5,.b x.2),(6,.i .i64 x.1)],[],2⟩
theorem zz8{x:Int}(h1:1≤x)(h2:x<18446744073709551616):(IntKind.wrap .i64 x=1)↔x=1:=by
 unfold IntKind.wrap;have e:x%18446744073709551616=x:=Int.emod_eq_of_lt (by omega) h2;simp only[IntKind.bits,IntKind.signed];simp;rw[e];split<;>omega
def Ze6(l:List Int)(i:Nat):St:=⟨[(0,.sl (ints l) .an),(3,.i .i64 ((i+1:Nat):Int))],[],2⟩
def Zf3(l:List Int)(b:Bool):Option (Ex×St):=if b then some (.n,⟨[(0,.sl (ints l) .an)],[],2⟩) else some (.r,⟨[(2,.b false)],[],2⟩)
theorem z4f(x0:Int)(t:List Int)(hl:t.length≤1000000)(hw:∀x∈x0::t,-9223372036854775808≤x∧x<9223372036854775808) :
  Zj T 0 0 (.norm false [0]) l592_0 (Ze6 (x0::t) 0)=Zf3 (x0::t) (Zdz x0 t):=by
 have key:=zaq (T:=T) (k:=0) (id:=0) (g2:=.norm false [0]) (c:=l592_0) (Ze6 (x0::t)) t.length (fun i=>Zf3 (x0::t) (Zdz ((x0::t)[i]?.getD 0) (t.drop i))) (fun i hi=>?_) ?_
 ·simpa using key
 ·have hi':(i:Int)+1<t.length+1:=by omega
  have hii:(i:Int)<t.length+1:=by omega
  have hi2:i<t.length+1:=by omega
  have hws:IntKind.wrap .i64 ((i:Int)+1+1)=(i:Int)+1+1:=inRg _ (by omega) (by omega);have hw1:IntKind.wrap .i64 (i:Int)=(i:Int):=inRg _ (by omega) (by omega);have e1:(x0::t)[i+1]? = some t[i]:=by simp[hi]
  have e0:(x0::t)[i]? = some ((x0::t)[i]'(by simp;omega)):=Ya _;have hd:t.drop i=t[i]::t.drop (i+1):=(Yb3 ..).symm;obtain⟨h1,h2⟩:=hw t[i] (by simp);obtain⟨h3,h4⟩:=hw ((x0::t)[i]'(by simp;omega)) (Yr _);rw[hd,e0,e1,Yaq,Yaq];generalize (x0::t)[i]'(by simp;omega)=p at *
  generalize hx:t[i]=x at *
  have hlen:(ints (x0::t)).length=t.length+1:=by simp
  have hwk:=ze2 (x0::t);have q0:(ints (x0::t))[i]? = some [.i .i64 p]:=by rw[ints_get?,e0];rfl
  have q1:(ints (x0::t))[i+1]? = some [.i .i64 x]:=by rw[ints_get?,e1];rfl
  clear hw;rw[show Zdz p (x::t.drop (i+1))=(decide (1≤x)&&decide (x-1≤p)&&Zdz x (t.drop (i+1))) from rfl];unfold Zf3;unfold Ze6;generalize ints (x0::t)=R at *
  obtain⟨j0,a0⟩:=Yd.1 q0;obtain⟨j1,a1⟩:=Yd.1 q1;have q0:R[i]? = some (R[i]'j0):=Ya j0;have q1:R[i+1]? = some (R[i+1]'j1):=Ya j1;by_cases c1:1≤x
  ·have c1':¬ x<1:=by omega
   by_cases c3:p<x
   ·by_cases c2:x-p=1
    ·left;have c2':x-1≤p:=by omega
     have hwx:IntKind.wrap .i64 (x-p)=1:=by rw[c2];exact inRg _ (by omega) (by omega)
     refine⟨?_,by simp[c1,c2']⟩;simp -implicitDefEqProofs[l592_0,hlen,hwk,hi',hii,hi2,hi,hws,hw1,q0,q1,a0,a1,hwx,c1',c3]
    ·right;have c2':¬ x-1≤p:=by omega
     have hwx:¬ IntKind.wrap .i64 (x-p)=1:=fun e=>c2 ((zz8 (by omega) (by omega)).1 e);constructor<;>simp -implicitDefEqProofs[l592_0,hlen,hwk,hi',hii,hi2,hi,hws,hw1,q0,q1,a0,a1,hwx,c1',c1,c2',c3]
   ·left;have c2':x-1≤p:=by omega
    refine⟨?_,by simp[c1,c2']⟩;simp -implicitDefEqProofs[l592_0,hlen,hwk,hi',hii,hi2,hi,hws,hw1,q0,q1,a0,a1,c1',c3]
  ·right;have c1':x<1:=by omega
   constructor<;>simp -implicitDefEqProofs[l592_0,hlen,hwk,hi',hii,hi2,hi,hws,hw1,q0,q1,a0,a1,c1',c1]
 ·have h0:¬ (t.length:Int)+1<t.length+1:=by omega
  unfold Ze6;constructor<;>simp -implicitDefEqProofs[l592_0,h0,Zf3,Zdz]
theorem zo7(l:List Int)(hl:l.length≤1000000)(hw:∀x∈l,-9223372036854775808≤x∧x<9223372036854775808):Za T 592 [.sl (ints l) .an]=some (.b (Zb5 l)):=by
 match l with
 | []=>
  have key:=zaq (T:=T) (k:=0) (id:=0) (g2:=.norm false [0]) (c:=l592_0) (Ze6 []) 0 (fun i=>some (.n,⟨[(0,.sl [] .an)],[],2⟩)) (fun i hi=>absurd hi (Nat.not_lt_zero _)) (by
   unfold Ze6;constructor<;>simp -implicitDefEqProofs[l592_0])
  unfold Ze6 at key;simp only[z0h,Y8,Yar]at key;rw[zab Zb3.h592 rfl,b592];simp -implicitDefEqProofs[key,Zb5]
 | x::t=>
  have hp0:(0:Int)<(t.length:Int)+1:=by omega
  have L:=z4f (T:=T) x t (by simp at hl;omega) hw;simp only[Ze6,Y8,Yar]at L;have hlen:(ints (x::t)).length=t.length+1:=by simp
  have hwk:=ze2 (x::t);have q0:(ints (x::t))[0]? = some [.i .i64 x]:=rfl;have e:Zb5 (x::t)=(decide (x=0)&&Zdz x t):=rfl;rw[e,zab Zb3.h592 rfl,b592];have ex:(x == 0)=decide (x=0):=rfl;unfold Zf3 at L;generalize ints (x::t)=R at *
  obtain⟨j0,a0⟩:=Yd.1 q0;cases hb:Zdz x t<;>simp -implicitDefEqProofs[L,hp0,hlen,hwk,q0,a0,hb,ex]
def Zme(t:List Nat)(i j:Nat):St:=⟨[(0,.sl (Ze t) .an),(1,.i .i64 i),(5,.i .i64 ((i+1+j:Nat):Int))],[],2⟩
theorem zih(t:List Nat)(i:Nat)(hi:i<t.length)(hl:t.length≤1000):Za T 606 [.sl (Ze t) .an,.i .i64 i]=some (.i .i64 (enT t i:Nat)):=by
 have ei:t[i]? = some t[i]:=Ya hi;have hwk:=zan t;have hln:=zba t;have hw0:IntKind.wrap .i64 ((i:Int)+1)=((i+1:Nat):Int):=inRg _ (by omega) (by omega);unfold enT;rw[ei,Yaq];have key:=zaq (T:=T) (k:=0) (id:=0) (g2:=.norm false [5]) (c:=l606_0) (Zme t i) (t.length-(i+1)) (fun j=>some (.n,⟨[(5,.i .i64 ((i+1+j+Zhy t[i] (t.drop (i+1+j)):Nat):Int))],[],2⟩)) (fun j hj=>?_) ?_
 ·unfold Zme at key;simp only[Yq]at key;generalize i+1+Zhy t[i] (t.drop (i+1))=z at *
  rw[zab Zb3.h606 rfl,b606];generalize Ze t=Q at *
  simp only[Yax,Yar]at key hw0;simp -implicitDefEqProofs[key,hwk,hw0]
 ·obtain⟨k,hk⟩:∃k,k=i+1+j:=⟨_,rfl⟩;have hkl:k<t.length:=by omega
  have hkI:(k:Int)<t.length:=by omega
  have hiI:(i:Int)<t.length:=by omega
  have hk1:i+1+(j+1)=k+1:=by omega
  have hws:IntKind.wrap .i64 ((k:Int)+1)=((k+1:Nat):Int):=inRg _ (by omega) (by omega);have hd:t.drop k=t[k]::t.drop (k+1):=(Yb3 ..).symm;have q0:=zbd ei;have q1:=zbd (Ya hkl);unfold Zme;rw[hk1,←hk,hd,show Zhy t[i] (t[k]::t.drop (k+1))=if t[i]<t[k] then Zhy t[i] (t.drop (k+1))+1 else 0 from rfl];generalize Zhy t[i] (t.drop (k+1))=z at *
  generalize t[i]=a at *
  generalize t[k]=b at *
  generalize Ze t=Q at *
  obtain⟨j0,a0⟩:=Yd.1 q0;obtain⟨j1,a1⟩:=Yd.1 q1;have q0:=Ya j0;have q1:=Ya j1;by_cases hab:a<b
  ·left;have hab':(a:Int)<b:=by omega
   refine⟨?_,by rw[if_pos hab,show k+1+z=k+(z+1) by omega]⟩;simp -implicitDefEqProofs[l606_0,hkl,hkI,hiI,hws,hwk,hln,q0,q1,a0,a1,hab,hab',hi]
  ·right;have hab':¬ (a:Int)<b:=by omega
   rw[if_neg hab,Yq];constructor<;>simp -implicitDefEqProofs[l606_0,hkl,hkI,hiI,hws,hwk,hln,q0,q1,a0,a1,hab,hab',hi]
 ·have e:i+1+(t.length-(i+1))=t.length:=by omega
  unfold Zme;rw[e,Y5,show Zhy t[i] []=0 from rfl,Yq];generalize Ze t=Q at *
  constructor<;>simp -implicitDefEqProofs[l606_0,hwk,hln]
theorem zqw(t:List Nat):∀k,1≤Zht t k
 | 0=>Ye _
 | k+1=>by
  have h:=zqw t k;have hge:k+1≤enT t k:=Ydh _ _;exact Ybh h (show 1≤enT t k-k by omega)
def Zkb(t:List Nat)(i:Nat):St:=⟨[(0,.sl (Ze t) .an),(3,.i .i64 (Zht t i:Nat)),(4,.i .i64 i)],[],2⟩
theorem zk6{t:List Nat}(ht:TrOk t):Za T 593 [.sl (Ze t) .an]=some (.i .i64 (Zd0 t:Nat)):=by
 have l8:=ht.l8;have hwk:=zan t;have hln:=zba t;have key:=za2 (T:=T) (k:=0) (id:=0) (g2:=.norm false [3]) (c:=l593_0) (Zkb t) t.length (some (.n,⟨[(3,.i .i64 (Zd0 t:Nat))],[],2⟩)) (fun i hi=>?_) ?_
 ·unfold Zkb at key;rw[show Zht t 0=1 from rfl,show (((0:Nat):Int))=0 from rfl,show (((1:Nat):Int))=1 from rfl]at key;rw[zab Zb3.h593 rfl,b593];generalize Ze t=Q at *
  generalize Zd0 t=D at *
  simp -implicitDefEqProofs[key,hwk]
 ·have c:=zih (T:=T) t i hi (by omega);have hiI:(i:Int)<t.length:=by omega
  have hws:=zbv hi (by omega);have d0:=ht.dk i (by omega);have d1:=ht.dk (i+1) (by omega);have ed:Zht t (i+1)=Zht t i*(enT t i-i):=rfl;have hge:i+1≤enT t i:=Ydh _ _;have hD:=zqw t i;unfold Zkb;rw[ed]at d1 ⊢;generalize enT t i=n at *
  generalize Zht t i=D at *
  obtain⟨u,hu⟩:∃u,n=u+i:=⟨n-i,by omega⟩;subst hu;rw[Yd0]at d1 ⊢;have hu1:1≤u:=by omega
  have hww:IntKind.wrap .i64 ((D:Int)*u)=((D*u:Nat):Int):=by
   rw[←Ydc];generalize D*u=m at *
   exact inRg _ (by omega) (by omega)
  ·have hu2:u≤100000:=by
    have:1*u≤D*u:=Yu _ (by omega);omega
   have hwu:IntKind.wrap .i64 (u:Int)=u:=inRg _ (by omega) (by omega);generalize Ze t=Q at *
   simp only[Yax]at c;simp -implicitDefEqProofs[l593_0,hi,hiI,hws,hwk,hln,c,hwu,hww]
 ·unfold Zkb Zd0;generalize Zht t t.length=D at *
  generalize Ze t=Q at *
  constructor<;>simp -implicitDefEqProofs[l593_0,hwk,hln]
theorem zo8(n:Int):Za T 590 [.i .i64 n]=some (.sl (Z3 (Zhx n)) .an):=by
 by_cases h:n<1∨5<n
 ·have e:Zhx n=[]:=by unfold Zhx;rw[if_pos h]
  rw[e,zab Zb3.h590 rfl,b590];by_cases h1:n<1
  ·simp -implicitDefEqProofs[h1,Z3]
  ·have h2:5<n:=by omega
   simp -implicitDefEqProofs[h1,h2,Z3]
 ·rw[zab Zb3.h590 rfl,b590];obtain rfl | rfl | rfl | rfl | rfl:n=1∨n=2∨n=3∨n=4∨n=5:=by omega
  ·have e:Zhx 1=[[0]]:=by decide
   rw[e];simp -implicitDefEqProofs[Z3,Ze]
  ·have e:Zhx 2=[[0,1]]:=by decide
   rw[e];simp -implicitDefEqProofs[Z3,Ze]
  ·have e:Zhx 3=trs 3:=by decide
   rw[e];simp -implicitDefEqProofs[Z3,Ze,trs]
  ·have e:Zhx 4=trs 4:=by decide
   rw[e];simp -implicitDefEqProofs[Z3,Ze,trs]
  ·have e:Zhx 5=trs 5:=by decide
   rw[e];simp -implicitDefEqProofs[Z3,Ze,trs]
end
section
variable{T:Tbl}[Z0 T][Z4 T][Zai T][Z1 T][Zao T][Z2 T][Zar T][Zz T][Zq T][Zv T][Zy T][Zr T][Zn T][Zf T][Zg T][Zw T][Zak T][Zan T][Zbv T][Zb0 T][Za8 T][Zch T][Zdx T][Zdw T][Zam T][Zbr T][Z9 T][Zah T][Zag T][Zb3 T][Zci T]
theorem zjz(q:Rat):Za T 235 [efz (fz q)]=some (.b (decide (q=0))):=by
 have h:((fz q).2.1.length=0)↔q=0:=by
  constructor
  ·intro h;have h1:(ofN q.num.natAbs).length=0:=h;have h2:val (ofN q.num.natAbs)=0:=by simp_all
   rw[zae]at h2
   simp_all
  ·intro h;rw[h,zpl]
   rfl
 rw[zab Zz.h235 rfl,b235];by_cases hz:q=0
 ·have h1:=h.2 hz;rw[decide_eq_true hz];simp -implicitDefEqProofs[h1]
 ·have h1:¬ (fz q).2.1.length=0:=fun x=>hz (h.1 x);rw[decide_eq_false hz];simp -implicitDefEqProofs[h1]
abbrev nlw:List AV:=[.b false,.sl [] .an,.sl [] .an]
def Zi0(s:Sm)(q:Rat):Heap:=[(.loc 4,⟨1,.str,5,[Zde s]⟩),(.loc 8,⟨2,.str,3,[nlw]⟩),(.loc 9,⟨3,.str,3,[Zbg (fz q)]⟩)]
def Zlm(s:Sm)(t:List Nat)(i k:Nat)(x:Nat×Nat×Rat):St:=
 ⟨[(1,.sl (Ze t) .an),(2,.i .i64 i),(3,.i .i64 k),(4,.ptr (.loc 4) 1 5 0 0),(8,.ptr (.loc 8) 2 3 0 0),(9,.ptr (.loc 9) 3 3 0 0),(10,.i .i64 x.2.1)],Zi0 s x.2.2,5⟩
def Zln(s:Sm)(t:List Nat)(i k c:Nat)(q:Rat)(r:List Fz)(g:Nat→Rat)(j:Nat):St:=
 ⟨[(1,.sl (Ze t) .an),(2,.i .i64 i),(3,.i .i64 k),(4,.ptr (.loc 4) 1 5 0 0),(8,.ptr (.loc 8) 2 3 0 0),(9,.ptr (.loc 9) 3 3 0 0),(10,.i .i64 c),(11,.ptr (.loc 11) 4 3 0 0),(12,.i .i64 j)],
  Zi0 s q++[(.loc 11,⟨4,.str,3,[Zbg (fz (dotG (r.take j) g))]⟩)],6⟩
theorem zaic(s:Sm)(t:List Nat)(i k c:Nat)(q:Rat)(r:List Fz)(g:Nat→Rat)(m:Nat)(ha:AOk s.a m)(hk:s.a[k]? = some r)(hkm:k<m)(D:Nat)(hD:D≤7)(hg:∀j,j<k→sz (g j)≤1+4*2^j*D)
  (hc:∀j,j<k→Za T 643 [esm s,.sl (Ze t) .an,.i .i64 c,.i .i64 j]=some (efz (fz (g j)))) :
  Zj T 0 2 (.norm false [1,2,3,4,8,9,10,11]) l643_0 (Zln s t i k c q r g 0) =
   some (.n,⟨[(1,.sl (Ze t) .an),(2,.i .i64 i),(3,.i .i64 k),(4,.ptr (.loc 4) 1 5 0 0),(8,.ptr (.loc 8) 2 3 0 0),(9,.ptr (.loc 9) 3 3 0 0),(10,.i .i64 c),(11,.ptr (.loc 11) 4 3 0 0)],
    Zi0 s q++[(.loc 11,⟨4,.str,3,[Zbg (fz (dotG r g))]⟩)],6⟩):=by
 obtain⟨hrl,hrx⟩:=ha.r k r hk;have hm4:=ha.m4;have hal:=ha.l;have hwk:=zan t;refine za2 (Zln s t i k c q r g) k _ (fun j hj=>?_) ?_
 ·have hjr:j<r.length:=by omega
  have hjI:(j:Int)<k:=by omega
  have hws:=zbv hj (by omega);have e:=zny (r:=r) (g:=g) hjr;obtain⟨hx2,hxr⟩:=hrx _ (Yr hjr);have hgs:=hg j hj;have z0:=ziw (r:=r) (g:=g) (D:=D) (fun x hx=>(hrx x hx).1) (fun j hj=>hg j (by omega)) j (by omega);have hp8:2^j≤8:=Yc (Yk (by decide) (show j≤3 by omega)) (by decide);have hq1:4*2^j*D≤4*8*7:=Ybh (Yx _ hp8) hD;have hq2:4*(2^j-1)*D≤4*8*7:=Ybh (Yx _ (by omega)) hD;have hxe:r[j]=fz (fv r[j]):=by
   unfold Zbb at hxr
   first | exact of_decide_eq_true hxr | exact(of_decide_eq_true hxr).symm
  have c0:=hc j hj;have hxq:=ze4 hx2 (by decide);have hal1:(s.a)[k]? = some r:=hk;have hma:(Zs s.a)[k]? = some [.sl (Zd r) .an]:=by simp[Zs,hk]
  have hra:(Zd r)[j]? = some (Zbg (fz (fv r[j]))):=by
   rw[←hxe];simp[Zd,hjr]
  have hmw:=zby s.a;have hlm:(Zs s.a).length=s.a.length:=by simp[Zs]
  have hlr:(Zd r).length=r.length:=by simp[Zd]
  have hkI:(k:Int)<s.a.length:=by omega
  have hjrI:(j:Int)<r.length:=by omega
  have hka:k<s.a.length:=by omega
  have zq:=zjz (T:=T) (fv r[j]);have cm:=zef (T:=T) (fv r[j]) (g j) (by omega) (by omega);have zm:=zet (fv r[j]) (g j);have ca:=zgc (T:=T) (dotG (r.take j) g) (fv r[j]*g j) (by omega) (by omega);rw[←e]at ca;unfold Zln Zi0 Zde;have e0:fv r[j]=0→dotG (r.take (j+1)) g=dotG (r.take j) g:=fun h=>by rw[e,h,Rat.zero_mul,Yem]
  clear e hxe hg hc z0 hgs hq1 hq2 hp8 hx2 hxr hrx;generalize dotG (r.take (j+1)) g=y at *
  generalize dotG (r.take j) g=y0 at *
  generalize hX:fv r[j]=X at *
  generalize g j=G at *
  obtain⟨nm,C,M,B,E⟩:=s;unfold esm at c0;dsimp only at *
  obtain⟨j0,a0⟩:=Yd.1 hma;obtain⟨j1,a1⟩:=Yd.1 hra;have q0:=Ya j0;have q1:=Ya j1;generalize Zs M=MM at *
  generalize Zd r=R at *
  generalize Ze t=Q at *
  by_cases hz:X=0
  ·have:=e0 hz;subst this;rw[hz]at zq a1;simp -implicitDefEqProofs[l643_0,hj,hjI,hws,hwk,hmw,hlm,hlr,hkI,hka,hjr,hjrI,a0,a1,q0,q1,zq,hz,c0]
  ·simp -implicitDefEqProofs[l643_0,hj,hjI,hws,hwk,hmw,hlm,hlr,hkI,hka,hjr,hjrI,a0,a1,q0,q1,zq,hz,c0,cm,ca]
 ·have hrt:r.take k=r:=Yb (by omega);unfold Zln Zi0 Zde;rw[hrt];generalize dotG r g=y at *
  generalize Ze t=Q at *
  obtain⟨nm,C,M,B,E⟩:=s;have hmw:=zby M;generalize Zs M=MM at *
  constructor<;>simp -implicitDefEqProofs[l643_0,hwk,hmw]
theorem zwr(t:List Nat){i:Nat}(hi:i<t.length):enT t i≤t.length:=by
 have key:∀(a:Nat) (l:List Nat),Zhy a l≤l.length:=by
  intro a l
  induction l with
  | nil=>exact Ye _
  | cons x l ih=>
   unfold Zhy;split
   ·simp;omega
   ·exact Yo _
 have:=key (t[i]?.getD 0) (t.drop (i+1));rw[Yak]at this;unfold enT;omega
theorem zws(t:List Nat)(e f c:Nat)(h:¬ c<e):Zgx t e f c=[]:=by
 cases f with
 | zero=>rfl
 | succ f=>rw[Zgx,if_neg h]
def Zjl(q:Rat):Option (Ex×St):=some (.n,⟨[(8,.ptr (.loc 8) 1 3 0 0),(9,.ptr (.loc 9) 2 3 0 0)],[(.loc 8,⟨1,.str,3,[nlw]⟩),(.loc 9,⟨2,.str,3,[Zbg (fz q)]⟩)],4⟩)
structure InNu (t:List Nat) (i:Nat) (x:Nat×Nat×Rat):Prop where
 h1:i<x.2.1
 h2:x.2.1≤t.length
 h3:enT t i-x.2.1≤x.1
 h4:sz x.2.2+28*Zl2 t (Zgx t (enT t i) x.1 x.2.1)≤200
theorem zaid(s:Sm)(t:List Nat)(ht:TrOk t)(i k:Nat)(hi:i<t.length)(r:List Fz)(m:Nat)(ha:AOk s.a m)(hk:s.a[k]? = some r)(hkm:k<m)(d:Nat)(hd:t.length-i≤d+1)
  (hc:∀c,i<c→c<t.length→∀j,j<m→Za T 643 [esm s,.sl (Ze t) .an,.i .i64 c,.i .i64 j]=some (efz (fz (numT s.a t d c j)))) :
  ∀x,InNu t i x→Zj T 0 0 (.norm false [8,9]) l643_1 (Zlm s t i k x)=Zjl (Zik (fun c=>dotG r (numT s.a t d c)) x.2.2 (Zgx t (enT t i) x.1 x.2.1)):=by
 have hel:=zwr t hi;have l8:=ht.l8;have hm4:=ha.m4;have hrl:=(ha.r k r hk).1;refine zav (Zlm s t i k) (InNu t i) (fun x=>t.length-x.2.1) (fun x=>Zjl (Zik (fun c=>dotG r (numT s.a t d c)) x.2.2 (Zgx t (enT t i) x.1 x.2.1))) ?_
 rintro⟨f,c,q⟩ ⟨h1,h2,h3,h4⟩
 dsimp only at *
 have hwk:=zan t;have ce:=zih (T:=T) t i hi (by omega);by_cases hce:c<enT t i
 ·obtain⟨f',rfl⟩:∃f',f=f'+1:=⟨f-1,by omega⟩;have ek:Zgx t (enT t i) (f'+1) c=c::Zgx t (enT t i) f' (enT t c):=by rw[Zgx,if_pos hce]
  rw[ek]at h4 ⊢;have hcl:c<t.length:=by omega
  have hgt:=zaad t c;have hcl2:=zwr t hcl;simp only[Zl2]at h4;have hsp:=zxr q;have hD:dcN t c≤7:=by omega
  have hg:∀j,j<k→sz (numT s.a t d c j)≤1+4*2^j*dcN t c:=fun j hj=>zlf ht ha (by omega) hcl (by omega);have L:=zaic (T:=T) s t i k c q r (numT s.a t d c) m ha hk hkm (dcN t c) hD hg (fun j hj=>hc c h1 hcl j (by omega));have zd:=ziw (r:=r) (g:=numT s.a t d c) (D:=dcN t c) (fun x hx=>((ha.r k r hk).2 x hx).1) (fun j hj=>hg j (by omega)) r.length (Ye _);rw[Yb (Ye _)]at zd;have hz:sz (dotG r (numT s.a t d c))≤28*(dcN t c+1):=by
   have hk3:k=0∨k=1∨k=2∨k=3:=by omega
   rw[hrl]at zd;generalize dcN t c=D at *
   rcases hk3 with rfl | rfl | rfl | rfl<;>simp at zd<;>omega
  have zm:=zet q (dotG r (numT s.a t d c));have cm:=zef (T:=T) q (dotG r (numT s.a t d c)) (by omega) (by omega);have cn:=zih (T:=T) t c hcl (by omega);have c0:=zee (T:=T);left;refine⟨(f',enT t c,q*dotG r (numT s.a t d c)),⟨by simp only;omega,hcl2,by simp only;omega,by simp only;omega⟩,by simp only;omega,?_,rfl⟩;have hceI:(c:Int)<(enT t i:Nat):=by omega
  have e0:dotG (r.take 0) (numT s.a t d c)=0:=rfl;unfold Zln Zi0 Zde at L;rw[e0,show (((0:Nat):Int))=0 from rfl]at L;unfold Zlm Zi0 Zde;clear zm zd hz hg hc h4 ek h3;generalize q*dotG r (numT s.a t d c)=y at *
  generalize dotG r (numT s.a t d c)=z at *
  generalize enT t i=e at *
  generalize enT t c=e2 at *
  obtain⟨nm,C,M,B,E⟩:=s;dsimp only at *
  have hmw:=zby M;generalize Zs M=MM at *
  generalize Ze t=Q at *
  simp only[Ybm,Yam]at L;simp -implicitDefEqProofs[l643_1,hwk,hmw,hce,hceI,ce,cn,c0,cm,L]
 ·right;have hceI:¬ (c:Int)<(enT t i:Nat):=by omega
  rw[zws t _ f c hce];show Zd5 _=true∧_=Zjl q;unfold Zlm Zi0 Zde Zjl;generalize enT t i=e at *
  obtain⟨nm,C,M,B,E⟩:=s;dsimp only at *
  have hmw:=zby M;generalize Zs M=MM at *
  generalize Ze t=Q at *
  constructor<;>simp -implicitDefEqProofs[l643_1,hwk,hmw,hce,hceI,ce]
theorem zgu(s:Sm)(t:List Nat)(ht:TrOk t)(hst:Za5 (Zba t)=true)(m:Nat)(ha:AOk s.a m):∀d i,t.length-i≤d→i<t.length→∀k,k<m →
  Za T 643 [esm s,.sl (Ze t) .an,.i .i64 i,.i .i64 k]=some (efz (fz (numT s.a t d i k)))
 | 0,i,h,hi,_,_=>by omega
 | d+1,i,h,hi,k,hkm=>by
  have hk:s.a[k]? = some (s.a[k]'(by rw[ha.l];exact hkm)):=Ya _;have hD:=z45 hst hi;have L:=zaid (T:=T) s t ht i k hi _ m ha hk hkm d h (fun c h1 h2 j hj=>zgu s t ht hst m ha d c (by omega) h2 j hj) (t.length,i+1,1)
   ⟨by simp,by simp only;omega,by have:=zwr t hi;simp only;omega,by
    have e:Zgx t (enT t i) t.length (i+1)=Zkm t i:=rfl;simp only[e,znu];omega⟩
  rw[zq8,Rat.one_mul]at L;have e:numT s.a t (d+1) i k=prodL ((Zgx t (enT t i) t.length (i+1)).map fun c=>dotG (s.a[k]'(by rw[ha.l];exact hkm)) (numT s.a t d c)):=by
   rw[numT,hk,Yaq]
   rfl
  rw[←e]at L;have hws:IntKind.wrap .i64 ((i:Int)+1)=((i+1:Nat):Int):=inRg _ (by have:=ht.l8;omega) (by have:=ht.l8;omega);have c1:=zgb (T:=T);have hwk:=zan t;unfold Zlm Zi0 Zde Zjl at L;generalize numT s.a t (d+1) i k=y at *
  rw[zab Zci.h643 rfl,b643];clear e hD ha hk;obtain⟨nm,C,M,B,E⟩:=s;dsimp only at *
  have hmw:=zby M;unfold esm;dsimp only;generalize Zs M=MM at *
  generalize Ze t=Q at *
  simp only[Yax,Yar]at L hws;simp -implicitDefEqProofs[hwk,hmw,c1,hws,L]
end
structure ROk (w:List Fz) (m:Nat):Prop where
 l:w.length=m
 x:∀x∈w,fsz x≤2∧Zbb x=true
theorem z4g{a:List (List Fz)}{t:List Nat}(ht:TrOk t){m:Nat}(ha:AOk a m){w:List Fz}(hw:w.length=m):dotG w (numT a t t.length 0)=wtQ a t m w:=by
 have l1:=ht.l1;have hg:=zx3 ht m ha.l (t.length-1) (by omega) 0 (by omega);have e0:gvN a t m 0=rwN (wtJ a t m (t.length-1)) 0:=rfl;rw[←e0]at hg;have:wtQ a t m w=Zb9 w (fzs (gvN a t m 0)):=rfl;rw[this];refine zq7 _ _ _ (by rw[zay];omega) fun j hj=>?_;have:=zpo ht m ha.l (fun k r hk=>Nat.le_of_eq (ha.r k r hk).1) (fun c hc=>zx3 ht m ha.l _ (by omega) c hc) t.length 0 (by omega) (by omega) j (by omega);unfold fzs;rw[Ybc,this,Yco,Yaq,zbx]
section
variable{T:Tbl}[Z0 T][Z4 T][Zai T][Z1 T][Zao T][Z2 T][Zar T][Zz T][Zq T][Zv T][Zy T][Zr T][Zn T][Zf T][Zg T][Zw T][Zak T][Zan T][Zbv T][Zb0 T][Za8 T][Zch T][Zdx T][Zdw T][Zam T][Zbr T][Z9 T][Zah T][Zag T][Zb3 T][Zci T]
def Zmf(s:Sm)(t:List Nat)(w:List Fz)(g:Nat→Rat)(j:Nat):St:=
 ⟨[(1,.sl (Zd w) .an),(2,.sl (Ze t) .an),(3,.ptr (.loc 3) 1 5 0 0),(6,.ptr (.loc 6) 2 3 0 0),(7,.ptr (.loc 7) 3 3 0 0),(8,.i .i64 j)],
  [(.loc 3,⟨1,.str,5,[Zde s]⟩),(.loc 6,⟨2,.str,3,[nlw]⟩),(.loc 7,⟨3,.str,3,[Zbg (fz (dotG (w.take j) g))]⟩)],5⟩
theorem zgv(s:Sm)(t:List Nat)(ht:TrOk t)(hst:Za5 (Zba t)=true)(m:Nat)(ha:AOk s.a m)(w:List Fz)(hw:ROk w m) :
  Za T 641 [esm s,.sl (Zd w) .an,.sl (Ze t) .an]=some (efz (fz (wtQ s.a t m w))):=by
 have l1:=ht.l1;have l8:=ht.l8;have hm4:=ha.m4;have hwl:=hw.l;rw[←z4g ht ha hw.l];have hcn:∀k,k<m→Za T 643 [esm s,.sl (Ze t) .an,.i .i64 0,.i .i64 k]=some (efz (fz (numT s.a t t.length 0 k))):=fun k hk=>zgu (T:=T) s t ht hst m ha t.length 0 (by omega) (by omega) k hk;have hgs:∀j,j<m→sz (numT s.a t t.length 0 j)≤1+4*2^j*dcN t 0:=fun j hj=>zlf ht ha (by omega) (by omega) hj;have hD:dcN t 0≤8:=by
  unfold dcN;have h:=(ht.dj (t.length-1-0) (by omega)).1;cases he:(Zdc t (t.length-1-0)).1[0]? with
  | none=>simp
  | some y=>exact h y (Yi he)
 generalize numT s.a t t.length 0=g at *
 have hwk:=zan t;have hww:=zc8 w;have hlw:(Zd w).length=w.length:=by simp[Zd]
 have c0:=zee (T:=T);have key:=za2 (T:=T) (k:=0) (id:=0) (g2:=.norm false [6,7]) (c:=l641_0) (Zmf s t w g) w.length (some (.n,⟨[(6,.ptr (.loc 6) 1 3 0 0),(7,.ptr (.loc 7) 2 3 0 0)],[(.loc 6,⟨1,.str,3,[nlw]⟩),(.loc 7,⟨2,.str,3,[Zbg (fz (dotG w g))]⟩)],4⟩)) (fun j hj=>?_) ?_
 ·unfold Zmf Zde at key;have e0:dotG (w.take 0) g=0:=rfl;rw[e0,show (((0:Nat):Int))=0 from rfl]at key;generalize dotG w g=y at *
  rw[zab Zci.h641 rfl,b641];clear ha hcn hgs hw;obtain⟨nm,C,M,B,E⟩:=s;dsimp only at *
  unfold esm;dsimp only;have hmw:=zby M;generalize Zs M=MM at *
  generalize Ze t=Q at *
  generalize Zd w=W at *
  simp -implicitDefEqProofs[hwk,hww,hmw,c0,key]
 ·have hjm:j<m:=by omega
  have hjI:(j:Int)<w.length:=by omega
  have hws:=zbv hj (by omega);have e:=zny (r:=w) (g:=g) hj;obtain⟨hx2,hxr⟩:=hw.x _ (Yr hj);have z0:=ziw (r:=w) (g:=g) (D:=dcN t 0) (fun x hx=>(hw.x x hx).1) (fun j hj=>hgs j (by omega)) j (by omega);have hgj:=hgs j hjm;have hp8:2^j≤8:=Yc (Yk (by decide) (show j≤3 by omega)) (by decide);have hq1:4*2^j*dcN t 0≤4*8*8:=Ybh (Yx _ hp8) hD;have hq2:4*(2^j-1)*dcN t 0≤4*8*8:=Ybh (Yx _ (by omega)) hD;have hxe:w[j]=fz (fv w[j]):=by
   unfold Zbb at hxr
   first | exact of_decide_eq_true hxr | exact(of_decide_eq_true hxr).symm
  have hxq:=ze4 hx2 (by decide);have cn:=hcn j hjm;have hra:(Zd w)[j]? = some (Zbg (fz (fv w[j]))):=by
   rw[←hxe];simp[Zd,hj]
  have zq:=zjz (T:=T) (fv w[j]);have cm:=zef (T:=T) (fv w[j]) (g j) (by omega) (by omega);have zm:=zet (fv w[j]) (g j);have ca:=zgc (T:=T) (dotG (w.take j) g) (fv w[j]*g j) (by omega) (by omega);rw[←e]at ca;unfold Zmf Zde;have e0:fv w[j]=0→dotG (w.take (j+1)) g=dotG (w.take j) g:=fun h=>by rw[e,h,Rat.zero_mul,Yem]
  clear e hxe hgs hcn z0 hgj hq1 hq2 hp8 hx2 hxr ha hw;generalize dotG (w.take (j+1)) g=y at *
  generalize dotG (w.take j) g=y0 at *
  generalize hX:fv w[j]=X at *
  generalize g j=G at *
  obtain⟨nm,C,M,B,E⟩:=s;unfold esm at cn;dsimp only at *
  obtain⟨j1,a1⟩:=Yd.1 hra;have q1:=Ya j1;have hmw:=zby M;generalize Zs M=MM at *
  generalize Zd w=W at *
  generalize Ze t=Q at *
  by_cases hz:X=0
  ·have:=e0 hz;subst this;rw[hz]at zq a1;simp -implicitDefEqProofs[l641_0,hj,hjI,hws,hwk,hww,hmw,hlw,a1,q1,zq,cn]
  ·simp -implicitDefEqProofs[l641_0,hj,hjI,hws,hwk,hww,hmw,hlw,a1,q1,zq,hz,cn,cm,ca]
 ·have hrt:w.take w.length=w:=Yb (Ye _);unfold Zmf Zde;rw[hrt];generalize dotG w g=y at *
  clear ha hcn hgs hw;obtain⟨nm,C,M,B,E⟩:=s;have hmw:=zby M;dsimp only at *
  generalize Zs M=MM at *
  generalize Ze t=Q at *
  generalize Zd w=W at *
  constructor<;>simp -implicitDefEqProofs[l641_0,hwk,hww,hmw,hlw]
end
section
variable{T:Tbl}[Z0 T][Z4 T][Zai T][Z1 T][Zao T][Z2 T][Zar T][Zz T][Zq T][Zv T][Zy T][Zr T][Zn T][Zf T][Zg T][Zw T][Zak T][Zan T][Zbv T][Zb0 T][Za8 T][Zch T][Zdx T][Zdw T][Zam T][Zbr T][Z9 T][Zah T][Zag T][Zb3 T][Zci T]
def Zjm(s:Sm)(w:List Fz)(m:Nat)(t:List Nat):Bool:=decide (wtQ s.a t m w*(Zd0 t:Nat)=1)
def Zi1(s:Sm)(w:List Fz)(n:Nat)(L:List (List Nat))(i:Nat):St:=
 ⟨[(1,.sl (Zd w) .an),(2,.ptr (.loc 2) 1 5 0 0),(5,.i .i64 (n:Nat)),(6,.sl (Z3 L) .an),(7,.i .i64 i)],[(.loc 2,⟨1,.str,5,[Zde s]⟩)],3⟩
def Zig(s:Sm)(w:List Fz)(n:Nat)(b:Bool):Option (Ex×St):=
 if b then some (.n,⟨[(1,.sl (Zd w) .an),(2,.ptr (.loc 2) 1 5 0 0),(5,.i .i64 (n:Nat))],[(.loc 2,⟨1,.str,5,[Zde s]⟩)],3⟩) else some (.r,⟨[(4,.i .i64 ((n-1:Nat):Int))],[],2⟩)
theorem z4h(s:Sm)(m:Nat)(ha:AOk s.a m)(w:List Fz)(hw:ROk w m)(n:Nat)(h1:1≤n)(h5:n≤5)(L:List (List Nat))(hL:L.length≤9)(hok:∀t∈L,Za5 (Zba t)=true∧Zhz t=true)(i:Nat)(hi:i<L.length) :
  (Zjm s w m L[i]=true→evX (orc T) T 0 l642_0 (Zi1 s w n L i)=some (.n,Zi1 s w n L (i+1))) ∧
  (Zjm s w m L[i]=false→Zd5 (evX (orc T) T 0 l642_0 (Zi1 s w n L i))=true∧Zeh 0 2 (.norm false [1,2,5]) (evX (orc T) T 0 l642_0 (Zi1 s w n L i))=Zig s w n false):=by
 obtain⟨g1,g2⟩:=hok _ (Yr hi);have ht:=zq6 g2;have e0:(Z3 L)[i]? = some [.sl (Ze L[i]) .an]:=by simp[Z3,hi]
 have hlt:=zcq L;have hwt:=zbn L;have hiI:(i:Int)<L.length:=by omega
 have hws:=zbv hi (by omega);have hwQ:=zan L[i];have hww:=zc8 w;have o1:=zgb (T:=T);have hd:=z1c ht;have l8:=ht.l8;have l1:=ht.l1;have hm4:=ha.m4;have c5:=zk6 (T:=T) ht;have c3:Za T 232 [.i .i64 (Zd0 L[i]:Nat)]=some (efz (fz ((Zd0 L[i]:Nat):Rat))):=by
  have:=zie (T:=T) ((Zd0 L[i]:Nat):Int) (by omega) (by omega);rw[this,Rat.intCast_natCast]
 have c0:=zgv (T:=T) s L[i] ht g1 m ha w hw;have z0:sz (wtQ s.a L[i] m w)≤900:=by
  rw[←z4g ht ha hw.l];have hgs:∀j,j<m→sz (numT s.a L[i] L[i].length 0 j)≤1+4*2^j*dcN L[i] 0:=fun j hj=>zlf ht ha (by omega) (by omega) hj;have hD:dcN L[i] 0≤8:=by
   unfold dcN;have h:=(ht.dj (L[i].length-1-0) (by omega)).1;cases he:(Zdc L[i] (L[i].length-1-0)).1[0]? with
   | none=>simp
   | some y=>exact h y (Yi he)
  have hwl:=hw.l;have z:=ziw (r:=w) (g:=numT s.a L[i] L[i].length 0) (D:=dcN L[i] 0) (fun x hx=>(hw.x x hx).1) (fun j hj=>hgs j (by omega)) w.length (Ye _);rw[Yb (Ye _)]at z;have hp:2^w.length≤16:=Yc (Yk (by decide) (show w.length≤4 by omega)) (by decide);have:4*(2^w.length-1)*dcN L[i] 0≤4*16*8:=Ybh (Yx _ (by omega)) hD;omega
 have zd:sz ((Zd0 L[i]:Nat):Rat)≤1:=Yen.2 ⟨zag (by rw[Rat.num_natCast];simp;omega),zag (by rw[Rat.den_natCast];decide)⟩;have hwn:IntKind.wrap .i64 ((n:Int)-1)=((n-1:Nat):Int):=by
  rw[inRg _ (by omega) (by omega)];omega
 unfold Zjm;generalize wtQ s.a L[i] m w=V at *
 generalize ((Zd0 L[i]:Nat):Rat)=D at *
 have zm:=zet V D;have c1:=zef (T:=T) V D (by omega) (by omega);have c2:=zb6 (T:=T) (fz (V*D)) (fz 1) (by rw[za6];omega);have e2:decide (fz (V*D)=fz 1)=decide (V*D=1):=by
  apply decide_eq_decide.2;constructor
  ·intro h;have:=congrArg fv h
   rwa [zbx,zbx]at this
  ·intro h;rw[h]
 rw[e2]at c2;generalize decide (V*D=1)=b at *
 unfold Zi1 Zig Zde;clear hok ha hw z0 zm zd g1 g2 hd;obtain⟨nm,C,M,B,E⟩:=s;unfold esm at c0;dsimp only at *
 have hmw:=zby M;generalize Zs M=MM at *
 generalize Ze L[i]=Q at *
 generalize Z3 L=R at *
 generalize Zd w=W at *
 obtain⟨j0,a0⟩:=Yd.1 e0;have q0:=Ya j0;refine⟨fun h=>?_,fun h=>?_⟩
 ·subst h;simp -implicitDefEqProofs[l642_0,hi,hiI,hws,c0,c1,c2,c3,c5,o1,hlt,hwt,hwQ,hww,hmw,a0,q0]
 ·subst h;constructor<;>simp -implicitDefEqProofs[l642_0,hi,hiI,hws,c0,c1,c2,c3,c5,o1,hlt,hwt,hwQ,hww,hmw,a0,q0,hwn]
theorem zaie(s:Sm)(m:Nat)(ha:AOk s.a m)(w:List Fz)(hw:ROk w m)(n:Nat)(h1:1≤n)(h5:n≤5)(L:List (List Nat))(hL:L.length≤9)(hok:∀t∈L,Za5 (Zba t)=true∧Zhz t=true) :
  Zj T 0 2 (.norm false [1,2,5]) l642_0 (Zi1 s w n L 0)=Zig s w n (L.all (Zjm s w m)):=by
 have key:=zaq (T:=T) (k:=0) (id:=2) (g2:=.norm false [1,2,5]) (c:=l642_0) (Zi1 s w n L) L.length (fun i=>Zig s w n ((L.drop i).all (Zjm s w m))) (fun i hi=>?_) ?_
 ·simpa using key
 ·obtain⟨h1,h2⟩:=z4h (T:=T) s m ha w hw n h1 h5 L hL hok i hi;have hd:L.drop i=L[i]::L.drop (i+1):=(Yb3 ..).symm;rw[hd,Yb0];cases hg:Zjm s w m L[i]with
  | true=>exact .inl ⟨h1 hg,by rw[Yck]⟩
  | false=>exact .inr (h2 hg)
 ·have hwt:=zbn L;have hlt:=zcq L;have hww:=zc8 w;unfold Zi1 Zig Zde;rw[Y5];clear ha hw hok;obtain⟨nm,C,M,B,E⟩:=s;have hmw:=zby M;dsimp only at *
  generalize Z3 L=R at *
  generalize Zd w=W at *
  generalize Zs M=MM at *
  constructor<;>simp -implicitDefEqProofs[l642_0,hwt,hlt,hww,hmw]
def Zmg(s:Sm)(w:List Fz)(j:Nat):St:=
 ⟨[(1,.sl (Zd w) .an),(2,.ptr (.loc 2) 1 5 0 0),(5,.i .i64 ((j+1:Nat):Int))],[(.loc 2,⟨1,.str,5,[Zde s]⟩)],3⟩
def Zkc(s:Sm)(w:List Fz)(f n:Nat):Option (Ex×St):=
 if Zds s w f n=n+f then some (.n,⟨[],[],2⟩) else some (.r,⟨[(4,.i .i64 (Zds s w f n:Nat))],[],2⟩)
theorem zwt(s:Sm)(w:List Fz):∀f n,n≤Zds s w f n∧Zds s w f n≤n+f
 | 0,n=>⟨Ye _,Ye _⟩
 | f+1,n=>by
  rw[Zds];split
  ·have:=zwt s w f (n+1);omega
  ·omega
theorem z4i(s:Sm)(w:List Fz)(m:Nat)(hm:s.b.length=m)(hok:okS s=true)(hw:w.length=m)(n:Nat):Zfr s w n=(trs n).all (Zjm s w m):=by
 unfold Zfr;congr 1
 funext t
 unfold Zer wOk Zjm;rw[hok,hw,hm];simp
theorem zqx(s:Sm)(m:Nat)(hm:s.b.length=m)(hok:okS s=true)(ha:AOk s.a m)(w:List Fz)(hw:ROk w m) :
  Za T 642 [esm s,.sl (Zd w) .an]=some (.i .i64 (Zd8 s w:Nat)):=by
 have hww:=zc8 w;have key:=zaq (T:=T) (k:=0) (id:=0) (g2:=.norm false []) (c:=l642_1) (Zmg s w) 5 (fun j=>Zkc s w (5-j) j) (fun j hj=>?_) ?_
 ·unfold Zmg Zkc Zde at key;rw[Ydb,show Zds s w 5 0=Zd8 s w from rfl,Y8,Y8,show (((1:Nat):Int))=1 from rfl]at key;rw[zab Zci.h642 rfl,b642];generalize Zd8 s w=z at *
  clear ha hw hok hm;obtain⟨nm,C,M,B,E⟩:=s;unfold esm;dsimp only at *
  have hmw:=zby M;generalize Zs M=MM at *
  generalize Zd w=W at *
  by_cases hz:z=5
  ·subst hz;rw[if_pos rfl]at key;simp -implicitDefEqProofs[key,hww,hmw]
  ·rw[if_neg hz]at key;simp -implicitDefEqProofs[key,hww,hmw]
 ·have c:=zo8 (T:=T) ((j+1:Nat):Int);have et:Zhx ((j+1:Nat):Int)=trs (j+1):=by
   unfold Zhx;rw[if_neg (by omega)]
   rfl
  rw[et]at c;have hL:=zaie (T:=T) s m ha w hw (j+1) (by omega) (by omega) (trs (j+1)) (zvy (j+1) (by omega)).2 (fun t ht=>by
   have:=Yf.1 (zm4 (j+1) (by omega)) t ht;simpa using this)
  rw[←z4i s w m hm hok hw.l]at hL;have hjI:(j:Int)+1≤5:=by omega
  have hws:IntKind.wrap .i64 (((j+1:Nat):Int)+1)=((j+1+1:Nat):Int):=inRg _ (by omega) (by omega);obtain⟨f,hf⟩:∃f,5-j=f+1:=⟨5-j-1,by omega⟩;have hf2:5-(j+1)=f:=by omega
  have ee:Zds s w (f+1) j=if Zfr s w (j+1) then Zds s w f (j+1) else j:=rfl
  have hwt:=zbn (trs (j+1));unfold Zkc;rw[hf,hf2,ee];have e3:j+1+f=j+(f+1):=by omega
  rw[e3];unfold Zi1 Zig Zde at hL;unfold Zmg Zde;rw[Yd0,show (((0:Nat):Int))=0 from rfl]at hL;have hle:=(zwt s w f (j+1)).2;clear ha hw hok hm;cases hh:Zfr s w (j+1) with
  | true=>
   rw[hh]at hL;left;rw[if_pos rfl]at hL;rw[show (if true=true then Zds s w f (j+1) else j)=Zds s w f (j+1) from rfl];refine⟨?_,rfl⟩;generalize Z3 (trs (j+1))=R at *
   clear ee hle;obtain⟨nm,C,M,B,E⟩:=s;dsimp only at *
   have hmw:=zby M;generalize Zs M=MM at *
   generalize Zd w=W at *
   simp only[Yax,Yar]at c hws hL ⊢;simp -implicitDefEqProofs[l642_1,hj,hjI,hws,c,hwt,hww,hmw,hL]
  | false=>
   rw[hh]at hL;right;rw[if_neg (by simp)]at hL;rw[show (if false=true then Zds s w f (j+1) else j)=j from rfl,if_neg (show ¬ j=j+(f+1) by omega)];generalize Z3 (trs (j+1))=R at *
   clear ee hle;obtain⟨nm,C,M,B,E⟩:=s;dsimp only at *
   have hmw:=zby M;generalize Zs M=MM at *
   generalize Zd w=W at *
   simp only[Yax,Yar]at c hws hL ⊢;constructor<;>simp -implicitDefEqProofs[l642_1,hj,hjI,hws,c,hwt,hww,hmw,hL]
 ·unfold Zmg Zkc Zde;clear ha hw hok hm;have e:Zds s w (5-5) 5=5+(5-5):=rfl;rw[if_pos e];obtain⟨nm,C,M,B,E⟩:=s;have hmw:=zby M;dsimp only at *
  generalize Zs M=MM at *
  generalize Zd w=W at *
  constructor<;>simp -implicitDefEqProofs[l642_1,hww,hmw]
end
class Zm3 (T:Tbl):Prop where
def smQ(p:List UInt8×List Rat×List (List Rat)×List Rat×List Rat):Sm:=⟨p.1,fzs p.2.1,p.2.2.1.map fzs,fzs p.2.2.2.1,fzs p.2.2.2.2⟩
def Zls(l:List Rat):Rat:=l.foldl (fun s x=>s+x) 0
def Zft(q:Rat):Bool:=decide (q.num.natAbs<4294967296)&&decide (q.den<4294967296)
def okQ(p:List UInt8×List Rat×List (List Rat)×List Rat×List Rat):Bool:=
 Zaj 2 p.1&&Zbt (smQ p)&&p.2.2.1.all (fun r=>r.all Zft)&&(p.2.2.2.1.all Zft&&p.2.1.all Zft&&p.2.2.2.2.all Zft)
  && (p.2.2.1.zip p.2.1).all (fun z=>decide (Zls z.1=z.2))&&decide (Zls p.2.2.2.1=1)&&(p.2.2.2.2.isEmpty || decide (Zls p.2.2.2.2=1))
def Zdt:Nat→List UInt8
 | 0=>[101,117,108,101,114,10,48,124,10,98,32,49]
 | 1=>[104,101,117,110,10,48,124,10,49,124,49,10,98,32,49,47,50,44,49,47,50,10,101,32,49,44,48]
 | 2=>[109,105,100,112,111,105,110,116,10,48,124,10,49,47,50,124,49,47,50,10,98,32,48,44,49,10,101,32,49,44,48]
 | 3=>[114,107,52,10,48,124,10,49,47,50,124,49,47,50,10,49,47,50,124,48,44,49,47,50,10,49,124,48,44,48,44,49,10,98,32,49,47,54,44,49,47,51,44,49,47,51,44,49,47,54]
 | 4=>[98,115,50,51,10,48,124,10,49,47,50,124,49,47,50,10,51,47,52,124,48,44,51,47,52,10,49,124,50,47,57,44,49,47,51,44,52,47,57,10,98,32,50,47,57,44,49,47,51,44,52,47,57,44,48,10,101,32,55,47,50,52,44,49,47,52,44,49,47,51,44,49,47,56]
 | 5=>[100,112,52,53,10,48,124,10,49,47,53,124,49,47,53,10,51,47,49,48,124,51,47,52,48,44,57,47,52,48,10,52,47,53,124,52,52,47,52,53,44,45,53,54,47,49,53,44,51,50,47,57,10,56,47,57,124,49,57,51,55,50,47,54,53,54,49,44,45,50,53,51,54,48,47,50,49,56,55,44,54,52,52,52,56,47,54,53,54,49,44,45,50,49,50,47,55,50,57,10,49,124,57,48,49,55,47,51,49,54,56,44,45,51,53,53,47,51,51,44,52,54,55,51,50,47,53,50,52,55,44,52,57,47,49,55,54,44,45,53,49,48,51,47,49,56,54,53,54,10,49,124,51,53,47,51,56,52,44,48,44,53,48,48,47,49,49,49,51,44,49,50,53,47,49,57,50,44,45,50,49,56,55,47,54,55,56,52,44,49,49,47,56,52,10,98,32,51,53,47,51,56,52,44,48,44,53,48,48,47,49,49,49,51,44,49,50,53,47,49,57,50,44,45,50,49,56,55,47,54,55,56,52,44,49,49,47,56,52,44,48,10,101,32,53,49,55,57,47,53,55,54,48,48,44,48,44,55,53,55,49,47,49,54,54,57,53,44,51,57,51,47,54,52,48,44,45,57,50,48,57,55,47,51,51,57,50,48,48,44,49,56,55,47,50,49,48,48,44,49,47,52,48]
 | _=>[]
def Zjn:Nat→List UInt8
 | 0=>[101,117,108,101,114]
 | 1=>[104,101,117,110]
 | 2=>[109,105,100,112,111,105,110,116]
 | 3=>[114,107,52]
 | 4=>[98,115,50,51]
 | 5=>[100,112,52,53]
 | _=>[]
def Zhq:Nat→List UInt8×List Rat×List (List Rat)×List Rat×List Rat
 | 0=>([101,117,108,101,114],[mkRat 0 1],[[]],[mkRat 1 1],[])
 | 1=>([104,101,117,110],[mkRat 0 1,mkRat 1 1],[[],[mkRat 1 1]],[mkRat 1 2,mkRat 1 2],[mkRat 1 1,mkRat 0 1])
 | 2=>([109,105,100,112,111,105,110,116],[mkRat 0 1,mkRat 1 2],[[],[mkRat 1 2]],[mkRat 0 1,mkRat 1 1],[mkRat 1 1,mkRat 0 1])
 | 3=>([114,107,52],[mkRat 0 1,mkRat 1 2,mkRat 1 2,mkRat 1 1],[[],[mkRat 1 2],[mkRat 0 1,mkRat 1 2],[mkRat 0 1,mkRat 0 1,mkRat 1 1]],[mkRat 1 6,mkRat 1 3,mkRat 1 3,mkRat 1 6],[])
 | 4=>([98,115,50,51],[mkRat 0 1,mkRat 1 2,mkRat 3 4,mkRat 1 1],[[],[mkRat 1 2],[mkRat 0 1,mkRat 3 4],[mkRat 2 9,mkRat 1 3,mkRat 4 9]],[mkRat 2 9,mkRat 1 3,mkRat 4 9,mkRat 0 1],[mkRat 7 24,mkRat 1 4,mkRat 1 3,mkRat 1 8])
 | 5=>([100,112,52,53],[mkRat 0 1,mkRat 1 5,mkRat 3 10,mkRat 4 5,mkRat 8 9,mkRat 1 1,mkRat 1 1],[[],[mkRat 1 5],[mkRat 3 40,mkRat 9 40],[mkRat 44 45,mkRat (-56) 15,mkRat 32 9],[mkRat 19372 6561,mkRat (-25360) 2187,mkRat 64448 6561,mkRat (-212) 729],[mkRat 9017 3168,mkRat (-355) 33,mkRat 46732 5247,mkRat 49 176,mkRat (-5103) 18656],[mkRat 35 384,mkRat 0 1,mkRat 500 1113,mkRat 125 192,mkRat (-2187) 6784,mkRat 11 84]],[mkRat 35 384,mkRat 0 1,mkRat 500 1113,mkRat 125 192,mkRat (-2187) 6784,mkRat 11 84,mkRat 0 1],[mkRat 5179 57600,mkRat 0 1,mkRat 7571 16695,mkRat 393 640,mkRat (-92097) 339200,mkRat 187 2100,mkRat 1 40])
 | _=>([],[],[],[],[])
def Zc7(i:Nat):Sm:=smQ (Zhq i)
theorem zk9(l:List Rat):sumF (fzs l)=Zls l:=by
 unfold sumF Zls fzs;rw[List.foldl_map];simp only[zbx]
theorem zfw{q:Rat}(h:Zft q=true):sz q≤1:=by
 unfold Zft at h;simp only[Yn,decide_eq_true_eq]at h;exact zahy h.1 h.2
theorem zfx{l:List Rat}(h:l.all Zft=true):(fzs l).all Za6=true:=by
 rw[Yf];intro x hx;unfold fzs at hx;obtain⟨q,hq,rfl⟩:=Y6.1 hx;exact zsy (by have:=zfw (Yf.1 h q hq);omega)
theorem z9z(p:List UInt8×List Rat×List (List Rat)×List Rat×List Rat)(h:okQ p=true):okS (smQ p)=true:=by
 obtain⟨nm,c,a,b,e⟩:=p;unfold okQ at h;simp only[Yn,decide_eq_true_eq,Ya1]at h;obtain⟨⟨⟨⟨⟨⟨h1,h2⟩,h3⟩,⟨h4,h5⟩,h6⟩,h7⟩,h8⟩,h9⟩:=h;have n1:Zcm (a.map fzs)=true:=by
  unfold Zcm;rw[List.all_map,Yf];intro r hr;exact zfx (Yf.1 h3 r hr)
 have n2:Zcm [fzs b,fzs c,fzs e]=true:=by
  rw[z1i,zfx h4,zfx h5,zfx h6]
  rfl
 have n3:Zbu (a.map fzs) (fzs c)=true:=by
  unfold Zbu;rw[Yf]at h7 ⊢;intro z hz;have e1:(a.map fzs).zip (fzs c)=(a.zip c).map fun z=>(fzs z.1,fz z.2):=by
   unfold fzs;rw[List.zip_map]
   rfl
  rw[e1]at hz;obtain⟨y,hy,rfl⟩:=Y6.1 hz;have:=h7 y hy;rw[decide_eq_true_eq]at this ⊢;rw[zk9,zbx];exact this
 have n4:sumF (fzs b)=1:=by rw[zk9];exact h8
 have n5:¬ (fzs e≠[]∧sumF (fzs e)≠1):=by
  rw[zk9]
  rintro⟨q1,q2⟩
  rcases h9 with h9 | h9
  ·cases e with
   | nil=>exact q1 rfl
   | cons x e=>simp at h9
  ·exact q2 h9
 unfold okS Zb6;rw[show (smQ (nm,c,a,b,e)).nm=nm from rfl,show (smQ (nm,c,a,b,e)).a=a.map fzs from rfl,show (smQ (nm,c,a,b,e)).b=fzs b from rfl,show (smQ (nm,c,a,b,e)).c=fzs c from rfl,show (smQ (nm,c,a,b,e)).e=fzs e from rfl];rw[h1,h2,n1,n2,n3,if_neg n5];simp[n4]
def Zpl(x:Fz):Bool:=decide ((Zhr (fv x).num.natAbs).length≤10)&&decide ((Zhr (fv x).den).length≤10)
theorem zpf:∀i,i<6→okQ (Zhq i)=true:=by decide +kernel
theorem zqz{i:Nat}(h:i<6):okS (Zc7 i)=true:=z9z _ (zpf i h)
theorem zw8:Zbs (Zdt 0)=(Zc7 0,0,0):=by kernel_rfl
theorem zw9:Zbs (Zdt 1)=(Zc7 1,0,0):=by kernel_rfl
theorem zxa:Zbs (Zdt 2)=(Zc7 2,0,0):=by kernel_rfl
theorem zxb:Zbs (Zdt 3)=(Zc7 3,0,0):=by kernel_rfl
theorem zxc:Zbs (Zdt 4)=(Zc7 4,0,0):=by kernel_rfl
theorem zxd:Zbs (Zdt 5)=(Zc7 5,0,0):=by kernel_rfl
theorem zxe{i:Nat}(h:i<6):Zfs (Zdt i)=(Zc7 i,0,0):=by
 have hr:Zbs (Zdt i)=(Zc7 i,0,0):=by
  match i,h with
  | 0,_=>exact zw8
  | 1,_=>exact zw9
  | 2,_=>exact zxa
  | 3,_=>exact zxb
  | 4,_=>exact zxc
  | 5,_=>exact zxd
 have hl:∀i,i<6→(Zdt i).length≤4000:=by decide +kernel
 have:=hl i h;obtain⟨_,hw⟩:=zfv (zqz h);unfold Zfs;rw[if_neg (by omega),hr,if_neg (by simp),if_neg (by simp[hw])]
def Zi2(l:List UInt8)(i:Nat):Option Nat:=((List.range 6).drop i).find? fun j=>decide (Zjn j=l)
theorem zxf(l:List UInt8){i:Nat}(h:i<6):Zi2 l i=if Zjn i=l then some i else Zi2 l (i+1):=by
 unfold Zi2;rw[Yj (by simpa using h),List.find?_cons,List.getElem_range];by_cases e:Zjn i=l<;>simp[e]
theorem z4u:∀i,i<6→hdC 10 (Zdt i)=Zjn i:=by decide +kernel
theorem zq0:∀i,i<6→(Zdt i).length≤1000:=by decide +kernel
def emS:Sm:=⟨[],[],[],[],[]⟩
def Zmj(l:List UInt8):Sm:=match Zi2 l 0 with | some i=>Zc7 i | none=>emS
def Zmk(l:List UInt8):Bool:=(Zi2 l 0).isSome
theorem z90{s:Sm}(h:okS s=true):SmS s:=by
 obtain⟨H,_⟩:=zfv h;have hn:=(zj1 (z0b h)).2;have b8:=H.b8;have al:=H.al;have cl:=H.cl;have el:=H.el;refine⟨by omega,by omega,by omega,by omega,by omega,fun x hx=>?_,fun r hr=>⟨?_,fun x hx=>?_⟩,fun x hx=>?_,fun x hx=>?_⟩
 ·have:=zo9 H.nc x hx;omega
 ·have q:=zde _ _ H.sh r hr;omega
 ·have:=zk8 H.na r hr x hx;omega
 ·have:=zo9 H.nb x hx;omega
 ·have:=zo9 H.ne x hx;omega
def Zkl:List AV:=[.s (Zdt 0),.s (Zdt 1),.s (Zdt 2),.s (Zdt 3),.s (Zdt 4),.s (Zdt 5)]
theorem zfy:∃a b c d e f:List UInt8,Zkl=[.s a,.s b,.s c,.s d,.s e,.s f]:=⟨_,_,_,_,_,_,rfl⟩
theorem z91(i:Nat)(h:i<6):Zfv 1 6 none (.agg Zkl) (.i .i64 i)=some (.s (Zdt i)):=by
 match i,h with
 | 0,_=>rfl
 | 1,_=>rfl
 | 2,_=>rfl
 | 3,_=>rfl
 | 4,_=>rfl
 | 5,_=>rfl
def smC(s:Sm):List AV:=[.s s.nm,.sl (Zd s.c) .an,.sl (Zs s.a) .an,.sl (Zd s.b) .an,.sl (Zd s.e) .an]
def Zn9(n:Nat):List (List AV):=(List.range n).map fun i=>[.s (Zjn i)]
def Zoa(n:Nat):List (List AV):=(List.range n).map fun i=>smC (Zc7 i)
section
variable{T:Tbl}[Z0 T][Zq T][Zv T][Zy T][Zr T][Zn T][Zx T][Zbc T][Zf T][Zg T][Zw T][Zbn T][Zak T][Zan T][Zc5 T][Zas T][Zbv T][Zc3 T][Zb0 T][Za8 T][Zch T][Zdx T][Zdw T][Zam T][Zcs T][Zcz T][Zfj T][Zbr T][Z9 T][Zaz T][Zdd T]
theorem zpg:Za T 609 []=some (.agg Zkl):=by
 rw[zab Zdd.h609 rfl]
 kernel_rfl
theorem zs3(l:List UInt8)(h:l.length≤1000000):Za T 610 [.s l]=some (.s (hdC 10 l)):=by
 have c:=zvk (T:=T) l h;unfold hdC;rw[zab Zdd.h610 rfl,b610];generalize List.takeWhile (fun x=>x != 10) l=A at *
 generalize List.drop 1 (List.dropWhile (fun x=>x != 10) l)=B at *
 generalize l.contains 10=C at *
 simp -implicitDefEqProofs[c]
theorem zph(hcut:∀l:List UInt8,l.length≤1000000→Za T 184 [.s l,.s [124]]=some (.tup [.s (hdC 124 l),.s (tlC 124 l),.b (l.contains 124)])){i:Nat}(h:i<6):Za T 608 [.s (Zdt i)]=some (.tup [esm (Zc7 i),flt 0 0]):=by
 have:=zq0 i h;have q:=zw2 (T:=T) hcut (Zdt i) (by omega) (fun _ g=>z4p _ (by omega) g);rw[zxe h]at q;exact q
def Zlt(l:List UInt8)(i:Nat):St:=⟨[(0,.s l),(2,.ptr (.loc 2) 1 5 0 0),(8,.agg Zkl),(9,.i .i64 i)],[(.loc 2,⟨1,.str,5,[[.s [],.sl [] .an,.sl [] .an,.sl [] .an,.sl [] .an]]⟩)],3⟩
def Zij:Option Nat→Option (Ex×St)
 | some j=>some (.r,⟨[(2,.ptr (.loc 2) 1 5 0 0),(3,.b true)],[(.loc 2,⟨1,.str,5,[smC (Zc7 j)]⟩)],3⟩)
 | none=>some (.n,⟨[(2,.ptr (.loc 2) 1 5 0 0)],[(.loc 2,⟨1,.str,5,[[.s [],.sl [] .an,.sl [] .an,.sl [] .an,.sl [] .an]]⟩)],3⟩)
theorem z0g(hcut:∀l:List UInt8,l.length≤1000000→Za T 184 [.s l,.s [124]]=some (.tup [.s (hdC 124 l),.s (tlC 124 l),.b (l.contains 124)]))(l:List UInt8) :
  Zj T 0 0 (.norm false [2]) l603_0 (Zlt l 0)=Zij (Zi2 l 0):=by
 refine zaq (Zlt l) 6 (fun i=>Zij (Zi2 l i)) (fun i hi=>?_) ?_
 ·have hi':(i:Int)<6:=by omega
  have hws:=zbv hi (by omega);have ha:=z91 i hi;have c1:=zs3 (T:=T) (Zdt i) (by have:=zq0 i hi;omega);rw[z4u i hi]at c1;have c2:=zph (T:=T) hcut hi;clear hcut;rw[zxf l hi];unfold Zlt;obtain⟨u0,u1,u2,u3,u4,u5,hA⟩:=zfy;rw[hA]at ha ⊢;clear hA;by_cases e:Zjn i=l
  ·right;rw[if_pos e];unfold Zij smC;dsimp only;generalize Zc7 i=S at *
   obtain⟨nm,C,M,B,E⟩:=S;generalize Zdt i=X at *
   generalize Zjn i=N at *
   subst e;dsimp only at *
   constructor<;>simp -implicitDefEqProofs[-Zfv,l603_0,hi,hi',hws,ha,c1,c2]
  ·left;rw[if_neg e];clear c2;generalize Zdt i=X at *
   generalize Zjn i=N at *
   refine⟨?_,rfl⟩;simp -implicitDefEqProofs[-Zfv,l603_0,hi,hi',hws,ha,c1,e]
 ·have e0:Zi2 l 6=none:=rfl;rw[e0];unfold Zlt Zij;obtain⟨u0,u1,u2,u3,u4,u5,hA⟩:=zfy;rw[hA];clear hA;constructor<;>simp -implicitDefEqProofs[l603_0]
theorem zxg(hcut:∀l:List UInt8,l.length≤1000000→Za T 184 [.s l,.s [124]]=some (.tup [.s (hdC 124 l),.s (tlC 124 l),.b (l.contains 124)]))(l:List UInt8) :
  Za T 603 [.s l]=some (.tup [esm (Zmj l),.b (Zmk l)]):=by
 have L:=z0g (T:=T) hcut l;have ct:=zpg (T:=T);unfold Zlt at L;simp only[Yw]at L;unfold Zmj Zmk;rw[zab Zdd.h603 rfl,b603];clear hcut;cases hg:Zi2 l 0 with
 | none=>
  rw[hg]at L;unfold Zij at L;dsimp only at L;clear hg;obtain⟨u0,u1,u2,u3,u4,u5,hA⟩:=zfy;rw[hA]at L ct;clear hA;have e0:esm emS=.agg [.s [],.sl [] .an,.sl [] .an,.sl [] .an,.sl [] .an]:=rfl;simp only[e0];simp -implicitDefEqProofs[L,ct]
 | some j=>
  rw[hg]at L;unfold Zij smC at L;dsimp only at L ⊢;clear hg;obtain⟨u0,u1,u2,u3,u4,u5,hA⟩:=zfy;rw[hA]at L ct;clear hA;simp only[Option.isSome_some];generalize Zc7 j=S at *
  obtain⟨nm,C,M,B,E⟩:=S;dsimp only at *
  simp -implicitDefEqProofs[L,ct]
def Zqx(l:List UInt8):Sm×Int×Int:=if Zmk l=true then (Zmj l,0,0) else Zfs l
def Zqy(i:Nat):St:=⟨[(1,.bs (.loc 1) 1 1 0 i),(4,.agg Zkl),(5,.i .i64 i)],[(.loc 1,⟨1,.own,1,Zn9 i⟩)],3⟩
def Zsp(i:Nat):St:=⟨[(1,.bs (.loc 1) 1 5 0 i),(6,.agg Zkl),(7,.i .i64 i)],[(.loc 1,⟨1,.own,5,Zoa i⟩)],3⟩
end
section
variable{T:Tbl}[Z0 T][Zq T][Zv T][Zy T][Zr T][Zn T][Zx T][Zbc T][Zf T][Zg T][Zw T][Zbn T][Zak T][Zan T][Zc5 T][Zas T][Zbv T][Zc3 T][Zb0 T][Za8 T][Zch T][Zdx T][Zdw T][Zam T][Zcs T][Zcz T][Zfj T][Zbr T][Z9 T][Zaz T][Zgs T][Zdd T][Zm3 T][Zge T]
def Zqz(i:Nat):St:=⟨[(1,.sl (Zoa 6) .an),(2,.sl (Zn9 6) .an),(3,.i .i64 i)],[],2⟩
end
def Zla:List Rat→List Rat→Rat
 | x::a,y::b=>x*y+Zla a b
 | _,_=>0
theorem zot:∀(a b:List Rat),Zb9 (fzs a) (fzs b)=Zla a b
 | [],b=>by cases b<;>rfl
 | x::a,[]=>rfl
 | x::a,y::b=>by
  rw[show fzs (x::a)=fz x::fzs a from rfl,show fzs (y::b)=fz y::fzs b from rfl,Zb9,Zla,zbx,zbx,zot a b]
def Znw(a:List (List Rat))(t:List Nat)(i:Nat)(N:List (List Rat)):List (List Rat):=
 N.set (Zdu t i) (Zb4 (N[Zdu t i]?.getD []) (a.map fun r=>Zla r (N[i]?.getD [])))
def Zl7(a:List (List Rat))(t:List Nat)(m:Nat):Nat→List (List Rat)
 | 0=>List.replicate t.length (List.replicate m 1)
 | j+1=>Znw a t (t.length-1-j) (Zl7 a t m j)
def wtP(a:List (List Rat))(t:List Nat)(m:Nat)(w:List Rat):Rat:=Zla w (row0 (Zl7 a t m (t.length-1)))
theorem zvh(a:List (List Rat))(t:List Nat)(m:Nat):∀j,wtJ (a.map fzs) t m j=Zl7 a t m j
 | 0=>rfl
 | j+1=>by
  rw[wtJ,Zl7,zvh a t m j];unfold wtS Znw Zb1;rw[Yej];simp only[Function.comp_def,zot]
theorem z9i(a:List (List Rat))(t:List Nat)(m:Nat)(w:List Rat):wtQ (a.map fzs) t m (fzs w)=wtP a t m w:=by
 unfold wtQ wtP;rw[zvh,zot]
def Zm8(a:List (List Rat))(m:Nat)(w:List Rat)(n:Nat):Bool:=(trs n).all fun t=>decide (wtP a t m w*(Zd0 t:Nat)=1)
def Zj5(a:List (List Rat))(m:Nat)(w:List Rat):Nat→Nat→Nat
 | 0,n=>n
 | f+1,n=>if Zm8 a m w (n+1) then Zj5 a m w f (n+1) else n
def Zlb(p:List UInt8×List Rat×List (List Rat)×List Rat×List Rat)(w:List Rat):Nat:=if w.length=p.2.2.2.1.length then Zj5 p.2.2.1 p.2.2.2.1.length w 5 0 else 0
def Zjb:Nat→Nat×Nat
 | 0=>(1,0)
 | 1=>(2,1)
 | 2=>(2,1)
 | 3=>(4,0)
 | 4=>(3,2)
 | 5=>(5,4)
 | _=>(0,0)
theorem z3c:∀i,i<6→(Zlb (Zhq i) (Zhq i).2.2.2.1,Zlb (Zhq i) (Zhq i).2.2.2.2)=Zjb i:=by decide +kernel
theorem zvi(p:List UInt8×List Rat×List (List Rat)×List Rat×List Rat)(h:okS (smQ p)=true)(w:List Rat):Zd8 (smQ p) (fzs w)=Zlb p w:=by
 have eb:(smQ p).b.length=p.2.2.2.1.length:=by unfold smQ;simp
 have ea:(smQ p).a=p.2.2.1.map fzs:=rfl;by_cases hw:w.length=p.2.2.2.1.length
 ·have ho:wOk (smQ p) (fzs w)=true:=by
   unfold wOk;rw[h,eb,zay,hw];simp
  have hh:∀n,Zfr (smQ p) (fzs w) n=Zm8 p.2.2.1 p.2.2.2.1.length w n:=by
   intro n;unfold Zfr Zm8 Zer;rw[ho,eb,ea];simp only[z9i,Yck]
  have key:∀f n,Zds (smQ p) (fzs w) f n=Zj5 p.2.2.1 p.2.2.2.1.length w f n:=by
   intro f
   induction f with
   | zero=>intro n;rfl
   | succ f ih=>intro n;rw[Zds,Zj5,hh,ih]
  unfold Zd8 Zlb;rw[if_pos hw,key]
 ·have ho:wOk (smQ p) (fzs w)=false:=by
   unfold wOk;rw[eb,zay];simp[hw]
  have h1:Zfr (smQ p) (fzs w) 1=false:=by
   unfold Zfr Zer;rw[ho]
   rfl
  unfold Zd8 Zlb;rw[if_neg hw,Zds,h1]
  rfl
theorem z9j:∀i,i<6→(Zhq i).2.2.2.1.length≤7:=by decide
theorem zh2:∀(l:List (List Fz)) (i k:Nat) (r:List Fz),Za1 l i=true→l[k]? = some r→r.length=i+k
 | [],i,k,r,_,h=>by simp at h
 | a::l,i,k,r,hs,h=>by
  rw[Za1,Yn,decide_eq_true_eq]at hs;cases k with
  | zero=>
   rw[Yd7]at h;cases h;exact hs.1
  | succ k=>
   rw[Yd6]at h;have:=zh2 l (i+1) k r hs.2 h;omega
theorem z08{s:Sm}(hs:SmS s)(hb:s.b.length≤7)(ha:∀r∈s.a,∀x∈r,fsz x≤2):SmW s:=by
 refine⟨hs,hb,fun ok=>?_⟩;obtain⟨H,_⟩:=zfv ok;exact⟨H.al,fun k r h=>⟨by have:=zh2 _ _ k r H.sh h;omega,ha r (Yi h)⟩⟩
theorem z3d{i:Nat}(h:i<6):SmW (Zc7 i):=by
 have ok:=zqz h;refine z08 (z90 ok) (by have:=z9j i h;unfold Zc7 smQ;simpa using this) ?_;have hq:=zpf i h;unfold okQ at hq;simp only[Yn,decide_eq_true_eq,Ya1]at hq;obtain⟨⟨⟨⟨⟨⟨_,_⟩,h3⟩,_⟩,_⟩,_⟩,_⟩:=hq;intro r hr x hx;obtain⟨q,hq,rfl⟩:=Y6.1 hr;obtain⟨z,hz,rfl⟩:=Y6.1 hx;rw[za6];have:=zfw (Yf.1 (Yf.1 h3 q hq) z hz);omega
theorem z9k{i:Nat}(h:i<6):(∀x∈(Zc7 i).b,fsz x≤10)∧∀x∈(Zc7 i).e,fsz x≤10:=by
 have hq:=zpf i h;unfold okQ at hq;simp only[Yn,decide_eq_true_eq,Ya1]at hq;obtain⟨⟨⟨⟨⟨⟨_,_⟩,_⟩,⟨h4,_⟩,h6⟩,_⟩,_⟩,_⟩:=hq;constructor
 ·intro x hx;obtain⟨z,hz,rfl⟩:=Y6.1 hx;rw[za6];have:=zfw (Yf.1 h4 z hz);omega
 ·intro x hx;obtain⟨z,hz,rfl⟩:=Y6.1 hx;rw[za6];have:=zfw (Yf.1 h6 z hz);omega
section
variable{T:Tbl}[Z0 T][Zq T][Zv T][Zy T][Zr T][Zn T][Zx T][Zbc T][Zf T][Zg T][Zw T][Zbn T][Zak T][Zan T][Zc5 T][Zas T][Zbv T][Zc3 T][Zb0 T][Za8 T][Zch T][Zdx T][Zdw T][Zam T][Zcs T][Zcz T][Zfj T][Zbr T][Z9 T][Zaz T][Zgs T][Zdd T][Zah T][Zag T][Zb3 T][Zgf T]
theorem zzb{i:Nat}(h:i<6):Za T 604 [esm (Zc7 i)]=some (.tup [.i .i64 ((Zjb i).1:Nat),.i .i64 ((Zjb i).2:Nat)]):=by
 have c:=zju (T:=T) (Zc7 i) (z3d h) (z9k h).1 (z9k h).2;have e:=z3c i h;have e1:=zvi (Zhq i) (zqz h) (Zhq i).2.2.2.1;have e2:=zvi (Zhq i) (zqz h) (Zhq i).2.2.2.2;rw[show Zd8 (Zc7 i) (Zc7 i).b=_ from e1,show Zd8 (Zc7 i) (Zc7 i).e=_ from e2]at c;rw[c,←e]
theorem zou:Za T 588 []=some (.b true):=by
 have hcut:∀l:List UInt8,l.length≤1000000→Za T 184 [.s l,.s [124]]=some (.tup [.s (hdC 124 l),.s (tlC 124 l),.b (l.contains 124)]):=fun l h=>by rw[p184,zj8 l h];rfl
 have c1:=zxg (T:=T) hcut [104,101,117,110];have e1:Zmj [104,101,117,110]=Zc7 1:=rfl;have e2:Zmk [104,101,117,110]=true:=rfl;rw[e1,e2]at c1;have c2:=zzb (T:=T) (i:=1) (by decide);rw[show ((Zjb 1).1:Nat)=2 from rfl,show ((Zjb 1).2:Nat)=1 from rfl,show (((2:Nat):Int))=2 from rfl,show (((1:Nat):Int))=1 from rfl]at c2;have c3:=zh7 (T:=T) 3 (by decide) (by decide);have hl3:(Z3 (trs 3)).length=2:=rfl;have hw3:=zbn (trs 3);obtain⟨ht,hs⟩:Zhz [0,1,2]=true∧Za5 (Zba [0,1,2])=true:=by decide
 have c4:=zfn (T:=T) (zq6 ht) hs;have e4:Zd0 [0,1,2]=6:=by decide
 rw[e4]at c4;have e5:Ze [0,1,2]=[[.i .i64 0],[.i .i64 1],[.i .i64 2]]:=rfl;rw[e5,show (((6:Nat):Int))=6 from rfl]at c4;rw[show (((3:Nat):Int))=3 from rfl]at c3;clear hcut e1 e2;generalize Zc7 1=S at *
 obtain⟨nm,C,M,B,E⟩:=S;generalize Z3 (trs 3)=R at *
 rw[zab Zgf.h588 rfl,b588];simp -implicitDefEqProofs[c1,c2,c3,c4,hl3,hw3]
def Zrd(l:List Int)(L:List (List Nat))(i:Nat):St:=⟨[(1,.sl (ints l) .an),(5,.sl (Z3 L) .an),(6,.sl (Z3 L) .an),(7,.i .i64 i)],[],2⟩
end
class Zm5 (T:Tbl):Prop where
class Zk8 (T:Tbl):Prop where
class Zk7 (T:Tbl):Prop where
section
variable{T:Tbl}[Z0 T][Zq T][Zv T][Zy T][Zr T][Zn T][Zf T][Zg T][Zw T][Zak T][Zan T][Zbv T][Zb0 T][Za8 T][Zch T][Zdx T][Zdw T][Zx T][Zbc T][Zam T][Zcs T][Zk7 T]
def Zqa(m:List (List Fz))(r:List Fz)(j i:Nat):St:=⟨[(7,.sl (Zs m) .an),(8,.i .i64 m.length),(9,.i .i64 j),(13,.sl (Zd r) .an),(14,.i .i64 r.length),(15,.i .i64 i)],[],2⟩
def Zqb(m:List (List Fz))(i:Nat):St:=⟨[(7,.sl (Zs m) .an),(8,.i .i64 m.length),(9,.i .i64 i)],[],2⟩
def bxH(h:Hs):Box:=⟨1,.str,5,[[.sl (Zes h.l) .an,.b h.t.1,.sl (Zb h.t.2.1) .an,.sl (Zb h.t.2.2) .an,.sl (Zd h.y) .an]]⟩
def Zqc(h:Hs)(i:Nat):St:=⟨[(1,.ptr (.loc 1) 1 5 0 0),(6,.sl (Zes h.l) .an),(7,.i .i64 h.l.length),(8,.i .i64 i)],[(.loc 1,bxH h)],3⟩
def Zrj(l:List Tr)(i:Nat):St:=⟨[(6,.sl (Zes l) .an),(7,.i .i64 l.length),(8,.i .i64 i)],[],2⟩
def Zrk(h:Hs)(i:Nat):St:=⟨[(1,.ptr (.loc 1) 1 5 0 0),(8,.sl (Zes h.l) .an),(9,.i .i64 h.l.length),(10,.i .i64 i)],[(.loc 1,bxH h)],3⟩
theorem HsS.mono{h:Hs}{A B:Nat}(hs:HsS h A)(hAB:A≤B):HsS h B:=
 ⟨hs.len,Yc hs.t hAB,fun x hx=>Yc (hs.y x hx) hAB,hs.yl,fun r hr x hx=>Yc (hs.rt r hr x hx) hAB,fun r hr x hx=>Yc (hs.ry r hr x hx) hAB,hs.rl⟩
def Zrl(l:List Tr)(i n:Nat):St:=⟨[(3,.bs (.loc 3) 1 14 0 n),(8,.sl (Zes l) .an),(9,.i .i64 l.length),(10,.i .i64 i)],[(.loc 3,⟨1,.own,14,Zes (Zmm (l.take i))⟩)],3⟩
end
section
variable{T:Tbl}[Z0 T][Zq T][Zv T][Zy T][Zr T][Zn T][Zf T][Zg T][Zw T][Zak T][Zan T][Zbv T][Zb0 T][Za8 T][Zch T][Zdx T][Zdw T][Zx T][Zbc T][Zam T][Zcs T][Zk7 T][Zk8 T]
def Zrm(A:List Tr)(i:Nat):St:=⟨[(3,.bs (.loc 3) 1 3 0 i),(7,.sl (Zes A) .an),(8,.i .i64 A.length),(9,.i .i64 i)],[(.loc 3,⟨1,.own,3,Zd ((A.take i).map (·.h))⟩)],3⟩
def Zrn(h:Hs)(A:List Tr)(i:Nat):St:=⟨[(1,.ptr (.loc 1) 1 5 0 0),(4,.bs (.loc 4) 2 3 0 i),(5,.bs (.loc 5) 3 1 0 i),(9,.sl (Zes A) .an),(10,.i .i64 A.length),(11,.i .i64 i)],
 [(.loc 1,bxH h),(.loc 4,⟨2,.own,3,Zd ((A.take i).map (·.t))⟩),(.loc 5,⟨3,.own,1,Zs ((A.take i).map (·.y))⟩)],5⟩
end
def Zsj(t h s:Rat):Rat:=(s-t)/h
def Zsk(h x y:Rat):List Rat:=[y*y*(1+2*x),x*x*(3 + -2*x),h*x*y*y,h*x*x * -y]
def Zsl(h x y:Rat):List Rat:=[-(6*x*y/h),6*x*y/h,y*(1 + -3*x),x*(-2+3*x)]
def Zsm(c:List Rat)(y0 y1 f0 f1:List Fz):List Rat:=Znz ((fzs c).zip [y0,y1,f0,f1]) (List.replicate y0.length 0)
def Zn8(s:Rat):List Fz→Nat→Option Nat
 | [],_=>none
 | t::l,i=>if s≤fv t then some i else Zn8 s l (i+1)
def Zsn(s:Rat):List Fz→Option Nat
 | []=>none
 | t::l=>if s<fv t then none else Zn8 s l 0
def Zpj:Option Nat→AV
 | some i=>.tup [.i .i64 i,.b true]
 | none=>.tup [.i .i64 (-1),.b false]
section
variable{T:Tbl}[Z0 T][Zq T][Zv T][Zy T][Zr T][Zn T][Zf T][Zg T][Zw T][Zak T][Zan T][Zbv T][Zb0 T][Za8 T][Zch T][Zdx T][Zdw T][Zx T][Zbc T][Zam T][Zcs T][Zk7 T][Zk8 T][Zbr T][Z9 T][Znn T][Zmv T][Zm5 T]
def Zso(s:Fz)(l:List Fz)(i:Nat):St:=⟨[(3,.ptr (.loc 3) 1 3 0 0),(25,.sl (Zd l) .an),(26,.i .i64 l.length),(27,.i .i64 i)],[(.loc 3,⟨1,.str,3,[Zbg s]⟩)],3⟩
def Zqw:Option Nat→Ex×St
 | some i=>(.r,⟨[(4,.i .i64 i),(5,.b true)],[],2⟩)
 | none=>(.n,⟨[],[],2⟩)
end
def Znv(t:Tp)(many words:Nat):Bool:=((t.code.take many).any fun i=>decide (words<fsz i.n)) || decide (many<t.code.length) || decide (many<t.outs.length)
def Zp5(x:PoF)(many words:Nat):Bool:=decide (words<fsz x.t) || Zbi x.y many words || Zbi x.p many words
section
variable{T:Tbl}[Z4 T][Zai T][Z1 T][Zao T][Z2 T][Zar T][Zz T][Za9 T][Zcx T][Zdq T][Ziw T]
def Zra(t:Tp)(many words i:Nat):St:=⟨[(1,.i .i64 many),(2,.i .i64 words),(3,.ptr (.loc 3) 1 4 0 0),(7,.i .i64 i)],[(.loc 3,bxT t)],3⟩
def Zrb(t:Tp)(many:Nat):Ex×St:=(.n,⟨[(1,.i .i64 many),(3,.ptr (.loc 3) 1 4 0 0)],[(.loc 3,bxT t)],3⟩)
@[simp] theorem zahz(l:List Int):Option.all (fun r=>decide (r.length=1)) (ints l).head? = true:=by cases l<;>rfl
def fC:BId:=.fld (.loc 3) 0
def Zrc(t:Tp)(i:Nat):St:=⟨[(1,.ptr (.loc 1) 1 4 0 0),(2,.ptr (.loc 2) 2 4 0 0),(3,.ptr (.loc 3) 3 4 0 0),(4,.i .i64 i)],
 [(.loc 1,bxT t),(.loc 2,⟨2,.str,4,[[.sl [] .an,.sl [] .an,.i .i64 0,.i .i64 0]]⟩),(.loc 3,⟨3,.str,4,[[.bs fC 4 6 0 i,.bs (.loc 13) 5 1 0 t.outs.length,.i .i64 t.dim,.i .i64 t.par]]⟩),(fC,⟨4,.own,6,Zj1 (t.code.take i)⟩),(.loc 13,⟨5,.own,1,ints t.outs⟩)],7⟩
end
def Zd6(s:Sm)(many words:Nat):Bool:=decide (50<s.nm.length) || decide (many<s.a.length) || Zbi s.b many words || Zbi s.c many words || Zbi s.e many words || s.a.any fun r=>Zbi r many words
def Zo1(p:Pb)(many stages words:Nat):Bool:=Znv p.t many words || Zd6 p.s stages 4 || Zbi p.p 6 words
def Zny(r:Tr)(words:Nat):Bool:=Zbi r.nums 4 words || Zbi r.y 8 words
def Zp8(h:Hs)(many words:Nat):Bool:=decide (many<h.l.length) || decide (words<fsz h.t) || Zbi h.y 8 words || h.l.any fun r=>Zny r words
theorem zgq{s:Sm}{many words:Nat}(h:Zd6 s many words=false)(hm:many≤1000)(hw:words≤300):SmS s∧(∀x∈s.c,fsz x≤words)∧s.b.length≤many∧s.a.length≤many∧s.c.length≤many∧s.e.length≤many∧(∀r∈s.a,r.length≤many):=by
 unfold Zd6 at h;simp only[Ydk,decide_eq_false_iff_not,List.any_eq_false]at h;obtain⟨⟨⟨⟨⟨h1,h2⟩,h3⟩,h4⟩,h5⟩,h6⟩:=h;obtain⟨b1,b2⟩:=zbr h3;obtain⟨c1,c2⟩:=zbr h4;obtain⟨e1,e2⟩:=zbr h5;have ha:∀r∈s.a,r.length≤many∧∀x∈r,fsz x≤words:=fun r hr=>zbr (by grind);exact⟨⟨by omega,by omega,by omega,by omega,by omega,fun x hx=>Yc (c2 x hx) hw,fun r hr=>⟨Yc (ha r hr).1 hm,fun x hx=>Yc ((ha r hr).2 x hx) hw⟩,fun x hx=>Yc (b2 x hx) hw,fun x hx=>Yc (e2 x hx) hw⟩,c2,b1,by omega,c1,e1,fun r hr=>(ha r hr).1⟩
section
variable{T:Tbl}[Z0 T][Zq T][Zv T][Zy T][Zr T][Zn T][Zf T][Zg T][Zw T][Zak T][Zan T][Zbv T][Zb0 T][Za8 T][Zch T][Zdx T][Zdw T][Zx T][Zbc T][Zam T][Zcs T]
variable[Z4 T][Zai T][Z1 T][Zao T][Z2 T][Zar T][Zz T][Za9 T][Zgg T][Zcx T][Zdq T][Zfp T][Zia T][Ziw T][Zfc T][Zib T]
def Zlc(s:Sm):Box:=⟨1,.str,5,[[.s s.nm,.sl (Zd s.c) .an,.sl (Zs s.a) .an,.sl (Zd s.b) .an,.sl (Zd s.e) .an]]⟩
def Zic(s:Sm)(many words i:Nat):St:=⟨[(1,.i .i64 many),(2,.i .i64 words),(3,.ptr (.loc 3) 1 5 0 0),(7,.i .i64 i)],[(.loc 3,Zlc s)],3⟩
theorem zsg(s:Sm)(many words:Nat)(hm:many≤1000):Za T 515 [esm s,.i .i64 many,.i .i64 words]=some (.b (Zd6 s many words)):=by
 have cb:=zcs (T:=T) s.b many words hm;have cc:=zcs (T:=T) s.c many words hm;have ce:=zcs (T:=T) s.e many words hm;have hlp:s.a.length≤many→Zj T 0 0 (.norm false []) l515_0 (Zic s many words 0)=if (s.a.drop 0).any (fun r=>Zbi r many words)=true then some (.r,⟨[(6,.b true)],[],2⟩) else some (.n,⟨[],[],2⟩):=by
  intro hl;refine zaq (Zic s many words) s.a.length (fun i=>if (s.a.drop i).any (fun r=>Zbi r many words)=true then some (.r,⟨[(6,.b true)],[],2⟩) else some (.n,⟨[],[],2⟩)) (fun i hi=>?_) ?_
  ·have hi':(i:Int)<s.a.length:=by omega
   have hws:=zbv hi (by omega);have c:=zcs (T:=T) (s.a[i]'hi) many words hm;have key:(s.a.drop i).any (fun r=>Zbi r many words)=(Zbi (s.a[i]'hi) many words || (s.a.drop (i+1)).any fun r=>Zbi r many words):=by rw[Yj hi,List.any_cons]
   generalize hq:s.a[i]'hi=q at *
   obtain⟨nm,c',a,b,e⟩:=s;cases hL:Zbi q many words with
   | true=>
    right;rw[hL]at c;rw[if_pos (by rw[key,hL,Bool.true_or])];unfold Zic Zlc;constructor<;>simp -implicitDefEqProofs[l515_0,hi,hi',hq,c]
   | false=>
    left;rw[hL]at c;refine⟨?_,by grind⟩;unfold Zic Zlc;simp -implicitDefEqProofs[l515_0,hi,hi',hq,hws,c]
  ·simp only[Y5,List.any_nil,Yai,if_false];unfold Zic Zlc;constructor<;>simp -implicitDefEqProofs[l515_0]
 rw[Yad]at hlp;unfold Zic Zlc at hlp;unfold Zd6;rw[zab Zfc.h515 rfl,b515];obtain⟨nm,c,a,b,e⟩:=s;dsimp only at *
 by_cases h1:50<nm.length
 ·have h1':(50:Int)<nm.length:=by omega
  simp -implicitDefEqProofs[h1,h1']
 have h1':¬ (50:Int)<nm.length:=by omega
 by_cases h2:many<a.length
 ·have h2':(many:Int)<a.length:=by omega
  simp -implicitDefEqProofs[h1,h1',h2,h2']
 have h2':¬ (many:Int)<a.length:=by omega
 have hl:=hlp (by omega);generalize Zbi b many words=B1 at *
 generalize Zbi c many words=B2 at *
 generalize Zbi e many words=B3 at *
 generalize a.any (fun r=>Zbi r many words)=B4 at *
 cases B1 with
 | true=>simp -implicitDefEqProofs[h1,h1',h2,h2',cb]
 | false=>
 cases B2 with
 | true=>simp -implicitDefEqProofs[h1,h1',h2,h2',cb,cc]
 | false=>
 cases B3 with
 | true=>simp -implicitDefEqProofs[h1,h1',h2,h2',cb,cc,ce]
 | false=>
  cases B4<;>simp at hl<;>simp -implicitDefEqProofs[h1,h1',h2,h2',cb,cc,ce,hl]
def Zo2(h:Hs):Box:=⟨1,.str,5,[[.sl (Zes h.l) .an,.b h.t.1,.sl (Zb h.t.2.1) .an,.sl (Zb h.t.2.2) .an,.sl (Zd h.y) .an]]⟩
def Zp9(h:Hs)(words i:Nat):St:=⟨[(2,.i .i64 words),(3,.ptr (.loc 3) 1 5 0 0),(7,.i .i64 i)],[(.loc 3,Zo2 h)],3⟩
theorem zzj(s:Sm)(hs:SmS s):Za T 527 [esm s]=some (esm s):=by
 have c1:=zfj (T:=T) s.c (by have:=hs.cl;omega);have c2:=zza (T:=T) s.a (by have:=hs.al;omega) (fun r hr=>by have:=(hs.a r hr).1;omega);have c3:=zfj (T:=T) s.b (by have:=hs.bl;omega);have c4:=zfj (T:=T) s.e (by have:=hs.el;omega);rw[zab Zib.h527 rfl,b527];obtain⟨nm,c,a,b,e⟩:=s;simp -implicitDefEqProofs[c1,c2,c3,c4]
def Zrf(h:Hs)(i:Nat):St:=⟨[(1,.ptr (.loc 1) 1 5 0 0),(2,.ptr (.loc 2) 2 5 0 0),(3,.ptr (.loc 3) 3 5 0 0),(4,.i .i64 i)],
 [(.loc 1,bxH h),(.loc 2,⟨2,.str,5,[[.sl [] .an,.b false,.sl [] .an,.sl [] .an,.sl [] .an]]⟩),(.loc 3,⟨3,.str,5,[[.bs fC 4 14 0 i,.b h.t.1,.sl (Zb h.t.2.1) .an,.sl (Zb h.t.2.2) .an,.sl (Zd h.y) .an]]⟩),(fC,⟨4,.own,14,Zes (h.l.take i)⟩)],6⟩
end
theorem zwf{c:UInt8}{n:Nat}(hn:n<256)(h:c≠UInt8.ofNat n):¬ c.toNat=n:=fun e=>h (by
 grind[UInt8.toNat_inj,UInt8.toNat_ofNat'])
section
variable{T:Tbl}[Zbo T]
theorem zif(c:UInt8):Za T 189 [u8 c.toNat]=some (.b (isD c)):=by
 rw[zab Zbo.h189 rfl,b189];by_cases h1:48≤c.toNat
 ·simp -implicitDefEqProofs[isD,h1]
 ·simp -implicitDefEqProofs[isD,h1]
theorem zgt(c:UInt8):Za T 190 [u8 c.toNat]=some (.b (isL c)):=by
 rw[zab Zbo.h190 rfl,b190];by_cases h1:97≤c.toNat<;>by_cases h2:c.toNat≤122<;>by_cases h3:65≤c.toNat<;>by_cases h4:c.toNat≤90<;>by_cases h5:c.toNat=95 <;>
  simp -implicitDefEqProofs[isL,h1,h2,h3,h4,h5]
end
section
variable{T:Tbl}
theorem zwg(c:UInt8)(l:List UInt8)(hl:l.length≤1000)(R:Bool):∀i:Nat,(i≤l.length∧(l.drop i).contains c=R) →
  Zj T 0 0 (.norm false []) l181_0 ⟨[(0,u8 c.toNat),(3,.s l),(4,.i .i64 i)],[],2⟩=if R=true then some (.r,⟨[(2,.i .i64 3)],[],2⟩) else some (.n,⟨[],[],2⟩):=by
 refine zav (fun i:Nat=>⟨[(0,u8 c.toNat),(3,.s l),(4,.i .i64 i)],[],2⟩) _ (fun i=>l.length-i) _ ?_
 rintro i ⟨hi,hR⟩
 by_cases h0:i<l.length
 ·have hg:l[i]? = some (l[i]'h0):=Ya h0;have hd:=Yj h0;have hw:IntKind.wrap .i64 ((i:Int)+1)=((i+1:Nat):Int):=zac _ (by omega);rw[hd,List.contains_cons]at hR;by_cases hc:(l[i]'h0).toNat=c.toNat
  ·right;have:c=l[i]'h0:=(UInt8.toNat_inj.1 hc).symm;have hR':R=true:=by grind
   subst hR';clear hR hd;constructor<;>simp -implicitDefEqProofs[l181_0,h0,hc]
  ·left;have hne:(c == l[i]'h0)=false:=by
    grind
   rw[hne,Bool.false_or]at hR;refine⟨i+1,⟨h0,hR⟩,by omega,?_,rfl⟩;simp -implicitDefEqProofs[l181_0,h0,hc,hw]
 ·right;have:i=l.length:=by omega
  subst this;subst hR;constructor<;>simp -implicitDefEqProofs[l181_0]
end
section
variable{T:Tbl}[Zbo T]
theorem zeg(c:UInt8):Za T 181 [u8 c.toNat]=some (.i .i64 (Zk c)):=by
 have h1:=zif (T:=T) c;have h2:=zgt (T:=T) c;have h:=zwg (T:=T) c Zhs (by decide) _ 0 ⟨by decide,rfl⟩;rw[Yad,show Zhs.contains c=isS c from rfl]at h;simp only[Zhs]at h;rw[zab Zbo.h181 rfl,b181];cases e1:isD c<;>cases e2:isL c<;>cases e3:isS c<;>simp only[e3]at h<;>simp at h<;>simp -implicitDefEqProofs[Zk,h1,h2,h,e1,e2,e3]
theorem zgd(k:Nat)(c:UInt8):Za T 180 [.i .i64 k,u8 c.toNat]=some (.b (Za2 k c)):=by
 have h1:=zif (T:=T) c;have h2:=zgt (T:=T) c;rw[zab Zbo.h180 rfl,b180];by_cases k1:k=1
 ·subst k1;cases e1:isD c<;>cases e2:isL c<;>simp -implicitDefEqProofs[Za2,h1,e1,e2]
 ·have k1':¬ (k:Int)=1:=by omega
  by_cases k2:k=2
  ·subst k2;cases e1:isD c<;>cases e2:isL c<;>simp -implicitDefEqProofs[Za2,h1,h2,e1,e2]
  ·have k2':¬ (k:Int)=2:=by omega
   simp -implicitDefEqProofs[Za2,k1,k2,k1',k2']
theorem zge(k:Nat):Za T 182 [.i .i64 k]=some (.i .i64 (Zaw k)):=by
 rw[zab Zbo.h182 rfl,b182];by_cases k1:k=1
 ·subst k1;simp -implicitDefEqProofs[Zaw]
 ·have k1':¬ (k:Int)=1:=by omega
  by_cases k2:k=2
  ·subst k2;simp -implicitDefEqProofs[Zaw]
  ·have k2':¬ (k:Int)=2:=by omega
   simp -implicitDefEqProofs[Zaw,k1,k2,k1',k2']
def Zcy(s:List UInt8)(i:Nat)(note:Bool)(acc:List Wd):St:=
 ⟨[(0,.s s),(4,.bs (.loc 4) 1 3 0 acc.length),(5,.b note),(6,.i .i64 i)],[(.loc 4,⟨1,.own,3,Zaa acc⟩)],3⟩
def Ze5:Except Nat (List Wd)→Option (Ex×St)
 | .ok ws=>some (.n,⟨[(4,.bs (.loc 4) 1 3 0 ws.length)],[(.loc 4,⟨1,.own,3,Zaa ws⟩)],3⟩)
 | .error e=>some (.r,⟨[(2,.sl [] .an),(3,.i .i64 e)],[],2⟩)
def Zo7(acc:List Wd)(i:Nat):Prop:=∀k t a,acc.getLast? = some (k,t,a)→a+t.length≤i
theorem zwh(s:List UInt8)(hs:s.length≤4000)(i:Nat)(h0:i<s.length)(note:Bool)(acc:List Wd)(ha:acc.length≤i)(c:UInt8)(hc:s[i]'h0=c)
  (hsk:((if c=35 then true else if c=10 then false else note) || isB c)=true) :
  evX (orc T) T 0 l168_0 (Zcy s i note acc)=some (.n,Zcy s (i+1) (if c=35 then true else if c=10 then false else note) acc):=by
 have hw:IntKind.wrap .i64 ((i:Int)+1)=((i+1:Nat):Int):=zac _ (by omega);rw[z3h]at hsk;have e35:=zh4 c 35 (by decide);have e10:=zh4 c 10 (by decide);rw[show UInt8.ofNat 35=35 from rfl]at e35;rw[show UInt8.ofNat 10=10 from rfl]at e10;simp only[e35,e10]at hsk ⊢;obtain⟨n,hn⟩:∃n,n=c.toNat:=⟨_,rfl⟩;have hn':=hn.symm;by_cases c35:n=35
 ·subst c35;simp -implicitDefEqProofs[l168_0,Zcy,h0,hc,hn',hw]
 ·by_cases c10:n=10
  ·subst c10;simp -implicitDefEqProofs[l168_0,Zcy,h0,hc,hn',hw]
  ·cases note with
   | true=>simp -implicitDefEqProofs[l168_0,Zcy,h0,hc,hn',hw,c35,c10]
   | false=>
    by_cases c32:n=32
    ·subst c32;simp -implicitDefEqProofs[l168_0,Zcy,h0,hc,hn',hw]
    ·by_cases c9:n=9
     ·subst c9;simp -implicitDefEqProofs[l168_0,Zcy,h0,hc,hn',hw]
     ·have c13:n=13:=by grind
      subst c13;simp -implicitDefEqProofs[l168_0,Zcy,h0,hc,hn',hw]
theorem zcl(pre:List Wd)(k a:Nat)(t:List UInt8):(Zaa (pre++[(k,t,a)]))[pre.length]? = some [.i .i64 k,.s t,.i .i64 a]:=by
 simp[Zaa,wdR]
theorem zwi(s:List UInt8)(hs:s.length≤4000)(i:Nat)(h0:i<s.length)(c:UInt8)(hc:s[i]'h0=c)
  (c35:¬ c.toNat=35) (c10:¬ c.toNat=10) (c32:¬ c.toNat=32) (c9:¬ c.toNat=9) (c13:¬ c.toNat=13) (k:Nat) (hk0:Zk c=k) (hz:¬ k=0) :
  evX (orc T) T 0 l168_0 (Zcy s i false [])=some (.n,Zcy s (i+1) false [(k,[c],i)]):=by
 have hw:IntKind.wrap .i64 ((i:Int)+1)=((i+1:Nat):Int):=zac _ (by omega);have hk:=zeg (T:=T) c;rw[hk0]at hk;have b1:(i:Int)+1≤s.length:=by omega
 have b2:List.drop i (List.take (i+1) s)=[c]:=by
  grind[List.drop_eq_getElem_cons]
 have hm:=zge (T:=T) k;have hq:=zd4 k;have hq':¬ ((Zaw k:Nat):Int)<1:=by omega
 simp -implicitDefEqProofs[l168_0,Zcy,Zaa,wdR,h0,hc,hw,c35,c10,c32,c9,c13,hk,hm,b1,b2,hz,hq']
theorem zk4(s:List UInt8)(hs:s.length≤4000)(i:Nat)(h0:i<s.length)(c:UInt8)(hc:s[i]'h0=c)
  (c35:¬ c.toNat=35) (c10:¬ c.toNat=10) (c32:¬ c.toNat=32) (c9:¬ c.toNat=9) (c13:¬ c.toNat=13) (hk0:Zk c=0) :
  Zd5 (evX (orc T) T 0 l168_0 (Zcy s i false []))=true∧Zeh 0 0 (Gh.norm false [4]) (evX (orc T) T 0 l168_0 (Zcy s i false []))=Ze5 (.error i):=by
 have hw:IntKind.wrap .i64 ((i:Int)+1)=((i+1:Nat):Int):=zac _ (by omega);have hk:=zeg (T:=T) c;rw[hk0]at hk;have b1:(i:Int)+1≤s.length:=by omega
 have b2:List.drop i (List.take (i+1) s)=[c]:=by
  grind[List.drop_eq_getElem_cons]
 constructor<;>simp -implicitDefEqProofs[l168_0,Zcy,Ze5,Zaa,h0,hc,hw,c35,c10,c32,c9,c13,hk,b1,b2]
theorem zwj(s:List UInt8)(hs:s.length≤4000)(i:Nat)(h0:i<s.length)(c:UInt8)(hc:s[i]'h0=c)
  (c35:¬ c.toNat=35) (c10:¬ c.toNat=10) (c32:¬ c.toNat=32) (c9:¬ c.toNat=9) (c13:¬ c.toNat=13) (pre:List Wd) (hp:pre.length<i) (k0 a0:Nat) (t0:List UInt8) (ht0:a0+t0.length≤i) (hadj:¬ (a0+t0.length=i∧Za2 k0 c=true)) (k:Nat) (hk0:Zk c=k) (hz:¬ k=0) :
  evX (orc T) T 0 l168_0 (Zcy s i false (pre++[(k0,t0,a0)]))=some (.n,Zcy s (i+1) false (pre++[(k0,t0,a0)]++[(k,[c],i)])):=by
 have hg:s[i]? = some c:=by grind
 have hw:IntKind.wrap .i64 ((i:Int)+1)=((i+1:Nat):Int):=zac _ (by omega);have hwi:IntKind.wrap .i64 (i:Int)=(i:Int):=zac _ (by omega);have b1:(i:Int)+1≤s.length:=by omega
 have b2:List.drop i (List.take (i+1) s)=[c]:=by
  grind[List.drop_eq_getElem_cons]
 have hmo:=zgd (T:=T) k0 c;have hl:=zcl pre k0 a0 t0;have hll:(Zaa (pre++[(k0,t0,a0)])).length=pre.length+1:=by simp
 have hl2:=zcl (pre++[(k0,t0,a0)]) k i [c];have hll2:(Zaa (pre++[(k0,t0,a0)]++[(k,[c],i)])).length=pre.length+2:=by simp
 have hpu:wkL (List.take (pre.length+1) (Zaa (pre++[(k0,t0,a0)]))++[[AV.i .i64 k,.s [c],.i .i64 i]])=Zaa (pre++[(k0,t0,a0)]++[(k,[c],i)]):=by
  grind[zjq,List.length_singleton]
 have hwp:IntKind.wrap .i64 (pre.length:Int)=(pre.length:Int):=zac _ (by omega);have hwp1:IntKind.wrap .i64 ((pre.length:Int)+1)=(pre.length:Int)+1:=zac _ (by omega);have hlt:(pre.length:Int)<(pre.length:Int)+1:=by omega
 have hws:IntKind.wrap .i64 ((a0:Int)+t0.length)=((a0:Int)+t0.length):=zac _ (by omega);have hk:=zeg (T:=T) c;rw[hk0]at hk;have hm:=zge (T:=T) k;have hq:=zd4 k;have hq':¬ ((Zaw k:Nat):Int)<1:=by omega
 have hz':¬ (k:Int)=0:=by omega
 have hal:(pre++[(k0,t0,a0)]).length=pre.length+1:=by simp
 have hal2:(pre++[(k0,t0,a0)]++[(k,[c],i)]).length=pre.length+2:=by simp
 have hpl:pre.length≤4294967294:=by omega
 unfold Zcy;rw[hal,hal2];rw[hal]at hl2;have g1:=zdq (pre++[(k0,t0,a0)]);have g2:=zfk (pre++[(k0,t0,a0)]);have g3:=zdq (pre++[(k0,t0,a0)]++[(k,[c],i)]);have g4:=zfk (pre++[(k0,t0,a0)]++[(k,[c],i)]);generalize Zaa (pre++[(k0,t0,a0)]++[(k,[c],i)])=RW2 at *
 generalize Zaa (pre++[(k0,t0,a0)])=RW at *
 generalize pre.length=m at *
 obtain⟨hx1,hgE⟩:=Yd.1 hl;have hT:List.take (m+1) RW=RW:=Yb (by omega);rw[hT]at hpu;have hl3:(RW++[[AV.i .i64 k,.s [c],.i .i64 i]])[m+1]? = some [AV.i .i64 k,.s [c],.i .i64 i]:=by
  grind
 obtain⟨hx3,hgE3⟩:=Yd.1 hl3;have hm1:((m:Int)+1).toNat=m+1:=by omega
 by_cases had:a0+t0.length=i
 ·have had':(a0:Int)+t0.length=i:=by omega
  have hmm:Za2 k0 c=false:=by grind
  simp -implicitDefEqProofs[l168_0,h0,hc,hw,hwi,c35,c10,c32,c9,c13,hk,hm,b1,b2,hz,hq',hmo,hll,hT,hpu,hm1,hwp,hwp1,hlt,hgE,hgE3,had',hmm,hpl]
 ·have had':¬ (a0:Int)+t0.length=i:=by omega
  simp -implicitDefEqProofs[l168_0,h0,hc,hw,c35,c10,c32,c9,c13,hk,hm,b1,b2,hz,hq',hll,hT,hpu,hm1,hwp,hwp1,hws,hlt,hgE,hgE3,had',hpl]
theorem zk5(s:List UInt8)(hs:s.length≤4000)(i:Nat)(h0:i<s.length)(c:UInt8)(hc:s[i]'h0=c)
  (c35:¬ c.toNat=35) (c10:¬ c.toNat=10) (c32:¬ c.toNat=32) (c9:¬ c.toNat=9) (c13:¬ c.toNat=13) (pre:List Wd) (hp:pre.length<i) (k0 a0:Nat) (t0:List UInt8) (ht0:a0+t0.length≤i) (hadj:¬ (a0+t0.length=i∧Za2 k0 c=true)) (hk0:Zk c=0) :
  Zd5 (evX (orc T) T 0 l168_0 (Zcy s i false (pre++[(k0,t0,a0)])))=true∧Zeh 0 0 (Gh.norm false [4]) (evX (orc T) T 0 l168_0 (Zcy s i false (pre++[(k0,t0,a0)])))=Ze5 (.error i):=by
 obtain⟨k,hkk⟩:∃k:Nat,k=0:=⟨_,rfl⟩;have hw:IntKind.wrap .i64 ((i:Int)+1)=((i+1:Nat):Int):=zac _ (by omega);have hwi:IntKind.wrap .i64 (i:Int)=(i:Int):=zac _ (by omega);have b1:(i:Int)+1≤s.length:=by omega
 have b2:List.drop i (List.take (i+1) s)=[c]:=by
  grind[List.drop_eq_getElem_cons]
 have hmo:=zgd (T:=T) k0 c;have hl:=zcl pre k0 a0 t0;have hll:(Zaa (pre++[(k0,t0,a0)])).length=pre.length+1:=by simp
 have hl2:=zcl (pre++[(k0,t0,a0)]) k i [c];have hpu:wkL (List.take (pre.length+1) (Zaa (pre++[(k0,t0,a0)]))++[[AV.i .i64 k,.s [c],.i .i64 i]])=Zaa (pre++[(k0,t0,a0)]++[(k,[c],i)]):=by
  grind[zjq,List.length_singleton]
 have hwp:IntKind.wrap .i64 (pre.length:Int)=(pre.length:Int):=zac _ (by omega);have hwp1:IntKind.wrap .i64 ((pre.length:Int)+1)=(pre.length:Int)+1:=zac _ (by omega);have hlt:(pre.length:Int)<(pre.length:Int)+1:=by omega
 have hws:IntKind.wrap .i64 ((a0:Int)+t0.length)=((a0:Int)+t0.length):=zac _ (by omega);have hk:=zeg (T:=T) c;rw[hk0]at hk;have hz':(k:Int)=0:=by omega
 have hal:(pre++[(k0,t0,a0)]).length=pre.length+1:=by simp
 have hpl:pre.length≤4294967294:=by omega
 unfold Zcy Ze5;rw[hal];have g4:=zfk (pre++[(k0,t0,a0)]++[(k,[c],i)]);generalize Zaa (pre++[(k0,t0,a0)])=RW at *
 generalize pre.length=m at *
 obtain⟨hx1,hgE⟩:=Yd.1 hl;have hT:List.take (m+1) RW=RW:=Yb (by omega);have hl3:(RW++[[AV.i .i64 k,.s [c],.i .i64 i]])[m+1]? = some [AV.i .i64 k,.s [c],.i .i64 i]:=by
  grind
 have hm1:((m:Int)+1).toNat=m+1:=by omega
 by_cases had:a0+t0.length=i
 ·have had':(a0:Int)+t0.length=i:=by omega
  have hmm:Za2 k0 c=false:=by grind
  constructor<;>simp -implicitDefEqProofs[l168_0,h0,hc,hw,hwi,c35,c10,c32,c9,c13,hk,b1,b2,hmo,hll,hT,hm1,hwp,hwp1,hlt,hgE,had',hmm,hpl]
 ·have had':¬ (a0:Int)+t0.length=i:=by omega
  constructor<;>simp -implicitDefEqProofs[l168_0,h0,hc,hw,c35,c10,c32,c9,c13,hk,b1,b2,hll,hT,hm1,hwp,hwp1,hws,hlt,hgE,had',hpl]
theorem zwk(pre:List Wd)(k a:Nat)(t t':List UInt8):(Zaa (pre++[(k,t,a)])).set pre.length [.i .i64 k,.s t',.i .i64 a]=Zaa (pre++[(k,t',a)]):=by
 have e:Zaa (pre++[(k,t,a)])=Zaa pre++[wdR (k,t,a)]:=by simp[Zaa]
 have e':Zaa (pre++[(k,t',a)])=Zaa pre++[wdR (k,t',a)]:=by simp[Zaa]
 rw[e,e',Y7 _ _ (by simp),zd0,Ybt]
 rfl
theorem zz5(s:List UInt8)(hs:s.length≤4000)(i:Nat)(h0:i<s.length)(c:UInt8)(hc:s[i]'h0=c)
  (c35:¬ c.toNat=35) (c10:¬ c.toNat=10) (c32:¬ c.toNat=32) (c9:¬ c.toNat=9) (c13:¬ c.toNat=13) (pre:List Wd) (hp:pre.length<i) (k0 a0:Nat) (t0:List UInt8) (had:a0+t0.length=i) (hmm:Za2 k0 c=true) (hz:¬ k0=0) :
  (t0.length+1≤Zaw k0→evX (orc T) T 0 l168_0 (Zcy s i false (pre++[(k0,t0,a0)]))=some (.n,Zcy s (i+1) false (pre++[(k0,t0++[c],a0)]))) ∧
  (Zaw k0<t0.length+1→Zd5 (evX (orc T) T 0 l168_0 (Zcy s i false (pre++[(k0,t0,a0)])))=true∧Zeh 0 0 (Gh.norm false [4]) (evX (orc T) T 0 l168_0 (Zcy s i false (pre++[(k0,t0,a0)])))=Ze5 (.error i)):=by
 have hw:IntKind.wrap .i64 ((i:Int)+1)=((i+1:Nat):Int):=zac _ (by omega);have hwi:IntKind.wrap .i64 (i:Int)=(i:Int):=zac _ (by omega);have b1:(i:Int)+1≤s.length:=by omega
 have b2:List.drop i (List.take (i+1) s)=[c]:=by
  grind[List.drop_eq_getElem_cons]
 have hmo:=zgd (T:=T) k0 c;rw[hmm]at hmo;have hl:=zcl pre k0 a0 t0;have hll:(Zaa (pre++[(k0,t0,a0)])).length=pre.length+1:=by simp
 have hl2:=zcl pre k0 a0 (t0++[c]);have hll2:(Zaa (pre++[(k0,t0++[c],a0)])).length=pre.length+1:=by simp
 have hset:=zwk pre k0 a0 t0 (t0++[c]);have hwp:IntKind.wrap .i64 (pre.length:Int)=(pre.length:Int):=zac _ (by omega);have hlt:(pre.length:Int)<(pre.length:Int)+1:=by omega
 have had':(a0:Int)+t0.length=i:=by omega
 have hm:=zge (T:=T) k0;have hal:(pre++[(k0,t0,a0)]).length=pre.length+1:=by simp
 have hal2:(pre++[(k0,t0++[c],a0)]).length=pre.length+1:=by simp
 have hcl:t0.length+1≤9223372036854775807:=by omega
 unfold Zcy Ze5;rw[hal,hal2];have g3:=zdq (pre++[(k0,t0++[c],a0)]);have g4:=zfk (pre++[(k0,t0++[c],a0)]);obtain⟨hx1,hgE⟩:=Yd.1 hl;obtain⟨hx2,hgE2⟩:=Yd.1 hl2;refine⟨fun hq=>?_,fun hq=>?_⟩
 ·have hq2:¬ ((Zaw k0:Nat):Int)<(t0.length:Int)+1:=by omega
  simp -implicitDefEqProofs[l168_0,h0,hc,hw,hwi,c35,c10,c32,c9,c13,hm,b1,b2,hz,hmo,hll,hll2,hset,hwp,hlt,hgE,hgE2,had',hcl,hq2,g3]
 ·have hq2:((Zaw k0:Nat):Int)<(t0.length:Int)+1:=by omega
  constructor<;>simp -implicitDefEqProofs[l168_0,h0,hc,hw,hwi,c35,c10,c32,c9,c13,hm,b1,b2,hz,hmo,hll,hll2,hset,hwp,hlt,hgE,hgE2,had',hcl,hq2]
theorem zwl(s:List UInt8)(hs:s.length≤4000):∀y:Nat×Bool×List Wd,(y.1≤s.length∧y.2.2.length≤y.1∧(∀k t a,y.2.2.getLast? = some (k,t,a)→a+t.length≤y.1∧¬ k=0)) →
  Zj T 0 0 (.norm false [4]) l168_0 (Zcy s y.1 y.2.1 y.2.2)=Ze5 (Zew (s.drop y.1) y.1 y.2.1 y.2.2):=by
 refine zav (fun y:Nat×Bool×List Wd=>Zcy s y.1 y.2.1 y.2.2) (fun y=>y.1≤s.length∧y.2.2.length≤y.1∧(∀k t a,y.2.2.getLast? = some (k,t,a)→a+t.length≤y.1∧¬ k=0)) (fun y=>s.length-y.1) (fun y=>Ze5 (Zew (s.drop y.1) y.1 y.2.1 y.2.2)) ?_
 rintro⟨i,note,acc⟩ ⟨hi,ha,he⟩
 by_cases h0:i<s.length
 ·obtain⟨c,hc⟩:∃c,s[i]'h0=c:=⟨_,rfl⟩;have hd:s.drop i=c::s.drop (i+1):=by rw[Yj h0,hc]
  by_cases hsk:((if c=35 then true else if c=10 then false else note) || isB c)=true
  ·left;refine⟨(i+1,(if c=35 then true else if c=10 then false else note),acc),⟨h0,by grind,fun k t a h=>by
    grind⟩,by omega,zwh s hs i h0 note acc ha c hc hsk,?_⟩
   grind[Zew]
  ·have hsk':=hsk;simp only[Ya1,not_or,Yef]at hsk';obtain⟨h1,h2⟩:=hsk';have n35:c≠35:=fun e=>by grind
   have n10:c≠10:=fun e=>by subst e;simp[isB]at h2
   have hnote:note=false:=by grind
   subst hnote;have hB:¬ c=32∧¬ c=9∧¬ c=13:=by
    grind[isB]
   have c35:¬ c.toNat=35:=zwf (n:=35) (by decide) n35;have c10:¬ c.toNat=10:=zwf (n:=10) (by decide) n10;have c32:¬ c.toNat=32:=zwf (n:=32) (by decide) hB.1;have c9:¬ c.toNat=9:=zwf (n:=9) (by decide) hB.2.1;have c13:¬ c.toNat=13:=zwf (n:=13) (by decide) hB.2.2;have hR:Zew (s.drop i) i false acc=if Zet (Zc8 c i acc)=true then .error i else Zew (s.drop (i+1)) (i+1) false (Zc8 c i acc):=by
    grind[Zew]
   rw[hR];have hmp:=zd4 (Zk c);rcases List.eq_nil_or_concat acc with rfl | ⟨pre,⟨k0,t0,a0⟩,rfl⟩
   ·have hs1:Zc8 c i []=[(Zk c,[c],i)]:=rfl;have hb1:Zet [(Zk c,[c],i)]=decide (Zk c=0):=by
     simp[Zet];omega
    rw[hs1,hb1];by_cases hk:Zk c=0
    ·grind[zk4]
    ·left;rw[decide_eq_false hk,if_neg (by decide)];refine⟨(i+1,false,[(Zk c,[c],i)]),⟨h0,by simp,fun k t a h=>by
      grind⟩,by omega,zwi (T:=T) s hs i h0 c hc c35 c10 c32 c9 c13 (Zk c) rfl hk,rfl⟩
   ·rw[List.concat_eq_append]at he ha ⊢;obtain⟨e1,e2⟩:=he k0 t0 a0 (by simp);have hp:pre.length<i:=by
     grind
    by_cases hadj:a0+t0.length=i∧Za2 k0 c=true
    ·have hs1:Zc8 c i (pre++[(k0,t0,a0)])=pre++[(k0,t0++[c],a0)]:=by simp[Zc8,hadj.1,hadj.2]
     have hb1:Zet (pre++[(k0,t0++[c],a0)])=decide (Zaw k0<t0.length+1):=by simp[Zet,e2]
     rw[hs1,hb1];obtain⟨x1,x2⟩:=zz5 (T:=T) s hs i h0 c hc c35 c10 c32 c9 c13 pre hp k0 a0 t0 hadj.1 hadj.2 e2;by_cases hq:Zaw k0<t0.length+1
     ·grind
     ·left;rw[decide_eq_false hq,if_neg (by decide)];refine⟨(i+1,false,pre++[(k0,t0++[c],a0)]),⟨h0,by grind,fun k t a h=>by
       grind⟩,by omega,x1 (by omega),rfl⟩
    ·have hs1:Zc8 c i (pre++[(k0,t0,a0)])=pre++[(k0,t0,a0)]++[(Zk c,[c],i)]:=by
      unfold Zc8
      grind
     have hb1:Zet (pre++[(k0,t0,a0)]++[(Zk c,[c],i)])=decide (Zk c=0):=by
      simp[Zet];omega
     rw[hs1,hb1];by_cases hk:Zk c=0
     ·grind[zk5]
     ·left;rw[decide_eq_false hk,if_neg (by decide)];refine⟨(i+1,false,pre++[(k0,t0,a0)]++[(Zk c,[c],i)]),⟨h0,by grind,fun k t a h=>by
       grind⟩,by omega,zwj (T:=T) s hs i h0 c hc c35 c10 c32 c9 c13 pre hp k0 a0 t0 e1 hadj (Zk c) rfl hk,rfl⟩
 ·right;have hi2:i=s.length:=by omega
  subst hi2;rw[Y5];have er:Zew [] s.length note acc=.ok acc:=rfl;rw[er];simp only[Ze5,Zcy];have g1:=zdq acc;have g2:=zfk acc;have g3:=zd0 acc;generalize Zaa acc=RW at *
  generalize acc.length=m at *
  constructor<;>simp -implicitDefEqProofs[l168_0,g1]
def Zgi(r:Except Nat (List Wd)):AV:=
 match r with
 | .ok ws=>.tup [.sl (Zaa ws) .an,.i .i64 (-1)]
 | .error e=>.tup [.sl [] .an,.i .i64 e]
theorem zst(s:List UInt8)(hs:s.length≤1000000):Za T 168 [.s s]=some (Zgi (Zjc s)):=by
 rw[zab Zbo.h168 rfl,b168];unfold Zjc;by_cases h1:4000<s.length
 ·have h1':(4000:Int)<s.length:=by omega
  rw[if_pos h1];simp -implicitDefEqProofs[Zgi,h1']
 ·have h1':¬ (4000:Int)<s.length:=by omega
  rw[if_neg h1];have h:=zwl (T:=T) s (by omega) (0,false,[]) ⟨Yo _,Ye _,fun k t a h=>by grind⟩;simp only[Yad]at h;rw[zxy]at h;have e0:Zaa []=[]:=rfl;simp only[Zcy,e0,Yal,Yw]at h;cases hr:Zdj (s.drop (Zbj false s)) (Zbj false s) []with
  | ok ws=>
   rw[hr]at h;simp only[Ze5]at h;have g1:=zdq ws;have g3:=zd0 ws;simp only[Zgi];generalize Zaa ws=RW at *
   generalize ws.length=m at *
   have ht:List.take m RW=RW:=Yb (by omega);simp -implicitDefEqProofs[h1',h,g1,ht,g3]
  | error e=>
   rw[hr]at h;simp only[Ze5]at h;simp -implicitDefEqProofs[Zgi,h1',h]
end
theorem zng:∀(n:Nat) (l:List UInt8) (i:Nat) (acc ws:List Wd),l.length=n→Zdj l i acc=.ok ws→∃r,ws=acc++r:=by
 intro n
 induction n using Nat.strongRecOn with
 | _ n ih=>
  intro l i acc ws hl h;cases l with
  | nil=>rw[zf0]at h;cases h;exact⟨[],by simp⟩
  | cons c r=>
   rw[zgl]at h;split at h
   ·cases h
   ·split at h
    ·cases h
    ·obtain⟨r',hr'⟩:=ih _ (by simp only[Yak,Ym]at hl ⊢;omega) _ _ _ _ rfl h;exact⟨_,by rw[hr',Ybd]⟩
def Zf2(k:Int)(t:List UInt8):Except Nat (List Wd)→Bool
 | .ok [(k',t',_)]=>decide ((k':Int)=k)&&decide (t'=t)
 | _=>false
theorem zwm(k:Nat)(r:List UInt8):1≤Z6 k r∧Z6 k r≤r.length+1:=by
 unfold Z6;have:=(Ya5 (Za2 k) (l:=r)).length_le;omega
theorem zsu(k:Int)(t:List UInt8)(ht:t.length≤4000):Zf2 k t (Zjc t)=Zaj k t:=by
 unfold Zjc;rw[if_neg (by omega)];cases t with
 | nil=>simp[Zbj,zf0,Zf2,Zaj]
 | cons c r=>
  simp only[Ym]at ht;by_cases hsk:Zbj false (c::r)=0
  ·rw[hsk,Yad,zgl];obtain⟨f1,f2⟩:=zwm (Zk c) r;by_cases hk:Zk c=0
   ·rw[if_pos hk];simp only[Zf2,Zaj,hk];by_cases hk0:k=0
    ·simp[hk0]
    ·have:¬ (0:Int)=k:=fun h=>hk0 h.symm;simp[this]
   ·rw[if_neg hk];by_cases hm:Zaw (Zk c)<Z6 (Zk c) r
    ·rw[if_pos hm];simp only[Zf2,Zaj];by_cases hfl:Z6 (Zk c) r=r.length+1
     ·have:¬ r.length+1≤Zaw (Zk c):=by omega
      simp[this]
     ·simp[hfl]
    ·rw[if_neg hm,Yam];by_cases hfl:Z6 (Zk c) r=r.length+1
     ·have e1:r.drop (Z6 (Zk c) r-1)=[]:=by
       rw[hfl];exact List.drop_eq_nil_of_le (by omega)
      have e2:(c::r).take (Z6 (Zk c) r)=c::r:=by
       rw[hfl];exact Yb (by simp)
      rw[e1,e2];simp only[Zbj,List.drop_nil,zf0,Zf2,Zaj,hfl];have:r.length+1≤Zaw (Zk c):=by omega
      by_cases hkk:(Zk c:Int)=k
      ·have hk0:k≠0:=by omega
       simp[hkk,hk0,this]
      ·simp[hkk]
     ·have hfalse:Zaj k (c::r)=false:=by simp[Zaj,hfl]
      rw[hfalse];generalize hws:Zdj ((r.drop (Z6 (Zk c) r-1)).drop (Zbj false (r.drop (Z6 (Zk c) r-1)))) (0+Z6 (Zk c) r+Zbj false (r.drop (Z6 (Zk c) r-1))) [(Zk c,(c::r).take (Z6 (Zk c) r),0)]=res;cases res with
      | error e=>rfl
      | ok ws=>
       obtain⟨x,hx⟩:=zng _ _ _ _ _ rfl hws;rw[hx];cases x with
       | nil=>
        simp only[Ybf,Zf2];have hne:¬ (c::r).take (Z6 (Zk c) r)=c::r:=fun h=>by
         have:=congrArg List.length h;rw[Yaa,Ym]at this;omega
        rw[decide_eq_false hne,Yd2]
       | cons y x=>rfl
  ·have hle:=zq4 false (c::r);have hk:Zk c=0∨isB c=true∨c=35:=by
    right;by_cases hb:((if c=35 then true else if c=10 then false else false) || isB c)=true
    ·by_cases h35:c=35
     ·exact .inr h35
     ·simp[h35]at hb;exact .inl hb
    ·exfalso;apply hsk;simp only[Zbj];rw[if_neg hb]
   have hk0:Zk c=0:=by
    rcases hk with h | h | h
    ·exact h
    ·simp only[isB,Ya1,decide_eq_true_eq]at h;rcases h with ((rfl | rfl) | rfl) | rfl<;>decide
    ·subst h;decide
   have hr:Zaj k (c::r)=false:=by
    simp only[Zaj,hk0];by_cases hk0:k=0
    ·simp[hk0]
    ·have:¬ (0:Int)=k:=fun h=>hk0 h.symm;simp[this]
   rw[hr]
   -- every word is shorter than the text
   have key:∀(l:List UInt8) (i:Nat),l.length<(c::r).length→Zf2 k (c::r) (Zdj l i [])=false:=by
    intro l i hl;cases l with
    | nil=>rw[zf0];rfl
    | cons d q=>
     rw[zgl];split
     ·rfl
     ·split
      ·rfl
      ·generalize hws:Zdj ((q.drop (Z6 (Zk d) q-1)).drop (Zbj false (q.drop (Z6 (Zk d) q-1)))) (i+Z6 (Zk d) q+Zbj false (q.drop (Z6 (Zk d) q-1))) ([]++[(Zk d,(d::q).take (Z6 (Zk d) q),i)])=res;cases res with
       | error e=>rfl
       | ok ws=>
        obtain⟨x,hx⟩:=zng _ _ _ _ _ rfl hws;rw[hx];cases x with
        | nil=>
         simp only[Yam,Ybf,Zf2];have hne:¬ (d::q).take (Z6 (Zk d) q)=c::r:=fun h=>by
          have:=congrArg List.length h;rw[Yaa]at this;omega
         rw[decide_eq_false hne,Yd2]
        | cons y x=>rfl
   exact key _ _ (by rw[Yak];omega)
section
variable{T:Tbl}[Zbo T]
theorem zo5(k a:Int)(t:List UInt8)(ht:t.length≤4000):Za T 173 [.agg [.i .i64 k,.s t,.i .i64 a]]=some (.b (Zaj k t)):=by
 have c:=zst (T:=T) t (by omega);rw[←zsu k t ht,zab Zbo.h173 rfl,b173];cases hr:Zjc t with
 | error e=>
  rw[hr]at c;simp only[Zgi]at c;have he:¬ (e:Int)<0:=by omega
  simp -implicitDefEqProofs[c,Zf2,he]
 | ok ws=>
  rw[hr]at c;simp only[Zgi]at c
  match ws with
  | []=>
   have e0:Zaa []=[]:=rfl;rw[e0]at c;simp -implicitDefEqProofs[c,Zf2]
  | [(k',t',a')]=>
   have e1:Zaa [(k',t',a')]=[[.i .i64 k',.s t',.i .i64 a']]:=rfl;rw[e1]at c;by_cases hk:(k':Int)=k
   ·by_cases htt:t'=t
    ·simp -implicitDefEqProofs[c,Zf2,hk,htt]
    ·simp -implicitDefEqProofs[c,Zf2,hk,htt]
   ·simp -implicitDefEqProofs[c,Zf2,hk]
  | w1::w2::r=>
   have hl:(Zaa (w1::w2::r)).length=r.length+2:=by simp
   have hne:¬ ((r.length:Int)+2=1):=by omega
   have hne':¬ (r.length+2=1):=by omega
   have g1:=zdq (w1::w2::r);have hone:Zf2 k t (.ok (w1::w2::r))=false:=rfl;rw[hone];generalize Zaa (w1::w2::r)=RW at *
   generalize r.length=m at *
   simp -implicitDefEqProofs[c,hl,hne,hne',g1]
end
theorem zjy{x:Fz}(h:Za6 x=true):x=fz (fv x):=by
 grind[Za6,Zbb]
theorem zz6{l:List Fz}(h:l.all Za6=true):l=fzs (l.map fv):=by
 unfold fzs
 conv=>lhs;rw[←List.map_id l]
 grind[List.map_congr_left,zjy]
theorem zz7(l:List Rat)(i:Nat)(h:i<l.length):sumF ((fzs l).take (i+1))=sumF ((fzs l).take i)+l[i]'h:=by
 have h':i<(fzs l).length:=by simp_all
 rw[zim (fzs l) h'];simp[fzs]
section
variable{T:Tbl}[Z4 T][Zai T][Z1 T][Zao T][Z2 T][Zar T][Zz T][Za9 T][Zfi T][Zdr T]
def Zho(l:List Fz)(i:Nat):St:=⟨[(0,.sl (Zd l) .an),(3,.i .i64 i)],[],2⟩
theorem zsv(l:List Fz)(hl:l.length≤1000)(hw:∀x∈l,fsz x≤10000) :
  Zj T 0 0 (.norm false []) l540_0 (Zho l 0)=if (l.drop 0).all Za6=true then some (.n,⟨[],[],2⟩) else some (.r,⟨[(2,.b true)],[],2⟩):=by
 refine zaq (Zho l) l.length (fun i=>if (l.drop i).all Za6=true then some (.n,⟨[],[],2⟩) else some (.r,⟨[(2,.b true)],[],2⟩)) (fun i hi=>?_) ?_
 ·have hi':(i:Int)<l.length:=by omega
  have hws:=zbv hi (by omega);have hx:=hw _ (Yr hi);have c1:=zck (T:=T) (l[i]'hi) hx;have c2:=zb6 (T:=T) (fz (fv (l[i]'hi))) (l[i]'hi) (by exact ze4 hx (by decide));have c3:=zsx (T:=T) (l[i]'hi) hx;have key:(l.drop i).all Za6=(Za6 (l[i]'hi)&&(l.drop (i+1)).all Za6):=by rw[Yj hi,Yb0]
  have hn:Za6 (l[i]'hi)=(Zbb (l[i]'hi)&&decide (Zdn (l[i]'hi)≤190)):=rfl;have hr:decide (fz (fv (l[i]'hi))=l[i]'hi)=Zbb (l[i]'hi):=by grind[Zbb]
  rw[hr]at c2;by_cases h1:Zbb (l[i]'hi)=true
  ·by_cases h2:Zdn (l[i]'hi)≤190
   ·left;refine⟨?_,by grind⟩;have h3:¬ (190:Int)<Zdn (l[i]'hi):=by omega
    unfold Zho;simp -implicitDefEqProofs[l540_0,hi,hi',hws,c1,c2,c3,h1,h3]
   ·right;have h3:(190:Int)<Zdn (l[i]'hi):=by omega
    rw[if_neg (by grind)];unfold Zho;constructor<;>simp -implicitDefEqProofs[l540_0,hi,hi',c1,c2,c3,h1,h3]
  ·right;have h1':Zbb (l[i]'hi)=false:=by grind
   rw[if_neg (by grind)];unfold Zho;constructor<;>simp -implicitDefEqProofs[l540_0,hi,hi',c1,c2,h1']
 ·simp only[Y5,Ydx,if_true];unfold Zho;constructor<;>simp -implicitDefEqProofs[l540_0]
theorem zft(l:List Fz)(hl:l.length≤1000)(hw:∀x∈l,fsz x≤10000):Za T 540 [.sl (Zd l) .an]=some (.b (!l.all Za6)):=by
 have h:=zsv (T:=T) l hl hw;unfold Zho at h;rw[zab Zdr.h540 rfl,b540];cases hn:l.all Za6 with
 | true=>simp_all
 | false=>simp_all
def Zjk(l:List Rat)(i:Nat):St:=⟨[(0,.sl (Zd (fzs l)) .an),(2,.ptr (.loc 2) 1 3 0 0),(3,.ptr (.loc 3) 2 3 0 0),(4,.i .i64 i)],
 [(.loc 2,⟨1,.str,3,[Zd9]⟩),(.loc 3,⟨2,.str,3,[Zbg (fz (sumF ((fzs l).take i)))]⟩)],4⟩
theorem zsw(l:List Rat){B:Nat}(hw:∀x∈l,sz x≤B)(hB:1≤B)(hS:l.length*(B+1)+1≤1000) :
  Zj T 0 0 (.norm false [2,3]) l541_0 (Zjk l 0)=some (.n,⟨[(2,.ptr (.loc 2) 1 3 0 0),(3,.ptr (.loc 3) 2 3 0 0)],[(.loc 2,⟨1,.str,3,[Zd9]⟩),(.loc 3,⟨2,.str,3,[Zbg (fz (sumF (fzs l)))]⟩)],4⟩):=by
 refine za2 (Zjk l) l.length _ (fun i hi=>?_) ?_
 ·have hlen:l.length*1≤1000:=Yc (Yx _ (show 1≤B+1 by omega)) (by omega);have hBB:B+1≤1000:=Yc (Yb4 _ (show 0<l.length by omega)) (by omega);have hi2:i<(fzs l).length:=by simp_all
  have hga:(fzs l)[i]? = some (fz (l[i]'hi)):=by simp[fzs,hi]
  have hi':(i:Int)<(fzs l).length:=by omega
  have hws:=zbv hi (by omega);have ha1:=hw _ (Yr hi);have hw':∀x∈fzs l,fsz x≤B:=by
   intro x hx;obtain⟨q,hq,rfl⟩:=Y6.1 hx;rw[za6];grind
  have s1:=zin hw' hB i (by omega);have s2:i*(B+1)≤l.length*(B+1):=Yu _ (by omega);have c2:=zgc (T:=T) (sumF ((fzs l).take i)) (l[i]'hi) (by omega) (by omega);rw[←zz7 l i hi]at c2;have hge:(fzs l)[i]'hi2=fz (l[i]'hi):=by grind
  unfold Zjk;generalize fzs l=L at *
  simp -implicitDefEqProofs[l541_0,hi',hi2,hge,hws,c2]
 ·unfold Zjk;rw[Yb (by simp_all)];constructor<;>simp -implicitDefEqProofs[l541_0]
theorem zwn(l:List Rat){B:Nat}(hw:∀x∈l,sz x≤B)(hB:1≤B)(hS:l.length*(B+1)+1≤1000) :
  Za T 541 [.sl (Zd (fzs l)) .an]=some (efz (fz (sumF (fzs l)))):=by
 have h0:=zee (T:=T);have h:=zsw (T:=T) l hw hB hS;unfold Zjk at h;have e0:sumF ((fzs l).take 0)=0:=rfl;rw[e0]at h;simp only[Yw]at h;rw[zab Zdr.h541 rfl,b541];simp -implicitDefEqProofs[h0,h]
theorem zeh(l:List Fz)(hl:l.length≤8)(hn:l.all Za6=true):Za T 541 [.sl (Zd l) .an]=some (efz (fz (sumF l))):=by
 have e:=zz6 hn;have c:=zwn (T:=T) (l.map fv) (B:=6) (fun q hq=>by
  obtain⟨x,hx,rfl⟩:=Y6.1 hq;exact ze4 (ze1 (Yf.1 hn x hx)) (by decide)) (by decide) (by grind)
 grind
end
end Go.Ab