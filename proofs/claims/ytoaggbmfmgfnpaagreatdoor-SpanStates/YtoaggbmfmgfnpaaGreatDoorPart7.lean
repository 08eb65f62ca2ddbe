/-
  A calculus of values, boxes and code, and what functions of the program compute, proved in it.
  Conditions: none beyond those that the theorems state. (Part 7: GpRef37b, GpRef14, GpRef14m, GpRef41, GpLaw41, GcLaw41e, GpLaw41b, GpSpan4, GpSpan5, GpSpan6, GpRef41s, GpSpan7, GpLaw41s, GpLaw41t, GpLaw41u.)
-/
import Derived.Test.YtoaggbmfmgfnpaaGreatDoorPart6

set_option linter.unusedSectionVars false
set_option linter.unusedVariables false
set_option linter.unusedSimpArgs false
set_option linter.unnecessarySimpa false

section
namespace Go.Ab
def rrB(r:Tr):Bool:=Zg r.nums&&Zg r.y
def w2H(n:Nat)(l:List Tr):Int:=if (l.all fun r=>decide (r.y.length=n))=true then 0 else 2
theorem z3x(n:Nat)(l:List Tr)(r:Tr):w2H n (l++[r])=if r.y.length=n then w2H n l else 2:=by
 grind[w2H]
def chK(h:Hs)(j:Nat):Bool:=match h.l[j]? with | some r=>Zf9 r (Zc6 (h.l.drop (j+1)) h.t h.y).1 (Zc6 (h.l.drop (j+1)) h.t h.y).2 | none=>true
def w5H(h:Hs)(i:Nat):Int:=if (List.range i).all (chK h)=true then 0 else 5
theorem z3y(h:Hs)(i:Nat):w5H h (i+1)=if chK h i=true then w5H h i else 5:=by
 grind[w5H]
theorem z7t(h:Hs):w5H h h.l.length=if Ze9 h=true then 0 else 5:=by
 unfold w5H Ze9;have e:(List.range h.l.length).all (chK h)=true↔Zct h.l h.t h.y=true:=by
  rw[zpu,Ym];constructor
  ·intro H i r hi;have h1:=H i (List.mem_range.2 (Yd.1 hi).1)
   grind[chK]
  grind[chK]
 grind
section
variable{T:Tbl}[Z0 T][Z7 T][Zy T][Zaa T][Zz T][Zab T][Zk T][Zac T][Zcw T][Za5 T][Zcs T]
theorem zvk(r:Tr):Za T 516 [.agg (Ziw r)]=some (.sl (Zc r.nums) .an):=by
 have e:Zc r.nums=[Z1 r.t,Z1 r.w,Z1 r.h,Z1 r.e]:=rfl;rw[zaa Za5.h516 rfl,b516,e];simp -implicitDefEqProofs[]
def Zjw(h:Hs)(w:Int)(i:Nat):St:=⟨[(1,.ptr (.loc 1) 1 5 0 0),(3,.i .i64 w),(4,.i .i64 i)],[(.loc 1,bxH h)],3⟩
theorem z7u(h:Hs)(hs:HsS h 1000):Ze T 0 0 (.norm false [1,3]) l571_0 (Zjw h 0 0)=if h.l.all rrB=true then some (.n,⟨[(1,.ptr (.loc 1) 1 5 0 0),(3,.i .i64 (w2H h.y.length h.l))],[(.loc 1,bxH h)],3⟩) else some (.r,⟨[(2,.i .i64 1)],[],2⟩):=by
 have hlen:=hs.len;have key:=zak (T:=T) (k:=0) (id:=0) (g2:=.norm false [1,3]) (c:=l571_0) (fun i=>Zjw h (w2H h.y.length (h.l.take i)) i) h.l.length
  (fun i=>if (h.l.drop i).all rrB=true then some (.n,⟨[(1,.ptr (.loc 1) 1 5 0 0),(3,.i .i64 (w2H h.y.length h.l))],[(.loc 1,bxH h)],3⟩) else some (.r,⟨[(2,.i .i64 1)],[],2⟩)) (fun i hi=>?_) ?_
 ·exact key
 ·have hi':(i:Int)<h.l.length:=by omega
  have hws:=zaz hi (by omega);have hm:=Yi hi;have key:(h.l.drop i).all rrB=(rrB (h.l[i]'hi)&&(h.l.drop (i+1)).all rrB):=by rw[Ye hi,Yam]
  have hw2:w2H h.y.length (h.l.take (i+1))=if (h.l[i]'hi).y.length=h.y.length then w2H h.y.length (h.l.take i) else 2:=by
   rw[Yz hi,z3x]
  have c1:=zgy (T:=T) (h.l[i]'hi).y (hs.rl _ hm) (hs.ry _ hm);have c2:=zvk (T:=T) (h.l[i]'hi);have c3:=zgy (T:=T) (h.l[i]'hi).nums (by simp[Tr.nums]) (hs.rt _ hm);have hr:rrB (h.l[i]'hi)=(Zg (h.l[i]'hi).nums&&Zg (h.l[i]'hi).y):=rfl;rw[hw2];generalize hq:h.l[i]'hi=q at *
  generalize Zg q.y=R1 at *
  generalize Zg q.nums=R2 at *
  obtain⟨L,t,y⟩:=h;obtain⟨q1,q2,q3,q4,q5,q6⟩:=q;cases R1 with
  | false=>
   right;rw[if_neg (by grind)];unfold Zjw bxH;constructor<;>simp -implicitDefEqProofs[l571_0,hi,hi',hq,c1]
  | true=>
  cases R2 with
  | false=>
   right;rw[if_neg (by grind)];unfold Zjw bxH;constructor<;>simp -implicitDefEqProofs[l571_0,hi,hi',hq,c1,c2,c3]
  | true=>
  left;by_cases he:q5.length=y.length
  ·refine⟨?_,by grind⟩;unfold Zjw bxH;simp -implicitDefEqProofs[l571_0,hi,hi',hq,hws,c1,c2,c3,he]
  ·have he':¬ (q5.length:Int)=y.length:=by omega
   refine⟨?_,by grind⟩;rw[if_neg he];unfold Zjw bxH;simp -implicitDefEqProofs[l571_0,hi,hi',hq,hws,c1,c2,c3,he']
 ·simp only[Yp,Ybk,if_true];rw[Yb (Yg _)];generalize w2H h.y.length h.l=wE at *
  unfold Zjw bxH;constructor<;>simp -implicitDefEqProofs[l571_0]
def Zik(h:Hs)(w:Int)(i:Nat):St:=⟨[(1,.ptr (.loc 1) 1 5 0 0),(3,.i .i64 w),(5,.i .i64 i)],[(.loc 1,bxH h)],3⟩
def Zke:Ex×St:=(.r,⟨[(2,.i .i64 4)],[],2⟩)
theorem zach(h:Hs)(w:Int)(i:Nat)(q:Tr)(hg:h.l[i]? = some q)(hl:h.l.length≤1000)(g1 g2 g3 g4:Int)
  (c1:Za T 236 [efz q.w]=some (.i .i64 g1)) (c2:Za T 236 [efz q.h]=some (.i .i64 g2)) (c3:Za T 243 [efz q.h,efz q.w]=some (.i .i64 g3)) (c4:Za T 236 [efz q.e]=some (.i .i64 g4))
  (hb:g1≤0∨g2≤0∨0<g3∨g4<0) :
  Zd4 (evX (orc T) T 0 l571_1 (Zik h w i))=true∧Zdg 0 2 (.norm false [3]) (evX (orc T) T 0 l571_1 (Zik h w i))=some Zke:=by
 obtain⟨hi,hge⟩:=Yd.1 hg;have hi':(i:Int)<h.l.length:=by omega
 obtain⟨q1,⟨w1,w2,w3⟩,⟨h1,h2,h3⟩,⟨e1,e2,e3⟩,q5,q6⟩:=q;unfold Zik bxH Zke;by_cases b1:g1≤0
 ·constructor<;>simp -implicitDefEqProofs[l571_1,hi,hi',hge,c1,b1]
 by_cases b2:g2≤0
 ·constructor<;>simp -implicitDefEqProofs[l571_1,hi,hi',hge,c1,c2,b1,b2]
 by_cases b3:0<g3
 ·constructor<;>simp -implicitDefEqProofs[l571_1,hi,hi',hge,c1,c2,c3,b1,b2,b3]
 have b4:g4<0:=by omega
 constructor<;>simp -implicitDefEqProofs[l571_1,hi,hi',hge,c1,c2,c3,c4,b1,b2,b3,b4]
theorem z7v(h:Hs)(w:Int)(i:Nat)(q:Tr)(hg:h.l[i]? = some q)(hl:h.l.length≤1000)(g1 g2 g3 g4:Int)(z nt:Fz)(ny:List Fz)(S1 S2 S3:Bool)(hn:Zc6 (h.l.drop (i+1)) h.t h.y=(nt,ny))
  (c1:Za T 236 [efz q.w]=some (.i .i64 g1)) (c2:Za T 236 [efz q.h]=some (.i .i64 g2)) (c3:Za T 243 [efz q.h,efz q.w]=some (.i .i64 g3)) (c4:Za T 236 [efz q.e]=some (.i .i64 g4))
  (b1:¬ g1≤0) (b2:¬ g2≤0) (b3:¬ 0<g3) (b4:¬ g4<0)
  (c5:Za T 239 [efz q.t,efz q.h]=some (efz z)) (c6:Za T 233 [efz nt,efz z]=some (.b S1)) (c7:Za T 233 [efz nt,efz q.t]=some (.b S2)) (c8:Za T 279 [.sl (Zc ny) .an,.sl (Zc q.y) .an]=some (.b S3)) :
  evX (orc T) T 0 l571_1 (Zik h w i)=some (.n,Zik h (if (if q.ok then S1 else S2&&S3)=true then w else 5) (i+1)):=by
 obtain⟨hi,hge⟩:=Yd.1 hg;have hi':(i:Int)<h.l.length:=by omega
 have hws:=zaz hi (by omega);by_cases hk:i+1<h.l.length
 ·have hk':(i:Int)+1<h.l.length:=by omega
  have en:Zc6 (h.l.drop (i+1)) h.t h.y=((h.l[i+1]'hk).t,(h.l[i+1]'hk).y):=by rw[Ye hk];rfl
  rw[en]at hn;generalize hq2:h.l[i+1]'hk=p at *
  obtain⟨rfl,rfl⟩:=Prod.mk.inj hn;have hci:((i:Int)+1).toNat=i+1:=by omega
  obtain⟨⟨a1,a2,a3⟩,⟨w1,w2,w3⟩,⟨h1,h2,h3⟩,⟨e1,e2,e3⟩,q5,q6⟩:=q;unfold Zik bxH;cases q6 with
  | true=>cases S1<;>simp -implicitDefEqProofs[l571_1,hi,hi',hge,hq2,hk,hk',hws,hci,c1,c2,c3,c4,b1,b2,b3,b4,c5,c6]
  | false=>cases S2<;>cases S3<;>simp -implicitDefEqProofs[l571_1,hi,hi',hge,hq2,hk,hk',hws,hci,c1,c2,c3,c4,b1,b2,b3,b4,c7,c8]
 ·have hk':¬ (i:Int)+1<h.l.length:=by omega
  have en:Zc6 (h.l.drop (i+1)) h.t h.y=(h.t,h.y):=by rw[Yb0 (by omega)];rfl
  rw[en]at hn;obtain⟨rfl,rfl⟩:=Prod.mk.inj hn;obtain⟨⟨a1,a2,a3⟩,⟨w1,w2,w3⟩,⟨h1,h2,h3⟩,⟨e1,e2,e3⟩,q5,q6⟩:=q;unfold Zik bxH;cases q6 with
  | true=>cases S1<;>simp -implicitDefEqProofs[l571_1,hi,hi',hge,hk',hws,c1,c2,c3,c4,b1,b2,b3,b4,c5,c6]
  | false=>cases S2<;>cases S3<;>simp -implicitDefEqProofs[l571_1,hi,hi',hge,hk',hws,c1,c2,c3,c4,b1,b2,b3,b4,c7,c8]
theorem zcd{l:List Fz}(h:Zg l=true){x:Fz}(hx:x∈l):fz (fv x)=x:=by
 have:=Ym.1 h x hx
 grind[Zae]
theorem zvl{a b:List Fz}(ha:Zg a=true)(hb:Zg b=true):a=b↔a.map fv=b.map fv:=by
 refine⟨fun h=>by rw[h],fun h=>?_⟩;have e:∀{l:List Fz},Zg l=true→(l.map fv).map fz=l:=by
  intro l hl
  conv=>rhs;rw[←List.map_id l]
  grind[List.map_congr_left,zcd]
 grind
theorem z7w{h:Hs}{B:Nat}(hs:HsS h B)(hp:Zc5 h=true)(i:Nat){nt:Fz}{ny:List Fz}(hn:Zc6 (h.l.drop (i+1)) h.t h.y=(nt,ny)) :
  fz (fv nt)=nt∧Zg ny=true∧fsz nt≤B∧(∀x∈ny,fsz x≤B)∧ny.length≤1000:=by
 unfold Zc5 at hp;simp only[Yh]at hp;obtain⟨h1,h2,h3⟩:=hp;by_cases hk:i+1<h.l.length
 ·rw[Ye hk]at hn;obtain⟨rfl,rfl⟩:=Prod.mk.inj hn;have hm:=Yi hk;have h4:=Ym.1 h1 _ hm;simp only[Yh]at h4;exact⟨zcd h4.1 (by simp[Tr.nums]),h4.2,hs.rt _ hm _ (by simp[Tr.nums]),hs.ry _ hm,hs.rl _ hm⟩
 ·rw[Yb0 (by omega)]at hn;obtain⟨rfl,rfl⟩:=Prod.mk.inj hn;exact⟨(of_decide_eq_true h2).symm,h3,hs.t,hs.y,hs.yl⟩
theorem z7x(h:Hs)(hs:HsS h 400)(hp:Zc5 h=true):Ze T 0 2 (.norm false [3]) l571_1 (Zik h 0 0)=if Zfu h=true then some (.n,⟨[(3,.i .i64 (w5H h h.l.length))],[],2⟩) else some Zke:=by
 have hlen:=hs.len;have key:=zak (T:=T) (k:=0) (id:=2) (g2:=.norm false [3]) (c:=l571_1) (fun i=>Zik h (w5H h i) i) h.l.length
  (fun i=>if (h.l.drop i).all Zcx=true then some (.n,⟨[(3,.i .i64 (w5H h h.l.length))],[],2⟩) else some Zke) (fun i hi=>?_) ?_
 ·exact key
 ·have hga:h.l[i]? = some (h.l[i]'hi):=Ya hi;have hm:=Yi hi;have key:(h.l.drop i).all Zcx=(Zcx (h.l[i]'hi)&&(h.l.drop (i+1)).all Zcx):=by rw[Ye hi,Yam]
  have hp1:=hp;unfold Zc5 at hp1;simp only[Yh]at hp1;have hp2:=Ym.1 hp1.1 _ hm;simp only[Yh]at hp2;have hck:chK h i=Zf9 (h.l[i]'hi) (Zc6 (h.l.drop (i+1)) h.t h.y).1 (Zc6 (h.l.drop (i+1)) h.t h.y).2:=by unfold chK;grind
  have hr:=hs.rt _ hm;generalize hq:h.l[i]'hi=q at *
  obtain⟨nt,ny,hn⟩:∃nt ny,Zc6 (h.l.drop (i+1)) h.t h.y=(nt,ny):=⟨_,_,rfl⟩;obtain⟨n1,n2,n3,n4,n5⟩:=z7w hs hp i hn;have et:=zcd hp2.1 (x:=q.t) (by simp[Tr.nums]);have ew:=zcd hp2.1 (x:=q.w) (by simp[Tr.nums]);have eh:=zcd hp2.1 (x:=q.h) (by simp[Tr.nums]);have ee:=zcd hp2.1 (x:=q.e) (by simp[Tr.nums]);have st:=za4 (hr q.t (by simp[Tr.nums])) (by decide);have sw:=za4 (hr q.w (by simp[Tr.nums])) (by decide);have sh:=za4 (hr q.h (by simp[Tr.nums])) (by decide);have c1:=zsv (T:=T) (fv q.w);have c2:=zsv (T:=T) (fv q.h);have c3:=zhm (T:=T) (fv q.h) (fv q.w) (by omega) (by omega);have c4:=zsv (T:=T) (fv q.e);have c5:=zb2 (T:=T) (fv q.t) (fv q.h) (by omega) (by omega);have c6:=za8 (T:=T) nt (fz (fv q.t+fv q.h)) (by omega);have c7:=za8 (T:=T) nt q.t (by omega);have c8:=zcc (T:=T) ny q.y n5 (fun x hx=>Yc (n4 x hx) (by decide));rw[ew]at c1 c3;rw[eh]at c2 c3 c5;rw[ee]at c4;rw[et]at c5;have d6:decide (nt=fz (fv q.t+fv q.h))=decide (fv nt=fv q.t+fv q.h):=by
   grind[za7]
  have d7:decide (nt=q.t)=decide (fv nt=fv q.t):=by
   grind
  have d8:decide (ny=q.y)=decide (ny.map fv=q.y.map fv):=by
   grind[zvl]
  rw[d6]at c6;rw[d7]at c7;rw[d8]at c8;have e1:(0<fv q.w)↔¬ sgQ (fv q.w)≤0:=by rw[←zdi];omega
  have e2:(0<fv q.h)↔¬ sgQ (fv q.h)≤0:=by rw[←zdi];omega
  have e3:(fv q.h≤fv q.w)↔¬ 0<sgQ (fv q.h-fv q.w):=by rw[zdi];grind
  have e4:(0≤fv q.e)↔¬ sgQ (fv q.e)<0:=by rw[zrh];grind
  by_cases hz:Zcx q=true
  ·left;unfold Zcx at hz;simp only[Yh,decide_eq_true_eq,e1,e2,e3,e4]at hz;obtain⟨⟨⟨b1,b2⟩,b3⟩,b4⟩:=hz;have e:=z7v (T:=T) h (w5H h i) i q hga hlen _ _ _ _ _ nt ny _ _ _ hn c1 c2 c3 c4 b1 b2 b3 b4 c5 c6 c7 c8;refine⟨?_,?_⟩
   ·rw[e,z3y,hck,hn]
    rfl
   grind[Zcx]
  ·right;have hz':Zcx q=false:=(Yb5 _).mp hz;simp only[key,hz',Yev,Y2,if_false];refine zach (T:=T) h (w5H h i) i q hga hlen _ _ _ _ c1 c2 c3 c4 ?_
   grind[Zcx]
 ·simp only[Yp,Ybk,if_true];unfold Zik bxH;constructor<;>simp -implicitDefEqProofs[l571_1]
theorem zra(h:Hs)(hs:HsS h 400):Za T 571 [ehs h]=some (.i .i64 (Zd9 h)):=by
 have hs2:HsS h 1000:=hs.mono (by decide);have k1:=zgy (T:=T) h.y hs2.yl hs2.y;have k2:=zgy (T:=T) [h.t] (by simp) (fun x hx=>by rw[Ybe.1 hx];exact hs2.t);have h1:=z7u (T:=T) h hs2;have h2:=fun hp=>z7x (T:=T) h hs hp;have k3:Zg [h.t]=Zae h.t:=by simp[Zg]
 rw[k3]at k2;unfold Zd9;have ep:Zc5 h=(h.l.all rrB&&(Zae h.t&&Zg h.y)):=rfl;by_cases hp:Zc5 h=true
 ·have h2':=h2 hp;have hpp:=hp;rw[ep]at hpp;simp only[Yh]at hpp;obtain⟨p1,p2,p3⟩:=hpp;rw[p1]at h1;rw[p2]at k2;rw[p3]at k1;rw[hp,z7t]at *
  have el:Zhj h=((h.l.all fun r=>decide (r.y.length=h.y.length))&&(decide (1≤h.y.length)&&decide (h.y.length≤6))):=rfl;unfold Zjw bxH at h1;unfold Zik bxH Zke at h2';unfold w2H at h1;simp only[Yl,if_true]at h1 h2';rw[el];generalize (h.l.all fun r=>decide (r.y.length=h.y.length))=A at *
  generalize Zfu h=Sz at *
  generalize Ze9 h=Ch at *
  obtain⟨L,⟨t1,t2,t3⟩,y⟩:=h;replace k2:Za T 578 [.sl [[.b t1,.sl (Zb t2) .an,.sl (Zb t3) .an]] .an]=_:=k2;rw[zaa Zcs.h571 rfl,b571];cases A with
  | false=>
   simp -implicitDefEqProofs[k1,k2,h1]
  | true=>
  by_cases h6:1≤y.length
  rotate_left
  ·have h7:y=[]:=Ya1.1 (by omega);subst h7;simp only[zau]at k1 h1;simp -implicitDefEqProofs[k1,k2,h1]
  have h6':¬ (y.length:Int)<1:=by omega
  by_cases h7:y.length≤6
  rotate_left
  ·have h7':(6:Int)<y.length:=by omega
   simp -implicitDefEqProofs[k1,k2,h1,h6,h6',h7,h7']
  have h7':¬ (6:Int)<y.length:=by omega
  by_cases h8:200<L.length
  ·have h8':(200:Int)<L.length:=by omega
   simp -implicitDefEqProofs[k1,k2,h1,h6,h6',h7,h7',h8,h8']
  have h8':¬ (200:Int)<L.length:=by omega
  cases Sz with
  | false=>
   simp -implicitDefEqProofs[k1,k2,h1,h6,h6',h7,h7',h8,h8',h2']
  | true=>
  cases Ch<;>simp -implicitDefEqProofs[k1,k2,h1,h6,h6',h7,h7',h8,h8',h2']
 ·have hp':Zc5 h=false:=(Yb5 _).mp hp;rw[hp'];rw[ep]at hp';unfold Zjw bxH at h1;simp only[Yl]at h1;generalize h.l.all rrB=A at *
  generalize Zae h.t=B at *
  generalize Zg h.y=C at *
  obtain⟨L,⟨t1,t2,t3⟩,y⟩:=h;replace k2:Za T 578 [.sl [[.b t1,.sl (Zb t2) .an,.sl (Zb t3) .an]] .an]=_:=k2;rw[zaa Zcs.h571 rfl,b571];cases C with
  | false=>simp -implicitDefEqProofs[k1]
  | true=>
  cases B with
  | false=>simp -implicitDefEqProofs[k1,k2]
  | true=>
  have hA:A=false:=by grind
  subst hA;simp -implicitDefEqProofs[k1,k2,h1]
end
end Go.Ab
end
section
namespace Go.Ab
def Zc3(x:Rat):Nat→Rat
 | 0=>1
 | n+1=>Zc3 x n*x
def Zdt(l:List Rat)(x:Rat):Nat→Rat
 | 0=>0
 | n+1=>Zdt l x n+l.getD n 0*Zc3 x n
theorem zq3{x:Rat}{C:Nat}(hx:sz x≤C):∀n,sz (Zc3 x n)≤1+n*C
 | 0=>by simp[Zc3,zke]
 | n+1=>by
  have h1:=zq3 hx n
  grind[zct,Zc3]
theorem zzj{l:List Rat}{x:Rat}{B C N:Nat}(hx:sz x≤C)(hl:∀q∈l,sz q≤B):∀n,n≤l.length→n≤N→sz (Zdt l x n)≤1+n*(B+N*C+2)
 | 0,_,_=>by simp[Zdt,zeq]
 | n+1,h,hN=>by
  have h1:=zzj (N:=N) hx hl n (by omega) (by omega);have h2:=zq3 hx n;have h4:=zct (l.getD n 0) (Zc3 x n);have h5:=zfz (Zdt l x n) (l.getD n 0*Zc3 x n);have h6:n*C≤N*C:=Yt _ (by omega)
  grind[Zdt]
theorem zjt(x:Rat):∀(l:List Rat),Zir l x=Zdt l x l.length:=by
 have shift:∀(a:Rat) (l:List Rat) (n:Nat),Zdt (a::l) x (n+1)=a+Zdt l x n*x:=by
  intro a l n
  induction n with
  | zero=>grind[Zdt,Zc3]
  | succ n ih=>
   grind[Zdt,Zc3]
 intro l
 induction l with
 | nil=>rfl
 | cons a l ih=>rw[Zir,ih,Yn,shift,Rat.add_comm]
section
variable{T:Tbl}[Zs T][Z2 T][Z4 T][Zu T][Zw T][Za0 T][Zf T][Zl T][Zp T][Zaz T][Zbr T][Z0 T][Z7 T][Zy T][Zaa T][Zz T][Zab T][Zk T][Za9 T]
theorem zu8(q:Rat):Za T 235 [efz (fz q)]=some (.b (decide (q=0))):=by
 have h:((fz q).2.1.length=0)↔q=0:=by
  constructor
  ·intro h;have h1:(ofN q.num.natAbs).length=0:=h;have h2:val (ofN q.num.natAbs)=0:=by simp_all
   rw[zae]at h2
   simp_all
  ·intro h;rw[h,zkd]
   rfl
 rw[zaa Zk.h235 rfl,b235];by_cases hz:q=0
 ·have h1:=h.2 hz;rw[decide_eq_true hz];simp -implicitDefEqProofs[h1]
 ·have h1:¬ (fz q).2.1.length=0:=fun x=>hz (h.1 x);rw[decide_eq_false hz];simp -implicitDefEqProofs[h1]
theorem zsr(l:List Rat)(i:Nat)(hl:l.length≤1000):Za T 355 [.sl (Zc (fzs l)) .an,.i .i64 i]=some (efz (fz (l.getD i 0))):=by
 have c:=zc3 (T:=T);have hlf:(fzs l).length=l.length:=zal l;rw[zaa Za9.h355 rfl,b355];by_cases hi:i<l.length
 ·have hg:(fzs l)[i]? = some (fz (l[i]'hi)):=zdg (Ya hi);obtain⟨_,hgE⟩:=Yd.1 hg;have e:l.getD i 0=l[i]'hi:=by grind
  have h1:i<(fzs l).length:=by omega
  have h2:(i:Int)<(fzs l).length:=by omega
  rw[e];generalize fzs l=M at *
  simp -implicitDefEqProofs[h1,h2,hgE]
 ·have e:l.getD i 0=0:=by grind
  have h2:¬ (i:Int)<(fzs l).length:=by omega
  rw[e];generalize fzs l=M at *
  simp -implicitDefEqProofs[h2,c]
theorem zu9(l:List Rat)(hl:l.length≤1000):∀n:Nat,n≤l.length →
  Ze T 0 0 (.norm false [0,3]) l349_0 ⟨[(0,.sl (Zc (fzs l)) .an),(3,.i .i64 n)],[],2⟩=some (.n,⟨[(0,.sl (Zc (fzs l)) .an),(3,.i .i64 (Zgh l n))],[],2⟩):=by
 refine zav (fun n:Nat=>⟨[(0,.sl (Zc (fzs l)) .an),(3,.i .i64 n)],[],2⟩) (fun n=>n≤l.length) (fun n=>n) (fun n=>some (.n,⟨[(0,.sl (Zc (fzs l)) .an),(3,.i .i64 (Zgh l n))],[],2⟩)) ?_;intro n hn;cases n with
 | zero=>
  right;constructor<;>simp -implicitDefEqProofs[l349_0,Zgh]
 | succ n=>
  have hi:n<l.length:=hn;have hil:n<(fzs l).length:=by simp_all
  have hil':(n:Int)<(fzs l).length:=by omega
  have hg:(fzs l)[n]? = some (fz (l[n]'hi)):=zdg (Ya hi);obtain⟨_,hgE⟩:=Yd.1 hg;have c:=zu8 (T:=T) (l[n]'hi);have hd:l.getD n 0=l[n]'hi:=by grind
  have hp:(0:Int)<(n:Int)+1:=by omega
  have hw:IntKind.wrap .i64 (n:Int)=n:=zac _ (by omega);by_cases hz:l[n]'hi=0
  ·left;rw[decide_eq_true hz]at c;refine⟨n,by omega,by simp,?_,by grind[Zgh]⟩;generalize fzs l=M at *
   simp -implicitDefEqProofs[l349_0,hp,hw,hil,hil',hgE,c]
  ·right;rw[decide_eq_false hz]at c;have ht:Zgh l (n+1)=n+1:=by grind[Zgh]
   rw[ht];generalize fzs l=M at *
   constructor<;>simp -implicitDefEqProofs[l349_0,hp,hw,hil,hil',hgE,c]
theorem zd3(l:List Rat)(hl:l.length≤1000):Za T 349 [.sl (Zc (fzs l)) .an]=some (.sl (Zc (fzs (Zbh l))) .an):=by
 have h:=zu9 (T:=T) l hl l.length (Yg _);have ht:=zy6 l l.length;have ef:fzs (Zbh l)=(fzs l).take (Zgh l l.length):=by simp[Zbh,fzs,List.map_take]
 have hL:(fzs l).length=l.length:=by simp
 rw[ef,zaa Za9.h349 rfl,b349];generalize Zgh l l.length=t at *
 generalize fzs l=M at *
 have ht1:t≤M.length:=by omega
 have ht':(t:Int)≤M.length:=by omega
 rw[←hL]at h;have hh:=zor M;have hh2:=zor (M.take t);have hm:min t M.length=t:=Ybg ht1;have hb:t≤4294967296:=by omega
 have htt:List.take t (List.take t M)=List.take t M:=by grind
 simp -implicitDefEqProofs[h,ht',hh,hh2,hm,hb,htt]
def Zmj(l:List Fz)(i:Nat):St:=⟨[(0,.sl (Zc l) .an),(3,.bs (.loc 3) 1 3 0 i),(4,.i .i64 ((i:Int)+1))],[((.loc 3),⟨1,.own,3,Zc (fzs ((dif (l.map fv)).take i))⟩)],3⟩
theorem zva(l:List Fz)(h0:l≠[])(hl:l.length≤90)(hw:∀y∈l,fsz y≤900) :
  Ze T 0 0 (.norm false [3]) l340_0 (Zmj l 0)=some (.n,⟨[(3,.bs (.loc 3) 1 3 0 (l.length-1))],[((.loc 3),⟨1,.own,3,Zc (fzs (dif (l.map fv)))⟩)],3⟩):=by
 have hpos:0<l.length:=Ybm.2 h0;refine zai (Zmj l) (l.length-1) _ (fun i hi=>?_) ?_
 ·have hil:i+1<l.length:=by omega
  have hg:l[i+1]? = some (l[i+1]'hil):=Ya hil;obtain⟨k,hk⟩:∃k:Int,k=(i:Int)+1:=⟨_,rfl⟩;have c1:=zjq (T:=T) k (by omega) (by omega);have z1:sz (k:Rat)≤1:=zos (by omega) (by omega);have c2:=zo3 (T:=T) (fz (k:Rat)) (l[i+1]'hil) (by rw[zar];omega) (by grind);rw[za7]at c2;have ed:(dif (l.map fv)).take (i+1)=(dif (l.map fv)).take i++[(k:Rat)*fv (l[i+1]'hil)]:=by
   have hd:i<(dif (l.map fv)).length:=by simp[dif];omega
   rw[Yz hd];simp only[dif,List.getElem_map,List.getElem_range,Ybc,Yca,hg,Ycr,Option.getD_some,hk]
  have ef:fzs ((dif (l.map fv)).take (i+1))=fzs ((dif (l.map fv)).take i)++[fz ((k:Rat)*fv (l[i+1]'hil))]:=by rw[ed];simp[fzs]
  have hml:(fzs ((dif (l.map fv)).take i)).length=i:=by simp[dif];omega
  have hws:IntKind.wrap .i64 (k+1)=k+1:=zac _ (by omega);have hb:i≤4294967295:=by omega
  have hp:=zba hml (fz ((k:Rat)*fv (l[i+1]'hil)));have hn0:(0:Int)≤k:=by omega
  have hnat:k.toNat=i+1:=by omega
  have hkl:k<l.length:=by omega
  have hk2:((i+1:Nat):Int)+1=k+1:=by omega
  unfold Zmj;rw[ef,hk2,←hk];simp -implicitDefEqProofs[l340_0,hil,c1,c2,hml,hws,hb,hp,hn0,hnat,hkl]
 ·have e:(dif (l.map fv)).take (l.length-1)=dif (l.map fv):=Yb (by simp[dif]);have hk:((l.length-1:Nat):Int)+1=l.length:=by omega
  unfold Zmj;rw[e,hk];generalize fzs (dif (l.map fv))=M at *
  constructor<;>simp -implicitDefEqProofs[l340_0]
theorem zvb(l:List Fz)(hl:l.length≤90)(hw:∀y∈l,fsz y≤800):Za T 340 [.sl (Zc l) .an]=some (.sl (Zc (fzs (Zbh (dif (l.map fv))))) .an):=by
 rw[zaa Za9.h340 rfl,b340];by_cases h0:l=[]
 ·subst h0;have c:=zd3 (T:=T) [] (by decide);have e2:Zbh (dif (List.map fv []))=[]:=rfl;have e3:Zbh []=[]:=rfl;rw[e3]at c;rw[e2];simp only[zau,fzs,Ybz]at c;have h1:Ze T 0 0 (.norm false [3]) l340_0 ⟨[(0,.sl [] .an),(3,.bs (.loc 3) 1 3 0 0),(4,.i .i64 1)],[((.loc 3),⟨1,.own,3,[]⟩)],3⟩=some (.n,⟨[(3,.bs (.loc 3) 1 3 0 0)],[((.loc 3),⟨1,.own,3,[]⟩)],3⟩):=by
   refine zai (fun _=>⟨[(0,.sl [] .an),(3,.bs (.loc 3) 1 3 0 0),(4,.i .i64 1)],[((.loc 3),⟨1,.own,3,[]⟩)],3⟩) 0 _ (fun i hi=>by omega) ?_;constructor<;>simp -implicitDefEqProofs[l340_0]
  simp only[zau,fzs,Ybz];simp -implicitDefEqProofs[c,h1]
 ·have h:=zva (T:=T) l h0 hl (fun y hy=>Yc (hw y hy) (by decide));have c:=zd3 (T:=T) (dif (l.map fv)) (by rw[zhi];grind);have hL:(fzs (dif (l.map fv))).length=l.length-1:=by rw[zal,zhi,Yaw]
  have ht:List.take (l.length-1) (fzs (dif (l.map fv)))=fzs (dif (l.map fv)):=Yb (by omega);have hle:l.length≤(fzs (dif (l.map fv))).length+1:=by omega
  unfold Zmj at h;rw[Ya4]at h;have e0:fzs []=[]:=rfl;rw[e0]at h;simp only[zau,Yl,Int.zero_add]at h;generalize fzs (dif (l.map fv))=M at *
  simp -implicitDefEqProofs[c,h,ht,hle]
def Zmk(l:List Rat)(x:Rat)(i:Nat):St:=⟨[(0,.sl (Zc (fzs l)) .an),(3,.ptr (.loc 3) 1 3 0 0),(4,.ptr (.loc 4) 2 3 0 0),(5,.ptr (.loc 5) 3 3 0 0),(6,.ptr (.loc 6) 4 3 0 0),(7,.i .i64 i)],
 [(.loc 3,⟨1,.str,3,[Z1 (fz x)]⟩),(.loc 4,⟨2,.str,3,[Zdi]⟩),(.loc 5,⟨3,.str,3,[Z1 (fz (Zdt l x i))]⟩),(.loc 6,⟨4,.str,3,[Z1 (fz (Zc3 x i))]⟩)],6⟩
theorem zvc(l:List Rat)(x:Rat){B C:Nat}(hl:l.length≤1000)(hx:sz x≤C)(hw:∀q∈l,sz q≤B)(hS:1+l.length*(B+l.length*C+2)≤1000) :
  Ze T 0 0 (.norm false [4,5]) l341_0 (Zmk l x 0)=some (.n,⟨[(4,.ptr (.loc 4) 1 3 0 0),(5,.ptr (.loc 5) 2 3 0 0)],[(.loc 4,⟨1,.str,3,[Zdi]⟩),(.loc 5,⟨2,.str,3,[Z1 (fz (Zdt l x l.length))]⟩)],4⟩):=by
 refine zai (Zmk l x) l.length _ (fun i hi=>?_) ?_
 ·have hg:(fzs l)[i]? = some (fz (l[i]'hi)):=zdg (Ya hi);obtain⟨_,hgE⟩:=Yd.1 hg;have hws:=zaz hi (by omega);have z1:=zq3 hx i;have z2:=zzj (N:=l.length) hx hw i (by omega) (by omega);have z3:=hw _ (Yi hi);have m1:i*(B+l.length*C+2)+(B+l.length*C+2)≤l.length*(B+l.length*C+2):=by
   rw[←Ycf];exact Yt _ hi
  have m2:i*C+C≤l.length*C:=by
   rw[←Ycf];exact Yt _ hi
  have z4:=zct (l[i]'hi) (Zc3 x i);have c1:=zd2 (T:=T) (l[i]'hi) (Zc3 x i) (by omega) (by omega);have c2:=zb2 (T:=T) (Zdt l x i) (l[i]'hi*Zc3 x i) (by omega) (by omega);have c3:=zd2 (T:=T) (Zc3 x i) x (by omega) (by omega);have hd:l.getD i 0=l[i]'hi:=by grind
  have e1:Zdt l x (i+1)=Zdt l x i+l[i]'hi*Zc3 x i:=by rw[Zdt,hd]
  have e2:Zc3 x (i+1)=Zc3 x i*x:=rfl;unfold Zmk;rw[e1,e2];simp -implicitDefEqProofs[l341_0,hi,hgE,hws,c1,c2,c3]
 ·unfold Zmk;generalize fz (Zdt l x l.length)=S at *
  generalize fz (Zc3 x l.length)=Q at *
  constructor<;>simp -implicitDefEqProofs[l341_0]
theorem zlg(l:List Rat)(x:Rat){B C:Nat}(hl:l.length≤1000)(hx:sz x≤C)(hw:∀q∈l,sz q≤B)(hS:1+l.length*(B+l.length*C+2)≤1000) :
  Za T 341 [.sl (Zc (fzs l)) .an,efz (fz x)]=some (efz (fz (Zir l x))):=by
 have c0:=zc3 (T:=T);have c1:=zfj (T:=T);have h:=zvc (T:=T) l x hl hx hw hS;rw[←zjt]at h;unfold Zmk at h;have e1:Zdt l x 0=0:=rfl;have e2:Zc3 x 0=1:=rfl;rw[e1,e2]at h;rw[zaa Za9.h341 rfl,b341];simp only[Yl]at h;simp -implicitDefEqProofs[c0,c1,h]
def Zek(a b:List Rat):List Rat:=(List.range (max a.length b.length)).map fun(i:Nat)=>a.getD i 0+b.getD i 0
theorem zde(a b:List Rat):(Zek a b).length=max a.length b.length:=by simp[Zek]
theorem zju{l:List Rat}{B:Nat}(hB:1≤B)(h:∀q∈l,sz q≤B)(i:Nat):sz (l.getD i 0)≤B:=by
 grind[zeq]
def Zml(a b:List Rat)(i:Nat):St:=⟨[(0,.sl (Zc (fzs a)) .an),(1,.sl (Zc (fzs b)) .an),(5,.bs (.loc 5) 1 3 0 i),(6,.i .i64 i)],[((.loc 5),⟨1,.own,3,Zc (fzs ((Zek a b).take i))⟩)],3⟩
theorem zzk(a b:List Rat)(ha:a.length≤1000)(hb:b.length≤1000)(h1:∀q∈a,sz q≤900)(h2:∀q∈b,sz q≤900) :
  Ze T 0 0 (.norm false [5]) l348_0 (Zml a b 0)=some (.n,⟨[(5,.bs (.loc 5) 1 3 0 (max a.length b.length))],[((.loc 5),⟨1,.own,3,Zc (fzs (Zek a b))⟩)],3⟩):=by
 refine zai (Zml a b) (max a.length b.length) _ (fun i hi=>?_) ?_
 ·have c1:=zsr (T:=T) a i ha;have c2:=zsr (T:=T) b i hb;have c3:=zb2 (T:=T) (a.getD i 0) (b.getD i 0) (Yc (zju (by decide) h1 i) (by decide)) (Yc (zju (by decide) h2 i) (by decide));have hd:i<(Zek a b).length:=by rw[zde];omega
  have ed:(Zek a b).take (i+1)=(Zek a b).take i++[a.getD i 0+b.getD i 0]:=by
   grind[List.take_succ_eq_append_getElem,Zek]
  have ef:fzs ((Zek a b).take (i+1))=fzs ((Zek a b).take i)++[fz (a.getD i 0+b.getD i 0)]:=by rw[ed];simp[fzs]
  have hml:(fzs ((Zek a b).take i)).length=i:=by grind[zal]
  have hws:=zaz hi (by omega);have hb4:i≤4294967295:=by omega
  have hp:=zba hml (fz (a.getD i 0+b.getD i 0));have hla:(fzs a).length=a.length:=by simp
  have hlb:(fzs b).length=b.length:=by simp
  unfold Zml;rw[ef];generalize fz (a.getD i 0+b.getD i 0)=S at *
  generalize fz (a.getD i 0)=X at *
  generalize fz (b.getD i 0)=Y at *
  by_cases hia:i<a.length
  ·have q2:(i:Int)<(fzs a).length:=by omega
   generalize fzs a=A at *
   simp -implicitDefEqProofs[l348_0,q2,c1,c2,c3,hml,hws,hb4,hp]
  ·have q2:¬ (i:Int)<(fzs a).length:=by omega
   have q4:(i:Int)<(fzs b).length:=by omega
   generalize fzs a=A at *
   generalize fzs b=B at *
   simp -implicitDefEqProofs[l348_0,q2,q4,c1,c2,c3,hml,hws,hb4,hp]
 ·have e:(Zek a b).take (max a.length b.length)=Zek a b:=Yb (by rw[zde];omega);have q1:¬ max a.length b.length<(fzs a).length:=by rw[zal];omega
  have q3:¬ max a.length b.length<(fzs b).length:=by rw[zal];omega
  unfold Zml;rw[e];generalize max a.length b.length=n at *
  have q2:¬ (n:Int)<(fzs a).length:=by omega
  have q4:¬ (n:Int)<(fzs b).length:=by omega
  generalize fzs a=A at *
  generalize fzs b=B at *
  constructor<;>simp -implicitDefEqProofs[l348_0,q2,q4]
theorem zzl(a b:List Rat)(ha:a.length≤1000)(hb:b.length≤1000)(h1:∀q∈a,sz q≤900)(h2:∀q∈b,sz q≤900) :
  Za T 348 [.sl (Zc (fzs a)) .an,.sl (Zc (fzs b)) .an]=some (.sl (Zc (fzs (Zbh (Zek a b)))) .an):=by
 have h:=zzk (T:=T) a b ha hb h1 h2;have c:=zd3 (T:=T) (Zek a b) (by rw[zde];omega);have hL:(fzs (Zek a b)).length=max a.length b.length:=by rw[zal,zde]
 unfold Zml at h;rw[Ya4]at h;have e0:fzs []=[]:=rfl;rw[e0]at h;simp only[zau,Yl]at h;rw[zaa Za9.h348 rfl,b348];generalize max a.length b.length=n at *
 generalize fzs (Zek a b)=M at *
 have ht:List.take n M=M:=Yb (by omega);simp -implicitDefEqProofs[h,c,ht,hL]
end
end Go.Ab
end
section
namespace Go.Ab
def cvK(a b:List Rat)(n:Nat):Nat→Rat
 | 0=>0
 | k+1=>cvK a b n k+a.getD k 0*b.getD (n-k) 0
theorem z5b{a b:List Rat}{B:Nat}(hB:1≤B)(h1:∀q∈a,sz q≤B)(h2:∀q∈b,sz q≤B)(n:Nat):∀k,sz (cvK a b n k)≤1+k*(2*B+1)
 | 0=>by simp[cvK,zeq]
 | k+1=>by
  have ih:=z5b hB h1 h2 n k;have h3:=zju hB h1 k;have h4:=zju hB h2 (n-k);have h5:=zct (a.getD k 0) (b.getD (n-k) 0);have h6:=zfz (cvK a b n k) (a.getD k 0*b.getD (n-k) 0);simp only[cvK];rw[Ycf];omega
section
variable{T:Tbl}[Zs T][Z2 T][Z4 T][Zu T][Zw T][Za0 T][Zf T][Zl T][Zp T][Zaz T][Zbr T][Z0 T][Z7 T][Zy T][Zaa T][Zz T][Zab T][Zk T][Za9 T]
def Zmm(a b O:List Rat)(n j:Nat):St:=⟨[(0,.sl (Zc (fzs a)) .an),(1,.sl (Zc (fzs b)) .an),(5,.bs (.loc 5) 1 3 0 n),(6,.i .i64 n),(7,.ptr (.loc 7) 2 3 0 0),(8,.i .i64 j)],
 [((.loc 5),⟨1,.own,3,Zc (fzs O)⟩),(.loc 7,⟨2,.str,3,[Z1 (fz (cvK a b n j))]⟩)],4⟩
theorem z7q(a b O:List Rat)(n:Nat){B:Nat}(ha:a.length≤20)(hb:b.length≤20)(hn:n≤100)(hB:1≤B)(h1:∀q∈a,sz q≤B)(h2:∀q∈b,sz q≤B)(hS:1+a.length*(2*B+1)≤1000) :
  Ze T 0 2 (.norm false [0,1,5,6,7]) l347_0 (Zmm a b O n 0)=some (.n,⟨[(0,.sl (Zc (fzs a)) .an),(1,.sl (Zc (fzs b)) .an),(5,.bs (.loc 5) 1 3 0 n),(6,.i .i64 n),(7,.ptr (.loc 7) 2 3 0 0)],
   [((.loc 5),⟨1,.own,3,Zc (fzs O)⟩),(.loc 7,⟨2,.str,3,[Z1 (fz (cvK a b n (min (n+1) a.length)))]⟩)],4⟩):=by
 have hla:(fzs a).length=a.length:=by simp
 have hlb:(fzs b).length=b.length:=by simp
 refine zai (Zmm a b O n) (min (n+1) a.length) _ (fun j hj=>?_) ?_
 ·have hja:j<a.length:=by omega
  have hjn:j≤n:=by omega
  have q1:(j:Int)≤n:=by omega
  have q2:(j:Int)<(fzs a).length:=by omega
  have q2':j<(fzs a).length:=by omega
  have hg:(fzs a)[j]? = some (fz (a[j]'hja)):=zdg (Ya hja);obtain⟨_,hgE⟩:=Yd.1 hg;have hws:=zaz (i:=j) (n:=200) (by omega) (by decide);obtain⟨m,hm⟩:∃m:Nat,m=n-j:=⟨_,rfl⟩;have hsub:IntKind.wrap .i64 ((n:Int)-j)=m:=by rw[zac _ (by omega)];omega
  have hda:a.getD j 0=a[j]'hja:=by simp[Ybc,Ya hja]
  have e:cvK a b n (j+1)=cvK a b n j+a[j]'hja*b.getD m 0:=by rw[cvK,hda,hm]
  have z1:=z5b hB h1 h2 n j;have m1:j*(2*B+1)+(2*B+1)≤a.length*(2*B+1):=by
   rw[←Ycf];exact Yt _ hja
  have z2:=h1 _ (Yi hja);unfold Zmm;rw[e];by_cases hk:m<b.length
  ·have hdb:b.getD m 0=b[m]'hk:=by simp[Ybc,Ya hk]
   have z3:=h2 _ (Yi hk);have z4:=zct (a[j]'hja) (b[m]'hk);have c1:=zd2 (T:=T) (a[j]'hja) (b[m]'hk) (by omega) (by omega);have c2:=zb2 (T:=T) (cvK a b n j) (a[j]'hja*b[m]'hk) (by omega) (by omega);have hg2:(fzs b)[m]? = some (fz (b[m]'hk)):=zdg (Ya hk);obtain⟨_,hgE2⟩:=Yd.1 hg2;have q3:(m:Int)<(fzs b).length:=by omega
   have q3':m<(fzs b).length:=by omega
   rw[hdb];clear h1 h2 hS z1 z2 z3 z4 m1 e hda hdb hm;generalize fz (cvK a b n j+a[j]'hja*b[m]'hk)=S' at *
   generalize fz (cvK a b n j)=S at *
   generalize fz (a[j]'hja*b[m]'hk)=P at *
   generalize fz (a[j]'hja)=X at *
   generalize fz (b[m]'hk)=Y at *
   clear hla hlb;generalize fzs a=A at *
   generalize fzs b=C at *
   generalize fzs O=OO at *
   simp -implicitDefEqProofs[l347_0,q1,q2,q2',q3,q3',hg,hgE,hg2,hgE2,hws,hsub,c1,c2]
  ·have hdb:b.getD m 0=0:=by simp[Ybc,Ybs (show b.length≤m by omega)]
   have q3:¬ (m:Int)<(fzs b).length:=by omega
   have q3':¬ m<(fzs b).length:=by omega
   rw[hdb,Yeo,Ydk];clear h1 h2 hS z1 z2 m1 e hda hdb hm;generalize fz (cvK a b n j)=S at *
   clear hla hlb;generalize fzs a=A at *
   generalize fzs b=C at *
   generalize fzs O=OO at *
   simp -implicitDefEqProofs[l347_0,q1,q2,q2',q3,q3',hws,hsub]
 ·unfold Zmm;generalize fz (cvK a b n (min (n+1) a.length))=S at *
  by_cases hc:n+1≤a.length
  ·rw[Ybg hc];have q1:¬ ((n+1:Nat):Int)≤n:=by omega
   generalize fzs a=A at *
   generalize fzs b=C at *
   generalize fzs O=OO at *
   generalize n+1=j at *
   constructor<;>simp -implicitDefEqProofs[l347_0,q1]
  ·rw[Nat.min_eq_right (by omega)];have q1:(a.length:Int)≤n:=by omega
   have q2:¬ (a.length:Int)<(fzs a).length:=by omega
   have q2':¬ a.length<(fzs a).length:=by omega
   generalize a.length=j at *
   generalize fzs a=A at *
   generalize fzs b=C at *
   generalize fzs O=OO at *
   constructor<;>simp -implicitDefEqProofs[l347_0,q1,q2,q2']
def cnv(a b:List Rat):List Rat:=(List.range (a.length+b.length)).map fun(n:Nat)=>cvK a b n (min (n+1) a.length)
theorem zd4(a b:List Rat):(cnv a b).length=a.length+b.length:=by simp[cnv]
def Zmn(a b:List Rat)(n:Nat):St:=⟨[(0,.sl (Zc (fzs a)) .an),(1,.sl (Zc (fzs b)) .an),(5,.bs (.loc 5) 1 3 0 n),(6,.i .i64 n)],[((.loc 5),⟨1,.own,3,Zc (fzs ((cnv a b).take n))⟩)],3⟩
theorem z3o(a b:List Rat){B:Nat}(ha:a.length≤20)(hb:b.length≤20)(hB:1≤B)(h1:∀q∈a,sz q≤B)(h2:∀q∈b,sz q≤B)(hS:1+a.length*(2*B+1)≤1000) :
  Ze T 0 0 (.norm false [5]) l347_1 (Zmn a b 0)=some (.n,⟨[(5,.bs (.loc 5) 1 3 0 (a.length+b.length))],[((.loc 5),⟨1,.own,3,Zc (fzs (cnv a b))⟩)],3⟩):=by
 have c0:=zc3 (T:=T);have hla:(fzs a).length=a.length:=by simp
 have hlb:(fzs b).length=b.length:=by simp
 have hwl:IntKind.wrap .i64 ((a.length:Int)+b.length)=(a.length:Int)+b.length:=zac _ (by omega);refine zai (Zmn a b) (a.length+b.length) _ (fun n hn=>?_) ?_
 ·have hin:=z7q (T:=T) a b ((cnv a b).take n) n ha hb (by omega) hB h1 h2 hS;unfold Zmm at hin;have e0:cvK a b n 0=0:=rfl;rw[e0]at hin;simp only[Yl]at hin;have hd:n<(cnv a b).length:=by rw[zd4];exact hn
  have ed:(cnv a b).take (n+1)=(cnv a b).take n++[cvK a b n (min (n+1) a.length)]:=by
   rw[Yz hd];congr 2;simp[cnv]
  have ef:fzs ((cnv a b).take (n+1))=fzs ((cnv a b).take n)++[fz (cvK a b n (min (n+1) a.length))]:=by rw[ed];simp[fzs]
  have hml:(fzs ((cnv a b).take n)).length=n:=by rw[zal,Yaj,Ybg (by omega)]
  have hws:=zaz hn (by omega);have hb4:n≤4294967295:=by omega
  have hp:=zba hml (fz (cvK a b n (min (n+1) a.length)));have q1:(n:Int)<(a.length:Int)+b.length:=by omega
  unfold Zmn;rw[ef];clear ed ef h1 h2 hS hd e0;generalize fz (cvK a b n (min (n+1) a.length))=S at *
  generalize fz 0=Z at *
  generalize fzs ((cnv a b).take n)=M at *
  rw[←hla,←hlb]at hwl q1;generalize fzs a=A at *
  generalize fzs b=C at *
  simp -implicitDefEqProofs[l347_1,c0,hin,hml,hws,hb4,hp,q1,hwl]
 ·have e:(cnv a b).take (a.length+b.length)=cnv a b:=Yb (by rw[zd4];exact Yg _);unfold Zmn;rw[e];clear h1 h2;generalize fzs (cnv a b)=M at *
  rw[←hla,←hlb]at hwl;have q1:((a.length+b.length:Nat):Int)=((fzs a).length:Int)+(fzs b).length:=by omega
  rw[q1];generalize a.length+b.length=n at *
  generalize fzs a=A at *
  generalize fzs b=C at *
  constructor<;>simp -implicitDefEqProofs[l347_1,hwl]
theorem zzm(a b:List Rat){B:Nat}(ha:a.length≤20)(hb:b.length≤20)(hB:1≤B)(h1:∀q∈a,sz q≤B)(h2:∀q∈b,sz q≤B)(hS:1+a.length*(2*B+1)≤1000) :
  Za T 347 [.sl (Zc (fzs a)) .an,.sl (Zc (fzs b)) .an]=some (.sl (Zc (fzs (Zbh (cnv a b)))) .an):=by
 have h:=z3o (T:=T) a b ha hb hB h1 h2 hS;have c:=zd3 (T:=T) (cnv a b) (by rw[zd4];omega);have hL:(fzs (cnv a b)).length=a.length+b.length:=by rw[zal,zd4]
 unfold Zmn at h;rw[Ya4]at h;have e0:fzs []=[]:=rfl;rw[e0]at h;simp only[zau,Yl]at h;rw[zaa Za9.h347 rfl,b347];clear h1 h2;generalize a.length+b.length=n at *
 generalize fzs (Zbh (cnv a b))=R at *
 generalize fzs (cnv a b)=M at *
 have ht:List.take n M=M:=Yb (by omega);simp -implicitDefEqProofs[h,c,ht,hL]
end
end Go.Ab
end
section
namespace Go.Ab
theorem zo5(l:List Rat):∀n i,Zgh l n≤i→i<n→l.getD i 0=0
 | 0,i,_,h=>by omega
 | n+1,i,h,h2=>by
  unfold Zgh at h;split at h
  ·next hz=>
   by_cases hi:i=n
   ·rw[hi];exact hz
   ·exact zo5 l n i h (by omega)
  ·omega
theorem zfm(l:List Rat)(i:Nat):(Zbh l).getD i 0=l.getD i 0:=by
 grind[Zbh,zo5]
theorem ze5(l:List Rat):(Zbh l).length≤l.length:=by
 unfold Zbh
 grind
theorem zjx{l:List Rat}{q:Rat}(h:q∈Zbh l):q∈l:=Ya5 h
theorem zz4(a b:List Rat)(i:Nat):(Zek a b).getD i 0=a.getD i 0+b.getD i 0:=by
 grind[Zek]
theorem z3z(l:List Rat)(i:Nat):(dif l).getD i 0=(((i:Int)+1:Int):Rat)*l.getD (i+1) 0:=by
 grind[dif]
theorem zlj{a b:List Rat}(x:Rat)(h:∀i,a.getD i 0=b.getD i 0):∀n,Zdt a x n=Zdt b x n
 | 0=>rfl
 | n+1=>by rw[Zdt,Zdt,zlj x h n,h n]
theorem zjy(a:List Rat)(x:Rat):∀k,Zdt a x (a.length+k)=Zdt a x a.length
 | 0=>rfl
 | k+1=>by
  have e:a.getD (a.length+k) 0=0:=by rw[Ybc,Ybs (by omega)];rfl
  rw[←Ya0,Zdt,e,Yer,Ydk,zjy a x k]
theorem zlk{a b:List Rat}(x:Rat)(h:∀i,a.getD i 0=b.getD i 0):Zir a x=Zir b x:=by
 rw[zjt,zjt,←zjy a x b.length,←zjy b x a.length,zlj x h,Ybi]
def Zdo(h a b:Rat):Rat:=(b-a)/h
def Zeb(h a b f:Rat):Rat:=(Zdo h a b-f)/h
def Zd7(h a b f g:Rat):Rat:=((g-Zdo h a b)/h-Zeb h a b f)/h
def Zd8(h a b f g:Rat):List Rat:=Zbh (Zek (Zbh [a,f,Zeb h a b f]) (Zbh (cnv [0,0,Zd7 h a b f g] [-h,1])))
theorem z7y(s h:Rat):cnv [0,0,s] [-h,1]=[0,0,s * -h,s,0]:=by
 simp[cnv,List.range_succ,cvK,Yer,Rat.zero_add,Rat.mul_one,Yeo,Ydk]
theorem zmw(h a b f g:Rat)(i:Nat):(Zd8 h a b f g).getD i 0=[a,f,Zeb h a b f+Zd7 h a b f g * -h,Zd7 h a b f g].getD i 0:=by
 unfold Zd8;rw[zfm,zz4,zfm,zfm,z7y]
 match i with
 | 0=>grind
 | 1=>grind
 | 2=>simp
 | 3=>grind
 | 4=>grind
 | i+5=>grind
theorem z7z(h a b f g:Rat):(Zd8 h a b f g).length≤4:=by
 unfold Zd8;have h1:=ze5 (Zek (Zbh [a,f,Zeb h a b f]) (Zbh (cnv [0,0,Zd7 h a b f g] [-h,1])));rw[zde]at h1;have h2:=ze5 [a,f,Zeb h a b f];have h3:(Zbh (cnv [0,0,Zd7 h a b f g] [-h,1])).length≤4:=by
  rw[z7y];unfold Zbh;rw[Yaj]
  grind[Zgh]
 grind
def Zkr(h a b f g x:Rat):Rat:=a+f*x+Zeb h a b f*x*x+Zd7 h a b f g*x*x*(x-h)
def Zmo(h a b f g x:Rat):Rat:=f+2*Zeb h a b f*x+Zd7 h a b f g*(3*x*x-2*h*x)
theorem z71(h a b f g x:Rat):Zir (Zd8 h a b f g) x=Zkr h a b f g x:=by
 rw[zlk x (zmw h a b f g)];simp only[Zir,Zkr]
 grind
theorem z73(h a b f g x:Rat):Zir (Zbh (dif (Zd8 h a b f g))) x=Zmo h a b f g x:=by
 have e:∀i,(Zbh (dif (Zd8 h a b f g))).getD i 0=[f,2*(Zeb h a b f+Zd7 h a b f g * -h),3*Zd7 h a b f g].getD i 0:=by
  intro i;rw[zfm,z3z,zmw]
  match i with
  | 0=>grind
  | 1=>simp
  | 2=>simp
  | i+3=>grind
 rw[zlk x e];simp only[Zir,Zmo]
 grind
section
variable{T:Tbl}[Zs T][Z2 T][Z4 T][Zu T][Zw T][Za0 T][Zf T][Zl T][Zp T][Zaz T][Zbr T][Z0 T][Z7 T][Zy T][Zaa T][Zz T][Zab T][Zk T][Zac T][Za9 T][Zds T]
theorem zd5(p q:Rat)(hp:sz p≤1000)(hq:sz q≤1000):Za T 240 [efz (fz p),efz (fz q)]=some (efz (fz (p-q))):=by
 have c1:=zgw (T:=T) (fz q) (by rw[zar];omega);rw[za7]at c1;have c2:=zb2 (T:=T) p (-q) hp (by rw[zh7];omega);rw[←Ycp]at c2;rw[zaa Zk.h240 rfl,b240];simp -implicitDefEqProofs[c1,c2]
theorem zfn(p q:Rat)(hp:sz p≤1000)(hq:sz q≤1000):Za T 242 [efz (fz p),efz (fz q)]=some (efz (fz (p/q))):=by
 have:=zjr (T:=T) (fz p) (fz q) hp hq
 simp_all
theorem zmx{h a b f g:Rat}(hh:sz h≤10)(ha:sz a≤10)(hb:sz b≤10)(hf:sz f≤10)(hg:sz g≤10) :
  sz (b-a)≤21∧sz (Zdo h a b)≤31∧sz (Zdo h a b-f)≤42∧sz (Zeb h a b f)≤52∧sz (g-Zdo h a b)≤42∧sz ((g-Zdo h a b)/h)≤52∧sz ((g-Zdo h a b)/h-Zeb h a b f)≤105∧sz (Zd7 h a b f g)≤115:=by
 grind[zh8,zs8,Zdo,Zeb,Zd7]
theorem zaci{h a b f g:Rat}(hh:sz h≤10)(ha:sz a≤10)(hb:sz b≤10)(hf:sz f≤10)(hg:sz g≤10):∀q∈Zd8 h a b f g,sz q≤178:=by
 obtain⟨_,_,_,z1,_,_,_,z2⟩:=zmx hh ha hb hf hg;intro q hq;obtain⟨i,hi,rfl⟩:=List.getElem_of_mem hq;have e:(Zd8 h a b f g)[i]'hi=(Zd8 h a b f g).getD i 0:=by grind
 rw[e,zmw];have z3:=zct (Zd7 h a b f g) (-h);rw[zh7]at z3;have z4:=zfz (Zeb h a b f) (Zd7 h a b f g * -h)
 match i with
 | 0=>grind
 | 1=>show sz f≤178;omega
 | 2=>show sz (Zeb h a b f+Zd7 h a b f g * -h)≤178;omega
 | 3=>show sz (Zd7 h a b f g)≤178;omega
 | i+4=>show sz 0≤178;rw[zeq];decide
theorem zrb(t:Fz)(h a b f g:Rat)(i:Nat)(Y0 Y1 F0 F1:List Fz)(g0:Y0[i]? = some (fz a))(g1:Y1[i]? = some (fz b))(g2:F0[i]? = some (fz f))(g3:F1[i]? = some (fz g))
  (hh:sz h≤10) (ha:sz a≤10) (hb:sz b≤10) (hf:sz f≤10) (hg:sz g≤10):Za T 339 [agS t (fz h) Y0 Y1 F0 F1,.i .i64 i]=some (.sl (Zc (fzs (Zd8 h a b f g))) .an):=by
 obtain⟨z1,z2,z3,z4,z5,z6,z7,z8⟩:=zmx hh ha hb hf hg;have c1:=zd5 (T:=T) b a (by omega) (by omega);have c2:=zfn (T:=T) (b-a) h (by omega) (by omega)
 change Za T 242 _=some (efz (fz (Zdo h a b))) at c2
 have c3:=zd5 (T:=T) (Zdo h a b) f (by omega) (by omega);have c4:=zfn (T:=T) (Zdo h a b-f) h (by omega) (by omega)
 change Za T 242 _=some (efz (fz (Zeb h a b f))) at c4
 have c5:=zd5 (T:=T) g (Zdo h a b) (by omega) (by omega);have c6:=zfn (T:=T) (g-Zdo h a b) h (by omega) (by omega);have c7:=zd5 (T:=T) ((g-Zdo h a b)/h) (Zeb h a b f) (by omega) (by omega);have c8:=zfn (T:=T) ((g-Zdo h a b)/h-Zeb h a b f) h (by omega) (by omega)
 change Za T 242 _=some (efz (fz (Zd7 h a b f g))) at c8
 have c9:=zc3 (T:=T);have c10:=zfj (T:=T);have c11:=zgw (T:=T) (fz h) (by rw[zar];omega);rw[za7]at c11;have m1:∀q∈[0,0,Zd7 h a b f g],sz q≤115:=by
  grind[zeq]
 have m2:∀q∈[-h,1],sz q≤115:=by
  grind[zh7,zke]
 have c12:=zzm (T:=T) [0,0,Zd7 h a b f g] [-h,1] (B:=115) (by simp) (by simp) (by decide) m1 m2 (by simp);have c13:=zd3 (T:=T) [a,f,Zeb h a b f] (by simp);have c14:=zzl (T:=T) (Zbh [a,f,Zeb h a b f]) (Zbh (cnv [0,0,Zd7 h a b f g] [-h,1])) (by grind[ze5])
  (by grind[ze5,zd4]) (by
   intro q hq;have hq:=zjx hq;simp only[Y7,Ybv,or_false]at hq
   grind) (by
   intro q hq;have hq:=zjx hq
   grind[z7y,zct])
 have r1:Zc (fzs [0,0,Zd7 h a b f g])=[Z1 (fz 0),Z1 (fz 0),Z1 (fz (Zd7 h a b f g))]:=rfl;have r2:Zc (fzs [-h,1])=[Z1 (fz (-h)),Z1 (fz 1)]:=rfl;have r3:Zc (fzs [a,f,Zeb h a b f])=[Z1 (fz a),Z1 (fz f),Z1 (fz (Zeb h a b f))]:=rfl;rw[r1,r2]at c12;rw[r3]at c13
 change Za T 348 _=some (.sl (Zc (fzs (Zd8 h a b f g))) .an) at c14
 obtain⟨l0,k0⟩:=Yd.1 g0;obtain⟨l1,k1⟩:=Yd.1 g1;obtain⟨l2,k2⟩:=Yd.1 g2;obtain⟨l3,k3⟩:=Yd.1 g3;rw[zaa Zds.h339 rfl,b339];have q0:(i:Int)<Y0.length:=by omega
 have q1:(i:Int)<Y1.length:=by omega
 have q2:(i:Int)<F0.length:=by omega
 have q3:(i:Int)<F1.length:=by omega
 simp -implicitDefEqProofs[c1,c2,c3,c4,c5,c6,c7,c8,c9,c10,c11,c12,c13,c14,l0,l1,l2,l3,k0,k1,k2,k3,q0,q1,q2,q3]
def Zit(sl:Bool)(h a b f g x:Rat):Rat:=if sl then Zmo h a b f g x else Zkr h a b f g x
def atQ(sl:Bool)(h x:Rat)(y0 y1 f0 f1:List Rat):List Rat:=(List.range y0.length).map fun i=>Zit sl h (y0.getD i 0) (y1.getD i 0) (f0.getD i 0) (f1.getD i 0) x
theorem zc5(sl:Bool)(h x:Rat)(y0 y1 f0 f1:List Rat):(atQ sl h x y0 y1 f0 f1).length=y0.length:=by simp[atQ]
def Zmp(sl:Bool)(t:Fz)(h x:Rat)(y0 y1 f0 f1:List Rat)(i:Nat):St:=
 ⟨[(2,.b sl),(3,.ptr (.loc 3) 1 10 0 0),(7,.bs (.loc 7) 2 3 0 i),(8,.ptr (.loc 8) 3 3 0 0),(9,.i .i64 i)],
  [(.loc 3,⟨1,.str,10,[[.b t.1,.sl (Zb t.2.1) .an,.sl (Zb t.2.2) .an,.b (fz h).1,.sl (Zb (fz h).2.1) .an,.sl (Zb (fz h).2.2) .an,.sl (Zc (fzs y0)) .an,.sl (Zc (fzs y1)) .an,.sl (Zc (fzs f0)) .an,.sl (Zc (fzs f1)) .an]]⟩),
   (.loc 7,⟨2,.own,3,Zc (fzs ((atQ sl h x y0 y1 f0 f1).take i))⟩),(.loc 8,⟨3,.str,3,[Z1 (fz x)]⟩)],5⟩
theorem zz5(sl:Bool)(t:Fz)(h x:Rat)(y0 y1 f0 f1:List Rat)(hh:sz h≤10)(hx:sz x≤5)(hn:y0.length≤1000)(l1:y1.length=y0.length)(l2:f0.length=y0.length)(l3:f1.length=y0.length)
  (hw:∀r∈[y0,y1,f0,f1],∀q∈r,sz q≤10) :
  Ze T 0 0 (.norm false [7]) l330_0 (Zmp sl t h x y0 y1 f0 f1 0)=some (.n,⟨[(7,.bs (.loc 7) 1 3 0 y0.length)],[(.loc 7,⟨1,.own,3,Zc (fzs (atQ sl h x y0 y1 f0 f1))⟩)],3⟩):=by
 refine zai (Zmp sl t h x y0 y1 f0 f1) y0.length _ (fun i hi=>?_) ?_
 ·have hg:∀r∈[y0,y1,f0,f1],(fzs r)[i]? = some (fz (r.getD i 0))∧sz (r.getD i 0)≤10:=by
   grind[zdg,List.getElem_mem]
  obtain⟨g0,z0⟩:=hg y0 (by simp);obtain⟨g1,z1⟩:=hg y1 (by simp);obtain⟨g2,z2⟩:=hg f0 (by simp);obtain⟨g3,z3⟩:=hg f1 (by simp);have c1:=zrb (T:=T) t h _ _ _ _ i (fzs y0) (fzs y1) (fzs f0) (fzs f1) g0 g1 g2 g3 hh z0 z1 z2 z3;have zc:=zaci hh z0 z1 z2 z3;have lc:=z7z h (y0.getD i 0) (y1.getD i 0) (f0.getD i 0) (f1.getD i 0);have hd:i<(atQ sl h x y0 y1 f0 f1).length:=by rw[zc5];omega
  have ef:fzs ((atQ sl h x y0 y1 f0 f1).take (i+1))=fzs ((atQ sl h x y0 y1 f0 f1).take i)++[fz (Zit sl h (y0.getD i 0) (y1.getD i 0) (f0.getD i 0) (f1.getD i 0) x)]:=by
   grind[List.take_succ_eq_append_getElem,fzs,atQ]
  have hml:(fzs ((atQ sl h x y0 y1 f0 f1).take i)).length=i:=by rw[zal,Yaj];omega
  have hws:=zaz hi (by omega);have hb4:i≤4294967295:=by omega
  have hli:(i:Int)<(fzs y0).length:=by grind
  unfold Zmp;rw[ef];cases sl with
  | false=>
   have c2:=zlg (T:=T) (Zd8 h (y0.getD i 0) (y1.getD i 0) (f0.getD i 0) (f1.getD i 0)) x (B:=178) (C:=5) (by omega) hx zc (by
    have m1:(Zd8 h (y0.getD i 0) (y1.getD i 0) (f0.getD i 0) (f1.getD i 0)).length*(178+(Zd8 h (y0.getD i 0) (y1.getD i 0) (f0.getD i 0) (f1.getD i 0)).length*5+2)≤4*(178+4*5+2):=Ybn lc (by omega);omega)
   rw[z71]at c2
   change Za T 341 _=some (efz (fz (Zit false h (y0.getD i 0) (y1.getD i 0) (f0.getD i 0) (f1.getD i 0) x))) at c2
   have hp:=zba hml (fz (Zit false h (y0.getD i 0) (y1.getD i 0) (f0.getD i 0) (f1.getD i 0) x));clear zc lc z0 z1 z2 z3;generalize fz (Zit false h (y0.getD i 0) (y1.getD i 0) (f0.getD i 0) (f1.getD i 0) x)=V at *
   generalize fzs (Zd8 h (y0.getD i 0) (y1.getD i 0) (f0.getD i 0) (f1.getD i 0))=C at *
   generalize fz h=H at *
   generalize fz x=X at *
   generalize fzs y0=Y0 at *
   generalize fzs y1=Y1 at *
   generalize fzs f0=F0 at *
   generalize fzs f1=F1 at *
   simp -implicitDefEqProofs[l330_0,hli,c1,c2,hml,hws,hb4,hp]
  | true=>
   have c3:=zvb (T:=T) (fzs (Zd8 h (y0.getD i 0) (y1.getD i 0) (f0.getD i 0) (f1.getD i 0))) (by rw[zal];omega) (by
    intro y hy;obtain⟨q,hq,rfl⟩:=Yx.1 hy;rw[zar]
    grind)
   rw[z5c]at c3;have zd:=zacb (B:=178) (by omega) (by decide) zc;have ld:=ze5 (dif (Zd8 h (y0.getD i 0) (y1.getD i 0) (f0.getD i 0) (f1.getD i 0)));rw[zhi]at ld;have c2:=zlg (T:=T) (Zbh (dif (Zd8 h (y0.getD i 0) (y1.getD i 0) (f0.getD i 0) (f1.getD i 0)))) x (B:=179) (C:=5) (by omega) hx (fun q hq=>zd q (zjx hq)) (by
    have m1:(Zbh (dif (Zd8 h (y0.getD i 0) (y1.getD i 0) (f0.getD i 0) (f1.getD i 0)))).length*(179+(Zbh (dif (Zd8 h (y0.getD i 0) (y1.getD i 0) (f0.getD i 0) (f1.getD i 0)))).length*5+2)≤4*(179+4*5+2):=Ybn (by omega) (by omega);omega)
   rw[z73]at c2
   change Za T 341 _=some (efz (fz (Zit true h (y0.getD i 0) (y1.getD i 0) (f0.getD i 0) (f1.getD i 0) x))) at c2
   have hp:=zba hml (fz (Zit true h (y0.getD i 0) (y1.getD i 0) (f0.getD i 0) (f1.getD i 0) x));clear zc lc z0 z1 z2 z3 zd ld;generalize fz (Zit true h (y0.getD i 0) (y1.getD i 0) (f0.getD i 0) (f1.getD i 0) x)=V at *
   generalize fzs (Zbh (dif (Zd8 h (y0.getD i 0) (y1.getD i 0) (f0.getD i 0) (f1.getD i 0))))=D at *
   generalize fzs (Zd8 h (y0.getD i 0) (y1.getD i 0) (f0.getD i 0) (f1.getD i 0))=C at *
   generalize fz h=H at *
   generalize fz x=X at *
   generalize fzs y0=Y0 at *
   generalize fzs y1=Y1 at *
   generalize fzs f0=F0 at *
   generalize fzs f1=F1 at *
   simp -implicitDefEqProofs[l330_0,hli,c1,c2,c3,hml,hws,hb4,hp]
 ·have e:(atQ sl h x y0 y1 f0 f1).take y0.length=atQ sl h x y0 y1 f0 f1:=Yb (by rw[zc5];omega);have hl0:(y0.length:Int)=(fzs y0).length:=by simp_all
  have hl0':y0.length=(fzs y0).length:=by omega
  unfold Zmp;rw[e];clear hw l1 l2 l3;generalize fzs (atQ sl h x y0 y1 f0 f1)=M at *
  generalize fz h=H at *
  generalize fz x=X at *
  rw[hl0,hl0'];generalize fzs y0=Y0 at *
  generalize fzs y1=Y1 at *
  generalize fzs f0=F0 at *
  generalize fzs f1=F1 at *
  constructor<;>simp -implicitDefEqProofs[l330_0]
theorem zz6(sl:Bool)(t h s:Rat)(y0 y1 f0 f1:List Rat)(ht:sz t≤2)(hh:sz h≤10)(hs:sz s≤2)(hn:y0.length≤1000)(l1:y1.length=y0.length)(l2:f0.length=y0.length)(l3:f1.length=y0.length)
  (hw:∀r∈[y0,y1,f0,f1],∀q∈r,sz q≤10) :
  Za T 330 [agS (fz t) (fz h) (fzs y0) (fzs y1) (fzs f0) (fzs f1),efz (fz s),.b sl]=some (.sl (Zc (fzs (atQ sl h (s-t) y0 y1 f0 f1))) .an):=by
 have z1:=zh8 s t;have c1:=zd5 (T:=T) s t (by omega) (by omega);have hlp:=zz5 (T:=T) sl (fz t) h (s-t) y0 y1 f0 f1 hh (by omega) hn l1 l2 l3 hw;have hL:(fzs (atQ sl h (s-t) y0 y1 f0 f1)).length=y0.length:=by rw[zal,zc5]
 unfold Zmp at hlp;rw[Ya4]at hlp;have e0:fzs []=[]:=rfl;rw[e0]at hlp;simp only[zau,Yl]at hlp;rw[zaa Zds.h330 rfl,b330];generalize fzs (atQ sl h (s-t) y0 y1 f0 f1)=M at *
 have hM:List.take y0.length M=M:=Yb (by omega);simp -implicitDefEqProofs[c1,hlp,hM,hL]
end
end Go.Ab
end
section
namespace Go.Ab
def Zqf(t h:Fz)(y0 y1 f0 f1:List Fz):Bool:=decide (2<fsz t) || decide (2<fsz h) || Zan y0 4 2 || Zan y1 4 2 || Zan f0 4 2 || Zan f1 4 2
theorem zsi(c0 c1 c2 c3:Rat)(y0 y1 f0 f1:List Fz)(l1:y1.length=y0.length)(l2:f0.length=y0.length)(l3:f1.length=y0.length)(i:Nat)(hi:i<y0.length) :
  (Zhp [c0,c1,c2,c3] y0 y1 f0 f1).getD i 0=c0*(y0.map fv).getD i 0+c1*(y1.map fv).getD i 0+c2*(f0.map fv).getD i 0+c3*(f1.map fv).getD i 0:=by
 have e:Zhp [c0,c1,c2,c3] y0 y1 f0 f1=Zdp c3 (Zdp c2 (Zdp c1 (Zdp c0 (List.replicate y0.length 0) y0) y1) f0) f1:=by
  simp[Zhp,Zey,fzs]
 grind[Zdp]
theorem zsj(c:List Rat)(hc:c.length=4)(y0 y1 f0 f1:List Fz)(l1:y1.length=y0.length)(l2:f0.length=y0.length)(l3:f1.length=y0.length):(Zhp c y0 y1 f0 f1).length=y0.length:=by
 unfold Zhp;rw[zig _ _ (fun q hq=>by
  have:=(Ydc hq).2
  grind),Ya9]
theorem z2t{h u:Rat}(hh:h≠0)(a b f g:Rat):(1 + -1*u)*(1 + -1*u)*(1+2*u)*a+u*u*(3 + -2*u)*b+h*u*(1 + -1*u)*(1 + -1*u)*f+h*u*u * -(1 + -1*u)*g=Zkr h a b f g (h*u):=by
 unfold Zkr Zd7 Zeb Zdo
 grind
theorem z2u{h u:Rat}(hh:h≠0)(a b f g:Rat):-(6*u*(1 + -1*u)/h)*a+6*u*(1 + -1*u)/h*b+(1 + -1*u)*(1 + -3*u)*f+u*(-2+3*u)*g=Zmo h a b f g (h*u):=by
 unfold Zmo Zd7 Zeb Zdo
 grind
theorem zyi{t h s:Rat}(hh:h≠0):h*Zez t h s=s-t:=by
 unfold Zez
 grind
theorem zsk{a b:List Rat}(hl:a.length=b.length)(h:∀i,i<a.length→a.getD i 0=b.getD i 0):a=b:=by
 grind[List.ext_getElem]
theorem zyj(sl:Bool)(h x:Rat)(y0 y1 f0 f1:List Rat)(i:Nat)(hi:i<y0.length):(atQ sl h x y0 y1 f0 f1).getD i 0=Zit sl h (y0.getD i 0) (y1.getD i 0) (f0.getD i 0) (f1.getD i 0) x:=by
 grind[atQ]
theorem zyk{t h s:Rat}(hh:h≠0)(y0 y1 f0 f1:List Fz)(l1:y1.length=y0.length)(l2:f0.length=y0.length)(l3:f1.length=y0.length) :
  Zhp (Ziu h (Zez t h s) (1 + -1*Zez t h s)) y0 y1 f0 f1=atQ false h (s-t) (y0.map fv) (y1.map fv) (f0.map fv) (f1.map fv):=by
 have hm:=zsj (Ziu h (Zez t h s) (1 + -1*Zez t h s)) rfl y0 y1 f0 f1 l1 l2 l3;refine zsk (by rw[zc5,Yaw,hm]) fun i hi=>?_;rw[hm]at hi;rw[zyj _ _ _ _ _ _ _ _ (by grind)];unfold Ziu;rw[zsi _ _ _ _ _ _ _ _ l1 l2 l3 i hi,z2t hh,zyi hh]
 rfl
theorem z61{t h s:Rat}(hh:h≠0)(y0 y1 f0 f1:List Fz)(l1:y1.length=y0.length)(l2:f0.length=y0.length)(l3:f1.length=y0.length) :
  Zhp (Zjy h (Zez t h s) (1 + -1*Zez t h s)) y0 y1 f0 f1=atQ true h (s-t) (y0.map fv) (y1.map fv) (f0.map fv) (f1.map fv):=by
 have hm:=zsj (Zjy h (Zez t h s) (1 + -1*Zez t h s)) rfl y0 y1 f0 f1 l1 l2 l3;refine zsk (by rw[zc5,Yaw,hm]) fun i hi=>?_;rw[hm]at hi;rw[zyj _ _ _ _ _ _ _ _ (by grind)];unfold Zjy;rw[zsi _ _ _ _ _ _ _ _ l1 l2 l3 i hi,z2u hh,zyi hh]
 rfl
theorem sz2:sz 2≤1:=z60 (by decide) (by decide)
section
variable{T:Tbl}[Zs T][Z2 T][Z4 T][Zu T][Zw T][Za0 T][Zf T][Zl T][Zp T][Ze6 T][Zaz T][Zbr T][Zbg T][Z0 T][Z7 T][Zy T][Zaa T][Zz T][Zab T][Zk T][Zac T][Za9 T][Zds T][Zb1 T][Zbq T][Ze7 T]
theorem zqs:Za T 323 []=some (.b true):=by
 have k0:=zdu (T:=T) 0 (by decide) (by decide);have k1:=zdu (T:=T) 1 (by decide) (by decide);have k2:=zdu (T:=T) 2 (by decide) (by decide);have k8:=zdu (T:=T) 8 (by decide) (by decide);have k12:=zdu (T:=T) 12 (by decide) (by decide);have s8:sz 8≤1:=z60 (by decide) (by decide);have s12:sz 12≤1:=z60 (by decide) (by decide);have s2:=sz2;have s0:=zeq;have s1:=zke;have hr:Zen (fz 2) [fz 0] [fz 8] [fz 0] [fz 12]=true:=by
  unfold Zen;rw[za7]
  grind
 have hw:∀r∈[[fz 0],[fz 8],[fz 0],[fz 12]],∀x∈r,fsz x≤89:=by
  grind[zar]
 have c1:=z0u (T:=T) (fz 0) (fz 2) (fz 1) [fz 0] [fz 8] [fz 0] [fz 12] (by rw[zar];omega) (by rw[zar];omega) (by rw[zar];omega) hr hw;have c2:=zvq (T:=T) (fz 0) (fz 2) (fz 1) [fz 0] [fz 8] [fz 0] [fz 12] (by rw[zar];omega) (by rw[zar];omega) (by rw[zar];omega) hr hw;simp only[za7]at c1 c2;rw[zyk (t:=0) (h:=2) (s:=1) (by grind) [fz 0] [fz 8] [fz 0] [fz 12] rfl rfl rfl]at c1;rw[z61 (t:=0) (h:=2) (s:=1) (by grind) [fz 0] [fz 8] [fz 0] [fz 12] rfl rfl rfl]at c2;simp only[Yaa,Ybz,za7]at c1 c2;have e1:atQ false 2 (1-0) [0] [8] [0] [12]=[1]:=by decide +kernel
 have e2:atQ true 2 (1-0) [0] [8] [0] [12]=[3]:=by decide +kernel
 rw[e1]at c1;rw[e2]at c2;have t1:=zsu (T:=T) (fzs [1]) (by decide) (zje fun q hq=>by
  grind)
 have t2:=zsu (T:=T) (fzs [3]) (by decide) (zje fun q hq=>by
  grind[sz3])
 have w1:List.intercalate [44] (Zel (fzs [1]))=[49]:=by
  have e1:=zof 1 (by decide);simp only[Zel,fzs,Yaa,Ybz,za7]
  simp_all
 have w2:List.intercalate [44] (Zel (fzs [3]))=[51]:=by
  have e1:=zof 3 (by decide);simp only[Zel,fzs,Yaa,Ybz,za7]
  simp_all
 rw[w1]at t1;rw[w2]at t2;have r0:Zc [fz 0]=[Z1 (fz 0)]:=rfl;have r8:Zc [fz 8]=[Z1 (fz 8)]:=rfl;have r12:Zc [fz 12]=[Z1 (fz 12)]:=rfl;simp only[agS,r0,r8,r12]at c1 c2;have q0:((0:Int):Rat)=0:=rfl;have q1:((1:Int):Rat)=1:=rfl;have q2:((2:Int):Rat)=2:=rfl;have q8:((8:Int):Rat)=8:=rfl;have q12:((12:Int):Rat)=12:=rfl;rw[zaa Ze7.h323 rfl,b323];simp -implicitDefEqProofs[k0,k1,k2,k8,k12,c1,c2,t1,t2]
end
end Go.Ab
end
section
namespace Go.Ab
class Zo9 (T:Tbl):Prop where
end Go.Ab
end
section
namespace Go.Ab
def plQ(a0 a1 a2 a3 x:Rat):Rat:=a0+a1*x+a2*x*x+a3*x*x*x
def dlQ(a1 a2 a3 x:Rat):Rat:=a1+2*a2*x+3*a3*x*x
end Go.Ab
end
section
namespace Go.Ab
abbrev Zkf:AV:=.agg [.i .i64 0,.i .i64 0,.i .i64 0,.i .i64 0]
abbrev Zlj:AV:=agS (false,[],[]) (false,[],[]) [] [] [] []
def Zhi(p:Pb):List AV:=[.sl (Zc9 p.t.code) .an,.sl (ints p.t.outs) .an,.i .i64 p.t.dim,.i .i64 p.t.par,.s p.s.nm,.sl (Zc p.s.c) .an,.sl (Zv p.s.a) .an,.sl (Zc p.s.b) .an,.sl (Zc p.s.e) .an,.sl (Zc p.p) .an,.i .i64 p.bits]
def Zft:List AV:=[.b false,.sl [] .an,.sl [] .an,.b false,.sl [] .an,.sl [] .an,.sl [] .an,.sl [] .an,.sl [] .an,.sl [] .an]
def ofR(A B:List Rat×Nat×Nat)(i:Nat)(t u:Fz)(y z:List Fz):AV:=
 if A.2.1≠0 then .tup [Zlj,Zcf A.2.1 (i+1:Nat) 0 A.2.2]
 else if B.2.1≠0 then .tup [Zlj,Zcf B.2.1 (i+2:Nat) 0 B.2.2]
 else .tup [agS t (fz (fv u-fv t)) y z (fzs A.1) (fzs B.1),Zkf]
theorem zpg{lim:Nat}{t:Tp}{P:Po}(h:(Zce lim t P).2.1=0):(Zce lim t P).2.2=0:=by
 grind[Zce]
section
variable{T:Tbl}[Zaj T][Zs T][Z2 T][Z4 T][Zu T][Zw T][Zf T][Zl T][Zp T][Zah T][Za4 T][Zdh T][Zal T][Zar T][Zbs T][Zas T][Zew T][Zap T][Za0 T][Zaz T][Zbr T][Zam T][Zej T][Zc1 T][Zag T][Zdn T][Zbg T][Zba T]
def Ze0(p:Pb)(i k:Nat)(ts:List Fz)(ys:List (List Fz))(A0 A1:List (List AV)):St:=
 ⟨[(2,.i .i64 i),(3,.ptr (.loc 3) 1 11 0 0),(6,.ptr (.loc 6) 2 10 0 0),(7,.ptr (.loc 7) 3 4 0 0),(9,.sl (Zc ts) .an),(10,.sl (Zv ys) .an),(11,.ptr (.loc 11) 4 2 0 0),(51,.i .i64 k)],
  [(.loc 3,⟨1,.str,11,[Zhi p]⟩),(.loc 6,⟨2,.str,10,[Zft]⟩),(.loc 7,⟨3,.str,4,[[.i .i64 0,.i .i64 0,.i .i64 0,.i .i64 0]]⟩),(.loc 11,⟨4,.str,2,[[.sl A0 .an,.sl A1 .an]]⟩)],6⟩
def Zkg(k s a:Int):Ex×St:=(.r,⟨[(6,.ptr (.loc 6) 1 10 0 0),(7,.ptr (.loc 7) 2 4 0 0)],[(.loc 6,⟨1,.str,10,[Zft]⟩),(.loc 7,⟨2,.str,4,[[.i .i64 k,.i .i64 s,.i .i64 0,.i .i64 a]]⟩)],4⟩)
theorem z0v(p:Pb)(i:Nat)(ts:List Fz)(ys:List (List Fz))(A0 A1 F:List (List AV))(t:Fz)(y:List Fz)(h1:ts[i]? = some t)(h2:ys[i]? = some y)(hi:i≤2000)(hF:wkL F=F)(hA:wkL A1=A1)
  (c:Za T 577 [epb p,efz t,.sl (Zc y) .an]=some (.tup [.sl F .an,Zkf])):evX (orc T) T 0 l569_0 (Ze0 p i 0 ts ys A0 A1)=some (.n,Ze0 p i 1 ts ys F A1):=by
 obtain⟨l1,e1⟩:=Yd.1 h1;obtain⟨l2,e2⟩:=Yd.1 h2;have w0:IntKind.wrap .i64 (i:Int)=i:=zac _ (by omega);have l1':(i:Int)<ts.length:=by omega
 have l2':(i:Int)<ys.length:=by omega
 unfold Ze0 Zhi Zft;obtain⟨⟨code,outs,dim,par⟩,⟨nm,c',a,b,e⟩,pp,bits⟩:=p;simp -implicitDefEqProofs[l569_0,e1,e2,l1,l2,l1',l2',w0,c,hF,hA]
theorem z0w(p:Pb)(i:Nat)(ts:List Fz)(ys:List (List Fz))(A0 A1 F:List (List AV))(t:Fz)(y:List Fz)(h1:ts[i+1]? = some t)(h2:ys[i+1]? = some y)(hi:i≤2000)(hF:wkL F=F)(hA:wkL A0=A0)
  (c:Za T 577 [epb p,efz t,.sl (Zc y) .an]=some (.tup [.sl F .an,Zkf])):evX (orc T) T 0 l569_0 (Ze0 p i 1 ts ys A0 A1)=some (.n,Ze0 p i 2 ts ys A0 F):=by
 obtain⟨l1,e1⟩:=Yd.1 h1;obtain⟨l2,e2⟩:=Yd.1 h2;have w0:IntKind.wrap .i64 ((i:Int)+1)=((i+1:Nat):Int):=zac _ (by omega);have l1':(i:Int)+1<ts.length:=by omega
 have l2':(i:Int)+1<ys.length:=by omega
 have n1:((i:Int)+1).toNat=i+1:=by omega
 unfold Ze0 Zhi Zft;obtain⟨⟨code,outs,dim,par⟩,⟨nm,c',a,b,e⟩,pp,bits⟩:=p;simp -implicitDefEqProofs[l569_0,e1,e2,l1,l2,l1',l2',w0,n1,c,hF,hA]
theorem z8f(p:Pb)(i:Nat)(ts:List Fz)(ys:List (List Fz))(A0 A1 F:List (List AV))(t:Fz)(y:List Fz)(kd a:Nat)(hk:kd≠0)(h1:ts[i]? = some t)(h2:ys[i]? = some y)(hi:i≤2000)(hF:wkL F=F)
  (c:Za T 577 [epb p,efz t,.sl (Zc y) .an]=some (.tup [.sl F .an,Zcf kd 0 0 a])):Zd4 (evX (orc T) T 0 l569_0 (Ze0 p i 0 ts ys A0 A1))=true∧Zdg 0 0 (.norm false [2,6,7,9,10,11]) (evX (orc T) T 0 l569_0 (Ze0 p i 0 ts ys A0 A1))=some (Zkg kd (i+1:Nat) a):=by
 obtain⟨l1,e1⟩:=Yd.1 h1;obtain⟨l2,e2⟩:=Yd.1 h2;have w0:IntKind.wrap .i64 (i:Int)=i:=zac _ (by omega);have w1:IntKind.wrap .i64 ((i:Int)+1)=((i+1:Nat):Int):=zac _ (by omega);have l1':(i:Int)<ts.length:=by omega
 have l2':(i:Int)<ys.length:=by omega
 unfold Ze0 Zhi Zkg Zft;obtain⟨⟨code,outs,dim,par⟩,⟨nm,c',a,b,e⟩,pp,bits⟩:=p;constructor<;>simp -implicitDefEqProofs[l569_0,e1,e2,l1,l2,l1',l2',w0,w1,c,hk]
theorem z8g(p:Pb)(i:Nat)(ts:List Fz)(ys:List (List Fz))(A0 A1 F:List (List AV))(t:Fz)(y:List Fz)(kd a:Nat)(hk:kd≠0)(h1:ts[i+1]? = some t)(h2:ys[i+1]? = some y)(hi:i≤2000)(hF:wkL F=F)
  (c:Za T 577 [epb p,efz t,.sl (Zc y) .an]=some (.tup [.sl F .an,Zcf kd 0 0 a])):Zd4 (evX (orc T) T 0 l569_0 (Ze0 p i 1 ts ys A0 A1))=true∧Zdg 0 0 (.norm false [2,6,7,9,10,11]) (evX (orc T) T 0 l569_0 (Ze0 p i 1 ts ys A0 A1))=some (Zkg kd (i+2:Nat) a):=by
 obtain⟨l1,e1⟩:=Yd.1 h1;obtain⟨l2,e2⟩:=Yd.1 h2;have w0:IntKind.wrap .i64 ((i:Int)+1)=((i+1:Nat):Int):=zac _ (by omega);have w1:IntKind.wrap .i64 ((i:Int)+1+1)=((i+2:Nat):Int):=zac _ (by omega);have l1':(i:Int)+1<ts.length:=by omega
 have l2':(i:Int)+1<ys.length:=by omega
 have n1:((i:Int)+1).toNat=i+1:=by omega
 unfold Ze0 Zhi Zkg Zft;obtain⟨⟨code,outs,dim,par⟩,⟨nm,c',a,b,e⟩,pp,bits⟩:=p;constructor<;>simp -implicitDefEqProofs[l569_0,e1,e2,l1,l2,l1',l2',w0,w1,n1,c,hk]
def Znl(i:Nat)(ts:List Fz)(ys:List (List Fz))(A0 A1:List (List AV)):Ex×St:=
 (.n,⟨[(2,.i .i64 i),(6,.ptr (.loc 6) 1 10 0 0),(7,.ptr (.loc 7) 2 4 0 0),(9,.sl (Zc ts) .an),(10,.sl (Zv ys) .an),(11,.ptr (.loc 11) 3 2 0 0)],
  [(.loc 6,⟨1,.str,10,[Zft]⟩),(.loc 7,⟨2,.str,4,[[.i .i64 0,.i .i64 0,.i .i64 0,.i .i64 0]]⟩),(.loc 11,⟨3,.str,2,[[.sl A0 .an,.sl A1 .an]]⟩)],5⟩)
theorem zacu(p:Pb)(i:Nat)(ts:List Fz)(ys:List (List Fz))(A0 A1:List (List AV))(h0:wkL A0=A0)(h1:wkL A1=A1):Zd4 (evX (orc T) T 0 l569_0 (Ze0 p i 2 ts ys A0 A1))=true∧Zdg 0 0 (.norm false [2,6,7,9,10,11]) (evX (orc T) T 0 l569_0 (Ze0 p i 2 ts ys A0 A1))=some (Znl i ts ys A0 A1):=by
 unfold Ze0 Zhi Znl Zft;constructor<;>simp -implicitDefEqProofs[l569_0,h0,h1]
theorem z8h(p:Pb)(i:Nat)(ts:List Fz)(ys:List (List Fz))(t u:Fz)(y z:List Fz)(A B:List Rat×Nat×Nat)(g1:ts[i]? = some t)(g2:ys[i]? = some y)(g3:ts[i+1]? = some u)(g4:ys[i+1]? = some z)(hi:i≤2000)
  (c1:Za T 577 [epb p,efz t,.sl (Zc y) .an]=some (.tup [.sl (Zc (fzs A.1)) .an,Zcf A.2.1 0 0 A.2.2])) (c2:Za T 577 [epb p,efz u,.sl (Zc z) .an]=some (.tup [.sl (Zc (fzs B.1)) .an,Zcf B.2.1 0 0 B.2.2]))
  (ha:A.2.1=0→A.2.2=0) (hb:B.2.1=0→B.2.2=0) :
  Ze T 0 0 (.norm false [2,6,7,9,10,11]) l569_0 (Ze0 p i 0 ts ys [] [])=some (if A.2.1≠0 then Zkg A.2.1 (i+1:Nat) A.2.2 else if B.2.1≠0 then Zkg B.2.1 (i+2:Nat) B.2.2 else Znl i ts ys (Zc (fzs A.1)) (Zc (fzs B.1))):=by
 by_cases hA:A.2.1=0
 ·rw[hA,ha hA]at c1;have r0:=z0v (T:=T) p i ts ys [] [] _ t y g1 g2 hi (zbt (fzs A.1)) rfl c1;by_cases hB:B.2.1=0
  ·rw[hB,hb hB]at c2;have r1:=z0w (T:=T) p i ts ys (Zc (fzs A.1)) [] _ u z g3 g4 hi (zbt (fzs B.1)) (zbt _) c2;have r2:=zacu (T:=T) p i ts ys (Zc (fzs A.1)) (Zc (fzs B.1)) (zbt _) (zbt _);refine zav (α:=Nat) (fun k=>Ze0 p i k ts ys (if k=0 then [] else Zc (fzs A.1)) (if k=2 then Zc (fzs B.1) else [])) (fun k=>k≤2) (fun k=>2-k) (fun _=>_) (fun k hk=>?_) 0 (by decide)
   grind
  ·have r1:=z8g (T:=T) p i ts ys (Zc (fzs A.1)) [] _ u z _ _ hB g3 g4 hi (zbt (fzs B.1)) c2;refine zav (α:=Nat) (fun k=>Ze0 p i k ts ys (if k=0 then [] else Zc (fzs A.1)) []) (fun k=>k≤1) (fun k=>1-k) (fun _=>_) (fun k hk=>?_) 0 (by decide)
   grind
 ·rw[if_pos hA];have r0:=z8f (T:=T) p i ts ys [] [] _ t y _ _ hA g1 g2 hi (zbt (fzs A.1)) c1;exact zav (α:=Nat) (fun k=>Ze0 p i 0 ts ys [] []) (fun k=>k=0) (fun k=>k) (fun _=>_) (fun k hk=>.inr r0) 0 rfl
theorem z0x(p:Pb)(h:Hs)(i:Nat)(hp:PbS p)(hh:HsS h 400)(hR:Z5 h=true)(hP:okP p=true)(hd:(h.y.length:Int)=p.t.dim)(t u:Fz)(y z:List Fz)
  (g1:(Zx h)[i]? = some t) (g2:(Zaq h)[i]? = some y) (g3:(Zx h)[i+1]? = some u) (g4:(Zaq h)[i+1]? = some z) :
  Za T 569 [epb p,ehs h,.i .i64 i]=some (ofR (Zm p t y) (Zm p u z) i t u y z):=by
 have c1:=zb1 (T:=T) h hh;have c2:=zb3 (T:=T) p hp;have c3:=zc2 (T:=T) h (hh.mono (by decide));rw[hR]at c1;rw[hP]at c2;have hB:HsS h 1000:=hh.mono (by decide);have zt:=zcl hh (by decide) t (Yf g1);have zu:=zcl hh (by decide) u (Yf g3);obtain⟨zy,ly⟩:=zeo hB (by decide) y (Yf g2);obtain⟨zz,lz⟩:=zeo hB (by decide) z (Yf g4);have s1:=zj8 (T:=T) p t y hp (by omega) zy ly;have s2:=zj8 (T:=T) p u z hp (by omega) zz lz;rw[if_pos hP]at s1 s2;have hlen:=zd7 hh;obtain⟨l1,e1⟩:=Yd.1 g1;obtain⟨l3,e3⟩:=Yd.1 g3;obtain⟨l2,e2⟩:=Yd.1 g2;obtain⟨l4,e4⟩:=Yd.1 g4;have lp:=z8h (T:=T) p i (Zx h) (Zaq h) t u y z (Zm p t y) (Zm p u z) g1 g2 g3 g4 (by omega) s1 s2 zpg zpg;have c5:=zmj (T:=T) u t (by omega) (by omega);have w0:IntKind.wrap .i64 (((Zx h).length:Int)-1)=(Zx h).length-1:=zac _ (by omega);have w1:IntKind.wrap .i64 ((i:Int)+1)=((i+1:Nat):Int):=zac _ (by omega);have k1:¬ ((Zx h).length:Int)-1≤i:=by omega
 have k2:¬ (i:Int)<0:=by omega
 have l1':(i:Int)<(Zx h).length:=by omega
 have l2':(i:Int)<(Zaq h).length:=by omega
 have l3':(i:Int)+1<(Zx h).length:=by omega
 have l4':(i:Int)+1<(Zaq h).length:=by omega
 have n1:((i:Int)+1).toNat=i+1:=by omega
 unfold ofR;unfold Ze0 Zhi at lp;simp only[Yl]at lp;rw[zaa Zba.h569 rfl,b569];generalize Zm p t y=A at *
 generalize Zm p u z=B at *
 obtain⟨A1,A2,A3⟩:=A;obtain⟨B1,B2,B3⟩:=B;dsimp only at *
 by_cases hA:A2=0
 ·rw[if_neg (by omega)]at lp ⊢;by_cases hB:B2=0
  ·rw[if_neg (by omega)]at lp ⊢;unfold Znl Zft at lp;simp -implicitDefEqProofs[c1,c2,c3,hd,e1,e2,e3,e4,l1,l2,l3,l4,l1',l2',l3',l4',w0,w1,k1,k2,n1,lp,c5]
  ·rw[if_pos hB]at lp ⊢;unfold Zkg Zft at lp;simp -implicitDefEqProofs[c1,c2,c3,hd,w0,k1,k2,lp]
 ·rw[if_pos hA]at lp ⊢;unfold Zkg Zft at lp;simp -implicitDefEqProofs[c1,c2,c3,hd,w0,k1,k2,lp]
end
end Go.Ab
end
section
namespace Go.Ab
def Zha(l:List Tr)(t:Fz):List Rat:=(l.filter (·.ok)).map (fun r=>fv r.t)++[fv t]
theorem zs0:∀(l:List Tr) (t:Fz) (y:List Fz),Zct l t y=true→l.all Zcx=true→List.Pairwise (· < ·) (Zha l t)∧∀q∈Zha l t,fv (Zc6 l t y).1≤q
 | [],t,y,_,_=>⟨by simp[Zha],fun q hq=>by simp[Zha]at hq;rw[hq];exact Rat.le_refl⟩
 | r::l,t,y,hc,hs=>by
  simp only[Zct,Yh]at hc;simp only[Yam,Yh]at hs;obtain⟨h1,h2⟩:=zs0 l t y hc.2 hs.2;have hz:=hs.1;unfold Zcx at hz;simp only[Yh,decide_eq_true_eq]at hz;have hpos:0<fv r.h:=hz.1.1.2;have hf:=hc.1;unfold Zf9 at hf;have e0:(Zc6 (r::l) t y).1=r.t:=rfl;rw[e0];cases hok:r.ok with
  | true=>
   rw[hok]at hf;simp only[if_true,decide_eq_true_eq]at hf;have ev:Zha (r::l) t=fv r.t::Zha l t:=by unfold Zha;rw[Ydm,hok];rfl
   rw[ev];have hlt:∀q∈Zha l t,fv r.t<q:=fun q hq=>by have:=h2 q hq;rw[hf]at this;grind
   exact⟨List.pairwise_cons.2 ⟨hlt,h1⟩,fun q hq=>by
    rcases Y7.1 hq with rfl | hq
    ·exact Rat.le_refl
    ·exact Rat.le_of_lt (hlt q hq)⟩
  | false=>
   rw[hok]at hf;simp only[Y2,if_false,Yh,decide_eq_true_eq]at hf;have ev:Zha (r::l) t=Zha l t:=by unfold Zha;rw[Ydm,hok];rfl
   rw[ev,←hf.1];exact⟨h1,h2⟩
theorem z0y(h:Hs):(Zx h).map fv=Zha h.l h.t:=by
 unfold Zx Zha Zcp Zjz;simp[Yd2,Function.comp_def]
theorem zhr{h:Hs}(e:Z5 h=true):Zc5 h=true∧Zhj h=true∧Zfu h=true∧Ze9 h=true:=by
 unfold Z5 Zd9 at e;simp only[decide_eq_true_eq]at e;cases h1:Zc5 h<;>simp[h1]at e;cases h2:Zhj h<;>simp[h2]at e;by_cases h3:200<h.l.length
 ·simp[h3]at e
 cases h4:Zfu h<;>simp[h3,h4]at e;cases h5:Ze9 h<;>simp[h3,h5]at e;exact⟨rfl,rfl,rfl,rfl⟩
theorem zs1{h:Hs}(e:Z5 h=true):List.Pairwise (· < ·) ((Zx h).map fv):=by
 obtain⟨_,_,h3,h4⟩:=zhr e;rw[z0y];exact(zs0 h.l h.t h.y h4 h3).1
theorem zg0{h:Hs}(e:Z5 h=true):∀y∈Zaq h,y.length=h.y.length:=by
 obtain⟨_,h2,_,_⟩:=zhr e;unfold Zhj at h2;simp only[Yh,Ym,decide_eq_true_eq]at h2;intro y hy;unfold Zaq at hy;rcases Yag.1 hy with hy | hy
 ·obtain⟨r,hr,rfl⟩:=Yx.1 hy;unfold Zcp at hr;obtain⟨q,hq,rfl⟩:=Yx.1 hr;have:=h2.1 q (Ydq.1 hq).1;show (nrm q.y).length=_;simpa[nrm]using this
 ·rw[Ybe.1 hy];simp[nrm]
theorem zlp{lim:Nat}{t:Tp}{P:Po}(h:(Zce lim t P).2.1=0):(Zce lim t P).1.length=t.outs.length:=by
 unfold Zce at h ⊢;by_cases hk:(Zdq lim t P).2.1=0
 ·rw[if_pos hk];simp[Zcl]
 ·rw[if_neg hk]at h;exact absurd h hk
theorem zs2{lim:Nat}{P:Po}:∀(l:List Ins) (D:List Rat),(∀q∈D,sz q≤lim/32+1)→∀q∈(Za3 lim P l D).1,sz q≤lim/32+1
 | [],D,h=>h
 | i::r,D,h=>by
  rw[zbz];split
  ·simp
  ·split
   ·simp
   ·rename_i hf;refine zs2 r _ fun q hq=>?_;rcases Yag.1 hq with hq | hq
    ·exact h q hq
    ·rw[Ybe.1 hq];exact zj0 (q:=(Z6 P D i).1) (b:=lim) (by omega)
theorem zlq{lim:Nat}{t:Tp}{P:Po}:∀q∈(Zce lim t P).1,sz q≤lim/32+1:=by
 intro q hq;unfold Zce at hq;by_cases hk:(Zdq lim t P).2.1=0
 ·rw[if_pos hk]at hq;unfold Zcl at hq;obtain⟨o,_,rfl⟩:=Yx.1 hq;refine zkq (by omega) ?_;unfold Zdq;split
  ·exact zs2 t.code [] (by simp)
  ·simp
 ·rw[if_neg hk]at hq;cases hq
end Go.Ab
end
section
namespace Go.Ab
theorem zacv{t:Tp}{many words:Nat}(h:Zid t many words=false)(hm:many≤1000)(hw:words≤1000)(d1:-9223372036854775808≤t.dim)(d2:t.dim<9223372036854775808):TpS t:=by
 obtain⟨h1,h2,h3⟩:=zjf h;exact⟨⟨by omega,by omega,fun i hi=>by grind,d1,d2⟩,fun i hi=>by grind⟩
section
variable{T:Tbl}[Zaj T][Zs T][Z2 T][Z4 T][Zu T][Zw T][Zf T][Zl T][Zp T][Zah T][Za4 T][Zdh T][Zal T][Zar T][Zbs T][Zas T][Zew T][Zap T][Za0 T][Zaz T][Zbr T][Zam T][Zej T][Zc1 T][Zag T][Zdn T][Zbg T][Zba T]
theorem zph(p:Pb)(h:Hs)(s:Fz)(hp:PbS p)(hh:HsS h 400)(hb:¬ (Z5 h=true∧okP p=true∧(h.y.length:Int)=p.t.dim)):Za T 570 [epb p,ehs h,efz s]=some (.tup [.sl [] .an,Zcf 2 0 0 0]):=by
 have c1:=zb1 (T:=T) h hh;have c2:=zb3 (T:=T) p hp;rw[zaa Zba.h570 rfl,b570];generalize Z5 h=A at *
 generalize okP p=B at *
 obtain⟨⟨code,outs,dim,par⟩,⟨nm,c',a,b,e⟩,pp,bits⟩:=p;obtain⟨L,ht,hy⟩:=h;cases A with
 | false=>simp -implicitDefEqProofs[c1]
 | true=>
 cases B with
 | false=>simp -implicitDefEqProofs[c1,c2]
 | true=>
  have hd:¬ (hy.length:Int)=dim:=fun h=>hb ⟨rfl,rfl,h⟩;simp -implicitDefEqProofs[c1,c2,hd]
def Zku(A B:List Rat×Nat×Nat)(i:Nat)(R:List (List AV)):AV:=
 if A.2.1≠0 then .tup [.sl [] .an,Zcf A.2.1 (i+1:Nat) 0 A.2.2]
 else if B.2.1≠0 then .tup [.sl [] .an,Zcf B.2.1 (i+2:Nat) 0 B.2.2]
 else .tup [.sl R .an,Zkf]
theorem z4c(p:Pb)(h:Hs)(s:Fz)(i:Nat)(hp:PbS p)(hh:HsS h 400)(hs:fsz s≤1000)(hR:Z5 h=true)(hP:okP p=true)(hd:(h.y.length:Int)=p.t.dim)(t u:Fz)(y z:List Fz)
  (g1:(Zx h)[i]? = some t) (g2:(Zaq h)[i]? = some y) (g3:(Zx h)[i+1]? = some u) (g4:(Zaq h)[i+1]? = some z) (hpl:Ziv (fv s) (Zx h)=some i) (R:List (List AV)) (bb:Bool) (hwk:wkL R=R)
  (ca:(Zm p t y).2.1=0→(Zm p u z).2.1=0→Za T 324 [agS t (fz (fv u-fv t)) y z (fzs (Zm p t y).1) (fzs (Zm p u z).1),efz s]=some (.tup [.sl R .an,.b bb])) :
  Za T 570 [epb p,ehs h,efz s]=some (Zku (Zm p t y) (Zm p u z) i R):=by
 have c1:=zb1 (T:=T) h hh;have c2:=zb3 (T:=T) p hp;have c3:=zc2 (T:=T) h (hh.mono (by decide));have c4:=zhq (T:=T) h s hh hs;have c5:=z0x (T:=T) p h i hp hh hR hP hd t u y z g1 g2 g3 g4;rw[hR]at c1 c4;rw[if_pos rfl,hpl]at c4;rw[hP]at c2;obtain⟨l3,_⟩:=Yd.1 g3;have hn:¬ ((Zx h).length:Int)=1:=by omega
 unfold Zku;unfold ofR at c5;unfold Zbe at c4;rw[zaa Zba.h570 rfl,b570];generalize Zm p t y=A at *
 generalize Zm p u z=B at *
 obtain⟨A1,A2,A3⟩:=A;obtain⟨B1,B2,B3⟩:=B;dsimp only at *
 by_cases hA:A2=0
 ·rw[if_neg (by omega)]at c5 ⊢;by_cases hB:B2=0
  ·rw[if_neg (by omega)]at c5 ⊢;have ca':=ca hA hB;simp -implicitDefEqProofs[c1,c2,c3,c4,c5,hd,hn,ca',hwk]
  ·have hB':¬ (B2:Int)=0:=by omega
   simp -implicitDefEqProofs[c1,c2,c3,c4,c5,hd,hn,hB]
 ·have hA':¬ (A2:Int)=0:=by omega
  simp -implicitDefEqProofs[c1,c2,c3,c4,c5,hd,hn,hA]
end
section
variable{T:Tbl}[Zaj T][Zs T][Z2 T][Z4 T][Zu T][Zw T][Zf T][Zl T][Zp T][Zah T][Za4 T][Zdh T][Zal T][Zar T][Zbs T][Zas T][Zew T][Zap T][Za0 T][Zaz T][Zbr T][Zam T][Zej T][Zc1 T][Zag T][Zdn T][Zbg T][Zba T]
variable[Z0 T][Z7 T][Zy T][Zaa T][Zz T][Zab T][Zk T][Zac T][Zfq T][Zb1 T][Zbq T][Zei T][Zgp T][Zdr T][Za5 T][Zex T][Ze6 T][Za9 T][Zds T][Ze7 T][Zk2 T]
def Zrl(p:Pb)(h:Hs)(ts:List Fz)(ys:List (List Fz))(i:Nat):St:=
 ⟨[(5,.ptr (.loc 5) 1 11 0 0),(6,.ptr (.loc 6) 2 5 0 0),(7,.sl (Zc ts) .an),(8,.sl (Zv ys) .an),(9,.i .i64 i)],
  [(.loc 5,⟨1,.str,11,[Zhi p]⟩),(.loc 6,⟨2,.str,5,[[.sl (Zax h.l) .an,.b h.t.1,.sl (Zb h.t.2.1) .an,.sl (Zb h.t.2.2) .an,.sl (Zc h.y) .an]]⟩)],4⟩
end
end Go.Ab
end
section
namespace Go.Ab
def plR(s:Rat):List Fz→Nat→Option Nat
 | t::u::r,i=>if (fv t<s∨i=0∧s=fv t)∧s≤fv u then some i else plR s (u::r) (i+1)
 | _,_=>none
theorem zgz(s:Rat)(t u:Fz)(r:List Fz)(i:Nat):plR s (t::u::r) i=if (fv t<s∨i=0∧s=fv t)∧s≤fv u then some i else plR s (u::r) (i+1):=rfl
theorem zo6(s:Rat):∀(l:List Fz) (t:Fz) (i:Nat),fv t<s→plR s (t::l) i=Zf2 s l i
 | [],_,_,_=>rfl
 | u::r,t,i,h=>by
  rw[zgz,Zf2];by_cases hu:s≤fv u
  ·rw[if_pos ⟨.inl h,hu⟩,if_pos hu]
  ·rw[if_neg (fun x=>hu x.2),if_neg hu];exact zo6 s r u (i+1) (by grind)
theorem zo7(s:Rat):∀(l:List Fz) (t:Fz) (i:Nat),0<i→s≤fv t→List.Pairwise (· < ·) ((t::l).map fv)→plR s (t::l) i=none
 | [],_,_,_,_,_=>rfl
 | u::r,t,i,hi,h,hp=>by
  rw[zgz,if_neg (by rintro⟨h1 | h1,_⟩<;>grind)];rw[Yaa,List.pairwise_cons]at hp;have:=hp.1 (fv u) (by simp);exact zo7 s r u (i+1) (by omega) (by grind) hp.2
theorem zz7(s:Rat)(ts:List Fz)(hp:List.Pairwise (· < ·) (ts.map fv)):plR s ts 0=Ziv s ts:=by
 cases ts with
 | nil=>rfl
 | cons t l=>
  show plR s (t::l) 0=if s<fv t then none else Zf2 s l 0
  by_cases h1:s<fv t
  ·rw[if_pos h1];cases l with
   | nil=>rfl
   | cons u r=>
    grind[zgz,List.pairwise_cons,zo7]
  ·rw[if_neg h1];by_cases h2:s=fv t
   ·cases l with
    | nil=>rfl
    | cons u r=>
     grind[List.pairwise_cons,zgz,Zf2]
   ·exact zo6 s l t 0 (by grind)
def plI:Option Nat→Int
 | some i=>i
 | none=>-1
theorem zfo{h:Hs}(hR:Z5 h=true):Znh h=Zx h∧Zni h=Zaq h:=by
 have hp:=(zhr hR).1;unfold Zc5 at hp;simp only[Yh]at hp;obtain⟨h1,h2,h3⟩:=hp;have e:∀r∈h.l,(Zjz r).t=r.t∧(Zjz r).y=r.y:=by
  intro r hr;have:=Ym.1 h1 r hr;simp only[Yh]at this;refine⟨zcd this.1 (x:=r.t) (by simp[Tr.nums]),?_⟩;have k:=zhl r.y;rw[this.2]at k;exact of_decide_eq_true k
 grind[Zae,zhl,Znh,Zni,Zx,Zaq,Zcp,List.map_congr_left]
theorem zd6{h:Hs}:∀t∈Zx h,fz (fv t)=t:=by
 intro t ht;rcases Yag.1 ht with ht | ht
 ·obtain⟨r,hr,rfl⟩:=Yx.1 ht;obtain⟨q,hq,rfl⟩:=Yx.1 hr;show fz (fv (fz (fv q.t)))=fz (fv q.t);rw[za7]
 simp_all
theorem zen{h:Hs}:∀y∈Zaq h,y=fzs (y.map fv):=by
 have e:∀l:List Fz,nrm l=fzs ((nrm l).map fv):=by
  grind[nrm,fzs,List.map_congr_left,za7]
 intro y hy;rcases Yag.1 hy with hy | hy
 ·obtain⟨r,hr,rfl⟩:=Yx.1 hy;obtain⟨q,hq,rfl⟩:=Yx.1 hr;exact e q.y
 grind
section
variable{T:Tbl}[Z0 T][Z7 T][Zy T][Zaa T][Zz T][Zab T][Zk T][Zac T][Zcw T][Zd6 T][Za1 T][Zc2 T][Zb2 T][Zbk T][Zcr T][Zd5 T][Za5 T][Zcs T][Zch T]
def Zgs(s:Fz)(ts:List Fz)(i:Nat):St:=⟨[(3,.ptr (.loc 3) 1 3 0 0),(5,.sl (Zc ts) .an),(7,.i .i64 i)],[(.loc 3,⟨1,.str,3,[Z1 s]⟩)],3⟩
def Zfs:Option Nat→Ex×St
 | some i=>(.r,⟨[(4,.i .i64 i)],[],2⟩)
 | none=>(.n,⟨[],[],2⟩)
theorem zz8(s t u t0:Fz)(ts:List Fz)(i:Nat)(hl:ts.length≤1001)(g1:ts[i]? = some t)(g2:ts[i+1]? = some u)(g0:ts[0]? = some t0)(a b:Int)(S:Bool)
  (c1:Za T 243 [efz s,efz t]=some (.i .i64 a)) (c2:Za T 243 [efz s,efz u]=some (.i .i64 b)) (c3:Za T 233 [efz s,efz t0]=some (.b S)) (h0:i=0→t0=t) :
  ((0<a∨i=0∧S=true)∧b≤0→Zd4 (evX (orc T) T 0 l572_0 (Zgs s ts i))=true∧Zdg 0 0 (.norm false []) (evX (orc T) T 0 l572_0 (Zgs s ts i))=some (Zfs (some i))) ∧
  (¬ ((0<a∨i=0∧S=true)∧b≤0)→evX (orc T) T 0 l572_0 (Zgs s ts i)=some (.n,Zgs s ts (i+1))):=by
 obtain⟨l1,e1⟩:=Yd.1 g1;obtain⟨l2,e2⟩:=Yd.1 g2;obtain⟨l0,e0⟩:=Yd.1 g0;have hw:IntKind.wrap .i64 ((i:Int)+1)=((i+1:Nat):Int):=by rw[zac _ (by omega)];omega
 have l1':(i:Int)<ts.length:=by omega
 have l2':(i:Int)+1<ts.length:=by omega
 have l3':(i:Int)+1<ts.length:=by omega
 have hci:((i:Int)+1).toNat=i+1:=by omega
 unfold Zgs;obtain⟨u1,u2,u3⟩:=u;by_cases ha:0<a
 ·by_cases hb:b≤0
  ·unfold Zfs;constructor<;>simp -implicitDefEqProofs[l572_0,l1,l2,l1',l2',e1,e2,hw,hci,c1,c2,ha,hb]
  ·simp -implicitDefEqProofs[l572_0,l1,l2,l1',l2',e1,e2,hw,hci,c1,c2,ha,hb]
 ·by_cases hi:i=0
  ·have ht0:=h0 hi;subst hi ht0;have m1:(1:Int)<ts.length:=by omega
   have m2:1<ts.length:=by omega
   have e2':ts[1]'m2=(u1,u2,u3):=e2;cases S with
   | true=>
    by_cases hb:b≤0
    ·unfold Zfs;constructor<;>simp -implicitDefEqProofs[l572_0,l0,e1,e2',m1,m2,c1,c2,c3,ha,hb]
    ·simp -implicitDefEqProofs[l572_0,l0,e1,e2',m1,m2,c1,c2,c3,ha,hb]
   | false=>
    simp -implicitDefEqProofs[l572_0,l0,e1,m1,c1,c3,ha]
  ·have hi':¬ (i:Int)=0:=by omega
   simp -implicitDefEqProofs[l572_0,l1,l1',l2',e1,hw,c1,ha,hi]
theorem z30(s:Rat)(ts:List Fz)(hs:sz s≤1000)(hl:ts.length≤1001)(h0:0<ts.length)(hw:∀x∈ts,fsz x≤1000)(hr:∀t∈ts,fz (fv t)=t) :
  Ze T 0 0 (.norm false []) l572_0 (Zgs (fz s) ts 0)=some (Zfs (plR s ts 0)):=by
 have key:=zak (T:=T) (k:=0) (id:=0) (g2:=.norm false []) (c:=l572_0) (Zgs (fz s) ts) (ts.length-1) (fun i=>some (Zfs (plR s (ts.drop i) i))) (fun i hi=>?_) ?_
 ·grind
 ·have h1:i<ts.length:=by omega
  have h2:i+1<ts.length:=by omega
  have g1:ts[i]? = some (ts[i]'h1):=Ya h1;have g2:ts[i+1]? = some (ts[i+1]'h2):=Ya h2;have g0:ts[0]? = some (ts[0]'h0):=Ya h0;have key:plR s (ts.drop i) i=if (fv (ts[i]'h1)<s∨i=0∧s=fv (ts[i]'h1))∧s≤fv (ts[i+1]'h2) then some i else plR s (ts.drop (i+1)) (i+1):=by
   grind[List.drop_eq_getElem_cons,zgz]
  have hz:i=0→ts[i]'h1=ts[0]'h0:=fun h=>by grind
  have w1:=hw _ (Yi h1);have w2:=hw _ (Yi h2);have r1:=hr _ (Yi h1);have r2:=hr _ (Yi h2);generalize ts[i]'h1=t at *
  generalize ts[i+1]'h2=u at *
  generalize ts[0]'h0=t0 at *
  have c1:=zhm (T:=T) s (fv t) hs (za4 w1 (by decide));have c2:=zhm (T:=T) s (fv u) hs (za4 w2 (by decide));rw[r1]at c1;rw[r2]at c2;have c3:=za8 (T:=T) (fz s) t0 (by rw[zar];omega);have d3:decide (fz s=t0)=decide (s=fv t0):=by
   grind[za7]
  have e1:(fv t<s)↔0<sgQ (s-fv t):=by rw[zdi];grind
  have e2:(s≤fv u)↔sgQ (s-fv u)≤0:=by
   grind[zdi]
  obtain⟨k1,k2⟩:=zz8 (T:=T) (fz s) t u t0 ts i hl g1 g2 g0 _ _ _ c1 c2 c3 (fun h=>(hz h).symm)
  grind
 ·have e:plR s (ts.drop (ts.length-1)) (ts.length-1)=none:=by
   rw[Ye (show ts.length-1<ts.length by omega),Yb0 (by omega)]
   rfl
  rw[e];have hx:((ts.length-1:Nat):Int)=(ts.length:Int)-1:=by omega
  have hw1:IntKind.wrap .i64 ((ts.length:Int)-1+1)=(ts.length:Int):=by rw[zac _ (by omega)];omega
  have hw2:IntKind.wrap .i64 (ts.length:Int)=(ts.length:Int):=zac _ (by omega);unfold Zgs Zfs;rw[hx];generalize fz s=z at *
  obtain⟨z1,z2,z3⟩:=z;constructor<;>simp -implicitDefEqProofs[l572_0,hw2]
theorem zrc(h:Hs)(s:Rat)(hs:sz s≤1000)(hh:HsS h 400)(hR:Z5 h=true):Za T 572 [ehs h,efz (fz s)]=some (.i .i64 (plI (Ziv s (Zx h)))):=by
 have c:=zf7 (T:=T) h hh.len;rw[(zfo hR).1,(zfo hR).2]at c;have h0:0<(Zx h).length:=by simp[Zx]
 have hl:=z30 (T:=T) s (Zx h) hs (zd7 hh) h0 (fun x hx=>Yc (zcl hh (by decide) x hx) (by decide)) zd6;rw[zz7 s _ (zs1 hR)]at hl;unfold Zgs at hl;simp only[Yl]at hl;rw[zaa Zch.h572 rfl,b572];generalize Ziv s (Zx h)=P at *
 generalize fz s=z at *
 cases P with
 | none=>unfold Zfs at hl;unfold plI;simp -implicitDefEqProofs[c,hl]
 | some i=>unfold Zfs at hl;unfold plI;simp -implicitDefEqProofs[c,hl]
theorem zdf(t h:Fz)(y0 y1 f0 f1:List Fz)(ht:fsz t≤10000)(hh:fsz h≤10000)(hl:∀r∈[y0,y1,f0,f1],r.length≤1000)(hw:∀r∈[y0,y1,f0,f1],∀x∈r,fsz x≤10000) :
  Za T 573 [agS t h y0 y1 f0 f1,agS t h y0 y1 f0 f1]=some (.b true):=by
 have c1:=za8 (T:=T) t t ht;have c2:=za8 (T:=T) h h hh;have c3:=zcc (T:=T) y0 y0 (hl y0 (by simp)) (hw y0 (by simp));have c4:=zcc (T:=T) y1 y1 (hl y1 (by simp)) (hw y1 (by simp));have c5:=zcc (T:=T) f0 f0 (hl f0 (by simp)) (hw f0 (by simp));have c6:=zcc (T:=T) f1 f1 (hl f1 (by simp)) (hw f1 (by simp));rw[zaa Zch.h573 rfl,b573];simp -implicitDefEqProofs[c1,c2,c3,c4,c5,c6]
def ofD(A B:List Rat×Nat×Nat)(i:Nat)(t u:Fz)(y z:List Fz):AV:=
 if A.2.1≠0 then .tup [Zlj,.agg [.i .i64 A.2.1,.i .i64 (i+1:Nat),.i .i64 A.2.2]]
 else if B.2.1≠0 then .tup [Zlj,.agg [.i .i64 B.2.1,.i .i64 (i+2:Nat),.i .i64 B.2.2]]
 else .tup [agS t (fz (fv u-fv t)) y z (fzs A.1) (fzs B.1),.agg [.i .i64 0,.i .i64 0,.i .i64 0]]
theorem zz9(p:Pb)(t:Fz)(y:List Fz)(hp:PbS p)(hP:okP p=true)(ht:fz (fv t)=t)(hy:y=fzs (y.map fv))(hd:(y.length:Int)=p.t.dim)(h1:fsz t≤1000)(h2:∀x∈y,fsz x≤1000) :
  ∃(Q:PoF) (D:List Fz),Za T 545 [epb p,efz t,.sl (Zc y) .an]=some (ept Q) ∧
   Za T 544 [etp p.t,ept Q,.i .i64 (Zjr p.bits)]=some (.tup [.sl (Zc D) .an,.i .i64 (Zm p t y).2.1,.i .i64 (Zm p t y).2.2]) ∧
   ((Zm p t y).2.1=0→Za T 547 [etp p.t,.sl (Zc D) .an]=some (.sl (Zc (fzs (Zm p t y).1)) .an)):=by
 have c1:=zq9 (T:=T) p t y hp.pl hp.p;unfold okP at hP;simp only[Yh,decide_eq_true_eq]at hP;obtain⟨⟨k1,k2⟩,k3⟩:=hP;have hok:=(zga p.t).1 k1;obtain⟨P,hPP⟩:∃P:Po,P=⟨fv t,y.map fv,p.p.map fv⟩:=⟨_,rfl⟩;have e1:(⟨t,y,nrm p.p⟩:PoF)=P.f:=by
  rw[hPP];unfold Po.f nrm;rw[ht,←hy];unfold fzs;rw[Yd2]
  rfl
 have e2:(P.y.length:Int)=p.t.dim:=by grind
 have e3:(P.p.length:Int)=p.t.par:=by grind
 have hv:PvS P 1000:=by
  rw[hPP];refine⟨za4 h1 (by decide),fun q hq=>?_,fun q hq=>?_⟩
  ·obtain⟨x,hx,rfl⟩:=Yx.1 hq;exact za4 (h2 x hx) (by decide)
  ·obtain⟨x,hx,rfl⟩:=Yx.1 hq;exact za4 (hp.p x hx) (by decide)
 obtain⟨hl1,hl2⟩:=z0n p.bits;have c2:=zvg (T:=T) p.t P (Zcj p.bits) hl2 hok hp.t.ns e2 e3 hv;have hfit:Zil p.t P.y.length P.p.length=true:=by
  grind[Zil]
 have es:Zm p t y=if (Za3 (Zcj p.bits) P p.t.code []).2.1=0 then (Zcl p.t (Za3 (Zcj p.bits) P p.t.code []).1,0,0) else ([],(Za3 (Zcj p.bits) P p.t.code []).2):=by
  grind[Zm,Zce,Zdq]
 rw[e1]at c1;refine⟨P.f,fzs (Za3 (Zcj p.bits) P p.t.code []).1,c1,?_,?_⟩
 ·grind[ze9]
 ·rw[es];by_cases hk:(Za3 (Zcj p.bits) P p.t.code []).2.1=0
  ·rw[if_pos hk];intro _;obtain⟨_,E,r1,r2⟩:=ze9 (Zcj p.bits) P p.t.code [] hk;refine zvh (T:=T) p.t _ (by have:=hok.ol;have:=hok.d2;omega) (fun o ho=>?_);have:=hok.outs o ho
   grind
  grind
theorem zst(p:Pb)(h:Hs)(i:Nat)(hp:PbS p)(hh:HsS h 400)(hR:Z5 h=true)(hP:okP p=true)(hd:(h.y.length:Int)=p.t.dim)(t u:Fz)(y z:List Fz)
  (g1:(Zx h)[i]? = some t) (g2:(Zaq h)[i]? = some y) (g3:(Zx h)[i+1]? = some u) (g4:(Zaq h)[i+1]? = some z) :
  Za T 575 [epb p,ehs h,.i .i64 i]=some (ofD (Zm p t y) (Zm p u z) i t u y z):=by
 have c:=zf7 (T:=T) h hh.len;rw[(zfo hR).1,(zfo hR).2]at c;have cl:=zq5 (T:=T) p.bits;have mt:=Yf g1;have mu:=Yf g3;have my:=Yf g2;have mz:=Yf g4;have zt:=zcl hh (by decide) t mt;have zu:=zcl hh (by decide) u mu;have rt:=zd6 t mt;have ru:=zd6 u mu;obtain⟨zy,_⟩:=zeo hh (by decide) y my;obtain⟨zz,_⟩:=zeo hh (by decide) z mz;have ly:=zg0 hR y my;have lz:=zg0 hR z mz;obtain⟨Q1,D1,a1,a2,a3⟩:=zz9 (T:=T) p t y hp hP rt (zen y my) (by omega) (by omega) (fun x hx=>Yc (zy x hx) (by decide));obtain⟨Q2,D2,b1,b2,b3⟩:=zz9 (T:=T) p u z hp hP ru (zen z mz) (by omega) (by omega) (fun x hx=>Yc (zz x hx) (by decide));have cs:=z8a (T:=T) (fv u) (fv t) (Yc (za4 zu (by decide)) (by decide)) (Yc (za4 zt (by decide)) (by decide));rw[rt,ru]at cs;have hn:=zd7 hh;obtain⟨l1,e1⟩:=Yd.1 g1;obtain⟨l3,e3⟩:=Yd.1 g3;obtain⟨l2,e2⟩:=Yd.1 g2;obtain⟨l4,e4⟩:=Yd.1 g4;have w1:IntKind.wrap .i64 ((i:Int)+1)=((i+1:Nat):Int):=by rw[zac _ (by omega)];omega
 have w2:IntKind.wrap .i64 ((i:Int)+2)=((i+2:Nat):Int):=by rw[zac _ (by omega)];omega
 have l1':(i:Int)<(Zx h).length:=by omega
 have l2':(i:Int)<(Zaq h).length:=by omega
 have l3':(i:Int)+1<(Zx h).length:=by omega
 have l4':(i:Int)+1<(Zaq h).length:=by omega
 have n1:((i:Int)+1).toNat=i+1:=by omega
 unfold ofD;rw[zaa Zch.h575 rfl,b575];generalize Zm p t y=A at *
 generalize Zm p u z=B at *
 generalize fz (fv u-fv t)=D at *
 obtain⟨A1,A2,A3⟩:=A;obtain⟨B1,B2,B3⟩:=B;dsimp only at *
 by_cases hA:A2=0
 ·have a3':=a3 hA;by_cases hB:B2=0
  ·have b3':=b3 hB;simp -implicitDefEqProofs[c,cl,e1,e2,e3,e4,l1,l2,l3,l4,l1',l2',l3',l4',w1,n1,a1,a2,b1,b2,hA,hB,a3',b3',cs]
  ·rw[if_neg (by omega),if_pos hB];simp -implicitDefEqProofs[c,cl,e1,e2,e3,e4,l1,l2,l3,l4,l1',l2',l3',l4',w1,w2,n1,a1,a2,b1,b2,hA,hB]
 ·rw[if_pos hA];simp -implicitDefEqProofs[c,cl,e1,e2,l1,l2,l1',l2',w1,a1,a2,hA]
end
end Go.Ab
end
section
namespace Go.Ab
section
variable{T:Tbl}[Zaj T][Zs T][Z2 T][Z4 T][Zu T][Zw T][Zf T][Zl T][Zp T][Zah T][Za4 T][Zdh T][Zal T][Zar T][Zbs T][Zas T][Zew T][Zap T][Za0 T][Zaz T][Zbr T][Zam T][Zej T][Zc1 T][Zag T][Zdn T][Zbg T][Zba T]
theorem z0z(p:Pb)(h:Hs)(i:Int)(hp:PbS p)(hh:HsS h 400)(hb:¬ (Z5 h=true∧okP p=true∧(h.y.length:Int)=p.t.dim)):Za T 569 [epb p,ehs h,.i .i64 i]=some (.tup [Zlj,Zcf 2 0 0 0]):=by
 have c1:=zb1 (T:=T) h hh;have c2:=zb3 (T:=T) p hp;rw[zaa Zba.h569 rfl,b569];generalize Z5 h=A at *
 generalize okP p=B at *
 obtain⟨⟨code,outs,dim,par⟩,⟨nm,c',a,b,e⟩,pp,bits⟩:=p;obtain⟨L,ht,hy⟩:=h;cases A with
 | false=>simp -implicitDefEqProofs[c1]
 | true=>
 cases B with
 | false=>simp -implicitDefEqProofs[c1,c2]
 | true=>
  have hd:¬ (hy.length:Int)=dim:=fun h=>hb ⟨rfl,rfl,h⟩;simp -implicitDefEqProofs[c1,c2,hd]
theorem z4d(p:Pb)(h:Hs)(i:Int)(hp:PbS p)(hh:HsS h 400)(hR:Z5 h=true)(hP:okP p=true)(hd:(h.y.length:Int)=p.t.dim)(hi:i<0∨((Zx h).length:Int)-1≤i):Za T 569 [epb p,ehs h,.i .i64 i]=some (.tup [Zlj,Zcf 2 0 0 0]):=by
 have c1:=zb1 (T:=T) h hh;have c2:=zb3 (T:=T) p hp;have c3:=zc2 (T:=T) h (hh.mono (by decide));have hn:=zd7 hh;rw[hR]at c1;rw[hP]at c2;have w0:IntKind.wrap .i64 (((Zx h).length:Int)-1)=(Zx h).length-1:=zac _ (by omega);rw[zaa Zba.h569 rfl,b569];generalize Zx h=TS at *
 obtain⟨L,ht,hy⟩:=h;by_cases h0:i<0
 ·simp -implicitDefEqProofs[c1,c2,c3,hd,h0]
 ·have h1:(TS.length:Int)-1≤i:=by omega
  simp -implicitDefEqProofs[c1,c2,c3,hd,h0,w0,h1]
theorem zvt(p:Pb)(h:Hs)(s t:Fz)(y:List Fz)(hp:PbS p)(hh:HsS h 400)(hs:fsz s≤1000)(hR:Z5 h=true)(hP:okP p=true)(hd:(h.y.length:Int)=p.t.dim)(e1:Zx h=[t])(e2:Zaq h=[y])(e3:fv t=fv s) :
  Za T 570 [epb p,ehs h,efz s]=some (.tup [.sl (Zc y) .an,Zkf]):=by
 have c1:=zb1 (T:=T) h hh;have c2:=zb3 (T:=T) p hp;have c3:=zc2 (T:=T) h (hh.mono (by decide));rw[hR]at c1;rw[hP]at c2;rw[e1,e2]at c3;have zt:=zcl hh (by decide) t (by grind);have c4:=zcr (T:=T) t s (by omega) (by omega);rw[decide_eq_true e3]at c4;replace c3:Za T 513 [ehs h]=some (.tup [.sl [Z1 t] .an,.sl [[.sl (Zc y) .an]] .an]):=c3;rw[zaa Zba.h570 rfl,b570];clear hp hh e1 e2 zt hR hP e3;obtain⟨⟨code,outs,dim,par⟩,⟨nm,c',a,b,e⟩,pp,bits⟩:=p;obtain⟨L,ht,hy⟩:=h;obtain⟨t1,t2,t3⟩:=t;obtain⟨s1,s2,s3⟩:=s;dsimp only at *
 simp -implicitDefEqProofs[c1,c2,c3,c4,hd]
theorem zj6(p:Pb)(h:Hs)(s:Fz)(hp:PbS p)(hh:HsS h 400)(hs:fsz s≤1000)(hR:Z5 h=true)(hP:okP p=true)(hd:(h.y.length:Int)=p.t.dim)(h1:∀t,Zx h=[t]→fv t≠fv s)(hpl:Ziv (fv s) (Zx h)=none) :
  Za T 570 [epb p,ehs h,efz s]=some (.tup [.sl [] .an,Zcf 7 0 0 0]):=by
 have c1:=zb1 (T:=T) h hh;have c2:=zb3 (T:=T) p hp;have c3:=zc2 (T:=T) h (hh.mono (by decide));have c4:=zhq (T:=T) h s hh hs;rw[hR]at c1 c4;rw[if_pos rfl,hpl]at c4;rw[hP]at c2;unfold Zbe at c4;by_cases hn:(Zx h).length=1
 ·obtain⟨t,e1⟩:=Yco.1 hn;have zt:=zcl hh (by decide) t (by grind);have c5:=zcr (T:=T) t s (by omega) (by omega);rw[decide_eq_false (h1 t e1)]at c5;rw[e1]at c3;replace c3:Za T 513 [ehs h]=some (.tup [.sl [Z1 t] .an,.sl (Zv (Zaq h)) .an]):=c3;rw[zaa Zba.h570 rfl,b570];clear hp hh e1 zt hR hP hn hpl h1;generalize Zaq h=YS at *
  obtain⟨⟨code,outs,dim,par⟩,⟨nm,c',a,b,e⟩,pp,bits⟩:=p;obtain⟨L,ht,hy⟩:=h;obtain⟨t1,t2,t3⟩:=t;obtain⟨s1,s2,s3⟩:=s;dsimp only at *
  simp -implicitDefEqProofs[c1,c2,c3,c4,c5,hd]
 ·have hn':¬ ((Zx h).length:Int)=1:=by omega
  rw[zaa Zba.h570 rfl,b570];simp -implicitDefEqProofs[c1,c2,c3,c4,hd,hn']
end
section
variable{T:Tbl}[Z0 T][Z7 T][Zy T][Zaa T][Zz T][Zab T][Zk T][Zac T][Zb1 T][Zbq T][Zak T]
theorem zj7(t h:Fz)(y0 y1 f0 f1:List Fz)(hl:∀r∈[y0,y1,f0,f1],r.length≤4294967296):Za T 574 [agS t h y0 y1 f0 f1]=some (agS t h y0 y1 f0 f1):=by
 have c1:=zmm (T:=T) t;have c2:=zmm (T:=T) h;have c3:=zgq (T:=T) y0 (hl y0 (by simp));have c4:=zgq (T:=T) y1 (hl y1 (by simp));have c5:=zgq (T:=T) f0 (hl f0 (by simp));have c6:=zgq (T:=T) f1 (hl f1 (by simp));rw[zaa Zak.h574 rfl,b574];simp -implicitDefEqProofs[c1,c2,c3,c4,c5,c6]
end
end Go.Ab
end
section
namespace Go.Ab
theorem z2v{h a b f g x:Rat}(hx:sz x≤8)(hh:sz h≤10)(ha:sz a≤10)(hb:sz b≤10)(hf:sz f≤10)(hg:sz g≤10):sz (Zit false h a b f g x)≤1000:=by
 obtain⟨_,_,_,z1,_,_,_,z2⟩:=zmx hh ha hb hf hg;show sz (Zkr h a b f g x)≤1000
 grind[Zkr,zct,zh8,zfz]
theorem z62{h x:Rat}{y0 y1 f0 f1:List Rat}(hx:sz x≤8)(hh:sz h≤10)(hw:∀r∈[y0,y1,f0,f1],∀q∈r,sz q≤10):∀q∈atQ false h x y0 y1 f0 f1,sz q≤1000:=by
 intro q hq;obtain⟨i,_,rfl⟩:=Yx.1 hq
 grind[z2v,zju]
structure PlAt (p:Pb) (h:Hs) (i:Nat) (t u:Fz) (y z:List Fz):Prop where
 g1:(Zx h)[i]? = some t
 g2:(Zaq h)[i]? = some y
 g3:(Zx h)[i+1]? = some u
 g4:(Zaq h)[i+1]? = some z
 zt:fsz t≤2
 zu:fsz u≤2
 zy:∀x∈y,fsz x≤2
 zz:∀x∈z,fsz x≤2
 lt:fv t<fv u
 ly:y.length=h.y.length
 lz:z.length=h.y.length
 zD:sz (fv u-fv t)≤5
 s1:∀q∈(Zm p t y).1,sz q≤10
 s2:∀q∈(Zm p u z).1,sz q≤10
 f1:(Zm p t y).2.1=0→(Zm p t y).1.length=h.y.length
 f2:(Zm p u z).2.1=0→(Zm p u z).1.length=h.y.length
theorem zaca(p:Pb)(h:Hs)(i:Nat)(hbits:p.bits≤300)(hh:HsS h 2)(hR:Z5 h=true)(hP:okP p=true)(hd:(h.y.length:Int)=p.t.dim)(k2:i+1<(Zx h).length):∃t u y z,PlAt p h i t u y z:=by
 have hup:=zs1 hR;have k1:i<(Zx h).length:=by omega
 have k3:i<(Zaq h).length:=by rw[zj5];omega
 have k4:i+1<(Zaq h).length:=by rw[zj5];omega
 have q1:(Zx h)[i]? = some ((Zx h)[i]'k1):=Ya k1;have q2:(Zx h)[i+1]? = some ((Zx h)[i+1]'k2):=Ya k2;have q3:(Zaq h)[i]? = some ((Zaq h)[i]'k3):=Ya k3;have q4:(Zaq h)[i+1]? = some ((Zaq h)[i+1]'k4):=Ya k4;generalize (Zx h)[i]'k1=ti at q1;generalize (Zx h)[i+1]'k2=tu at q2;generalize (Zaq h)[i]'k3=yi at q3;generalize (Zaq h)[i+1]'k4=yu at q4;have zi:=zcl hh (by decide) ti (Yf q1);have zu:=zcl hh (by decide) tu (Yf q2);have hlt:fv ti<fv tu:=by
  grind[List.pairwise_iff_getElem]
 have ly1:=zg0 hR yi (Yf q3);have ly2:=zg0 hR yu (Yf q4);obtain⟨zy1,_⟩:=zeo hh (by decide) yi (Yf q3);obtain⟨zy2,_⟩:=zeo hh (by decide) yu (Yf q4);have hok:OkTp p.t:=(zga p.t).1 (by grind[okP]);have hol:=hok.ol;have zD:sz (fv tu-fv ti)≤5:=by
  have:=zh8 (fv tu) (fv ti);have:=za4 (L:=2) zi (by decide);have:=za4 (L:=2) zu (by decide);omega
 have hlim:Zcj p.bits≤300:=by
  grind[Zcj,Zjr]
 exact⟨ti,tu,yi,yu,q1,q3,q2,q4,zi,zu,zy1,zy2,hlt,ly1,ly2,zD,fun q hq=>by have:=zlq q hq;omega,fun q hq=>by have:=zlq q hq;omega,
  fun ha=>by have:=zlp ha;show (Zce _ _ _).1.length=_;omega,fun ha=>by have:=zlp ha;show (Zce _ _ _).1.length=_;omega⟩
section
variable{T:Tbl}[Zaj T][Zs T][Z2 T][Z4 T][Zu T][Zw T][Zf T][Zl T][Zp T][Zah T][Za4 T][Zdh T][Zal T][Zar T][Zbs T][Zas T][Zew T][Zap T][Za0 T][Zaz T][Zbr T][Zam T][Zej T][Zc1 T][Zag T][Zdn T][Zbg T][Zba T]
variable[Z0 T][Z7 T][Zy T][Zaa T][Zz T][Zab T][Zk T][Zac T][Zcw T][Zd6 T][Zfq T][Zb1 T][Zbq T][Zei T][Zgp T][Zdr T][Za5 T][Zex T][Ze6 T][Za9 T][Zds T][Ze7 T]
variable[Za1 T][Zc2 T][Zb2 T][Zbk T][Zcr T][Zd5 T][Zcs T][Zch T][Zak T]
theorem z63(p:Pb)(h:Hs)(i:Nat)(hp:PbS p)(hbits:p.bits≤300)(hh:HsS h 2)(hy:h.y.length≤4)(hR:Z5 h=true)(hP:okP p=true)(hd:(h.y.length:Int)=p.t.dim)(k2:i+1<(Zx h).length) :
  ∃(t D:Fz) (y z f0 f1:List Fz) (k s a:Int),Za T 569 [epb p,ehs h,.i .i64 i]=some (.tup [agS t D y z f0 f1,Zcf k s 0 a]) ∧
   Za T 575 [epb p,ehs h,.i .i64 i]=some (.tup [agS t D y z f0 f1,.agg [.i .i64 k,.i .i64 s,.i .i64 a]]) ∧
   Za T 574 [agS t D y z f0 f1]=some (agS t D y z f0 f1)∧Za T 573 [agS t D y z f0 f1,agS t D y z f0 f1]=some (.b true):=by
 obtain⟨t,u,y,z,H⟩:=zaca p h i hbits hh hR hP hd k2;have hh4:HsS h 400:=hh.mono (by decide);have c1:=z0x (T:=T) p h i hp hh4 hR hP hd t u y z H.g1 H.g2 H.g3 H.g4;have c2:=zst (T:=T) p h i hp hh4 hR hP hd t u y z H.g1 H.g2 H.g3 H.g4;unfold ofR at c1;unfold ofD at c2;have zr:=zdf (T:=T) (false,[],[]) (false,[],[]) [] [] [] [] (by decide) (by decide) (by simp) (by simp);have zo:=zj7 (T:=T) (false,[],[]) (false,[],[]) [] [] [] [] (by simp);by_cases hA:(Zm p t y).2.1=0
 ·by_cases hB:(Zm p u z).2.1=0
  ·rw[if_neg (by omega),if_neg (by omega)]at c1 c2;have hl:∀r∈[y,z,fzs (Zm p t y).1,fzs (Zm p u z).1],r.length≤4:=by
    intro r hr;have:=H.ly;have:=H.lz;have:=H.f1 hA;have:=H.f2 hB
    grind[zal]
   have hw:∀r∈[y,z,fzs (Zm p t y).1,fzs (Zm p u z).1],∀x∈r,fsz x≤10000:=by
    intro r hr x hx;simp only[Y7,Ybv,or_false]at hr;rcases hr with rfl | rfl | rfl | rfl
    ·have:=H.zy x hx;omega
    ·have:=H.zz x hx;omega
    ·have:=zje H.s1 x hx;omega
    ·have:=zje H.s2 x hx;omega
   have hz:=H.zD;have hzt:=H.zt;exact⟨_,_,_,_,_,_,0,0,0,c1,c2,zj7 (T:=T) _ _ _ _ _ _ (fun r hr=>by grind),
    zdf (T:=T) _ _ _ _ _ _ (by omega) (by rw[zar];omega) (fun r hr=>by grind) hw⟩
  ·rw[if_neg (by omega),if_pos hB]at c1 c2;exact⟨_,_,_,_,_,_,_,_,_,c1,c2,zo,zr⟩
 ·rw[if_pos hA]at c1 c2;exact⟨_,_,_,_,_,_,_,_,_,c1,c2,zo,zr⟩
theorem zuf(p:Pb)(h:Hs)(s:Fz)(i:Nat)(hp:PbS p)(hbits:p.bits≤300)(hh:HsS h 2)(hs:fsz s≤2)(hy:h.y.length≤4)(hR:Z5 h=true)(hP:okP p=true)(hd:(h.y.length:Int)=p.t.dim)(hpl:Ziv (fv s) (Zx h)=some i)(k2:i+1<(Zx h).length) :
  ∃(t D:Fz) (y z f0 f1:List Fz) (k st a:Int),Za T 575 [epb p,ehs h,.i .i64 i]=some (.tup [agS t D y z f0 f1,.agg [.i .i64 k,.i .i64 st,.i .i64 a]]) ∧
   ((k≠0∧Za T 570 [epb p,ehs h,efz s]=some (.tup [.sl [] .an,Zcf k st 0 a])) ∨
    (k=0∧∃R:List Fz,Za T 570 [epb p,ehs h,efz s]=some (.tup [.sl (Zc R) .an,Zkf])∧Za T 330 [agS t D y z f0 f1,efz (fz (fv s)),.b false]=some (.sl (Zc R) .an) ∧
     Za T 289 [.sl (Zc R) .an,.sl (Zc R) .an]=some (.b true))):=by
 obtain⟨t,u,y,z,H⟩:=zaca p h i hbits hh hR hP hd k2;have hh4:HsS h 400:=hh.mono (by decide);have c2:=zst (T:=T) p h i hp hh4 hR hP hd t u y z H.g1 H.g2 H.g3 H.g4;have hne:fv u-fv t≠0:=by have:=H.lt;grind
 have ca:(Zm p t y).2.1=0→(Zm p u z).2.1=0→Za T 324 [agS t (fz (fv u-fv t)) y z (fzs (Zm p t y).1) (fzs (Zm p u z).1),efz s]=some (.tup [.sl (Zc (fzs (atQ false (fv u-fv t) (fv s-fv t) (y.map fv) (z.map fv) (Zm p t y).1 (Zm p u z).1))) .an,.b true]):=by
  intro ha hb;have d1:(fzs (Zm p t y).1).length=y.length:=by rw[zal,H.f1 ha,H.ly]
  have d2:(fzs (Zm p u z).1).length=y.length:=by rw[zal,H.f2 hb,H.ly]
  have d3:z.length=y.length:=by rw[H.lz,H.ly]
  have hrs:Zen (fz (fv u-fv t)) y z (fzs (Zm p t y).1) (fzs (Zm p u z).1)=true:=by
   unfold Zen;rw[za7,d1,d2,d3];have:=H.lt;have:=H.ly
   grind
  have hz:=H.zD;have hat:=z0u (T:=T) t (fz (fv u-fv t)) s y z (fzs (Zm p t y).1) (fzs (Zm p u z).1) (by have:=H.zt;omega) (by rw[zar];omega) (by omega) hrs (fun r hr x hx=>by
   simp only[Y7,Ybv,or_false]at hr;rcases hr with rfl | rfl | rfl | rfl
   ·have:=H.zy x hx;omega
   ·have:=H.zz x hx;omega
   ·have:=zje H.s1 x hx;omega
   ·have:=zje H.s2 x hx;omega)
  grind[za7,zyk,z5c]
 have hst:=z4c (T:=T) p h s i hp hh4 (by omega) hR hP hd t u y z H.g1 H.g2 H.g3 H.g4 hpl _ true (zbt _) ca;unfold Zku at hst;unfold ofD at c2;by_cases hA:(Zm p t y).2.1=0
 ·by_cases hB:(Zm p u z).2.1=0
  ·rw[if_neg (by omega),if_neg (by omega)]at hst c2;refine⟨_,_,_,_,_,_,0,0,0,c2,.inr ⟨rfl,_,hst,?_,?_⟩⟩
   ·have zt:=za4 (L:=2) H.zt (by decide);have zs:=za4 (L:=2) hs (by decide);have hz:=H.zD;have e:=zz6 (T:=T) false (fv t) (fv u-fv t) (fv s) (y.map fv) (z.map fv) (Zm p t y).1 (Zm p u z).1 zt (by omega) zs (by rw[Yaw,H.ly];omega) (by rw[Yaw,Yaw,H.ly,H.lz]) (by rw[Yaw,H.f1 hA,H.ly]) (by rw[Yaw,H.f2 hB,H.ly]) (by
     intro r hr q hq;simp only[Y7,Ybv,or_false]at hr;rcases hr with rfl | rfl | rfl | rfl
     ·obtain⟨x,hx,rfl⟩:=Yx.1 hq;have:=za4 (L:=2) (H.zy x hx) (by decide);omega
     ·obtain⟨x,hx,rfl⟩:=Yx.1 hq;have:=za4 (L:=2) (H.zz x hx) (by decide);omega
     ·exact H.s1 q hq
     ·exact H.s2 q hq)
    rw[zd6 t (Yf H.g1),←zen y (Yf H.g2),←zen z (Yf H.g4)]at e;exact e
   ·have hx:sz (fv s-fv t)≤8:=by
     have:=zh8 (fv s) (fv t);have:=za4 (L:=2) H.zt (by decide);have:=za4 (L:=2) hs (by decide);omega
    have hz:=H.zD;have hq:=z62 (h:=fv u-fv t) (x:=fv s-fv t) (y0:=y.map fv) (y1:=z.map fv) (f0:=(Zm p t y).1) (f1:=(Zm p u z).1) hx (by omega) (by
     intro r hr q hq;simp only[Y7,Ybv,or_false]at hr;rcases hr with rfl | rfl | rfl | rfl
     ·obtain⟨x,hx,rfl⟩:=Yx.1 hq;have:=za4 (L:=2) (H.zy x hx) (by decide);omega
     ·obtain⟨x,hx,rfl⟩:=Yx.1 hq;have:=za4 (L:=2) (H.zz x hx) (by decide);omega
     ·exact H.s1 q hq
     ·exact H.s2 q hq)
    have e:=zsh (T:=T) (fzs (atQ false (fv u-fv t) (fv s-fv t) (y.map fv) (z.map fv) (Zm p t y).1 (Zm p u z).1)) (fzs (atQ false (fv u-fv t) (fv s-fv t) (y.map fv) (z.map fv) (Zm p t y).1 (Zm p u z).1))
     (by rw[zal,zc5,Yaw,H.ly];omega) (fun x hx=>Yc (zje hq x hx) (by decide))
    grind
  ·rw[if_neg (by omega),if_pos hB]at hst c2;exact⟨_,_,_,_,_,_,_,_,_,c2,.inl ⟨by omega,hst⟩⟩
 ·rw[if_pos hA]at hst c2;exact⟨_,_,_,_,_,_,_,_,_,c2,.inl ⟨by omega,hst⟩⟩
end
end Go.Ab
end
section
namespace Go.Ab
abbrev agZ:AV:=.agg [.b false,.sl [] .an,.sl [] .an,.b false,.sl [] .an,.sl [] .an,.sl [] .an,.sl [] .an,.sl [] .an,.sl [] .an]
section
variable{T:Tbl}[Zaj T][Zs T][Z2 T][Z4 T][Zu T][Zw T][Zf T][Zl T][Zp T][Zah T][Za4 T][Zdh T][Zal T][Zar T][Zbs T][Zas T][Zew T][Zap T][Za0 T][Zaz T][Zbr T][Zam T][Zej T][Zc1 T][Zag T][Zdn T][Zbg T][Zba T]
variable[Z0 T][Z7 T][Zy T][Zaa T][Zz T][Zab T][Zk T][Zac T][Zcw T][Zd6 T][Zfq T][Zb1 T][Zbq T][Zei T][Zgp T][Zdr T][Za5 T][Zex T][Ze6 T][Za9 T][Zds T][Ze7 T]
variable[Za1 T][Zc2 T][Zb2 T][Zbk T][Zcr T][Zd5 T][Zcs T][Zch T][Zak T]
structure Ask (p:Pb) (h:Hs) (s:Fz):Prop where
 w:Za T 323 []=some (.b true)
 c1:Za T 496 [epb p,.i .i64 10,.i .i64 4,.i .i64 2]=some (.b false)
 c2:Za T 497 [ehs h,.i .i64 5,.i .i64 2]=some (.b false)
 c3:Za T 247 [efz s,.i .i64 2]=some (.b false)
 b1:¬ 300<p.bits
 b2:¬ 4<h.y.length
 b3:¬ (4:Int)<h.y.length
 t1:Za T 507 [epb p]=some (epb p)
 t2:Za T 500 [ehs h]=some (ehs h)
 t3:Za T 248 [efz s]=some (efz s)
 n1:Za T 231 [efz s]=some (efz (fz (fv s)))
 r1:Za T 508 [epb p]=some (.b (okP p))
 r2:Za T 571 [ehs h]=some (.i .i64 (Zd9 h))
 z1:Za T 574 [agZ]=some agZ
 z2:Za T 573 [agZ,agZ]=some (.b true)
theorem zog(p:Pb)(h:Hs)(s:Fz)(i:Int)(H:Ask (T:=T) p h s)(hR:Z5 h=false)
  (c4:Za T 568 [ehs h,efz s]=some (Zbe none)) (c5:Za T 569 [epb p,ehs h,.i .i64 i]=some (.tup [agZ,Zcf 2 0 0 0])) (c6:Za T 570 [epb p,ehs h,efz s]=some (.tup [.sl [] .an,Zcf 2 0 0 0])) :
  Za T 566 [epb p,ehs h,efz s,.i .i64 i]=some (.b true):=by
 obtain⟨w,c1,c2,c3,b1,b2,b3,t1,t2,t3,n1,r1,r2,z1,z2⟩:=H;unfold Z5 at hR;have hw:¬ Zd9 h=0:=of_decide_eq_false hR;clear hR r1;rw[zaa Zak.h566 rfl,b566];unfold Zbe at c4;generalize Zd9 h=W at *
 generalize fz (fv s)=sz at *
 obtain⟨⟨code,outs,dim,par⟩,⟨nm,c',a',b,e⟩,pp,bits⟩:=p;obtain⟨L,⟨h1,h2,h3⟩,hy⟩:=h;obtain⟨s1,s2,s3⟩:=s;obtain⟨v1,v2,v3⟩:=sz;dsimp only at *
 simp -implicitDefEqProofs[w,c1,c2,c3,b1,b2,b3,t1,t2,t3,n1,r2,z1,z2,c4,c5,c6,hw]
theorem zqt(p:Pb)(h:Hs)(s:Fz)(i:Int)(H:Ask (T:=T) p h s)(hR:Z5 h=true)(P:Option Nat)(hb:okP p=false∨¬ (h.y.length:Int)=p.t.dim)
  (c4:Za T 568 [ehs h,efz s]=some (Zbe P)) (c7:Za T 572 [ehs h,efz (fz (fv s))]=some (.i .i64 (plI P))) (c5:Za T 569 [epb p,ehs h,.i .i64 i]=some (.tup [agZ,Zcf 2 0 0 0])) (c6:Za T 570 [epb p,ehs h,efz s]=some (.tup [.sl [] .an,Zcf 2 0 0 0])) :
  Za T 566 [epb p,ehs h,efz s,.i .i64 i]=some (.b true):=by
 obtain⟨w,c1,c2,c3,b1,b2,b3,t1,t2,t3,n1,r1,r2,z1,z2⟩:=H;unfold Z5 at hR;have hw:Zd9 h=0:=of_decide_eq_true hR;rw[hw]at r2;clear hR hw;have hP:∃(pl:Int) (ok:Bool),Zbe P=.tup [.i .i64 pl,.b ok]∧plI P=pl∧decide (0≤pl)=ok:=by
  cases P with
  | none=>exact⟨-1,false,rfl,rfl,rfl⟩
  | some k=>exact⟨k,true,rfl,rfl,decide_eq_true (by omega)⟩
 obtain⟨pl,ok,e1,e2,e3⟩:=hP;rw[e1]at c4;rw[e2]at c7;clear e1 e2;rw[zaa Zak.h566 rfl,b566];generalize fz (fv s)=sz at *
 generalize okP p=OK at *
 obtain⟨⟨code,outs,dim,par⟩,⟨nm,c',a',b,e⟩,pp,bits⟩:=p;obtain⟨L,⟨h1,h2,h3⟩,hy⟩:=h;obtain⟨s1,s2,s3⟩:=s;obtain⟨v1,v2,v3⟩:=sz;dsimp only at *
 cases OK with
 | false=>
  clear hb;simp -implicitDefEqProofs[w,c1,c2,c3,b1,b2,b3,t1,t2,t3,n1,r1,r2,z1,z2,c4,c5,c6,c7,e3]
 | true=>
  have hd:¬ (hy.length:Int)=dim:=hb.resolve_left (by decide);clear hb;simp -implicitDefEqProofs[w,c1,c2,c3,b1,b2,b3,t1,t2,t3,n1,r1,r2,z1,z2,c4,c5,c6,c7,e3,hd]
def Zla(T:Tbl)(p:Pb)(h:Hs)(i:Int):Prop:=∃(t D:Fz) (y z f0 f1:List Fz) (k st a:Int),Za T 569 [epb p,ehs h,.i .i64 i]=some (.tup [agS t D y z f0 f1,Zcf k st 0 a]) ∧
   Za T 575 [epb p,ehs h,.i .i64 i]=some (.tup [agS t D y z f0 f1,.agg [.i .i64 k,.i .i64 st,.i .i64 a]]) ∧
   Za T 574 [agS t D y z f0 f1]=some (agS t D y z f0 f1)∧Za T 573 [agS t D y z f0 f1,agS t D y z f0 f1]=some (.b true)
set_option maxRecDepth 4000
theorem zqu(p:Pb)(h:Hs)(s:Fz)(i:Int)(H:Ask (T:=T) p h s)(hR:Z5 h=true)(hP:okP p=true)(hd:(h.y.length:Int)=p.t.dim)(TS:List Fz)(YS:List (List Fz))(hn:TS.length≤1001)(P:Option Nat)
  (c8:Za T 522 [ehs h]=some (.tup [.sl (Zc TS) .an,.sl (Zv YS) .an])) (c4:Za T 568 [ehs h,efz s]=some (Zbe P)) (c7:Za T 572 [ehs h,efz (fz (fv s))]=some (.i .i64 (plI P)))
  (A:((i<0∨(TS.length:Int)-2<i)∧Za T 569 [epb p,ehs h,.i .i64 i]=some (.tup [agZ,Zcf 2 0 0 0]))∨(¬ i<0∧¬ (TS.length:Int)-2<i∧Zla T p h i))
  (t0:Fz) (y0:List Fz) (e1:TS=[t0]) (e2:YS=[y0]) (c9:Za T 233 [efz (fz (fv s)),efz t0]=some (.b true)) (c6:Za T 570 [epb p,ehs h,efz s]=some (.tup [.sl (Zc y0) .an,Zkf])) (c10:Za T 289 [.sl (Zc y0) .an,.sl (Zc y0) .an]=some (.b true)) :
  Za T 566 [epb p,ehs h,efz s,.i .i64 i]=some (.b true):=by
 obtain⟨w,c1,c2,c3,b1,b2,b3,t1,t2,t3,n1,r1,r2,z1,z2⟩:=H;unfold Z5 at hR;rw[of_decide_eq_true hR]at r2;rw[hP]at r1;have b4:p.t.dim≤4:=by omega
 have b5:¬ 4<p.t.dim:=by omega
 clear hR hP;have w2:IntKind.wrap .i64 ((TS.length:Int)-2)=(TS.length:Int)-2:=zac _ (by omega);subst e1 e2;replace c8:Za T 522 [ehs h]=some (.tup [.sl [Z1 t0] .an,.sl [[.sl (Zc y0) .an]] .an]):=c8;simp only[Yn,Yav]at A w2;have hP:∃(pl:Int) (ok:Bool),Zbe P=.tup [.i .i64 pl,.b ok]∧plI P=pl∧decide (0≤pl)=ok:=by
  cases P with
  | none=>exact⟨-1,false,rfl,rfl,rfl⟩
  | some k=>exact⟨k,true,rfl,rfl,decide_eq_true (by omega)⟩
 obtain⟨pl,ok,e1,e2,e3⟩:=hP;rw[e1]at c4;rw[e2]at c7;clear e1 e2;obtain⟨u1,u2,u3⟩:=t0;rcases A with ⟨hi,c5⟩ | ⟨i1,i2,x⟩
 ·rw[zaa Zak.h566 rfl,b566];generalize fz (fv s)=sz at *
  obtain⟨⟨code,outs,dim,par⟩,⟨nm,c',a',b,e⟩,pp,bits⟩:=p;obtain⟨L,⟨h1,h2,h3⟩,hy⟩:=h;obtain⟨s1,s2,s3⟩:=s;obtain⟨v1,v2,v3⟩:=sz;dsimp only at *
  by_cases i0:i<0
  ·simp -implicitDefEqProofs[w,c1,c2,c3,b1,b2,b3,t1,t2,t3,n1,r1,r2,z1,z2,c4,c7,c8,hd,b4,b5,w2,e3,c9,c6,c10,c5,i0]
  ·have i1:(-1:Int)<i:=by omega
   have i1':¬ i≤-1:=by omega
   simp -implicitDefEqProofs[w,c1,c2,c3,b1,b2,b3,t1,t2,t3,n1,r1,r2,z1,z2,c4,c7,c8,hd,b4,b5,w2,e3,c9,c6,c10,c5,i0,i1,i1']
 ·exact absurd i2 (by omega)
theorem zoh(p:Pb)(h:Hs)(s:Fz)(i:Int)(H:Ask (T:=T) p h s)(hR:Z5 h=true)(hP:okP p=true)(hd:(h.y.length:Int)=p.t.dim)(TS:List Fz)(YS:List (List Fz))(hn:TS.length≤1001)(P:Option Nat)
  (c8:Za T 522 [ehs h]=some (.tup [.sl (Zc TS) .an,.sl (Zv YS) .an])) (c4:Za T 568 [ehs h,efz s]=some (Zbe P)) (c7:Za T 572 [ehs h,efz (fz (fv s))]=some (.i .i64 (plI P)))
  (A:((i<0∨(TS.length:Int)-2<i)∧Za T 569 [epb p,ehs h,.i .i64 i]=some (.tup [agZ,Zcf 2 0 0 0]))∨(¬ i<0∧¬ (TS.length:Int)-2<i∧Zla T p h i))
  (t0:Fz) (e1:TS=[t0]) (e0:P=none) (c9:Za T 233 [efz (fz (fv s)),efz t0]=some (.b false)) (c6:Za T 570 [epb p,ehs h,efz s]=some (.tup [.sl [] .an,Zcf 7 0 0 0])) :
  Za T 566 [epb p,ehs h,efz s,.i .i64 i]=some (.b true):=by
 obtain⟨w,c1,c2,c3,b1,b2,b3,t1,t2,t3,n1,r1,r2,z1,z2⟩:=H;unfold Z5 at hR;rw[of_decide_eq_true hR]at r2;rw[hP]at r1;have b4:p.t.dim≤4:=by omega
 have b5:¬ 4<p.t.dim:=by omega
 clear hR hP;have w2:IntKind.wrap .i64 ((TS.length:Int)-2)=(TS.length:Int)-2:=zac _ (by omega);subst e1 e0;replace c8:Za T 522 [ehs h]=some (.tup [.sl [Z1 t0] .an,.sl (Zv YS) .an]):=c8;simp only[Yn,Yav]at A w2;unfold Zbe at c4;unfold plI at c7;obtain⟨u1,u2,u3⟩:=t0;rcases A with ⟨hi,c5⟩ | ⟨i1,i2,x⟩
 ·rw[zaa Zak.h566 rfl,b566];generalize fz (fv s)=sz at *
  obtain⟨⟨code,outs,dim,par⟩,⟨nm,c',a',b,e⟩,pp,bits⟩:=p;obtain⟨L,⟨h1,h2,h3⟩,hy⟩:=h;obtain⟨s1,s2,s3⟩:=s;obtain⟨v1,v2,v3⟩:=sz;dsimp only at *
  by_cases i0:i<0
  ·simp -implicitDefEqProofs[w,c1,c2,c3,b1,b2,b3,t1,t2,t3,n1,r1,r2,z1,z2,c4,c7,c8,hd,b4,b5,w2,c9,c6,c5,i0]
  ·have i1:(-1:Int)<i:=by omega
   have i1':¬ i≤-1:=by omega
   simp -implicitDefEqProofs[w,c1,c2,c3,b1,b2,b3,t1,t2,t3,n1,r1,r2,z1,z2,c4,c7,c8,hd,b4,b5,w2,c9,c6,c5,i0,i1,i1']
 ·exact absurd i2 (by omega)
theorem zqv(p:Pb)(h:Hs)(s:Fz)(i:Int)(H:Ask (T:=T) p h s)(hR:Z5 h=true)(hP:okP p=true)(hd:(h.y.length:Int)=p.t.dim)(TS:List Fz)(YS:List (List Fz))(hn:TS.length≤1001)(P:Option Nat)
  (c8:Za T 522 [ehs h]=some (.tup [.sl (Zc TS) .an,.sl (Zv YS) .an])) (c4:Za T 568 [ehs h,efz s]=some (Zbe P)) (c7:Za T 572 [ehs h,efz (fz (fv s))]=some (.i .i64 (plI P)))
  (A:((i<0∨(TS.length:Int)-2<i)∧Za T 569 [epb p,ehs h,.i .i64 i]=some (.tup [agZ,Zcf 2 0 0 0]))∨(¬ i<0∧¬ (TS.length:Int)-2<i∧Zla T p h i))
  (hl:¬ TS.length=1) (e0:P=none) (c6:Za T 570 [epb p,ehs h,efz s]=some (.tup [.sl [] .an,Zcf 7 0 0 0])) :
  Za T 566 [epb p,ehs h,efz s,.i .i64 i]=some (.b true):=by
 obtain⟨w,c1,c2,c3,b1,b2,b3,t1,t2,t3,n1,r1,r2,z1,z2⟩:=H;unfold Z5 at hR;rw[of_decide_eq_true hR]at r2;rw[hP]at r1;have b4:p.t.dim≤4:=by omega
 have b5:¬ 4<p.t.dim:=by omega
 clear hR hP;have w2:IntKind.wrap .i64 ((TS.length:Int)-2)=(TS.length:Int)-2:=zac _ (by omega);subst e0;have hl':¬ (TS.length:Int)=1:=by omega
 unfold Zbe at c4;unfold plI at c7;rcases A with ⟨hi,c5⟩ | ⟨i1,i2,x⟩
 ·rw[zaa Zak.h566 rfl,b566];generalize fz (fv s)=sz at *
  obtain⟨⟨code,outs,dim,par⟩,⟨nm,c',a',b,e⟩,pp,bits⟩:=p;obtain⟨L,⟨h1,h2,h3⟩,hy⟩:=h;obtain⟨s1,s2,s3⟩:=s;obtain⟨v1,v2,v3⟩:=sz;dsimp only at *
  by_cases i0:i<0
  ·simp -implicitDefEqProofs[w,c1,c2,c3,b1,b2,b3,t1,t2,t3,n1,r1,r2,z1,z2,c4,c7,c8,hd,b4,b5,w2,hl,hl',c6,c5,i0]
  ·have i1:(TS.length:Int)-2<i:=by omega
   simp -implicitDefEqProofs[w,c1,c2,c3,b1,b2,b3,t1,t2,t3,n1,r1,r2,z1,z2,c4,c7,c8,hd,b4,b5,w2,hl,hl',c6,c5,i0,i1]
 ·obtain⟨⟨tt1,tt2,tt3⟩,⟨D1,D2,D3⟩,y,z,f0,f1,k',st',a1,c5,c5b,c5c,c5d⟩:=x;rw[zaa Zak.h566 rfl,b566];generalize fz (fv s)=sz at *
  obtain⟨⟨code,outs,dim,par⟩,⟨nm,c',a',b,e⟩,pp,bits⟩:=p;obtain⟨L,⟨h1,h2,h3⟩,hy⟩:=h;obtain⟨s1,s2,s3⟩:=s;obtain⟨v1,v2,v3⟩:=sz;dsimp only at *
  simp -implicitDefEqProofs[w,c1,c2,c3,b1,b2,b3,t1,t2,t3,n1,r1,r2,z1,z2,c4,c7,c8,hd,b4,b5,w2,hl,hl',c6,c5,c5b,c5c,c5d,i1,i2]
theorem zqw(p:Pb)(h:Hs)(s:Fz)(i:Int)(H:Ask (T:=T) p h s)(hR:Z5 h=true)(hP:okP p=true)(hd:(h.y.length:Int)=p.t.dim)(TS:List Fz)(YS:List (List Fz))(hn:TS.length≤1001)(P:Option Nat)
  (c8:Za T 522 [ehs h]=some (.tup [.sl (Zc TS) .an,.sl (Zv YS) .an])) (c4:Za T 568 [ehs h,efz s]=some (Zbe P)) (c7:Za T 572 [ehs h,efz (fz (fv s))]=some (.i .i64 (plI P)))
  (A:((i<0∨(TS.length:Int)-2<i)∧Za T 569 [epb p,ehs h,.i .i64 i]=some (.tup [agZ,Zcf 2 0 0 0]))∨(¬ i<0∧¬ (TS.length:Int)-2<i∧Zla T p h i))
  (hl:¬ TS.length=1) (k:Nat) (e0:P=some k) (t D:Fz) (y z f0 f1:List Fz) (kk st a:Int) (d1:Za T 575 [epb p,ehs h,.i .i64 k]=some (.tup [agS t D y z f0 f1,.agg [.i .i64 kk,.i .i64 st,.i .i64 a]]))
  (hk:kk≠0) (c6:Za T 570 [epb p,ehs h,efz s]=some (.tup [.sl [] .an,Zcf kk st 0 a])) :
  Za T 566 [epb p,ehs h,efz s,.i .i64 i]=some (.b true):=by
 obtain⟨w,c1,c2,c3,b1,b2,b3,t1,t2,t3,n1,r1,r2,z1,z2⟩:=H;unfold Z5 at hR;rw[of_decide_eq_true hR]at r2;rw[hP]at r1;have b4:p.t.dim≤4:=by omega
 have b5:¬ 4<p.t.dim:=by omega
 clear hR hP;have w2:IntKind.wrap .i64 ((TS.length:Int)-2)=(TS.length:Int)-2:=zac _ (by omega);subst e0;have hl':¬ (TS.length:Int)=1:=by omega
 have hk0:¬ (k:Int)<0:=by omega
 unfold Zbe at c4;unfold plI at c7;obtain⟨x1,x2,x3⟩:=t;obtain⟨y1,y2,y3⟩:=D;rcases A with ⟨hi,c5⟩ | ⟨i1,i2,x⟩
 ·rw[zaa Zak.h566 rfl,b566];generalize fz (fv s)=sz at *
  obtain⟨⟨code,outs,dim,par⟩,⟨nm,c',a',b,e⟩,pp,bits⟩:=p;obtain⟨L,⟨h1,h2,h3⟩,hy⟩:=h;obtain⟨s1,s2,s3⟩:=s;obtain⟨v1,v2,v3⟩:=sz;dsimp only at *
  by_cases i0:i<0
  ·simp -implicitDefEqProofs[w,c1,c2,c3,b1,b2,b3,t1,t2,t3,n1,r1,r2,z1,z2,c4,c7,c8,hd,b4,b5,w2,hl,hl',hk0,d1,hk,c6,c5,i0]
  ·have i1:(TS.length:Int)-2<i:=by omega
   simp -implicitDefEqProofs[w,c1,c2,c3,b1,b2,b3,t1,t2,t3,n1,r1,r2,z1,z2,c4,c7,c8,hd,b4,b5,w2,hl,hl',hk0,d1,hk,c6,c5,i0,i1]
 ·obtain⟨⟨tt1,tt2,tt3⟩,⟨D1,D2,D3⟩,y',z',f0',f1',k',st',a1,c5,c5b,c5c,c5d⟩:=x;rw[zaa Zak.h566 rfl,b566];generalize fz (fv s)=sz at *
  obtain⟨⟨code,outs,dim,par⟩,⟨nm,c',a',b,e⟩,pp,bits⟩:=p;obtain⟨L,⟨h1,h2,h3⟩,hy⟩:=h;obtain⟨s1,s2,s3⟩:=s;obtain⟨v1,v2,v3⟩:=sz;dsimp only at *
  simp -implicitDefEqProofs[w,c1,c2,c3,b1,b2,b3,t1,t2,t3,n1,r1,r2,z1,z2,c4,c7,c8,hd,b4,b5,w2,hl,hl',hk0,d1,hk,c6,c5,c5b,c5c,c5d,i1,i2]
theorem zqx(p:Pb)(h:Hs)(s:Fz)(i:Int)(H:Ask (T:=T) p h s)(hR:Z5 h=true)(hP:okP p=true)(hd:(h.y.length:Int)=p.t.dim)(TS:List Fz)(YS:List (List Fz))(hn:TS.length≤1001)(P:Option Nat)
  (c8:Za T 522 [ehs h]=some (.tup [.sl (Zc TS) .an,.sl (Zv YS) .an])) (c4:Za T 568 [ehs h,efz s]=some (Zbe P)) (c7:Za T 572 [ehs h,efz (fz (fv s))]=some (.i .i64 (plI P)))
  (A:((i<0∨(TS.length:Int)-2<i)∧Za T 569 [epb p,ehs h,.i .i64 i]=some (.tup [agZ,Zcf 2 0 0 0]))∨(¬ i<0∧¬ (TS.length:Int)-2<i∧Zla T p h i))
  (hl:¬ TS.length=1) (k:Nat) (e0:P=some k) (t D:Fz) (y z f0 f1:List Fz) (kk st a:Int) (d1:Za T 575 [epb p,ehs h,.i .i64 k]=some (.tup [agS t D y z f0 f1,.agg [.i .i64 kk,.i .i64 st,.i .i64 a]]))
  (hk:kk=0) (R:List Fz) (c6:Za T 570 [epb p,ehs h,efz s]=some (.tup [.sl (Zc R) .an,Zkf])) (d2:Za T 330 [agS t D y z f0 f1,efz (fz (fv s)),.b false]=some (.sl (Zc R) .an))
  (d3:Za T 289 [.sl (Zc R) .an,.sl (Zc R) .an]=some (.b true)) :
  Za T 566 [epb p,ehs h,efz s,.i .i64 i]=some (.b true):=by
 obtain⟨w,c1,c2,c3,b1,b2,b3,t1,t2,t3,n1,r1,r2,z1,z2⟩:=H;unfold Z5 at hR;rw[of_decide_eq_true hR]at r2;rw[hP]at r1;have b4:p.t.dim≤4:=by omega
 have b5:¬ 4<p.t.dim:=by omega
 clear hR hP;have w2:IntKind.wrap .i64 ((TS.length:Int)-2)=(TS.length:Int)-2:=zac _ (by omega);subst e0 hk;have hl':¬ (TS.length:Int)=1:=by omega
 have hk0:¬ (k:Int)<0:=by omega
 unfold Zbe at c4;unfold plI at c7;obtain⟨x1,x2,x3⟩:=t;obtain⟨y1,y2,y3⟩:=D;rcases A with ⟨hi,c5⟩ | ⟨i1,i2,x⟩
 ·rw[zaa Zak.h566 rfl,b566];generalize fz (fv s)=sz at *
  obtain⟨⟨code,outs,dim,par⟩,⟨nm,c',a',b,e⟩,pp,bits⟩:=p;obtain⟨L,⟨h1,h2,h3⟩,hy⟩:=h;obtain⟨s1,s2,s3⟩:=s;obtain⟨v1,v2,v3⟩:=sz;dsimp only at *
  by_cases i0:i<0
  ·simp -implicitDefEqProofs[w,c1,c2,c3,b1,b2,b3,t1,t2,t3,n1,r1,r2,z1,z2,c4,c7,c8,hd,b4,b5,w2,hl,hl',hk0,d1,c6,d2,d3,c5,i0]
  ·have i1:(TS.length:Int)-2<i:=by omega
   simp -implicitDefEqProofs[w,c1,c2,c3,b1,b2,b3,t1,t2,t3,n1,r1,r2,z1,z2,c4,c7,c8,hd,b4,b5,w2,hl,hl',hk0,d1,c6,d2,d3,c5,i0,i1]
 ·obtain⟨⟨tt1,tt2,tt3⟩,⟨D1,D2,D3⟩,y',z',f0',f1',k',st',a1,c5,c5b,c5c,c5d⟩:=x;rw[zaa Zak.h566 rfl,b566];generalize fz (fv s)=sz at *
  obtain⟨⟨code,outs,dim,par⟩,⟨nm,c',a',b,e⟩,pp,bits⟩:=p;obtain⟨L,⟨h1,h2,h3⟩,hy⟩:=h;obtain⟨s1,s2,s3⟩:=s;obtain⟨v1,v2,v3⟩:=sz;dsimp only at *
  simp -implicitDefEqProofs[w,c1,c2,c3,b1,b2,b3,t1,t2,t3,n1,r1,r2,z1,z2,c4,c7,c8,hd,b4,b5,w2,hl,hl',hk0,d1,c6,d2,d3,c5,c5b,c5c,c5d,i1,i2]
end
end Go.Ab
end
section
namespace Go.Ab
theorem zyl{s:Rat}:∀{ts:List Fz} {k:Nat},Ziv s ts=some k→k+1<ts.length:=by
 have aux:∀(l:List Fz) (i k:Nat),Zf2 s l i=some k→k<i+l.length:=by
  intro l
  induction l with
  | nil=>intro i k h;cases h
  | cons u r ih=>
   intro i k h;rw[Zf2]at h;by_cases hu:s≤fv u
   ·rw[if_pos hu]at h;cases h;simp
   ·rw[if_neg hu]at h;have:=ih (i+1) k h;rw[Yn];omega
 intro ts k h;cases ts with
 | nil=>cases h
 | cons t l=>
  have h':(if s<fv t then none else Zf2 s l 0)=some k:=h;by_cases h1:s<fv t
  ·rw[if_pos h1]at h';cases h'
  ·rw[if_neg h1]at h';have:=aux l 0 k h';rw[Yn];omega
section
variable{T:Tbl}[Zaj T][Zs T][Z2 T][Z4 T][Zu T][Zw T][Zf T][Zl T][Zp T][Zah T][Za4 T][Zdh T][Zal T][Zar T][Zbs T][Zas T][Zew T][Zap T][Za0 T][Zaz T][Zbr T][Zam T][Zej T][Zc1 T][Zag T][Zdn T][Zbg T][Zba T]
variable[Z0 T][Z7 T][Zy T][Zaa T][Zz T][Zab T][Zk T][Zac T][Zcw T][Zd6 T][Zfq T][Zb1 T][Zbq T][Zei T][Zgp T][Zdr T][Za5 T][Zex T][Ze6 T][Za9 T][Zds T][Ze7 T]
variable[Za1 T][Zc2 T][Zb2 T][Zbk T][Zcr T][Zd5 T][Zcs T][Zch T][Zak T]
theorem zmn(p:Pb)(h:Hs)(s:Fz)(i:Int)(i1:-9223372036854775808≤i)(i2:i<9223372036854775808)(hp:PbS p)(hbits:p.bits≤300)(hh:HsS h 2)(hy:h.y.length≤4)(hs:fsz s≤2)(H:Ask (T:=T) p h s) :
  Za T 566 [epb p,ehs h,efz s,.i .i64 i]=some (.b true):=by
 have hh4:HsS h 400:=hh.mono (by decide);have c4:=zhq (T:=T) h s hh4 (by omega);by_cases hR:Z5 h=true
 rotate_left
 ·have hR':Z5 h=false:=(Yb5 _).mp hR;rw[if_neg hR]at c4;have hb:¬ (Z5 h=true∧okP p=true∧(h.y.length:Int)=p.t.dim):=fun x=>hR x.1;exact zog (T:=T) p h s i H hR' c4 (z0z (T:=T) p h i hp hh4 hb) (zph (T:=T) p h s hp hh4 hb)
 rw[if_pos hR]at c4;have zs:=za4 (L:=2) hs (by decide);have c7:=zrc (T:=T) h (fv s) (by omega) hh4 hR;by_cases hP:okP p=true∧(h.y.length:Int)=p.t.dim
 rotate_left
 ·have hb:¬ (Z5 h=true∧okP p=true∧(h.y.length:Int)=p.t.dim):=fun x=>hP x.2;refine zqt (T:=T) p h s i H hR _ ?_ c4 c7 (z0z (T:=T) p h i hp hh4 hb) (zph (T:=T) p h s hp hh4 hb);by_cases h1:okP p=true
  ·exact .inr fun x=>hP ⟨h1,x⟩
  ·exact .inl ((Yb5 _).mp h1)
 obtain⟨hP,hd⟩:=hP;have c8:=zf7 (T:=T) h hh.len;rw[(zfo hR).1,(zfo hR).2]at c8;have hn:=zd7 hh;have A:((i<0∨((Zx h).length:Int)-2<i)∧Za T 569 [epb p,ehs h,.i .i64 i]=some (.tup [agZ,Zcf 2 0 0 0]))∨(¬ i<0∧¬ ((Zx h).length:Int)-2<i∧Zla T p h i):=by
  by_cases hi:i<0∨((Zx h).length:Int)-2<i
  ·exact .inl ⟨hi,z4d (T:=T) p h i hp hh4 hR hP hd (by omega)⟩
  ·obtain⟨j,rfl⟩:∃j:Nat,i=j:=⟨i.toNat,by omega⟩;exact .inr ⟨by omega,by omega,z63 (T:=T) p h j hp hbits hh hy hR hP hd (by omega)⟩
 cases hpl:Ziv (fv s) (Zx h) with
 | some k=>
  rw[hpl]at c4 c7;have hk:=zyl hpl;obtain⟨t,D,y,z,f0,f1,kk,st,a,d1,x⟩:=zuf (T:=T) p h s k hp hbits hh hs hy hR hP hd hpl hk;rcases x with ⟨k0,c6⟩ | ⟨k0,R,c6,d2,d3⟩
  ·exact zqw (T:=T) p h s i H hR hP hd _ _ hn _ c8 c4 c7 A (by omega) k rfl t D y z f0 f1 kk st a d1 k0 c6
  ·exact zqx (T:=T) p h s i H hR hP hd _ _ hn _ c8 c4 c7 A (by omega) k rfl t D y z f0 f1 kk st a d1 k0 R c6 d2 d3
 | none=>
  rw[hpl]at c4 c7;by_cases h1:(Zx h).length=1
  ·obtain⟨t0,e1⟩:=Yco.1 h1;obtain⟨y0,e2⟩:=Yco.1 (show (Zaq h).length=1 by rw[zj5];exact h1);have r0:=zd6 (h:=h) t0 (by rw[e1];simp);have c9:=za8 (T:=T) (fz (fv s)) t0 (by rw[zar];omega);obtain⟨zy,ly⟩:=zeo hh (by decide) y0 (by rw[e2];simp);by_cases he:fv t0=fv s
   ·rw[decide_eq_true (by rw[←he];exact r0)]at c9;have c10:=zsh (T:=T) y0 y0 ly (fun x hx=>Yc (zy x hx) (by decide));rw[decide_eq_true rfl]at c10;exact zqu (T:=T) p h s i H hR hP hd _ _ hn _ c8 c4 c7 A t0 y0 e1 e2 c9 (zvt (T:=T) p h s t0 y0 hp hh4 (by omega) hR hP hd e1 e2 he) c10
   ·rw[decide_eq_false (fun x=>he (by rw[←x,za7]))]at c9;refine zoh (T:=T) p h s i H hR hP hd _ _ hn _ c8 c4 c7 A t0 e1 rfl c9 (zj6 (T:=T) p h s hp hh4 (by omega) hR hP hd (fun t ht=>?_) hpl);rw[e1]at ht;cases ht;exact he
  ·exact zqv (T:=T) p h s i H hR hP hd _ _ hn _ c8 c4 c7 A h1 rfl (zj6 (T:=T) p h s hp hh4 (by omega) hR hP hd (fun t ht=>absurd (by rw[ht];rfl) h1) hpl)
set_option maxRecDepth 4000
theorem zoi(p:Pb)(h:Hs)(s:Fz)(i:Int)(d1:-9223372036854775808≤p.t.dim)(d2:p.t.dim<9223372036854775808)(i1:-9223372036854775808≤i)(i2:i<9223372036854775808):Za T 566 [epb p,ehs h,efz s,.i .i64 i]=some (.b true):=by
 have w:=zqs (T:=T);have c1:=zun (T:=T) p 10 4 2 (by decide) (by decide);have c2:=zuo (T:=T) h 5 2 (by decide);have c3:=zd1 (T:=T) s 2;replace c1:Za T 496 [epb p,.i .i64 10,.i .i64 4,.i .i64 2]=some (.b (Zie p 10 4 2)):=c1;replace c2:Za T 497 [ehs h,.i .i64 5,.i .i64 2]=some (.b (Zi8 h 5 2)):=c2;replace c3:Za T 247 [efz s,.i .i64 2]=some (.b (decide (2<fsz s))):=c3;cases h1:Zie p 10 4 2 with
 | true=>
  rw[h1]at c1;rw[zaa Zak.h566 rfl,b566];obtain⟨⟨code,outs,dim,par⟩,⟨nm,c',a',b,e⟩,pp,bits⟩:=p;obtain⟨L,ht,hy⟩:=h;obtain⟨s1,s2,s3⟩:=s;dsimp only at *
  simp -implicitDefEqProofs[w,c1]
 | false=>
 rw[h1]at c1;by_cases h2:300<p.bits
 ·rw[zaa Zak.h566 rfl,b566];obtain⟨⟨code,outs,dim,par⟩,⟨nm,c',a',b,e⟩,pp,bits⟩:=p;obtain⟨L,ht,hy⟩:=h;obtain⟨s1,s2,s3⟩:=s;dsimp only at *
  simp -implicitDefEqProofs[w,c1,h2]
 cases h3:Zi8 h 5 2 with
 | true=>
  rw[h3]at c2;rw[zaa Zak.h566 rfl,b566];obtain⟨⟨code,outs,dim,par⟩,⟨nm,c',a',b,e⟩,pp,bits⟩:=p;obtain⟨L,ht,hy⟩:=h;obtain⟨s1,s2,s3⟩:=s;dsimp only at *
  simp -implicitDefEqProofs[w,c1,c2,h2]
 | false=>
 rw[h3]at c2;by_cases h4:4<h.y.length
 ·have h4':(4:Int)<h.y.length:=by omega
  rw[zaa Zak.h566 rfl,b566];obtain⟨⟨code,outs,dim,par⟩,⟨nm,c',a',b,e⟩,pp,bits⟩:=p;obtain⟨L,ht,hy⟩:=h;obtain⟨s1,s2,s3⟩:=s;dsimp only at *
  simp -implicitDefEqProofs[w,c1,c2,h2,h4,h4']
 have h4':¬ (4:Int)<h.y.length:=by omega
 by_cases h5:2<fsz s
 ·rw[decide_eq_true h5]at c3;rw[zaa Zak.h566 rfl,b566];obtain⟨⟨code,outs,dim,par⟩,⟨nm,c',a',b,e⟩,pp,bits⟩:=p;obtain⟨L,ht,hy⟩:=h;obtain⟨s1,s2,s3⟩:=s;dsimp only at *
  simp -implicitDefEqProofs[w,c1,c2,c3,h2,h4,h4']
 rw[decide_eq_false h5]at c3;obtain⟨hs,hl,hy8,hr8⟩:=zqy h3 (by decide);unfold Zie at h1;simp only[Yb9]at h1;obtain⟨⟨l1,l2⟩,l3⟩:=h1;obtain⟨ps,_⟩:=zom l2 (by decide) (by decide);obtain⟨pl,pw⟩:=zbe l3;have ht:=zacv l1 (by decide) (by decide) d1 d2;obtain⟨tc,tq,_⟩:=zjf l1;have hp:PbS p:=⟨ht,ps,fun x hx=>Yc (pw x hx) (by decide),by omega⟩;have zo:=zj7 (T:=T) (false,[],[]) (false,[],[]) [] [] [] [] (by simp);have zr:=zdf (T:=T) (false,[],[]) (false,[],[]) [] [] [] [] (by decide) (by decide) (by simp) (by simp);exact zmn (T:=T) p h s i i1 i2 hp (by omega) hs (by omega) (by omega)
  ⟨w,c1,c2,c3,h2,h4,h4',z26 (T:=T) p hp (by omega) (by omega),z27 (T:=T) h (by omega) (fun r hr=>by have:=hr8 r hr;omega) (by omega),zdm (T:=T) s,zbn (T:=T) s (by omega),
   zq8 (T:=T) p hp,zra (T:=T) h (hs.mono (by decide)),zo,zr⟩
end
end Go.Ab
end