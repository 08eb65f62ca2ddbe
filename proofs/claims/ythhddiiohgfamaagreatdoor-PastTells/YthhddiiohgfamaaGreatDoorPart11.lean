/-
  A calculus of values, boxes and code, and what functions of the program compute, proved in it.
  Conditions: none beyond those that the theorems state. (Part 11.)
-/
import Derived.Test.YthhddiiohgfamaaGreatDoorPart10

set_option linter.unusedSectionVars false
set_option linter.unusedVariables false
set_option linter.unusedSimpArgs false
set_option linter.unnecessarySimpa false
set_option linter.defProp false

namespace Go.Ab
def zrp(l:List Fz):Zat (nrm l)=Zat l:=by
 unfold Zat nrm;rw[Ybt];exact Yc7 fun x _=>by simp
def zxp(r:Trr):Zbs (Zac r)=Zbs r:=by
 unfold Zbs Zac;simp only[zhd,zrp]
def ztm(h:Hs):Za4 (Zaw h)=Za4 h:=by
 unfold Za4 Zaw;simp only[zhd,zrp,Ybt];rw[show (Zbs∘Zac)=Zbs from funext zxp]
def ztn{h:Hs}(hs:HsS h 100)(h1:h.l.length<=100)(h2:h.y.length<=100)(h3:∀r∈h.l,r.y.length<=100):Zc9 h=true:=by
 have key:∀l:List Fz,l.length<=100->(∀x∈l,fsz x<=100)->Zek l=true:=fun l q1 q2=>by
  unfold Zek;rw[decide_eq_true q1,Ydu,Yn];exact fun x hx=>decide_eq_true (q2 x hx)
 unfold Zc9;rw[decide_eq_true h1,key [h.t] (by simp) (fun x hx=>by rw[Yaf.1 hx];exact hs.t),key h.y h2 hs.y,Ydu,Ydu,Ydu,Yn];exact fun r hr=>by rw[key r.nums (by simp[Trr.nums]) (hs.rt r hr),key r.y (h3 r hr) (hs.ry r hr)];rfl
def HsS.up{h:Hs}{B C:Nat}(hs:HsS h B)(hB:B<=C):HsS h C:=
 ⟨hs.len,Yc hs.t hB,fun x hx=>Yc (hs.y x hx) hB,hs.yl,fun r hr x hx=>Yc (hs.rt r hr x hx) hB,fun r hr x hx=>Yc (hs.ry r hr x hx) hB,hs.rl⟩
def zi3{h:Hs}(hs:HsS h 3):HsS (Zaw h) 8:=by
 have k:∀x:Fz,fsz x<=3->fsz (fz (fv x))<=8:=fun x hx=>by
  rw[zr6];have:=zhe (x:=x) (L:=3) hx (by decide);omega
 refine⟨by simpa[Zaw]using hs.len,k _ hs.t,?_,by simpa[Zaw,nrm]using hs.yl,?_,?_,?_⟩
 ·intro x hx;obtain⟨y,hy,rfl⟩:=Yv.1 hx;exact k _ (hs.y y hy)
 ·intro r hr x hx;obtain⟨q,hq,rfl⟩:=Yv.1 hr;have hn:=hs.rt q hq;simp only[Zac,Trr.nums,Yr,Ya6,or_false]at hx hn;rcases hx with rfl | rfl | rfl | rfl
  ·exact k _ (hn _ (.inl rfl))
  ·exact k _ (hn _ (.inr (.inl rfl)))
  ·exact k _ (hn _ (.inr (.inr (.inl rfl))))
  ·exact k _ (hn _ (.inr (.inr (.inr rfl))))
 ·intro r hr x hx;obtain⟨q,hq,rfl⟩:=Yv.1 hr;obtain⟨y,hy,rfl⟩:=Yv.1 hx;exact k _ (hs.ry q hq y hy)
 ·intro r hr;obtain⟨q,hq,rfl⟩:=Yv.1 hr;simpa[Zac,nrm]using hs.rl q hq
def z4x{h:Hs}(hs:HsS h 3)(h8:h.y.length<=8)(hr:∀r∈h.l,r.y.length<=8):TxH (Zaw h):=by
 have k:∀x:Fz,fsz x<=3->txF (fz (fv x)):=fun x hx=>by
  have:=zhe (x:=x) (L:=3) hx (by decide);exact⟨by rw[zhd],by rw[zhd];omega⟩
 refine⟨by simpa[Zaw]using hs.len,k _ hs.t,?_,by simpa[Zaw,nrm]using h8,?_,?_,?_⟩
 ·intro x hx;obtain⟨y,hy,rfl⟩:=Yv.1 hx;exact k _ (hs.y y hy)
 ·intro r hr x hx;obtain⟨q,hq,rfl⟩:=Yv.1 hr;have hn:=hs.rt q hq;simp only[Zac,Trr.nums,Yr,Ya6,or_false]at hx hn;rcases hx with rfl | rfl | rfl | rfl
  ·exact k _ (hn _ (.inl rfl))
  ·exact k _ (hn _ (.inr (.inl rfl)))
  ·exact k _ (hn _ (.inr (.inr (.inl rfl))))
  ·exact k _ (hn _ (.inr (.inr (.inr rfl))))
 ·intro r hr x hx;obtain⟨q,hq,rfl⟩:=Yv.1 hr;obtain⟨y,hy,rfl⟩:=Yv.1 hx;exact k _ (hs.ry q hq y hy)
 ·intro r hr';obtain⟨q,hq,rfl⟩:=Yv.1 hr';simpa[Zac,nrm]using hr q hq
section
variable{T:Tbl}[Zdj T]
def Zkv(a N:Hs)(ts us:List (List AV))(ys zs:List (List AV))(m:List Trr)(i:Nat):St:=
 ⟨[(5,.ptr (.loc 5) 1 5 0 0),(6,.ptr (.loc 6) 2 5 0 0),(7,.sl ts .an),(8,.sl ys .an),(9,.sl us .an),(10,.sl zs .an),(12,.bs (.loc 12) 3 14 0 m.length),(13,.i .i64 i)],
  [(.loc 5,bxH a),(.loc 6,⟨2,.str,5,[[.sl (Zs N.l) .an,.b N.t.1,.sl (Za N.t.2.1) .an,.sl (Za N.t.2.2) .an,.sl (Zc N.y) .an]]⟩),(.loc 12,⟨3,.own,14,Zs m⟩)],5⟩
def zto(a N:Hs)(ts us ys zs:List (List AV))(h1:wkL ts=ts)(h2:wkL us=us)(h3:wkL ys=ys)(h4:wkL zs=zs)(hl:N.l.length<=1000) :
  Zl T 0 0 (.norm false [5,6,7,8,9,10,12]) l684_0 (Zkv a N ts us ys zs [] 0)=some (.n,⟨[(5,.ptr (.loc 5) 1 5 0 0),(6,.ptr (.loc 6) 2 5 0 0),(7,.sl ts .an),(8,.sl ys .an),(9,.sl us .an),(10,.sl zs .an),(12,.bs (.loc 12) 3 14 0 (N.l.filter (·.ok)).length)],
   [(.loc 5,bxH a),(.loc 6,⟨2,.str,5,[[.sl (Zs N.l) .an,.b N.t.1,.sl (Za N.t.2.1) .an,.sl (Za N.t.2.2) .an,.sl (Zc N.y) .an]]⟩),(.loc 12,⟨3,.own,14,Zs (N.l.filter (·.ok))⟩)],5⟩):=by
 have key:=zas (T:=T) (k:=0) (id:=0) (g2:=.norm false [5,6,7,8,9,10,12]) (c:=l684_0) (fun i=>Zkv a N ts us ys zs ((N.l.take i).filter (·.ok)) i) N.l.length
  (some (.n,⟨[(5,.ptr (.loc 5) 1 5 0 0),(6,.ptr (.loc 6) 2 5 0 0),(7,.sl ts .an),(8,.sl ys .an),(9,.sl us .an),(10,.sl zs .an),(12,.bs (.loc 12) 3 14 0 (N.l.filter (·.ok)).length)],
   [(.loc 5,bxH a),(.loc 6,⟨2,.str,5,[[.sl (Zs N.l) .an,.b N.t.1,.sl (Za N.t.2.1) .an,.sl (Za N.t.2.2) .an,.sl (Zc N.y) .an]]⟩),(.loc 12,⟨3,.own,14,Zs (N.l.filter (·.ok))⟩)],5⟩)) (fun i hi=>?_) ?_
 ·exact key
 ·have hi':(i:Int)<N.l.length:=by omega
  have hws:=zbo hi (by omega);have key:(N.l.take (i+1)).filter (·.ok)=if (N.l[i]'hi).ok then (N.l.take i).filter (·.ok)++[N.l[i]'hi] else (N.l.take i).filter (·.ok):=by
   grind[List.take_succ_eq_append_getElem]
  have hAl:((N.l.take i).filter (·.ok)).length<=1000:=Yc (Ybe ..) (by rw[Yas];omega);rw[key];generalize (N.l.take i).filter (·.ok)=A at *
  generalize hq:N.l[i]'hi=q at *
  have hi4:A.length+1<=4294967296:=by omega
  have t1:List.take A.length A=A:=Yb (by omega);have hpush:=zd1 (m:=A) rfl q;rw[t1]at hpush;have hga:N.l[i]? = some q:=by rw[Ya hi,hq]
  unfold Zkv bxH;obtain⟨aL,at_,ay⟩:=a;obtain⟨L,t,y⟩:=N;dsimp only at *
  cases hok:q.ok with
  | true=>
   simp only[if_true,Yo,Ye,Yaa];obtain⟨q1,q2,q3,q4,q5,q6⟩:=q;dsimp only at *
   subst hok;simp -implicitDefEqProofs[l684_0,hi,hi',hq,hga,hws,hi4,hpush,t1,h1,h2,h3,h4]
  | false=>
   simp only[Yac,if_false];obtain⟨q1,q2,q3,q4,q5,q6⟩:=q;dsimp only at *
   subst hok;simp -implicitDefEqProofs[l684_0,hi,hi',hq,hga,hws,h1,h2,h3,h4]
 ·rw[Yb (Yd _)];generalize N.l.filter (·.ok)=M at *
  unfold Zkv bxH;constructor<;>simp -implicitDefEqProofs[l684_0,h1,h2,h3,h4]
end
def z0u{h:Hs}{B:Nat}(hs:HsS h 3):∀x∈Zdt h,fsz x<=8:=by
 have q:=zi3 hs;intro x hx;rw[<-z2t]at hx;unfold Zk6 at hx;rcases Yao.1 hx with hx | hx
 ·obtain⟨r,hr,rfl⟩:=Yv.1 hx;exact q.rt r (Yb1.1 hr).1 _ (by simp[Trr.nums])
 ·rw[Yaf.1 hx];exact q.t
def zrq{h:Hs}(hs:HsS h 3):∀r∈Zdu h,r.length<=1000/\∀x∈r,fsz x<=8:=by
 have q:=zi3 hs;intro x hx;rw[<-z2u]at hx;unfold Zk7 at hx;rcases Yao.1 hx with hx | hx
 ·obtain⟨r,hr,rfl⟩:=Yv.1 hx;exact⟨q.rl r (Yb1.1 hr).1,q.ry r (Yb1.1 hr).1⟩
 ·rw[Yaf.1 hx];exact⟨q.yl,q.y⟩
def zaau{h:Hs}(hs:HsS h 3):∀x∈Zgy h,fsz x<=8:=by
 have q:=zi3 hs;intro x hx;unfold Zgy at hx;rw[<-zfa]at hx;obtain⟨r,hr,rfl⟩:=Yv.1 hx;exact q.rt r (Yb1.1 hr).1 _ (by simp[Trr.nums])
def zaav{h:Hs}(hs:HsS h 3):HsS ⟨Zav h.l,(false,[],[]),[]⟩ 8:=by
 have q:=zi3 hs;have hl:(Zav h.l).length<=1000:=by
  unfold Zav;rw[Y1];exact Yc (Ybe ..) hs.len
 rw[<-zfa]at hl ⊢;exact⟨hl,show fsz ((false,[],[]):Fz)<=8 by decide,fun x hx=>(by cases hx),show 0<=1000 by decide,fun r hr=>q.rt r (Yb1.1 hr).1,fun r hr=>q.ry r (Yb1.1 hr).1,fun r hr=>q.rl r (Yb1.1 hr).1⟩
def z4y(h:Hs):(Zdt h).length<=h.l.length+1/\(Zdu h).length<=h.l.length+1/\(Zgy h).length<=h.l.length/\(Zav h.l).length<=h.l.length:=by
 have:=Ybe (fun r:Trr=>r.ok) h.l;unfold Zdt Zdu Zgy Zav;simp only[Yo,Y1,Ye,Yaa];omega
section
variable{T:Tbl}[Zan T][Zr T][Zx T][Z2 T][Zt T][Zw T][Zp T][Zbb T][Zi T][Zo T][Z0 T][Zc1 T][Zbf T][Zb3 T][Zdp T][Za1 T][Zcj T][Zeg T][Zcv T][Zcc T][Zdi T][Zf0 T][Zfy T][Zba T][Zb8 T][Zfb T][Za3 T][Zgb T][Zfi T][Zbp T][Zgc T]
variable[Z9 T][Zau T][Zaa T][Z5 T][Zao T][Zab T][Z8 T][Zgd T][Zas T][Zgz T][Zfz T][Zge T][Zb4 T][Zh1 T][Zc2 T][Zeh T][Zei T][Zhg T][Zcr T][Zcd T][Zfh T][Zhh T][Zdj T]
def zp3(a b:Hs):Zb T 684 [ehs a,ehs b]=some (.b true):=by
 have hw:=zp4 (T:=T);have la:=zkp (T:=T) a 8 3 (by decide);have lb:=zkp (T:=T) b 8 3 (by decide);simp only[Int.cast_ofNat_Int]at la lb;rw[zaa Zdj.h684 rfl,b684];cases hA:Zh3 a 8 3 with
 | true=>
  rw[hA]at la;obtain⟨aL,⟨a1,a2,a3⟩,ay⟩:=a;simp -implicitDefEqProofs[la,hw]
 | false=>
 cases hB:Zh3 b 8 3 with
 | true=>
  rw[hA]at la;rw[hB]at lb;obtain⟨aL,⟨a1,a2,a3⟩,ay⟩:=a;obtain⟨bL,⟨b1,b2,b3⟩,y⟩:=b;simp -implicitDefEqProofs[la,lb,hw]
 | false=>
 rw[hA]at la;rw[hB]at lb;obtain⟨sa,na,ya,ra⟩:=zi6 hA (by decide);obtain⟨sb,nb,yb,rb⟩:=zi6 hB (by decide);have t1:=zru (T:=T) a sa.len sa.rl sa.yl;have t2:=zru (T:=T) b sb.len sb.rl sb.yl;have n1:=zkx (T:=T) a (sa.up (by decide));have n2:=zkx (T:=T) b (sb.up (by decide));have nd:=zt2 (T:=T) a (sa.up (by decide));have rd:=zqc (T:=T) (Zaw a) (by simpa[Zaw]using sa.len);rw[z2t,z2u]at rd;have w1:=zqd (T:=T) a (sa.up (by decide));have w2:=zgv (T:=T) a (sa.up (by decide));have rg:=zt0 (T:=T) a (sa.up (by decide));have s1:=zx1 (T:=T) a b (sa.up (by decide)) (sb.up (by decide));have s2:=zky (T:=T) (Zaw a) (Zaw b) ((zi3 sa).up (by decide));have x1:Zb T 689 [ehs a]=some (.s (Za4 a)):=by
  rw[p689,zla _ (ztn (sa.up (by decide)) (by omega) (by omega) (fun r hr=>Yc (ra r hr) (by decide)))]
 have x2:=zup (T:=T) (Zaw a) (z4x sa ya ra);rw[ztm]at x2;have ac:=zec (T:=T) a (sa.up (by decide));have as9:=zaav sa;have of:=z0t (T:=T) ⟨Zav a.l,(false,[],[]),[]⟩ as9.len as9.rl as9.yl;obtain⟨m1,m2,m3,m4⟩:=z4y a;have i1:=zlx (T:=T) (Zdt a) (Zdt a) (by omega) (fun x hx=>Yc (z0u (B:=0) sa x hx) (by decide));have i2:=z0s (T:=T) (Zdu a) (Zdu a) (by omega) (fun r hr=>(zrq sa r hr).1) (fun r hr x hx=>Yc ((zrq sa r hr).2 x hx) (by decide));have z1:=z04 (T:=T) a (sa.up (by decide));have z2:=zqe (T:=T) (Zaw a) (by simpa[Zaw]using sa.len);have e3:((Zaw a).l.filter (·.ok)).map (·.h)=Zgy a:=by rw[zfa];rfl
 rw[e3]at z2;have i3:=zlx (T:=T) (Zgy a) (Zgy a) (by omega) (fun x hx=>Yc (zaau sa x hx) (by decide));have s3:=zky (T:=T) ⟨Zav a.l,(false,[],[]),[]⟩ ⟨Zav a.l,(false,[],[]),[]⟩ (as9.up (by decide));rw[decide_eq_true rfl]at i1 i2 i3 s3;have hlp:=zto (T:=T) a (Zaw a) (Zc (Zdt a)) (Zc (Zdt a)) (Zz (Zdu a)) (Zz (Zdu a)) (zcu _) (zcu _) (zma _) (zma _) (by simpa[Zaw]using sa.len);rw[zfa]at hlp;replace of:Zb T 691 [.agg [.sl (Zs (Zav a.l)) .an,.b false,.sl [] .an,.sl [] .an,.sl [] .an]]=some (.agg [.sl (Zs (Zav a.l)) .an,.b false,.sl [] .an,.sl [] .an,.sl [] .an]):=of;replace s3:Zb T 688 [.agg [.sl (Zs (Zav a.l)) .an,.b false,.sl [] .an,.sl [] .an,.sl [] .an],.agg [.sl (Zs (Zav a.l)) .an,.b false,.sl [] .an,.sl [] .an,.sl [] .an]]=some (.b true):=s3;have hk1:wkL (Zc (Zdt a))=Zc (Zdt a):=zcu _;have hk2:wkL (Zz (Zdu a))=Zz (Zdu a):=zma _;have hk3:wkL (Zc (Zgy a))=Zc (Zgy a):=zcu _;have hk4:wkL (Zs (Zav a.l))=Zs (Zav a.l):=zmb _;have htl:List.take (Zav a.l).length (Zs (Zav a.l))=Zs (Zav a.l):=Yb (by simp);have hln:(Zs (Zav a.l)).length=(Zav a.l).length:=zds _;have hr:Zjh a=decide (Zct a=0):=rfl;rw[hr]at rg;unfold Zkv bxH at hlp;simp only[Yt,Yaa,zet]at hlp;clear sa na ya ra sb nb yb rb as9 m1 m2 m3 m4 e3 hr hA hB;generalize decide (Zaw a=Zaw b)=D at *
 generalize Za4 a=TX at *
 generalize Zc (Zdt a)=R1 at *
 generalize Zz (Zdu a)=R2 at *
 generalize Zc (Zgy a)=R3 at *
 generalize Zs (Zav a.l)=R4 at *
 generalize (Zav a.l).length=kk at *
 generalize Zct a=W at *
 generalize Zaw a=N at *
 generalize Zaw b=M at *
 obtain⟨aL,⟨a1,a2,a3⟩,ay⟩:=a;obtain⟨bL,⟨b1,b2,b3⟩,y⟩:=b;obtain⟨nL,⟨n1',n2',n3'⟩,ny⟩:=N;obtain⟨mL,⟨p1,p2,p3⟩,py⟩:=M;dsimp only at *
 by_cases hW:W=0
 ·subst hW;simp -implicitDefEqProofs[la,lb,hw,t1,t2,n1,n2,nd,rd,w1,w2,rg,s1,s2,x1,x2,hlp,ac,of,i1,i2,z1,z2,i3,s3,hk1,hk2,hk3,hk4,htl,hln]
 ·rw[decide_eq_false hW]at rg;simp -implicitDefEqProofs[la,lb,hw,t1,t2,n1,n2,nd,rd,w1,w2,rg,s1,s2,x1,x2,hlp,ac,of,i1,i2,z1,z2,i3,s3,hk1,hk2,hk3,hk4,htl,hln,hW]
end
end Go.Ab