/-
  A calculus of values, boxes and code, and what functions of the program compute, proved in it.
  Conditions: none beyond those that the theorems state. (Part 9.)
-/
import Derived.Test.YthhddiiohgfamaaGreatDoorPart8

set_option linter.unusedSectionVars false
set_option linter.unusedVariables false
set_option linter.unusedSimpArgs false
set_option linter.unnecessarySimpa false
set_option linter.defProp false
set_option maxRecDepth 100000

namespace Go.Ab
def zaa5(a b:Trr):decide (a=b)=(decide (a.ok=b.ok)&&(decide (a.nums=b.nums)&&decide (a.y=b.y))):=by
 rw[Ybo];obtain⟨a1,a2,a3,a4,a5,a6⟩:=a;obtain⟨b1,b2,b3,b4,b5,b6⟩:=b;simp only[Trr.nums,Trr.mk.injEq,decide_eq_true_eq,Ym,List.cons.injEq,and_true]
 grind
def Zbs(r:Trr):List UInt8:=(if r.ok then 43 else 45)::32::(Zd (fv r.t)++32::(Zd (fv r.w)++32::(Zd (fv r.h)++32::(Zd (fv r.e)++32::(List.intercalate [44] (Zat r.y)++[10])))))
def Za4(h:Hs):List UInt8:=(h.l.map Zbs).flatten++(61::32::(Zd (fv h.t)++32::List.intercalate [44] (Zat h.y)))
def txF(x:Fz):Prop:=x=fz (fv x)/\sz (fv x)<=20
structure TxH (h:Hs):Prop where
 len:h.l.length<=1000
 t:txF h.t
 y:∀x∈h.y,txF x
 yl:h.y.length<=8
 rt:∀r∈h.l,∀x∈r.nums,txF x
 ry:∀r∈h.l,∀x∈r.y,txF x
 rl:∀r∈h.l,r.y.length<=8
theorem zdr{K:Nat}(c:UInt8):∀(ts:List (List UInt8)),(∀t∈ts,t.length<=K)->(List.intercalate [c] ts).length<=ts.length*(K+1)
 | [],_=>by simp[List.intercalate]
 | [t],h=>by
  have:=h t Yl;simp[List.intercalate];omega
 | t::t2::ts,h=>by
  have h1:=h t Yl;have h2:=zdr c (t2::ts) fun t ht=>h t (Yj _ ht);have e:List.intercalate [c] (t::t2::ts)=t++c::List.intercalate [c] (t2::ts):=by simp[List.intercalate]
  rw[e,Yo,Ye];simp only[Ye]at h2 ⊢;rw[Nat.succ_mul];omega
def zdy{x:Fz}(h:txF x):(Zd (fv x)).length<=400:=(ze9 h.2).2.2.2
def zqf{l:List Fz}(h:∀x∈l,txF x)(hl:l.length<=8):(List.intercalate [44] (Zat l)).length<=3208:=by
 have hq:∀t∈Zat l,t.length<=400:=by
  intro t ht;obtain⟨x,hx,rfl⟩:=Yv.1 ht;exact zdy (h x hx)
 have hb:=zdr (K:=400) 44 (Zat l) hq;have u3:(Zat l).length<=8:=by unfold Zat;rw[Y1];exact hl
 have u4:(Zat l).length*(400+1)<=8*(400+1):=Y4 _ u3;omega
def zyo{r:Trr}(h1:∀x∈r.nums,txF x)(h2:∀x∈r.y,txF x)(h3:r.y.length<=8):(Zbs r).length<=5000:=by
 have u1:=zdy (h1 r.t (by simp[Trr.nums]));have u2:=zdy (h1 r.w (by simp[Trr.nums]));have u3:=zdy (h1 r.h (by simp[Trr.nums]));have u4:=zdy (h1 r.e (by simp[Trr.nums]));have u5:=zqf h2 h3;unfold Zbs;simp only[Yo,Ye,Yaa];omega
theorem zl4:∀(l:List (List UInt8)),(∀t∈l,t.length<=5000)->l.flatten.length<=l.length*5000
 | [],_=>by simp
 | t::l,h=>by
  have h1:=h t Yl;have h2:=zl4 l fun t ht=>h t (Yj _ ht);simp only[Yco,Yo,Ye];omega
section
variable{T:Tbl}[Z9 T][Zau T][Zaa T][Z5 T][Zao T][Zab T][Z8 T][Zgd T][Zas T][Zgz T][Zdp T][Za1 T][Zb4 T][Zei T]
def zyp(a b:Trr)(ha:∀x∈a.nums,fsz x<=10000)(hl:a.y.length<=1000)(hay:∀x∈a.y,fsz x<=10000) :
  Zb T 279 [.sl (Zc a.nums) .an,.sl (Zc b.nums) .an]=some (.b (decide (a.nums=b.nums)))/\Zb T 279 [.sl (Zc a.y) .an,.sl (Zc b.y) .an]=some (.b (decide (a.y=b.y))):=
 ⟨zc5 (T:=T) a.nums b.nums (by simp[Trr.nums]) ha,zc5 (T:=T) a.y b.y hl hay⟩
def zjf(r:Trr):Zb T 516 [.agg (Zd9 r)]=some (.sl (Zc r.nums) .an):=by
 have e:Zc r.nums=[Zam r.t,Zam r.w,Zam r.h,Zam r.e]:=rfl;rw[zaa Zb4.h516 rfl,b516,e];simp -implicitDefEqProofs[]
def Ze4(a b:Hs)(i:Nat):St:=⟨[(2,.ptr (.loc 2) 1 5 0 0),(3,.ptr (.loc 3) 2 5 0 0),(5,.i .i64 i)],[(.loc 2,bxH a),(.loc 3,⟨2,.str,5,[[.sl (Zs b.l) .an,.b b.t.1,.sl (Za b.t.2.1) .an,.sl (Za b.t.2.2) .an,.sl (Zc b.y) .an]]⟩)],4⟩
def zky(a b:Hs)(ha:HsS a 10000):Zb T 688 [ehs a,ehs b]=some (.b (decide (a=b))):=by
 have hal:=ha.len;have hlp:a.l.length=b.l.length->Zl T 0 0 (.norm false []) l688_0 (Ze4 a b 0)=if a.l.drop 0=b.l.drop 0 then some (.n,⟨[],[],2⟩) else some (.r,⟨[(4,.b false)],[],2⟩):=by
  intro hab;refine zay (Ze4 a b) a.l.length (fun i=>if a.l.drop i=b.l.drop i then some (.n,⟨[],[],2⟩) else some (.r,⟨[(4,.b false)],[],2⟩)) (fun i hi=>?_) ?_
  ·have hws:=zbo hi (by omega);have hib:i<b.l.length:=by omega
   have hm:=Yx hi;obtain⟨c1,c2⟩:=zyp (T:=T) (a.l[i]'hi) (b.l[i]'hib) (ha.rt _ hm) (ha.rl _ hm) (ha.ry _ hm);have c3:=zjf (T:=T) (a.l[i]'hi);have c4:=zjf (T:=T) (b.l[i]'hib);have key:(a.l.drop i=b.l.drop i)↔(a.l[i]'hi=b.l[i]'hib/\a.l.drop (i+1)=b.l.drop (i+1)):=by
    rw[Yi hi,Yi hib,List.cons.injEq]
   have hi':(i:Int)<a.l.length:=by omega
   have hib':(i:Int)<b.l.length:=by omega
   have hna:wkL (Zc (a.l[i]'hi).nums)=Zc (a.l[i]'hi).nums:=zcu _;have hnb:wkL (Zc (b.l[i]'hib).nums)=Zc (b.l[i]'hib).nums:=zcu _;have ht:=zaa5 (a.l[i]'hi) (b.l[i]'hib);generalize hq:a.l[i]'hi=q at *
   generalize hr:b.l[i]'hib=r at *
   generalize decide (q.nums=r.nums)=B at *
   generalize decide (q.y=r.y)=C at *
   generalize Zc q.nums=na at *
   generalize Zc r.nums=nb at *
   obtain⟨L,t,y⟩:=a;obtain⟨L',t',y'⟩:=b;dsimp only at *
   by_cases h1:q=r
   ·left;refine⟨?_,by simp only[key,h1,true_and]⟩;rw[decide_eq_true h1]at ht;obtain⟨q1,q2,q3,q4,q5,q6⟩:=q;obtain⟨r1,r2,r3,r4,r5,r6⟩:=r;have ht':=ht.symm;simp only[Ym,decide_eq_true_eq]at ht';obtain⟨e6,eB,eC⟩:=ht';subst e6 eB eC;unfold Ze4 bxH;simp -implicitDefEqProofs[l688_0,hi,hi',hq,hws,hib,hib',hr,c1,c2,c3,c4,hna,hnb]
   ·right;rw[if_neg (by rw[key];exact fun h=>h1 h.1)];rw[decide_eq_false h1]at ht;obtain⟨q1,q2,q3,q4,q5,q6⟩:=q;obtain⟨r1,r2,r3,r4,r5,r6⟩:=r;dsimp only at *
    unfold Ze4 bxH;by_cases h6:q6=r6
    ·subst h6;cases B
     ·constructor<;>simp -implicitDefEqProofs[l688_0,hi,hi',hq,hib,hib',hr,c1,c3,c4,hna,hnb]
     ·cases C
      ·constructor<;>simp -implicitDefEqProofs[l688_0,hi,hi',hq,hib,hib',hr,c1,c2,c3,c4,hna,hnb]
      ·simp at ht
    ·have h6':(q6 == r6)=false:=by simpa using h6
     constructor<;>simp -implicitDefEqProofs[l688_0,hi,hi',hq,hib,hib',hr,h6,h6']
  ·have e:b.l.drop a.l.length=[]:=Ybz (by omega);simp only[Y8,e,if_true];unfold Ze4 bxH;constructor<;>simp -implicitDefEqProofs[l688_0]
 have c2:=ze8 (T:=T) a.t b.t ha.t;have c3:=zc5 (T:=T) a.y b.y ha.yl ha.y;have key:decide (a=b)=(decide (a.l=b.l)&&(decide (a.t=b.t)&&decide (a.y=b.y))):=by
  rw[Ybo];obtain⟨L,t,y⟩:=a;obtain⟨L',t',y'⟩:=b;simp only[Hs.mk.injEq,decide_eq_true_eq,Ym]
 rw[key];rw[zaa Zei.h688 rfl,b688];unfold Ze4 bxH at hlp;simp only[Yaj,Yt]at hlp;have hne:¬ a.l.length=b.l.length->decide (a.l=b.l)=false:=fun h=>decide_eq_false fun e=>h (by rw[e]);have hM:(if a.l=b.l then some (Ex.n,(⟨[],[],2⟩:St)) else some (.r,⟨[(4,.b false)],[],2⟩))=if decide (a.l=b.l)=true then some (Ex.n,(⟨[],[],2⟩:St)) else some (.r,⟨[(4,.b false)],[],2⟩):=by simp
 rw[hM]at hlp;generalize decide (a.t=b.t)=B at *
 generalize decide (a.y=b.y)=C at *
 generalize decide (a.l=b.l)=D at *
 clear hM key;obtain⟨L,⟨t1,t2,t3⟩,y⟩:=a;obtain⟨L',⟨u1,u2,u3⟩,z⟩:=b;dsimp only at *
 by_cases hL:L.length=L'.length
 ·have hL':(L.length:Int)=L'.length:=by omega
  have h:=hlp hL;cases B
  ·simp -implicitDefEqProofs[hL,hL',c2]
  ·cases C
   ·simp -implicitDefEqProofs[hL,hL',c2,c3]
   ·cases D<;>simp at h<;>simp -implicitDefEqProofs[hL,hL',c2,c3,h]
 ·have hL':¬ (L.length:Int)=L'.length:=by omega
  rw[hne hL];simp -implicitDefEqProofs[hL,hL']
def zyq(x:Fz)(h:txF x):Zb T 259 [efz x]=some (.s (Zd (fv x))):=by
 have e:=zkw (T:=T) (fv x) h.2
 rwa [<-h.1]at e
def z2v(l:List Fz)(hl:l.length<=8)(h:∀x∈l,txF x):Zb T 284 [.sl (Zc l) .an]=some (.s (List.intercalate [44] (Zat l))):=by
 have e:=zuk (T:=T) (l.map fv) (by rw[Y1];omega) (fun q hq=>by
  obtain⟨x,hx,rfl⟩:=Yv.1 hq;exact(h x hx).2)
 have e2:fzs (l.map fv)=l:=by
  unfold fzs;rw[Ybt];exact(Yc7 fun x hx=>(h x hx).1.symm).trans (List.map_id l)
 rw[e2,Ybt]at e;exact e
def Zbq(h:Hs)(i:Nat):List UInt8:=((h.l.take i).map Zbs).flatten
def Zhp(h:Hs)(i:Nat):St:=⟨[(1,.ptr (.loc 1) 1 5 0 0),(3,.s (Zbq h i)),(4,.i .i64 i)],[(.loc 1,bxH h)],3⟩
def zkz(h:Hs)(hs:TxH h)(i:Nat):(Zbq h i).length<=5000000:=by
 have b:=zl4 ((h.l.take i).map Zbs) (fun t ht=>by
  obtain⟨r,hr,rfl⟩:=Yv.1 ht;have hm:=Yax hr;exact zyo (hs.rt r hm) (hs.ry r hm) (hs.rl r hm))
 have u:((h.l.take i).map Zbs).length<=1000:=by
  have:=hs.len;simp only[Y1,Yas];omega
 unfold Zbq;omega
def zqg(h:Hs)(hs:TxH h):Zl T 0 0 (.norm false [1,3]) l690_0 (Zhp h 0)=some (.n,⟨[(1,.ptr (.loc 1) 1 5 0 0),(3,.s (Zbq h h.l.length))],[(.loc 1,bxH h)],3⟩):=by
 have hl:=hs.len;have hacc:=zkz h hs;refine zas (Zhp h) h.l.length _ (fun i hi=>?_) ?_
 ·have hm:=Yx hi;have hi':(i:Int)<h.l.length:=by omega
  have hws:=zbo hi (by omega);have o:=hs.rt _ hm;have c1:=zyq (T:=T) _ (o (h.l[i]'hi).t (by simp[Trr.nums]));have c2:=zyq (T:=T) _ (o (h.l[i]'hi).w (by simp[Trr.nums]));have c3:=zyq (T:=T) _ (o (h.l[i]'hi).h (by simp[Trr.nums]));have c4:=zyq (T:=T) _ (o (h.l[i]'hi).e (by simp[Trr.nums]));have c5:=z2v (T:=T) _ (hs.rl _ hm) (hs.ry _ hm);have u1:=zdy (o (h.l[i]'hi).t (by simp[Trr.nums]));have u2:=zdy (o (h.l[i]'hi).w (by simp[Trr.nums]));have u3:=zdy (o (h.l[i]'hi).h (by simp[Trr.nums]));have u4:=zdy (o (h.l[i]'hi).e (by simp[Trr.nums]));have u5:=zqf (hs.ry _ hm) (hs.rl _ hm);have u6:=hacc i;have e:Zbq h (i+1)=Zbq h i++Zbs (h.l[i]'hi):=by
   unfold Zbq;rw[Y2 hi,Ya4,Yd1];simp
  unfold Zhp bxH;rw[e];unfold Zbs;clear hacc e;generalize hq:h.l[i]'hi=q at *
  generalize Zbq h i=M at *
  generalize Zd (fv q.t)=t1 at *
  generalize Zd (fv q.w)=t2 at *
  generalize Zd (fv q.h)=t3 at *
  generalize Zd (fv q.e)=t4 at *
  generalize List.intercalate [44] (Zat q.y)=t5 at *
  obtain⟨L,t,y⟩:=h;obtain⟨q1,q2,q3,q4,q5,q6⟩:=q;dsimp only at *
  have v1:M.length+2<=9223372036854775807:=by omega
  have w0:t1.length<=9223372036854775806:=by omega
  have w1:t1.length+1+t2.length<=9223372036854775807:=by omega
  have w2:t1.length+(t2.length+1)<=9223372036854775806:=by omega
  have w3:t1.length+(t2.length+1+1)+t3.length<=9223372036854775807:=by omega
  have w4:t1.length+(t2.length+(t3.length+1)+1)<=9223372036854775806:=by omega
  have w5:t1.length+(t2.length+(t3.length+1+1)+1)+t4.length<=9223372036854775807:=by omega
  have w6:t1.length+(t2.length+(t3.length+(t4.length+1)+1)+1)<=9223372036854775806:=by omega
  have w7:t1.length+(t2.length+(t3.length+(t4.length+1+1)+1)+1)+t5.length<=9223372036854775807:=by omega
  have w8:t1.length+(t2.length+(t3.length+(t4.length+(t5.length+1)+1)+1)+1)<=9223372036854775806:=by omega
  have w9:M.length+2+(t1.length+(t2.length+(t3.length+(t4.length+(t5.length+1+1)+1)+1)+1))<=9223372036854775807:=by omega
  cases q6<;>simp -implicitDefEqProofs[l690_0,hi,hi',hws,hq,c1,c2,c3,c4,c5,v1,w0,w1,w2,w3,w4,w5,w6,w7,w8,w9]
 ·unfold Zhp bxH;constructor<;>simp -implicitDefEqProofs[l690_0]
def zup(h:Hs)(hs:TxH h):Zb T 690 [ehs h]=some (.s (Za4 h)):=by
 have hlp:=zqg (T:=T) h hs;have c1:=zyq (T:=T) _ hs.t;have c2:=z2v (T:=T) _ hs.yl hs.y;have u1:=zdy hs.t;have u2:=zqf hs.y hs.yl;have u3:=zkz h hs h.l.length;have e:Zbq h h.l.length=(h.l.map Zbs).flatten:=by unfold Zbq;rw[Ya7]
 have e0:Zbq h 0=[]:=rfl;unfold Zhp bxH at hlp;rw[e0]at hlp;rw[e]at hlp u3;simp only[Yt]at hlp;unfold Za4;generalize (h.l.map Zbs).flatten=M at *
 generalize Zd (fv h.t)=t1 at *
 generalize List.intercalate [44] (Zat h.y)=t2 at *
 rw[zaa Zei.h690 rfl,b690];obtain⟨L,⟨q1,q2,q3⟩,y⟩:=h;dsimp only at *
 have w0:M.length<=9223372036854775805:=by omega
 have w1:M.length+2<=9223372036854775807:=by omega
 have w2:M.length+2+t1.length<=9223372036854775807:=by omega
 have w3:M.length+(t1.length+1+1)<=9223372036854775806:=by omega
 have w4:M.length+(t1.length+1+1+1)+t2.length<=9223372036854775807:=by omega
 simp -implicitDefEqProofs[hlp,c1,c2,w0,w1,w2,w3,w4]
end
theorem zou:∀(els:List (List AV)) (l:List UInt32),els.mapM Zdy=some l->els=Za l
 | [],l,h=>by cases h;rfl
 | r::els,l,h=>by
  rw[Ybh]at h;obtain⟨x,hx,h1⟩:=bind_some h;obtain⟨y,hy,h2⟩:=bind_some h1;cases h2;rw[zou els y hy];unfold Zdy at hx;split at hx
  ·split at hx
   ·cases hx;rename_i n hn;have:(w32 n.toNat).toNat=n.toNat:=zaf (by omega);simp only[Za,Y3,this,u32];rw[Ydw hn.1]
   ·cases hx
  ·cases hx
def Zll:AV->Option (List UInt32)
 | .sl els .an=>els.mapM Zdy
 | _=>none
def Zhs:List AV->Option Fz
 | [.b s,x,y]=>(Zll x).bind fun a=>(Zll y).map fun b=>(s,a,b)
 | _=>none
def Zlm:AV->Option (List Fz)
 | .sl els .an=>els.mapM Zhs
 | _=>none
def Zln:List AV->Option Trr
 | [a,b,c,d,e,f,g,h,i,j,k,l,y,.b ok]=>(Zhs [a,b,c]).bind fun t=>(Zhs [d,e,f]).bind fun w=>(Zhs [g,h,i]).bind fun z=>(Zhs [j,k,l]).bind fun e=>(Zlm y).map fun y=>⟨t,w,z,e,y,ok⟩
 | _=>none
def Zlo:AV->Option Hs
 | .agg [.sl els .an,a,b,c,y]=>(els.mapM Zln).bind fun l=>(Zhs [a,b,c]).bind fun t=>(Zlm y).map fun y=>⟨l,t,y⟩
 | _=>none
def zov{x:AV}{l:List UInt32}(h:Zll x=some l):x=.sl (Za l) .an:=by
 unfold Zll at h;split at h
 ·rw[zou _ _ h]
 ·cases h
def zd3{r:List AV}{f:Fz}(h:Zhs r=some f):r=Zam f:=by
 unfold Zhs at h;split at h
 ·obtain⟨a,ha,h1⟩:=bind_some h;obtain⟨b,hb,rfl⟩:=Yai.1 h1;rw[zov ha,zov hb]
 ·cases h
theorem zmf{α:Type}{g:List AV->Option α}{c:α->List AV}(hg:∀r f,g r=some f->r=c f):∀(els:List (List AV)) (l:List α),els.mapM g=some l->els=l.map c
 | [],l,h=>by cases h;rfl
 | r::els,l,h=>by
  rw[Ybh]at h;obtain⟨x,hx,h1⟩:=bind_some h;obtain⟨y,hy,h2⟩:=bind_some h1;cases h2;rw[zmf hg els y hy,hg _ _ hx]
  rfl
def zow{x:AV}{l:List Fz}(h:Zlm x=some l):x=.sl (Zc l) .an:=by
 unfold Zlm at h;split at h
 ·rw[zmf (fun _ _=>zd3) _ _ h]
  rfl
 ·cases h
def zzj{r:List AV}{t:Trr}(h:Zln r=some t):r=Zd9 t:=by
 unfold Zln at h;split at h
 ·obtain⟨t1,h1,h⟩:=bind_some h;obtain⟨t2,h2,h⟩:=bind_some h;obtain⟨t3,h3,h⟩:=bind_some h;obtain⟨t4,h4,h⟩:=bind_some h;obtain⟨y,h5,rfl⟩:=Yai.1 h;have e1:=zd3 h1;have e2:=zd3 h2;have e3:=zd3 h3;have e4:=zd3 h4;simp only[Zam,List.cons.injEq,and_true]at e1 e2 e3 e4;obtain⟨rfl,rfl,rfl⟩:=e1;obtain⟨rfl,rfl,rfl⟩:=e2;obtain⟨rfl,rfl,rfl⟩:=e3;obtain⟨rfl,rfl,rfl⟩:=e4;rw[zow h5]
 ·cases h
def zzk{x:AV}{h:Hs}(q:Zlo x=some h):x=ehs h:=by
 unfold Zlo at q;split at q
 ·obtain⟨l,h1,q⟩:=bind_some q;obtain⟨t,h2,q⟩:=bind_some q;obtain⟨y,h3,rfl⟩:=Yai.1 q;have e:=zd3 h2;simp only[Zam,List.cons.injEq,and_true]at e;obtain⟨rfl,rfl,rfl⟩:=e;rw[zow h3,zmf (fun _ _=>zzj) _ _ h1]
  rfl
 ·cases q
theorem zmg{α:Type}{g:List AV->Option α}{c:α->List AV}(hg:∀f,g (c f)=some f):∀l:List α,(l.map c).mapM g=some l
 | []=>rfl
 | x::l=>by rw[Y3,Ybh,hg,zmg hg l];rfl
def zfc(f:Fz):Zhs (Zam f)=some f:=by
 obtain⟨s,a,b⟩:=f;simp only[Zam,Zhs,Zll,zk3,Yab,Ybd]
def zsd(l:List Fz):Zlm (.sl (Zc l) .an)=some l:=zmg zfc l
def z1z(t:Trr):Zln (Zd9 t)=some t:=by
 obtain⟨t,w,h,e,y,ok⟩:=t;have h1:=zfc t;have h2:=zfc w;have h3:=zfc h;have h4:=zfc e;simp only[Zam]at h1 h2 h3 h4;simp only[Zln,h1,h2,h3,h4,zsd,Yab,Ybd]
def z10(h:Hs):Zlo (ehs h)=some h:=by
 obtain⟨l,t,y⟩:=h;have h1:=zfc t;have h2:=zmg z1z l;simp only[Zam]at h1;simp only[Zlo,Zs,h1,h2,zsd,Yab,Ybd]
def Zek(l:List Fz):Bool:=decide (l.length<=100)&&l.all fun x=>decide (fsz x<=100)
def Zc9(h:Hs):Bool:=decide (h.l.length<=100)&&(Zek [h.t]&&Zek h.y)&&h.l.all fun r=>Zek r.nums&&Zek r.y
def prim689:List AV->Option AV
 | [x]=>(Zlo x).bind fun h=>if Zc9 h then some (.s (Za4 h)) else none
 | _=>none
def zla(h:Hs)(hs:Zc9 h=true):prim689 [ehs h]=some (.s (Za4 h)):=by
 simp only[prim689,z10,Yab,hs,if_true]
def zox{xs:List AV}{r:AV}(q:prim689 xs=some r):∃h,xs=[ehs h]/\Zc9 h=true/\r=.s (Za4 h):=by
 unfold prim689 at q;split at q
 ·obtain⟨h,h1,q⟩:=bind_some q;split at q
  ·next h2=>
   cases q;exact⟨h,by rw[zzk h1],h2,rfl⟩
  ·cases q
 ·cases q
section
abbrev row689:AFx:=⟨0,0,[],.prim prim689,none,false⟩
class Zgc (T:Tbl):Prop where
 h689:Tr T 689=some row689
attribute [simp] Zgc.h689
section
variable{T:Tbl}[Zgc T]{d:Option Nat}{st:St}{xs:List AV}{ps:List Opd}{e:Env}{h:Heap}{ol:List Heap}
def p689(xs:List AV):Zb T 689 xs=prim689 xs:=zc4 Zgc.h689
end
end
section
def l684_0:AX:=QZ "yQtptmAQw8JgFWMVxWMP9kbpnYGT7hQOlHiYFsRfCp8Ya1MxNw39Nsfdr__7lw6MPDm_1MXWMbBs0ZSAdlk_ygfVVmVdaj5kAS"
def b684:AX:=(fun p0=>QY [p0] [] "1JNSkRJjve4nMwvgGx1rWMefJ4cidzp4wGC4iuJipZQuAF1TaW8fCRHcjiYdHGIMeJ_LuCYW9fIVndNOtpOqwnia67tATEvB7WB8mgNSVLtTcLUf41J2CzKdO4q7bVi19XaZQKGtYUCGfSqPgSXMzuV8et_MWdIvSK.4wN4PIP1cwGO9mw9lwG5h562k3OlOvK.T51_c9a2iNEQspK5K.bFzh2LPt_IrXHX5iIt4LbDQXWhYwaM2ZZ.tYJKyXH7QrSqgfr.mFTAD6jnGShucqTceTnqTy6b6cwPzAV.ms5VNrkRiGEi9JNVjYDVc5gsVbBNqQghGjUDrV.BlZiGK7vby0EIHYj5bsADaxZ2Ng55Ji7xBfZECmUHbaGOBIIYsrsxl.Ipt18Sw8XZO43haVXtHUlBC6e0yqoQ9YyRB5Hp26W50u1hZSAFnI2N6") l684_0
def b686:AX:=QY [] [(AV.s [43,32,48,32,49,47,50,32,49,47,50,32,48,32,49,10,61,32,49,47,50,32,51,47,50]),(AV.s [43,32,48,32,49,47,50,32,49,47,50,32,48,32,49,10,61,32,49,47,51,32,51,47,50])] "4PWpjKN.eJ_R28CMd.192BMzR.Wn_qSBm34yQK_gSoXgy0U_zIbrujTvLwlemqPkcmPl5ABb59WenAJQDAKuPEgOMPuzSrtruyemxt5295iFFU_i_HyEorV0KPcvbsx1nSm9TtnMwadZMxWhNzMndd2vQPL0QDdRxkxJ"
def l691_0:AX:=QZ "6LK5X7BJhywWJV52fiSGYxWGaR0BVnTtAOOJgJTNE6nM38xPb61hVDjSoFup3qZCpPLcBUzAEa9GcJ.2ayQ0Qi5eH4S1IbJ2SOE_ecrHc2Jeckth6zrk8EEH0szj1hjTdwfdPICKnBhvBjkM3NedBWSSsVVji70dx.zp2AKm7yYCXopYNsYT"
def b691:AX:=(fun p0=>QY [p0] [] "137Nh2rSX4QD4py2I5tn5A_egEP7BFo.kM0iiZ.ld5GEIq8DBKSkNQDS7fjhDsSNVLv7Fto6RIuWMEyYNs") l691_0
abbrev row684:AFx:=⟨2,116,[.t 4],b684,none,false⟩
abbrev row686:AFx:=⟨0,32,[.t 0],b686,none,false⟩
abbrev row691:AFx:=⟨1,49,[.cell 2 (some 5)],b691,none,false⟩
class Zdj (T:Tbl):Prop where
 h684:Tr T 684=some row684
 h686:Tr T 686=some row686
 h691:Tr T 691=some row691
attribute [simp] Zdj.h684 Zdj.h686 Zdj.h691
end
section
open Go.RowKit
def opU:AOp->List Nat
 | .call u _=>[u]
 | .ifc k _=>[1000000+k]
 | .inv _ k u _ _=>[1000000+k,u]
 | .xop (.mkf k) _ | .xop (.mkv k) _=>[1000000+k]
 | _=>[]
def cXs:AX->List Nat
 | .reg l=>l.flatMap fun o=>opU o.op
 | .draw l=>l.flatMap fun o=>opU o.ao.op
 | .drawT hd tl=>(hd.flatMap fun o=>opU o.op)++tl.flatMap fun o=>opU o.op
 | .drawM hd tl=>(hd.flatMap fun o=>opU o.op)++tl.flatMap fun o=>opU o.op
 | .drawC l1 o l2 tl=>(l1.flatMap fun o=>opU o.op)++(opU o.op++((l2.flatMap fun o=>opU o.op)++tl.flatMap fun o=>opU o.op))
 | .drawN l1 o l2=>(l1.flatMap fun o=>opU o.ao.op)++(opU o.op++l2.flatMap fun o=>opU o.ao.op)
 | .drawR hd tl=>(hd.flatMap fun o=>opU o.op)++tl.flatMap fun o=>opU o.op
 | .drawP l1 o l2 _ _ _ _ _=>(l1.flatMap fun o=>opU o.ao.op)++(opU o.op++l2.flatMap fun o=>opU o.ao.op)
 | .seq a b=>cXs a++cXs b
 | .cond _ x y=>cXs x++cXs y
 | .block _ c | .loop c | .note c _ | .pre _ c | .scope c | .lp _ _ c _=>cXs c
 | .gsc _ c r=>cXs c++cXs r
 | _=>[]
structure Agr (R:Nat->Bool) (T T':Tbl) (O O':Orc):Prop where
 tbl:∀u,R u=true->T u=T' u
 call:∀u xs hb,R u=true->O.call u xs hb=O'.call u xs hb
 loop:∀k c st,(∀u∈cXs c,R u=true)->O.loop k c st=O'.loop k c st
section
variable{R:Nat->Bool}{T T':Tbl}{O O':Orc}
theorem zid(h:Agr R T T' O O'){u:Nat}(hu:R u=true){xs:List AV}{d:Option Nat}{st:St}:Zah O T u xs d st=Zah O' T' u xs d st:=by
 unfold Zah;rw[h.tbl u hu];simp only[h.call u _ _ hu]
def z3h(h:Agr R T T' O O'){op:AOp}(hu:∀u∈opU op,R u=true){d:Option Nat}{st:St}:opX O T op d st=opX O' T' op d st:=by
 cases op<;>simp only[opX]
 case call u args=>exact zid h (hu _ (by simp[opU]))
 case ifc k x=>unfold Ze;rw[h.tbl _ (hu _ (by simp[opU]))]
 case inv nm k u r args=>
  have e1:Ze T k=Ze T' k:=by unfold Ze;rw[h.tbl _ (hu _ (by simp[opU]))]
  have e2:Zcb T k=Zcb T' k:=by unfold Zcb;rw[h.tbl _ (hu _ (by simp[opU]))]
  have e3:Zgu T k=Zgu T' k:=by unfold Zgu;rw[h.tbl _ (hu _ (by simp[opU]))]
  grind[zid,opU]
 case xop k xs=>
  cases k<;>simp only
  all_goals rename_i k
  all_goals
   have e1:Ze T k=Ze T' k:=by unfold Ze;rw[h.tbl _ (hu _ (by simp[opU]))]
   rw[e1]
def zwn(h:Agr R T T' O O'){o:AO}(hu:∀u∈opU o.op,R u=true){st:St}:Zgo O T o st=Zgo O' T' o st:=by
 unfold Zgo gX;simp only[z3h h hu]
theorem zez(h:Agr R T T' O O'):∀(l:List AO),(∀o∈l,∀u∈opU o.op,R u=true)->∀st,Zdo O T l st=Zdo O' T' l st
 | [],_,st=>rfl
 | o::l,hu,st=>by
  simp only[Zdo];rw[zwn h (hu o Yl)];congr 1
  funext s
  exact zez h l (fun o ho=>hu o (Yj _ ho)) s
def z3i(h:Agr R T T' O O'){op:AOp}(hu:∀u∈opU op,R u=true){e:Env}{hp:Heap}{older:List Heap}:opD O T op e hp older=opD O' T' op e hp older:=by
 by_cases hap:∃z x0 y,op=.app z x0 y
 ·obtain⟨z,x0,y,rfl⟩:=hap;by_cases hc:x0=.c (.sl [] .nl)
  ·subst hc;rfl
  ·rw[zpp hc,zpp hc]
 cases op<;>(try exact absurd ⟨_,_,_,rfl⟩ hap)<;>simp only[opD]
 case call u args=>
  rw[h.tbl _ (hu _ (by simp[opU]))];simp only[h.call _ _ _ (hu _ (show u∈_ by simp[opU]))]
 case ifc k x=>unfold Ze;rw[h.tbl _ (hu _ (by simp[opU]))]
 case inv nm k u r args=>
  have e1:Ze T k=Ze T' k:=by unfold Ze;rw[h.tbl _ (hu _ (by simp[opU]))]
  have e2:Zcb T k=Zcb T' k:=by unfold Zcb;rw[h.tbl _ (hu _ (by simp[opU]))]
  rw[e1,e2,h.tbl u (hu u (by simp[opU]))];simp only[h.call u _ _ (hu u (by simp[opU]))]
def zie(h:Agr R T T' O O'){o:AO}(hu:∀u∈opU o.op,R u=true){e:Env}{hp:Heap}{older:List Heap}:qX O T o e hp older=qX O' T' o e hp older:=by
 unfold qX;simp only[z3i h hu]
def zne(h:Agr R T T' O O'){u:Nat}(hu:R u=true){ys:List AV}:Zd7 O T u ys=Zd7 O' T' u ys:=by
 unfold Zd7;rw[h.tbl u hu];simp only[h.call u _ _ hu]
theorem zif(h:Agr R T T' O O'):∀(l:List DO),(∀o∈l,∀u∈opU o.ao.op,R u=true)->∀e hp clk older pend,Zbr O T l e hp clk older pend=Zbr O' T' l e hp clk older pend
 | [],_,e,hp,clk,older,pend=>rfl
 | o::l,hu,e,hp,clk,older,pend=>by
  have ih:=zif h l (fun o ho=>hu o (Yj _ ho));simp only[Zbr];rw[zie h (hu o Yl)];simp only[ih];cases o.ao.op.writes with
  | true=>rfl
  | false=>
   cases hrow:Zff o.ao.guard o.ao.op.callN e hp (older.take (older.length-o.lo)) with
   | none=>rfl
   | some p=>
    obtain⟨_,args,hop,_⟩:=zf0 hrow;have hp:R p.1=true:=hu o Yl _ (by rw[hop];simp[opU]);simp only[zne h hp]
theorem znf(h:Agr R T T' O O')(tl:List AO)(ht:∀o∈tl,∀u∈opU o.op,R u=true):∀(l:List AO),(∀o∈l,∀u∈opU o.op,R u=true)->∀e hp clk,Zcl O T tl l e hp clk=Zcl O' T' tl l e hp clk
 | [],_,e,hp,clk=>zez h tl ht _
 | o::l,hu,e,hp,clk=>by
  have ih:=znf h tl ht l (fun o ho=>hu o (Yj _ ho));simp only[Zcl];rw[zie h (hu o Yl)];simp only[ih];cases hrow:Zff o.guard o.op.callN e hp []with
  | none=>rfl
  | some p=>
   obtain⟨_,args,hop,_⟩:=zf0 hrow;have hp:R p.1=true:=hu o Yl _ (by rw[hop];simp[opU]);simp only[zne h hp]
theorem zng(h:Agr R T T' O O')(tl:List AO)(ht:∀o∈tl,∀u∈opU o.op,R u=true):∀(l:List AO),(∀o∈l,∀u∈opU o.op,R u=true)->∀e hp clk,Zd8 O T tl l e hp clk=Zd8 O' T' tl l e hp clk
 | [],_,e,hp,clk=>zez h tl ht _
 | o::l,hu,e,hp,clk=>by
  have ih:=zng h tl ht l (fun o ho=>hu o (Yj _ ho));simp only[Zd8];rw[zie h (hu o Yl)];simp only[ih]
def zwo(h:Agr R T T' O O'){u:Nat}(hu:R u=true){xs:List AV}{d clk:Nat}:Ze9 O T u xs d clk=Ze9 O' T' u xs d clk:=by
 unfold Ze9;rw[h.tbl u hu];simp only[h.call u _ _ hu]
theorem znh(h:Agr R T T' O O')(tl:List AO)(ht:∀o∈tl,∀u∈opU o.op,R u=true)(h0:Heap)(c0:Nat)(X:Heap):∀(l:List AO),(∀o∈l,∀u∈opU o.op,R u=true)->∀e hp clk,Za5 O T tl h0 c0 X l e hp clk=Za5 O' T' tl h0 c0 X l e hp clk
 | [],_,e,hp,clk=>zez h tl ht _
 | o::l,hu,e,hp,clk=>by
  have ih:=znh h tl ht h0 c0 X l (fun o ho=>hu o (Yj _ ho));simp only[Za5];rw[zie h (hu o Yl)];simp only[ih];cases hm:o.op.maker with
  | true=>rfl
  | false=>
   cases hst:o.op.isStore with
   | true=>rfl
   | false=>
   cases hl:o.op.lentN with
   | none=>rfl
   | some ua=>
    have hua:R ua.1=true:=hu o Yl _ (by rw[zkg hl];simp[opU]);simp only[zwo h hua]
theorem zhi(h:Agr R T T' O O'){K K':Env->Zal->Option St}(hK:∀e pend,K e pend=K' e pend)(hp:Heap):∀(l:List DO),(∀o∈l,∀u∈opU o.ao.op,R u=true)->∀e pend,Zdf O T K hp l e pend=Zdf O' T' K' hp l e pend
 | [],_,e,pend=>hK e pend
 | o::l,hu,e,pend=>by
  have ih:=zhi h hK hp l (fun o ho=>hu o (Yj _ ho));simp only[Zdf];rw[zie h (hu o Yl)];simp only[ih]
theorem zni(h:Agr R T T' O O'){K K':Env->Option St}(hK:∀e,K e=K' e)(h0 h1:Heap):∀(l:List AO),(∀o∈l,∀u∈opU o.op,R u=true)->∀e,Zdg O T K h0 h1 l e=Zdg O' T' K' h0 h1 l e
 | [],_,e=>hK e
 | o::l,hu,e=>by
  have ih:=zni h hK h0 h1 l (fun o ho=>hu o (Yj _ ho));simp only[Zdg];rw[zie h (hu o Yl)];simp only[ih]
def zig(h:Agr R T T' O O'){o:AO}(hu:∀u∈opU o.op,R u=true){st:St}:Zeo O T o st=Zeo O' T' o st:=by
 obtain⟨d,g,op⟩:=o;cases op
 case call u args=>
  cases g<;>cases d<;>simp only[Zeo];exact zid h (hu u (by simp[opU]))
 all_goals cases g<;>cases d<;>rfl
def zwp(h:Agr R T T' O O')(l1:List AO)(o:AO)(l2 tl:List AO)(hu:∀u∈cXs (.drawC l1 o l2 tl),R u=true)(st:St):Zgq O T l1 o l2 tl st=Zgq O' T' l1 o l2 tl st:=by
 have u1:∀o∈l1,∀u∈opU o.op,R u=true:=fun o ho u hou=>hu u (Y9 _ (Yae.2 ⟨o,ho,hou⟩));have u2:∀u∈opU o.op,R u=true:=fun u hou=>hu u (Yz _ (Y9 _ hou));have u3:∀o∈l2,∀u∈opU o.op,R u=true:=fun o ho u hou=>hu u (Yz _ (Yz _ (Y9 _ (Yae.2 ⟨o,ho,hou⟩))));have u4:∀o∈tl,∀u∈opU o.op,R u=true:=fun o ho u hou=>hu u (Yz _ (Yz _ (Yz _ (Yae.2 ⟨o,ho,hou⟩))));unfold Zgq;refine zhi h (fun e pend=>?_) _ _ (fun o ho=>?_) _ _
 ·rw[zig h u2];congr 1
  funext s
  rw[zni h (fun e=>zez h tl u4 _) _ _ l2 u3]
 ·obtain⟨o',ho',rfl⟩:=Yv.1 ho;exact u1 o' ho'
def zwq(h:Agr R T T' O O')(l1:List DO)(o:AO)(l2:List DO)(hu:∀u∈cXs (.drawN l1 o l2),R u=true)(st:St):Zgr O T l1 o l2 st=Zgr O' T' l1 o l2 st:=by
 have u1:∀o∈l1,∀u∈opU o.ao.op,R u=true:=fun o ho u hou=>hu u (Y9 _ (Yae.2 ⟨o,ho,hou⟩));have u2:∀u∈opU o.op,R u=true:=fun u hou=>hu u (Yz _ (Y9 _ hou));have u3:∀o∈l2,∀u∈opU o.ao.op,R u=true:=fun o ho u hou=>hu u (Yz _ (Yz _ (Yae.2 ⟨o,ho,hou⟩)));unfold Zgr;congr 1;refine zhi h (fun e pend=>?_) _ _ (fun o ho=>?_) _ _
 ·rw[zig h u2];congr 1
  funext s
  rw[zif h _ fun o ho=>?_];obtain⟨o',ho',rfl⟩:=Yv.1 ho;exact u3 o' ho'
 ·obtain⟨o',ho',rfl⟩:=Yv.1 ho;exact u1 o' ho'
theorem znj(h:Agr R T T' O O'){K K':Env->Option St}(hK:∀e,K e=K' e)(hs:List Heap)(h1:Heap):∀(l:List AO),(∀o∈l,∀u∈opU o.op,R u=true)->∀e,Zdh O T K hs h1 l e=Zdh O' T' K' hs h1 l e
 | [],_,e=>hK e
 | o::l,hu,e=>by
  have ih:=znj h hK hs h1 l (fun o ho=>hu o (Yj _ ho));simp only[Zdh];rw[zie h (hu o Yl)];simp only[ih]
def zwr(h:Agr R T T' O O')(l1:List DO)(o:AO)(l2:List DO)(da:Nat)(cs:List AV)(n:Nat)(xs vs:Opd)(hu:∀u∈cXs (.drawP l1 o l2 da cs n xs vs),R u=true)(st:St):Zfa O T l1 o l2 da cs n xs vs st=Zfa O' T' l1 o l2 da cs n xs vs st:=by
 have u1:∀o∈l1,∀u∈opU o.ao.op,R u=true:=fun o ho u hou=>hu u (Y9 _ (Yae.2 ⟨o,ho,hou⟩));have u2:∀u∈opU o.op,R u=true:=fun u hou=>hu u (Yz _ (Y9 _ hou));have u3:∀o∈l2,∀u∈opU o.ao.op,R u=true:=fun o ho u hou=>hu u (Yz _ (Yz _ (Yae.2 ⟨o,ho,hou⟩)));unfold Zfa;congr 1;refine zhi h (fun e pend=>?_) _ _ (fun o ho=>?_) _ _
 ·simp only[zig h u2];congr 1
  funext s1
  congr 1
  funext s2
  rw[znj h (fun e=>rfl) _ _ _ fun o ho=>?_];obtain⟨o',ho',rfl⟩:=Yv.1 ho;exact u3 o' ho'
 ·obtain⟨o',ho',rfl⟩:=Yv.1 ho;exact u1 o' ho'
theorem zcg(h:Agr R T T' O O')(k:Nat):∀(c:AX),(∀u∈cXs c,R u=true)->∀st,evX O T k c st=evX O' T' k c st
 | .skip,_,st=>rfl
 | .reg l,hu,st=>by
  simp only[evX];rw[zez h l fun o ho u hou=>hu u (Yae.2 ⟨o,ho,hou⟩)]
 | .draw l,hu,st=>by
  simp only[evX];rw[zif h l fun o ho u hou=>hu u (Yae.2 ⟨o,ho,hou⟩)]
 | .drawT hd tl,hu,st=>by
  simp only[evX];rw[zng h tl (fun o ho u hou=>hu u (Yz _ (Yae.2 ⟨o,ho,hou⟩))) hd (fun o ho u hou=>hu u (Y9 _ (Yae.2 ⟨o,ho,hou⟩)))]
 | .drawM hd tl,hu,st=>by
  simp only[evX];rw[znh h tl (fun o ho u hou=>hu u (Yz _ (Yae.2 ⟨o,ho,hou⟩))) _ _ _ hd (fun o ho u hou=>hu u (Y9 _ (Yae.2 ⟨o,ho,hou⟩)))]
 | .drawC l1 o l2 tl,hu,st=>by
  simp only[evX];rw[zwp h l1 o l2 tl hu]
 | .drawN l1 o l2,hu,st=>by
  simp only[evX];rw[zwq h l1 o l2 hu]
 | .drawR hd tl,hu,st=>by
  simp only[evX];rw[znf h tl (fun o ho u hou=>hu u (Yz _ (Yae.2 ⟨o,ho,hou⟩))) hd (fun o ho u hou=>hu u (Y9 _ (Yae.2 ⟨o,ho,hou⟩)))]
 | .drawP l1 o l2 da cs n xs vs,hu,st=>by
  simp only[evX];rw[zwr h l1 o l2 da cs n xs vs hu]
 | .bad,_,st=>rfl
 | .prim f,_,st=>rfl
 | .seq a b,hu,st=>by
  simp only[evX];rw[zcg h k a fun u hm=>hu u (Y9 _ hm)];congr 1
  funext r
  rw[zcg h k b fun u hm=>hu u (Yz _ hm)]
 | .cond c x y,hu,st=>by
  simp only[evX];rw[zcg h k x fun u hm=>hu u (Y9 _ hm),zcg h k y fun u hm=>hu u (Yz _ hm)]
 | .block id c,hu,st=>by
  simp only[evX];rw[zcg h k c hu]
 | .loop c,hu,st=>h.loop k c st hu
 | .exit id,_,st=>rfl
 | .ret,_,st=>rfl
 | .note c g,hu,st=>by
  simp only[evX];rw[zcg h k c hu]
 | .pre g c,hu,st=>by
  simp only[evX];congr 1
  funext s
  exact zcg h k c hu s
 | .scope c,hu,st=>by
  simp only[evX];rw[zcg h k c hu]
 | .label _,_,st=>rfl
 | .goto _,_,st=>rfl
 | .gsc l c r,hu,st=>by
  simp only[evX];rw[zcg h k c fun u hm=>hu u (Y9 _ hm)];congr 1
  funext s
  exact zcg h k r (fun u hm=>hu u (Yz _ hm)) s
 | .lp id g c g2,hu,st=>by
  simp only[evX,h.loop k c _ hu]
def zws(hc:∀u af,R u=true->T u=some af->∀v∈cXs af.body,R v=true)(h:Agr R T T' O O'):Agr R T T' (Zc5 T O) (Zc5 T' O') where
 tbl:=h.tbl
 call u xs hb hu:=by
  simp only[Zc5];rw[<-h.tbl u hu];cases ht:T u with
  | none=>rfl
  | some af=>
   grind[zcg]
 loop k c st hu:=by
  simp only[Zc5];rw[zcg h k c hu];congr 1
  funext r
  rw[h.loop k c _ hu]
theorem zlo(ht:∀u,R u=true->T u=T' u)(hc:∀u af,R u=true->T u=some af->∀v∈cXs af.body,R v=true):∀n,Agr R T T' (orcN T n) (orcN T' n)
 | 0=>⟨ht,fun _ _ _ _=>rfl,fun _ _ _ _=>rfl⟩
 | n+1=>zws hc (zlo ht hc n)
def z3j(ht:∀u,R u=true->T u=T' u)(hc:∀u af,R u=true->T u=some af->∀v∈cXs af.body,R v=true):Agr R T T' (orc T) (orc T'):=by
 refine⟨ht,fun u xs hb hu=>?_,fun k c st hu=>?_⟩
 ·simp only[orc];congr 1
  funext n
  exact(zlo ht hc n).call u xs hb hu
 ·simp only[orc];congr 1
  funext n
  exact(zlo ht hc n).loop k c st hu
end
def zd8{l:List (Nat×AFx)}{u:Nat}{af:AFx}(h:l.lookup u=some af):(u,af)∈l:=by
 induction l with
 | nil=>cases h
 | cons q l ih=>
  grind
structure Part (l l':List (Nat×AFx)):Prop where
 sub:∀p∈l',l.lookup p.1=some p.2
 clo:(l'.all fun p=>(cXs p.2.body).all fun v=>(l'.lookup v).isSome || (l.lookup v).isNone)=true
def Part.agr{l l':List (Nat×AFx)}(h:Part l l'):Agr (fun u=>(l'.lookup u).isSome || (l.lookup u).isNone) (fun u=>l.lookup u) (fun u=>l'.lookup u) (orc fun u=>l.lookup u) (orc fun u=>l'.lookup u):=by
 refine z3j (fun v hv=>?_) (fun v a hv hva w hw=>?_)
 ·cases hv2:l'.lookup v with
  | none=>
   cases hv3:l.lookup v with
   | none=>rfl
   | some a=>grind
  | some a=>exact h.sub _ (zd8 hv2)
 ·cases hv2:l'.lookup v with
  | none=>grind
  | some b=>
   have hb:=zd8 hv2;have h1:=h.sub _ hb;rw[hva]at h1;cases h1;exact Yn.1 (Yn.1 h.clo _ hb) w hw
def Part.ev{l l':List (Nat×AFx)}(h:Part l l'){c:AX}(hc:((cXs c).all fun v=>(l'.lookup v).isSome)=true){st:St}{r:Option (Ex×St)}
  (he:evX (orc fun u=>l.lookup u) (fun u=>l.lookup u) 0 c st=r):evX (orc fun u=>l'.lookup u) (fun u=>l'.lookup u) 0 c st=r:=by
 rw[<-zcg h.agr 0 c (fun v hv=>by grind) st];omega
def Part.call{l l':List (Nat×AFx)}(h:Part l l'){u:Nat}(hu:(l'.lookup u).isSome=true){xs:List AV}{r:Option AV}(he:Zb (fun u=>l.lookup u) u xs=r):Zb (fun u=>l'.lookup u) u xs=r:=by
 rw[<-he];unfold Zb;rw[h.agr.call u xs [] (by grind)]
end
end Go.Ab