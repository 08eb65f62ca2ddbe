/-
  A calculus of values, boxes and code, and what functions of the program compute, proved in it.
  Conditions: none beyond those that the theorems state. (Part 14.)
-/
import Derived.Test.YtpkknnhpfhpbdaaGreatPart13
import Derived.Test.YtpkknnhpfhpbdaaGreatRows

set_option linter.unusedSectionVars false
set_option linter.unusedVariables false
set_option linter.unusedSimpArgs false
set_option linter.unnecessarySimpa false
set_option linter.defProp false

namespace Go.Ab
def z0w{l:List Fz}{B:Nat}(h:∀x∈l,fsz x<=B)(hB:1<=B):∀x∈nrm l,fsz x<=B:=by
 grind[nrm,zax,za2]
def Zon(h:Hs):List Fz:=(h.l.filter (·.ok)).map (·.t)++[h.t]
def Zoo(h:Hs):List (List Fz):=(h.l.filter (·.ok)).map (·.y)++[h.y]
section
variable{T:Tbl}[Zz T][Z8 T][Zx T][Zae T][Zw T][Zag T][Zq T][Z9 T][Zc3 T][Zby T][Zgn T]
def Zli(h:Hs)(i:Nat)(M:List Fz)(N:List (List Fz)):St:=⟨[(1,.ptr (.loc 1) 1 5 0 0),(4,.bs (.loc 4) 2 3 0 M.length),(5,.bs (.loc 5) 3 1 0 N.length),(6,.i .i64 i)],
 [(.loc 1,bxH h),(.loc 4,⟨2,.own,3,Zb M⟩),(.loc 5,⟨3,.own,1,Zd N⟩)],5⟩
def z4y(h:Hs)(hl:h.l.length<=1000):Ze T 0 0 (.norm false [1,4,5]) l522_0 (Zli h 0 [] []) =
  some (.n,⟨[(1,.ptr (.loc 1) 1 5 0 0),(4,.bs (.loc 4) 2 3 0 ((h.l.filter (·.ok)).map (·.t)).length),(5,.bs (.loc 5) 3 1 0 ((h.l.filter (·.ok)).map (·.y)).length)],[(.loc 1,bxH h),(.loc 4,⟨2,.own,3,Zb ((h.l.filter (·.ok)).map (·.t))⟩),(.loc 5,⟨3,.own,1,Zd ((h.l.filter (·.ok)).map (·.y))⟩)],5⟩):=by
 have key:=zag (T:=T) (k:=0) (id:=0) (g2:=.norm false [1,4,5]) (c:=l522_0) (fun i=>Zli h i (((h.l.take i).filter (·.ok)).map (·.t)) (((h.l.take i).filter (·.ok)).map (·.y))) h.l.length
  (some (.n,⟨[(1,.ptr (.loc 1) 1 5 0 0),(4,.bs (.loc 4) 2 3 0 ((h.l.filter (·.ok)).map (·.t)).length),(5,.bs (.loc 5) 3 1 0 ((h.l.filter (·.ok)).map (·.y)).length)],[(.loc 1,bxH h),(.loc 4,⟨2,.own,3,Zb ((h.l.filter (·.ok)).map (·.t))⟩),(.loc 5,⟨3,.own,1,Zd ((h.l.filter (·.ok)).map (·.y))⟩)],5⟩)) (fun i hi=>?_) ?_
 ·grind
 ·have hi':(i:Int)<h.l.length:=by omega
  have hws:=zaw hi (by omega);have key:(h.l.take (i+1)).filter (·.ok)=if (h.l[i]'hi).ok then (h.l.take i).filter (·.ok)++[h.l[i]'hi] else (h.l.take i).filter (·.ok):=by
   grind[List.take_succ_eq_append_getElem]
  have hAl:((h.l.take i).filter (·.ok)).length<=1000:=Yd (Ycc ..) (by grind);rw[key];generalize (h.l.take i).filter (·.ok)=A at *
  generalize hq:h.l[i]'hi=q at *
  have hml:(A.map (·.t)).length=A.length:=by simp
  have hml2:(A.map (·.y)).length=A.length:=by simp
  have hi4:A.length+1<=4294967296:=by omega
  have hpush:=za6 hml q.t;have hpush2:=zdz hml2 q.y;have e1:(A++[q]).map (·.t)=A.map (·.t)++[q.t]:=by simp
  have e2:(A++[q]).map (·.y)=A.map (·.y)++[q.y]:=by simp
  have t1:List.take A.length (A.map (·.t))=A.map (·.t):=Ya (by omega);have t2:List.take A.length (A.map (·.y))=A.map (·.y):=Ya (by omega);rw[t1]at hpush;rw[t2]at hpush2;unfold Zli bxH;cases hok:q.ok with
  | true=>
   simp only[if_true,e1,e2,Yam,Yr,Yah,hml,hml2];obtain⟨q1,q2,q3,q4,q5,q6⟩:=q;subst hok;simp -implicitDefEqProofs[l522_0,hi,hi',hq,hws,hml,hml2,hi4,hpush,hpush2,t1,t2]
  | false=>
   simp only[Yx,if_false,hml,hml2];generalize A.map (·.t)=M at *
   generalize A.map (·.y)=N at *
   obtain⟨q1,q2,q3,q4,q5,q6⟩:=q;dsimp only at *
   subst hok;simp -implicitDefEqProofs[l522_0,hi,hi',hq,hws]
 ·rw[Ya (Ye _)];generalize (h.l.filter (·.ok)).map (·.t)=M at *
  generalize (h.l.filter (·.ok)).map (·.y)=N at *
  unfold Zli bxH;constructor<;>simp -implicitDefEqProofs[l522_0]
def zrq(h:Hs)(hl:h.l.length<=1000):Za T 522 [ehs h]=some (.tup [.sl (Zb (Zon h)) .an,.sl (Zd (Zoo h)) .an]):=by
 have hlp:=z4y (T:=T) h hl;have hAl:(h.l.filter (·.ok)).length<=1000:=Yd (Ycc ..) hl;unfold Zon Zoo;generalize h.l.filter (·.ok)=A at *
 unfold Zli bxH at hlp;simp only[Yp,Yah,zay,znp]at hlp;have hml:(A.map (·.t)).length=A.length:=by simp
 have hml2:(A.map (·.y)).length=A.length:=by simp
 have hi4:A.length+1<=4294967296:=by omega
 rw[zaa Zgn.h522 rfl,b522];generalize A.map (·.t)=M at *
 generalize A.map (·.y)=N at *
 generalize hn:A.length=n at *
 have hpush:=za6 hml h.t;have hpush2:=zdz hml2 h.y;have ht1:List.take (n+1) (M++[h.t])=M++[h.t]:=Ya (by grind);have ht2:List.take (n+1) (N++[h.y])=N++[h.y]:=Ya (by grind);obtain⟨L,⟨t1,t2,t3⟩,y⟩:=h;simp -implicitDefEqProofs[hlp,hml,hml2,hi4,hpush,hpush2,ht1,ht2,z7t]
end
def Zf9(h:Hs):Hs:=⟨h.l.map Zdg,fz (fv h.t),nrm h.y⟩
def zni(h:Hs):(Zf9 h).l.filter (·.ok)=Zc1 h.l:=by
 unfold Zf9 Zc1;dsimp only;rw[List.filter_map]
 rfl
def zafi(h:Hs):Zon (Zf9 h)=Zcb h:=by
 unfold Zon Zcb;rw[zni]
 rfl
def zafj(h:Hs):Zoo (Zf9 h)=Zb8 h:=by
 unfold Zoo Zb8;rw[zni]
 rfl
abbrev Zop(h:Hs):List AV:=[.sl (Za1 h.l) .an,.b h.t.1,.sl (Zc h.t.2.1) .an,.sl (Zc h.t.2.2) .an,.sl (Zb h.y) .an]
def Zhh(h:Hs)(i:Nat):St:=⟨[(1,.ptr (.loc 1) 1 5 0 0),(2,.ptr (.loc 2) 2 5 0 0),(3,.ptr (.loc 3) 3 5 0 0),(4,.i .i64 i)],
 [(.loc 1,⟨1,.str,5,[Zop h]⟩),(.loc 2,⟨2,.str,5,[[.sl [] .an,.b false,.sl [] .an,.sl [] .an,.sl [] .an]]⟩),(.loc 3,⟨3,.str,5,[[.bs fC 4 14 0 i,.b (fz (fv h.t)).1,.sl (Zc (fz (fv h.t)).2.1) .an,.sl (Zc (fz (fv h.t)).2.2) .an,.sl (Zb (nrm h.y)) .an]]⟩),(fC,⟨4,.own,14,Za1 ((h.l.map Zdg).take i)⟩)],6⟩
def Zjp(h:Hs)(M:List Fz)(i:Nat):St:=⟨[(1,.ptr (.loc 1) 1 5 0 0),(3,.bs (.loc 3) 2 3 0 M.length),(4,.i .i64 i)],[(.loc 1,⟨1,.str,5,[Zop h]⟩),(.loc 3,⟨2,.own,3,Zb M⟩)],4⟩
section
variable{T:Tbl}[Z2 T][Zu T][Zy T][Z0 T][Zt T][Zp T][Zi T][Zl T][Zs T][Zad T][Zap T][Zc5 T][Zah T][Zaf T][Zbl T][Zas T][Zd7 T][Za9 T][Zbd T][Zba T][Zbt T][Zgm T][Zdd T][Zcx T][Zdz T][Zij T][Ze9 T][Ze2 T][Zz T][Z8 T][Zx T][Zae T][Zw T][Zag T][Zq T][Z9 T][Zc3 T][Zby T][Zgn T][Zdn T]
def zv3(h:Hs)(i:Nat)(hi:i<h.l.length)(hl:h.l.length<=1000)(c1:Za T 278 [.sl (Zb (h.l[i]'hi).nums) .an]=some (.sl (Zb (nrm (h.l[i]'hi).nums)) .an))(c2:Za T 278 [.sl (Zb (h.l[i]'hi).y) .an]=some (.sl (Zb (nrm (h.l[i]'hi).y)) .an)) :
  evX (orc T) T 0 l502_0 (Zhh h i)=some (.n,Zhh h (i+1)):=by
 have hws:=zaw hi (by omega);have hi':(i:Int)<h.l.length:=by omega
 have hb:i<=4294967295:=by omega
 have c0:=zg6 (T:=T) (h.l[i]'hi);have hml:((h.l.map Zdg).take i).length=i:=by rw[Y3,Yk];omega
 have hnext:(h.l.map Zdg).take (i+1)=(h.l.map Zdg).take i++[Zdg (h.l[i]'hi)]:=by
  rw[Y4 (by rw[Yk];exact hi),List.getElem_map]
 have hp:=zml hml (Zdg (h.l[i]'hi));have ht:List.take i ((h.l.map Zdg).take i)=(h.l.map Zdg).take i:=Ya (by omega);rw[ht]at hp;have en:nrm (h.l[i]'hi).nums=[(Zdg (h.l[i]'hi)).t,(Zdg (h.l[i]'hi)).w,(Zdg (h.l[i]'hi)).h,(Zdg (h.l[i]'hi)).e]:=rfl;have ey:nrm (h.l[i]'hi).y=(Zdg (h.l[i]'hi)).y:=rfl;have eo:(Zdg (h.l[i]'hi)).ok=(h.l[i]'hi).ok:=rfl;rw[en]at c1;rw[ey]at c2;unfold Zhh fC;rw[hnext];generalize Zdg (h.l[i]'hi)=r at *
 generalize (h.l.map Zdg).take i=R at *
 generalize nrm h.y=NY at *
 generalize fz (fv h.t)=NT at *
 generalize hq:h.l[i]'hi=q at *
 obtain⟨L,t,y⟩:=h;obtain⟨q1,q2,q3,q4,q5,q6⟩:=q;obtain⟨r1,r2,r3,r4,r5,r6⟩:=r;dsimp only at *
 subst eo;simp only[show Zb [r1,r2,r3,r4]=[Zau r1,Zau r2,Zau r3,Zau r4] from rfl]at c1;simp -implicitDefEqProofs[l502_0,hi,hi',hws,hb,hq,c0,c1,c2,hml,ht,hp]
def zv4(h:Hs)(hs:HsS h 1000):Za T 502 [ehs h]=some (ehs (Zf9 h)):=by
 have hl:=hs.len;have hml:(h.l.map Zdg).length=h.l.length:=Yk ..;have hlp:Ze T 0 0 (.norm false [2,3]) l502_0 (Zhh h 0)=some (.n,⟨[(2,.ptr (.loc 2) 1 5 0 0),(3,.ptr (.loc 3) 2 5 0 0)],[(.loc 2,⟨1,.str,5,[[.sl [] .an,.b false,.sl [] .an,.sl [] .an,.sl [] .an]]⟩),
   (.loc 3,⟨2,.str,5,[[.bs fC 3 14 0 h.l.length,.b (fz (fv h.t)).1,.sl (Zc (fz (fv h.t)).2.1) .an,.sl (Zc (fz (fv h.t)).2.2) .an,.sl (Zb (nrm h.y)) .an]]⟩),(fC,⟨3,.own,14,Za1 (h.l.map Zdg)⟩)],5⟩):=by
  refine zag (Zhh h) h.l.length _ (fun i hi=>?_) ?_
  ·have hm:=Yi hi;exact zv3 h i hi hl (zd2 (T:=T) _ (by simp[Trr.nums]) (fun x hx=>hs.rt _ hm x hx)) (zd2 (T:=T) _ (hs.rl _ hm) (fun x hx=>hs.ry _ hm x hx))
  ·have ht:(h.l.map Zdg).take h.l.length=h.l.map Zdg:=Ya (by omega);unfold Zhh fC;rw[ht];generalize h.l.map Zdg=R at *
   generalize nrm h.y=NY at *
   generalize fz (fv h.t)=NT at *
   constructor<;>simp -implicitDefEqProofs[l502_0]
 have c1:=za8 (T:=T) h.t (Yd hs.t (by decide));have c2:=zd2 (T:=T) h.y hs.yl hs.y;have ht:List.take h.l.length (h.l.map Zdg)=h.l.map Zdg:=Ya (by omega);unfold Zhh fC at hlp;simp only[Yp,Yaz,zky]at hlp;unfold Zf9;generalize h.l.map Zdg=R at *
 generalize nrm h.y=NY at *
 generalize fz (fv h.t)=NT at *
 rw[zaa Zdn.h502 rfl,b502];obtain⟨L,⟨t1,t2,t3⟩,y⟩:=h;obtain⟨n1,n2,n3⟩:=NT;dsimp only at *
 simp -implicitDefEqProofs[ht,c1,c2,hlp,hml]
def zrr(h:Hs)(hl:h.l.length<=1000):Za T 521 [ehs h]=some (.sl (Zb ((h.l.filter (·.ok)).map (·.h))) .an):=by
 have hlp:Ze T 0 0 (.norm false [3]) l521_0 (Zjp h [] 0)=some (.n,⟨[(3,.bs (.loc 3) 1 3 0 ((h.l.filter (·.ok)).map (·.h)).length)],[(.loc 3,⟨1,.own,3,Zb ((h.l.filter (·.ok)).map (·.h))⟩)],3⟩):=by
  have key:=zag (T:=T) (k:=0) (id:=0) (g2:=.norm false [3]) (c:=l521_0) (fun i=>Zjp h (((h.l.take i).filter (·.ok)).map (·.h)) i) h.l.length
   (some (.n,⟨[(3,.bs (.loc 3) 1 3 0 ((h.l.filter (·.ok)).map (·.h)).length)],[(.loc 3,⟨1,.own,3,Zb ((h.l.filter (·.ok)).map (·.h))⟩)],3⟩)) (fun i hi=>?_) ?_
  ·exact key
  ·have hi':(i:Int)<h.l.length:=by omega
   have hws:=zaw hi (by omega);have key:(h.l.take (i+1)).filter (·.ok)=if (h.l[i]'hi).ok then (h.l.take i).filter (·.ok)++[h.l[i]'hi] else (h.l.take i).filter (·.ok):=by
    grind[List.take_succ_eq_append_getElem]
   have hAl:((h.l.take i).filter (·.ok)).length<=1000:=Yd (Ycc ..) (by rw[Y3];omega);rw[key];generalize (h.l.take i).filter (·.ok)=A at *
   generalize hq:h.l[i]'hi=q at *
   have hml:(A.map (·.h)).length=A.length:=by simp
   have hi4:A.length+1<=4294967296:=by omega
   have hpush:=za6 hml q.h;have e1:(A++[q]).map (·.h)=A.map (·.h)++[q.h]:=by simp
   have t1:List.take A.length (A.map (·.h))=A.map (·.h):=Ya (by omega);rw[t1]at hpush;unfold Zjp;cases hok:q.ok with
   | true=>
    simp only[if_true,e1,Yam,Yr,Yah,hml];obtain⟨q1,q2,q3,q4,q5,q6⟩:=q;subst hok;simp -implicitDefEqProofs[l521_0,hi,hi',hq,hws,hml,hi4,hpush,t1]
   | false=>
    simp only[Yx,if_false,hml];generalize A.map (·.h)=M at *
    obtain⟨q1,q2,q3,q4,q5,q6⟩:=q;dsimp only at *
    subst hok;simp -implicitDefEqProofs[l521_0,hi,hi',hq,hws]
  ·rw[Ya (Ye _)];generalize (h.l.filter (·.ok)).map (·.h)=M at *
   unfold Zjp;constructor<;>simp -implicitDefEqProofs[l521_0]
 have ht:List.take ((h.l.filter (·.ok)).map (·.h)).length (Zb ((h.l.filter (·.ok)).map (·.h)))=Zb ((h.l.filter (·.ok)).map (·.h)):=Ya (by rw[zex];omega);have ht2:List.take ((h.l.filter (·.ok)).map (·.h)).length ((h.l.filter (·.ok)).map (·.h))=((h.l.filter (·.ok)).map (·.h)):=Ya (by omega);generalize (h.l.filter (·.ok)).map (·.h)=M at *
 unfold Zjp at hlp;simp only[Yp,Yah,zay]at hlp;rw[zaa Zdn.h521 rfl,b521];obtain⟨L,⟨t1,t2,t3⟩,y⟩:=h;dsimp only at *
 simp -implicitDefEqProofs[ht,ht2,hlp]
end
abbrev Zlh(p:Pb):List AV:=[.sl (Zdk p.t.code) .an,.sl (ints p.t.outs) .an,.i .i64 p.t.dim,.i .i64 p.t.par,.s p.s.nm,.sl (Zb p.s.c) .an,.sl (Zd p.s.a) .an,.sl (Zb p.s.b) .an,.sl (Zb p.s.e) .an,.sl (Zb p.p) .an,.i .i64 p.bits]
abbrev Zpu(g:Nat):Box:=⟨g,.str,4,[[.sl [] .an,.sl [] .an,.sl [] .an,.sl [] .an]]⟩
abbrev Zpv(g:Nat)(k i a:Int):Box:=⟨g,.str,3,[[.i .i64 k,.i .i64 i,.i .i64 a]]⟩
abbrev fK(o:Nat):BId:=.fld (.loc 11) o
def Zcq(p:Pb)(t h:Fz)(y:List Fz)(L:Nat)(YM KM:List (List Fz))(i:Nat):St:=
 ⟨[(3,.sl (Zb y) .an),(4,.ptr (.loc 4) 1 11 0 0),(5,.ptr (.loc 5) 2 3 0 0),(6,.ptr (.loc 6) 3 3 0 0),(8,.ptr (.loc 8) 4 4 0 0),(9,.ptr (.loc 9) 5 3 0 0),(10,.i .i64 L),(11,.ptr (.loc 11) 6 4 0 0),(12,.i .i64 p.s.b.length),(13,.i .i64 i)],
  [(.loc 4,⟨1,.str,11,[Zlh p]⟩),(.loc 5,⟨2,.str,3,[Zau t]⟩),(.loc 6,⟨3,.str,3,[Zau h]⟩),(.loc 8,Zpu 4),(.loc 9,Zpv 5 0 0 0),
   (.loc 11,⟨6,.str,4,[[.bs (fK 0) 7 1 0 i,.bs (fK 1) 8 1 0 i,.sl [] .an,.sl [] .an]]⟩),(fK 0,⟨7,.own,1,Zd YM⟩),(fK 1,⟨8,.sh,1,Zd KM⟩)],10⟩
def Zim(k i a:Int):Ex×St:=(.r,⟨[(8,.ptr (.loc 8) 1 4 0 0),(9,.ptr (.loc 9) 2 3 0 0)],[(.loc 8,Zpu 1),(.loc 9,Zpv 2 k i a)],4⟩)
def Zf8(p:Pb)(h:Fz)(y:List Fz)(L:Nat)(YM KM:List (List Fz))(i:Nat):Ex×St:=
 (.n,⟨[(3,.sl (Zb y) .an),(4,.ptr (.loc 4) 1 11 0 0),(6,.ptr (.loc 6) 2 3 0 0),(8,.ptr (.loc 8) 3 4 0 0),(9,.ptr (.loc 9) 4 3 0 0),(10,.i .i64 L),(11,.ptr (.loc 11) 5 4 0 0),(12,.i .i64 p.s.b.length)],
  [(.loc 4,⟨1,.str,11,[Zlh p]⟩),(.loc 6,⟨2,.str,3,[Zau h]⟩),(.loc 8,Zpu 3),(.loc 9,Zpv 4 0 0 0),
   (.loc 11,⟨5,.str,4,[[.bs (fK 0) 6 1 0 i,.bs (fK 1) 7 1 0 i,.sl [] .an,.sl [] .an]]⟩),(fK 0,⟨6,.own,1,Zd YM⟩),(fK 1,⟨7,.sh,1,Zd KM⟩)],9⟩)
section
variable{T:Tbl}[Z2 T][Zz T][Z8 T][Zx T][Zae T][Zw T][Zag T][Zq T][Z9 T][Zc3 T][Zdo T][Zcy T][Zbb T][Zdf T][Z1 T][Za7 T][Zcg T][Zc6 T]
def z9e(p:Pb)(t:Fz)(y:List Fz)(hp:PbS p)(hP:okP p=true)(ht:fz (fv t)=t)(hy:y=fzs (y.map fv))(hd:(y.length:Int)=p.t.dim)(h1:fsz t<=1000)(h2:∀x∈y,fsz x<=1000) :
  ∃(Q:PoF) (D:List Fz),Za T 545 [epb p,efz t,.sl (Zb y) .an]=some (ept Q) /\
   Za T 544 [etp p.t,ept Q,.i .i64 (Zk8 p.bits)]=some (.tup [.sl (Zb D) .an,.i .i64 (Zgt p t y).2.1,.i .i64 (Zgt p t y).2.2]) /\
   ((Zgt p t y).2.1=0->Za T 547 [etp p.t,.sl (Zb D) .an]=some (.sl (Zb (fzs (Zgt p t y).1)) .an)):=by
 have c1:=zrp (T:=T) p t y hp.pl hp.p;unfold okP at hP;simp only[Yh,decide_eq_true_eq]at hP;obtain⟨⟨k1,k2⟩,k3⟩:=hP;have hok:=(zcq p.t).1 k1;obtain⟨P,hPP⟩:∃P:Po,P=⟨fv t,y.map fv,p.p.map fv⟩:=⟨_,rfl⟩;have e1:(⟨t,y,nrm p.p⟩:PoF)=P.f:=by
  rw[hPP];unfold Po.f nrm;rw[ht,<-hy];unfold fzs;rw[Ybh]
  rfl
 have e2:(P.y.length:Int)=p.t.dim:=by grind
 have e3:(P.p.length:Int)=p.t.par:=by grind
 have hv:PvS P 1000:=by
  rw[hPP];refine⟨za2 h1 (by decide),fun q hq=>?_,fun q hq=>?_⟩
  ·obtain⟨x,hx,rfl⟩:=Yl.1 hq;exact za2 (h2 x hx) (by decide)
  ·obtain⟨x,hx,rfl⟩:=Yl.1 hq;exact za2 (hp.p x hx) (by decide)
 obtain⟨hl1,hl2⟩:=zhd p.bits;have c2:=zvy (T:=T) p.t P (Zr p.bits) hl2 hok hp.t.ns e2 e3 hv;have hfit:Zjt p.t P.y.length P.p.length=true:=by
  grind[Zjt]
 have es:Zgt p t y=if (Zbj (Zr p.bits) P p.t.code []).2.1=0 then (Zda p.t (Zbj (Zr p.bits) P p.t.code []).1,0,0) else ([],(Zbj (Zr p.bits) P p.t.code []).2):=by
  grind[Zgt,Zcz,Zdr]
 rw[e1]at c1;refine⟨P.f,fzs (Zbj (Zr p.bits) P p.t.code []).1,c1,?_,?_⟩
 ·grind[zfk]
 ·rw[es];by_cases hk:(Zbj (Zr p.bits) P p.t.code []).2.1=0
  ·rw[if_pos hk];intro _;obtain⟨_,E,r1,r2⟩:=zfk (Zr p.bits) P p.t.code [] hk;refine zvz (T:=T) p.t _ (by have:=hok.ol;have:=hok.d2;omega) (fun o ho=>?_);have:=hok.outs o ho
   grind
  grind
def z4t(p:Pb)(t h:Fz)(y:List Fz)(L:Nat)(YM KM:List (List Fz))(i:Nat)(A X:List Fz)(n:Nat)(hi:i<p.s.b.length)(hA:p.s.a[i]? = some A)(hbl:p.s.b.length<=100)(lY:YM.length=i)(lK:KM.length=i)
  (c1:Za T 542 [.sl (Zb y) .an,.sl (Zb A) .an,.sl (Zd KM) .an,efz h]=some (.sl (Zb X) .an)) (c2:Za T 543 [.sl (Zb X) .an,.i .i64 L]=some (.i .i64 n)) (hn:n<X.length) (hX:X.length<=1000) :
  Zb6 (evX (orc T) T 0 l530_0 (Zcq p t h y L YM KM i))=true/\Zbs 0 0 (.norm false [3,4,6,8,9,10,11,12]) (evX (orc T) T 0 l530_0 (Zcq p t h y L YM KM i))=some (Zim 6 i (300+n)):=by
 obtain⟨h1,h2⟩:=Yc.1 hA;have hi':(i:Int)<p.s.b.length:=by omega
 have h1':(i:Int)<p.s.a.length:=by omega
 have hn':(n:Int)<X.length:=by omega
 have hw:IntKind.wrap .i64 (300+(n:Int))=300+(n:Int):=zab _ (by omega);have tK:List.take i (Zd KM)=Zd KM:=Ya (by simp[Zd];omega);have tY:List.take i (Zd YM)=Zd YM:=Ya (by simp[Zd];omega);have wKF:=zai KM;have wYF:=zai YM;have lKF:(Zd KM).length=i:=by simp[Zd];omega
 have lYF:(Zd YM).length=i:=by simp[Zd];omega
 unfold Zcq Zim;obtain⟨⟨code,outs,dim,par⟩,⟨nm,cc,a,b,e⟩,pp,bits⟩:=p;obtain⟨t0,t1,t2⟩:=t;obtain⟨g0,g1,g2⟩:=h;dsimp only at *
 generalize Zd KM=KF at *
 generalize Zd YM=YF at *
 constructor<;>simp -implicitDefEqProofs[l530_0,hi,hi',hA,h1,h1',h2,c1,c2,hn,hn',hw,tK,tY,wKF,wYF,lKF,lYF,zcn Z1.h542]
def z4u(p:Pb)(t h:Fz)(y:List Fz)(L:Nat)(YM KM:List (List Fz))(i:Nat)(A X:List Fz)(n:Nat)(hi:i<p.s.b.length)(hA:p.s.a[i]? = some A)(hbl:p.s.b.length<=100)(lY:YM.length=i)(lK:KM.length=i)
  (c1:Za T 542 [.sl (Zb y) .an,.sl (Zb A) .an,.sl (Zd KM) .an,efz h]=some (.sl (Zb X) .an)) (c2:Za T 543 [.sl (Zb X) .an,.i .i64 L]=some (.i .i64 n)) (hn:¬ n<X.length) (hX:X.length<=1000)
  (m:Fz) (c3:Za T 546 [epb p,efz t,efz h,.i .i64 i]=some (efz m)) (Q:PoF) (c4:Za T 545 [epb p,efz m,.sl (Zb X) .an]=some (ept Q)) (V:List Fz) (k a:Nat) (c5:Za T 544 [etp p.t,ept Q,.i .i64 L]=some (.tup [.sl (Zb V) .an,.i .i64 k,.i .i64 a])) (hk:k≠0) :
  Zb6 (evX (orc T) T 0 l530_0 (Zcq p t h y L YM KM i))=true/\Zbs 0 0 (.norm false [3,4,6,8,9,10,11,12]) (evX (orc T) T 0 l530_0 (Zcq p t h y L YM KM i))=some (Zim k i a):=by
 obtain⟨h1,h2⟩:=Yc.1 hA;have hi':(i:Int)<p.s.b.length:=by omega
 have h1':(i:Int)<p.s.a.length:=by omega
 have hn':¬ (n:Int)<X.length:=by omega
 have tK:List.take i (Zd KM)=Zd KM:=Ya (by simp[Zd];omega);have tY:List.take i (Zd YM)=Zd YM:=Ya (by simp[Zd];omega);have wKF:=zai KM;have wYF:=zai YM;have lKF:(Zd KM).length=i:=by simp[Zd];omega
 have lYF:(Zd YM).length=i:=by simp[Zd];omega
 unfold Zcq Zim;obtain⟨⟨code,outs,dim,par⟩,⟨nm,cc,a',b,e⟩,pp,bits⟩:=p;obtain⟨t0,t1,t2⟩:=t;obtain⟨g0,g1,g2⟩:=h;obtain⟨m0,m1,m2⟩:=m;obtain⟨⟨q0,q1,q2⟩,qy,qp⟩:=Q;dsimp only at *
 generalize Zd KM=KF at *
 generalize Zd YM=YF at *
 constructor<;>simp -implicitDefEqProofs[l530_0,hi,hi',hA,h1,h1',h2,c1,c2,c3,c4,c5,hk,hn,hn',tK,tY,wKF,wYF,lKF,lYF,zcn Z1.h542]
def z0v(p:Pb)(t h:Fz)(y:List Fz)(L:Nat)(YM KM:List (List Fz))(i:Nat)(A X:List Fz)(n:Nat)(hi:i<p.s.b.length)(hA:p.s.a[i]? = some A)(hbl:p.s.b.length<=100)(lY:YM.length=i)(lK:KM.length=i)
  (c1:Za T 542 [.sl (Zb y) .an,.sl (Zb A) .an,.sl (Zd KM) .an,efz h]=some (.sl (Zb X) .an)) (c2:Za T 543 [.sl (Zb X) .an,.i .i64 L]=some (.i .i64 n)) (hn:¬ n<X.length) (hX:X.length<=1000)
  (m:Fz) (c3:Za T 546 [epb p,efz t,efz h,.i .i64 i]=some (efz m)) (Q:PoF) (c4:Za T 545 [epb p,efz m,.sl (Zb X) .an]=some (ept Q)) (V O:List Fz) (a:Nat) (c5:Za T 544 [etp p.t,ept Q,.i .i64 L]=some (.tup [.sl (Zb V) .an,.i .i64 0,.i .i64 a]))
  (c6:Za T 547 [etp p.t,.sl (Zb V) .an]=some (.sl (Zb O) .an)) :
  evX (orc T) T 0 l530_0 (Zcq p t h y L YM KM i)=some (.n,Zcq p t h y L (YM++[X]) (KM++[O]) (i+1)):=by
 obtain⟨h1,h2⟩:=Yc.1 hA;have hi':(i:Int)<p.s.b.length:=by omega
 have h1':(i:Int)<p.s.a.length:=by omega
 have hn':¬ (n:Int)<X.length:=by omega
 have hws:=zaw hi (by omega);have tK:List.take i (Zd KM)=Zd KM:=Ya (by simp[Zd];omega);have tY:List.take i (Zd YM)=Zd YM:=Ya (by simp[Zd];omega);have wKF:=zai KM;have wYF:=zai YM;have pK:wkL (Zd KM++[[.sl (Zb O) .an]])=Zd (KM++[O]):=by rw[zfi,zai]
 have pY:wkL (Zd YM++[[.sl (Zb X) .an]])=Zd (YM++[X]):=by rw[zfi,zai]
 have lKF:(Zd KM).length=i:=by simp[Zd];omega
 have lYF:(Zd YM).length=i:=by simp[Zd];omega
 have hb4:i+1<=4294967296:=by omega
 unfold Zcq;obtain⟨⟨code,outs,dim,par⟩,⟨nm,cc,a',b,e⟩,pp,bits⟩:=p;obtain⟨t0,t1,t2⟩:=t;obtain⟨g0,g1,g2⟩:=h;obtain⟨m0,m1,m2⟩:=m;obtain⟨⟨q0,q1,q2⟩,qy,qp⟩:=Q;dsimp only at *
 generalize Zd (KM++[O])=KF2 at *
 generalize Zd (YM++[X])=YF2 at *
 generalize Zd KM=KF at *
 generalize Zd YM=YF at *
 simp -implicitDefEqProofs[l530_0,hi,hi',hA,h1,h1',h2,hws,c1,c2,c3,c4,c5,c6,hn,hn',tK,tY,wKF,wYF,lKF,lYF,pK,pY,hb4,zcn Z1.h542]
def z9f(p:Pb)(t h:Fz)(y:List Fz)(L:Nat)(YM KM:List (List Fz)):Zb6 (evX (orc T) T 0 l530_0 (Zcq p t h y L YM KM p.s.b.length))=true /\
  Zbs 0 0 (.norm false [3,4,6,8,9,10,11,12]) (evX (orc T) T 0 l530_0 (Zcq p t h y L YM KM p.s.b.length))=some (Zf8 p h y L YM KM p.s.b.length):=by
 have wKF:=zai KM;have wYF:=zai YM;unfold Zcq Zf8;obtain⟨⟨code,outs,dim,par⟩,⟨nm,cc,a',b,e⟩,pp,bits⟩:=p;dsimp only at *
 generalize Zd KM=KF at *
 generalize Zd YM=YF at *
 constructor<;>simp -implicitDefEqProofs[l530_0,wKF,wYF]
end
def enN(p:Pb)(t h:Fz)(y:List Fz)(Ys Ks:List (List Rat))(s pk:Int):Ex×St:=
 (.n,⟨[(0,mkS),(2,.ptr (.loc 2) 9 4 0 0),(3,.ptr (.loc 3) 10 5 0 0)],Za0 7 8 p t h y s pk (Zr p.bits) Ys Ks [] []++[(.loc 2,Zit 9 0 0 0 0),(.loc 3,Zqs 10 p.s)],12⟩)
section
variable{T:Tbl}[Z2 T][Zu T][Zy T][Z0 T][Zt T][Zp T][Zi T][Zl T][Zs T][Zet T][Zad T][Zap T][Zc5 T][Zah T][Zaf T][Zbl T][Zas T][Zd7 T][Za9 T][Zbd T][Zba T][Zbt T][Zgo T][Zde T][Zal T][Zgp T][Zeu T][Zai T]
def z9r(p:Pb)(t h:Fz)(y:List Fz)(s pk:Int)(Ys Ks:List (List Rat)) :
  Zb6 (evX (orc T) T 4 l537_0 (Zgc 7 8 p t h y p.s.b.length Ys Ks s pk))=true/\Zbs 4 0 (.norm false [0,2,3]) (evX (orc T) T 4 l537_0 (Zgc 7 8 p t h y p.s.b.length Ys Ks s pk))=some (enN p t h y Ys Ks s pk):=by
 unfold Zgc enN Za0;obtain⟨⟨code,outs,dim,par⟩,⟨nm,cc,a,b,e⟩,pp,bits⟩:=p;obtain⟨t0,t1,t2⟩:=t;obtain⟨h0,h1,h2⟩:=h;dsimp only;have wKF:=zai (Ks.map fzs);have wYF:=zai (Ys.map fzs);generalize Zd (Ks.map fzs)=KF at *
 generalize Zd (Ys.map fzs)=YF at *
 constructor<;>simp -implicitDefEqProofs[l537_0,Zc8,wKF,wYF]
def ztk(st:St):Zbs 4 0 (.norm false [0,2,3]) (some (Ex.r,st))=some (Ex.r,st):=by
 simp -implicitDefEqProofs
def z49(p:Pb)(t h:Fz)(y:List Fz)(hS:StS p t h y)(hok:okS p.s=true)(hn:p.t.outs.length=y.length)(hb:p.s.b.length<=3)(s pk:Int) :
  ∃r,(((Zan p (fv t) (fv h) (y.map fv) p.s.b.length 0 [] []).2.1=0/\∃s' p':Int,r=enN p t h y (Zan p (fv t) (fv h) (y.map fv) p.s.b.length 0 [] []).1.1 (Zan p (fv t) (fv h) (y.map fv) p.s.b.length 0 [] []).1.2 s' p') \/
   ((Zan p (fv t) (fv h) (y.map fv) p.s.b.length 0 [] []).2.1≠0/\∃gy gk Ys Ks,∃s' p':Int,((gy=2/\gk=3)\/(gy=7/\gk=8))/\r=(.r,Zn0 gy gk p t h y Ys Ks s' p' (Zan p (fv t) (fv h) (y.map fv) p.s.b.length 0 [] []).2.1 (Zan p (fv t) (fv h) (y.map fv) p.s.b.length 0 [] []).2.2.1 (Zan p (fv t) (fv h) (y.map fv) p.s.b.length 0 [] []).2.2.2))) /\
   Ze T 4 0 (.norm false [0,2,3]) l537_0 (Zgc 2 3 p t h y 0 [] [] s pk)=some r:=by
 obtain⟨H,_⟩:=zf2 hok;generalize hR:Zan p (fv t) (fv h) (y.map fv) p.s.b.length 0 [] []=R;have hyl:(y.map fv).length=y.length:=Yk ..;refine zar (fun q:Nat×List (List Rat)×List (List Rat)×Int×Int=>Zgc (if q.1=0 then 2 else 7) (if q.1=0 then 3 else 8) p t h y q.1 q.2.1 q.2.2.1 q.2.2.2.1 q.2.2.2.2)
  (fun q=>q.1<=p.s.b.length/\q.2.1.length=q.1/\q.2.2.1.length=q.1/\KOk y.length q.2.2.1/\Zan p (fv t) (fv h) (y.map fv) (p.s.b.length-q.1) q.1 q.2.1 q.2.2.1=R)
  (fun q=>p.s.b.length-q.1) _ ?_ (0,[],[],s,pk) ⟨Yv _,rfl,rfl,⟨by simp,by simp,by simp⟩,hR⟩
 rintro⟨i,Ys,Ks,s,pk⟩ ⟨hi,hY,hK,hKO,hst⟩
 dsimp only at *
 have hg:((if i=0 then 2 else 7)=2/\(if i=0 then 3 else 8)=3)\/((if i=0 then 2 else 7)=7/\(if i=0 then 3 else 8)=8):=by
  by_cases h0:i=0
  ·left;simp[h0]
  ·right;simp[h0]
 by_cases hlt:i<p.s.b.length
 ·have hal:i<p.s.a.length:=by rw[H.al];exact hlt
  have hcl:i<p.s.c.length:=by rw[H.cl];exact hlt
  have hA:p.s.a[i]? = some (p.s.a[i]'hal):=Yb hal;have hAl:(p.s.a[i]'hal).length=Ks.length:=by
   have:=zh6 p.s.a 0 i _ H.sh hA;omega
  obtain⟨n,hn1⟩:∃n,p.s.b.length-i=n+1:=⟨p.s.b.length-i-1,by omega⟩;rw[hn1]at hst;unfold Zan at hst;cases hf:Z7 (Zr p.bits) (Zb1 p (fv h) (y.map fv) i Ks) 0 with
  | some k=>
   right;rw[hf]at hst;dsimp only at hst;obtain⟨s',p',c1⟩:=zkq (T:=T) p t h y s pk Ys Ks [] [] i hS hKO _ hA hAl k hf;have e:=ztj (T:=T) _ _ hg p t h y s pk s' p' i Ys Ks hlt (by omega) 6 _ (by decide) c1;refine⟨_,.inr ⟨by rw[<-hst];simp,(if i=0 then 2 else 7),(if i=0 then 3 else 8),Ys,Ks,s',p',hg,rfl⟩,by rw[e];rfl,?_⟩;rw[e,ztk,<-hst]
   rfl
  | none=>
   rw[hf]at hst;dsimp only at hst;obtain⟨s',p',c1⟩:=zlb (T:=T) p t h y s pk Ys Ks [] [] i hS hKO _ hA hAl hcl hf (by omega);by_cases h0:(Zea p (fv t) (fv h) i (Zb1 p (fv h) (y.map fv) i Ks)).2.1=0
   ·left;rw[if_pos h0]at hst c1;obtain⟨_,s1,s2⟩:=zr2 h0;have e:=z1k (T:=T) _ _ hg p t h y s pk s' p' i Ys Ks _ _ hlt (by omega) c1;refine⟨(i+1,Ys++[Zb1 p (fv h) (y.map fv) i Ks],Ks++[(Zea p (fv t) (fv h) i (Zb1 p (fv h) (y.map fv) i Ks)).1],s',p'),⟨by dsimp only;omega,by simp[hY],by simp[hK],⟨by dsimp only;rw[Yam,Yc2];omega,fun r hr=>?_,fun r hr=>?_⟩,?_⟩,by dsimp only;omega,?_⟩
    rotate_left 3
    ·rw[e]
     rfl
    ·rcases Yag.1 hr with hr | hr
     ·exact hKO.row r hr
     ·rw[Ya1.1 hr,s1,hn]
    ·rcases Yag.1 hr with hr | hr
     ·exact hKO.sz r hr
     ·rw[Ya1.1 hr];exact s2
    ·dsimp only;rw[show p.s.b.length-(i+1)=n by omega];exact hst
   ·right;rw[if_neg h0]at hst c1;have e:=ztj (T:=T) _ _ hg p t h y s pk s' p' i Ys Ks hlt (by omega) _ _ (by omega) c1;refine⟨_,.inr ⟨by rw[<-hst];exact h0,(if i=0 then 2 else 7),(if i=0 then 3 else 8),Ys,Ks,s',p',hg,rfl⟩,by rw[e];rfl,?_⟩;rw[e,ztk,<-hst]
 ·right;have hil:i=p.s.b.length:=by omega
  subst hil;rw[Ybx]at hst;unfold Zan at hst;have h1:=H.b1;have hz:¬ p.s.b.length=0:=by omega
  rw[if_neg hz,if_neg hz];obtain⟨e1,e2⟩:=z9r (T:=T) p t h y s pk Ys Ks;exact⟨_,.inl ⟨by rw[<-hst],s,pk,by rw[<-hst]⟩,e1,e2⟩
def z5a(p:Pb)(t h:Fz)(y:List Fz)(s pk s1 p1 s2 p2:Int)(Ys Ks:List (List Rat))(nx:List Rat)(a:Int)
  (hlo:Ze T 4 0 (.norm false [0,2,3]) l537_0 (Zgc 2 3 p t h y 0 [] [] s pk)=some (enN p t h y Ys Ks s1 p1))
  (c2:Z4 T 553 [mkS,.sl (Zb p.s.b) .an] (Za0 2 3 p t h y s1 p1 (Zr p.bits) Ys Ks [] [])=some (.sl (Zb (fzs nx)) .an,Za0 2 3 p t h y s1 p1 (Zr p.bits) Ys Ks [] []))
  (c3:Z4 T 554 [mkS,.sl (Zb (fzs nx)) .an,.i .i64 p.s.b.length] (Za0 2 3 p t h y s1 p1 (Zr p.bits) Ys Ks (fzs nx) [])=some (Zb9 6 0 p.s.b.length a,Za0 2 3 p t h y s2 p2 (Zr p.bits) Ys Ks (fzs nx) [])) :
  Z4 T 537 [mkS] (Za0 2 3 p t h y s pk (Zr p.bits) [] [] [] [])=some (Zb9 6 0 p.s.b.length a,Za0 7 8 p t h y s2 p2 (Zr p.bits) Ys Ks (fzs nx) []):=by
 unfold Zgc enN Za0 at *
 obtain⟨⟨code,outs,dim,par⟩,⟨nm,cc,a1,b,e⟩,pp,bits⟩:=p;obtain⟨t0,t1,t2⟩:=t;obtain⟨h0,h1,h2⟩:=h;dsimp only at *
 rw[show (((0:Nat):Int))=0 from rfl]at hlo;simp only[Ybw,Yau,Ya6,Yah,show Zd []=[] from rfl,show Zb []=[] from rfl]at hlo c2 c3 ⊢;have wKF:=zai (Ks.map fzs);have wYF:=zai (Ys.map fzs);generalize Zd (Ks.map fzs)=KF at *
 generalize Zd (Ys.map fzs)=YF at *
 generalize fzs nx=N at *
 rw[zam Zai.h537 rfl,b537];simp -implicitDefEqProofs[hlo,c2,c3,Zc8,wKF,wYF]
end
abbrev emd(m:MdQ):AV:=.agg [.sl (Zd (m.Ys.map fzs)) .an,.sl (Zd (m.Ks.map fzs)) .an,.sl (Zb (fzs m.nx)) .an,.sl (Zb (fzs m.er)) .an]
section
variable{T:Tbl}[Z2 T][Zu T][Zy T][Z0 T][Zt T][Zp T][Zi T][Zl T][Zs T][Zet T][Zad T][Zap T][Zc5 T][Zah T][Zaf T][Zbl T][Zas T][Zd7 T][Za9 T][Zbd T][Zba T][Zbt T][Zgo T][Zde T][Zal T][Zgp T][Zeu T][Zai T]
def zrx(p:Pb)(t h:Fz)(y:List Fz)(s pk s1 p1:Int)(gy gk:Nat)(hg:(gy=2/\gk=3)\/(gy=7/\gk=8))(Ys Ks:List (List Rat))(k i a:Int)
  (hlo:Ze T 4 0 (.norm false [0,2,3]) l537_0 (Zgc 2 3 p t h y 0 [] [] s pk)=some (.r,Zn0 gy gk p t h y Ys Ks s1 p1 k i a)) :
  Z4 T 537 [mkS] (Za0 2 3 p t h y s pk (Zr p.bits) [] [] [] [])=some (Zb9 k 0 i a,Za0 gy gk p t h y s1 p1 (Zr p.bits) Ys Ks [] []):=by
 unfold Zgc Zn0 Za0 at *
 obtain⟨⟨code,outs,dim,par⟩,⟨nm,cc,a1,b,e⟩,pp,bits⟩:=p;obtain⟨t0,t1,t2⟩:=t;obtain⟨h0,h1,h2⟩:=h;dsimp only at *
 rw[show (((0:Nat):Int))=0 from rfl]at hlo;simp only[Ybw,Yau,Ya6,Yah,show Zd []=[] from rfl,show Zb []=[] from rfl]at hlo ⊢;have wKF:=zai (Ks.map fzs);have wYF:=zai (Ys.map fzs);generalize Zd (Ks.map fzs)=KF at *
 generalize Zd (Ys.map fzs)=YF at *
 rw[zam Zai.h537 rfl,b537];rcases hg with ⟨rfl,rfl⟩ | ⟨rfl,rfl⟩
 all_goals simp -implicitDefEqProofs[hlo,Zc8,wKF,wYF]
def z1l(p:Pb)(t h:Fz)(y:List Fz)(s pk s1 p1 s2 p2 s3 p3:Int)(Ys Ks:List (List Rat))(nx:List Rat)(hb:p.s.b.length<=100)
  (hlo:Ze T 4 0 (.norm false [0,2,3]) l537_0 (Zgc 2 3 p t h y 0 [] [] s pk)=some (enN p t h y Ys Ks s1 p1))
  (c2:Z4 T 553 [mkS,.sl (Zb p.s.b) .an] (Za0 2 3 p t h y s1 p1 (Zr p.bits) Ys Ks [] [])=some (.sl (Zb (fzs nx)) .an,Za0 2 3 p t h y s1 p1 (Zr p.bits) Ys Ks [] []))
  (c3:Z4 T 554 [mkS,.sl (Zb (fzs nx)) .an,.i .i64 p.s.b.length] (Za0 2 3 p t h y s1 p1 (Zr p.bits) Ys Ks (fzs nx) [])=some (Zb9 0 0 0 0,Za0 2 3 p t h y s2 p2 (Zr p.bits) Ys Ks (fzs nx) []))
  (c4:Za T 555 [esm p.s]=some (.sl [] .an))
  (c5:Z4 T 554 [mkS,.sl [] .an,.i .i64 ((p.s.b.length:Int)+1)] (Za0 2 3 p t h y s2 p2 (Zr p.bits) Ys Ks (fzs nx) [])=some (Zb9 0 0 0 0,Za0 2 3 p t h y s3 p3 (Zr p.bits) Ys Ks (fzs nx) [])) :
  Z4 T 537 [mkS] (Za0 2 3 p t h y s pk (Zr p.bits) [] [] [] [])=some (Zb9 0 0 0 0,Za0 7 8 p t h y s3 p3 (Zr p.bits) Ys Ks (fzs nx) []):=by
 have hw:IntKind.wrap .i64 ((p.s.b.length:Int)+1)=(p.s.b.length:Int)+1:=zab _ (by omega);unfold Zgc enN Za0 at *
 obtain⟨⟨code,outs,dim,par⟩,⟨nm,cc,a1,b,e⟩,pp,bits⟩:=p;obtain⟨t0,t1,t2⟩:=t;obtain⟨h0,h1,h2⟩:=h;dsimp only at *
 rw[show (((0:Nat):Int))=0 from rfl]at hlo;simp only[Ybw,Yau,Ya6,Yah,show Zd []=[] from rfl,show Zb []=[] from rfl]at hlo c2 c3 c5 ⊢;have wKF:=zai (Ks.map fzs);have wYF:=zai (Ys.map fzs);generalize Zd (Ks.map fzs)=KF at *
 generalize Zd (Ys.map fzs)=YF at *
 generalize fzs nx=N at *
 rw[zam Zai.h537 rfl,b537];simp -implicitDefEqProofs[hlo,c2,c3,c4,c5,hw,Zc8,wKF,wYF]
def z1m(p:Pb)(t h:Fz)(y:List Fz)(s pk s1 p1 s2 p2 s3 p3:Int)(Ys Ks:List (List Rat))(nx er:List Rat)(gp:List Fz)(hb:p.s.b.length<=100)(k i a:Int)(hg:gp≠[])
  (hlo:Ze T 4 0 (.norm false [0,2,3]) l537_0 (Zgc 2 3 p t h y 0 [] [] s pk)=some (enN p t h y Ys Ks s1 p1))
  (c2:Z4 T 553 [mkS,.sl (Zb p.s.b) .an] (Za0 2 3 p t h y s1 p1 (Zr p.bits) Ys Ks [] [])=some (.sl (Zb (fzs nx)) .an,Za0 2 3 p t h y s1 p1 (Zr p.bits) Ys Ks [] []))
  (c3:Z4 T 554 [mkS,.sl (Zb (fzs nx)) .an,.i .i64 p.s.b.length] (Za0 2 3 p t h y s1 p1 (Zr p.bits) Ys Ks (fzs nx) [])=some (Zb9 0 0 0 0,Za0 2 3 p t h y s2 p2 (Zr p.bits) Ys Ks (fzs nx) []))
  (c4:Za T 555 [esm p.s]=some (.sl (Zb gp) .an))
  (c6:Z4 T 556 [mkS,.sl (Zb gp) .an] (Za0 2 3 p t h y s2 p2 (Zr p.bits) Ys Ks (fzs nx) [])=some (.sl (Zb (fzs er)) .an,Za0 2 3 p t h y s2 p2 (Zr p.bits) Ys Ks (fzs nx) []))
  (c5:Z4 T 554 [mkS,.sl (Zb (fzs er)) .an,.i .i64 ((p.s.b.length:Int)+1)] (Za0 2 3 p t h y s2 p2 (Zr p.bits) Ys Ks (fzs nx) (fzs er))=some (Zb9 k 0 i a,Za0 2 3 p t h y s3 p3 (Zr p.bits) Ys Ks (fzs nx) (fzs er))) :
  Z4 T 537 [mkS] (Za0 2 3 p t h y s pk (Zr p.bits) [] [] [] [])=some (Zb9 k 0 i a,Za0 7 8 p t h y s3 p3 (Zr p.bits) Ys Ks (fzs nx) (fzs er)):=by
 have hw:IntKind.wrap .i64 ((p.s.b.length:Int)+1)=(p.s.b.length:Int)+1:=zab _ (by omega);have hgl:0<gp.length:=Ybp.2 hg;have hgI:(0:Int)<(gp.length:Int):=by omega
 unfold Zgc enN Za0 at *
 obtain⟨⟨code,outs,dim,par⟩,⟨nm,cc,a1,b,e⟩,pp,bits⟩:=p;obtain⟨t0,t1,t2⟩:=t;obtain⟨h0,h1,h2⟩:=h;dsimp only at *
 rw[show (((0:Nat):Int))=0 from rfl]at hlo;simp only[Ybw,Yau,Ya6,Yah,show Zd []=[] from rfl,show Zb []=[] from rfl]at hlo c2 c3 c5 c6 ⊢;have wKF:=zai (Ks.map fzs);have wYF:=zai (Ys.map fzs);generalize Zd (Ks.map fzs)=KF at *
 generalize Zd (Ys.map fzs)=YF at *
 generalize fzs nx=N at *
 generalize fzs er=ER at *
 rw[zam Zai.h537 rfl,b537];simp -implicitDefEqProofs[hlo,c2,c3,c4,c5,c6,hw,hgl,hgI,hg,Zc8,wKF,wYF]
def z5b(p:Pb)(t h:Fz)(y:List Fz)(hS:StS p t h y)(hok:okS p.s=true)(hn:p.t.outs.length=y.length)(hb:p.s.b.length<=3)(s pk:Int) :
  ∃gy gk Ys Ks nx er,∃s' p':Int,Z4 T 537 [mkS] (Za0 2 3 p t h y s pk (Zr p.bits) [] [] [] [])=some (Zb9 (doQ p (fv t) (fv h) (y.map fv)).2.1 0 (doQ p (fv t) (fv h) (y.map fv)).2.2.1 (doQ p (fv t) (fv h) (y.map fv)).2.2.2,Za0 gy gk p t h y s' p' (Zr p.bits) Ys Ks nx er) /\
   ((doQ p (fv t) (fv h) (y.map fv)).2.1=0->gy=7/\gk=8/\Ys=(doQ p (fv t) (fv h) (y.map fv)).1.Ys/\Ks=(doQ p (fv t) (fv h) (y.map fv)).1.Ks/\nx=fzs (doQ p (fv t) (fv h) (y.map fv)).1.nx/\er=fzs (doQ p (fv t) (fv h) (y.map fv)).1.er):=by
 obtain⟨H,_⟩:=zf2 hok;have hyl:(y.map fv).length=y.length:=Yk ..;obtain⟨r,hr,hlo⟩:=z49 (T:=T) p t h y hS hok hn hb s pk;have hst:=zis (p:=p) (t:=fv t) (h:=fv h) (y:=y.map fv) (by rw[hyl];exact hn) hb p.s.b.length 0 [] [] (by omega) rfl rfl ⟨by simp,by simp,by simp⟩;unfold doQ;generalize Zan p (fv t) (fv h) (y.map fv) p.s.b.length 0 [] []=R at *
 rcases hr with ⟨h0,s1,p1,rfl⟩ | ⟨h0,gy,gk,Ys,Ks,s1,p1,hgk,rfl⟩
 ·rw[if_neg (by simpa using h0)];obtain⟨l1,l2,hKO,hz⟩:=hst h0;rw[hyl]at hKO;obtain⟨⟨Ys,Ks⟩,k,i,a⟩:=R;dsimp only at *
  have hyy:∀q∈y.map fv,sz q<=400:=fun q hq=>by obtain⟨u,hu,rfl⟩:=Yl.1 hq;exact za2 (hS.y u hu) (by decide)
  have hsh:sz (fv h)<=20:=za2 hS.h (by decide);have hKy:KOk (y.map fv).length Ks:=by rw[hyl];exact hKO
  have hyl3:=hS.yl;have c2:=zkp (T:=T) p t h y s1 p1 (Zr p.bits) Ys Ks [] [] p.s.b (by rw[l2]) hKO hS.b hS.h hS.yl hS.y;obtain⟨s2,p2,c3⟩:=zfg (T:=T) p t h y s1 p1 (Zr p.bits) Ys Ks (fzs (Za4 (y.map fv) (fv h) p.s.b Ks)) [] (Za4 (y.map fv) (fv h) p.s.b Ks) p.s.b.length (by rw[zdi hKy,hyl];exact hyl3) fun q hq=>by
   have:=zk0 hKy hS.b hsh hyy q hq;omega
  generalize hnx:Za4 (y.map fv) (fv h) p.s.b Ks=nx at *
  cases hf:Z7 (Zr p.bits) nx 0 with
  | some k1=>
   rw[hf]at c3;dsimp only at c3 ⊢;exact⟨7,8,Ys,Ks,fzs nx,[],s2,p2,z5a (T:=T) p t h y s pk s1 p1 s2 p2 Ys Ks nx _ hlo c2 c3,fun hh=>absurd hh (by decide)⟩
  | none=>
   rw[hf]at c3;dsimp only at c3 ⊢;have c4:=zv9 (T:=T) p.s hS.pb.s;unfold Zl2;by_cases hg:Zfy p.s=[]
   ·rw[if_pos hg];rw[hg]at c4;obtain⟨s3,p3,c5⟩:=zfg (T:=T) p t h y s2 p2 (Zr p.bits) Ys Ks (fzs nx) [] [] ((p.s.b.length:Int)+1) (by simp) (by simp);refine⟨7,8,Ys,Ks,fzs nx,[],s3,p3,z1l (T:=T) p t h y s pk s1 p1 s2 p2 s3 p3 Ys Ks nx (by omega) hlo c2 c3 c4 c5,fun _=>⟨rfl,rfl,rfl,rfl,rfl,rfl⟩⟩
   ·rw[if_neg hg];have hgl:(Zfy p.s).length=p.s.b.length/\∀x∈Zfy p.s,fsz x<=20:=by
     unfold Zfy at hg ⊢;split
     ·next hh=>
      have hel:p.s.e.length=p.s.b.length:=by
       rcases H.el with h | h
       ·exact h
       ·exact absurd (Yaj h) hh.2
      have nb:=zc9 H.nb;have ne:=zc9 H.ne;refine⟨?_,fun x hx=>?_⟩
      ·unfold Zfd Zjx Zff fzs;simp[hel]
      ·obtain⟨v,hv,rfl⟩:=Yl.1 hx;have:=z16 (A:=6) (B:=7) (fun q hq=>by obtain⟨u,hu,rfl⟩:=Yl.1 hq;exact za2 (nb u hu) (by decide)) (zr0 (C:=1) (B:=6) (zka (by decide) (by decide)) fun q hq=>by obtain⟨u,hu,rfl⟩:=Yl.1 hq;exact za2 (ne u hu) (by decide)) v hv;rw[zax];omega
     ·next hh=>rw[if_neg hh]at hg;exact absurd rfl hg
    have c6:=zko (T:=T) p t h y s2 p2 (Zr p.bits) Ys Ks (fzs nx) [] (Zfy p.s) (by rw[hgl.1,l2]) hKO hgl.2 hS.h hS.yl;obtain⟨s3,p3,c5⟩:=zfg (T:=T) p t h y s2 p2 (Zr p.bits) Ys Ks (fzs nx) (fzs (Zdt (fv h) (Zfy p.s) Ks y.length)) (Zdt (fv h) (Zfy p.s) Ks y.length) ((p.s.b.length:Int)+1) (by rw[zea hKO];exact hyl3) fun q hq=>by
     have:=znr hKO hgl.2 hsh q hq;omega
    rw[hyl];generalize Zdt (fv h) (Zfy p.s) Ks y.length=er at *
    cases hf2:Z7 (Zr p.bits) er 0 with
    | some k1=>
     rw[hf2]at c5;dsimp only at c5 ⊢;refine⟨7,8,Ys,Ks,fzs nx,fzs er,s3,p3,?_,fun hh=>absurd hh (by decide)⟩;exact z1m (T:=T) p t h y s pk s1 p1 s2 p2 s3 p3 Ys Ks nx er (Zfy p.s) (by omega) _ _ _ hg hlo c2 c3 c4 c6 c5
    | none=>
     rw[hf2]at c5;dsimp only at c5 ⊢;refine⟨7,8,Ys,Ks,fzs nx,fzs er,s3,p3,z1m (T:=T) p t h y s pk s1 p1 s2 p2 s3 p3 Ys Ks nx er (Zfy p.s) (by omega) _ _ _ hg hlo c2 c3 c4 c6 c5,fun _=>⟨rfl,rfl,rfl,rfl,rfl,rfl⟩⟩
 ·rw[if_pos h0];exact⟨gy,gk,Ys,Ks,[],[],s1,p1,zrx (T:=T) p t h y s pk s1 p1 gy gk hgk Ys Ks _ _ _ hlo,fun hh=>absurd hh h0⟩
end
section
variable{T:Tbl}[Z2 T][Zu T][Zy T][Z0 T][Zt T][Zp T][Zi T][Zl T][Zs T][Zet T][Zad T][Zap T][Zc5 T][Zah T][Zaf T][Zbl T][Zas T][Zd7 T][Za9 T][Zbd T][Zba T][Zbt T][Zgo T][Zde T][Zal T][Zgp T][Zeu T][Zai T]
def z9s(p:Pb)(t h:Fz)(y:List Fz)(hS:StS p t h y)(hk:okP p=true)(hy:(y.length:Int)=p.t.dim)(hb:p.s.b.length<=3) :
  Za T 526 [epb p,efz t,efz h,.sl (Zb y) .an]=some (.tup [emd (doQ p (fv t) (fv h) (y.map fv)).1,Zb9 (doQ p (fv t) (fv h) (y.map fv)).2.1 0 (doQ p (fv t) (fv h) (y.map fv)).2.2.1 (doQ p (fv t) (fv h) (y.map fv)).2.2.2]):=by
 have c0:=zf5 (T:=T) p hS.pb;rw[hk]at c0;unfold okP at hk;simp only[Yh,decide_eq_true_eq]at hk;obtain⟨⟨hokT,hokS⟩,_⟩:=hk;have hO:=(zcq p.t).1 hokT;have hn:p.t.outs.length=y.length:=by have:=hO.ol;omega
 have c1:=zo8 (T:=T) p.bits;rw[(zhd p.bits).1]at c1;obtain⟨gy,gk,Ys,Ks,nx,er,s',p',c2,hE⟩:=z5b (T:=T) p t h y hS hokS hn hb 0 0;have hz:(doQ p (fv t) (fv h) (y.map fv)).2.1≠0->(doQ p (fv t) (fv h) (y.map fv)).1=Zmt:=by
  unfold doQ;split
  ·intro _;rfl
  ·split
   ·intro _;rfl
   ·split
    ·intro _;rfl
    ·intro h;exact absurd rfl h
 have hz2:(doQ p (fv t) (fv h) (y.map fv)).2.1=0->(doQ p (fv t) (fv h) (y.map fv)).2.2=(0,0):=by
  unfold doQ;split
  ·next h0=>intro h;exact absurd h h0
  ·split
   ·intro h;exact absurd h (by simp)
   ·split
    ·intro h;exact absurd h (by simp)
    ·intro _;rfl
 generalize doQ p (fv t) (fv h) (y.map fv)=D at *
 obtain⟨M,k,i,a⟩:=D;dsimp only at *
 clear hS hokT hokS hO hn hb;unfold Za0 at c2;simp only[Ya6,Yah,show Zd []=[] from rfl,show Zb []=[] from rfl,Yp]at c2;by_cases h0:k=0
 ·obtain⟨rfl,rfl,rfl,rfl,rfl,rfl⟩:=hE h0;have h00:=hz2 h0;subst h0;cases h00;obtain⟨Y,K,n,e⟩:=M;dsimp only at *
  have wY:=zai (Y.map fzs);have wK:=zai (K.map fzs);have tY:=zeg Y;have tK:=zeg K;have lY:(Zd (Y.map fzs)).length=Y.length:=by simp[Zd]
  have lK:(Zd (K.map fzs)).length=K.length:=by simp[Zd]
  dsimp only[emd];generalize Zd (Y.map fzs)=YF at *
  generalize Zd (K.map fzs)=KF at *
  generalize fzs n=N at *
  generalize fzs e=E at *
  obtain⟨⟨code,outs,dim,par⟩,⟨nm,cc,a1,b,e1⟩,pp,bits⟩:=p;obtain⟨t0,t1,t2⟩:=t;obtain⟨h0,h1,h2⟩:=h;dsimp only at *
  rw[zaa Zai.h526 rfl,b526];simp -implicitDefEqProofs[c0,c1,c2,hy,wY,wK,tY,tK,lY,lK,Zc8]
 ·have hM:=hz h0;subst hM;have hkI:¬ (k:Int)=0:=by omega
  have wY:=zai (Ys.map fzs);have wK:=zai (Ks.map fzs);generalize Zd (Ys.map fzs)=YF at *
  generalize Zd (Ks.map fzs)=KF at *
  clear hE hz hz2;obtain⟨⟨code,outs,dim,par⟩,⟨nm,cc,a1,b,e1⟩,pp,bits⟩:=p;obtain⟨t0,t1,t2⟩:=t;obtain⟨h0',h1,h2⟩:=h;unfold Zmt;dsimp only at *
  rw[zaa Zai.h526 rfl,b526];simp -implicitDefEqProofs[c0,c1,c2,hy,wY,wK,h0,hkI,Zc8,show fzs []=[] from rfl]
end
def anQ(p:Pb):List Rat->Nat->Rat->List Rat->List (List Rat)×Nat×Nat×Nat×Nat
 | [],_,_,_=>([],0,0,0,0)
 | h::r,i,t,y=>if (doQ p t h y).2.1≠0 then ([],(doQ p t h y).2.1,i,(doQ p t h y).2.2.1,(doQ p t h y).2.2.2)
   else ((doQ p t h y).1.nx::(anQ p r (i+1) (t+h) (doQ p t h y).1.nx).1,(anQ p r (i+1) (t+h) (doQ p t h y).1.nx).2)
def zy7{p:Pb}{t h:Rat}{y:List Rat}(hn:p.t.outs.length=y.length)(hb:p.s.b.length<=3)(hk:(doQ p t h y).2.1=0) :
  (doQ p t h y).2.2=(0,0)/\(doQ p t h y).1.nx.length=y.length/\∀q∈(doQ p t h y).1.nx,sz q<=129:=by
 have hst:=zis (p:=p) (t:=t) (h:=h) (y:=y) hn hb p.s.b.length 0 [] [] (by omega) rfl rfl ⟨by simp,by simp,by simp⟩;unfold doQ at hk ⊢;split
 ·next h0=>rw[if_pos h0]at hk;exact absurd hk h0
 ·next h0=>
  rw[if_neg h0]at hk;obtain⟨_,_,hK,_⟩:=hst (by simpa using h0);split
  ·next k hf=>rw[hf]at hk;exact absurd hk (by simp)
  ·next hf=>
   rw[hf]at hk;dsimp only at hk ⊢;split
   ·next k hg=>rw[hg]at hk;exact absurd hk (by simp)
   ·exact⟨rfl,zdi hK,z17 (zhd p.bits).2 hf⟩
abbrev Zip(p:Pb):List AV:=[.sl (Zdk p.t.code) .an,.sl (ints p.t.outs) .an,.i .i64 p.t.dim,.i .i64 p.t.par,.s p.s.nm,.sl (Zb p.s.c) .an,.sl (Zd p.s.a) .an,.sl (Zb p.s.b) .an,.sl (Zb p.s.e) .an,.sl (Zb p.p) .an,.i .i64 p.bits]
def Zks(p:Pb)(f t:Int)(tm:Fz):Heap:=[(.loc 3,⟨1,.str,11,[Zip p]⟩),(.loc 5,⟨2,.str,2,[[.i .i64 f,.i .i64 t]]⟩),(.loc 7,Zit 3 0 0 0 0),(.loc 9,⟨4,.str,3,[Zau tm]⟩)]
def Zf7(p:Pb)(f t:Int)(tm:Fz)(y:List Fz)(H:List Fz):St:=
 ⟨[(3,.ptr (.loc 3) 1 11 0 0),(5,.ptr (.loc 5) 2 2 0 0),(7,.ptr (.loc 7) 3 4 0 0),(9,.ptr (.loc 9) 4 3 0 0),(10,.sl (Zb y) .an),(11,.sl [[.sl (Zb y) .an]] .fu),(72,.sl (Zb H) .an),(73,.i .i64 H.length),(74,.i .i64 0)],Zks p f t tm,6⟩
def Zh3(p:Pb)(f t:Int)(tm:Fz)(y:List Fz)(out:List (List Fz))(H:List Fz)(i:Nat):St:=
 ⟨[(3,.ptr (.loc 3) 1 11 0 0),(5,.ptr (.loc 5) 2 2 0 0),(7,.ptr (.loc 7) 3 4 0 0),(9,.ptr (.loc 9) 4 3 0 0),(10,.sl (Zb y) .an),(11,.bs (.loc 105) 5 1 0 out.length),(72,.sl (Zb H) .an),(73,.i .i64 H.length),(74,.i .i64 (i:Int))],Zks p f t tm++[(.loc 105,⟨5,.own,1,Zd out⟩)],7⟩
def Zk9(k s i a:Int):Ex×St:=(.r,⟨[(6,.sl [] .an),(7,.ptr (.loc 7) 1 4 0 0)],[(.loc 7,Zit 1 k s i a)],3⟩)
section
variable{T:Tbl}[Z2 T][Zu T][Zy T][Z0 T][Zt T][Zp T][Zi T][Zl T][Zs T][Zar T][Zai T]
def zy8(p:Pb)(f t:Int)(tm h t1:Fz)(y nx:List Fz)(H:List Fz)(hH:H[0]? = some h)(hl:H.length<=1000)(e1 e2 e3:List (List AV))
  (c1:Za T 526 [epb p,efz tm,efz h,.sl (Zb y) .an]=some (.tup [.agg [.sl e1 .an,.sl e2 .an,.sl (Zb nx) .an,.sl e3 .an],Zb9 0 0 0 0])) (c2:Za T 215 [efz tm,efz h]=some (efz t1)) :
  evX (orc T) T 0 l506_0 (Zf7 p f t tm y H)=some (.n,Zh3 p f t t1 nx [y,nx] H 1):=by
 obtain⟨hlt,hge⟩:=Yc.1 hH;have hlt':(0:Int)<(H.length:Int):=by omega
 have hm:Zd [y,nx]=[[.sl (Zb y) .an],[.sl (Zb nx) .an]]:=rfl;unfold Zf7 Zh3 Zks Zip;rw[hm];obtain⟨⟨code,outs,dim,par⟩,⟨nm,cc,a1,b,e⟩,pp,bits⟩:=p;obtain⟨m0,m1,m2⟩:=tm;obtain⟨h0,h1,h2⟩:=h;obtain⟨t0,t2,t3⟩:=t1;dsimp only at *
 simp -implicitDefEqProofs[l506_0,hH,hlt,hlt',hge,c1,c2]
def z3h(p:Pb)(f t:Int)(tm h t1:Fz)(y nx:List Fz)(out:List (List Fz))(H:List Fz)(i:Nat)(hH:H[i]? = some h)(hl:H.length<=1000)(ho:out.length<=2000)(e1 e2 e3:List (List AV))
  (c1:Za T 526 [epb p,efz tm,efz h,.sl (Zb y) .an]=some (.tup [.agg [.sl e1 .an,.sl e2 .an,.sl (Zb nx) .an,.sl e3 .an],Zb9 0 0 0 0])) (c2:Za T 215 [efz tm,efz h]=some (efz t1)) :
  evX (orc T) T 0 l506_0 (Zh3 p f t tm y out H i)=some (.n,Zh3 p f t t1 nx (out++[nx]) H (i+1)):=by
 obtain⟨hlt,hge⟩:=Yc.1 hH;have hlt':(i:Int)<(H.length:Int):=by omega
 have hws:=zaw hlt (by omega);have hm:=zfi out nx;have h3:(out++[nx]).length=out.length+1:=by simp
 have h4:out.length+1<=4294967296:=by omega
 have ht:List.take out.length (Zd out)=Zd out:=Ya (by rw[zbr];exact Ye _);have w1:=zai (out++[nx]);have l1:=zbr out;unfold Zh3 Zks Zip;rw[h3];generalize Zd (out++[nx])=R1 at *
 generalize Zd out=R0 at *
 obtain⟨⟨code,outs,dim,par⟩,⟨nm,cc,a1,b,e⟩,pp,bits⟩:=p;obtain⟨m0,m1,m2⟩:=tm;obtain⟨h0,h1,h2⟩:=h;obtain⟨t0,t2,t3⟩:=t1;dsimp only at *
 simp -implicitDefEqProofs[l506_0,hH,hlt,hlt',hge,hws,c1,c2,hm,h4,ht,w1,l1]
def z3i(p:Pb)(f t:Int)(tm h:Fz)(y:List Fz)(H:List Fz)(hH:H[0]? = some h)(hl:H.length<=1000)(hf:0<=f/\f<=1000)(e1 e2 e3 e4:List (List AV))(k st a:Int)(hk:k≠0)
  (c1:Za T 526 [epb p,efz tm,efz h,.sl (Zb y) .an]=some (.tup [.agg [.sl e1 .an,.sl e2 .an,.sl e4 .an,.sl e3 .an],Zb9 k 0 st a])) :
  evX (orc T) T 0 l506_0 (Zf7 p f t tm y H)=some (Zk9 k (f+1) st a):=by
 obtain⟨hlt,hge⟩:=Yc.1 hH;have hlt':(0:Int)<(H.length:Int):=by omega
 have w1:IntKind.wrap .i64 f=f:=zab _ (by omega);have w2:IntKind.wrap .i64 (f+1)=f+1:=zab _ (by omega);unfold Zf7 Zks Zip Zk9;obtain⟨⟨code,outs,dim,par⟩,⟨nm,cc,a1,b,e⟩,pp,bits⟩:=p;obtain⟨m0,m1,m2⟩:=tm;obtain⟨h0,h1,h2⟩:=h;dsimp only at *
 simp -implicitDefEqProofs[l506_0,hH,hlt,hlt',hge,c1,hk,w1,w2]
def z8j(p:Pb)(f t:Int)(tm h:Fz)(y:List Fz)(out:List (List Fz))(H:List Fz)(i:Nat)(hH:H[i]? = some h)(hl:H.length<=1000)(hf:0<=f/\f<=1000)(e1 e2 e3 e4:List (List AV))(k st a:Int)(hk:k≠0)
  (c1:Za T 526 [epb p,efz tm,efz h,.sl (Zb y) .an]=some (.tup [.agg [.sl e1 .an,.sl e2 .an,.sl e4 .an,.sl e3 .an],Zb9 k 0 st a])) :
  evX (orc T) T 0 l506_0 (Zh3 p f t tm y out H i)=some (Zk9 k (f+(i:Int)+1) st a):=by
 obtain⟨hlt,hge⟩:=Yc.1 hH;have hlt':(i:Int)<(H.length:Int):=by omega
 have w1:IntKind.wrap .i64 (f+(i:Int))=f+(i:Int):=zab _ (by omega);have w2:IntKind.wrap .i64 (f+(i:Int)+1)=f+(i:Int)+1:=zab _ (by omega);have wo:=zai out;unfold Zh3 Zks Zip Zk9;generalize Zd out=R0 at *
 obtain⟨⟨code,outs,dim,par⟩,⟨nm,cc,a1,b,e⟩,pp,bits⟩:=p;obtain⟨m0,m1,m2⟩:=tm;obtain⟨h0,h1,h2⟩:=h;dsimp only at *
 simp -implicitDefEqProofs[l506_0,hH,hlt,hlt',hge,c1,hk,w1,w2,wo]
def z8k(p:Pb)(f t:Int)(tm:Fz)(y:List Fz):Zb6 (evX (orc T) T 0 l506_0 (Zf7 p f t tm y []))=true /\
  Zbs 0 0 (.norm false [7,11]) (evX (orc T) T 0 l506_0 (Zf7 p f t tm y []))=some (.n,⟨[(7,.ptr (.loc 7) 1 4 0 0),(11,.sl [[.sl (Zb y) .an]] .an)],[(.loc 7,Zit 1 0 0 0 0)],3⟩):=by
 unfold Zf7 Zks Zip;obtain⟨⟨code,outs,dim,par⟩,⟨nm,cc,a1,b,e⟩,pp,bits⟩:=p;obtain⟨m0,m1,m2⟩:=tm;dsimp only;constructor<;>simp -implicitDefEqProofs[l506_0]
def zaew(p:Pb)(f t:Int)(tm:Fz)(y:List Fz)(out:List (List Fz))(H:List Fz):Zb6 (evX (orc T) T 0 l506_0 (Zh3 p f t tm y out H H.length))=true /\
  Zbs 0 0 (.norm false [7,11]) (evX (orc T) T 0 l506_0 (Zh3 p f t tm y out H H.length))=some (.n,⟨[(7,.ptr (.loc 7) 1 4 0 0),(11,.bs (.loc 105) 2 1 0 out.length)],[(.loc 7,Zit 1 0 0 0 0),(.loc 105,⟨2,.own,1,Zd out⟩)],4⟩):=by
 have wo:=zai out;unfold Zh3 Zks Zip;generalize Zd out=R0 at *
 obtain⟨⟨code,outs,dim,par⟩,⟨nm,cc,a1,b,e⟩,pp,bits⟩:=p;obtain⟨m0,m1,m2⟩:=tm;dsimp only;constructor<;>simp -implicitDefEqProofs[l506_0,wo]
end
def zaex{p:Pb}{t h:Fz}{y:List Fz}(hp:PbS p)(hok:okS p.s=true)(ht:fsz t<=500)(hh:fsz h<=20)(hyl:y.length<=300)(hy:∀x∈y,fsz x<=400):StS p t h y:=by
 obtain⟨H,_⟩:=zf2 hok;refine⟨hp,ht,hh,hyl,hy,fun x hx=>?_,fun r hr x hx=>?_,fun x hx=>?_,fun x hx=>?_⟩
 ·have:=zc9 H.nc x hx;omega
 ·have h1:=H.na;unfold Zdb at h1;have:=zc9 (Yo.1 h1 r hr) x hx;omega
 ·have:=zc9 H.nb x hx;omega
 ·have:=zc9 H.ne x hx;omega
section
variable{T:Tbl}[Z2 T][Zu T][Zy T][Z0 T][Zt T][Zp T][Zi T][Zl T][Zs T][Zet T][Zad T][Zap T][Zc5 T][Zah T][Zaf T][Zbl T][Zas T][Zd7 T][Za9 T][Zbd T][Zba T][Zbt T][Zgo T][Zde T][Zal T][Zgp T][Zeu T][Zai T][Zar T]
def z8l(p:Pb)(f t:Int)(tm0:Fz)(y0:List Fz)(H:List Fz)(hp:PbS p)(hok:okP p=true)(hb:p.s.b.length<=3)(hd:(y0.length:Int)=p.t.dim)(hf:0<=f/\f<=1000)
  (ht:fsz tm0<=200) (hy:∀x∈y0,fsz x<=400) (hH:∀x∈H,fsz x<=12) (hHl:H.length<=20) :
  ∃r,(((anQ p (H.map fv) 0 (fv tm0) (y0.map fv)).2.1≠0/\r=Zk9 (anQ p (H.map fv) 0 (fv tm0) (y0.map fv)).2.1 (f+((anQ p (H.map fv) 0 (fv tm0) (y0.map fv)).2.2.1:Int)+1) (anQ p (H.map fv) 0 (fv tm0) (y0.map fv)).2.2.2.1 (anQ p (H.map fv) 0 (fv tm0) (y0.map fv)).2.2.2.2) \/
   ((anQ p (H.map fv) 0 (fv tm0) (y0.map fv)).2.1=0/\H=[]/\r=(.n,⟨[(7,.ptr (.loc 7) 1 4 0 0),(11,.sl [[.sl (Zb y0) .an]] .an)],[(.loc 7,Zit 1 0 0 0 0)],3⟩)) \/
   ((anQ p (H.map fv) 0 (fv tm0) (y0.map fv)).2.1=0/\H≠[]/\r=(.n,⟨[(7,.ptr (.loc 7) 1 4 0 0),(11,.bs (.loc 105) 2 1 0 (y0::(anQ p (H.map fv) 0 (fv tm0) (y0.map fv)).1.map fzs).length)],[(.loc 7,Zit 1 0 0 0 0),(.loc 105,⟨2,.own,1,Zd (y0::(anQ p (H.map fv) 0 (fv tm0) (y0.map fv)).1.map fzs)⟩)],4⟩))) /\
   Ze T 0 0 (.norm false [7,11]) l506_0 (Zf7 p f t tm0 y0 H)=some r:=by
 have hok2:=hok;unfold okP at hok2;simp only[Yh,decide_eq_true_eq]at hok2;obtain⟨⟨hokT,hokS⟩,_⟩:=hok2;have hO:=(zcq p.t).1 hokT;have hdm:=hO.d2;generalize hR:anQ p (H.map fv) 0 (fv tm0) (y0.map fv)=R;refine zar (fun q:Nat×Fz×List Fz×List (List Fz)=>if q.1=0 then Zf7 p f t q.2.1 q.2.2.1 H else Zh3 p f t q.2.1 q.2.2.1 q.2.2.2 H q.1)
  (fun q=>q.1<=H.length/\(q.1=0->q.2.2.1=y0/\q.2.2.2=[y0])/\fsz q.2.1<=200+13*q.1/\(q.2.2.1.length:Int)=p.t.dim/\(∀x∈q.2.2.1,fsz x<=400)/\q.2.2.2.length=q.1+1 /\
   (anQ p ((H.drop q.1).map fv) q.1 (fv q.2.1) (q.2.2.1.map fv)).2=R.2/\(R.2.1=0->q.2.2.2++(anQ p ((H.drop q.1).map fv) q.1 (fv q.2.1) (q.2.2.1.map fv)).1.map fzs=y0::R.1.map fzs))
  (fun q=>H.length-q.1) _ ?_ (0,tm0,y0,[y0]) ⟨Yv _,fun _=>⟨rfl,rfl⟩,by simpa using ht,hd,hy,rfl,by rw[Y6,hR],fun _=>by rw[Y6,hR];rfl⟩
 rintro⟨i,tm,y,out⟩ ⟨hi,h0,htm,hyd,hys,hol,hq2,hq1⟩
 dsimp only at *
 by_cases hlt:i<H.length
 ·obtain⟨h,hh⟩:∃h,H[i]? = some h:=⟨_,Yb hlt⟩;have hdr:H.drop i=h::H.drop (i+1):=by
   rw[Yg hlt];congr 1;rw[Yb hlt]at hh;exact Option.some.inj hh
  have hhs:=hH h (Yf hh);have hyl:y.length<=300:=by omega
  have hS:StS p tm h y:=zaex hp hokS (by omega) (by omega) hyl hys;have c1:=z9s (T:=T) p tm h y hS hok hyd hb;have hn:p.t.outs.length=(y.map fv).length:=by rw[Yk];have:=hO.ol;omega
  rw[hdr,Yak]at hq2 hq1;unfold anQ at hq2 hq1;by_cases hk:(doQ p (fv tm) (fv h) (y.map fv)).2.1=0
  ·obtain⟨k1,k2,k3⟩:=zy7 hn hb hk;rw[if_neg (by simpa using hk)]at hq2 hq1;have s1:=za2 (x:=tm) (L:=200+13*i) htm (by omega);have s2:=za2 (x:=h) (L:=12) hhs (by decide);have s3:=zez (fv tm) (fv h);have c2:=zfu (T:=T) tm h (by omega) (by omega);rw[hk,k1]at c1;have hfz:(fz (fv tm+fv h))=fz (fv tm+fv h):=rfl;left;refine⟨(i+1,fz (fv tm+fv h),fzs (doQ p (fv tm) (fv h) (y.map fv)).1.nx,out++[fzs (doQ p (fv tm) (fv h) (y.map fv)).1.nx]),⟨by dsimp only;omega,fun h=>absurd h (by simp),by dsimp only;rw[zax];omega,by dsimp only;rw[zae,k2,Yk];exact hyd,fun x hx=>?_,by simp[hol],?_,fun hz=>?_⟩,by dsimp only;omega,?_⟩
   ·obtain⟨v,hv,rfl⟩:=Yl.1 hx;have:=k3 v hv;rw[zax];omega
   ·dsimp only;rw[zb6,zff];exact hq2
   ·dsimp only;rw[zb6,zff,Ybk];exact hq1 hz
   ·dsimp only;rw[if_neg (show ¬ i+1=0 by omega)];by_cases hi0:i=0
    ·subst hi0;obtain⟨_,e2⟩:=h0 rfl;rw[if_pos rfl,e2];have e1:=(h0 rfl).1;rw[<-e1];exact zy8 (T:=T) p f t tm h _ y _ H hh (by omega) _ _ _ c1 c2
    ·rw[if_neg hi0];exact z3h (T:=T) p f t tm h _ y _ out H i hh (by omega) (by omega) _ _ _ c1 c2
  ·right;rw[if_pos hk]at hq2;refine⟨_,.inl ⟨by rw[<-hq2];exact hk,rfl⟩,?_⟩;have e1:(if i=0 then Zf7 p f t tm y H else Zh3 p f t tm y out H i)=(if i=0 then Zf7 p f t tm y H else Zh3 p f t tm y out H i):=rfl;rw[<-hq2];dsimp only;by_cases hi0:i=0
   ·subst hi0;rw[if_pos rfl];have e:=z3i (T:=T) p f t tm h y H hh (by omega) hf _ _ _ _ _ _ _ (by omega) c1;rw[e];simp only[Yp,Int.add_zero];exact⟨rfl,by unfold Zk9;simp -implicitDefEqProofs⟩
   ·rw[if_neg hi0];have e:=z8j (T:=T) p f t tm h y out H i hh (by omega) hf _ _ _ _ _ _ _ (by omega) c1;rw[e];exact⟨rfl,by unfold Zk9;simp -implicitDefEqProofs⟩
 ·right;have hil:i=H.length:=by omega
  subst hil;rw[Yw,Ya6]at hq2 hq1;unfold anQ at hq2 hq1;have hz:R.2.1=0:=by rw[<-hq2]
  by_cases hi0:H.length=0
  ·have hnil:=Yaj hi0;subst hnil;obtain⟨e1,_⟩:=h0 rfl;subst e1;rw[if_pos (show ([]:List Fz).length=0 from rfl)];obtain⟨g1,g2⟩:=z8k (T:=T) p f t tm y;exact⟨_,.inr (.inl ⟨hz,rfl,rfl⟩),g1,g2⟩
  ·rw[if_neg hi0];have e1:=hq1 hz;rw[Ya6,Ya9]at e1;obtain⟨g1,g2⟩:=zaew (T:=T) p f t tm y out H;rw[<-e1];exact⟨_,.inr (.inr ⟨hz,fun h=>hi0 (by rw[h];rfl),rfl⟩),g1,g2⟩
def Zss(p:Pb)(c:Kp)(j f t:Nat):List (List Rat)×Nat×Nat×Nat×Nat:=
 anQ p (((c.sz.take (t-1)).drop f).map fv) 0 (fv ((c.ts[j]?).getD (false,[],[]))) (((c.ys[j]?).getD []).map fv)
def zm5(p:Pb)(c:Kp)(f t:Int)(hp:PbS p)(hl:c.sz.length<=1000)(hw:∀x∈c.sz,fsz x<=10000)(hb:okP p=false\/Zev c=false\/Zd8 c f t=false) :
  Za T 506 [epb p,ekp c,.agg [.i .i64 f,.i .i64 t]]=some (.tup [.sl [] .an,Zb9 2 0 0 0]):=by
 have c1:=zf5 (T:=T) p hp;have c2:=zfv (T:=T) c hl hw;have c3:=zht (T:=T) c f t hl;rw[zaa Zar.h506 rfl,b506];clear hp hl hw;generalize okP p=A at *
 generalize Zev c=B at *
 generalize Zd8 c f t=C at *
 obtain⟨⟨code,outs,dim,par⟩,⟨nm,cc,a1,b,e⟩,pp,bits⟩:=p;obtain⟨ev,S,ts,ys⟩:=c
 try dsimp only at *
 cases A with
 | false=>simp -implicitDefEqProofs[c1]
 | true=>
  cases B with
  | false=>simp -implicitDefEqProofs[c1,c2]
  | true=>
   have hC:C=false:=by
    rcases hb with h | h | h
    ·cases h
    ·cases h
    ·exact h
   subst hC;simp -implicitDefEqProofs[c1,c2,c3]
end
theorem znh:∀{l:List Fz},l.all Zbn=true->l=fzs (l.map fv)
 | [],_=>rfl
 | x::l,h=>by
  rw[Ybj,Yh]at h;have h1:=h.1;unfold Zbn Zbv at h1;simp only[Yh,decide_eq_true_eq]at h1;have ih:=znh h.2;show x::l=fz (fv x)::fzs (l.map fv);exact congr (congrArg List.cons h1.1) ih
theorem zev{lim:Nat}:∀{l:List Rat} {j k:Nat},Z7 lim l j=some k->k<j+l.length
 | [],_,_,h=>by cases h
 | x::l,j,k,h=>by
  unfold Z7 at h;rw[Yr];split at h
  ·cases h;omega
  ·have:=zev h;omega
def Zud(p:Pb)(i:Nat):List Fz:=(p.s.a[i]?).getD []
section
variable{T:Tbl}[Z2 T][Zz T][Z8 T][Zx T][Zae T][Zw T][Zag T][Zq T][Z9 T][Zc3 T][Zdo T][Zcy T][Zbb T][Zdf T][Z1 T][Za7 T][Zcg T][Zc6 T]
def z4v(p:Pb)(t h:Rat)(y:List Rat)(hp:PbS p)(hok:okP p=true)(hb:p.s.b.length<=3)(hd:(y.length:Int)=p.t.dim)(ht:sz t<=500)(hh:sz h<=20)(hy:∀q∈y,sz q<=400) :
  Ze T 0 0 (.norm false [3,4,6,8,9,10,11,12]) l530_0 (Zcq p (fz t) (fz h) (fzs y) (Zr p.bits) [] [] 0) =
   some (if (Zan p t h y p.s.b.length 0 [] []).2.1=0 then Zf8 p (fz h) (fzs y) (Zr p.bits) ((Zan p t h y p.s.b.length 0 [] []).1.1.map fzs) ((Zan p t h y p.s.b.length 0 [] []).1.2.map fzs) p.s.b.length
    else Zim (Zan p t h y p.s.b.length 0 [] []).2.1 (Zan p t h y p.s.b.length 0 [] []).2.2.1 (Zan p t h y p.s.b.length 0 [] []).2.2.2):=by
 have hok2:=hok;unfold okP at hok2;simp only[Yh,decide_eq_true_eq]at hok2;obtain⟨⟨hokT,hokS⟩,_⟩:=hok2;have hO:=(zcq p.t).1 hokT;obtain⟨H,_⟩:=zf2 hokS;have hn:p.t.outs.length=y.length:=by have:=hO.ol;omega
 have hyl:y.length<=300:=by have:=hO.d2;omega
 obtain⟨hl1,hl2⟩:=zhd p.bits;have key:=za4 (T:=T) (k:=0) (id:=0) (g2:=.norm false [3,4,6,8,9,10,11,12]) (c:=l530_0)
  (fun q:Nat×List (List Rat)×List (List Rat)=>Zcq p (fz t) (fz h) (fzs y) (Zr p.bits) (q.2.1.map fzs) (q.2.2.map fzs) q.1)
  (fun q=>q.1<=p.s.b.length/\q.2.1.length=q.1/\q.2.2.length=q.1/\KOk y.length q.2.2) (fun q=>p.s.b.length-q.1)
  (fun q=>some (if (Zan p t h y (p.s.b.length-q.1) q.1 q.2.1 q.2.2).2.1=0 then Zf8 p (fz h) (fzs y) (Zr p.bits) ((Zan p t h y (p.s.b.length-q.1) q.1 q.2.1 q.2.2).1.1.map fzs) ((Zan p t h y (p.s.b.length-q.1) q.1 q.2.1 q.2.2).1.2.map fzs) p.s.b.length
    else Zim (Zan p t h y (p.s.b.length-q.1) q.1 q.2.1 q.2.2).2.1 (Zan p t h y (p.s.b.length-q.1) q.1 q.2.1 q.2.2).2.2.1 (Zan p t h y (p.s.b.length-q.1) q.1 q.2.1 q.2.2).2.2.2)) ?_ (0,[],[]) ⟨Yv _,rfl,rfl,⟨by simp,by simp,by simp⟩⟩
 ·exact key
 rintro⟨i,Ys,Ks⟩ ⟨hi,hY,hK,hKO⟩
 dsimp only at *
 by_cases hlt:i<p.s.b.length
 ·have hal:i<p.s.a.length:=by rw[H.al];exact hlt
  have hcl:i<p.s.c.length:=by rw[H.cl];exact hlt
  have hA:p.s.a[i]? = some (p.s.a[i]'hal):=Yb hal;have hC:p.s.c[i]? = some (p.s.c[i]'hcl):=Yb hcl;have hAl:(p.s.a[i]'hal).length=Ks.length:=by
   have:=zh6 p.s.a 0 i _ H.sh hA;omega
  have hAn:(p.s.a[i]'hal).all Zbn=true:=by
   have h1:=H.na;unfold Zdb at h1;exact Yo.1 h1 _ (Yi hal)
  have hAs:=znh hAn;have hAz:=zc9 hAn;have hcz:=zc9 H.nc _ (Yi hcl);have e:Zb1 p h y i Ks=Za4 y h (p.s.a[i]'hal) Ks:=by unfold Zb1;rw[hA];rfl
  have hAq:∀c∈(p.s.a[i]'hal).map fv,sz c<=20:=fun c hc=>by
   obtain⟨u,hu,rfl⟩:=Yl.1 hc;exact za2 (Yd (hAz u hu) (by decide)) (by decide)
  have c1:=zhx (T:=T) y ((p.s.a[i]'hal).map fv) Ks h (by rw[Yk];exact hAl) hKO hAq hh hy hyl;rw[<-hAs,<-e]at c1;have hxl:(Zb1 p h y i Ks).length=y.length:=by rw[e,zdi hKO]
  have hxz:∀q∈Zb1 p h y i Ks,sz q<=900:=by
   rw[e];exact zk0 hKO (fun x hx=>Yd (hAz x hx) (by decide)) hh hy
  have c2:=zhb (T:=T) (Zb1 p h y i Ks) (Zr p.bits) (by omega) (fun q hq=>Yd (hxz q hq) (by decide));obtain⟨n,hn1⟩:∃n,p.s.b.length-i=n+1:=⟨p.s.b.length-i-1,by omega⟩;have hn2:p.s.b.length-(i+1)=n:=by omega
  have hXl:(fzs (Zb1 p h y i Ks)).length=y.length:=by rw[zae,hxl]
  have eS:Zan p t h y (n+1) i Ys Ks=(match Z7 (Zr p.bits) (Zb1 p h y i Ks) 0 with
   | some k=>((Ys,Ks),6,i,300+k)
   | none=>if (Zea p t h i (Zb1 p h y i Ks)).2.1=0 then Zan p t h y n (i+1) (Ys++[Zb1 p h y i Ks]) (Ks++[(Zea p t h i (Zb1 p h y i Ks)).1])
    else ((Ys,Ks),(Zea p t h i (Zb1 p h y i Ks)).2.1,i,(Zea p t h i (Zb1 p h y i Ks)).2.2)):=rfl
  rw[hn1,eS];cases hf:Z7 (Zr p.bits) (Zb1 p h y i Ks) 0 with
  | some k=>
   right;have hkl:k<0+(Zb1 p h y i Ks).length:=zev hf;rw[hf]at c2;simp only[Ydd]at c2;have g:=z4t (T:=T) p (fz t) (fz h) (fzs y) (Zr p.bits) (Ys.map fzs) (Ks.map fzs) i (p.s.a[i]'hal) _ k hlt hA (by omega) (by rw[Yk];exact hY) (by rw[Yk];exact hK) c1 c2 (by omega) (by omega);simpa using g
  | none=>
   rw[hf]at c2;simp only[Yew]at c2;have hnl:¬ (Zb1 p h y i Ks).length<(fzs (Zb1 p h y i Ks)).length:=by omega
   have c3:=zpx (T:=T) p t h i _ hC (by omega) hh (by omega);have hfm:fz (fv (fz (t+h*fv (p.s.c[i]'hcl))))=fz (t+h*fv (p.s.c[i]'hcl)):=by rw[zb6]
   have hmz:sz (t+h*fv (p.s.c[i]'hcl))<=1000:=by
    have q1:=zd8 h (fv (p.s.c[i]'hcl));have q2:=zez t (h*fv (p.s.c[i]'hcl));have q3:=za2 (x:=p.s.c[i]'hcl) (L:=20) (by omega) (by decide);omega
   obtain⟨Q,V,c4,c5,c6⟩:=z9e (T:=T) p (fz (t+h*fv (p.s.c[i]'hcl))) (fzs (Zb1 p h y i Ks)) hp hok hfm (by rw[zff]) (by rw[hXl];exact hd) (by rw[zax];exact hmz) (fun x hx=>by
    obtain⟨q,hq,rfl⟩:=Yl.1 hx;rw[zax];exact Yd (hxz q hq) (by decide))
   have es:Zgt p (fz (t+h*fv (p.s.c[i]'hcl))) (fzs (Zb1 p h y i Ks))=Zea p t h i (Zb1 p h y i Ks):=by
    unfold Zgt Zea;rw[zb6,zff,hC]
    rfl
   rw[es]at c5 c6;rw[hl1]at c5;by_cases h0:(Zea p t h i (Zb1 p h y i Ks)).2.1=0
   ·left;obtain⟨_,s1,s2⟩:=zr2 h0;have c6':=c6 h0;rw[h0]at c5;have g:=z0v (T:=T) p (fz t) (fz h) (fzs y) (Zr p.bits) (Ys.map fzs) (Ks.map fzs) i (p.s.a[i]'hal) _ _ hlt hA (by omega) (by rw[Yk];exact hY) (by rw[Yk];exact hK) c1 c2 hnl (by omega) _ c3 Q c4 V _ _ c5 c6';refine⟨(i+1,Ys++[Zb1 p h y i Ks],Ks++[(Zea p t h i (Zb1 p h y i Ks)).1]),⟨by dsimp only;omega,by simp[hY],by simp[hK],⟨by dsimp only;rw[Yam,Yc2];omega,fun r hr=>?_,fun r hr=>?_⟩⟩,by dsimp only;omega,?_,?_⟩
    ·rcases Yag.1 hr with hr | hr
     ·exact hKO.row r hr
     ·rw[Ya1.1 hr,s1,hn]
    ·rcases Yag.1 hr with hr | hr
     ·exact hKO.sz r hr
     ·rw[Ya1.1 hr];exact s2
    ·rw[g];simp only[Yb2,Yak,Ya6]
    ·dsimp only;rw[hn2];simp only[if_pos h0]
   ·right;have g:=z4u (T:=T) p (fz t) (fz h) (fzs y) (Zr p.bits) (Ys.map fzs) (Ks.map fzs) i (p.s.a[i]'hal) _ _ hlt hA (by omega) (by rw[Yk];exact hY) (by rw[Yk];exact hK) c1 c2 hnl (by omega) _ c3 Q c4 V _ _ c5 h0;dsimp only;rw[if_neg h0];dsimp only;rw[if_neg h0];exact g
 ·right;have hil:i=p.s.b.length:=by omega
  subst hil;rw[Ybx];unfold Zan;dsimp only;rw[if_pos rfl];exact z9f (T:=T) p (fz t) (fz h) (fzs y) (Zr p.bits) _ _
end
section
variable{T:Tbl}[Z2 T][Zz T][Z8 T][Zx T][Zae T][Zw T][Zag T][Zq T][Z9 T][Zc3 T][Zdo T][Zcy T][Zbb T][Zdf T][Z1 T][Za7 T][Zcg T][Zc6 T]
def zafd(p:Pb)(t h:Fz)(y:List Fz)(L:Nat)(k i a:Int)(c0:Za T 465 [.i .i64 p.bits]=some (.i .i64 L))
  (hlo:Ze T 0 0 (.norm false [3,4,6,8,9,10,11,12]) l530_0 (Zcq p t h y L [] [] 0)=some (Zim k i a)) :
  Za T 530 [epb p,efz t,efz h,.sl (Zb y) .an]=some (.tup [.agg [.sl [] .an,.sl [] .an,.sl [] .an,.sl [] .an],.agg [.i .i64 k,.i .i64 i,.i .i64 a]]):=by
 unfold Zcq Zim at hlo;obtain⟨⟨code,outs,dim,par⟩,⟨nm,cc,a',b,e⟩,pp,bits⟩:=p;obtain⟨t0,t1,t2⟩:=t;obtain⟨g0,g1,g2⟩:=h;dsimp only at *
 rw[show (((0:Nat):Int))=0 from rfl]at hlo;simp only[show Zd []=[] from rfl]at hlo;rw[zaa Z1.h530 rfl,b530];simp -implicitDefEqProofs[c0,hlo]
def zafe(p:Pb)(t h:Fz)(y:List Fz)(L:Nat)(YM KM:List (List Fz))(hbl:p.s.b.length<=100)(lY:YM.length=p.s.b.length)(lK:KM.length=p.s.b.length)(c0:Za T 465 [.i .i64 p.bits]=some (.i .i64 L))
  (hlo:Ze T 0 0 (.norm false [3,4,6,8,9,10,11,12]) l530_0 (Zcq p t h y L [] [] 0)=some (Zf8 p h y L YM KM p.s.b.length))
  (X:List Fz) (n:Nat) (c1:Za T 542 [.sl (Zb y) .an,.sl (Zb p.s.b) .an,.sl (Zd KM) .an,efz h]=some (.sl (Zb X) .an)) (c2:Za T 543 [.sl (Zb X) .an,.i .i64 L]=some (.i .i64 n)) (hX:X.length<=1000) (hn:n<X.length) :
  Za T 530 [epb p,efz t,efz h,.sl (Zb y) .an]=some (.tup [.agg [.sl [] .an,.sl [] .an,.sl [] .an,.sl [] .an],.agg [.i .i64 6,.i .i64 p.s.b.length,.i .i64 (300+(n:Int))]]):=by
 have hn':(n:Int)<X.length:=by omega
 have hw:IntKind.wrap .i64 (300+(n:Int))=300+(n:Int):=zab _ (by omega);unfold Zcq Zf8 at hlo;have wKF:=zai KM;have wYF:=zai YM;have tK:List.take p.s.b.length (Zd KM)=Zd KM:=Ya (by simp[Zd];omega);have tY:List.take p.s.b.length (Zd YM)=Zd YM:=Ya (by simp[Zd];omega);have lKF:(Zd KM).length=p.s.b.length:=by simp[Zd];omega
 have lYF:(Zd YM).length=p.s.b.length:=by simp[Zd];omega
 obtain⟨⟨code,outs,dim,par⟩,⟨nm,cc,a',b,e⟩,pp,bits⟩:=p;obtain⟨t0,t1,t2⟩:=t;obtain⟨g0,g1,g2⟩:=h;dsimp only at *
 rw[show (((0:Nat):Int))=0 from rfl]at hlo;simp only[show Zd []=[] from rfl]at hlo;generalize Zd KM=KF at *
 generalize Zd YM=YF at *
 rw[zaa Z1.h530 rfl,b530];simp -implicitDefEqProofs[c0,hlo,c1,c2,hn,hn',tK,tY,wKF,wYF,lKF,lYF,zcn Z1.h542,hw]
def zaff(p:Pb)(t h:Fz)(y:List Fz)(L:Nat)(YM KM:List (List Fz))(hbl:p.s.b.length<=100)(lY:YM.length=p.s.b.length)(lK:KM.length=p.s.b.length)(c0:Za T 465 [.i .i64 p.bits]=some (.i .i64 L))
  (hlo:Ze T 0 0 (.norm false [3,4,6,8,9,10,11,12]) l530_0 (Zcq p t h y L [] [] 0)=some (Zf8 p h y L YM KM p.s.b.length))
  (X:List Fz) (n:Nat) (c1:Za T 542 [.sl (Zb y) .an,.sl (Zb p.s.b) .an,.sl (Zd KM) .an,efz h]=some (.sl (Zb X) .an)) (c2:Za T 543 [.sl (Zb X) .an,.i .i64 L]=some (.i .i64 n)) (hX:X.length<=1000) (hn:¬ n<X.length) (he:p.s.e=[]) (c3:Za T 543 [.sl [] .an,.i .i64 L]=some (.i .i64 0)) :
  Za T 530 [epb p,efz t,efz h,.sl (Zb y) .an]=some (.tup [.agg [.sl (Zd YM) .an,.sl (Zd KM) .an,.sl (Zb X) .an,.sl [] .an],.agg [.i .i64 0,.i .i64 0,.i .i64 0]]):=by
 have hn':¬ (n:Int)<X.length:=by omega
 unfold Zcq Zf8 at hlo;have wKF:=zai KM;have wYF:=zai YM;have tK:List.take p.s.b.length (Zd KM)=Zd KM:=Ya (by simp[Zd];omega);have tY:List.take p.s.b.length (Zd YM)=Zd YM:=Ya (by simp[Zd];omega);have lKF:(Zd KM).length=p.s.b.length:=by simp[Zd];omega
 have lYF:(Zd YM).length=p.s.b.length:=by simp[Zd];omega
 obtain⟨⟨code,outs,dim,par⟩,⟨nm,cc,a',b,e⟩,pp,bits⟩:=p;obtain⟨t0,t1,t2⟩:=t;obtain⟨g0,g1,g2⟩:=h;dsimp only at *
 rw[show (((0:Nat):Int))=0 from rfl]at hlo;simp only[show Zd []=[] from rfl]at hlo;generalize Zd KM=KF at *
 generalize Zd YM=YF at *
 rw[zaa Z1.h530 rfl,b530];have hE0:e.length=0:=by rw[he];rfl
 simp -implicitDefEqProofs[c0,hlo,c1,c2,hn,hn',tK,tY,wKF,wYF,lKF,lYF,zcn Z1.h542,c3,hE0]
def zafg(p:Pb)(t h:Fz)(y:List Fz)(L:Nat)(YM KM:List (List Fz))(hbl:p.s.b.length<=100)(lY:YM.length=p.s.b.length)(lK:KM.length=p.s.b.length)(c0:Za T 465 [.i .i64 p.bits]=some (.i .i64 L))
  (hlo:Ze T 0 0 (.norm false [3,4,6,8,9,10,11,12]) l530_0 (Zcq p t h y L [] [] 0)=some (Zf8 p h y L YM KM p.s.b.length))
  (X:List Fz) (n:Nat) (c1:Za T 542 [.sl (Zb y) .an,.sl (Zb p.s.b) .an,.sl (Zd KM) .an,efz h]=some (.sl (Zb X) .an)) (c2:Za T 543 [.sl (Zb X) .an,.i .i64 L]=some (.i .i64 n)) (hX:X.length<=1000) (hn:¬ n<X.length) (he:0<p.s.e.length) (hel:p.s.e.length<=100) (hy:y.length<=1000) (Z G X3:List Fz) (n3:Nat) (c3:Za T 276 [.i .i64 (y.length:Int)]=some (.sl (Zb Z) .an)) (c4:Za T 548 [esm p.s]=some (.sl (Zb G) .an))
  (c5:Za T 542 [.sl (Zb Z) .an,.sl (Zb G) .an,.sl (Zd KM) .an,efz h]=some (.sl (Zb X3) .an)) (c6:Za T 543 [.sl (Zb X3) .an,.i .i64 L]=some (.i .i64 n3)) (hX3:X3.length<=1000) (h3:n3<X3.length) :
  Za T 530 [epb p,efz t,efz h,.sl (Zb y) .an]=some (.tup [.agg [.sl [] .an,.sl [] .an,.sl [] .an,.sl [] .an],.agg [.i .i64 6,.i .i64 ((p.s.b.length:Int)+1),.i .i64 (300+(n3:Int))]]):=by
 have hn':¬ (n:Int)<X.length:=by omega
 have he':(0:Int)<p.s.e.length:=by omega
 have h3':(n3:Int)<X3.length:=by omega
 have hw:IntKind.wrap .i64 (300+(n3:Int))=300+(n3:Int):=zab _ (by omega);have hw2:IntKind.wrap .i64 ((p.s.b.length:Int)+1)=(p.s.b.length:Int)+1:=zab _ (by omega);unfold Zcq Zf8 at hlo;have wKF:=zai KM;have wYF:=zai YM;have tK:List.take p.s.b.length (Zd KM)=Zd KM:=Ya (by simp[Zd];omega);have tY:List.take p.s.b.length (Zd YM)=Zd YM:=Ya (by simp[Zd];omega);have lKF:(Zd KM).length=p.s.b.length:=by simp[Zd];omega
 have lYF:(Zd YM).length=p.s.b.length:=by simp[Zd];omega
 obtain⟨⟨code,outs,dim,par⟩,⟨nm,cc,a',b,e⟩,pp,bits⟩:=p;obtain⟨t0,t1,t2⟩:=t;obtain⟨g0,g1,g2⟩:=h;dsimp only at *
 rw[show (((0:Nat):Int))=0 from rfl]at hlo;simp only[show Zd []=[] from rfl]at hlo;generalize Zd KM=KF at *
 generalize Zd YM=YF at *
 rw[zaa Z1.h530 rfl,b530];simp -implicitDefEqProofs[c0,hlo,c1,c2,hn,hn',tK,tY,wKF,wYF,lKF,lYF,zcn Z1.h542,c3,c4,c5,c6,he,he',h3,h3',hw,hw2]
def zafh(p:Pb)(t h:Fz)(y:List Fz)(L:Nat)(YM KM:List (List Fz))(hbl:p.s.b.length<=100)(lY:YM.length=p.s.b.length)(lK:KM.length=p.s.b.length)(c0:Za T 465 [.i .i64 p.bits]=some (.i .i64 L))
  (hlo:Ze T 0 0 (.norm false [3,4,6,8,9,10,11,12]) l530_0 (Zcq p t h y L [] [] 0)=some (Zf8 p h y L YM KM p.s.b.length))
  (X:List Fz) (n:Nat) (c1:Za T 542 [.sl (Zb y) .an,.sl (Zb p.s.b) .an,.sl (Zd KM) .an,efz h]=some (.sl (Zb X) .an)) (c2:Za T 543 [.sl (Zb X) .an,.i .i64 L]=some (.i .i64 n)) (hX:X.length<=1000) (hn:¬ n<X.length) (he:0<p.s.e.length) (hel:p.s.e.length<=100) (hy:y.length<=1000) (Z G X3:List Fz) (n3:Nat) (c3:Za T 276 [.i .i64 (y.length:Int)]=some (.sl (Zb Z) .an)) (c4:Za T 548 [esm p.s]=some (.sl (Zb G) .an))
  (c5:Za T 542 [.sl (Zb Z) .an,.sl (Zb G) .an,.sl (Zd KM) .an,efz h]=some (.sl (Zb X3) .an)) (c6:Za T 543 [.sl (Zb X3) .an,.i .i64 L]=some (.i .i64 n3)) (hX3:X3.length<=1000) (h3:¬ n3<X3.length) :
  Za T 530 [epb p,efz t,efz h,.sl (Zb y) .an]=some (.tup [.agg [.sl (Zd YM) .an,.sl (Zd KM) .an,.sl (Zb X) .an,.sl (Zb X3) .an],.agg [.i .i64 0,.i .i64 0,.i .i64 0]]):=by
 have hn':¬ (n:Int)<X.length:=by omega
 have he':(0:Int)<p.s.e.length:=by omega
 have h3':¬ (n3:Int)<X3.length:=by omega
 unfold Zcq Zf8 at hlo;have wKF:=zai KM;have wYF:=zai YM;have tK:List.take p.s.b.length (Zd KM)=Zd KM:=Ya (by simp[Zd];omega);have tY:List.take p.s.b.length (Zd YM)=Zd YM:=Ya (by simp[Zd];omega);have lKF:(Zd KM).length=p.s.b.length:=by simp[Zd];omega
 have lYF:(Zd YM).length=p.s.b.length:=by simp[Zd];omega
 obtain⟨⟨code,outs,dim,par⟩,⟨nm,cc,a',b,e⟩,pp,bits⟩:=p;obtain⟨t0,t1,t2⟩:=t;obtain⟨g0,g1,g2⟩:=h;dsimp only at *
 rw[show (((0:Nat):Int))=0 from rfl]at hlo;simp only[show Zd []=[] from rfl]at hlo;generalize Zd KM=KF at *
 generalize Zd YM=YF at *
 rw[zaa Z1.h530 rfl,b530];simp -implicitDefEqProofs[c0,hlo,c1,c2,hn,hn',tK,tY,wKF,wYF,lKF,lYF,zcn Z1.h542,c3,c4,c5,c6,he,he',h3,h3']
def z9g{h:Rat}{C:List Fz}{K:List (List Rat)}{n:Nat}(hK:KOk n K)(i:Nat)(hi:i<n):(Zdt h C K n).getD i 0=h*Zfe i (C.zip K) 0:=by
 have e:=znq i C K (List.replicate n 0) (by rw[Yz];exact hi) (fun r hr=>by rw[Yz];exact hK.row r hr);have e0:(List.replicate n (0:Rat)).getD i 0=0:=by
  rw[za7 _ _ (by rw[Yz];exact hi),Yct]
 rw[e0]at e;have h2:i<(Ziu C K n).length:=by rw[zhg hK];exact hi
 have h1:i<(Zdt h C K n).length:=by rw[zea hK];exact hi
 rw[za7 _ _ h1,<-e];exact(show (Zdt h C K n)[i]'h1=h*(Ziu C K n)[i]'h2 from List.getElem_map _).trans (congrArg (h * ·) (za7 (Ziu C K n) 0 h2).symm)
def z4w{h:Rat}{C:List Fz}{K:List (List Rat)}{n:Nat}(hK:KOk n K):Za4 (List.replicate n 0) h C K=Zdt h C K n:=by
 have hK':KOk (List.replicate n (0:Rat)).length K:=by rw[Yz];exact hK
 refine List.ext_getElem (by rw[zdi hK',Yz,zea hK]) fun i h1 h2=>?_;have hi:i<n:=by rw[zea hK]at h2;exact h2
 have a:=z15 (C:=C) (h:=h) hK' i (by rw[Yz];exact hi);rw[za7 _ _ h1,za7 _ _ (by rw[Yz];exact hi),Yct]at a;have b:=z9g (C:=C) (h:=h) hK i hi;rw[za7 _ _ h2]at b;rw[a,b,Rat.zero_add]
def z4x(p:Pb)(t h:Rat)(y:List Rat)(hp:PbS p)(hok:okP p=true)(hb:p.s.b.length<=3)(hd:(y.length:Int)=p.t.dim)(ht:sz t<=500)(hh:sz h<=20)(hy:∀q∈y,sz q<=400) :
  Za T 530 [epb p,efz (fz t),efz (fz h),.sl (Zb (fzs y)) .an]=some (.tup [emd (doQ p t h y).1,.agg [.i .i64 (doQ p t h y).2.1,.i .i64 (doQ p t h y).2.2.1,.i .i64 (doQ p t h y).2.2.2]]):=by
 have hlo:=z4v (T:=T) p t h y hp hok hb hd ht hh hy;have hok2:=hok;unfold okP at hok2;simp only[Yh,decide_eq_true_eq]at hok2;obtain⟨⟨hokT,hokS⟩,_⟩:=hok2;have hO:=(zcq p.t).1 hokT;obtain⟨H,_⟩:=zf2 hokS;have hn:p.t.outs.length=y.length:=by have:=hO.ol;omega
 have hyl:y.length<=300:=by have:=hO.d2;omega
 obtain⟨hl1,hl2⟩:=zhd p.bits;have c0:=zrl (T:=T) p.bits;rw[hl1]at c0;have hst:=zis (p:=p) (t:=t) (h:=h) (y:=y) hn hb p.s.b.length 0 [] [] (by omega) rfl rfl ⟨by simp,by simp,by simp⟩;have hze:emd Zmt=.agg [.sl [] .an,.sl [] .an,.sl [] .an,.sl [] .an]:=rfl;unfold doQ;generalize Zan p t h y p.s.b.length 0 [] []=R at *
 obtain⟨⟨Ys,Ks⟩,k,i,a⟩:=R;dsimp only at *
 by_cases h0:k=0
 case neg=>
  rw[if_neg h0]at hlo;rw[if_pos h0];dsimp only;rw[hze];exact zafd (T:=T) p _ _ _ _ _ _ _ c0 hlo
 rw[if_pos h0]at hlo;rw[if_neg (by simpa using h0)];obtain⟨l1,l2,hKO,hz⟩:=hst h0;have hbs:=znh H.nb;have hbz:=zc9 H.nb;have hez:=zc9 H.ne;have hbq:∀c∈p.s.b.map fv,sz c<=20:=fun c hc=>by
  obtain⟨u,hu,rfl⟩:=Yl.1 hc;exact za2 (Yd (hbz u hu) (by decide)) (by decide)
 have c1:=zhx (T:=T) y (p.s.b.map fv) Ks h (by rw[Yk];omega) hKO hbq hh hy hyl;rw[<-hbs]at c1;have hxl:(Za4 y h p.s.b Ks).length=y.length:=zdi hKO;have hxz:∀q∈Za4 y h p.s.b Ks,sz q<=900:=zk0 hKO (fun x hx=>Yd (hbz x hx) (by decide)) hh hy;have c2:=zhb (T:=T) (Za4 y h p.s.b Ks) (Zr p.bits) (by omega) (fun q hq=>Yd (hxz q hq) (by decide));have lY:(Ys.map fzs).length=p.s.b.length:=by rw[Yk];exact l1
 have lK:(Ks.map fzs).length=p.s.b.length:=by rw[Yk];exact l2
 have hXl:(fzs (Za4 y h p.s.b Ks)).length=y.length:=by rw[zae,hxl]
 cases hf:Z7 (Zr p.bits) (Za4 y h p.s.b Ks) 0 with
 | some k1=>
  rw[hf]at c2;simp only[Ydd]at c2;have:=zev hf;dsimp only;rw[hze];have g:=zafe (T:=T) p _ _ _ _ _ _ (by omega) lY lK c0 hlo _ _ c1 c2 (by omega) (by omega);simpa using g
 | none=>
  rw[hf]at c2;simp only[Yew]at c2;dsimp only;by_cases he:p.s.e=[]
  ·have hg:Zfy p.s=[]:=by unfold Zfy;rw[if_neg (fun q=>q.2 he)]
   have hE:Zl2 p h y Ks=[]:=by unfold Zl2;rw[if_pos hg]
   rw[hE];have c3:=zhb (T:=T) [] (Zr p.bits) (by simp) (by simp);rw[show Z7 (Zr p.bits) [] 0=none from rfl];dsimp only;exact zaff (T:=T) p _ _ _ _ _ _ (by omega) lY lK c0 hlo (fzs (Za4 y h p.s.b Ks)) _ c1 c2 (by omega) (by omega) he c3
  ·have hel:p.s.e.length=p.s.b.length:=by
    rcases H.el with h | h
    ·exact h
    ·exact absurd (Yaj h) he
   have hb1:=H.b1;have hg:Zfy p.s=Zfd p.s.b p.s.e:=by unfold Zfy;rw[if_pos ⟨hokS,he⟩]
   have hgl:(Zfd p.s.b p.s.e).length=p.s.b.length/\∀x∈Zfd p.s.b p.s.e,fsz x<=20:=by
    refine⟨?_,fun x hx=>?_⟩
    ·unfold Zfd Zjx Zff fzs;simp[hel]
    ·obtain⟨v,hv,rfl⟩:=Yl.1 hx;have:=z16 (A:=6) (B:=7) (fun q hq=>by obtain⟨u,hu,rfl⟩:=Yl.1 hq;exact za2 (hbz u hu) (by decide)) (zr0 (C:=1) (B:=6) (zka (by decide) (by decide)) fun q hq=>by obtain⟨u,hu,rfl⟩:=Yl.1 hq;exact za2 (hez u hu) (by decide)) v hv;rw[zax];omega
   have hgn:Zfy p.s≠[]:=by
    rw[hg];intro h;have:=hgl.1;rw[h]at this;simp at this;omega
   have hE:Zl2 p h y Ks=Zdt h (Zfd p.s.b p.s.e) Ks y.length:=by unfold Zl2;rw[if_neg hgn,hg]
   rw[hE];have c3:=zvo (T:=T) y.length hyl;have ez:List.replicate y.length (fz 0)=fzs (List.replicate y.length 0):=by simp[fzs]
   rw[ez]at c3;have c4:=z0u (T:=T) p.s (p.s.b.map fv) (p.s.e.map fv) hbs (znh H.ne) (by rw[Yk,Yk];omega) (by rw[Yk];omega) (fun q hq=>by
    obtain⟨u,hu,rfl⟩:=Yl.1 hq;exact Yd (za2 (hbz u hu) (by decide)) (by decide)) (fun q hq=>by
    obtain⟨u,hu,rfl⟩:=Yl.1 hq;exact Yd (za2 (hez u hu) (by decide)) (by decide))
   have hKO':KOk (List.replicate y.length (0:Rat)).length Ks:=by rw[Yz];exact hKO
   have hgs:Zfd p.s.b p.s.e=fzs ((Zfd p.s.b p.s.e).map fv):=by
    unfold Zfd;rw[zff]
   have c5:=zhx (T:=T) (List.replicate y.length 0) ((Zfd p.s.b p.s.e).map fv) Ks h (by rw[Yk,hgl.1];omega) hKO' (fun c hc=>by
    obtain⟨u,hu,rfl⟩:=Yl.1 hc;exact za2 (hgl.2 u hu) (by decide)) hh (fun q hq=>by rw[(List.mem_replicate.1 hq).2,zh4];decide) (by rw[Yz];exact hyl)
   rw[<-hgs,z4w hKO]at c5;have hel3:(Zdt h (Zfd p.s.b p.s.e) Ks y.length).length=y.length:=zea hKO;have c6:=zhb (T:=T) (Zdt h (Zfd p.s.b p.s.e) Ks y.length) (Zr p.bits) (by omega) (fun q hq=>Yd (znr hKO hgl.2 hh q hq) (by decide));have hXl3:(fzs (Zdt h (Zfd p.s.b p.s.e) Ks y.length)).length=y.length:=by rw[zae,hel3]
   have c3':Za T 276 [.i .i64 ((fzs y).length:Int)]=some (.sl (Zb (fzs (List.replicate y.length 0))) .an):=by rw[zae];exact c3
   cases hf2:Z7 (Zr p.bits) (Zdt h (Zfd p.s.b p.s.e) Ks y.length) 0 with
   | some k1=>
    rw[hf2]at c6;simp only[Ydd]at c6;have:=zev hf2;dsimp only;rw[hze];have g:=zafg (T:=T) p _ _ _ _ _ _ (by omega) lY lK c0 hlo _ _ c1 c2 (by omega) (by omega) (by omega) (by omega) (by rw[zae];omega) _ _ _ _ c3' c4 c5 c6 (by omega) (by omega);simpa using g
   | none=>
    rw[hf2]at c6;simp only[Yew]at c6;dsimp only;exact zafh (T:=T) p _ _ _ _ _ _ (by omega) lY lK c0 hlo (fzs (Za4 y h p.s.b Ks)) _ c1 c2 (by omega) (by omega) (by omega) (by omega) (by rw[zae];omega) _ _ (fzs (Zdt h (Zfd p.s.b p.s.e) Ks y.length)) _ c3' c4 c5 c6 (by omega) (by omega)
end
def Zjr(h:Hs)(k:Int)(i:Nat):St:=
 ⟨[(4,.ptr (.loc 4) 1 4 0 0),(5,.ptr (.loc 5) 2 4 0 0),(6,.sl (Zb (Zcb h)) .an),(7,.sl (Zd (Zb8 h)) .an),(8,.sl (Zcl (Za2 k (Zaa h).length)) .an),(9,.i .i64 (i:Int))],
  [(.loc 4,⟨1,.str,4,[[.i .i64 0,.sl [] .an,.sl [] .an,.sl [] .an]]⟩),(.loc 5,⟨2,.str,4,[[.i .i64 (Zaj k),.sl (Zb (Zaa h)) .an,.bs (.fld (.loc 5) 2) 3 3 0 i,.bs (.fld (.loc 5) 3) 4 1 0 i]]⟩),
   (.fld (.loc 5) 2,⟨3,.own,3,Zb ((tsK h k).take i)⟩),(.fld (.loc 5) 3,⟨4,.own,1,Zd ((ysK h k).take i)⟩)],6⟩
section
variable{T:Tbl}[Z2 T][Zu T][Zy T][Z0 T][Zt T][Zp T][Zi T][Zl T][Zs T][Zad T][Zap T][Zc5 T][Zah T][Zaf T][Zbl T][Zas T][Zd7 T][Za9 T][Zbd T][Zba T][Zbt T]
variable[Zz T][Z8 T][Zx T][Zae T][Zw T][Zag T][Zq T][Z9 T][Zc3 T][Zgm T][Zdd T][Zcx T][Zdz T][Zij T][Ze9 T][Zby T][Ze2 T][Zgn T][Zdn T][Zaz T]
def zv5(h:Hs)(k:Int)(i m:Nat)(x:Fz)(r:List Fz)(hm:(Za2 k (Zaa h).length)[i]? = some m)(hx:(Zcb h)[m]? = some x)(hr:(Zb8 h)[m]? = some r) :
  evX (orc T) T 0 l501_0 (Zjr h k i)=some (.n,Zjr h k (i+1)):=by
 have hlen:=zg3 k (Zaa h).length;have et:(tsK h k).take (i+1)=(tsK h k).take i++[x]:=by
  unfold tsK;rw[Ybf,Yaf,hm,Ybr,hx]
  rfl
 have ey:(ysK h k).take (i+1)=(ysK h k).take i++[r]:=by
  unfold ysK;rw[Ybf,Yaf,hm,Ybr,hr]
  rfl
 obtain⟨hi,hge⟩:=Yc.1 hm;have hi':(i:Int)<((Za2 k (Zaa h).length).length:Int):=by omega
 have hws:=zaw hi (by omega);have hl1:(tsK h k).length=(Za2 k (Zaa h).length).length:=by simp[tsK]
 have hl2:(ysK h k).length=(Za2 k (Zaa h).length).length:=by simp[ysK]
 have l1:((tsK h k).take i).length=i:=by rw[Y3];omega
 have l2:((ysK h k).take i).length=i:=by rw[Y3];omega
 have p1:=za6 (m:=(tsK h k).take i) l1 x;have p2:=zdz (m:=(ysK h k).take i) l2 r;have hb:i<=4294967295:=by omega
 obtain⟨g1,g2⟩:=Yc.1 hx;obtain⟨g3,g4⟩:=Yc.1 hr;have g1':(m:Int)<((Zcb h).length:Int):=by omega
 have g3':(m:Int)<((Zb8 h).length:Int):=by omega
 unfold Zjr;rw[et,ey];generalize (tsK h k).take i=A at *
 generalize (ysK h k).take i=B at *
 generalize Za2 k (Zaa h).length=M at *
 generalize Zcb h=NT at *
 generalize Zb8 h=NY at *
 obtain⟨x0,x1,x2⟩:=x;simp -implicitDefEqProofs[l501_0,hi,hi',hm,hge,hws,hx,g1,g1',g2,hr,g3,g3',g4,l1,l2,p1,p2,hb]
def z40(h:Hs)(k:Int)(hs:HsS h 1000):Za T 501 [ehs (Zf9 h),.i .i64 k]=some (ekp (ofK h k)):=by
 have hlN:(Zf9 h).l.length<=1000:=by unfold Zf9;dsimp only;rw[Yk];exact hs.len
 have c1:=zrr (T:=T) (Zf9 h) hlN;rw[zni]at c1;rw[show (Zc1 h.l).map (·.h)=Zaa h from rfl]at c1;have c2:=zrq (T:=T) (Zf9 h) hlN;rw[zafi,zafj]at c2;have c3:=zpy (T:=T) k;have c4:=zki (T:=T) (Zaa h).length k;have hlen:=zg3 k (Zaa h).length;have hl1:(tsK h k).length=(Za2 k (Zaa h).length).length:=by simp[tsK]
 have hl2:(ysK h k).length=(Za2 k (Zaa h).length).length:=by simp[ysK]
 have hlo:Ze T 0 0 (.norm false [4,5]) l501_0 (Zjr h k 0)=some (.n,⟨[(4,.ptr (.loc 4) 1 4 0 0),(5,.ptr (.loc 5) 2 4 0 0)],
   [(.loc 4,⟨1,.str,4,[[.i .i64 0,.sl [] .an,.sl [] .an,.sl [] .an]]⟩),(.loc 5,⟨2,.str,4,[[.i .i64 (Zaj k),.sl (Zb (Zaa h)) .an,.bs (.fld (.loc 5) 2) 3 3 0 (Za2 k (Zaa h).length).length,.bs (.fld (.loc 5) 3) 4 1 0 (Za2 k (Zaa h).length).length]]⟩),
    (.fld (.loc 5) 2,⟨3,.own,3,Zb (tsK h k)⟩),(.fld (.loc 5) 3,⟨4,.own,1,Zd (ysK h k)⟩)],6⟩):=by
  refine zag (Zjr h k) (Za2 k (Zaa h).length).length _ (fun i hi=>?_) ?_
  ·obtain⟨m,hm⟩:∃m,(Za2 k (Zaa h).length)[i]? = some m:=⟨_,Yb hi⟩;have hml:=zy6 hm;have n1:(Zcb h).length=(Zaa h).length+1:=by simp[Zcb,Zaa]
   have n2:(Zb8 h).length=(Zaa h).length+1:=by simp[Zb8,Zaa]
   obtain⟨x,hx⟩:∃x,(Zcb h)[m]? = some x:=⟨_,Yb (by omega)⟩;obtain⟨r,hr⟩:∃r,(Zb8 h)[m]? = some r:=⟨_,Yb (by omega)⟩;exact zv5 (T:=T) h k i m x r hm hx hr
  ·have e1:(tsK h k).take (Za2 k (Zaa h).length).length=tsK h k:=Ya (by omega);have e2:(ysK h k).take (Za2 k (Zaa h).length).length=ysK h k:=Ya (by omega);unfold Zjr;rw[e1,e2];generalize Za2 k (Zaa h).length=M at *
   generalize Zcb h=NT at *
   generalize Zb8 h=NY at *
   generalize tsK h k=A at *
   generalize ysK h k=B at *
   constructor<;>simp -implicitDefEqProofs[l501_0]
 unfold Zjr at hlo;simp only[Yaz,show Zb []=[] from rfl,show Zd []=[] from rfl,show (((0:Nat):Int))=0 from rfl]at hlo;have t1:List.take (Za2 k (Zaa h).length).length (Zb (tsK h k))=Zb (tsK h k):=Ya (by rw[zex];omega);have t2:List.take (Za2 k (Zaa h).length).length (Zd (ysK h k))=Zd (ysK h k):=Ya (by rw[zbr];omega);have n1:(Zcl (Za2 k (Zaa h).length)).length=(Za2 k (Zaa h).length).length:=zbz _;have hzl:(Zb (Zaa h)).length=(Zaa h).length:=by simp
 unfold ofK;generalize Za2 k (Zaa h).length=M at *
 generalize Zcb h=NT at *
 generalize Zb8 h=NY at *
 generalize tsK h k=A at *
 generalize ysK h k=B at *
 generalize Zaa h=Z at *
 clear hs hlN;generalize Zf9 h=NH at *
 obtain⟨L,⟨t1',t2',t3'⟩,y⟩:=NH;rw[zaa Zaz.h501 rfl,b501];simp -implicitDefEqProofs[c1,c2,c3,c4,hlo,t1,t2,hl1,hl2]
end
abbrev Zns(c:Kp):List AV:=[.i .i64 c.ev,.sl (Zb c.sz) .an,.sl (Zb c.ts) .an,.sl (Zd c.ys) .an]
def Zht(p:Pb)(c:Kp)(tm:Fz):Heap:=[(.loc 4,⟨1,.str,11,[Zlh p]⟩),(.loc 5,⟨2,.str,4,[Zns c]⟩),(.loc 9,⟨3,.str,4,[[.i .i64 0,.i .i64 0,.i .i64 0,.i .i64 0]]⟩),(.loc 10,⟨4,.str,3,[Zau tm]⟩)]
def Zj0(p:Pb)(c:Kp)(N:Nat)(tm:Fz)(y:List Fz)(i:Nat):St:=
 ⟨[(3,.i .i64 N),(4,.ptr (.loc 4) 1 11 0 0),(5,.ptr (.loc 5) 2 4 0 0),(9,.ptr (.loc 9) 3 4 0 0),(10,.ptr (.loc 10) 4 3 0 0),(11,.sl (Zb y) .an),(12,.sl [[.sl (Zb y) .an]] .fu),(13,.i .i64 i)],Zht p c tm,6⟩
def Zjs(p:Pb)(c:Kp)(N:Nat)(tm:Fz)(y:List Fz)(out:List (List Fz))(i:Nat):St:=
 ⟨[(3,.i .i64 N),(4,.ptr (.loc 4) 1 11 0 0),(5,.ptr (.loc 5) 2 4 0 0),(9,.ptr (.loc 9) 3 4 0 0),(10,.ptr (.loc 10) 4 3 0 0),(11,.sl (Zb y) .an),(12,.bs (.loc 79) 5 1 0 out.length),(13,.i .i64 i)],Zht p c tm++[(.loc 79,⟨5,.own,1,Zd out⟩)],7⟩
def enB(k s i a:Int):Ex×St:=(.r,⟨[(8,.sl [] .an),(9,.ptr (.loc 9) 1 4 0 0)],[(.loc 9,⟨1,.str,4,[[.i .i64 k,.i .i64 s,.i .i64 i,.i .i64 a]]⟩)],3⟩)
def Zoq(y:List Fz):Ex×St:=(.n,⟨[(9,.ptr (.loc 9) 1 4 0 0),(12,.sl [[.sl (Zb y) .an]] .an)],[(.loc 9,⟨1,.str,4,[[.i .i64 0,.i .i64 0,.i .i64 0,.i .i64 0]]⟩)],3⟩)
def Zor(out:List (List Fz)):Ex×St:=(.n,⟨[(9,.ptr (.loc 9) 1 4 0 0),(12,.bs (.loc 79) 2 1 0 out.length)],[(.loc 9,⟨1,.str,4,[[.i .i64 0,.i .i64 0,.i .i64 0,.i .i64 0]]⟩),(.loc 79,⟨2,.own,1,Zd out⟩)],4⟩)
section
variable{T:Tbl}[Z2 T][Zz T][Z8 T][Zx T][Zae T][Zw T][Zag T][Zq T][Z9 T][Zc3 T][Zdo T][Zcy T][Zbb T][Zdf T][Z1 T][Za7 T][Zcg T][Zc6 T][Zaz T]
def z41(p:Pb)(c:Kp)(N i:Nat)(tm h h1 t1:Fz)(y nx:List Fz)(hH:c.sz[i]? = some h)(hN:i+1<N)(hN2:N<=1000)(e1 e2 e3:List (List AV))(c0:Za T 231 [efz h]=some (efz h1))
  (c1:Za T 530 [epb p,efz tm,efz h1,.sl (Zb y) .an]=some (.tup [.agg [.sl e1 .an,.sl e2 .an,.sl (Zb nx) .an,.sl e3 .an],.agg [.i .i64 0,.i .i64 0,.i .i64 0]])) (c2:Za T 239 [efz tm,efz h1]=some (efz t1)) :
  evX (orc T) T 0 l509_0 (Zj0 p c N tm y i)=some (.n,Zjs p c N t1 nx [y,nx] (i+1)):=by
 obtain⟨hlt,hge⟩:=Yc.1 hH;have hlt':(i:Int)<(c.sz.length:Int):=by omega
 have hw:IntKind.wrap .i64 ((i:Int)+1)=(i:Int)+1:=zab _ (by omega);have hN':(i:Int)+1<(N:Int):=by omega
 have hm:Zd [y,nx]=[[.sl (Zb y) .an],[.sl (Zb nx) .an]]:=rfl;unfold Zj0 Zjs Zht;rw[hm];obtain⟨⟨code,outs,dim,par⟩,⟨nm,cc,a1,b,e⟩,pp,bits⟩:=p;obtain⟨ev,S,ts,ys⟩:=c;obtain⟨m0,m1,m2⟩:=tm;obtain⟨h0,h3,h2⟩:=h;obtain⟨g0,g1,g2⟩:=h1;obtain⟨t0,t2,t3⟩:=t1;dsimp only at *
 simp -implicitDefEqProofs[l509_0,hH,hlt,hlt',hge,hw,hN',c0,c1,c2]
def z9h(p:Pb)(c:Kp)(N i:Nat)(tm h h1 t1:Fz)(y nx:List Fz)(out:List (List Fz))(hH:c.sz[i]? = some h)(hN:i+1<N)(hN2:N<=1000)(ho:out.length<=2000)(e1 e2 e3:List (List AV))(c0:Za T 231 [efz h]=some (efz h1))
  (c1:Za T 530 [epb p,efz tm,efz h1,.sl (Zb y) .an]=some (.tup [.agg [.sl e1 .an,.sl e2 .an,.sl (Zb nx) .an,.sl e3 .an],.agg [.i .i64 0,.i .i64 0,.i .i64 0]])) (c2:Za T 239 [efz tm,efz h1]=some (efz t1)) :
  evX (orc T) T 0 l509_0 (Zjs p c N tm y out i)=some (.n,Zjs p c N t1 nx (out++[nx]) (i+1)):=by
 obtain⟨hlt,hge⟩:=Yc.1 hH;have hlt':(i:Int)<(c.sz.length:Int):=by omega
 have hw:IntKind.wrap .i64 ((i:Int)+1)=(i:Int)+1:=zab _ (by omega);have hN':(i:Int)+1<(N:Int):=by omega
 have hm:=zfi out nx;have h3':(out++[nx]).length=out.length+1:=by simp
 have h4:out.length+1<=4294967296:=by omega
 have ht:List.take out.length (Zd out)=Zd out:=Ya (by rw[zbr];exact Ye _);have w1:=zai (out++[nx]);have l1:=zbr out;unfold Zjs Zht;rw[h3'];generalize Zd (out++[nx])=R1 at *
 generalize Zd out=R0 at *
 obtain⟨⟨code,outs,dim,par⟩,⟨nm,cc,a1,b,e⟩,pp,bits⟩:=p;obtain⟨ev,S,ts,ys⟩:=c;obtain⟨m0,m1,m2⟩:=tm;obtain⟨h0,h3,h2⟩:=h;obtain⟨g0,g1,g2⟩:=h1;obtain⟨t0,t2,t3⟩:=t1;dsimp only at *
 simp -implicitDefEqProofs[l509_0,hH,hlt,hlt',hge,hw,hN',c0,c1,c2,hm,h4,ht,w1,l1]
def z9i(p:Pb)(c:Kp)(N i:Nat)(tm h h1:Fz)(y:List Fz)(hH:c.sz[i]? = some h)(hN:i+1<N)(hN2:N<=1000)(e1 e2 e3 e4:List (List AV))(k st a:Int)(hk:k≠0)(c0:Za T 231 [efz h]=some (efz h1))
  (c1:Za T 530 [epb p,efz tm,efz h1,.sl (Zb y) .an]=some (.tup [.agg [.sl e1 .an,.sl e2 .an,.sl e4 .an,.sl e3 .an],.agg [.i .i64 k,.i .i64 st,.i .i64 a]])) :
  evX (orc T) T 0 l509_0 (Zj0 p c N tm y i)=some (enB k (i+1) st a):=by
 obtain⟨hlt,hge⟩:=Yc.1 hH;have hlt':(i:Int)<(c.sz.length:Int):=by omega
 have hw:IntKind.wrap .i64 ((i:Int)+1)=(i:Int)+1:=zab _ (by omega);have hN':(i:Int)+1<(N:Int):=by omega
 unfold Zj0 Zht enB;obtain⟨⟨code,outs,dim,par⟩,⟨nm,cc,a1,b,e⟩,pp,bits⟩:=p;obtain⟨ev,S,ts,ys⟩:=c;obtain⟨m0,m1,m2⟩:=tm;obtain⟨h0,h3,h2⟩:=h;obtain⟨g0,g1,g2⟩:=h1;dsimp only at *
 simp -implicitDefEqProofs[l509_0,hH,hlt,hlt',hge,hw,hN',c0,c1,hk]
def zafk(p:Pb)(c:Kp)(N i:Nat)(tm h h1:Fz)(y:List Fz)(out:List (List Fz))(hH:c.sz[i]? = some h)(hN:i+1<N)(hN2:N<=1000)(e1 e2 e3 e4:List (List AV))(k st a:Int)(hk:k≠0)(c0:Za T 231 [efz h]=some (efz h1))
  (c1:Za T 530 [epb p,efz tm,efz h1,.sl (Zb y) .an]=some (.tup [.agg [.sl e1 .an,.sl e2 .an,.sl e4 .an,.sl e3 .an],.agg [.i .i64 k,.i .i64 st,.i .i64 a]])) :
  evX (orc T) T 0 l509_0 (Zjs p c N tm y out i)=some (enB k (i+1) st a):=by
 obtain⟨hlt,hge⟩:=Yc.1 hH;have hlt':(i:Int)<(c.sz.length:Int):=by omega
 have hw:IntKind.wrap .i64 ((i:Int)+1)=(i:Int)+1:=zab _ (by omega);have hN':(i:Int)+1<(N:Int):=by omega
 have wo:=zai out;unfold Zjs Zht enB;generalize Zd out=R0 at *
 obtain⟨⟨code,outs,dim,par⟩,⟨nm,cc,a1,b,e⟩,pp,bits⟩:=p;obtain⟨ev,S,ts,ys⟩:=c;obtain⟨m0,m1,m2⟩:=tm;obtain⟨h0,h3,h2⟩:=h;obtain⟨g0,g1,g2⟩:=h1;dsimp only at *
 simp -implicitDefEqProofs[l509_0,hH,hlt,hlt',hge,hw,hN',c0,c1,hk,wo]
def zafl(p:Pb)(c:Kp)(N i:Nat)(tm:Fz)(y:List Fz)(hN:¬ i+1<N)(hi:i<=1000):Zb6 (evX (orc T) T 0 l509_0 (Zj0 p c N tm y i))=true /\
  Zbs 0 0 (.norm false [9,12]) (evX (orc T) T 0 l509_0 (Zj0 p c N tm y i))=some (Zoq y):=by
 have hw:IntKind.wrap .i64 ((i:Int)+1)=(i:Int)+1:=zab _ (by omega);have hN':¬ (i:Int)+1<(N:Int):=by omega
 unfold Zj0 Zht Zoq;obtain⟨⟨code,outs,dim,par⟩,⟨nm,cc,a1,b,e⟩,pp,bits⟩:=p;obtain⟨ev,S,ts,ys⟩:=c;obtain⟨m0,m1,m2⟩:=tm;constructor<;>simp -implicitDefEqProofs[l509_0,hw,hN']
def zaot(p:Pb)(c:Kp)(N i:Nat)(tm:Fz)(y:List Fz)(out:List (List Fz))(hN:¬ i+1<N)(hi:i<=1000):Zb6 (evX (orc T) T 0 l509_0 (Zjs p c N tm y out i))=true /\
  Zbs 0 0 (.norm false [9,12]) (evX (orc T) T 0 l509_0 (Zjs p c N tm y out i))=some (Zor out):=by
 have hw:IntKind.wrap .i64 ((i:Int)+1)=(i:Int)+1:=zab _ (by omega);have hN':¬ (i:Int)+1<(N:Int):=by omega
 have wo:=zai out;unfold Zjs Zht Zor;generalize Zd out=R0 at *
 obtain⟨⟨code,outs,dim,par⟩,⟨nm,cc,a1,b,e⟩,pp,bits⟩:=p;obtain⟨ev,S,ts,ys⟩:=c;obtain⟨m0,m1,m2⟩:=tm;constructor<;>simp -implicitDefEqProofs[l509_0,hw,hN',wo]
end
section
variable{T:Tbl}[Z2 T][Zu T][Zy T][Z0 T][Zt T][Zp T][Zi T][Zl T][Zs T][Zet T][Zad T][Zap T][Zc5 T][Zah T][Zaf T][Zbl T][Zas T][Zd7 T][Za9 T][Zbd T][Zba T][Zbt T][Zgo T][Zde T][Zal T][Zgp T][Zeu T][Zai T][Zar T]
def zm6(p:Pb)(c:Kp)(f t:Int)(hp:PbS p)(hl:c.sz.length<=1000)(hw:∀x∈c.sz,fsz x<=10000)(hA:okP p=true)(hB:Zev c=true)(hC:Zd8 c f t=true)(e j F N:Nat)(he:c.ev=e)(he1:1<=e)(hf:f=F)(hFj:F=j*e)(hj:j<c.ts.length)(hj2:j<c.ys.length)
  (y:List Fz) (hy:c.ys[j]? = some y) (x:Fz) (hx:c.ts[j]? = some x) (he2:e<=200) (hF2:F<=200) (hd:(y.length:Int)≠p.t.dim) :
  Za T 506 [epb p,ekp c,.agg [.i .i64 f,.i .i64 t]]=some (.tup [.sl [] .an,Zb9 2 0 0 0]):=by
 have c1:=zf5 (T:=T) p hp;have c2:=zfv (T:=T) c hl hw;have c3:=zht (T:=T) c f t (by omega);rw[hA]at c1;rw[hB]at c2;rw[hC]at c3;obtain⟨_,g1⟩:=Yc.1 hy;obtain⟨_,g2⟩:=Yc.1 hx;have hq:(F:Int).tdiv (e:Int)=(j:Int):=by
  rw[hFj]
  push_cast
  exact Yd8 _ (by omega)
 have hwj:IntKind.wrap .i64 (j:Int)=(j:Int):=zab _ (by
  have:j<=j*e:=Ybc j he1;omega)
 have he0:¬ (e:Int)=0:=by omega
 have he00:¬ e=0:=by omega
 have hj':(j:Int)<(c.ts.length:Int):=by omega
 have hj2':(j:Int)<(c.ys.length:Int):=by omega
 rw[zaa Zar.h506 rfl,b506];clear hp hl hw hA hB hC hFj;subst hf;obtain⟨⟨code,outs,dim,par⟩,⟨nm,cc,a1,b,e'⟩,pp,bits⟩:=p;obtain⟨ev,S,ts,ys⟩:=c;dsimp only at *
 subst he;obtain⟨x0,x1,x2⟩:=x;simp -implicitDefEqProofs[c1,c2,c3,hq,hwj,he0,he00,hj,hj',hj2,hj2',hy,hx,g1,g2,hd]
def zpa(p:Pb)(c:Kp)(f t:Int)(hp:PbS p)(hl:c.sz.length<=20)(hw:∀x∈c.sz,fsz x<=12)(hA:okP p=true)(hB:Zev c=true)(hC:Zd8 c f t=true)(e j F N:Nat)(he:c.ev=e)(he1:1<=e)(hf:f=F)(hFj:F=j*e)(hFl:F<c.sz.length)(ht:t=N)(hFN:F<N)(hNl:N<=c.sz.length)(hj:j<c.ts.length)(hj2:j<c.ys.length)
  (y:List Fz) (hy:c.ys[j]? = some y) (x:Fz) (hx:c.ts[j]? = some x) (hd:(y.length:Int)=p.t.dim) (hb:p.s.b.length<=3) (hxs:fsz x<=200) (hys:∀u∈y,fsz u<=300) :
  Za T 506 [epb p,ekp c,.agg [.i .i64 f,.i .i64 t]]=some (if (anQ p (((c.sz.take (N-1)).drop F).map fv) 0 (fv x) (y.map fv)).2.1=0 then .tup [.sl (Zd (fzs (y.map fv)::(anQ p (((c.sz.take (N-1)).drop F).map fv) 0 (fv x) (y.map fv)).1.map fzs)) .an,Zb9 0 0 0 0]
   else .tup [.sl [] .an,Zb9 (anQ p (((c.sz.take (N-1)).drop F).map fv) 0 (fv x) (y.map fv)).2.1 ((F:Int)+((anQ p (((c.sz.take (N-1)).drop F).map fv) 0 (fv x) (y.map fv)).2.2.1:Int)+1) (anQ p (((c.sz.take (N-1)).drop F).map fv) 0 (fv x) (y.map fv)).2.2.2.1 (anQ p (((c.sz.take (N-1)).drop F).map fv) 0 (fv x) (y.map fv)).2.2.2.2]):=by
 have c1:=zf5 (T:=T) p hp;have c2:=zfv (T:=T) c (by omega) (fun u hu=>Yd (hw u hu) (by decide));have c3:=zht (T:=T) c f t (by omega);rw[hA]at c1;rw[hB]at c2;rw[hC]at c3;have hok2:=hA;unfold okP at hok2;simp only[Yh,decide_eq_true_eq]at hok2;have hdm:=((zcq p.t).1 hok2.1.1).d2;have c4:=zm0 (T:=T) 1 (by decide) (by decide);rw[show ((1:Int):Rat)=1 from rfl]at c4;have c5:=zhc (T:=T) (fz 1) (by decide +kernel) y (by omega) (fun u hu=>Yd (hys u hu) (by decide));have e5:scl (fv (fz 1)) y=fzs (y.map fv):=by
  unfold scl fzs;rw[Ybh];refine Yd3 fun u _=>?_;show fz (fv (fz 1)*fv u)=fz (fv u);rw[zb6,Rat.one_mul]
 rw[e5]at c5;have hyl:(fzs (y.map fv)).length=y.length:=by rw[zae,Yk]
 have hyv:(fzs (y.map fv)).map fv=y.map fv:=zff _;obtain⟨r,hr,hlo⟩:=z8l (T:=T) p f t x (fzs (y.map fv)) ((c.sz.take (N-1)).drop F) hp hA hb (by rw[hyl];exact hd) (by omega) hxs (fun u hu=>by
  obtain⟨v,hv,rfl⟩:=Yl.1 hu;obtain⟨z,hz,rfl⟩:=Yl.1 hv;have:=za2 (hys z hz) (by decide);rw[zax];omega) (fun u hu=>hw u (Yay (Yc7 hu))) (by rw[Ybv,Y3];omega)
 rw[hyv]at hr;obtain⟨_,g1⟩:=Yc.1 hy;obtain⟨_,g2⟩:=Yc.1 hx;have hq:(F:Int).tdiv (e:Int)=(j:Int):=by
  rw[hFj]
  push_cast
  exact Yd8 _ (by omega)
 have hwj:IntKind.wrap .i64 (j:Int)=(j:Int):=zab _ (by
  have:j<=j*e:=Ybc j he1;omega)
 have he0:¬ (e:Int)=0:=by omega
 have he00:¬ e=0:=by omega
 have hj':(j:Int)<(c.ts.length:Int):=by omega
 have hj2':(j:Int)<(c.ys.length:Int):=by omega
 have hn1:IntKind.wrap .i64 ((N:Int)-1)=((N-1:Nat):Int):=by rw[zab _ (by omega)];omega
 unfold Zf7 Zks Zip at hlo;have b1:F<=N-1:=by omega
 have b2:N-1<=c.sz.length:=by omega
 have b1':(F:Int)<=((N-1:Nat):Int):=by omega
 have b2':((N-1:Nat):Int)<=(c.sz.length:Int):=by omega
 have hR0:((c.sz.take (N-1)).drop F)=[]->(anQ p (((c.sz.take (N-1)).drop F).map fv) 0 (fv x) (y.map fv)).1=[]:=fun h=>by rw[h];rfl
 rw[zaa Zar.h506 rfl,b506];generalize anQ p (((c.sz.take (N-1)).drop F).map fv) 0 (fv x) (y.map fv)=R at *
 clear hp hl hw hA hB hC hFj;generalize hH:((c.sz.take (N-1)).drop F)=H at *
 subst hf;subst ht;obtain⟨⟨code,outs,dim,par⟩,⟨nm,cc,a1,b,e'⟩,pp,bits⟩:=p;obtain⟨ev,S,ts,ys⟩:=c;dsimp only at *
 subst he;generalize hY:fzs (y.map fv)=Y0 at *
 obtain⟨x0,x1,x2⟩:=x;obtain⟨R1,k,i,st,a⟩:=R;dsimp only at *
 have o0:efz (fz 1)=.agg [.b (fz 1).1,.sl (Zc (fz 1).2.1) .an,.sl (Zc (fz 1).2.2) .an]:=rfl;generalize fz 1=one at *
 obtain⟨o1,o2,o3⟩:=one;dsimp only at *
 rcases hr with ⟨h0,rfl⟩ | ⟨h0,h1,rfl⟩ | ⟨h0,h1,rfl⟩
 ·have h0I:¬ (k:Int)=0:=by omega
  rw[if_neg h0];unfold Zk9 at hlo;simp -implicitDefEqProofs[c1,c2,c3,c4,c5,hq,hwj,he0,he00,hj,hj',hj2,hj2',hy,hx,g1,g2,hd,hn1,b1,b2,b1',b2',hH,zj9,hlo]
 ·rw[if_pos h0];have hR1:=hR0 h1;subst hR1;rw[show Zd (Y0::([]:List (List Rat)).map fzs)=[[.sl (Zb Y0) .an]] from rfl];simp -implicitDefEqProofs[c1,c2,c3,c4,c5,hq,hwj,he0,he00,hj,hj',hj2,hj2',hy,hx,g1,g2,hd,hn1,b1,b2,b1',b2',hH,zj9,hlo]
 ·rw[if_pos h0];have tk:List.take (Y0::R1.map fzs).length (Zd (Y0::R1.map fzs))=Zd (Y0::R1.map fzs):=Ya (by rw[zbr];exact Ye _);have lk:=zbr (Y0::R1.map fzs);have wk:=zai (Y0::R1.map fzs);generalize Zd (Y0::R1.map fzs)=MM at *
  generalize (Y0::R1.map fzs).length=nn at *
  simp -implicitDefEqProofs[c1,c2,c3,c4,c5,hq,hwj,he0,he00,hj,hj',hj2,hj2',hy,hx,g1,g2,hd,hn1,b1,b2,b1',b2',hH,zj9,hlo,tk,lk,wk]
end
section
variable{T:Tbl}[Z2 T][Zz T][Z8 T][Zx T][Zae T][Zw T][Zag T][Zq T][Z9 T][Zc3 T][Zdo T][Zcy T][Zbb T][Zdf T][Z1 T][Za7 T][Zcg T][Zc6 T][Zaz T]
def zafm(k s i a:Int):Zbs 0 0 (.norm false [9,12]) (some (enB k s i a))=some (enB k s i a):=by
 unfold enB;simp -implicitDefEqProofs
def zafn(p:Pb)(c:Kp)(F N:Nat)(t0:Rat)(y0:List Rat)(hp:PbS p)(hok:okP p=true)(hb:p.s.b.length<=3)(hd:(y0.length:Int)=p.t.dim)(hFN:F<N)(hNl:N<=c.sz.length)(hcl:c.sz.length<=20)
  (ht:sz t0<=200) (hy:∀q∈y0,sz q<=400) (hw:∀x∈c.sz,fsz x<=12) :
  ∃r,(((anQ p (((c.sz.take (N-1)).drop F).map fv) 0 t0 y0).2.1≠0/\r=enB (anQ p (((c.sz.take (N-1)).drop F).map fv) 0 t0 y0).2.1 ((F:Int)+((anQ p (((c.sz.take (N-1)).drop F).map fv) 0 t0 y0).2.2.1:Int)+1) (anQ p (((c.sz.take (N-1)).drop F).map fv) 0 t0 y0).2.2.2.1 (anQ p (((c.sz.take (N-1)).drop F).map fv) 0 t0 y0).2.2.2.2) \/
   ((anQ p (((c.sz.take (N-1)).drop F).map fv) 0 t0 y0).2.1=0/\(c.sz.take (N-1)).drop F=[]/\r=Zoq (fzs y0)) \/
   ((anQ p (((c.sz.take (N-1)).drop F).map fv) 0 t0 y0).2.1=0/\(c.sz.take (N-1)).drop F≠[]/\r=Zor (fzs y0::(anQ p (((c.sz.take (N-1)).drop F).map fv) 0 t0 y0).1.map fzs))) /\
   Ze T 0 0 (.norm false [9,12]) l509_0 (Zj0 p c N (fz t0) (fzs y0) F)=some r:=by
 have hok2:=hok;unfold okP at hok2;simp only[Yh,decide_eq_true_eq]at hok2;obtain⟨⟨hokT,hokS⟩,_⟩:=hok2;have hO:=(zcq p.t).1 hokT;have hdm:=hO.d2;generalize hH:(c.sz.take (N-1)).drop F=H;have hHl:H.length=N-1-F:=by rw[<-hH,Ybv,Y3];omega
 have hget:∀j,j<H.length->H[j]? = c.sz[F+j]? := by
  intro j hj;rw[<-hH,Ya0,Yar,if_pos (by omega)]
 have hHw:∀x∈H,fsz x<=12:=fun u hu=>by
  rw[<-hH]at hu;exact hw u (Yay (Yc7 hu))
 generalize hR:anQ p (H.map fv) 0 t0 y0=R;refine zar (fun q:Nat×Rat×List Rat×List (List Fz)=>if q.1=0 then Zj0 p c N (fz q.2.1) (fzs q.2.2.1) F else Zjs p c N (fz q.2.1) (fzs q.2.2.1) q.2.2.2 (F+q.1))
  (fun q=>q.1<=H.length/\(q.1=0->q.2.2.1=y0/\q.2.2.2=[fzs y0])/\sz q.2.1<=200+13*q.1/\(q.2.2.1.length:Int)=p.t.dim/\(∀x∈q.2.2.1,sz x<=400)/\q.2.2.2.length=q.1+1 /\
   (anQ p ((H.drop q.1).map fv) q.1 q.2.1 q.2.2.1).2=R.2/\(R.2.1=0->q.2.2.2++(anQ p ((H.drop q.1).map fv) q.1 q.2.1 q.2.2.1).1.map fzs=fzs y0::R.1.map fzs))
  (fun q=>H.length-q.1) _ ?_ (0,t0,y0,[fzs y0]) ⟨Yv _,fun _=>⟨rfl,rfl⟩,by simpa using ht,hd,hy,rfl,by rw[Y6,hR],fun _=>by rw[Y6,hR];rfl⟩
 rintro⟨i,tm,y,out⟩ ⟨hi,h0,htm,hyd,hys,hol,hq2,hq1⟩
 dsimp only at *
 by_cases hlt:i<H.length
 ·obtain⟨h,hh⟩:∃h,H[i]? = some h:=⟨_,Yb hlt⟩;have hdr:H.drop i=h::H.drop (i+1):=by
   rw[Yg hlt];congr 1;rw[Yb hlt]at hh;exact Option.some.inj hh
  have hhs:=hHw h (Yf hh);have hcs:c.sz[F+i]? = some h:=by rw[<-hget i hlt];exact hh
  have s2:=za2 (x:=h) (L:=12) hhs (by decide);have c0:=za8 (T:=T) h (by omega);have c1:=z4x (T:=T) p tm (fv h) y hp hok hb hyd (by omega) (by omega) hys;have hn:p.t.outs.length=y.length:=by have:=hO.ol;omega
  have hN1:F+i+1<N:=by omega
  rw[hdr,Yak]at hq2 hq1;unfold anQ at hq2 hq1;by_cases hk:(doQ p tm (fv h) y).2.1=0
  ·obtain⟨k1,k2,k3⟩:=zy7 hn hb hk;rw[if_neg (by simpa using hk)]at hq2 hq1;have s3:=zez tm (fv h);have c2:=zcx (T:=T) tm (fv h) (by omega) (by omega);rw[hk,k1]at c1;left;refine⟨(i+1,tm+fv h,(doQ p tm (fv h) y).1.nx,out++[fzs (doQ p tm (fv h) y).1.nx]),⟨by dsimp only;omega,fun h=>absurd h (by simp),by dsimp only;omega,by dsimp only;rw[k2];exact hyd,fun x hx=>Yd (k3 x hx) (by decide),by simp[hol],hq2,fun hz=>?_⟩,by dsimp only;omega,?_⟩
   ·dsimp only;rw[Ybk];exact hq1 hz
   ·dsimp only;rw[if_neg (show ¬ i+1=0 by omega)];by_cases hi0:i=0
    ·subst hi0;obtain⟨e1,e2⟩:=h0 rfl;rw[if_pos rfl,e2,<-e1];exact z41 (T:=T) p c N F _ h _ _ _ _ hcs hN1 (by omega) _ _ _ c0 c1 c2
    ·rw[if_neg hi0];exact z9h (T:=T) p c N (F+i) _ h _ _ _ _ out hcs hN1 (by omega) (by omega) _ _ _ c0 c1 c2
  ·right;rw[if_pos hk]at hq2;refine⟨_,.inl ⟨by rw[<-hq2];exact hk,rfl⟩,?_⟩;rw[<-hq2];dsimp only;have hki:((doQ p tm (fv h) y).2.1:Int)≠0:=by omega
   by_cases hi0:i=0
   ·subst hi0;rw[if_pos rfl];have e:=z9i (T:=T) p c N F (fz tm) h _ (fzs y) hcs hN1 (by omega) _ _ _ _ _ _ _ hki c0 c1;rw[e];simp only[Yp,Int.add_zero];exact⟨rfl,zafm _ _ _ _⟩
   ·rw[if_neg hi0];have e:=zafk (T:=T) p c N (F+i) (fz tm) h _ (fzs y) out hcs hN1 (by omega) _ _ _ _ _ _ _ hki c0 c1;rw[Ye5]at e;rw[e];exact⟨rfl,zafm _ _ _ _⟩
 ·right;have hil:i=H.length:=by omega
  subst hil;rw[Yw,Ya6]at hq2 hq1;unfold anQ at hq2 hq1;have hz:R.2.1=0:=by rw[<-hq2]
  by_cases hi0:H.length=0
  ·have hnil:=Yaj hi0;obtain⟨e1,_⟩:=h0 hi0;rw[if_pos hi0,e1];obtain⟨g1,g2⟩:=zafl (T:=T) p c N F (fz tm) (fzs y0) (by omega) (by omega);exact⟨_,.inr (.inl ⟨hz,hnil,rfl⟩),g1,g2⟩
  ·rw[if_neg hi0];have e1:=hq1 hz;rw[Ya6,Ya9]at e1;obtain⟨g1,g2⟩:=zaot (T:=T) p c N (F+H.length) (fz tm) (fzs y) out (by omega) (by omega);rw[<-e1];exact⟨_,.inr (.inr ⟨hz,fun h=>hi0 (by rw[h];rfl),rfl⟩),g1,g2⟩
def zv6(p:Pb)(c:Kp)(hp:PbS p)(hA:okP p=true)(e j F N:Nat)(he:c.ev=e)(he1:1<=e)(he2:e<=200)(hFj:F=j*e)(hFN:F<N)(hNl:N<=c.sz.length)(hcl:c.sz.length<=20)(hw:∀x∈c.sz,fsz x<=12)
  (y:List Fz) (hy:c.ys[j]? = some y) (x:Fz) (hx:c.ts[j]? = some x) (hd:(y.length:Int)=p.t.dim) (hb:p.s.b.length<=3) (hxs:fsz x<=200) (hys:∀u∈y,fsz u<=300) :
  Za T 509 [epb p,ekp c,.i .i64 F,.i .i64 N]=some (if (anQ p (((c.sz.take (N-1)).drop F).map fv) 0 (fv x) (y.map fv)).2.1=0 then .tup [.sl (Zd (fzs (y.map fv)::(anQ p (((c.sz.take (N-1)).drop F).map fv) 0 (fv x) (y.map fv)).1.map fzs)) .an,Zb9 0 0 0 0]
   else .tup [.sl [] .an,Zb9 (anQ p (((c.sz.take (N-1)).drop F).map fv) 0 (fv x) (y.map fv)).2.1 ((F:Int)+((anQ p (((c.sz.take (N-1)).drop F).map fv) 0 (fv x) (y.map fv)).2.2.1:Int)+1) (anQ p (((c.sz.take (N-1)).drop F).map fv) 0 (fv x) (y.map fv)).2.2.2.1 (anQ p (((c.sz.take (N-1)).drop F).map fv) 0 (fv x) (y.map fv)).2.2.2.2]):=by
 have hok2:=hA;unfold okP at hok2;simp only[Yh,decide_eq_true_eq]at hok2;have hdm:=((zcq p.t).1 hok2.1.1).d2;have c0:=za8 (T:=T) x (by omega);have c5:=zd2 (T:=T) y (by omega) (fun u hu=>Yd (hys u hu) (by decide));have en:nrm y=fzs (y.map fv):=by unfold nrm fzs;rw[Ybh];rfl
 rw[en]at c5;obtain⟨r,hr,hlo⟩:=zafn (T:=T) p c F N (fv x) (y.map fv) hp hA hb (by rw[Yk];exact hd) hFN hNl hcl (za2 hxs (by decide)) (fun q hq=>by
  obtain⟨u,hu,rfl⟩:=Yl.1 hq;exact Yd (za2 (hys u hu) (by decide)) (by decide)) hw
 obtain⟨g3,g1⟩:=Yc.1 hy;obtain⟨g4,g2⟩:=Yc.1 hx;have hq:(F:Int).tdiv (e:Int)=(j:Int):=by
  rw[hFj]
  push_cast
  exact Yd8 _ (by omega)
 have hwj:IntKind.wrap .i64 (j:Int)=(j:Int):=zab _ (by
  have:j<=j*e:=Ybc j he1;omega)
 have he0:¬ (e:Int)=0:=by omega
 have he00:¬ e=0:=by omega
 have hj':(j:Int)<(c.ts.length:Int):=by omega
 have hj2':(j:Int)<(c.ys.length:Int):=by omega
 unfold Zj0 Zht at hlo;have hR0:((c.sz.take (N-1)).drop F)=[]->(anQ p (((c.sz.take (N-1)).drop F).map fv) 0 (fv x) (y.map fv)).1=[]:=fun h=>by rw[h];rfl
 generalize anQ p (((c.sz.take (N-1)).drop F).map fv) 0 (fv x) (y.map fv)=R at *
 generalize (c.sz.take (N-1)).drop F=H at *
 generalize fzs (y.map fv)=Y at *
 generalize fz (fv x)=X at *
 clear hFj hw hys hp hA;obtain⟨⟨code,outs,dim,par⟩,⟨nm,cc,a1,b,ee⟩,pp,bits⟩:=p;obtain⟨ev,S,ts,ys⟩:=c;obtain⟨x0,x1,x2⟩:=x;obtain⟨X0,X1,X2⟩:=X;dsimp only at *
 subst he;rcases hr with ⟨h1,rfl⟩ | ⟨h1,h2,rfl⟩ | ⟨h1,h2,rfl⟩
 ·rw[if_neg h1];unfold enB at hlo;rw[zaa Zaz.h509 rfl,b509];simp -implicitDefEqProofs[c0,c5,hlo,hy,hx,g1,g2,g3,g4,hq,hwj,he0,he00,hj',hj2']
 ·rw[if_pos h1,hR0 h2];unfold Zoq at hlo;rw[zaa Zaz.h509 rfl,b509];simp -implicitDefEqProofs[c0,c5,hlo,hy,hx,g1,g2,g3,g4,hq,hwj,he0,he00,hj',hj2',show Zd [Y]=[[.sl (Zb Y) .an]] from rfl]
 ·rw[if_pos h1];unfold Zor at hlo;have lM:=zbr (Y::R.1.map fzs);have tM:List.take (Y::R.1.map fzs).length (Zd (Y::R.1.map fzs))=Zd (Y::R.1.map fzs):=Ya (by omega);have wM:=zai (Y::R.1.map fzs);generalize Zd (Y::R.1.map fzs)=M at *
  generalize (Y::R.1.map fzs).length=n at *
  rw[zaa Zaz.h509 rfl,b509];simp -implicitDefEqProofs[c0,c5,hlo,hy,hx,g1,g2,g3,g4,hq,hwj,he0,he00,hj',hj2',lM,tM,wM]
end
def mrQ(p:Pb):List Rat->Nat->Rat->List Rat->List Trr×(Rat×List Rat)×Nat×Nat×Nat×Nat
 | [],_,t,y=>([],(t,y),0,0,0,0)
 | h::r,i,t,y=>if (doQ p t h y).2.1≠0 then ([],(t,y),(doQ p t h y).2.1,i,(doQ p t h y).2.2.1,(doQ p t h y).2.2.2)
   else (⟨fz t,fz h,fz h,fz (Zmc (doQ p t h y).1.er),fzs y,true⟩::(mrQ p r (i+1) (t+h) (doQ p t h y).1.nx).1,(mrQ p r (i+1) (t+h) (doQ p t h y).1.nx).2)
abbrev Zpt(g:Nat):Box:=⟨g,.str,5,[[.sl [] .an,.b false,.sl [] .an,.sl [] .an,.sl [] .an]]⟩
def Zt2(p:Pb)(tm:Fz)(y:List Fz)(L:List Trr)(H:List Fz)(i:Nat):St:=
 ⟨[(4,.ptr (.loc 4) 1 11 0 0),(8,.ptr (.loc 8) 2 5 0 0),(9,.ptr (.loc 9) 3 4 0 0),(10,.ptr (.loc 10) 4 5 0 0),(39,.sl (Zb H) .an),(40,.i .i64 H.length),(41,.i .i64 (i:Int))],
  [(.loc 4,⟨1,.str,11,[Zip p]⟩),(.loc 8,Zpt 2),(.loc 9,Zit 3 0 0 0 0),(.loc 10,⟨4,.str,5,[[.bs (.fld (.loc 10) 0) 5 14 0 L.length,.b tm.1,.sl (Zc tm.2.1) .an,.sl (Zc tm.2.2) .an,.sl (Zb y) .an]]⟩),(.fld (.loc 10) 0,⟨5,.own,14,Za1 L⟩)],7⟩
def Zt3(k i s a:Int):Ex×St:=(.r,⟨[(8,.ptr (.loc 8) 1 5 0 0),(9,.ptr (.loc 9) 2 4 0 0)],[(.loc 8,Zpt 1),(.loc 9,Zit 2 k i s a)],4⟩)
def Zt4(tm:Fz)(y:List Fz)(L:List Trr):Ex×St:=
 (.n,⟨[(8,.ptr (.loc 8) 1 5 0 0),(9,.ptr (.loc 9) 2 4 0 0),(10,.ptr (.loc 10) 3 5 0 0)],
  [(.loc 8,Zpt 1),(.loc 9,Zit 2 0 0 0 0),(.loc 10,⟨3,.str,5,[[.bs (.fld (.loc 10) 0) 4 14 0 L.length,.b tm.1,.sl (Zc tm.2.1) .an,.sl (Zc tm.2.2) .an,.sl (Zb y) .an]]⟩),(.fld (.loc 10) 0,⟨4,.own,14,Za1 L⟩)],6⟩)
def trQ(p:Pb):List Rat->Rat->List Rat->List (Rat×List Rat)
 | [],t,y=>[(t,y)]
 | h::r,t,y=>(t,y)::trQ p r (t+h) (doQ p t h y).1.nx
def okQ(p:Pb):List Rat->Rat->List Rat->Prop
 | [],_,_=>True
 | h::r,t,y=>(doQ p t h y).2.1=0/\okQ p r (t+h) (doQ p t h y).1.nx
def Zpc(p:Pb):List Rat->Rat->List Rat->List Trr
 | [],_,_=>[]
 | h::r,t,y=>⟨fz t,fz h,fz h,fz (Zmc (doQ p t h y).1.er),fzs y,true⟩::Zpc p r (t+h) (doQ p t h y).1.nx
def Zp3(p:Pb):List Rat->Rat->List Rat->Rat×List Rat
 | [],t,y=>(t,y)
 | h::r,t,y=>Zp3 p r (t+h) (doQ p t h y).1.nx
def mrH(p:Pb)(hs:List Rat)(t:Rat)(y:List Rat):Hs:=⟨Zpc p hs t y,fz (Zp3 p hs t y).1,fzs (Zp3 p hs t y).2⟩
structure FrV where
 t:Fz
 h:Fz
 y:List Fz
abbrev efr(x:FrV):AV:=.agg [.b x.t.1,.sl (Zc x.t.2.1) .an,.sl (Zc x.t.2.2) .an,.b x.h.1,.sl (Zc x.h.2.1) .an,.sl (Zc x.h.2.2) .an,.sl (Zb x.y) .an]
def Zrt(x:FrV):Bool:=decide (2<fsz x.t) || decide (2<fsz x.h) || Zam x.y 4 2
def Ztv(p:Pb)(c:Kp)(NY:List (List Fz))(L:List (Nat×Nat))(e i:Nat):St:=
 ⟨[(9,.ptr (.loc 9) 1 11 0 0),(12,.ptr (.loc 12) 2 4 0 0),(14,.sl (Zd NY) .an),(15,.sl (Z5 L) .an),(16,.i .i64 (e:Int)),(17,.i .i64 (i:Int))],[(.loc 9,⟨1,.str,11,[Zip p]⟩),(.loc 12,Zmh 2 c)],4⟩
def Ztw(p:Pb)(c:Kp)(NY M:List (List Fz))(L:List (Nat×Nat))(i j:Nat):St:=
 ⟨[(9,.ptr (.loc 9) 1 11 0 0),(12,.ptr (.loc 12) 2 4 0 0),(14,.sl (Zd NY) .an),(15,.sl (Z5 L) .an),(17,.i .i64 (i:Int)),(18,.sl (Zd M) .an),(20,.i .i64 (j:Int))],[(.loc 9,⟨1,.str,11,[Zip p]⟩),(.loc 12,Zmh 2 c)],4⟩
def Ztx(p:Pb)(c:Kp)(NY:List (List Fz))(L:List (Nat×Nat))(i:Nat):Ex×St:=
 (.n,⟨[(9,.ptr (.loc 9) 1 11 0 0),(12,.ptr (.loc 12) 2 4 0 0),(14,.sl (Zd NY) .an),(15,.sl (Z5 L) .an),(17,.i .i64 (i:Int))],[(.loc 9,⟨1,.str,11,[Zip p]⟩),(.loc 12,Zmh 2 c)],4⟩)
section
variable{T:Tbl}[Zar T][Zgl T]
variable[Z2 T][Zu T][Zy T][Z0 T][Zt T][Zp T][Zi T][Zl T][Zs T][Zai T][Zbt T]
def zre:Za T 498 []=some (.b true):=by
 have c1:=zl5 (T:=T) 5 2;have c2:=zgj (T:=T) 5 2;have e1:Zls 2 5=[(4,5),(2,4),(0,2)]:=by decide
 have e2:Za2 2 5=[0,2,4]:=by decide
 rw[e1]at c1;rw[e2]at c2;rw[zaa Zgl.h498 rfl,b498];simp -implicitDefEqProofs[c1,c2,Z5,Zcl]
variable[Zz T][Z8 T][Zx T][Zae T][Zw T][Zag T][Zq T][Z9 T]
end
def WB(x:Fz):Prop:=x.2.1.length<=140737488355328/\x.2.2.length<=140737488355328
def wN(x:Fz):Nat:=x.2.1.length+x.2.2.length
def Zty(l:List Fz)(i:Nat):Bool:=match l[i]? with
 | some x=>decide (8<wN x)
 | none=>false
def Ztz(m:List (List Fz))(i:Nat):Bool:=match m[i]? with
 | some r=>decide (4<r.length) || Zam r 8 4
 | none=>false
def Zb7(p:Pb)(h:Hs)(c:Kp)(s0 s1 s2:Int)(i:Nat):St:=
 ⟨[(4,.ptr (.loc 4) 1 11 0 0),(5,.ptr (.loc 5) 2 5 0 0),(6,.ptr (.loc 6) 3 4 0 0),(7,.ptr (.loc 7) 4 3 0 0),(9,.i .i64 (i:Int))],
  [(.loc 4,⟨1,.str,11,[Zlh p]⟩),(.loc 5,⟨2,.str,5,[Zop h]⟩),(.loc 6,⟨3,.str,4,[Zns c]⟩),(.loc 7,⟨4,.str,3,[[.i .i64 s0,.i .i64 s1,.i .i64 s2]]⟩)],6⟩
def Zik(p:Pb)(h:Hs)(c:Kp)(s0 s1 s2:Int):Ex×St:=
 (.n,⟨[(4,.ptr (.loc 4) 1 11 0 0),(5,.ptr (.loc 5) 2 5 0 0),(6,.ptr (.loc 6) 3 4 0 0),(7,.ptr (.loc 7) 4 3 0 0)],
  [(.loc 4,⟨1,.str,11,[Zlh p]⟩),(.loc 5,⟨2,.str,5,[Zop h]⟩),(.loc 6,⟨3,.str,4,[Zns c]⟩),(.loc 7,⟨4,.str,3,[[.i .i64 s0,.i .i64 s1,.i .i64 s2]]⟩)],6⟩)
def zaz{α:Type}{l:List α}{i:Nat}{x:α}(h:l[i]? = some x):∃h1:i<l.length,l[i]'h1=x/\(i:Int)<(l.length:Int):=by
 obtain⟨h1,h2⟩:=Yc.1 h;exact⟨h1,h2,by omega⟩
def zbf{α:Type}{l:List α}{i:Nat}(h:l[i]? = none):¬ i<l.length/\¬ (i:Int)<(l.length:Int):=by
 have:=List.getElem?_eq_none_iff.1 h;exact⟨by omega,by omega⟩
section
variable{T:Tbl}[Zcp T][Zgl T][Zby T][Zaz T][Zar T][Ze2 T][Zdf T][Z1 T][Zcx T][Zdz T][Zdd T][Zdn T]
def zj3(k s g a:Int):Za T 510 [.agg [.i .i64 k,.i .i64 s,.i .i64 g,.i .i64 a]]=some (Zb9 k s g a):=by
 rw[zaa Zcp.h510 rfl,b510];simp -implicitDefEqProofs
def a_ok(p:Pb)(h:Hs)(c:Kp)(s0 s1 s2:Int)(i:Nat)(w:Za T 498 []=some (.b true))(hi4:i<=1000)(hi:i<c.sz.length\/i<c.ts.length\/i<c.ys.length)
  (hA:∀x,c.sz[i]? = some x->wN x<=8) (hB:∀x,c.ts[i]? = some x->wN x<=8) (hC:∀r,c.ys[i]? = some r->r.length<=4/\Za T 497 [.agg [.sl [] .an,.b false,.sl [] .an,.sl [] .an,.sl (Zb r) .an],.i .i64 0,.i .i64 4]=some (.b false)) :
  evX (orc T) T 0 l494_0 (Zb7 p h c s0 s1 s2 i)=some (.n,Zb7 p h c s0 s1 s2 (i+1)):=by
 have hw:IntKind.wrap .i64 ((i:Int)+1)=(i:Int)+1:=zab _ (by omega);unfold Zb7;obtain⟨ev,S,ts,ys⟩:=c;obtain⟨L,t,y⟩:=h;obtain⟨⟨code,outs,dim,par⟩,⟨nm,cc,a1,b,e⟩,pp,bits⟩:=p;dsimp only at *
 cases g1:S[i]? with
 | none=>
  obtain⟨q1,q2⟩:=zbf g1;cases g2:ts[i]? with
  | none=>
   obtain⟨q3,q4⟩:=zbf g2;cases g3:ys[i]? with
   | none=>
    obtain⟨q5,q6⟩:=zbf g3;omega
   | some r=>
    obtain⟨q5,q6,q7⟩:=zaz g3;obtain⟨c1,c2⟩:=hC r g3;have c1':¬ (4:Int)<r.length:=by omega
    simp -implicitDefEqProofs[l494_0,hw,q1,q2,q3,q4,g3,q5,q6,q7,c1',c2]
  | some x=>
   obtain⟨q3,q4,q4'⟩:=zaz g2;have b1:=hB x g2;unfold wN at b1;obtain⟨x0,x1,x2⟩:=x;dsimp only at b1;have b2:IntKind.wrap .i64 ((x1.length:Int)+(x2.length:Int))=(x1.length:Int)+(x2.length:Int):=zab _ (by omega);have b3:¬ (8:Int)<(x1.length:Int)+(x2.length:Int):=by omega
   cases g3:ys[i]? with
   | none=>
    obtain⟨q5,q6⟩:=zbf g3;simp -implicitDefEqProofs[l494_0,hw,q1,q2,g2,q3,q4,q4',b2,b3,q5,q6]
   | some r=>
    obtain⟨q5,q6,q7⟩:=zaz g3;obtain⟨c1,c2⟩:=hC r g3;have c1':¬ (4:Int)<r.length:=by omega
    simp -implicitDefEqProofs[l494_0,hw,q1,q2,g2,q3,q4,q4',b2,b3,g3,q5,q6,q7,c1',c2]
 | some z=>
  obtain⟨q1,q2,q2'⟩:=zaz g1;have a1':=hA z g1;unfold wN at a1';obtain⟨z0,z1,z2⟩:=z;dsimp only at a1';have a2:IntKind.wrap .i64 ((z1.length:Int)+(z2.length:Int))=(z1.length:Int)+(z2.length:Int):=zab _ (by omega);have a3:¬ (8:Int)<(z1.length:Int)+(z2.length:Int):=by omega
  cases g2:ts[i]? with
  | none=>
   obtain⟨q3,q4⟩:=zbf g2;cases g3:ys[i]? with
   | none=>
    obtain⟨q5,q6⟩:=zbf g3;simp -implicitDefEqProofs[l494_0,hw,g1,q1,q2,q2',a2,a3,q3,q4,q5,q6]
   | some r=>
    obtain⟨q5,q6,q7⟩:=zaz g3;obtain⟨c1,c2⟩:=hC r g3;have c1':¬ (4:Int)<r.length:=by omega
    simp -implicitDefEqProofs[l494_0,hw,g1,q1,q2,q2',a2,a3,q3,q4,g3,q5,q6,q7,c1',c2]
  | some x=>
   obtain⟨q3,q4,q4'⟩:=zaz g2;have b1:=hB x g2;unfold wN at b1;obtain⟨x0,x1,x2⟩:=x;dsimp only at b1;have b2:IntKind.wrap .i64 ((x1.length:Int)+(x2.length:Int))=(x1.length:Int)+(x2.length:Int):=zab _ (by omega);have b3:¬ (8:Int)<(x1.length:Int)+(x2.length:Int):=by omega
   cases g3:ys[i]? with
   | none=>
    obtain⟨q5,q6⟩:=zbf g3;simp -implicitDefEqProofs[l494_0,hw,g1,q1,q2,q2',a2,a3,g2,q3,q4,q4',b2,b3,q5,q6]
   | some r=>
    obtain⟨q5,q6,q7⟩:=zaz g3;obtain⟨c1,c2⟩:=hC r g3;have c1':¬ (4:Int)<r.length:=by omega
    simp -implicitDefEqProofs[l494_0,hw,g1,q1,q2,q2',a2,a3,g2,q3,q4,q4',b2,b3,g3,q5,q6,q7,c1',c2]
end
abbrev Zpl:Ty:=.cons (.int .i64) (.cons (.sl tyF) (.cons (.sl tyF) (.cons (.sl (.sl tyF)) .nil)))
def zyn{B:Nat}(hB:B<=maxLen)(hB2:B<=140737488355328){x:AV}(h:Zh2 B (true,Zpl) x):∃c:Kp,wkA x=ekp c/\(∀x∈c.sz,WB x)/\∀x∈c.ts,WB x:=by
 obtain⟨cs,rfl,c1,c1',rfl,⟨e,rfl,_⟩,c2,c2',rfl,h2,c3,c3',rfl,h3,c4,c4',rfl,h4,rfl⟩:=h;obtain⟨S,e2,b2⟩:=zlx hB h2;obtain⟨ts,e3,b3⟩:=zlx hB h3;obtain⟨ys,e4⟩:=zlv (h4.ok hB);refine⟨⟨e,S,ts,ys⟩,?_,fun x hx=>⟨Yd (b2 x hx).1 hB2,Yd (b2 x hx).2 hB2⟩,fun x hx=>⟨Yd (b3 x hx).1 hB2,Yd (b3 x hx).2 hB2⟩⟩;rw[wkA];simp only[zdm,e2,e3,e4]
 rfl
def zyo{x:AV}(h:Zk4 (true,Zj8 3 (.int .i64)) x):∃(a b c:Int),x=.agg [.i .i64 a,.i .i64 b,.i .i64 c]:=by
 obtain⟨cs,rfl,c1,c1',rfl,⟨a,rfl,_⟩,c2,c2',rfl,⟨b,rfl,_⟩,c3,c3',rfl,⟨c,rfl,_⟩,rfl⟩:=h;exact⟨a,b,c,rfl⟩
end Go.Ab
section
namespace Go.Proofs.YtpkknnhpfhpbdaaGreat
open Go Go.Ab Go.ChangeShapes Go.WideShapes Go.ChangeAt Go.RowKit
def Tryz.own:ownKnob Tryz.prog.godebug=none:=by kernel_rfl
def Tryz.laidOut:laidOutB Tryz.prog=true:=by kernel_rfl
def Tryz.mixed:Tryz.prog.follows .mixedOrders=true:=by kernel_rfl
def tab_all:TOk Tryz.prog nu (fun u=>lTab.lookup u):=lTab_ok (sign_ok)
end Go.Proofs.YtpkknnhpfhpbdaaGreat
end
namespace Go.Ab
section
variable{T:Tbl}[Zcp T][Zgl T][Zby T][Zaz T][Zar T][Ze2 T][Zdf T][Z1 T][Zcx T][Zdz T][Zdd T][Zdn T]
def zaez(p:Pb)(h:Hs)(c:Kp)(s0 s1 s2:Int)(i:Nat)(w:Za T 498 []=some (.b true))(x:Fz)(hx:c.sz[i]? = some x)(hwb:WB x)(hb:8<wN x) :
  Zb6 (evX (orc T) T 0 l494_0 (Zb7 p h c s0 s1 s2 i))=true/\Zbs 0 0 (.norm false [4,5,6,7]) (evX (orc T) T 0 l494_0 (Zb7 p h c s0 s1 s2 i))=some (.r,⟨[(8,.b true)],[],2⟩):=by
 unfold Zb7;obtain⟨ev,S,ts,ys⟩:=c;obtain⟨L,t,y⟩:=h;obtain⟨⟨code,outs,dim,par⟩,⟨nm,cc,a1,b,e⟩,pp,bits⟩:=p;dsimp only at *
 obtain⟨u1,u2,u3⟩:=zaz hx;unfold wN at hb;unfold WB at hwb;obtain⟨x0,x1,x2⟩:=x;dsimp only at hb hwb;have v2:IntKind.wrap .i64 ((x1.length:Int)+(x2.length:Int))=(x1.length:Int)+(x2.length:Int):=zab _ (by omega);have v3:(8:Int)<(x1.length:Int)+(x2.length:Int):=by omega
 constructor<;>simp -implicitDefEqProofs[l494_0,w,hx,u1,u2,u3,v2,v3]
def zae0(p:Pb)(h:Hs)(c:Kp)(s0 s1 s2:Int)(i:Nat)(w:Za T 498 []=some (.b true))(hA:∀x,c.sz[i]? = some x->wN x<=8)(x:Fz)(hx:c.ts[i]? = some x)(hwb:WB x)(hb:8<wN x) :
  Zb6 (evX (orc T) T 0 l494_0 (Zb7 p h c s0 s1 s2 i))=true/\Zbs 0 0 (.norm false [4,5,6,7]) (evX (orc T) T 0 l494_0 (Zb7 p h c s0 s1 s2 i))=some (.r,⟨[(8,.b true)],[],2⟩):=by
 unfold Zb7;obtain⟨ev,S,ts,ys⟩:=c;obtain⟨L,t,y⟩:=h;obtain⟨⟨code,outs,dim,par⟩,⟨nm,cc,a1,b,e⟩,pp,bits⟩:=p;dsimp only at *
 obtain⟨u1,u2,u3⟩:=zaz hx;unfold wN at hb;unfold WB at hwb;obtain⟨x0,x1,x2⟩:=x;dsimp only at hb hwb;have v2:IntKind.wrap .i64 ((x1.length:Int)+(x2.length:Int))=(x1.length:Int)+(x2.length:Int):=zab _ (by omega);have v3:(8:Int)<(x1.length:Int)+(x2.length:Int):=by omega
 cases g1:S[i]? with
 | none=>
  obtain⟨q1,q2⟩:=zbf g1;constructor<;>simp -implicitDefEqProofs[l494_0,w,q1,q2,hx,u1,u2,u3,v2,v3]
 | some z=>
  obtain⟨q1,q2,q3⟩:=zaz g1;have a1:=hA z g1;unfold wN at a1;obtain⟨z0,z1,z2⟩:=z;dsimp only at a1;have a2:IntKind.wrap .i64 ((z1.length:Int)+(z2.length:Int))=(z1.length:Int)+(z2.length:Int):=zab _ (by omega);have a3:¬ (8:Int)<(z1.length:Int)+(z2.length:Int):=by omega
  constructor<;>simp -implicitDefEqProofs[l494_0,w,g1,q1,q2,q3,a2,a3,hx,u1,u2,u3,v2,v3]
def zae1(p:Pb)(h:Hs)(c:Kp)(s0 s1 s2:Int)(i:Nat)(w:Za T 498 []=some (.b true))(hA:∀x,c.sz[i]? = some x->wN x<=8)(hB:∀x,c.ts[i]? = some x->wN x<=8)(r:List Fz)(hx:c.ys[i]? = some r)(hb:4<r.length) :
  Zb6 (evX (orc T) T 0 l494_0 (Zb7 p h c s0 s1 s2 i))=true/\Zbs 0 0 (.norm false [4,5,6,7]) (evX (orc T) T 0 l494_0 (Zb7 p h c s0 s1 s2 i))=some (.r,⟨[(8,.b true)],[],2⟩):=by
 unfold Zb7;obtain⟨ev,S,ts,ys⟩:=c;obtain⟨L,t,y⟩:=h;obtain⟨⟨code,outs,dim,par⟩,⟨nm,cc,a1,b,e⟩,pp,bits⟩:=p;dsimp only at *
 obtain⟨u1,u2,u3⟩:=zaz hx;have v3:(4:Int)<r.length:=by omega
 cases g1:S[i]? with
 | none=>
  obtain⟨q1,q2⟩:=zbf g1;cases g2:ts[i]? with
  | none=>
   obtain⟨k1,k2⟩:=zbf g2;constructor<;>simp -implicitDefEqProofs[l494_0,w,q1,q2,k1,k2,hx,u1,u2,u3,v3]
  | some x=>
   obtain⟨k1,k2,k3⟩:=zaz g2;have b1:=hB x g2;unfold wN at b1;obtain⟨x0,x1,x2⟩:=x;dsimp only at b1;have b2:IntKind.wrap .i64 ((x1.length:Int)+(x2.length:Int))=(x1.length:Int)+(x2.length:Int):=zab _ (by omega);have b3:¬ (8:Int)<(x1.length:Int)+(x2.length:Int):=by omega
   constructor<;>simp -implicitDefEqProofs[l494_0,w,q1,q2,g2,k1,k2,k3,b2,b3,hx,u1,u2,u3,v3]
 | some z=>
  obtain⟨q1,q2,q3⟩:=zaz g1;have a1:=hA z g1;unfold wN at a1;obtain⟨z0,z1,z2⟩:=z;dsimp only at a1;have a2:IntKind.wrap .i64 ((z1.length:Int)+(z2.length:Int))=(z1.length:Int)+(z2.length:Int):=zab _ (by omega);have a3:¬ (8:Int)<(z1.length:Int)+(z2.length:Int):=by omega
  cases g2:ts[i]? with
  | none=>
   obtain⟨k1,k2⟩:=zbf g2;constructor<;>simp -implicitDefEqProofs[l494_0,w,g1,q1,q2,q3,a2,a3,k1,k2,hx,u1,u2,u3,v3]
  | some x=>
   obtain⟨k1,k2,k3⟩:=zaz g2;have b1:=hB x g2;unfold wN at b1;obtain⟨x0,x1,x2⟩:=x;dsimp only at b1;have b2:IntKind.wrap .i64 ((x1.length:Int)+(x2.length:Int))=(x1.length:Int)+(x2.length:Int):=zab _ (by omega);have b3:¬ (8:Int)<(x1.length:Int)+(x2.length:Int):=by omega
   constructor<;>simp -implicitDefEqProofs[l494_0,w,g1,q1,q2,q3,a2,a3,g2,k1,k2,k3,b2,b3,hx,u1,u2,u3,v3]
def zae2(p:Pb)(h:Hs)(c:Kp)(s0 s1 s2:Int)(i:Nat)(w:Za T 498 []=some (.b true))(hA:∀x,c.sz[i]? = some x->wN x<=8)(hB:∀x,c.ts[i]? = some x->wN x<=8)(r:List Fz)(hx:c.ys[i]? = some r)(hb:¬ 4<r.length)(cl:Za T 497 [.agg [.sl [] .an,.b false,.sl [] .an,.sl [] .an,.sl (Zb r) .an],.i .i64 0,.i .i64 4]=some (.b true)) :
  Zb6 (evX (orc T) T 0 l494_0 (Zb7 p h c s0 s1 s2 i))=true/\Zbs 0 0 (.norm false [4,5,6,7]) (evX (orc T) T 0 l494_0 (Zb7 p h c s0 s1 s2 i))=some (.r,⟨[(8,.b true)],[],2⟩):=by
 unfold Zb7;obtain⟨ev,S,ts,ys⟩:=c;obtain⟨L,t,y⟩:=h;obtain⟨⟨code,outs,dim,par⟩,⟨nm,cc,a1,b,e⟩,pp,bits⟩:=p;dsimp only at *
 obtain⟨u1,u2,u3⟩:=zaz hx;have v3:¬ (4:Int)<r.length:=by omega
 cases g1:S[i]? with
 | none=>
  obtain⟨q1,q2⟩:=zbf g1;cases g2:ts[i]? with
  | none=>
   obtain⟨k1,k2⟩:=zbf g2;constructor<;>simp -implicitDefEqProofs[l494_0,w,q1,q2,k1,k2,hx,u1,u2,u3,v3,cl]
  | some x=>
   obtain⟨k1,k2,k3⟩:=zaz g2;have b1:=hB x g2;unfold wN at b1;obtain⟨x0,x1,x2⟩:=x;dsimp only at b1;have b2:IntKind.wrap .i64 ((x1.length:Int)+(x2.length:Int))=(x1.length:Int)+(x2.length:Int):=zab _ (by omega);have b3:¬ (8:Int)<(x1.length:Int)+(x2.length:Int):=by omega
   constructor<;>simp -implicitDefEqProofs[l494_0,w,q1,q2,g2,k1,k2,k3,b2,b3,hx,u1,u2,u3,v3,cl]
 | some z=>
  obtain⟨q1,q2,q3⟩:=zaz g1;have a1:=hA z g1;unfold wN at a1;obtain⟨z0,z1,z2⟩:=z;dsimp only at a1;have a2:IntKind.wrap .i64 ((z1.length:Int)+(z2.length:Int))=(z1.length:Int)+(z2.length:Int):=zab _ (by omega);have a3:¬ (8:Int)<(z1.length:Int)+(z2.length:Int):=by omega
  cases g2:ts[i]? with
  | none=>
   obtain⟨k1,k2⟩:=zbf g2;constructor<;>simp -implicitDefEqProofs[l494_0,w,g1,q1,q2,q3,a2,a3,k1,k2,hx,u1,u2,u3,v3,cl]
  | some x=>
   obtain⟨k1,k2,k3⟩:=zaz g2;have b1:=hB x g2;unfold wN at b1;obtain⟨x0,x1,x2⟩:=x;dsimp only at b1;have b2:IntKind.wrap .i64 ((x1.length:Int)+(x2.length:Int))=(x1.length:Int)+(x2.length:Int):=zab _ (by omega);have b3:¬ (8:Int)<(x1.length:Int)+(x2.length:Int):=by omega
   constructor<;>simp -implicitDefEqProofs[l494_0,w,g1,q1,q2,q3,a2,a3,g2,k1,k2,k3,b2,b3,hx,u1,u2,u3,v3,cl]
def zaom(p:Pb)(h:Hs)(c:Kp)(s0 s1 s2:Int)(i:Nat)(hi:¬ (i<c.sz.length\/i<c.ts.length\/i<c.ys.length)) :
  Zb6 (evX (orc T) T 0 l494_0 (Zb7 p h c s0 s1 s2 i))=true/\Zbs 0 0 (.norm false [4,5,6,7]) (evX (orc T) T 0 l494_0 (Zb7 p h c s0 s1 s2 i))=some (Zik p h c s0 s1 s2):=by
 have h1:¬ i<c.sz.length:=fun h=>hi (.inl h);have h2:¬ i<c.ts.length:=fun h=>hi (.inr (.inl h));have h3:¬ i<c.ys.length:=fun h=>hi (.inr (.inr h));have h1':¬ (i:Int)<c.sz.length:=by omega
 have h2':¬ (i:Int)<c.ts.length:=by omega
 have h3':¬ (i:Int)<c.ys.length:=by omega
 unfold Zb7 Zik;obtain⟨ev,S,ts,ys⟩:=c;obtain⟨L,t,y⟩:=h;obtain⟨⟨code,outs,dim,par⟩,⟨nm,cc,a1,b,e⟩,pp,bits⟩:=p;dsimp only at *
 constructor<;>simp -implicitDefEqProofs[l494_0,h1,h2,h3,h1',h2',h3']
def Zoh(c:Kp):Prop:=(∀x∈c.sz,wN x<=8)/\(∀x∈c.ts,wN x<=8)/\∀r∈c.ys,r.length<=4/\Zam r 8 4=false
def zae3(p:Pb)(h:Hs)(c:Kp)(s0 s1 s2:Int)(w:Za T 498 []=some (.b true))(hl:∀r:List Fz,Za T 497 [.agg [.sl [] .an,.b false,.sl [] .an,.sl [] .an,.sl (Zb r) .an],.i .i64 0,.i .i64 4]=some (.b (Zam r 8 4)))
  (l1:c.sz.length<=3) (l2:c.ts.length<=4) (l3:c.ys.length<=4) (b1:∀x∈c.sz,WB x) (b2:∀x∈c.ts,WB x) :
  (¬ Zoh c/\Ze T 0 0 (.norm false [4,5,6,7]) l494_0 (Zb7 p h c s0 s1 s2 0)=some (.r,⟨[(8,.b true)],[],2⟩))\/(Zoh c/\Ze T 0 0 (.norm false [4,5,6,7]) l494_0 (Zb7 p h c s0 s1 s2 0)=some (Zik p h c s0 s1 s2)):=by
 have key:=zar (T:=T) (k:=0) (id:=0) (g2:=.norm false [4,5,6,7]) (c:=l494_0) (fun i:Nat=>Zb7 p h c s0 s1 s2 i)
  (fun i=>i<=4/\(∀j,j<i->(∀x,c.sz[j]? = some x->wN x<=8)/\(∀x,c.ts[j]? = some x->wN x<=8)/\∀r,c.ys[j]? = some r->r.length<=4/\Zam r 8 4=false)) (fun i=>4-i)
  (fun r=>(¬ Zoh c/\r=(.r,⟨[(8,.b true)],[],2⟩))\/(Zoh c/\r=Zik p h c s0 s1 s2)) ?_ 0 ⟨by omega,fun j hj=>absurd hj (by omega)⟩
 ·obtain⟨r,hr,e⟩:=key;rcases hr with ⟨h1,rfl⟩ | ⟨h1,rfl⟩
  ·exact .inl ⟨h1,e⟩
  ·exact .inr ⟨h1,e⟩
 rintro i ⟨hi4,hpre⟩
 by_cases hi:i<c.sz.length\/i<c.ts.length\/i<c.ys.length
 ·by_cases hA:∀x,c.sz[i]? = some x->wN x<=8
  case neg=>
   right;obtain⟨x,hx⟩:=Classical.not_forall.1 hA;obtain⟨hx1,hx2⟩:=Classical.not_imp.1 hx;have hm:=Yf hx1;obtain⟨g1,g2⟩:=zaez (T:=T) p h c s0 s1 s2 i w x hx1 (b1 x hm) (by omega);exact⟨_,.inl ⟨fun hf=>hx2 (hf.1 x hm),rfl⟩,g1,g2⟩
  by_cases hB:∀x,c.ts[i]? = some x->wN x<=8
  case neg=>
   right;obtain⟨x,hx⟩:=Classical.not_forall.1 hB;obtain⟨hx1,hx2⟩:=Classical.not_imp.1 hx;have hm:=Yf hx1;obtain⟨g1,g2⟩:=zae0 (T:=T) p h c s0 s1 s2 i w hA x hx1 (b2 x hm) (by omega);exact⟨_,.inl ⟨fun hf=>hx2 (hf.2.1 x hm),rfl⟩,g1,g2⟩
  by_cases hC:∀r,c.ys[i]? = some r->r.length<=4/\Zam r 8 4=false
  case neg=>
   right;obtain⟨r,hx⟩:=Classical.not_forall.1 hC;obtain⟨hx1,hx2⟩:=Classical.not_imp.1 hx;have hm:=Yf hx1;by_cases h4:4<r.length
   ·obtain⟨g1,g2⟩:=zae1 (T:=T) p h c s0 s1 s2 i w hA hB r hx1 h4;exact⟨_,.inl ⟨fun hf=>hx2 (hf.2.2 r hm),rfl⟩,g1,g2⟩
   ·have hll:Zam r 8 4=true:=by
     cases hq:Zam r 8 4 with
     | true=>rfl
     | false=>exact absurd ⟨by omega,hq⟩ hx2
    have cl:=hl r;rw[hll]at cl;obtain⟨g1,g2⟩:=zae2 (T:=T) p h c s0 s1 s2 i w hA hB r hx1 h4 cl;exact⟨_,.inl ⟨fun hf=>hx2 (hf.2.2 r hm),rfl⟩,g1,g2⟩
  left;have g:=a_ok (T:=T) p h c s0 s1 s2 i w (by omega) hi hA hB (fun r hr=>⟨(hC r hr).1,by rw[hl r,(hC r hr).2]⟩);refine⟨i+1,⟨by omega,fun j hj=>?_⟩,by omega,g⟩;by_cases hji:j=i
  ·subst hji;exact⟨hA,hB,hC⟩
  ·exact hpre j (by omega)
 ·right;obtain⟨g1,g2⟩:=zaom (T:=T) p h c s0 s1 s2 i hi;refine⟨_,.inr ⟨⟨fun x hx=>?_,fun x hx=>?_,fun r hx=>?_⟩,rfl⟩,g1,g2⟩
  ·obtain⟨j,hj⟩:=Yae hx;have:=(Yc.1 hj).1;exact(hpre j (by omega)).1 x hj
  ·obtain⟨j,hj⟩:=Yae hx;have:=(Yc.1 hj).1;exact(hpre j (by omega)).2.1 x hj
  ·obtain⟨j,hj⟩:=Yae hx;have:=(Yc.1 hj).1;exact(hpre j (by omega)).2.2 r hj
end
section
variable{T:Tbl}[Zcp T][Zgl T][Zby T][Zaz T][Zar T][Ze2 T][Zdf T][Z1 T][Zcx T][Zdz T][Zdd T][Zdn T][Zgn T]
def z3n(c:Kp)(l1:c.sz.length<=1000)(l2:c.ts.length<=1000)(k1:Za T 287 [.sl (Zb c.sz) .an]=some (.sl (Zb c.sz) .an))(k2:Za T 287 [.sl (Zb c.ts) .an]=some (.sl (Zb c.ts) .an))(k3:Za T 308 [.sl (Zd c.ys) .an]=some (.sl (Zd c.ys) .an)) :
  Za T 503 [ekp c]=some (ekp c):=by
 obtain⟨ev,S,ts,ys⟩:=c;dsimp only at *
 rw[zaa Zcp.h503 rfl,b503];simp -implicitDefEqProofs[k1,k2,k3]
def zes(p:Pb)(h:Hs)(c:Kp)(s0 s1 s2:Int)(A B:Bool)(w:Za T 498 []=some (.b true))(c1:Za T 496 [epb p,.i .i64 10,.i .i64 4,.i .i64 2]=some (.b A))(c2:Za T 497 [ehs h,.i .i64 5,.i .i64 6]=some (.b B))(hx:A=true\/3<p.s.b.length\/400<p.bits\/B=true\/3<c.sz.length\/4<c.ts.length\/4<c.ys.length) :
  Za T 494 [epb p,ehs h,ekp c,.agg [.i .i64 s0,.i .i64 s1,.i .i64 s2]]=some (.b true):=by
 rw[zaa Zcp.h494 rfl,b494];obtain⟨⟨code,outs,dim,par⟩,⟨nm,cc,a1,b,sche⟩,pp,bits⟩:=p;obtain⟨L,⟨t0,t1,t2⟩,hsy⟩:=h;obtain⟨ev,S,ts,ys⟩:=c;dsimp only at *
 cases A with
 | true=>simp -implicitDefEqProofs[w,c1]
 | false=>
  by_cases hb:3<b.length
  ·have hb':(3:Int)<(b.length:Int):=by omega
   simp -implicitDefEqProofs[w,c1,hb']
  ·have hb':¬ (3:Int)<(b.length:Int):=by omega
   by_cases h4:400<bits
   ·simp -implicitDefEqProofs[w,c1,hb',h4]
   ·cases B with
    | true=>simp -implicitDefEqProofs[w,c1,c2,hb',h4]
    | false=>
     by_cases g1:3<S.length
     ·have g1':(3:Int)<(S.length:Int):=by omega
      simp -implicitDefEqProofs[w,c1,c2,hb',h4,g1']
     ·have g1':¬ (3:Int)<(S.length:Int):=by omega
      by_cases g2:4<ts.length
      ·have g2':(4:Int)<(ts.length:Int):=by omega
       simp -implicitDefEqProofs[w,c1,c2,hb',h4,g1',g2']
      ·have g2':¬ (4:Int)<(ts.length:Int):=by omega
       by_cases g3:4<ys.length
       ·have g3':(4:Int)<(ys.length:Int):=by omega
        simp -implicitDefEqProofs[w,c1,c2,hb',h4,g1',g2',g3']
       ·simp[hb,h4,g1,g2,g3]at hx
def zze(p:Pb)(h:Hs)(c:Kp)(s0 s1 s2:Int)(w:Za T 498 []=some (.b true))(c1:Za T 496 [epb p,.i .i64 10,.i .i64 4,.i .i64 2]=some (.b false))(c2:Za T 497 [ehs h,.i .i64 5,.i .i64 6]=some (.b false))(hb:¬ 3<p.s.b.length)(h4:¬ 400<p.bits)(g1:¬ 3<c.sz.length)(g2:¬ 4<c.ts.length)(g3:¬ 4<c.ys.length)
  (hlo:Ze T 0 0 (.norm false [4,5,6,7]) l494_0 (Zb7 p h c s0 s1 s2 0)=some (.r,⟨[(8,.b true)],[],2⟩)) :
  Za T 494 [epb p,ehs h,ekp c,.agg [.i .i64 s0,.i .i64 s1,.i .i64 s2]]=some (.b true):=by
 unfold Zb7 at hlo;rw[zaa Zcp.h494 rfl,b494];obtain⟨⟨code,outs,dim,par⟩,⟨nm,cc,a1,b,sche⟩,pp,bits⟩:=p;obtain⟨L,⟨t0,t1,t2⟩,hsy⟩:=h;obtain⟨ev,S,ts,ys⟩:=c;dsimp only at *
 rw[show (((0:Nat):Int))=0 from rfl]at hlo;have hb':¬ (3:Int)<(b.length:Int):=by omega
 have g1':¬ (3:Int)<(S.length:Int):=by omega
 have g2':¬ (4:Int)<(ts.length:Int):=by omega
 have g3':¬ (4:Int)<(ys.length:Int):=by omega
 simp -implicitDefEqProofs[w,c1,c2,hb',h4,g1',g2',g3',hlo]
set_option maxRecDepth 10000 in
set_option maxHeartbeats 4000000 in
def zet(p:Pb)(h:Hs)(c:Kp)(s0 s1 s2:Int)(w:Za T 498 []=some (.b true))(c1:Za T 496 [epb p,.i .i64 10,.i .i64 4,.i .i64 2]=some (.b false))(c2:Za T 497 [ehs h,.i .i64 5,.i .i64 6]=some (.b false))(hb:¬ 3<p.s.b.length)(h4:¬ 400<p.bits)(g1:¬ 3<c.sz.length)(g2:¬ 4<c.ts.length)(g3:¬ 4<c.ys.length)
  (hlo:Ze T 0 0 (.norm false [4,5,6,7]) l494_0 (Zb7 p h c s0 s1 s2 0)=some (Zik p h c s0 s1 s2))
  (k1:Za T 500 [ehs h]=some (ehs h)) (K:Kp) (k2:Za T 499 [ehs h,.i .i64 s2]=some (ekp K)) (H:Hs) (k3:Za T 502 [ehs h]=some (ehs H)) (k4:Za T 501 [ehs H,.i .i64 s2]=some (ekp K)) (k5:Za T 503 [ekp c]=some (ekp c))
  (k6:Za T 289 [.sl (Zb K.sz) .an,.sl (Zb K.sz) .an]=some (.b true)) (k7:Za T 289 [.sl (Zb K.ts) .an,.sl (Zb K.ts) .an]=some (.b true)) (k8:Za T 309 [.sl (Zd K.ys) .an,.sl (Zd K.ys) .an]=some (.b true))
  (R:Bool) (k9:Za T 504 [ekp c]=some (.b R)) (k10:Za T 505 [ekp c]=some (.b R)) (k11:Za T 507 [epb p]=some (epb p)) (O:Bool) (k13:Za T 508 [epb p]=some (.b O))
  (k12:Za T 506 [epb p,ekp c,.agg [.i .i64 s0,.i .i64 s1]]=some (.tup [.sl [] .an,Zb9 2 0 0 0])) (hqq:O=false\/O=true/\(R=false\/R=true/\(s0<0\/¬ s0<0/\((c.sz.length:Int)<=s0\/∃F e:Nat,s0=F/\c.ev=e/\1<=e/\e<=200/\F<c.sz.length /\
   (¬ F%e=0\/F%e=0/\(¬ s1=min ((F:Int)+(e:Int)) (c.sz.length:Int)\/s1=min ((F:Int)+(e:Int)) (c.sz.length:Int)/\∃y,c.ys[F/e]? = some y/\¬ (y.length:Int)=p.t.dim)))))) :
  Za T 494 [epb p,ehs h,ekp c,.agg [.i .i64 s0,.i .i64 s1,.i .i64 s2]]=some (.b true):=by
 unfold Zb7 Zik at hlo;rw[zaa Zcp.h494 rfl,b494];obtain⟨⟨code,outs,dim,par⟩,⟨nm,cc,a1,b,sche⟩,pp,bits⟩:=p;obtain⟨L,⟨t0,t1,t2⟩,hsy⟩:=h;obtain⟨ev,S,ts,ys⟩:=c;dsimp only at *
 obtain⟨Kev,KS,Kts,Kys⟩:=K;obtain⟨HL,⟨u0,u1,u2⟩,Hy⟩:=H;dsimp only at *
 rw[show (((0:Nat):Int))=0 from rfl]at hlo;have hb':¬ (3:Int)<(b.length:Int):=by omega
 have g1':¬ (3:Int)<(S.length:Int):=by omega
 have g2':¬ (4:Int)<(ts.length:Int):=by omega
 have g3':¬ (4:Int)<(ys.length:Int):=by omega
 rcases hqq with rfl | ⟨rfl,rfl | ⟨rfl,q3 | ⟨q3,q4 | ⟨F,e,rfl,rfl,he1,he2,q4,hqq⟩⟩⟩⟩
 ·simp -implicitDefEqProofs[w,c1,c2,hb',h4,g1',g2',g3',hlo,k1,k2,k3,k4,k5,k6,k7,k8,k9,k10,k11,k12,k13]
 ·simp -implicitDefEqProofs[w,c1,c2,hb',h4,g1',g2',g3',hlo,k1,k2,k3,k4,k5,k6,k7,k8,k9,k10,k11,k12,k13]
 ·simp -implicitDefEqProofs[w,c1,c2,hb',h4,g1',g2',g3',hlo,k1,k2,k3,k4,k5,k6,k7,k8,k9,k10,k11,k12,k13,q3]
 ·simp -implicitDefEqProofs[w,c1,c2,hb',h4,g1',g2',g3',hlo,k1,k2,k3,k4,k5,k6,k7,k8,k9,k10,k11,k12,k13,q3,q4]
 ·have q4':¬ (S.length:Int)<=(F:Int):=by omega
  have q4'':¬ S.length<=F:=by omega
  have he0:¬ (e:Int)=0:=by omega
  have he00:¬ e=0:=by omega
  have hr:(F:Int).tmod (e:Int)=((F%e:Nat):Int):=(Ydt F e).symm;have hq:(F:Int).tdiv (e:Int)=((F/e:Nat):Int):=(Yfa F e).symm;have hws:∀X:Nat,X<=F->IntKind.wrap .i64 (X:Int)=(X:Int):=fun X hX=>zab _ (by omega);have hrw:=hws _ (Nat.mod_le F e);have hqw:=hws _ (Yb9 F e);have hw:IntKind.wrap .i64 ((F:Int)+(e:Int))=(F:Int)+(e:Int):=zab _ (by omega);rcases hqq with q5 | ⟨q5,q6 | ⟨q6,y,hy,q7⟩⟩
  ·have q5':¬ ((F%e:Nat):Int)=0:=by omega
   generalize F%e=X at *
   simp -implicitDefEqProofs[w,c1,c2,hb',h4,g1',g2',g3',hlo,k1,k2,k3,k4,k5,k6,k7,k8,k9,k10,k11,k12,k13,q3,q4',q4'',he0,he00,hr,hrw,q5,q5']
  ·rw[q5]at hr hrw;have q6':¬ s1=(if (S.length:Int)<(F:Int)+(e:Int) then (S.length:Int) else (F:Int)+(e:Int)):=by
    rw[show (if (S.length:Int)<(F:Int)+(e:Int) then (S.length:Int) else (F:Int)+(e:Int))=min ((F:Int)+(e:Int)) (S.length:Int) by split<;>omega];exact q6
   simp -implicitDefEqProofs[w,c1,c2,hb',h4,g1',g2',g3',hlo,k1,k2,k3,k4,k5,k6,k7,k8,k9,k10,k11,k12,k13,q3,q4',q4'',he0,he00,hr,hw,q6',mm2]
  ·rw[q5]at hr hrw;have q6':s1=(if (S.length:Int)<(F:Int)+(e:Int) then (S.length:Int) else (F:Int)+(e:Int)):=by
    rw[show (if (S.length:Int)<(F:Int)+(e:Int) then (S.length:Int) else (F:Int)+(e:Int))=min ((F:Int)+(e:Int)) (S.length:Int) by split<;>omega];exact q6
   obtain⟨y1,y2,y3⟩:=zaz hy;generalize F/e=X at *
   simp -implicitDefEqProofs[w,c1,c2,hb',h4,g1',g2',g3',hlo,k1,k2,k3,k4,k5,k6,k7,k8,k9,k10,k11,k12,k13,q3,q4',q4'',he0,he00,hr,hq,hqw,hw,<-q6',mm2,hy,y1,y2,y3,q7]
set_option maxRecDepth 10000 in
def zs6(p:Pb)(h:Hs)(c:Kp)(s0 s1 s2:Int)(w:Za T 498 []=some (.b true))(c1:Za T 496 [epb p,.i .i64 10,.i .i64 4,.i .i64 2]=some (.b false))(c2:Za T 497 [ehs h,.i .i64 5,.i .i64 6]=some (.b false))(hb:¬ 3<p.s.b.length)(h4:¬ 400<p.bits)(g1:¬ 3<c.sz.length)(g2:¬ 4<c.ts.length)(g3:¬ 4<c.ys.length)
  (hlo:Ze T 0 0 (.norm false [4,5,6,7]) l494_0 (Zb7 p h c s0 s1 s2 0)=some (Zik p h c s0 s1 s2))
  (k1:Za T 500 [ehs h]=some (ehs h)) (K:Kp) (k2:Za T 499 [ehs h,.i .i64 s2]=some (ekp K)) (H:Hs) (k3:Za T 502 [ehs h]=some (ehs H)) (k4:Za T 501 [ehs H,.i .i64 s2]=some (ekp K)) (k5:Za T 503 [ekp c]=some (ekp c))
  (k6:Za T 289 [.sl (Zb K.sz) .an,.sl (Zb K.sz) .an]=some (.b true)) (k7:Za T 289 [.sl (Zb K.ts) .an,.sl (Zb K.ts) .an]=some (.b true)) (k8:Za T 309 [.sl (Zd K.ys) .an,.sl (Zd K.ys) .an]=some (.b true))
  (R:Bool) (k9:Za T 504 [ekp c]=some (.b R)) (k10:Za T 505 [ekp c]=some (.b R)) (k11:Za T 507 [epb p]=some (epb p)) (O:Bool) (k13:Za T 508 [epb p]=some (.b O))
  (M:List (List Fz)) (f1 f2 f3 f4:Int) (k12:Za T 506 [epb p,ekp c,.agg [.i .i64 s0,.i .i64 s1]]=some (.tup [.sl (Zd M) .an,Zb9 f1 f2 f3 f4]))
  (k14:Za T 509 [epb p,ekp c,.i .i64 s0,.i .i64 s1]=some (.tup [.sl (Zd M) .an,Zb9 f1 f2 f3 f4])) (k15:Za T 309 [.sl (Zd M) .an,.sl (Zd M) .an]=some (.b true)) (k16:Za T 510 [Zb9 f1 f2 f3 f4]=some (Zb9 f1 f2 f3 f4)) (q1:O=true) (q2:R=true) (F e:Nat) (hs0:s0=F) (he:c.ev=e) (he1:1<=e) (he2:e<=200) (q4:F<c.sz.length) (q5:F%e=0) (q6:s1=min ((F:Int)+(e:Int)) (c.sz.length:Int)) (y:List Fz) (hy:c.ys[F/e]? = some y) (q7:(y.length:Int)=p.t.dim) :
  Za T 494 [epb p,ehs h,ekp c,.agg [.i .i64 s0,.i .i64 s1,.i .i64 s2]]=some (.b true):=by
 unfold Zb7 Zik at hlo;rw[zaa Zcp.h494 rfl,b494];obtain⟨⟨code,outs,dim,par⟩,⟨nm,cc,a1,b,sche⟩,pp,bits⟩:=p;obtain⟨L,⟨t0,t1,t2⟩,hsy⟩:=h;obtain⟨ev,S,ts,ys⟩:=c;dsimp only at *
 obtain⟨Kev,KS,Kts,Kys⟩:=K;obtain⟨HL,⟨u0,u1,u2⟩,Hy⟩:=H;dsimp only at *
 rw[show (((0:Nat):Int))=0 from rfl]at hlo;have hb':¬ (3:Int)<(b.length:Int):=by omega
 have g1':¬ (3:Int)<(S.length:Int):=by omega
 have g2':¬ (4:Int)<(ts.length:Int):=by omega
 have g3':¬ (4:Int)<(ys.length:Int):=by omega
 subst q1 q2 hs0 he;have q3:¬ (F:Int)<0:=by omega
 have q4':¬ (S.length:Int)<=(F:Int):=by omega
 have q4'':¬ S.length<=F:=by omega
 have he0:¬ (e:Int)=0:=by omega
 have he00:¬ e=0:=by omega
 have hr:(F:Int).tmod (e:Int)=((F%e:Nat):Int):=(Ydt F e).symm;have hq:(F:Int).tdiv (e:Int)=((F/e:Nat):Int):=(Yfa F e).symm;have hws:∀X:Nat,X<=F->IntKind.wrap .i64 (X:Int)=(X:Int):=fun X hX=>zab _ (by omega);have hrw:=hws _ (Nat.mod_le F e);have hqw:=hws _ (Yb9 F e);have hw:IntKind.wrap .i64 ((F:Int)+(e:Int))=(F:Int)+(e:Int):=zab _ (by omega);rw[q5]at hr hrw;have q6':s1=(if (S.length:Int)<(F:Int)+(e:Int) then (S.length:Int) else (F:Int)+(e:Int)):=by
  rw[show (if (S.length:Int)<(F:Int)+(e:Int) then (S.length:Int) else (F:Int)+(e:Int))=min ((F:Int)+(e:Int)) (S.length:Int) by split<;>omega];exact q6
 obtain⟨y1,y2,y3⟩:=zaz hy;generalize F/e=X at *
 have wM:=zai M;generalize Zd M=MF at *
 by_cases hM:MF=[]
 ·subst hM;simp -implicitDefEqProofs[w,c1,c2,hb',h4,g1',g2',g3',hlo,k1,k2,k3,k4,k5,k6,k7,k8,k9,k10,k11,k12,k13,k14,k15,k16,q3,q4',q4'',he0,he00,hr,hq,hqw,hw,<-q6',mm2,hy,y1,y2,y3,q7]
 ·simp -implicitDefEqProofs[w,c1,c2,hb',h4,g1',g2',g3',hlo,k1,k2,k3,k4,k5,k6,k7,k8,k9,k10,k11,k12,k13,k14,k15,k16,q3,q4',q4'',he0,he00,hr,hq,hqw,hw,<-q6',mm2,hy,y1,y2,y3,q7,hM,wM]
end
def z8p{c m j:Nat}{s:Nat×Nat}(hc:1<=c)(h:(Zdj c m)[j]? = some s):s.1=j*c/\s.2=min (j*c+c) m/\j*c<m/\j<Zcr c m:=by
 unfold Zdj at h;rw[Yaf]at h;obtain⟨x,hx,rfl⟩:=Yao.1 h;obtain⟨g1,g2,g3⟩:=zm3 hc hx;subst g1;exact⟨rfl,rfl,g2,g3⟩
def Zt0(m:Nat)(L:List (Nat×Nat)):Nat->Nat
 | 0=>m
 | i+1=>((L[i]?).map (·.1)).getD 0
def zaon{t:Tp}{many words:Nat}(h:Zji t many words=false)(hm:many<=1000)(hw:words<=1000)(d1:-9223372036854775808<=t.dim)(d2:t.dim<9223372036854775808):TpS t:=by
 obtain⟨h1,h2,h3⟩:=zj2 h;exact⟨⟨by omega,by omega,fun i hi=>by grind,d1,d2⟩,fun i hi=>by grind⟩
def z8n{h:Hs}{B:Nat}(hs:HsS h B)(hB:1<=B):∀x∈Zcb h,fsz x<=B:=by
 intro x hx;unfold Zcb at hx;rcases Yag.1 hx with hx | hx
 ·obtain⟨r,hr,rfl⟩:=Yl.1 hx;unfold Zc1 at hr;obtain⟨q,hq,rfl⟩:=Yl.1 hr;have hq':=(Ydl.1 hq).1;show fsz (fz (fv q.t))<=B;rw[zax];exact za2 (hs.rt q hq' _ (by simp[Trr.nums])) hB
 ·rw[Ya1.1 hx,zax];exact za2 hs.t hB
def z8o{h:Hs}{B:Nat}(hs:HsS h B)(hB:1<=B):∀x∈Zaa h,fsz x<=B:=by
 intro x hx;unfold Zaa at hx;obtain⟨r,hr,rfl⟩:=Yl.1 hx;unfold Zc1 at hr;obtain⟨q,hq,rfl⟩:=Yl.1 hr;have hq':=(Ydl.1 hq).1;show fsz (fz (fv q.h))<=B;rw[zax];exact za2 (hs.rt q hq' _ (by simp[Trr.nums])) hB
def zzf{h:Hs}{B:Nat}(hs:HsS h B)(hB:1<=B):∀y∈Zb8 h,(∀x∈y,fsz x<=B)/\y.length<=1000:=by
 intro y hy;unfold Zb8 at hy;rcases Yag.1 hy with hy | hy
 ·obtain⟨r,hr,rfl⟩:=Yl.1 hy;unfold Zc1 at hr;obtain⟨q,hq,rfl⟩:=Yl.1 hr;have hq':=(Ydl.1 hq).1;refine⟨z0w (fun x hx=>hs.ry q hq' x hx) hB,?_⟩;show (nrm q.y).length<=1000;unfold nrm;rw[Yk];exact hs.rl q hq'
 ·rw[Ya1.1 hy];refine⟨z0w hs.y hB,?_⟩;unfold nrm;rw[Yk];exact hs.yl
def z3o{h:Hs}(hl:h.l.length<=1000):(Zaa h).length<=1000:=by
 unfold Zaa;rw[Yk];exact Yd (znc h.l) hl
def zm9{α:Type}{l:List α}{i:Nat}{d:α}:(l[i]?).getD d∈l\/(l[i]?).getD d=d:=by
 cases h:l[i]? with
 | none=>exact .inr rfl
 | some x=>exact .inl (Yf h)
def zae4{h:Hs}(hs:HsS h 6)(k:Int):((ofK h k).sz.length<=1000/\∀x∈(ofK h k).sz,fsz x<=10000)/\((ofK h k).ts.length<=1000/\∀x∈(ofK h k).ts,fsz x<=10000)/\(ofK h k).ys.length<=1000/\(∀r∈(ofK h k).ys,r.length<=1000)/\∀r∈(ofK h k).ys,∀x∈r,fsz x<=10000:=by
 have hm:=zg3 k (Zaa h).length;unfold ofK tsK ysK;dsimp only;refine⟨⟨z3o hs.len,fun x hx=>Yd (z8o hs (by decide) x hx) (by decide)⟩,⟨by rw[Yk];omega,fun x hx=>?_⟩,by rw[Yk];omega,fun r hr=>?_,fun r hr x hx=>?_⟩
 ·obtain⟨m,_,rfl⟩:=Yl.1 hx;rcases zm9 (l:=Zcb h) (i:=m) (d:=((false,[],[]):Fz)) with g | g
  ·exact Yd (z8n hs (by decide) _ g) (by decide)
  ·rw[g];decide
 ·obtain⟨m,_,rfl⟩:=Yl.1 hr;rcases zm9 (l:=Zb8 h) (i:=m) (d:=([]:List Fz)) with g | g
  ·exact(zzf hs (by decide) _ g).2
  ·rw[g];decide
 ·obtain⟨m,_,rfl⟩:=Yl.1 hr;rcases zm9 (l:=Zb8 h) (i:=m) (d:=([]:List Fz)) with g | g
  ·exact Yd ((zzf hs (by decide) _ g).1 x hx) (by decide)
  ·rw[g]at hx;cases hx
theorem z56{p:Pb}(hb:p.s.b.length<=3){n:Nat}(hn:p.t.outs.length=n):∀(hs:List Rat) (i:Nat) (t:Rat) (y:List Rat),y.length=n->∀r∈(anQ p hs i t y).1,r.length=n/\∀q∈r,sz q<=129
 | [],i,t,y,_,r,hr=>by cases hr
 | h::l,i,t,y,hy,r,hr=>by
  unfold anQ at hr;by_cases hk:(doQ p t h y).2.1=0
  ·rw[if_neg (by simpa using hk)]at hr;obtain⟨_,k2,k3⟩:=zy7 (by rw[hn,hy]) hb hk;rcases Yab.1 hr with rfl | hr
   ·exact⟨by rw[k2,hy],k3⟩
   ·exact z56 hb hn l (i+1) _ _ (by rw[k2,hy]) r hr
  ·rw[if_pos hk]at hr;cases hr
def zzg{c:Kp}{e:Nat}(he:c.ev=e)(h1:1<=e)(h2:e<=200)(hm:c.sz.length<=200)(s0 s1:Int):Zd8 c s0 s1=true↔∃j:Nat,s0=((j*e:Nat):Int)/\j*e<c.sz.length/\s1=((min (j*e+e) c.sz.length:Nat):Int):=by
 have hc:Zaj c.ev=e:=by rw[he];unfold Zaj;omega
 unfold Zd8 Zls;rw[hc,Ybl];by_cases h0:c.sz.length=0
 ·rw[if_pos (.inl (by omega))];constructor
  ·intro h;cases h
  ·rintro⟨j,_,h,_⟩;omega
 ·rw[if_neg (by omega),List.any_reverse,List.any_eq_true];constructor
  ·rintro⟨x,hx,h⟩
   obtain⟨j,hj⟩:=Yae hx;obtain⟨g1,g2,g3,_⟩:=z8p h1 hj;simp only[Yh,decide_eq_true_eq]at h;exact⟨j,by rw[<-h.1,g1],g3,by rw[<-h.2,g2]⟩
  ·rintro⟨j,e1,e2,e3⟩
   refine⟨(j*e,min (j*e+e) c.sz.length),?_,by simp[e1,e3]⟩;unfold Zdj Za8;rw[Ybh,Yl];exact⟨j,Yeh.2 ((zhr h1).2 e2),rfl⟩
section
variable{T:Tbl}[Zcp T][Zgl T][Zby T][Zaz T][Zar T][Ze2 T][Zdf T][Z1 T][Zcx T][Zdz T][Zdd T][Zdn T][Zgn T]
variable[Z2 T][Zu T][Zy T][Z0 T][Zt T][Zp T][Zi T][Zl T][Zs T][Zet T][Zad T][Zap T][Zc5 T][Zah T][Zaf T][Zbl T][Zas T][Zd7 T][Za9 T][Zbd T][Zba T][Zbt T][Zgo T][Zde T][Zal T][Zgp T][Zeu T][Zai T][Ze1 T][Zhf T]
variable[Zz T][Z8 T][Zx T][Zae T][Zw T][Zag T][Zq T][Z9 T][Zc3 T][Zdo T][Zgm T][Zij T][Ze9 T][Zcy T][Zbb T][Za7 T][Zcg T][Zc6 T]
def zu3(p:Pb)(h:Hs)(c:Kp)(s0 s1 s2:Int)(d1:-9223372036854775808<=p.t.dim)(d2:p.t.dim<9223372036854775808)(b1:∀x∈c.sz,WB x)(b2:∀x∈c.ts,WB x) :
  Za T 494 [epb p,ehs h,ekp c,.agg [.i .i64 s0,.i .i64 s1,.i .i64 s2]]=some (.b true):=by
 have w:=zre (T:=T);have c1:=zvb (T:=T) p 10 4 2 (by decide) (by decide);replace c1:Za T 496 [epb p,.i .i64 10,.i .i64 4,.i .i64 2]=some (.b (Zjj p 10 4 2)):=c1;have c2:=zl9 (T:=T) h 5 6 (by decide);replace c2:Za T 497 [ehs h,.i .i64 5,.i .i64 6]=some (.b (Zil h 5 6)):=c2;by_cases hA:Zjj p 10 4 2=true
 ·exact zes p h c s0 s1 s2 _ _ w c1 c2 (.inl hA)
 by_cases hb:3<p.s.b.length
 ·exact zes p h c s0 s1 s2 _ _ w c1 c2 (.inr (.inl hb))
 by_cases h4:400<p.bits
 ·exact zes p h c s0 s1 s2 _ _ w c1 c2 (.inr (.inr (.inl h4)))
 by_cases hB:Zil h 5 6=true
 ·exact zes p h c s0 s1 s2 _ _ w c1 c2 (.inr (.inr (.inr (.inl hB))))
 by_cases g1:3<c.sz.length
 ·exact zes p h c s0 s1 s2 _ _ w c1 c2 (.inr (.inr (.inr (.inr (.inl g1)))))
 by_cases g2:4<c.ts.length
 ·exact zes p h c s0 s1 s2 _ _ w c1 c2 (.inr (.inr (.inr (.inr (.inr (.inl g2))))))
 by_cases g3:4<c.ys.length
 ·exact zes p h c s0 s1 s2 _ _ w c1 c2 (.inr (.inr (.inr (.inr (.inr (.inr g3))))))
 rw[Ycr]at hA hB;rw[hA]at c1;rw[hB]at c2;have hl4:∀r:List Fz,Za T 497 [.agg [.sl [] .an,.b false,.sl [] .an,.sl [] .an,.sl (Zb r) .an],.i .i64 0,.i .i64 4]=some (.b (Zam r 8 4)):=by
  intro r;have:=zl9 (T:=T) ⟨[],(false,[],[]),r⟩ 0 4 (by decide);have e:Zil ⟨[],(false,[],[]),r⟩ 0 4=Zam r 8 4:=by
   unfold Zil;simp[fsz]
  rw[e]at this;exact this
 rcases zae3 (T:=T) p h c s0 s1 s2 w hl4 (by omega) (by omega) (by omega) b1 b2 with ⟨_,hlo⟩ | ⟨hfit,hlo⟩
 ·exact zze p h c s0 s1 s2 w c1 c2 hb h4 g1 g2 g3 hlo
 obtain⟨f1,f2,f3⟩:=hfit;have fz1:∀x∈c.sz,fsz x<=8:=fun x hx=>by have:=f1 x hx;unfold wN at this;unfold fsz;omega
 have fz2:∀x∈c.ts,fsz x<=8:=fun x hx=>by have:=f2 x hx;unfold wN at this;unfold fsz;omega
 have h1:=hA;unfold Zjj at h1;simp only[Yci]at h1;obtain⟨⟨l1,l2⟩,l3⟩:=h1;obtain⟨ps,_⟩:=zpe l2 (by decide) (by decide);obtain⟨pl,pw⟩:=zbb l3;have ht:=zaon l1 (by decide) (by decide) d1 d2;obtain⟨tc,tq,_⟩:=zj2 l1;have hp:PbS p:=⟨ht,ps,fun x hx=>Yd (pw x hx) (by decide),by omega⟩;obtain⟨hs6,hll,hyl,hrl⟩:=zrf hB (by decide);have hs:=hs6.mono (B:=1000) (by decide);have k1:=z3z (T:=T) h (by omega) (fun r hr=>by have:=hrl r hr;omega) (by omega);have k2:=z8i (T:=T) h s2 hs;have k3:=zv4 (T:=T) h hs;have k4:=z40 (T:=T) h s2 hs;have k5:=z3n (T:=T) c (by omega) (by omega) (zde (T:=T) _ (by omega)) (zde (T:=T) _ (by omega)) (zs5 (T:=T) _ (by omega) (fun r hr=>by have:=(f3 r hr).1;omega));obtain⟨⟨z1,z2⟩,⟨z3,z4⟩,z5,z6,z7⟩:=zae4 hs6 s2;have k6:=zm7 (T:=T) (ofK h s2).sz (ofK h s2).sz z1 z2;have k7:=zm7 (T:=T) (ofK h s2).ts (ofK h s2).ts z3 z4;have k8:=zm8 (T:=T) (ofK h s2).ys (ofK h s2).ys z5 z6 z7;rw[decide_eq_true rfl]at k6 k7 k8;have k9:=zfv (T:=T) c (by omega) (fun x hx=>Yd (fz1 x hx) (by decide));have k10:=zrs (T:=T) c (by omega) (fun x hx=>Yd (fz1 x hx) (by decide));have k11:=z3y (T:=T) p hp (by omega) (by omega);have k13:=zro (T:=T) p hp;have hszw:∀x∈c.sz,fsz x<=10000:=fun x hx=>Yd (fz1 x hx) (by decide);have form:okP p=false\/Zev c=false\/Zd8 c s0 s1=false->Za T 506 [epb p,ekp c,.agg [.i .i64 s0,.i .i64 s1]]=some (.tup [.sl [] .an,Zb9 2 0 0 0]):=fun hh=>zm5 (T:=T) p c s0 s1 hp (by omega) hszw hh;by_cases q1:okP p=true
 case neg=>
  rw[Ycr]at q1;exact zet p h c s0 s1 s2 w c1 c2 hb h4 g1 g2 g3 hlo k1 _ k2 _ k3 k4 k5 k6 k7 k8 _ k9 k10 k11 _ k13 (form (.inl q1)) (.inl q1)
 by_cases q2:Zev c=true
 case neg=>
  rw[Ycr]at q2;exact zet p h c s0 s1 s2 w c1 c2 hb h4 g1 g2 g3 hlo k1 _ k2 _ k3 k4 k5 k6 k7 k8 _ k9 k10 k11 _ k13 (form (.inr (.inl q2))) (.inr ⟨q1,.inl q2⟩)
 have hR:=q2;unfold Zev at hR;simp only[Yh,decide_eq_true_eq]at hR;obtain⟨_,⟨⟨r1,r2⟩,r3⟩,r4⟩:=hR;obtain⟨e,he⟩:∃e:Nat,c.ev=e:=⟨Zaj c.ev,r1⟩;have hce:Zaj c.ev=e:=by rw[he]at r1 ⊢;omega
 obtain⟨_,e1,e2⟩:=ze9 c.ev;rw[hce]at e1 e2;have hai:=zzg he e1 e2 (by omega) s0 s1;have nam:(¬ ∃j:Nat,s0=((j*e:Nat):Int)/\j*e<c.sz.length/\s1=((min (j*e+e) c.sz.length:Nat):Int))->Zd8 c s0 s1=false:=fun hh=>by
  cases hq:Zd8 c s0 s1 with
  | false=>rfl
  | true=>exact absurd (hai.1 hq) hh
 by_cases q3:s0<0
 ·exact zet p h c s0 s1 s2 w c1 c2 hb h4 g1 g2 g3 hlo k1 _ k2 _ k3 k4 k5 k6 k7 k8 _ k9 k10 k11 _ k13 (form (.inr (.inr (nam (by rintro⟨j,a,b,c⟩;omega))))) (.inr ⟨q1,.inr ⟨q2,.inl q3⟩⟩)
 by_cases q4:(c.sz.length:Int)<=s0
 ·exact zet p h c s0 s1 s2 w c1 c2 hb h4 g1 g2 g3 hlo k1 _ k2 _ k3 k4 k5 k6 k7 k8 _ k9 k10 k11 _ k13 (form (.inr (.inr (nam (by rintro⟨j,a,b,c⟩;omega))))) (.inr ⟨q1,.inr ⟨q2,.inr ⟨q3,.inl q4⟩⟩⟩)
 obtain⟨F,rfl⟩:∃F:Nat,s0=F:=⟨s0.toNat,by omega⟩;have hF:F<c.sz.length:=by omega
 by_cases q5:F%e=0
 case neg=>
  exact zet p h c F s1 s2 w c1 c2 hb h4 g1 g2 g3 hlo k1 _ k2 _ k3 k4 k5 k6 k7 k8 _ k9 k10 k11 _ k13 (form (.inr (.inr (nam (by
   rintro⟨j,a,b,_⟩
   have a':F=j*e:=by omega
   rw[a',Nat.mul_mod_left]at q5;exact q5 rfl))))) (.inr ⟨q1,.inr ⟨q2,.inr ⟨q3,.inr ⟨F,e,rfl,he,e1,e2,hF,.inl q5⟩⟩⟩⟩)
 have hFj:F=F/e*e:=(Nat.div_mul_cancel (Yez q5)).symm;by_cases q6:s1=min ((F:Int)+(e:Int)) (c.sz.length:Int)
 case neg=>
  exact zet p h c F s1 s2 w c1 c2 hb h4 g1 g2 g3 hlo k1 _ k2 _ k3 k4 k5 k6 k7 k8 _ k9 k10 k11 _ k13 (form (.inr (.inr (nam (by
   rintro⟨j,a,b,d⟩
   have a':F=j*e:=by omega
   rw[<-a']at d;exact q6 (by omega)))))) (.inr ⟨q1,.inr ⟨q2,.inr ⟨q3,.inr ⟨F,e,rfl,he,e1,e2,hF,.inr ⟨q5,.inl q6⟩⟩⟩⟩⟩)
 have hjm:F/e<(Za2 c.ev c.sz.length).length:=by
  unfold Za2;rw[if_neg (by omega),hce,Ybl];unfold Za8;rw[Yk,Yel];exact(zhr e1).2 (by omega)
 obtain⟨y,hy⟩:∃y,c.ys[F/e]? = some y:=⟨_,Yb (by omega)⟩;obtain⟨x,hx⟩:∃x,c.ts[F/e]? = some x:=⟨_,Yb (by omega)⟩;obtain⟨N,hN⟩:∃N:Nat,N=min (F+e) c.sz.length:=⟨_,rfl⟩;have hs1:s1=N:=by omega
 have hAm:Zd8 c F s1=true:=hai.2 ⟨F/e,by rw[<-hFj],by rw[<-hFj];exact hF,by rw[<-hFj,hs1,hN]⟩;have hj1:=(Yc.1 hx).1;have hj2:=(Yc.1 hy).1;have hxm:=fz2 x (Yf hx);have hym:=f3 y (Yf hy);have hyw:=(zbb hym.2).2;by_cases q7:(y.length:Int)=p.t.dim
 case neg=>
  exact zet p h c F s1 s2 w c1 c2 hb h4 g1 g2 g3 hlo k1 _ k2 _ k3 k4 k5 k6 k7 k8 _ k9 k10 k11 _ k13
   (zm6 (T:=T) p c F s1 hp (by omega) hszw q1 q2 hAm e (F/e) F N he e1 rfl hFj hj1 hj2 y hy x hx e2 (by omega) q7) (.inr ⟨q1,.inr ⟨q2,.inr ⟨q3,.inr ⟨F,e,rfl,he,e1,e2,hF,.inr ⟨q5,.inr ⟨q6,y,hy,q7⟩⟩⟩⟩⟩⟩)
 have hok2:=q1;unfold okP at hok2;simp only[Yh,decide_eq_true_eq]at hok2;have hO:=(zcq p.t).1 hok2.1.1;have hn:p.t.outs.length=y.length:=by have:=hO.ol;omega
 have k12:=zpa (T:=T) p c F s1 hp (by omega) (fun u hu=>Yd (fz1 u hu) (by decide)) q1 q2 hAm e (F/e) F N he e1 rfl hFj hF hs1 (by omega) (by omega) hj1 hj2 y hy x hx q7 (by omega) (by omega) (fun u hu=>Yd (hyw u hu) (by decide));have k14:=zv6 (T:=T) p c hp q1 e (F/e) F N he e1 e2 hFj (by omega) (by omega) (by omega) (fun u hu=>Yd (fz1 u hu) (by decide)) y hy x hx q7 (by omega) (by omega) (fun u hu=>Yd (hyw u hu) (by decide));rw[<-hs1]at k14;have hsz:=z56 (p:=p) (by omega) hn (((c.sz.take (N-1)).drop F).map fv) 0 (fv x) (y.map fv) (by rw[Yk]);have hhl:∀(l:List Rat) (i:Nat) (t:Rat) (y:List Rat),(anQ p l i t y).1.length<=l.length:=by
  intro l
  induction l with
  | nil=>intro i t y;exact Ye _
  | cons a l ih=>
   intro i t y;unfold anQ;split
   ·exact Yv _
   ·rw[Yr,Yr];have:=ih (i+1) (t+a) (doQ p t a y).1.nx;omega
 have hlen:=hhl (((c.sz.take (N-1)).drop F).map fv) 0 (fv x) (y.map fv);rw[Yk,Ybv,Y3]at hlen;generalize anQ p (((c.sz.take (N-1)).drop F).map fv) 0 (fv x) (y.map fv)=R at *
 by_cases hk:R.2.1=0
 ·rw[if_pos hk]at k12 k14;have k15:=zm8 (T:=T) (fzs (y.map fv)::R.1.map fzs) (fzs (y.map fv)::R.1.map fzs) (by rw[Yr,Yk];omega) (fun r hr=>by
   rcases Yab.1 hr with rfl | hr
   ·rw[zae,Yk];have:=hym.1;omega
   ·obtain⟨v,hv,rfl⟩:=Yl.1 hr;rw[zae,(hsz v hv).1];have:=hym.1;omega) (fun r hr u hu=>by
   rcases Yab.1 hr with rfl | hr
   ·obtain⟨v,hv,rfl⟩:=Yl.1 hu;obtain⟨z,hz,rfl⟩:=Yl.1 hv;rw[zax];exact Yd (za2 (hyw z hz) (by decide)) (by decide)
   ·obtain⟨v,hv,rfl⟩:=Yl.1 hr;obtain⟨z,hz,rfl⟩:=Yl.1 hu;rw[zax];exact Yd ((hsz v hv).2 z hz) (by decide))
  rw[decide_eq_true rfl]at k15;exact zs6 p h c F s1 s2 w c1 c2 hb h4 g1 g2 g3 hlo k1 _ k2 _ k3 k4 k5 k6 k7 k8 _ k9 k10 k11 _ k13 _ _ _ _ _ k12 k14 k15 (zj3 (T:=T) _ _ _ _) q1 q2 F e rfl he e1 e2 hF q5 q6 y hy q7
 ·rw[if_neg hk]at k12 k14;have k15:=zm8 (T:=T) [] [] (by simp) (by simp) (by simp);rw[decide_eq_true rfl]at k15;exact zs6 p h c F s1 s2 w c1 c2 hb h4 g1 g2 g3 hlo k1 _ k2 _ k3 k4 k5 k6 k7 k8 _ k9 k10 k11 _ k13 [] _ _ _ _ k12 k14 k15 (zj3 (T:=T) _ _ _ _) q1 q2 F e rfl he e1 e2 hF q5 q6 y hy q7
end
end Go.Ab