/-
  A calculus of values, boxes and code, and what functions of the program compute, proved in it.
  Conditions: none beyond those that the theorems state. (Part 8.)
-/
import Derived.Test.YthonocjkfhnfgaaGreatDoorPart7

set_option linter.unusedSectionVars false
set_option linter.unusedVariables false
set_option linter.unusedSimpArgs false
set_option linter.unnecessarySimpa false

namespace Go.Ab
def aloF(x:PoF)(j:JcF)(i:Nat):Fz×Nat×Nat×Nat:=
 (fz (fv (j.t.getD i (false,[],[]))*fv x.t+(dotQ (j.y.getD i []) x.y+dotQ (j.p.getD i []) x.p)),if (j.y.getD i []).length=x.y.length∧(j.p.getD i []).length=x.p.length then 0 else 1,0,0)
def aloR(j:JcF)(x:PoF):List Fz×Nat×Nat×Nat:=if j.y.length=j.t.length∧j.p.length=j.t.length then gath (aloF x j) j.t.length 0 [] else ([],1,0,0)
def stAl(x:PoF)(j:JcF)(i:Nat)(acc:List Fz):St:=
 ⟨[(2,.ptr (.loc 2) 1 3 0 0),(3,.ptr (.loc 3) 2 5 0 0),(6,.bs (.loc 6) 3 3 0 i),(30,.sl (rowF j.t) .an),(31,.i .i64 j.t.length),(32,.i .i64 i)],
  [(.loc 2,⟨1,.str,3,[[.sl (rowF j.t) .an,.sl (matF j.y) .an,.sl (matF j.p) .an]]⟩),(.loc 3,⟨2,.str,5,[[.b x.t.1,.sl (u32s x.t.2.1) .an,.sl (u32s x.t.2.2) .an,.sl (rowF x.y) .an,.sl (rowF x.p) .an]]⟩),(.loc 6,⟨3,.own,3,rowF acc⟩)],5⟩
def endAl(R:List Fz×Nat×Nat×Nat)(n:Nat):Ex×St:=
 if R.2.1=0 then (.n,⟨[(6,.bs (.loc 6) 1 3 0 n)],[(.loc 6,⟨1,.own,3,rowF R.1⟩)],3⟩) else (.r,⟨[(4,.sl [] .an),(5,.b false)],[],2⟩)
theorem zu3{a b:List Fz}{B K:Nat}(ha:∀u∈a,fsz u≤B)(hb:∀u∈b,fsz u≤B)(hB:1≤B)(hl:a.length≤K):sz (dotQ a b)≤K*(2*B+1)+1:=by
 have w:∀(l:List Fz),(∀u∈l,fsz u≤B)→∀q∈l.map fv,sz q≤B:=by
  intro l h q hq
  obtain⟨u,hu,rfl⟩:=List.mem_map.1 hq
  exact za6 (h u hu) hB
 have z:=zyn (a.map fv) (b.map fv) (w _ ha) (w _ hb)
 rw[←zy1,List.length_map]at z
 exact Nat.le_trans z (Nat.succ_le_succ (Nat.mul_le_mul_right _ hl))
section
variable{T:Tbl}[CLimb T][CNat T][CProd T][CTwos T][CQuot T][CQuotD T][CWhole T][CCommon T][CFrac T][CFrac3 T][CFrac5 T][CPow T][CTape T][CGauge T][CEval T][CRun T][CIfc T][CDigits T][CText T][CJoin T][CRow T][CGrid T][CPull T][CPush T][CIfc2 T][CFn424 T][CSlope T][CFn416 T][CFn418 T]
theorem zq4(x:PoF)(j:JcF)(hx:PoS x 48)(hj:JcS j 48 10)(h1:j.y.length=j.t.length)(h2:j.p.length=j.t.length) :
  loopN T 0 0 (.norm false [6]) l400_0 (stAl x j 0 [])=some (endAl (gath (aloF x j) j.t.length 0 []) j.t.length):=by
 have key:=zbg (T:=T) (k:=0) (id:=0) (g2:=.norm false [6]) (c:=l400_0) (fun z:Nat×List Fz=>stAl x j z.1 z.2)
  (fun z=>z.1≤j.t.length∧z.2.length=z.1) (fun z=>j.t.length-z.1)
  (fun z=>some (endAl (gath (aloF x j) (j.t.length-z.1) z.1 z.2) j.t.length)) ?_ (0,[]) ⟨Nat.zero_le _,rfl⟩
 ·exact key
 rintro⟨i,acc⟩ ⟨hi,hal⟩
 have htl:=hj.tl
 dsimp only at *
 by_cases hlt:i<j.t.length
 ·have hi':(i:Int)<j.t.length:=by omega
  have hws:=zbx hlt (by omega)
  have hb:i≤4294967295:=by omega
  have ht:List.take i acc=acc:=List.take_of_length_le (by omega)
  obtain⟨m,hm⟩:∃m,j.t.length-i=m+1:=⟨j.t.length-i-1,by omega⟩
  have g1:j.t[i]? = some (j.t[i]'hlt):=List.getElem?_eq_getElem hlt
  have g2:j.y[i]? = some (j.y[i]'(by omega)):=List.getElem?_eq_getElem (by omega)
  have g3:j.p[i]? = some (j.p[i]'(by omega)):=List.getElem?_eq_getElem (by omega)
  have d1:j.t.getD i (false,[],[])=j.t[i]'hlt:=by rw[List.getD_eq_getElem?_getD,g1];rfl
  have d2:j.y.getD i []=j.y[i]'(by omega):=by rw[List.getD_eq_getElem?_getD,g2];rfl
  have d3:j.p.getD i []=j.p[i]'(by omega):=by rw[List.getD_eq_getElem?_getD,g3];rfl
  have s1:=hj.t _ (List.getElem_mem hlt)
  have s2:=hj.y _ (List.getElem_mem (l:=j.y) (n:=i) (by omega))
  have s3:=hj.p _ (List.getElem_mem (l:=j.p) (n:=i) (by omega))
  have n2:=hj.yr _ (List.getElem_mem (l:=j.y) (n:=i) (by omega))
  have n3:=hj.pr _ (List.getElem_mem (l:=j.p) (n:=i) (by omega))
  have hF:aloF x j i=(fz (fv (j.t[i]'hlt)*fv x.t+(dotQ (j.y[i]'(by omega)) x.y+dotQ (j.p[i]'(by omega)) x.p)),if (j.y[i]'(by omega)).length=x.y.length∧(j.p[i]'(by omega)).length=x.p.length then 0 else 1,0,0):=by
   unfold aloF;rw[d1,d2,d3]
  rw[hm,gath,hF]
  clear hF d1 d2 d3
  have ge1:=(List.getElem?_eq_some_iff.1 g1).2
  have ge2:=(List.getElem?_eq_some_iff.1 g2).2
  have ge3:=(List.getElem?_eq_some_iff.1 g3).2
  have hiy:i<j.y.length:=by omega
  have hip:i<j.p.length:=by omega
  have hiy':(i:Int)<j.y.length:=by omega
  have hip':(i:Int)<j.p.length:=by omega
  generalize j.t[i]'hlt=ti at *
  generalize j.y[i]'hiy=yi at *
  generalize j.p[i]'hip=pi at *
  have c1:=zul (T:=T) yi x.y (B:=48) s2 hx.y (by decide) (by omega)
  have c2:=zul (T:=T) pi x.p (B:=48) s3 hx.p (by decide) (by omega)
  by_cases hk:yi.length=x.y.length∧pi.length=x.p.length
  ·left
   rw[if_pos hk]
   rw[if_pos hk.1]at c1
   rw[if_pos hk.2]at c2
   have z1:=zu3 (K:=10) s2 hx.y (by decide) n2
   have z2:=zu3 (K:=10) s3 hx.p (by decide) n3
   have z3:=zeq (dotQ yi x.y) (dotQ pi x.p)
   have z4:=zbc (fv ti) (fv x.t)
   have z5:=za6 s1 (by decide)
   have z6:=za6 hx.t (by decide)
   have k1:=zbr (T:=T) ti x.t (by omega) (by have:=hx.t;omega)
   have k2:=zcr (T:=T) (fz (dotQ yi x.y)) (fz (dotQ pi x.p)) (by rw[zas];omega) (by rw[zas];omega)
   rw[za7,za7]at k2
   have k3:=zcr (T:=T) (fz (fv ti*fv x.t)) (fz (dotQ yi x.y+dotQ pi x.p)) (by rw[zas];omega) (by rw[zas];omega)
   rw[za7,za7]at k3
   refine⟨(i+1,acc++[fz (fv ti*fv x.t+(dotQ yi x.y+dotQ pi x.p))]),⟨by omega,by simp[hal]⟩,by dsimp only;omega,?_,?_⟩
   ·have hp:=zcs hal (fz (fv ti*fv x.t+(dotQ yi x.y+dotQ pi x.p)))
    rw[ht]at hp
    clear z1 z2 z3 z4 z5 z6 hx hj hk s1 s2 s3 n2 n3
    generalize fz (fv ti*fv x.t+(dotQ yi x.y+dotQ pi x.p))=v1 at *
    generalize fz (fv ti*fv x.t)=v2 at *
    generalize fz (dotQ yi x.y+dotQ pi x.p)=v3 at *
    generalize fz (dotQ yi x.y)=v4 at *
    generalize fz (dotQ pi x.p)=v5 at *
    obtain⟨⟨x0,x1,x2⟩,xy,xp⟩:=x
    obtain⟨jt,jy,jp⟩:=j
    dsimp only at *
    unfold stAl
    simp -implicitDefEqProofs[l400_0,hi',hlt,hiy,hip,hiy',hip',g1,g2,g3,ge1,ge2,ge3,hws,hp,ht,hal,hb,c1,c2,k1,k2,k3]
   ·rw[if_pos rfl,show j.t.length-(i+1)=m by omega]
  ·right
   rw[if_neg hk,if_neg (by simp)]
   have c1':∃(u:Fz) (b1:Bool),callF T 270 [.sl (rowF yi) .an,.sl (rowF x.y) .an]=some (.tup [efz u,.b b1])∧(b1=true→yi.length=x.y.length):=by
    by_cases h:yi.length=x.y.length
    ·rw[if_pos h]at c1;exact⟨_,_,c1,fun _=>h⟩
    ·rw[if_neg h]at c1;exact⟨_,_,c1,fun h=>by cases h⟩
   have c2':∃(u:Fz) (b1:Bool),callF T 270 [.sl (rowF pi) .an,.sl (rowF x.p) .an]=some (.tup [efz u,.b b1])∧(b1=true→pi.length=x.p.length):=by
    by_cases h:pi.length=x.p.length
    ·rw[if_pos h]at c2;exact⟨_,_,c2,fun _=>h⟩
    ·rw[if_neg h]at c2;exact⟨_,_,c2,fun h=>by cases h⟩
   obtain⟨v1,b1,e1,f1⟩:=c1'
   obtain⟨v2,b2,e2,f2⟩:=c2'
   have hbb:(b1&&b2)=false:=by
    cases b1 with
    | false=>rfl
    | true=>
     cases b2 with
     | false=>rfl
     | true=>exact absurd ⟨f1 rfl,f2 rfl⟩ hk
   clear c1 c2 f1 f2 hk hx hj s1 s2 s3 n2 n3
   unfold stAl endAl
   obtain⟨⟨x0,x1,x2⟩,xy,xp⟩:=x
   obtain⟨jt,jy,jp⟩:=j
   dsimp only at *
   rw[if_neg (by simp)]
   cases b1 with
   | false=>constructor<;>simp -implicitDefEqProofs[l400_0,hi',hlt,hiy,hip,hiy',hip',g1,g2,g3,ge1,ge2,ge3,e1,e2]
   | true=>
    cases b2 with
    | false=>constructor<;>simp -implicitDefEqProofs[l400_0,hi',hlt,hiy,hip,hiy',hip',g1,g2,g3,ge1,ge2,ge3,e1,e2]
    | true=>cases hbb
 ·right
  have e:i=j.t.length:=by omega
  subst e
  have ht:List.take j.t.length acc=acc:=List.take_of_length_le (by omega)
  rw[Nat.sub_self,gath]
  unfold stAl endAl
  rw[if_pos rfl]
  obtain⟨⟨x0,x1,x2⟩,xy,xp⟩:=x
  obtain⟨jt,jy,jp⟩:=j
  constructor<;>simp -implicitDefEqProofs[l400_0]
theorem znv(x:PoF)(j:JcF)(hx:PoS x 48)(hj:JcS j 48 10) :
  callF T 400 [ejac j,ept x]=some (.tup [.sl (rowF (aloR j x).1) .an,.b (decide ((aloR j x).2.1=0))]):=by
 unfold aloR
 by_cases h1:j.y.length=j.t.length
 ·have h1':(j.y.length:Int)=j.t.length:=by omega
  by_cases h2:j.p.length=j.t.length
  ·have h2':(j.p.length:Int)=j.t.length:=by omega
   rw[if_pos ⟨h1,h2⟩]
   have h:=zq4 (T:=T) x j hx hj h1 h2
   unfold stAl endAl at h
   simp only[Int.natCast_zero,zcf]at h
   by_cases hk:(gath (aloF x j) j.t.length 0 []).2.1=0
   ·obtain⟨e1,_,_⟩:=zcu _ _ _ _ hk
    rw[if_pos hk]at h
    have hl2:(gath (aloF x j) j.t.length 0 []).1.length=j.t.length:=by rw[e1];simp
    rw[decide_eq_true hk]
    clear e1 hk hx hj
    generalize (gath (aloF x j) j.t.length 0 []).1=L at *
    obtain⟨⟨x0,x1,x2⟩,xy,xp⟩:=x
    obtain⟨jt,jy,jp⟩:=j
    dsimp only at *
    have ht:List.take jt.length L=L:=List.take_of_length_le (by omega)
    rw[f400 _ rfl,b400]
    simp -implicitDefEqProofs[h,hl2,ht,h1,h1',h2,h2']
   ·rw[if_neg hk]at h
    rw[zgv _ _ _ _ hk,decide_eq_false hk]
    clear hk hx hj
    obtain⟨⟨x0,x1,x2⟩,xy,xp⟩:=x
    obtain⟨jt,jy,jp⟩:=j
    dsimp only at *
    rw[f400 _ rfl,b400]
    simp -implicitDefEqProofs[h,h1,h1',h2,h2']
  ·rw[if_neg (fun h=>h2 h.2)]
   have h2':¬ (j.p.length:Int)=j.t.length:=by omega
   obtain⟨⟨x0,x1,x2⟩,xy,xp⟩:=x
   obtain⟨jt,jy,jp⟩:=j
   dsimp only at *
   rw[f400 _ rfl,b400]
   simp -implicitDefEqProofs[h1,h1',h2,h2']
 ·rw[if_neg (fun h=>h1 h.1)]
  have h1':¬ (j.y.length:Int)=j.t.length:=by omega
  obtain⟨⟨x0,x1,x2⟩,xy,xp⟩:=x
  obtain⟨jt,jy,jp⟩:=j
  dsimp only at *
  rw[f400 _ rfl,b400]
  simp -implicitDefEqProofs[h1,h1']
end
class CLaw28p (T:Tbl):Prop where
theorem zty:∀(a b:List Fz),dotQ a b=dotW (a.map fv) (b.map fv)
 | [],_=>by simp[dotQ,dotW]
 | _::_,[]=>by simp[dotQ,dotW]
 | x::a,y::b=>by
  rw[dotQ,List.map_cons,List.map_cons,dotW,zty a b]
theorem znw(l:List Rat):l=(List.range l.length).map fun i=>gI l (i:Nat):=by
 refine List.ext_getElem (by simp) fun i h1 h2=>?_
 rw[List.getElem_map,List.getElem_range]
 unfold gI
 rw[List.getD_eq_getElem?_getD,Int.toNat_natCast,List.getElem?_eq_getElem h1]
 rfl
theorem zpb{α:Type}(F:Nat→α×Nat×Nat×Nat):∀(n i:Nat) (acc:List α),(∀k,k<n→(F (i+k)).2.1=0)→gath F n i acc=(acc++(List.range n).map (fun k=>(F (i+k)).1),0,0,0)
 | 0,i,acc,_=>by simp[gath]
 | n+1,i,acc,h=>by
  rw[gath,if_pos (by have:=h 0 (Nat.succ_pos _);rwa [Nat.add_zero]at this),zpb F n (i+1) _ (fun k hk=>by rw[show i+1+k=i+(k+1) by omega];exact h (k+1) (by omega))]
  congr 1
  rw[List.range_succ_eq_map,List.map_cons,List.map_map,List.append_assoc,List.singleton_append]
  congr 2
  refine List.map_congr_left fun k _=>?_
  show (F (i+1+k)).1=(F (i+(k+1))).1
  rw[show i+1+k=i+(k+1) by omega]
theorem zdc:∀(l:List Rat) (n:Nat),dotW l (List.replicate n 0)=0
 | [],n=>by unfold dotW;rfl
 | a::l,0=>by unfold dotW;rfl
 | a::l,n+1=>by
  rw[List.replicate_succ,dotW,zdc l n]
  grind
theorem zme:∀(l m:List Rat),dotW l m=dotW m l
 | [],[]=>rfl
 | [],_::_=>rfl
 | _::_,[]=>rfl
 | a::l,b::m=>by rw[dotW,dotW,zme l m,Rat.mul_comm]
theorem zfm:∀(l:List Rat) (n k:Nat),l.length=n→k<n→dotW l ((List.replicate n 0).set k 1)=gI l (k:Nat)
 | [],n,k,h,hk=>by simp at h;omega
 | a::l,0,k,h,hk=>by simp at h
 | a::l,n+1,0,h,hk=>by
  rw[List.replicate_succ,List.set_cons_zero,dotW,zdc]
  show a*1+0=a
  grind
 | a::l,n+1,k+1,h,hk=>by
  rw[List.replicate_succ,List.set_cons_succ,dotW,zfm l n k (by simpa using h) (by omega)]
  show a*0+gI l (k:Nat)=gI l (k:Nat)
  grind
theorem zh7{n k:Nat}(h:k<n)(hn:n≤300):unitR n k=(List.replicate n 0).set k 1:=by
 unfold unitR
 rw[zf5 hn,if_pos (by omega),Int.toNat_natCast]
theorem zmf(n K:Nat)(f g:Nat→List Rat)(hf:∀i,i<n→(f i).length=K)(hg:∀r,r<K→(g r).length=n)(h:∀r i,r<K→i<n→gI (f i) (r:Nat)=gI (g r) (i:Nat)) :
  (besd ((List.range n).map fun i=>fzs (f i)) K).map (·.map fv)=(List.range K).map g:=by
 unfold besd
 cases n with
 | zero=>
  have e0:(List.range 0).map (fun i=>fzs (f i))=[]:=rfl
  rw[e0,if_pos rfl,List.map_replicate]
  refine List.ext_getElem (by simp) fun r h1 h2=>?_
  rw[List.getElem_replicate,List.getElem_map,List.getElem_range]
  have hr:r<K:=by simpa using h1
  have:=hg r hr
  exact(List.eq_nil_of_length_eq_zero this).symm
 | succ n=>
  have hw:widthM ((List.range (n+1)).map fun i=>fzs (f i))=K:=by
   rw[List.range_succ_eq_map,List.map_cons]
   show (fzs (f 0)).length=K
   rw[zae,hf 0 (Nat.succ_pos _)]
  have hr:rightM ((List.range (n+1)).map fun i=>fzs (f i))=true:=by
   unfold rightM
   rw[hw,List.all_eq_true]
   intro r hr
   obtain⟨i,hi,rfl⟩:=List.mem_map.1 hr
   rw[zae,hf i (List.mem_range.1 hi)]
   simp
  rw[if_neg (by simp),if_pos hr,hw]
  unfold turnM
  rw[List.map_map]
  refine List.map_congr_left fun r hr=>?_
  have hr:=List.mem_range.1 hr
  show (nrm (colM _ r)).map fv=g r
  unfold nrm colM
  rw[List.map_map,List.map_map,List.map_map,znw (g r),hg r hr]
  refine List.map_congr_left fun i hi=>?_
  have hi:=List.mem_range.1 hi
  rw[←h r i hr hi]
  show fv (fz (fv ((fzs (f i)).getD r (false,[],[]))))=_
  rw[za7]
  have hlt:r<(f i).length:=by rw[hf i hi];exact hr
  rw[List.getD_eq_getElem?_getD,zh4 (List.getElem?_eq_getElem hlt)]
  show fv (fz _)=_
  rw[za7]
  unfold gI
  rw[List.getD_eq_getElem?_getD,Int.toNat_natCast,List.getElem?_eq_getElem hlt]
  rfl
theorem z6w:fv ((false,[],[]):Fz)=0:=by decide +kernel
theorem zxq(G:Po)(n m:Nat)(hy:G.y.length=n)(hp:G.p.length=m)(hn:n≤300)(hm:m≤300) :
  meet G (dirP n m 0).v=G.t∧(∀i,i<n→meet G (dirP n m (i+1)).v=gI G.y (i:Nat))∧∀i,i<m→meet G (dirP n m (1+n+i)).v=gI G.p (i:Nat):=by
 have hz:∀k,(List.replicate k (fz 0)).map fv=List.replicate k 0:=fun k=>by rw[List.map_replicate,za7]
 refine⟨?_,fun i hi=>?_,fun i hi=>?_⟩
 ·unfold dirP PoF.v meet
  rw[if_pos rfl]
  dsimp only
  rw[hz,hz,zdc,zdc,za7]
  grind
 ·unfold dirP PoF.v meet
  rw[if_neg (by omega),if_pos (by omega)]
  dsimp only
  rw[hz,zdc,z6w,show (((i+1:Nat):Int)-1)=(i:Nat) by omega,zh7 hi hn,zgg,zfm _ _ _ hy hi]
  grind
 ·unfold dirP PoF.v meet
  rw[if_neg (by omega),if_neg (by omega)]
  dsimp only
  rw[hz,zdc,z6w,show (((1+n+i:Nat):Int)-1-n)=(i:Nat) by omega,zh7 hi hm,zgg,zfm _ _ _ hp hi]
  grind
theorem zq5{lim:Nat}{t:Tp}{x y:PoF}(hlim:lim/32+1≤48)(h1:(rowsR lim t x.v).2.1=0)(h2:(colsR lim t x).2.1=0)(h3:(pushT lim t x.v y.v).2.2.1=0) :
  sameJ (rowsJ lim t x.v) (colsJ lim t x)=true∧aloR (rowsJ lim t x.v) y=(fzs (outsR t (pushT lim t x.v y.v).2.1),0,0,0)∧JcS (rowsJ lim t x.v) 48 10:=by
 obtain⟨okt,b1,b2,b3,b4,_,_,_,_,_,_⟩:=zkl h3
 have hn:x.v.y.length=x.y.length:=List.length_map _
 have hm:x.v.p.length=x.p.length:=List.length_map _
 have hn':y.v.y.length=y.y.length:=List.length_map _
 have hm':y.v.p.length=y.p.length:=List.length_map _
 have d1:=okt.d1
 have d2:=okt.d2
 have p1:=okt.p1
 have p2:=okt.p2
 have ol:=okt.ol
 have hK:manyO t=t.outs.length:=by unfold manyO;omega
 obtain⟨r1,_,r3⟩:=zcu _ _ _ _ h1
 obtain⟨c1,_,c3⟩:=zcu _ _ _ _ h2
 have hR:(rowsR lim t x.v).1=(List.range t.outs.length).map fun r=>(rowG lim t x.v r).1:=by
  have:(rowsR lim t x.v).1=[]++(List.range (manyO t)).map (fun k=>(rowG lim t x.v (0+k)).1):=r1
  rw[this,hK,List.nil_append]
  exact List.map_congr_left fun c _=>by rw[Nat.zero_add]
 have hC:(colsR lim t x).1=(List.range (1+x.y.length+x.p.length)).map fun c=>(colG lim t x c).1:=by
  have:(colsR lim t x).1=[]++(List.range (1+x.y.length+x.p.length)).map (fun k=>(colG lim t x (0+k)).1):=c1
  rw[this,List.nil_append]
  exact List.map_congr_left fun c _=>by rw[Nat.zero_add]
 -- a component's gradient
 have hG:∀r,r<t.outs.length→(backT lim t x.v (unitR t.outs.length r)).2.1=0:=fun r hr=>by
  have:=r3 r (by rw[hK];exact hr)
  rwa [Nat.zero_add]at this
 have gl:∀r,r<t.outs.length→(backT lim t x.v (unitR t.outs.length r)).1.y.length=x.y.length∧(backT lim t x.v (unitR t.outs.length r)).1.p.length=x.p.length:=fun r hr=>by
  obtain⟨_,l1,l2,_⟩:=zj5 (hG r hr)
  exact⟨by rw[l1];omega,by rw[l2];omega⟩
 -- what a direction's slopes are made of
 have hv:∀(B:PoF) (r:Nat),(pushT lim t x.v B.v).2.2.1=0→r<t.outs.length→gI (outsR t (pushT lim t x.v B.v).2.1) (r:Nat)=meet (backT lim t x.v (unitR t.outs.length r)).1 B.v:=fun B r hB hr=>by
  have:=(zvm hB (hG r hr)).1
  rw[←this,zh7 hr (by omega),zme]
  exact(zfm _ _ _ (List.length_map _) hr).symm
 have hc0:∀c,c<1+x.y.length+x.p.length→(pushT lim t x.v (dirP x.y.length x.p.length c).v).2.2.1=0∧(colG lim t x c).1=fzs (outsR t (pushT lim t x.v (dirP x.y.length x.p.length c).v).2.1):=fun c hc=>by
  have h:=c3 c hc
  rw[Nat.zero_add]at h
  obtain⟨h4,h5⟩:=ze0 (show (fieldD lim t x.v (dirP x.y.length x.p.length c).v).2.2.1=0 from h)
  refine⟨h4,?_⟩
  unfold colG
  rw[h5]
 have hol:∀D:List Rat,(outsR t D).length=t.outs.length:=fun D=>by simp[outsR]
 have hJ:rowsJ lim t x.v=jacP ((List.range t.outs.length).map fun r=>(rowG lim t x.v r).1):=by unfold rowsJ;rw[if_pos h1,hR]
 have md:∀r,r<t.outs.length→_:=fun r hr=>zxq (backT lim t x.v (unitR t.outs.length r)).1 x.y.length x.p.length (gl r hr).1 (gl r hr).2 (by omega) (by omega)
 refine⟨?_,?_,?_⟩
 ·rw[hJ]
  unfold colsJ
  rw[if_pos h2,hC]
  unfold sameJ jacP jacC
  dsimp only
  have e1:(List.map PoF.t (List.map (fun r=>(rowG lim t x.v r).1) (List.range t.outs.length))).map fv=(((List.range (1+x.y.length+x.p.length)).map fun c=>(colG lim t x c).1).getD 0 []).map fv:=by
   have e:((List.range (1+x.y.length+x.p.length)).map fun c=>(colG lim t x c).1).getD 0 []=(colG lim t x 0).1:=by
    rw[show 1+x.y.length+x.p.length=(x.y.length+x.p.length)+1 by omega,List.range_succ_eq_map,List.map_cons]
    rfl
   rw[e,(hc0 0 (by omega)).2,zgg,List.map_map,List.map_map,znw (outsR t _),hol]
   refine List.map_congr_left fun r hr=>?_
   have hr:=List.mem_range.1 hr
   rw[hv _ r (hc0 0 (by omega)).1 hr,(md r hr).1]
   show fv (fz _)=_
   rw[za7]
  have ey:(((List.range (1+x.y.length+x.p.length)).map fun c=>(colG lim t x c).1).take (1+x.y.length)).tail=(List.range x.y.length).map fun i=>fzs (outsR t (pushT lim t x.v (dirP x.y.length x.p.length (i+1)).v).2.1):=by
   rw[←List.map_take,List.take_range,Nat.min_eq_left (by omega),Nat.add_comm 1,List.range_succ_eq_map,List.map_cons,List.tail_cons,List.map_map]
   refine List.map_congr_left fun i hi=>?_
   have hi:=List.mem_range.1 hi
   exact(hc0 (i+1) (by omega)).2
  have ep:((List.range (1+x.y.length+x.p.length)).map fun c=>(colG lim t x c).1).drop (1+x.y.length)=(List.range x.p.length).map fun i=>fzs (outsR t (pushT lim t x.v (dirP x.y.length x.p.length (1+x.y.length+i)).v).2.1):=by
   refine List.ext_getElem (by simp) fun i h1 h2=>?_
   have hi:i<x.p.length:=by simpa using h2
   rw[List.getElem_drop,List.getElem_map,List.getElem_map,List.getElem_range,List.getElem_range]
   exact(hc0 (1+x.y.length+i) (by omega)).2
  have f1:=zmf x.y.length t.outs.length (fun i=>outsR t (pushT lim t x.v (dirP x.y.length x.p.length (i+1)).v).2.1) (fun r=>(backT lim t x.v (unitR t.outs.length r)).1.y) (fun i _=>hol _) (fun r hr=>(gl r hr).1) (fun r i hr hi=>by
   rw[hv _ r (hc0 (i+1) (by omega)).1 hr,(md r hr).2.1 i hi])
  have f2:=zmf x.p.length t.outs.length (fun i=>outsR t (pushT lim t x.v (dirP x.y.length x.p.length (1+x.y.length+i)).v).2.1) (fun r=>(backT lim t x.v (unitR t.outs.length r)).1.p) (fun i _=>hol _) (fun r hr=>(gl r hr).2) (fun r i hr hi=>by
   rw[hv _ r (hc0 (1+x.y.length+i) (by omega)).1 hr,(md r hr).2.2 i hi])
  rw[ey,ep,f1,f2,e1,decide_eq_true rfl,Bool.true_and,Bool.and_eq_true,decide_eq_true_eq,decide_eq_true_eq]
  constructor
  ·rw[List.map_map,List.map_map]
   refine List.map_congr_left fun r hr=>?_
   show (fzs _).map fv=_
   rw[zgg]
  ·rw[List.map_map,List.map_map]
   refine List.map_congr_left fun r hr=>?_
   show (fzs _).map fv=_
   rw[zgg]
 ·rw[hJ]
  unfold aloR jacP
  dsimp only
  rw[if_pos (by simp),List.length_map,List.length_map,List.length_range]
  have get:∀(α:Type) (f:PoF→α) (d:α) (r:Nat),r<t.outs.length→(List.map f (List.map (fun r=>(rowG lim t x.v r).1) (List.range t.outs.length))).getD r d=f (rowG lim t x.v r).1:=by
   intro α f d r hr
   rw[List.getD_eq_getElem?_getD,List.getElem?_map,List.getElem?_map,List.getElem?_range hr]
   rfl
  have kF:∀r,r<t.outs.length→aloF y ⟨List.map PoF.t (List.map (fun r=>(rowG lim t x.v r).1) (List.range t.outs.length)),List.map PoF.y (List.map (fun r=>(rowG lim t x.v r).1) (List.range t.outs.length)),List.map PoF.p (List.map (fun r=>(rowG lim t x.v r).1) (List.range t.outs.length))⟩ r=(fz (gI (outsR t (pushT lim t x.v y.v).2.1) (r:Nat)),0,0,0):=by
   intro r hr
   unfold aloF
   dsimp only
   rw[get _ _ _ r hr,get _ _ _ r hr,get _ _ _ r hr,hv y r h3 hr]
   unfold rowG Po.f
   dsimp only
   rw[if_pos ⟨by rw[zae,(gl r hr).1];omega,by rw[zae,(gl r hr).2];omega⟩,za7,zty,zty,zgg,zgg]
   rfl
  rw[zpb _ _ _ _ (fun k hk=>by rw[Nat.zero_add,kF k hk]),List.nil_append]
  congr 1
  refine Eq.trans (List.map_congr_left (g:=fun r:Nat=>fz (gI (outsR t (pushT lim t x.v y.v).2.1) (r:Nat))) fun r hr=>?_) ?_
  ·rw[Nat.zero_add,kF r (List.mem_range.1 hr)]
  ·have e:=znw (outsR t (pushT lim t x.v y.v).2.1)
   rw[hol]at e
   generalize outsR t (pushT lim t x.v y.v).2.1=O at *
   unfold fzs
   conv=>rhs;rw[e]
   rw[List.map_map]
   rfl
 ·rw[hJ]
  have zg:∀r,r<t.outs.length→∀q∈allP (backT lim t x.v (unitR t.outs.length r)).1,sz q≤48:=fun r hr q hq=>by
   have:=zd2 (q:=q) (b:=lim) ((zj5 (hG r hr)).2.2.2 q hq)
   omega
  have mem:∀{α:Type} {f:PoF→α} {u:α},u∈List.map f (List.map (fun r=>(rowG lim t x.v r).1) (List.range t.outs.length))→∃r,r<t.outs.length∧u=f (backT lim t x.v (unitR t.outs.length r)).1.f:=by
   intro α f u hu
   obtain⟨g,hg,rfl⟩:=List.mem_map.1 hu
   obtain⟨r,hr,rfl⟩:=List.mem_map.1 hg
   exact⟨r,List.mem_range.1 hr,rfl⟩
  have k6:t.outs.length≤10:=by omega
  refine⟨fun u hu=>?_,fun R hR u hu=>?_,fun R hR u hu=>?_,by simp[jacP];omega,by simp[jacP];omega,by simp[jacP];omega,fun R hR=>?_,fun R hR=>?_⟩
  ·obtain⟨r,hr,rfl⟩:=mem hu
   show fsz (fz _)≤_
   rw[zas]
   exact zg r hr _ List.mem_cons_self
  ·obtain⟨r,hr,rfl⟩:=mem hR
   obtain⟨q,hq,rfl⟩:=List.mem_map.1 hu
   rw[zas]
   exact zg r hr _ (List.mem_cons_of_mem _ (List.mem_append_left _ hq))
  ·obtain⟨r,hr,rfl⟩:=mem hR
   obtain⟨q,hq,rfl⟩:=List.mem_map.1 hu
   rw[zas]
   exact zg r hr _ (List.mem_cons_of_mem _ (List.mem_append_right _ hq))
  ·obtain⟨r,hr,rfl⟩:=mem hR
   show (fzs _).length≤_
   rw[zae,(gl r hr).1]
   omega
  ·obtain⟨r,hr,rfl⟩:=mem hR
   show (fzs _).length≤_
   rw[zae,(gl r hr).2]
   omega
theorem ztz{l:List (List Fz)}{K B:Nat}(h:∀r∈l,∀u∈r,fsz u≤B)(hB:1≤B):(∀R∈besd l K,(∀u∈R,fsz u≤B)∧R.length≤l.length)∧(besd l K).length≤K+widthM l:=by
 unfold besd
 by_cases h0:l=[]
 ·rw[if_pos h0]
  refine⟨fun R hR=>?_,by rw[List.length_replicate];omega⟩
  rw[List.eq_of_mem_replicate hR]
  exact⟨fun u hu=>(by cases hu),Nat.zero_le _⟩
 ·rw[if_neg h0]
  split
  ·refine⟨fun R hR=>?_,by unfold turnM;rw[List.length_map,List.length_range];omega⟩
   unfold turnM at hR
   obtain⟨j,_,rfl⟩:=List.mem_map.1 hR
   refine⟨fun u hu=>?_,by simp[nrm,colM]⟩
   unfold nrm colM at hu
   obtain⟨v,hv,rfl⟩:=List.mem_map.1 hu
   obtain⟨r,hr,rfl⟩:=List.mem_map.1 hv
   rw[zas]
   refine za6 ?_ hB
   rw[List.getD_eq_getElem?_getD]
   cases hx:r[j]? with
   | none=>exact Nat.le_trans (show fsz ((false,[],[]):Fz)≤1 by decide) hB
   | some v=>exact h r hr v (List.mem_of_getElem? hx)
  ·exact⟨fun R hR=>(by cases hR),Nat.zero_le _⟩
theorem z0t{lim:Nat}{t:Tp}{x:PoF}(hlim:lim/32+1≤48)(hk:(colsR lim t x).2.1=0)(ho:t.outs.length≤300)(hy:x.y.length≤300)(hp:x.p.length≤300):JcS (colsJ lim t x) 1000 1000:=by
 obtain⟨e1,_,_⟩:=zcu _ _ _ _ hk
 have hC:∀r∈(colsR lim t x).1,(∀u∈r,fsz u≤48)∧r.length≤300:=by
  intro r hr
  have:r∈[]++(List.range (1+x.y.length+x.p.length)).map (fun k=>(colG lim t x (0+k)).1):=by rw[←e1];exact hr
  rw[List.nil_append]at this
  obtain⟨k,_,rfl⟩:=List.mem_map.1 this
  refine⟨zu2 hlim _,?_⟩
  unfold colG fieldD
  split
  ·dsimp only;rw[zae];unfold outsR;rw[List.length_map];exact ho
  ·exact Nat.zero_le _
 have hl:(colsR lim t x).1.length=1+x.y.length+x.p.length:=by
  have:(colsR lim t x).1=[]++(List.range (1+x.y.length+x.p.length)).map (fun k=>(colG lim t x (0+k)).1):=e1
  rw[this];simp
 unfold colsJ
 rw[if_pos hk]
 generalize (colsR lim t x).1=L at *
 have m1:∀r∈(L.take (1+x.y.length)).tail,r∈L:=fun r hr=>List.mem_of_mem_take (List.mem_of_mem_tail hr)
 have m2:∀r∈L.drop (1+x.y.length),r∈L:=fun r hr=>List.mem_of_mem_drop hr
 have wid:∀l:List (List Fz),(∀r∈l,r∈L)→widthM l≤300:=by
  intro l hl
  cases l with
  | nil=>exact Nat.zero_le _
  | cons r l=>exact(hC r (hl r List.mem_cons_self)).2
 obtain⟨a1,a2⟩:=ztz (K:=t.outs.length) (fun r hr=>(hC r (m1 r hr)).1) (by decide)
 obtain⟨b1,b2⟩:=ztz (K:=t.outs.length) (fun r hr=>(hC r (m2 r hr)).1) (by decide)
 have w1:=wid _ m1
 have w2:=wid _ m2
 have l1:(L.take (1+x.y.length)).tail.length≤300:=by rw[List.length_tail,List.length_take];omega
 have l2:(L.drop (1+x.y.length)).length≤300:=by rw[List.length_drop];omega
 have hz:L.getD 0 []∈L:=by
  rw[List.getD_eq_getElem?_getD,List.getElem?_eq_getElem (by omega)]
  exact List.getElem_mem _
 unfold jacC
 exact⟨fun u hu=>Nat.le_trans ((hC _ hz).1 u hu) (by decide),fun R hR u hu=>Nat.le_trans ((a1 R hR).1 u hu) (by decide),fun R hR u hu=>Nat.le_trans ((b1 R hR).1 u hu) (by decide),
  Nat.le_trans (hC _ hz).2 (by decide),by show (besd _ _).length≤_;omega,by show (besd _ _).length≤_;omega,fun R hR=>by have:=(a1 R hR).2;omega,fun R hR=>by have:=(b1 R hR).2;omega⟩
section
variable{T:Tbl}[CLimb T][CNat T][CProd T][CTwos T][CQuot T][CQuotD T][CWhole T][CCommon T][CFrac T][CFrac3 T][CFrac5 T][CPow T][CTape T][CGauge T][CEval T][CRun T][CIfc T][CDigits T][CText T][CJoin T][CRow T][CGrid T][CPull T][CPush T][CIfc2 T][CFn424 T][CSlope T][CFn416 T][CFn418 T]
variable[CRef02 T][CRef04 T][CRef05 T][CRef07 T][CRef06 T][CRef08 T][CRef09 T][CRef11 T][CLaw09 T][CLaw11 T][CLaw24 T][CLaw27l T][CLaw29 T]
theorem zez:callF T 399 []=some (.b true):=by
 have k3:=zfy (T:=T) 3 (by decide) (by decide)
 have k5:=zfy (T:=T) 5 (by decide) (by decide)
 have q3:((3:Int):Rat)=3:=rfl
 have q5:((5:Int):Rat)=5:=rfl
 rw[q3]at k3
 rw[q5]at k5
 have hs:TpS t28:=⟨⟨by decide,by decide,fun i hi=>by
  simp only[t28,List.mem_cons,List.not_mem_nil,or_false]at hi
  rcases hi with rfl | rfl | rfl<;>decide,by decide,by decide⟩,fun i hi=>by
  simp only[t28,List.mem_cons,List.not_mem_nil,or_false]at hi
  rcases hi with rfl | rfl | rfl<;>decide⟩
 have f3:fsz (fz 3)≤1000:=by decide +kernel
 have f5:fsz (fz 5)≤1000:=by decide +kernel
 have hx:PoS p28 1000:=⟨by decide,fun u hu=>by rw[List.mem_singleton.1 hu];exact f3,fun u hu=>by rw[List.mem_singleton.1 hu];exact f5,by decide,by decide⟩
 have a1:=zjd (T:=T) t28 p28 100 hs hx (by decide) (by decide)
 have a2:=zje (T:=T) t28 p28 100 (by decide) hs hx (by decide) (by decide) (by decide)
 have r1:(rowsR (limN 100) t28 p28.v).2=(0,0,0):=by decide +kernel
 have r2:(colsR (limN 100) t28 p28).2=(0,0,0):=by decide +kernel
 have j1:(rowsJ (limN 100) t28 p28.v).t=[fz 0]∧(rowsJ (limN 100) t28 p28.v).y=[[fz 5]]∧(rowsJ (limN 100) t28 p28.v).p=[[fz 3]]:=by decide +kernel
 have j2:(colsJ (limN 100) t28 p28).t=[fz 0]∧(colsJ (limN 100) t28 p28).y=[[fz 5]]∧(colsJ (limN 100) t28 p28).p=[[fz 3]]:=by decide +kernel
 have e1:rowsJ (limN 100) t28 p28.v=⟨[fz 0],[[fz 5]],[[fz 3]]⟩:=by
  generalize rowsJ (limN 100) t28 p28.v=J at *
  obtain⟨a,b,c⟩:=J
  dsimp only at j1
  rw[j1.1,j1.2.1,j1.2.2]
 have e2:colsJ (limN 100) t28 p28=⟨[fz 0],[[fz 5]],[[fz 3]]⟩:=by
  generalize colsJ (limN 100) t28 p28=J at *
  obtain⟨a,b,c⟩:=J
  dsimp only at j2
  rw[j2.1,j2.2.1,j2.2.2]
 rw[e1,r1]at a1
 rw[e2,r2]at a2
 have s5:∀u∈[fz 5],fsz u≤400:=fun u hu=>by rw[List.mem_singleton.1 hu];decide +kernel
 have t1:=zxh (T:=T) [fz 5] (by decide) s5
 have et1:List.intercalate [44] (txts [fz 5])=[53]:=by decide +kernel
 rw[et1]at t1
 have one:∀q∈[(0:Rat),3,5],fsz (fz q)≤1000:=by decide +kernel
 have z0:=one 0 (by simp)
 have z3:=one 3 (by simp)
 have z5:=one 5 (by simp)
 have hJ:JcS ⟨[fz 0],[[fz 5]],[[fz 3]]⟩ 1000 1000:=⟨fun u hu=>by rw[List.mem_singleton.1 hu];exact z0,fun R hR u hu=>by rw[List.mem_singleton.1 hR]at hu;rw[List.mem_singleton.1 hu];exact z5,
  fun R hR u hu=>by rw[List.mem_singleton.1 hR]at hu;rw[List.mem_singleton.1 hu];exact z3,by simp,by simp,by simp,fun R hR=>by rw[List.mem_singleton.1 hR];simp,fun R hR=>by rw[List.mem_singleton.1 hR];simp⟩
 have sm:=zjf (T:=T) _ _ hJ hJ
 have es:sameJ ⟨[fz 0],[[fz 5]],[[fz 3]]⟩ ⟨[fz 0],[[fz 5]],[[fz 3]]⟩=true:=by unfold sameJ;simp
 rw[es]at sm
 clear e1 e2 r1 r2 j1 j2 et1 hs hx f3 f5 q3 q5 s5 one z0 z3 z5 hJ es
 unfold p28 at a1 a2
 generalize fz 0=F0 at *
 generalize fz 3=F3 at *
 generalize fz 5=F5 at *
 have eJ:ejac ⟨[F0],[[F5]],[[F3]]⟩=.agg [.sl [celF F0] .an,.sl [[.sl [celF F5] .an]] .an,.sl [[.sl [celF F3] .an]] .an]:=rfl
 rw[eJ]at a1 a2 sm
 replace a1:callF T 403 [.agg [.sl [[.i .i64 3,.i .i64 0,.i .i64 0,.b false,.sl [] .an,.sl [] .an],[.i .i64 4,.i .i64 0,.i .i64 0,.b false,.sl [] .an,.sl [] .an],[.i .i64 9,.i .i64 0,.i .i64 1,.b false,.sl [] .an,.sl [] .an]] .an,.sl [[.i .i64 2]] .an,.i .i64 1,.i .i64 1],
  .agg [.b false,.sl [] .an,.sl [] .an,.sl [[.b F3.1,.sl (u32s F3.2.1) .an,.sl (u32s F3.2.2) .an]] .an,.sl [[.b F5.1,.sl (u32s F5.2.1) .an,.sl (u32s F5.2.2) .an]] .an],.i .i64 100]=some (.tup [.agg [.sl [celF F0] .an,.sl [[.sl [celF F5] .an]] .an,.sl [[.sl [celF F3] .an]] .an],fltA 0 0 0 0]):=a1
 replace a2:callF T 404 [.agg [.sl [[.i .i64 3,.i .i64 0,.i .i64 0,.b false,.sl [] .an,.sl [] .an],[.i .i64 4,.i .i64 0,.i .i64 0,.b false,.sl [] .an,.sl [] .an],[.i .i64 9,.i .i64 0,.i .i64 1,.b false,.sl [] .an,.sl [] .an]] .an,.sl [[.i .i64 2]] .an,.i .i64 1,.i .i64 1],
  .agg [.b false,.sl [] .an,.sl [] .an,.sl [[.b F3.1,.sl (u32s F3.2.1) .an,.sl (u32s F3.2.2) .an]] .an,.sl [[.b F5.1,.sl (u32s F5.2.1) .an,.sl (u32s F5.2.2) .an]] .an],.i .i64 100]=some (.tup [.agg [.sl [celF F0] .an,.sl [[.sl [celF F5] .an]] .an,.sl [[.sl [celF F3] .an]] .an],fltA 0 0 0 0]):=a2
 replace t1:callF T 274 [.sl [celF F5] .an]=some (.s [53]):=t1
 rw[f399 _ rfl,b399]
 simp -implicitDefEqProofs[a1,a2,t1,k3,k5,sm]
theorem zhz(t:Tp)(x y:PoF)(bits:Int)(A B:JcF)(k1 k2 k3 s1 s2 s3 a1 a2 a3:Int)(V D:List Fz)
  (c1:callF T 379 [etp t,.i .i64 12,.i .i64 2]=some (.b false)) (c2:callF T 385 [eway x y bits]=some (.b false))
  (t1:callF T 382 [etp t]=some (etp t)) (t2:callF T 383 [ept x]=some (ept x)) (t3:callF T 383 [ept y]=some (ept y))
  (p1:callF T 403 [etp t,ept x,.i .i64 1500]=some (.tup [ejac A,fltA k1 0 s1 a1])) (p2:callF T 404 [etp t,ept x,.i .i64 1500]=some (.tup [ejac B,fltA k2 0 s2 a2]))
  (p3:callF T 388 [etp t,ept x,ept y,.i .i64 1500]=some (.tup [.sl (rowF V) .an,.sl (rowF D) .an,fltA k3 0 s3 a3]))
  (h:¬ k1=0∨(k1=0∧s1=0∧a1=0∧¬ k2=0)∨(k1=0∧s1=0∧a1=0∧k2=0∧s2=0∧a2=0∧¬ k3=0)) :
  callF T 378 [etp t,eway x y bits]=some (.b true):=by
 have cw:=zez (T:=T)
 obtain⟨code,outs,dim,par⟩:=t
 obtain⟨⟨x0,x1,x2⟩,xy,xp⟩:=x
 obtain⟨⟨y0,y1,y2⟩,yy,yp⟩:=y
 obtain⟨at',ay,ap⟩:=A
 obtain⟨bt,bY,bp⟩:=B
 rw[f378 _ rfl,b378]
 rcases h with h | ⟨rfl,rfl,rfl,h⟩ | ⟨rfl,rfl,rfl,rfl,rfl,rfl,h⟩
 ·simp -implicitDefEqProofs[c1,c2,cw,t1,t2,t3,p1,p2,p3,h]
 ·simp -implicitDefEqProofs[c1,c2,cw,t1,t2,t3,p1,p2,p3,h]
 ·simp -implicitDefEqProofs[c1,c2,cw,t1,t2,t3,p1,p2,p3,h]
theorem z0u(t:Tp)(x y:PoF)(bits:Int)(A B:JcF)(V D L:List Fz)
  (c1:callF T 379 [etp t,.i .i64 12,.i .i64 2]=some (.b false)) (c2:callF T 385 [eway x y bits]=some (.b false))
  (t1:callF T 382 [etp t]=some (etp t)) (t2:callF T 383 [ept x]=some (ept x)) (t3:callF T 383 [ept y]=some (ept y))
  (p1:callF T 403 [etp t,ept x,.i .i64 1500]=some (.tup [ejac A,fltA 0 0 0 0])) (p2:callF T 404 [etp t,ept x,.i .i64 1500]=some (.tup [ejac B,fltA 0 0 0 0]))
  (p3:callF T 388 [etp t,ept x,ept y,.i .i64 1500]=some (.tup [.sl (rowF V) .an,.sl (rowF D) .an,fltA 0 0 0 0]))
  (al:callF T 400 [ejac A,ept y]=some (.tup [.sl (rowF L) .an,.b true])) (sm:callF T 401 [ejac A,ejac B]=some (.b true)) (q:callF T 265 [.sl (rowF L) .an,.sl (rowF D) .an]=some (.b true)) :
  callF T 378 [etp t,eway x y bits]=some (.b true):=by
 have cw:=zez (T:=T)
 obtain⟨code,outs,dim,par⟩:=t
 obtain⟨⟨x0,x1,x2⟩,xy,xp⟩:=x
 obtain⟨⟨y0,y1,y2⟩,yy,yp⟩:=y
 obtain⟨at',ay,ap⟩:=A
 obtain⟨bt,bY,bp⟩:=B
 rw[f378 _ rfl,b378]
 simp -implicitDefEqProofs[c1,c2,cw,t1,t2,t3,p1,p2,p3,al,sm,q]
theorem zqq(t:Tp)(x y:PoF)(bits:Int)(d1:-9223372036854775808≤t.dim)(d2:t.dim<9223372036854775808) :
  callF T 378 [etp t,eway x y bits]=some (.b true):=by
 have cw:=zez (T:=T)
 have c1:callF T 379 [etp t,.i .i64 12,.i .i64 2]=some (.b (longT t 12 2)):=zqo (T:=T) t 12 2 (by decide)
 have c2:=zqp (T:=T) x y bits
 by_cases hL:(longT t 12 2 || longW x y bits)=true
 ·generalize longT t 12 2=B1 at *
  generalize longW x y bits=B2 at *
  obtain⟨code,outs,dim,par⟩:=t
  obtain⟨⟨x0,x1,x2⟩,xy,xp⟩:=x
  obtain⟨⟨y0,y1,y2⟩,yy,yp⟩:=y
  dsimp only at *
  rw[f378 _ rfl,b378]
  cases B1 with
  | true=>simp -implicitDefEqProofs[c1,cw]
  | false=>
   cases B2 with
   | true=>simp -implicitDefEqProofs[c1,c2,cw]
   | false=>simp at hL
 simp only[Bool.or_eq_true,not_or,Bool.not_eq_true]at hL
 obtain⟨h1,h2⟩:=hL
 have hs:=zaeo h1 (by decide) (by decide) d1 d2
 obtain⟨hc1,hc2,_⟩:=zhw h1
 have h2':=h2
 unfold longW at h2'
 simp only[Bool.or_eq_false_iff]at h2'
 have up:∀{v:PoF} {B:Nat},2≤B→PoS v 2→PoS v B:=fun hB h=>⟨Nat.le_trans h.t hB,fun u hu=>Nat.le_trans (h.y u hu) hB,fun u hu=>Nat.le_trans (h.p u hu) hB,h.yl,h.pl⟩
 have hx:=zhx h2'.1.1 (by decide)
 have hy:=zhx h2'.1.2 (by decide)
 have lens:x.y.length≤300∧x.p.length≤300:=by
  have h:=h2'.1.1
  unfold longP at h
  simp only[Bool.or_eq_false_iff]at h
  obtain⟨m3,_⟩:=zdo h.1.2
  obtain⟨m4,_⟩:=zdo h.2
  omega
 rw[h1]at c1
 rw[h2]at c2
 have t1:=zwx (T:=T) t (by omega) (by omega)
 have t2:=zo2 (T:=T) x hx.yl hx.pl
 have t3:=zo2 (T:=T) y hy.yl hy.pl
 have hlim:limN 1500=1500:=by decide
 have p1:=zjd (T:=T) t x 1500 hs (up (by decide) hx) (by omega) (by omega)
 have p2:=zje (T:=T) t x 1500 (by decide) hs (up (by decide) hx) lens.1 lens.2 (by omega)
 have p3:=zjc (T:=T) t x y 1500 hs (up (by decide) hx) (up (by decide) hy)
 rw[hlim]at p1 p2 p3
 by_cases k1:(rowsR 1500 t x.v).2.1=0
 ·have e1:=(zcu _ _ _ _ k1).2.1
  by_cases k2:(colsR 1500 t x).2.1=0
  ·have e2:=(zcu _ _ _ _ k2).2.1
   by_cases k3:(fieldD 1500 t x.v y.v).2.2.1=0
   ·obtain⟨g3,i3⟩:=ze0 k3
    obtain⟨m1,m2,m3⟩:=zq5 (y:=y) (by decide) k1 k2 g3
    have z3:=zl2 (t:=t) (P:=x.v) (B:=y.v) (lim:=1500) (by decide)
    rw[i3]at p3 z3
    have r1:(rowsR 1500 t x.v).2=(0,0,0):=by
     have:(rowsR 1500 t x.v).2.2=(0,0):=e1
     exact Prod.ext k1 this
    have r2:(colsR 1500 t x).2=(0,0,0):=by
     have:(colsR 1500 t x).2.2=(0,0):=e2
     exact Prod.ext k2 this
    rw[r1]at p1
    rw[r2]at p2
    have al:=znv (T:=T) y (rowsJ 1500 t x.v) (up (by decide) hy) m3
    rw[m2,decide_eq_true rfl]at al
    have sm:=zjf (T:=T) (rowsJ 1500 t x.v) (colsJ 1500 t x) ⟨fun u hu=>Nat.le_trans (m3.t u hu) (by decide),fun R hR u hu=>Nat.le_trans (m3.y R hR u hu) (by decide),fun R hR u hu=>Nat.le_trans (m3.p R hR u hu) (by decide),
     Nat.le_trans m3.tl (by decide),Nat.le_trans m3.yl (by decide),Nat.le_trans m3.pl (by decide),fun R hR=>Nat.le_trans (m3.yr R hR) (by decide),fun R hR=>Nat.le_trans (m3.pr R hR) (by decide)⟩ (z0t (by decide) k2 (by omega) lens.1 lens.2)
    rw[m1]at sm
    have hol:∀D:List Rat,(outsR t D).length=t.outs.length:=fun D=>by simp[outsR]
    have q:=zkc (T:=T) (fzs (outsR t (pushT 1500 t x.v y.v).2.1)) (fzs (outsR t (pushT 1500 t x.v y.v).2.1)) (by rw[zae,hol];omega) (fun u hu=>Nat.le_trans (ztw z3.2 u hu) (by decide)) (fun u hu=>Nat.le_trans (ztw z3.2 u hu) (by decide))
    rw[decide_eq_true rfl]at q
    exact z0u (T:=T) t x y bits _ _ _ _ _ c1 c2 t1 t2 t3 p1 p2 p3 al sm q
   ·have f1:(rowsR 1500 t x.v).2.2=(0,0):=e1
    have f2:(colsR 1500 t x).2.2=(0,0):=e2
    refine zhz (T:=T) t x y bits _ _ _ _ _ _ _ _ _ _ _ _ _ c1 c2 t1 t2 t3 p1 p2 p3 (.inr (.inr ⟨?_,?_,?_,?_,?_,?_,by omega⟩))
    ·rw[k1];rfl
    ·rw[f1];rfl
    ·rw[f1];rfl
    ·rw[k2];rfl
    ·rw[f2];rfl
    ·rw[f2];rfl
  ·have f1:(rowsR 1500 t x.v).2.2=(0,0):=e1
   refine zhz (T:=T) t x y bits _ _ _ _ _ _ _ _ _ _ _ _ _ c1 c2 t1 t2 t3 p1 p2 p3 (.inr (.inl ⟨?_,?_,?_,by omega⟩))
   ·rw[k1];rfl
   ·rw[f1];rfl
   ·rw[f1];rfl
 ·exact zhz (T:=T) t x y bits _ _ _ _ _ _ _ _ _ _ _ _ _ c1 c2 t1 t2 t3 p1 p2 p3 (.inl (by omega))
end
end Go.Ab