/-
  A calculus of values, boxes and code, and what functions of the program compute, proved in it.
  Conditions: none beyond those that the theorems state. (Part 6.)
-/
import Derived.Test.YtfgfjicelfagcaaGreatDoorPart5

set_option linter.unusedSectionVars false
set_option linter.unusedVariables false
set_option linter.unusedSimpArgs false
set_option linter.unnecessarySimpa false

namespace Go.Ab
theorem zva(Ls:List Nat)(C:List Ins)(W:List Nat)(c:List Nd)(i:Nat)(x:Nd)(hx:c[i]? = some x):exQ Ls C W (c.take (i+1))=stepQ' Ls (exQ Ls C W (c.take i)) x:=by
 rw[List.take_add_one,hx,Option.toList_some,zod]
theorem zsw(Ls:List Nat)(C:List Ins)(s:List Nat)(x:Nd):(ndI Ls C s x).1.length≤C.length+1:=by
 unfold ndI
 split
 ·simp
 ·split
  ·exact(zev C _).2.1
  ·split
   ·exact(zev C _).2.1
   ·exact(zev C _).2.1
section
variable{T:Tbl}[CText T][CComp T][CLimb T][CNat T][CProd T][CTwos T][CQuot T][CQuotD T][CWhole T][CCommon T][CFrac T][CFrac2 T][CFrac3 T][CFrac5 T][CPow T][CTape T][CGauge T][CEval T][CEval2 T][CTree T][CLenD T]
theorem zkz(C:List Ins)(L W:List Nat)(c:List Nd)(hC:∀y∈C,MkI y)(hw:wrongN c=-1)(hlt:∀x∈c,x.op=5→0≤x.i∧x.i<L.length)(hn:thin 1000 c)(hc:c.length≤50000)(hCl:C.length≤50000)(hWl:W.length≤50000) :
  (exQ L C W c).s.length=1∧∃gc,(gc=1∨gc=7)∧callH T 648 [cmP,.sl (rowN c) .an] (cmH 1 4 C L W)=some (.i .i64 ((((exQ L C W c).s[0]?).getD 0:Nat):Int),cmH gc 10 (exQ L C W c).C L (exQ L C W c).W):=by
 have hne:0<c.length:=by
  cases c with
  | nil=>exact absurd hw (by decide)
  | cons x r=>simp
 have hloop:∃r,((exQ L C W c).s.length=1∧∃gc,(gc=1∨gc=7)∧r=((.n,⟨[(5,.bs (.loc 5) 11 1 0 (exQ L C W c).s.length)],cmH gc 10 (exQ L C W c).C L (exQ L C W c).W++[(.loc 5,⟨11,.own,1,natR (exQ L C W c).s⟩)],13⟩):Ex×St)) ∧
   loopN T 5 0 (.norm false [5]) l648_0 (stEx 1 4 C L W [] c 0)=some r:=by
  refine zaw (fun q:Nat×Nat×Nat=>stEx q.2.1 q.2.2 (exQ L C W (c.take q.1)).C L (exQ L C W (c.take q.1)).W (exQ L C W (c.take q.1)).s c q.1)
   (fun q=>q.1≤c.length∧(q.2.1=1∨q.2.1=7)∧(q.2.2=4∨q.2.2=10)∧(0<q.1→q.2.2=10)∧(exQ L C W (c.take q.1)).s.length≤q.1∧(exQ L C W (c.take q.1)).C.length≤C.length+q.1∧(exQ L C W (c.take q.1)).W.length=W.length+q.1∧∃j,wrongL j (exQ L C W (c.take q.1)).s.length (c.drop q.1)=-1)
   (fun q=>c.length-q.1) _ ?_ (0,1,4) ⟨Nat.zero_le _,.inl rfl,.inl rfl,fun h=>absurd h (by decide),Nat.le_refl _,Nat.le_refl _,rfl,0,hw⟩
  rintro⟨i,gc,gw⟩ ⟨hi,hgc,hgw,hg0,hs,hCi,hWi,j,hwr⟩
  dsimp only at *
  have hmk:∀y∈(exQ L C W (c.take i)).C,MkI y:=zof L (c.take i) ⟨C,W,[]⟩ hC
  by_cases hil:i<c.length
  ·left
   obtain⟨x,hx,hmem⟩:∃x,c[i]? = some x∧x∈c:=⟨c[i]'hil,List.getElem?_eq_getElem hil,List.getElem_mem hil⟩
   obtain⟨_,hge⟩:=List.getElem?_eq_some_iff.1 hx
   have hd:c.drop i=x::c.drop (i+1):=by rw[List.drop_eq_getElem_cons hil,hge]
   have htk:=zva L C W c i x hx
   rw[hd]at hwr
   generalize exQ L C W (c.take i)=q at *
   obtain⟨Cq,Wq,Sq⟩:=q
   dsimp only at *
   have h1:¬ (arN x.op<0∨(Sq.length:Int)<arN x.op):=by
    intro hh
    unfold wrongL at hwr
    rw[if_pos hh]at hwr
    omega
   have hw2:wrongL (j+1) (Sq.length+1-arN x.op) (c.drop (i+1))=-1:=by
    unfold wrongL at hwr
    rwa [if_neg h1]at hwr
   obtain⟨g1,hg1,hcall⟩:=zsv (T:=T) Cq L Wq Sq x hmk ⟨hn x hmem,hlt x hmem,by omega,by omega⟩ (by omega) (by omega)
   obtain⟨ar,har⟩:∃ar:Nat,arN x.op=(ar:Int):=⟨(arN x.op).toNat,by omega⟩
   have e:=zpj (T:=T) gc gw g1 Cq _ L Wq Sq c i _ ar x hgc hgw hg1 hx har (by omega) (by omega) (by omega) (by omega) (hn x hmem) hcall
   have hst:stepQ' L ⟨Cq,Wq,Sq⟩ x=⟨(ndI L Cq Sq x).1,Wq++[(ndI L Cq Sq x).2],Sq.take (Sq.length-ar)++[(ndI L Cq Sq x).2]⟩:=by
    unfold stepQ'
    rw[har,Int.toNat_natCast]
   have hnl:=zsw L Cq Sq x
   have hsl:(Sq.take (Sq.length-ar)++[(ndI L Cq Sq x).2]).length=Sq.length-ar+1:=by rw[List.length_append,List.length_take,List.length_singleton];omega
   rw[hst]at htk
   refine⟨(i+1,if g1=1 then gc else 7,10),?_,by dsimp only;omega,?_⟩
   ·dsimp only
    rw[htk]
    dsimp only
    refine⟨by omega,?_,.inr rfl,fun _=>rfl,by omega,by omega,by rw[List.length_append,List.length_singleton];omega,j+1,?_⟩
    ·split
     ·exact hgc
     ·exact .inr rfl
    ·rw[hsl,←hw2]
     congr 1
     omega
   ·dsimp only
    rw[htk]
    exact e
  ·right
   have hic:i=c.length:=by omega
   subst hic
   rw[List.take_length]at *
   rw[List.drop_length]at hwr
   have h10:=hg0 hne
   have hs1:(exQ L C W c).s.length=1:=by
    unfold wrongL at hwr
    split at hwr
    ·omega
    ·omega
   refine⟨_,⟨hs1,gc,hgc,rfl⟩,?_⟩
   subst h10
   generalize exQ L C W c=q at *
   obtain⟨Cq,Wq,Sq⟩:=q
   dsimp only at *
   unfold stEx cmH
   rcases hgc with rfl | rfl
   ·constructor<;>simp -implicitDefEqProofs[l648_0,genAt]
   ·constructor<;>simp -implicitDefEqProofs[l648_0,genAt]
 obtain⟨r,⟨hs1,gc,hgc,rfl⟩,hr⟩:=hloop
 refine⟨hs1,gc,hgc,?_⟩
 generalize exQ L C W c=q at *
 obtain⟨Cq,Wq,Sq⟩:=q
 dsimp only at *
 obtain⟨v,rfl⟩:=List.length_eq_one_iff.1 hs1
 unfold stEx cmH at hr
 unfold cmH
 rw[f648 _ _ rfl,b648]
 simp -implicitDefEqProofs at hr
 have hnv:natR [v]=[[.i .i64 (v:Int)]]:=rfl
 rw[hnv]at hr
 rcases hgc with rfl | rfl
 ·simp -implicitDefEqProofs[hr,genAt]
 ·simp -implicitDefEqProofs[hr,genAt]
end
abbrev mkB:BId:=.fld (.loc 25) 3
abbrev mkBx(g:Nat)(C:List Ins)(L W:List Nat):Heap:=
 [(mkB,⟨g,.str,4,[[.bs (.fld mkB 0) (g+1) 6 0 C.length,.fnp 0 (.fld (.loc 25) 1) (g+2) 2 0 0,.bs (.fld mkB 2) (g+3) 1 0 L.length,.bs (.fld mkB 3) (g+4) 1 0 W.length]]⟩),
  (.fld mkB 0,⟨g+1,.own,6,rowI C⟩),(.fld (.loc 25) 1,⟨g+2,.mp,2,mapI 0 C⟩),(.fld mkB 2,⟨g+3,.own,1,natR L⟩),(.fld mkB 3,⟨g+4,.own,1,natR W⟩)]
abbrev bx4(g:Nat):BId×Box:=(.loc 4,⟨g,.str,4,[[.sl [] .an,.sl [] .an,.i .i64 0,.i .i64 0]]⟩)
abbrev bx6(g:Nat):BId×Box:=(.loc 6,⟨g,.str,4,[[.i .i64 0,.i .i64 0,.i .i64 0,.i .i64 0]]⟩)
def stF1(f:Fd)(pars:Int)(C:List Ins)(L W:List Nat)(i:Nat):St:=
 ⟨[(1,.i .i64 pars),(2,.ptr (.loc 2) 1 2 0 0),(4,.ptr (.loc 4) 2 4 0 0),(6,.ptr (.loc 6) 3 4 0 0),(8,.ptr mkB 4 4 0 0),(27,.sl (rowLt f.lets) .an),(28,.i .i64 f.lets.length),(29,.i .i64 (i:Int))],
  [(.loc 2,⟨1,.str,2,[[.sl (rowLt f.lets) .an,.sl (rowC f.outs) .an]]⟩),bx4 2,bx6 3]++mkBx 4 C L W,10⟩
def stF2(n:Nat)(Os:List (List Nd))(pars:Int)(C:List Ins)(L W Q:List Nat)(i:Nat):St:=
 ⟨[(4,.ptr (.loc 4) 1 4 0 0),(6,.ptr (.loc 6) 2 4 0 0),(8,.ptr mkB 3 4 0 0),(11,.ptr (.loc 11) 8 4 0 0),(53,.sl (rowC Os) .an),(54,.i .i64 Os.length),(55,.i .i64 (i:Int))],
  [bx4 1,bx6 2]++mkBx 3 C L W++[(.loc 11,⟨8,.str,4,[[.sl [] .an,.bs (.fld (.loc 11) 1) 9 1 0 Q.length,.i .i64 (n:Int),.i .i64 pars]]⟩),(.fld (.loc 11) 1,⟨9,.own,1,natR Q⟩)],11⟩
section
variable{T:Tbl}[CText T][CComp T]
theorem zgt(f:Fd)(pars:Int)(C C1:List Ins)(L W W1:List Nat)(i p gc:Nat)(x:Lt)(hgc:gc=1∨gc=7)(hx:f.lets[i]? = some x)(hl:f.lets.length≤100000)(hL:L.length≤100000)(hc:x.code.length≤100000)
  (c:callH T 648 [cmP,.sl (rowN x.code) .an] (cmH 1 4 C L W)=some (.i .i64 (p:Int),cmH gc 10 C1 L W1)) :
  evX (orc T) T 0 l644_0 (stF1 f pars C L W i)=some (.n,stF1 f pars C1 (L++[p]) W1 (i+1)):=by
 obtain⟨hlt,hge⟩:=List.getElem?_eq_some_iff.1 hx
 have hlt':(i:Int)<f.lets.length:=by omega
 have hws:=zbq hlt (by omega)
 have hsL:=zet L p
 have htkL:(natR L).take L.length=natR L:=List.take_of_length_le (by rw[zcp];exact Nat.le_refl _)
 have h32:L.length+1≤4294967296:=by omega
 obtain⟨Ls,O⟩:=f
 obtain⟨nm,code⟩:=x
 dsimp only at *
 unfold stF1
 unfold cmH at c
 rcases hgc with rfl | rfl
 ·simp -implicitDefEqProofs[l644_0,hlt,hlt',hx,hge,hws,c,hsL,htkL,h32,genAt]
 ·simp -implicitDefEqProofs[l644_0,hlt,hlt',hx,hge,hws,c,hsL,htkL,h32,genAt]
theorem zgu(n:Nat)(Os:List (List Nd))(pars:Int)(C C1:List Ins)(L W W1 Q:List Nat)(i p gc:Nat)(x:List Nd)(hgc:gc=1∨gc=7)(hx:Os[i]? = some x)(hl:Os.length≤100000)(hQ:Q.length≤100000)(hc:x.length≤100000)
  (c:callH T 648 [cmP,.sl (rowN x) .an] (cmH 1 4 C L W)=some (.i .i64 (p:Int),cmH gc 10 C1 L W1)) :
  evX (orc T) T 0 l644_1 (stF2 n Os pars C L W Q i)=some (.n,stF2 n Os pars C1 L W1 (Q++[p]) (i+1)):=by
 obtain⟨hlt,hge⟩:=List.getElem?_eq_some_iff.1 hx
 have hlt':(i:Int)<Os.length:=by omega
 have hws:=zbq hlt (by omega)
 have hsQ:=zet Q p
 have htkQ:(natR Q).take Q.length=natR Q:=List.take_of_length_le (by rw[zcp];exact Nat.le_refl _)
 have h32:Q.length+1≤4294967296:=by omega
 unfold stF2
 unfold cmH at c
 rcases hgc with rfl | rfl
 ·simp -implicitDefEqProofs[l644_1,hlt,hlt',hx,hge,hws,c,hsQ,htkQ,h32,genAt]
 ·simp -implicitDefEqProofs[l644_1,hlt,hlt',hx,hge,hws,c,hsQ,htkQ,h32,genAt]
end
abbrev bx4A(z:Fz):Box:=⟨7,.str,3,[[.b z.1,.sl (u32s z.2.1) .an,.sl (u32s z.2.2) .an]]⟩
abbrev bx5A(a b c d:Int):Box:=⟨8,.str,4,[[.i .i64 a,.i .i64 b,.i .i64 c,.i .i64 d]]⟩
abbrev hqA(gk:Nat)(Q:PoF)(LS:List Fz)(s p L seen:Int)(F:List Fz)(m:Nat)(z:Fz)(a b c d:Int):Heap:=
 [(.bor 0,⟨0,.str,9,[[.b Q.t.1,.sl (u32s Q.t.2.1) .an,.sl (u32s Q.t.2.2) .an,.sl (rowF Q.y) .an,.sl (rowF Q.p) .an,.sl (rowF LS) .an,.ptr (.bor 1) 1 3 0 0,.i .i64 seen,.bs (.bor 2) gk 3 0 m]]⟩),(.bor 1,bxG 1 s p L),(.bor 2,⟨gk,.own,3,rowF F⟩),(.loc 4,bx4A z),(.loc 5,bx5A a b c d)]
def stWA(gk:Nat)(Q:PoF)(LS:List Fz)(s p L seen:Int)(F:List Fz)(m:Nat)(code:List Nd)(i:Nat):St:=
 ⟨[(0,wP),(4,.ptr (.loc 4) 7 3 0 0),(5,.ptr (.loc 5) 8 4 0 0),(18,.sl (rowN code) .an),(19,.i .i64 code.length),(20,.i .i64 i)],hqA gk Q LS s p L seen F m (false,[],[]) 0 0 0 0,10⟩
def endWA(gk:Nat)(Q:PoF)(LS:List Fz)(s p L seen:Int)(F:List Fz)(m:Nat):Ex×St:=
 (.n,⟨[(0,wP),(4,.ptr (.loc 4) 7 3 0 0),(5,.ptr (.loc 5) 8 4 0 0)],hqA gk Q LS s p L seen F m (false,[],[]) 0 0 0 0,10⟩)
def endSA(gk:Nat)(Q:PoF)(LS:List Fz)(s p L seen:Int)(F:List Fz)(m:Nat)(kind at_:Int):Ex×St:=
 (.r,⟨[(4,.ptr (.loc 4) 7 3 0 0),(5,.ptr (.loc 5) 8 4 0 0)],hqA gk Q LS s p L seen F m (fz 0) kind 0 0 at_,10⟩)
section
variable{T:Tbl}[CLimb T][CNat T][CProd T][CTwos T][CQuot T][CQuotD T][CWhole T][CCommon T][CFrac T][CFrac2 T][CFrac3 T][CFrac5 T][CPow T][CTape T][CGauge T][CEval T][CEval2 T][CTree T][CText T][CLenD T]
def endQA(P:Po)(lim:Nat)(ls:List Rat)(n:Nat)(R:Rat×Nat×Nat)(r:Ex×St):Prop:=
 (R.2.1=0∧∃gk s p F,(gk=2∨gk=6)∧F[0]? = some (fz R.1)∧F.length≤5000∧r=endWA gk P.f (fzs ls) s p lim n F 1) ∨
 (R.2.1≠0∧∃gk s p seen F m,(gk=2∨gk=6)∧r=endSA gk P.f (fzs ls) s p lim seen F m R.2.1 R.2.2)
end
end Go.Ab
section
namespace Go.Ab
end Go.Ab
end
namespace Go.Ab
abbrev flt4(a b c d:Int):AV:=.agg [.i .i64 a,.i .i64 b,.i .i64 c,.i .i64 d]
section
variable{T:Tbl}[CTree T][CTree2 T][CText T][CLenD T][CLimb T][CNat T][CJoin T][CLex T][CCheck T]
theorem zpf(s:List UInt8)(hs:s.length≤100000):callF T 486 [.s s]=some (.b (nameB s)):=by
 have c:=zs8 (T:=T) 2 0 s hs
 unfold nameB
 rw[f486 _ rfl,b486]
 generalize rightB 2 s=B at *
 by_cases h1:s=[116]
 ·subst h1;cases B<;>simp -implicitDefEqProofs
 by_cases h2:s=[121]
 ·subst h2;cases B<;>simp -implicitDefEqProofs
 by_cases h3:s=[112]
 ·subst h3;cases B<;>simp -implicitDefEqProofs
 by_cases h4:s=[108,101,116]
 ·subst h4;cases B<;>simp -implicitDefEqProofs
 cases B<;>simp -implicitDefEqProofs[c,h1,h2,h3,h4]
theorem zmj(L:List Lt)(i:Nat)(hi:i<L.length)(hL:L.length≤100000):callF T 487 [.sl (rowLt L) .an,.i .i64 i]=some (.b (twB (L.take i) (L[i]'hi).name)):=by
 have hlo:loopN T 0 0 (.norm false []) l487_0 ⟨[(0,.sl (rowLt L) .an),(1,.i .i64 i),(6,.i .i64 i),(7,.i .i64 ((0:Nat):Int))],[],2⟩ =
   if twB ((L.take i).drop 0) (L[i]'hi).name=true then some (.r,⟨[(4,.b true)],[],2⟩) else some (.n,⟨[],[],2⟩):=by
  refine zaz (fun k=>⟨[(0,.sl (rowLt L) .an),(1,.i .i64 i),(6,.i .i64 i),(7,.i .i64 ((k:Nat):Int))],[],2⟩) i
   (fun k=>if twB ((L.take i).drop k) (L[i]'hi).name=true then some (.r,_) else some (.n,_)) (fun k hk=>?_) ?_
  ·have hk1:k<L.length:=by omega
   have hg:L[k]? = some (L[k]'hk1):=List.getElem?_eq_getElem hk1
   have hgi:L[i]? = some (L[i]'hi):=List.getElem?_eq_getElem hi
   have hk2:k<(L.take i).length:=by rw[List.length_take];omega
   have hd:(L.take i).drop k=(L.take i)[k]'hk2::(L.take i).drop (k+1):=List.drop_eq_getElem_cons hk2
   have hx2:(L.take i)[k]'hk2=L[k]'hk1:=by simp
   rw[hx2]at hd
   have hws:=zbq hk (by omega)
   have hk':(k:Int)<i:=by omega
   have hi':(i:Int)<L.length:=by omega
   have hk1':(k:Int)<L.length:=by omega
   generalize hx:L[k]'hk1=x at *
   generalize hy:L[i]'hi=y at *
   obtain⟨xn,xc⟩:=x
   obtain⟨yn,yc⟩:=y
   by_cases hc:xn=yn
   ·right
    rw[if_pos (by rw[hd];simp[twB,hc])]
    clear hd
    constructor<;>simp -implicitDefEqProofs[l487_0,hk,hk',hk1,hk1',hi,hi',hg,hgi,hx,hy,hc]
   ·left
    refine⟨?_,by rw[hd];simp[twB,hc]⟩
    clear hd
    simp -implicitDefEqProofs[l487_0,hk,hk',hk1,hk1',hi,hi',hg,hgi,hx,hy,hc,hws]
  ·rw[List.drop_of_length_le (by rw[List.length_take];omega)]
   simp only[twB,List.any_nil,Bool.false_eq_true,if_false]
   constructor<;>simp -implicitDefEqProofs[l487_0]
 rw[List.drop_zero]at hlo
 simp only[Int.natCast_zero]at hlo
 rw[f487 _ rfl,b487]
 generalize twB (L.take i) (L[i]'hi).name=B at *
 cases B with
 | true=>
  rw[if_pos rfl]at hlo
  simp -implicitDefEqProofs[hlo]
 | false=>
  rw[if_neg (by decide)]at hlo
  simp -implicitDefEqProofs[hlo]
theorem zh9(c:List Nd)(num dim pars lets:Int)(hl:c.length≤50000)(hn:thin 1000 c):callF T 488 [.sl (rowN c) .an,.i .i64 num,.i .i64 dim,.i .i64 pars,.i .i64 lets] =
  some (if 0≤ptA dim pars lets c then flt4 2 num 0 (ptA dim pars lets c) else flt4 0 0 0 0):=by
 have c1:=zm0 (T:=T) c dim pars lets (by omega) hn
 have c2:=zqa (T:=T) c hl
 have hp:=zlp dim pars lets c
 unfold ptA
 rw[f488 _ rfl,b488]
 generalize depN c=d at *
 generalize placeN dim pars lets c=p at *
 by_cases h:p<0
 ·by_cases hd:40<d
  ·have hd':(40:Int)<d:=by omega
   have hnl:¬ (c.length:Int)<0:=by omega
   have h0:(0:Int)≤c.length:=by omega
   rw[if_pos (show p<0∧40<d from ⟨h,hd⟩),if_pos h0]
   simp -implicitDefEqProofs[c1,c2,h,hd,hd',hnl]
  ·have hd':¬ (40:Int)<d:=by omega
   have h0:¬ 0≤p:=by omega
   rw[if_neg (show ¬ (p<0∧40<d) from fun hh=>hd hh.2),if_neg h0]
   simp -implicitDefEqProofs[c1,c2,h,hd,hd']
 ·have h0:0≤p:=by omega
  rw[if_neg (show ¬ (p<0∧40<d) from fun hh=>h hh.1),if_pos h0]
  simp -implicitDefEqProofs[c1,c2,h]
theorem zmk(f:Fd)(dim pars:Int)(h1:f.lets.length≤100000)(h2:f.outs.length≤100000)(hn:thinD 1000 50000 f)(hs:sizeD f≤4294967295):callF T 485 [efd f,.i .i64 dim,.i .i64 pars]=some (.b (whB f dim pars)):=by
 have c:=zlc (T:=T) f h1 h2 (fun c hc=>⟨Nat.le_trans (hn c hc).1 (by decide),(hn c hc).2⟩) hs
 unfold whB
 generalize sizeD f=S at *
 obtain⟨L,O⟩:=f
 dsimp only at *
 rw[f485 _ rfl,b485]
 by_cases g1:1≤dim
 ·by_cases g2:dim≤6
  ·by_cases g3:0≤pars
   ·by_cases g4:pars≤6
    ·by_cases g5:(O.length:Int)=dim
     ·by_cases g6:L.length≤10
      ·have g6':(L.length:Int)≤10:=by omega
       by_cases g7:S≤300
       ·have g7':(S:Int)≤300:=by omega
        simp -implicitDefEqProofs[g1,g2,g3,g4,g5,g6,g6',g7,g7',c]
       ·have g7':¬ (S:Int)≤300:=by omega
        simp -implicitDefEqProofs[g1,g2,g3,g4,g5,g6,g6',g7,g7',c]
      ·have g6':¬ (L.length:Int)≤10:=by omega
       simp -implicitDefEqProofs[g1,g2,g3,g4,g5,g6,g6',c]
     ·simp -implicitDefEqProofs[g1,g2,g3,g4,g5,c]
    ·simp -implicitDefEqProofs[g1,g2,g3,g4,c]
   ·simp -implicitDefEqProofs[g1,g2,g3,c]
  ·simp -implicitDefEqProofs[g1,g2,c]
 ·simp -implicitDefEqProofs[g1,c]
end
abbrev bxFd(g:Nat)(f:Fd):Box:=⟨g,.str,2,[[.sl (rowLt f.lets) .an,.sl (rowC f.outs) .an]]⟩
def fltC(q:Option (Int×Int×Int)):AV:=match q with
 | some (a,b,c)=>flt4 2 a b c
 | none=>flt4 0 0 0 0
def endC(a b c:Int):Option (Ex×St):=some (.r,⟨[(6,.ptr (.loc 6) 1 4 0 0)],[(.loc 6,⟨1,.str,4,[[.i .i64 2,.i .i64 a,.i .i64 b,.i .i64 c]]⟩)],3⟩)
section
variable{T:Tbl}[CTree T][CTree2 T][CText T][CLenD T][CLimb T][CNat T][CJoin T][CLex T][CCheck T]
def stCL(f:Fd)(dim pars:Int)(i:Nat):St:=⟨[(1,.i .i64 dim),(2,.i .i64 pars),(3,.ptr (.loc 3) 1 2 0 0),(6,.ptr (.loc 6) 2 4 0 0),(20,.sl (rowLt f.lets) .an),(21,.i .i64 f.lets.length),(22,.i .i64 i)],[(.loc 3,bxFd 1 f),(.loc 6,⟨2,.str,4,[[.i .i64 0,.i .i64 0,.i .i64 0,.i .i64 0]]⟩)],4⟩
theorem zpg(f:Fd)(dim pars:Int)(h1:f.lets.length≤10)(hn:thinD 1000 50000 f)(hs:∀x∈f.lets,x.name.length≤100000) :
  loopN T 0 0 (.norm false [1,2,3,6]) l477_0 (stCL f dim pars 0)=match chkL dim pars f.lets 0 f.lets with
   | some (a,b,c)=>endC a b c
   | none=>some (.n,⟨[(1,.i .i64 dim),(2,.i .i64 pars),(3,.ptr (.loc 3) 1 2 0 0),(6,.ptr (.loc 6) 2 4 0 0)],[(.loc 3,bxFd 1 f),(.loc 6,⟨2,.str,4,[[.i .i64 0,.i .i64 0,.i .i64 0,.i .i64 0]]⟩)],4⟩):=by
 have:=zaz (T:=T) (k:=0) (id:=0) (g2:=.norm false [1,2,3,6]) (c:=l477_0) (stCL f dim pars) f.lets.length
  (fun i=>match chkL dim pars f.lets i (f.lets.drop i) with
   | some (a,b,c)=>endC a b c
   | none=>some (.n,⟨[(1,.i .i64 dim),(2,.i .i64 pars),(3,.ptr (.loc 3) 1 2 0 0),(6,.ptr (.loc 6) 2 4 0 0)],[(.loc 3,bxFd 1 f),(.loc 6,⟨2,.str,4,[[.i .i64 0,.i .i64 0,.i .i64 0,.i .i64 0]]⟩)],4⟩)) (fun i hi=>?_) ?_
 ·simpa using this
 ·have hg:f.lets[i]? = some (f.lets[i]'hi):=List.getElem?_eq_getElem hi
  have hd:f.lets.drop i=f.lets[i]'hi::f.lets.drop (i+1):=List.drop_eq_getElem_cons hi
  have hi':(i:Int)<f.lets.length:=by omega
  have hws:=zbq hi (by omega)
  have hw1:IntKind.wrap .i64 ((i:Int)+1)=(i:Int)+1:=zac _ (by omega)
  obtain⟨hc1,hc2⟩:=hn (f.lets[i]'hi).code (List.mem_append.2 (.inl (List.mem_map.2 ⟨_,List.getElem_mem hi,rfl⟩)))
  have k1:=zpf (T:=T) (f.lets[i]'hi).name (hs _ (List.getElem_mem hi))
  have k2:=zmj (T:=T) f.lets i hi (by omega)
  have k3:=zh9 (T:=T) (f.lets[i]'hi).code ((i:Int)+1) dim pars i hc1 hc2
  have hp0:ptA dim pars i (f.lets[i]'hi).code<0∨0≤ptA dim pars i (f.lets[i]'hi).code:=by omega
  rw[hd,chkL]
  obtain⟨L,O⟩:=f
  dsimp only at *
  clear hd hn hs hc1 hc2
  generalize hx:L[i]'hi=x at *
  obtain⟨nm,code⟩:=x
  dsimp only at *
  unfold stCL bxFd endC
  dsimp only
  rw[hws]at hw1
  generalize ptA dim pars i code=p at *
  generalize twB (L.take i) nm=B at *
  cases hA:nameB nm with
  | false=>
   right
   rw[hA]at k1
   rw[if_pos (.inl rfl)]
   constructor<;>simp -implicitDefEqProofs[l477_0,hi,hi',hg,hx,k1,hws]
  | true=>
   rw[hA]at k1
   cases B with
   | true=>
    right
    rw[if_pos (.inr rfl)]
    constructor<;>simp -implicitDefEqProofs[l477_0,hi,hi',hg,hx,k1,k2,hws]
   | false=>
    rw[if_neg (by simp)]
    rcases hp0 with hp0 | hp0
    ·left
     have hp1:¬ 0≤p:=by omega
     rw[if_neg hp1]at k3 ⊢
     refine⟨?_,rfl⟩
     simp -implicitDefEqProofs[l477_0,hi,hi',hg,hx,k1,k2,k3,hws]
    ·right
     rw[if_pos hp0]at k3 ⊢
     constructor<;>simp -implicitDefEqProofs[l477_0,hi,hi',hg,hx,k1,k2,k3,hws]
 ·rw[List.drop_length,chkL]
  unfold stCL bxFd
  constructor<;>simp -implicitDefEqProofs[l477_0]
def stCO(f:Fd)(dim pars:Int)(i:Nat):St:=⟨[(1,.i .i64 dim),(2,.i .i64 pars),(3,.ptr (.loc 3) 1 2 0 0),(6,.ptr (.loc 6) 2 4 0 0),(54,.sl (rowC f.outs) .an),(55,.i .i64 f.outs.length),(56,.i .i64 i)],[(.loc 3,bxFd 1 f),(.loc 6,⟨2,.str,4,[[.i .i64 0,.i .i64 0,.i .i64 0,.i .i64 0]]⟩)],4⟩
theorem zph(f:Fd)(dim pars:Int)(h1:f.lets.length≤10)(h2:f.outs.length≤10)(hn:thinD 1000 50000 f) :
  loopN T 0 2 (.norm false [6]) l477_1 (stCO f dim pars 0)=match chkO dim pars f.lets.length 0 f.outs with
   | some (a,b,c)=>endC a b c
   | none=>some (.n,⟨[(6,.ptr (.loc 6) 1 4 0 0)],[(.loc 6,⟨1,.str,4,[[.i .i64 0,.i .i64 0,.i .i64 0,.i .i64 0]]⟩)],3⟩):=by
 have:=zaz (T:=T) (k:=0) (id:=2) (g2:=.norm false [6]) (c:=l477_1) (stCO f dim pars) f.outs.length
  (fun i=>match chkO dim pars f.lets.length i (f.outs.drop i) with
   | some (a,b,c)=>endC a b c
   | none=>some (.n,⟨[(6,.ptr (.loc 6) 1 4 0 0)],[(.loc 6,⟨1,.str,4,[[.i .i64 0,.i .i64 0,.i .i64 0,.i .i64 0]]⟩)],3⟩)) (fun i hi=>?_) ?_
 ·simpa using this
 ·have hg:f.outs[i]? = some (f.outs[i]'hi):=List.getElem?_eq_getElem hi
  have hd:f.outs.drop i=f.outs[i]'hi::f.outs.drop (i+1):=List.drop_eq_getElem_cons hi
  have hi':(i:Int)<f.outs.length:=by omega
  have hws:=zbq hi (by omega)
  have hw1:IntKind.wrap .i64 ((f.lets.length:Int)+i)=(f.lets.length:Int)+i:=zac _ (by omega)
  have hw2:IntKind.wrap .i64 ((f.lets.length:Int)+i+1)=(f.lets.length:Int)+i+1:=zac _ (by omega)
  have hw3:(((f.lets.length+i:Nat):Int)+1)=(f.lets.length:Int)+i+1:=by omega
  obtain⟨hc1,hc2⟩:=hn (f.outs[i]'hi) (List.mem_append.2 (.inr (List.getElem_mem hi)))
  have k3:=zh9 (T:=T) (f.outs[i]'hi) ((f.lets.length:Int)+i+1) dim pars f.lets.length hc1 hc2
  have hp0:ptA dim pars f.lets.length (f.outs[i]'hi)<0∨0≤ptA dim pars f.lets.length (f.outs[i]'hi):=by omega
  rw[hd,chkO,hw3]
  obtain⟨L,O⟩:=f
  dsimp only at *
  clear hd hn hc1 hc2 hw3
  generalize hx:O[i]'hi=x at *
  unfold stCO bxFd endC
  dsimp only
  generalize ptA dim pars L.length x=p at *
  rcases hp0 with hp0 | hp0
  ·left
   have hp1:¬ 0≤p:=by omega
   rw[if_neg hp1]at k3 ⊢
   refine⟨?_,rfl⟩
   simp -implicitDefEqProofs[l477_1,hi,hi',hg,hx,k3,hws,hw1,hw2]
  ·right
   rw[if_pos hp0]at k3 ⊢
   constructor<;>simp -implicitDefEqProofs[l477_1,hi,hi',hg,hx,k3,hws,hw1,hw2]
 ·rw[List.drop_length,chkO]
  unfold stCO bxFd
  constructor<;>simp -implicitDefEqProofs[l477_1]
theorem zgs(f:Fd)(dim pars:Int)(h1:f.lets.length≤100000)(h2:f.outs.length≤100000)(hn:thinD 1000 50000 f)(hz:sizeD f≤4294967295)(hs:∀x∈f.lets,x.name.length≤100000) :
  callF T 477 [efd f,.i .i64 dim,.i .i64 pars]=some (fltC (chkD f dim pars)):=by
 have c:=zmk (T:=T) f dim pars h1 h2 hn hz
 unfold chkD
 cases hW:whB f dim pars with
 | false=>
  rw[hW]at c
  rw[if_pos rfl]
  unfold fltC
  obtain⟨L,O⟩:=f
  dsimp only at *
  rw[f477 _ rfl,b477]
  simp -implicitDefEqProofs[c]
 | true=>
  rw[hW]at c
  rw[if_neg (by decide)]
  have hW2:(1≤dim∧dim≤6∧0≤pars∧pars≤6∧(f.outs.length:Int)=dim∧f.lets.length≤10∧sizeD f≤300):=by simpa[whB]using hW
  have a1:=zpg (T:=T) f dim pars hW2.2.2.2.2.2.1 hn hs
  have a2:=zph (T:=T) f dim pars hW2.2.2.2.2.2.1 (by omega) hn
  generalize chkL dim pars f.lets 0 f.lets=X at *
  generalize chkO dim pars f.lets.length 0 f.outs=Y at *
  unfold stCL bxFd endC at a1
  unfold stCO bxFd endC at a2
  simp only[Int.natCast_zero]at a1 a2
  obtain⟨L,O⟩:=f
  dsimp only at *
  clear hW2 hn hs hz
  rw[f477 _ rfl,b477]
  obtain _ | ⟨x1,x2,x3⟩:=X
  ·dsimp only at a1 ⊢
   obtain _ | ⟨y1,y2,y3⟩:=Y
   ·dsimp only at a2
    unfold fltC
    simp -implicitDefEqProofs[c,a1,a2]
   ·dsimp only at a2
    unfold fltC
    simp -implicitDefEqProofs[c,a1,a2]
  ·dsimp only at a1 ⊢
   unfold fltC
   simp -implicitDefEqProofs[c,a1]
end
structure Fq where
 C:List Ins
 W:List Nat
 P:List Nat
def ltQ(q:Fq)(c:List Nd):Fq:=let r:=exQ q.P q.C q.W c;⟨r.C,r.W,q.P++[(r.s[0]?).getD 0]⟩
def ltsQ(L:List (List Nd)):Fq:=L.foldl ltQ ⟨[],[],[]⟩
def ouQ(Ls:List Nat)(q:Fq)(c:List Nd):Fq:=let r:=exQ Ls q.C q.W c;⟨r.C,r.W,q.P++[(r.s[0]?).getD 0]⟩
def ousQ(q:Fq)(O:List (List Nd)):Fq:=O.foldl (ouQ q.P) ⟨q.C,q.W,[]⟩
theorem zdo(L:List (List Nd))(c:List Nd):ltsQ (L++[c])=ltQ (ltsQ L) c:=by simp[ltsQ]
theorem zdp(q:Fq)(O:List (List Nd))(c:List Nd):ousQ q (O++[c])=ouQ q.P (ousQ q O) c:=by simp[ousQ]
theorem zsx(Ls:List Nat)(C:List Ins)(W:List Nat)(c:List Nd):(exQ Ls C W c).C.length≤C.length+c.length∧(exQ Ls C W c).W.length=W.length+c.length:=by
 induction c using zdc with
 | nil=>exact⟨Nat.le_refl _,rfl⟩
 | append_singleton c x ih=>
  rw[zod]
  have:=zsw Ls (exQ Ls C W c).C (exQ Ls C W c).s x
  refine⟨?_,?_⟩
  ·show (ndI Ls (exQ Ls C W c).C (exQ Ls C W c).s x).1.length≤_
   rw[List.length_append,List.length_singleton];omega
  ·show ((exQ Ls C W c).W++[_]).length=_
   rw[List.length_append,List.length_append,List.length_singleton,List.length_singleton,ih.2];omega
theorem zdx(L:List (List Nd)):(ltsQ L).P.length=L.length∧(ltsQ L).C.length≤(L.map List.length).sum∧(ltsQ L).W.length=(L.map List.length).sum:=by
 induction L using zdc with
 | nil=>exact⟨rfl,Nat.le_refl _,rfl⟩
 | append_singleton L c ih=>
  rw[zdo]
  obtain⟨h1,h2,h3⟩:=ih
  have:=zsx (ltsQ L).P (ltsQ L).C (ltsQ L).W c
  refine⟨?_,?_,?_⟩
  ·show ((ltsQ L).P++[_]).length=_
   simp[h1]
  ·show (exQ (ltsQ L).P (ltsQ L).C (ltsQ L).W c).C.length≤_
   rw[List.map_append,List.sum_append]
   simp
   omega
  ·show (exQ (ltsQ L).P (ltsQ L).C (ltsQ L).W c).W.length=_
   rw[List.map_append,List.sum_append]
   simp
   omega
theorem zmm(L:List (List Nd)):∀y∈(ltsQ L).C,MkI y:=by
 induction L using zdc with
 | nil=>intro y hy;cases hy
 | append_singleton L c ih=>rw[zdo];exact zof _ c ⟨_,_,[]⟩ ih
theorem zi4(q:Fq)(O:List (List Nd)):(ousQ q O).P.length=O.length∧(ousQ q O).C.length≤q.C.length+(O.map List.length).sum∧(ousQ q O).W.length=q.W.length+(O.map List.length).sum:=by
 induction O using zdc with
 | nil=>exact⟨rfl,Nat.le_refl _,rfl⟩
 | append_singleton O c ih=>
  rw[zdp]
  obtain⟨h1,h2,h3⟩:=ih
  have:=zsx q.P (ousQ q O).C (ousQ q O).W c
  refine⟨?_,?_,?_⟩
  ·show ((ousQ q O).P++[_]).length=_
   simp[h1]
  ·show (exQ q.P (ousQ q O).C (ousQ q O).W c).C.length≤_
   rw[List.map_append,List.sum_append]
   simp
   omega
  ·show (exQ q.P (ousQ q O).C (ousQ q O).W c).W.length=_
   rw[List.map_append,List.sum_append]
   simp
   omega
theorem zsy(q:Fq)(O:List (List Nd))(h:∀y∈q.C,MkI y):∀y∈(ousQ q O).C,MkI y:=by
 induction O using zdc with
 | nil=>exact h
 | append_singleton O c ih=>rw[zdp];exact zof _ c ⟨_,_,[]⟩ ih
def fldQ(f:Fd):Fq:=ousQ (ltsQ (f.lets.map (·.code))) f.outs
def tapQ(f:Fd)(pars:Int):Tp:=⟨(fldQ f).C,(fldQ f).P.map fun(n:Nat)=>(n:Int),f.outs.length,pars⟩
theorem zgv(l:List (List Nd))(i:Nat):((l.take i).map List.length).sum≤(l.map List.length).sum:=by
 conv=>rhs;rw[←List.take_append_drop i l,List.map_append,List.sum_append]
 omega
section
variable{T:Tbl}[CText T][CComp T][CLimb T][CNat T][CProd T][CTwos T][CQuot T][CQuotD T][CWhole T][CCommon T][CFrac T][CFrac2 T][CFrac3 T][CFrac5 T][CPow T][CTape T][CGauge T][CEval T][CEval2 T][CTree T][CLenD T]
theorem zsz(f:Fd)(dim pars:Int)(hF:FineD f dim pars)(hn:thinD 1000 50000 f) :
  loopN T 0 0 (.norm false [1,2,4,6,8]) l644_0 (stF1 f pars [] [] [] 0) =
   some (.n,⟨[(1,.i .i64 pars),(2,.ptr (.loc 2) 1 2 0 0),(4,.ptr (.loc 4) 2 4 0 0),(6,.ptr (.loc 6) 3 4 0 0),(8,.ptr mkB 4 4 0 0)],
    [(.loc 2,⟨1,.str,2,[[.sl (rowLt f.lets) .an,.sl (rowC f.outs) .an]]⟩),bx4 2,bx6 3]++mkBx 4 (ltsQ (f.lets.map (·.code))).C (ltsQ (f.lets.map (·.code))).P (ltsQ (f.lets.map (·.code))).W,10⟩):=by
 have hsz:=hF.wh.2.2.2.2.2.2
 have h10:=hF.wh.2.2.2.2.2.1
 have hsum:((f.lets.map (·.code)).map List.length).sum≤300:=by
  unfold sizeD codesD at hsz
  rw[List.map_append,List.sum_append]at hsz
  omega
 refine zap (T:=T) (k:=0) (id:=0) (g2:=.norm false [1,2,4,6,8]) (c:=l644_0) (fun i=>stF1 f pars (ltsQ ((f.lets.map (·.code)).take i)).C (ltsQ ((f.lets.map (·.code)).take i)).P (ltsQ ((f.lets.map (·.code)).take i)).W i) f.lets.length _ (fun i hi=>?_) ?_
 ·obtain⟨x,hx,hmem⟩:∃x,f.lets[i]? = some x∧x∈f.lets:=⟨f.lets[i]'hi,List.getElem?_eq_getElem hi,List.getElem_mem hi⟩
  have hxc:(f.lets.map (·.code))[i]? = some x.code:=by rw[List.getElem?_map,hx];rfl
  have htk:ltsQ ((f.lets.map (·.code)).take (i+1))=ltQ (ltsQ ((f.lets.map (·.code)).take i)) x.code:=by rw[List.take_add_one,hxc,Option.toList_some,zdo]
  obtain⟨h1,h2,h3⟩:=zdx ((f.lets.map (·.code)).take i)
  have hs:=zgv (f.lets.map (·.code)) i
  have hmk:=zmm ((f.lets.map (·.code)).take i)
  have hil:((f.lets.map (·.code)).take i).length=i:=by rw[List.length_take,List.length_map];omega
  obtain⟨t,ht,hte,hok⟩:=zcq (hF.lets i x hx)
  have hwr:wrongN x.code=-1:=by rw[←hte];exact zeb ht
  have hcl:=hF.len x.code (zfa hmem)
  have hth:=(hn x.code (zfa hmem)).2
  rw[htk]
  generalize ltsQ ((f.lets.map (·.code)).take i)=q at *
  obtain⟨Cq,Wq,Pq⟩:=q
  dsimp only at *
  obtain⟨_,gc,hgc,hc⟩:=zkz (T:=T) Cq Pq Wq x.code hmk hwr (fun y hy ho=>by
   have:=zjh (hok y hy) ho
   omega) hth (by omega) (by omega) (by omega)
  exact zgt f pars Cq _ Pq Wq _ i _ gc x hgc hx (by omega) (by omega) (by omega) hc
 ·rw[show f.lets.length=(f.lets.map (·.code)).length by simp,List.take_length]
  unfold stF1
  rw[show (f.lets.map (·.code)).length=f.lets.length by simp]
  generalize ltsQ (f.lets.map (·.code))=q
  obtain⟨Cq,Wq,Pq⟩:=q
  constructor<;>simp -implicitDefEqProofs[l644_0]
theorem zs0(f:Fd)(dim pars:Int)(hF:FineD f dim pars)(hn:thinD 1000 50000 f) :
  loopN T 0 2 (.norm false [4,6,8,11]) l644_1 (stF2 f.outs.length f.outs pars (ltsQ (f.lets.map (·.code))).C (ltsQ (f.lets.map (·.code))).P (ltsQ (f.lets.map (·.code))).W [] 0) =
   some (.n,⟨[(4,.ptr (.loc 4) 1 4 0 0),(6,.ptr (.loc 6) 2 4 0 0),(8,.ptr mkB 3 4 0 0),(11,.ptr (.loc 11) 8 4 0 0)],
    [bx4 1,bx6 2]++mkBx 3 (fldQ f).C (ltsQ (f.lets.map (·.code))).P (fldQ f).W++[(.loc 11,⟨8,.str,4,[[.sl [] .an,.bs (.fld (.loc 11) 1) 9 1 0 (fldQ f).P.length,.i .i64 (f.outs.length:Int),.i .i64 pars]]⟩),(.fld (.loc 11) 1,⟨9,.own,1,natR (fldQ f).P⟩)],11⟩):=by
 have hsz:=hF.wh.2.2.2.2.2.2
 have h10:=hF.wh.2.2.2.2.2.1
 have hod:=hF.wh.2.2.2.2.1
 have hd6:=hF.wh.2.1
 have hsum:((f.lets.map (·.code)).map List.length).sum+(f.outs.map List.length).sum≤300:=by
  unfold sizeD codesD at hsz
  rw[List.map_append,List.sum_append]at hsz
  omega
 obtain⟨l1,l2,l3⟩:=zdx (f.lets.map (·.code))
 rw[List.length_map]at l1
 have lmk:=zmm (f.lets.map (·.code))
 unfold fldQ
 generalize ltsQ (f.lets.map (·.code))=q0 at *
 refine zap (T:=T) (k:=0) (id:=2) (g2:=.norm false [4,6,8,11]) (c:=l644_1) (fun i=>stF2 f.outs.length f.outs pars (ousQ q0 (f.outs.take i)).C q0.P (ousQ q0 (f.outs.take i)).W (ousQ q0 (f.outs.take i)).P i) f.outs.length _ (fun i hi=>?_) ?_
 ·obtain⟨x,hx,hmem⟩:∃x,f.outs[i]? = some x∧x∈f.outs:=⟨f.outs[i]'hi,List.getElem?_eq_getElem hi,List.getElem_mem hi⟩
  have htk:ousQ q0 (f.outs.take (i+1))=ouQ q0.P (ousQ q0 (f.outs.take i)) x:=by rw[List.take_add_one,hx,Option.toList_some,zdp]
  obtain⟨h1,h2,h3⟩:=zi4 q0 (f.outs.take i)
  have hs:=zgv f.outs i
  have hmk:=zsy q0 (f.outs.take i) lmk
  have hil:(f.outs.take i).length=i:=by rw[List.length_take];omega
  obtain⟨t,ht,hte,hok⟩:=zcq (hF.outs x hmem)
  have hwr:wrongN x=-1:=by rw[←hte];exact zeb ht
  have hcl:=hF.len x (zfb hmem)
  have hth:=(hn x (zfb hmem)).2
  rw[htk]
  generalize ousQ q0 (f.outs.take i)=q at *
  obtain⟨Cq,Wq,Pq⟩:=q
  dsimp only at *
  obtain⟨_,gc,hgc,hc⟩:=zkz (T:=T) Cq q0.P Wq x hmk hwr (fun y hy ho=>by
   have:=zjh (hok y hy) ho
   omega) hth (by omega) (by omega) (by omega)
  exact zgu f.outs.length f.outs pars Cq _ q0.P Wq _ Pq i _ gc x hgc hx (by omega) (by omega) (by omega) hc
 ·rw[List.take_length]
  unfold stF2
  generalize ousQ q0 f.outs=q
  obtain⟨Cq,Wq,Pq⟩:=q
  obtain⟨C0,W0,P0⟩:=q0
  constructor<;>simp -implicitDefEqProofs[l644_1]
end
theorem zvb(Q:List Nat):ints (Q.map fun(n:Nat)=>(n:Int))=natR Q:=by simp[ints,natR]
section
variable{T:Tbl}[CText T][CComp T][CLimb T][CNat T][CProd T][CTwos T][CQuot T][CQuotD T][CWhole T][CCommon T][CFrac T][CFrac2 T][CFrac3 T][CFrac5 T][CPow T][CTape T][CGauge T][CEval T][CEval2 T][CTree T][CLenD T]
theorem zpk:callH T 647 [] []=some (.ptr (.loc 3) 1 4 0 0,[(.loc 3,⟨1,.str,4,[[.sl [] .nl,.fnp 0 (.loc 1) 2 2 0 0,.sl [] .nl,.sl [] .nl]]⟩),(.loc 1,⟨2,.mp,2,[]⟩)]):=by
 rw[f647 _ _ rfl,b647]
 simp -implicitDefEqProofs[genAt]
variable[CTree2 T][CJoin T][CLex T][CCheck T]
theorem zhk(f:Fd)(pars:Int)(h1:f.lets.length≤100000)(h2:f.outs.length≤100000)(hn:thinD 1000 50000 f)(hz:sizeD f≤4294967295)(hs:∀x∈f.lets,x.name.length≤100000)(q:Int×Int×Int)(hq:chkD f f.outs.length pars=some q) :
  callF T 644 [efd f,.i .i64 pars]=some (.tup [etp ⟨[],[],0,0⟩,.sl [] .an,fltC (some q)]):=by
 have c:=zgs (T:=T) f f.outs.length pars h1 h2 hn hz hs
 rw[hq]at c
 obtain⟨q1,q2,q3⟩:=q
 unfold fltC at c ⊢
 obtain⟨L,O⟩:=f
 dsimp only at *
 clear hq hn hz hs
 rw[f644 _ rfl,b644]
 simp -implicitDefEqProofs[c]
theorem ze5(f:Fd)(pars:Int)(h1:f.lets.length≤100000)(h2:f.outs.length≤100000)(hn:thinD 1000 50000 f)(hz:sizeD f≤4294967295)(hs:∀x∈f.lets,x.name.length≤100000)(hq:chkD f f.outs.length pars=none) :
  callF T 644 [efd f,.i .i64 pars]=some (.tup [etp (tapQ f pars),.sl (natR (fldQ f).W) .an,fltC none]):=by
 have c:=zgs (T:=T) f f.outs.length pars h1 h2 hn hz hs
 rw[hq]at c
 have hF:=zha hq
 have l1:=zsz (T:=T) f f.outs.length pars hF hn
 have l2:=zs0 (T:=T) f f.outs.length pars hF hn
 have hb:=zpk (T:=T)
 unfold tapQ
 unfold fltC at c ⊢
 unfold stF1 at l1
 unfold stF2 at l2
 dsimp only[etp]
 rw[zvb]
 have htW:(natR (fldQ f).W).take (fldQ f).W.length=natR (fldQ f).W:=List.take_of_length_le (by rw[zcp];exact Nat.le_refl _)
 have htP:(natR (fldQ f).P).take (fldQ f).P.length=natR (fldQ f).P:=List.take_of_length_le (by rw[zcp];exact Nat.le_refl _)
 have htC:(rowI (fldQ f).C).take (fldQ f).C.length=rowI (fldQ f).C:=List.take_of_length_le (by rw[zm6];exact Nat.le_refl _)
 generalize ltsQ (f.lets.map (·.code))=q0 at *
 generalize fldQ f=q1 at *
 obtain⟨C0,W0,P0⟩:=q0
 obtain⟨C1,W1,P1⟩:=q1
 obtain⟨L,O⟩:=f
 dsimp only at *
 clear hq hn hz hs hF
 simp only[mkBx,mkB,bx4,bx6,Nat.reduceAdd,List.cons_append,List.nil_append,zwd,zvw,List.length_nil,show rowI []=[] from rfl]at l1 l2
 rw[show (((0:Nat):Int))=0 from rfl]at l1 l2
 rw[f644 _ rfl,b644]
 simp -implicitDefEqProofs[c,hb,l1,l2,htW,htP,htC,genAt]
end
def cntN(c:List Nd):Nat:=(c.filter fun x=>decide (x.op≠5)).length
def ndsF(f:Fd):Nat:=((codesD f).map cntN).sum
theorem zs1(c:List Nd)(x:Nd):cntN (c++[x])=cntN c+if x.op=5 then 0 else 1:=by
 unfold cntN
 rw[List.filter_append,List.length_append]
 by_cases h:x.op=5
 ·rw[if_pos h];simp[h]
 ·rw[if_neg h];simp[h]
theorem zmn(c:List Nd):cntN c≤c.length:=List.length_filter_le ..
def bx5(t:Tp):BId×Box:=(.loc 5,⟨1,.str,4,[[.sl (rowI t.code) .an,.sl (ints t.outs) .an,.i .i64 t.dim,.i .i64 t.par]]⟩)
def stSv0(t:Tp)(n:Nat)(l:List (List Nd))(i:Nat)(c:List Nd)(j:Nat):St:=
 ⟨[(5,.ptr (.loc 5) 1 4 0 0),(8,.i .i64 (n:Int)),(24,.sl (rowC l) .an),(25,.i .i64 l.length),(26,.i .i64 (i:Int)),(30,.sl (rowN c) .an),(31,.i .i64 c.length),(32,.i .i64 (j:Int))],[bx5 t],3⟩
def stSv1(t:Tp)(n:Nat)(l:List (List Nd))(i:Nat):St:=
 ⟨[(5,.ptr (.loc 5) 1 4 0 0),(8,.i .i64 (n:Int)),(24,.sl (rowC l) .an),(25,.i .i64 l.length),(26,.i .i64 (i:Int))],[bx5 t],3⟩
section
variable{T:Tbl}[CText T][CComp T]
theorem zmo(t:Tp)(n:Nat)(l:List (List Nd))(i:Nat)(c:List Nd)(hc:c.length≤100000)(hn:n≤1000000000)(hx:thin 1000 c) :
  loopN T 0 2 (.norm false [5,8,24,25,26]) l645_0 (stSv0 t n l i c 0)=some (.n,stSv1 t (n+cntN c) l i):=by
 have:=zap (T:=T) (k:=0) (id:=2) (g2:=.norm false [5,8,24,25,26]) (c:=l645_0) (fun j=>stSv0 t (n+cntN (c.take j)) l i c j) c.length (some (.n,stSv1 t (n+cntN c) l i)) (fun j hj=>?_) ?_
 ·simpa[show cntN []=0 from rfl]using this
 ·obtain⟨x,hx',hmem⟩:∃x,c[j]? = some x∧x∈c:=⟨c[j]'hj,List.getElem?_eq_getElem hj,List.getElem_mem hj⟩
  obtain⟨_,hge⟩:=List.getElem?_eq_some_iff.1 hx'
  have hlt':(j:Int)<c.length:=by omega
  have hws:=zbq hj (by omega)
  have hle:=zmn (c.take j)
  rw[List.length_take]at hle
  have hnx:=hx x hmem
  rw[List.take_add_one,hx',Option.toList_some,zs1]
  generalize hm:n+cntN (c.take j)=m at *
  have hw:IntKind.wrap .i64 ((m:Int)+1)=(m:Int)+1:=zac _ (by omega)
  have h32:x.n.length≤4294967296:=by omega
  obtain⟨op,xi,nn⟩:=x
  dsimp only at *
  by_cases ho:op=5
  ·subst ho
   rw[if_pos rfl,Nat.add_zero,hm]
   unfold stSv0 bx5
   simp -implicitDefEqProofs[l645_0,hj,hlt',hx',hge,hws,h32]
  ·rw[if_neg ho,←Nat.add_assoc,hm]
   unfold stSv0 bx5
   simp -implicitDefEqProofs[l645_0,hj,hlt',hx',hge,hws,ho,hw,h32]
 ·rw[List.take_length]
  unfold stSv0 stSv1 bx5
  constructor<;>simp -implicitDefEqProofs[l645_0]
theorem zmp(t:Tp)(l:List (List Nd))(hl:l.length≤1000)(hc:∀c∈l,c.length≤50000∧thin 1000 c) :
  loopN T 0 0 (.norm false [5,8]) l645_1 (stSv1 t 0 l 0)=some (.n,⟨[(5,.ptr (.loc 5) 1 4 0 0),(8,.i .i64 (((l.map cntN).sum:Nat):Int))],[bx5 t],3⟩):=by
 have:=zap (T:=T) (k:=0) (id:=0) (g2:=.norm false [5,8]) (c:=l645_1) (fun i=>stSv1 t ((l.take i).map cntN).sum l i) l.length
  (some (.n,⟨[(5,.ptr (.loc 5) 1 4 0 0),(8,.i .i64 (((l.map cntN).sum:Nat):Int))],[bx5 t],3⟩)) (fun i hi=>?_) ?_
 ·simpa using this
 ·obtain⟨c,hx,hmem⟩:∃x,l[i]? = some x∧x∈l:=⟨l[i]'hi,List.getElem?_eq_getElem hi,List.getElem_mem hi⟩
  obtain⟨_,hge⟩:=List.getElem?_eq_some_iff.1 hx
  have hlt':(i:Int)<l.length:=by omega
  have hws:=zbq hi (by omega)
  obtain⟨c1,c2⟩:=hc c hmem
  have hb:((l.take i).map cntN).sum≤50000*1000:=by
   have key:∀m:List (List Nd),(∀d∈m,d.length≤50000)→(m.map cntN).sum≤50000*m.length:=by
    intro m
    induction m with
    | nil=>intro _;simp
    | cons d m ih=>
     intro h
     have h1:=ih fun e he=>h e (List.mem_cons_of_mem _ he)
     have h2:=h d List.mem_cons_self
     have h3:=zmn d
     simp only[List.map_cons,List.sum_cons,List.length_cons]
     omega
   have h4:=key (l.take i) fun d hd=>(hc d (List.mem_of_mem_take hd)).1
   rw[List.length_take]at h4
   have:50000*min i l.length≤50000*1000:=Nat.mul_le_mul_left _ (by omega)
   omega
  have h0:=zmo (T:=T) t ((l.take i).map cntN).sum l i c (by omega) (by omega) c2
  rw[List.take_add_one,hx,Option.toList_some,List.map_append,List.sum_append,List.map_singleton,List.sum_singleton]
  generalize ((l.take i).map cntN).sum=m at *
  unfold stSv0 stSv1 bx5 at h0
  unfold stSv1 bx5
  simp -implicitDefEqProofs at h0
  simp -implicitDefEqProofs[l645_1,hi,hlt',hx,hge,hws,h0]
 ·rw[List.take_length]
  unfold stSv1 bx5
  constructor<;>simp -implicitDefEqProofs[l645_1]
variable[CLimb T][CNat T][CProd T][CTwos T][CQuot T][CQuotD T][CWhole T][CCommon T][CFrac T][CFrac2 T][CFrac3 T][CFrac5 T][CPow T][CTape T][CGauge T][CEval T][CEval2 T][CTree T][CLenD T][CTree2 T][CJoin T][CLex T][CCheck T]
theorem zpl(f:Fd)(pars:Int)(h1:f.lets.length≤100)(h2:f.outs.length≤100)(hn:thinD 1000 50000 f)(hz:sizeD f≤4294967295)(hs:∀x∈f.lets,x.name.length≤100000)(hq:chkD f f.outs.length pars=none) :
  callF T 645 [efd f,.i .i64 pars]=some (.i .i64 ((ndsF f:Int)-((fldQ f).C.length:Int))):=by
 have c:=ze5 (T:=T) f pars (by omega) (by omega) hn hz hs hq
 have cc:=zie (T:=T) f (by omega) (by omega) (fun c hc=>⟨by have:=(hn c hc).1;omega,(hn c hc).2⟩)
 have hF:=zha hq
 have hcl:(codesD f).length≤1000:=by simp[codesD];omega
 have l1:=zmp (T:=T) (tapQ f pars) (codesD f) hcl fun c hc=>hn c hc
 have hnb:ndsF f≤300:=by
  have key:∀m:List (List Nd),(m.map cntN).sum≤(m.map List.length).sum:=by
   intro m
   induction m with
   | nil=>exact Nat.le_refl _
   | cons d m ih=>have:=zmn d;simp only[List.map_cons,List.sum_cons];omega
  exact Nat.le_trans (key (codesD f)) hF.wh.2.2.2.2.2.2
 have hCb:(fldQ f).C.length≤300:=by
  have e1:=zi4 (ltsQ (f.lets.map (·.code))) f.outs
  have e2:=zdx (f.lets.map (·.code))
  have e3:=hF.wh.2.2.2.2.2.2
  unfold sizeD codesD at e3
  rw[List.map_append,List.sum_append]at e3
  show (ousQ (ltsQ (f.lets.map (·.code))) f.outs).C.length≤_
  omega
 have hw:IntKind.wrap .i64 ((ndsF f:Int)-((fldQ f).C.length:Int))=(ndsF f:Int)-((fldQ f).C.length:Int):=zac _ (by omega)
 unfold stSv1 bx5 tapQ at l1
 rw[show ((codesD f).map cntN).sum=ndsF f from rfl]at l1
 unfold tapQ at c
 unfold fltC at c
 generalize codesD f=l at *
 generalize ndsF f=N at *
 generalize fldQ f=q at *
 obtain⟨Cq,Wq,Pq⟩:=q
 obtain⟨L,O⟩:=f
 dsimp only at *
 clear hn hz hs hF hq
 rw[f645 _ rfl,b645]
 simp -implicitDefEqProofs at l1
 simp -implicitDefEqProofs[c,cc,l1,hw]
end
def wk25c:List Nd:=[⟨2,0,[]⟩,⟨1,0,[1]⟩,⟨7,0,[]⟩,⟨2,0,[]⟩,⟨1,0,[1]⟩,⟨7,0,[]⟩,⟨9,0,[]⟩]
def wk25:Fd:=⟨[],[wk25c]⟩
section
variable{T:Tbl}[CText T][CComp T][CLimb T][CNat T][CProd T][CTwos T][CQuot T][CQuotD T][CWhole T][CCommon T][CFrac T][CFrac2 T][CFrac3 T][CFrac5 T][CPow T][CTape T][CGauge T][CEval T][CEval2 T][CTree T][CLenD T][CTree2 T][CJoin T][CLex T][CCheck T][CLaw25 T]
theorem zmv:callF T 658 []=some (.b true):=by
 have hn:thinD 1000 50000 wk25:=by
  intro c hc
  have:c=wk25c:=by simpa[codesD,wk25]using hc
  subst this
  refine⟨by decide,fun x hx=>?_⟩
  simp only[wk25c,List.mem_cons,List.not_mem_nil,or_false]at hx
  rcases hx with rfl | rfl | rfl | rfl | rfl | rfl | rfl<;>decide
 have hq:chkD wk25 wk25.outs.length 0=none:=by decide +kernel
 have hC:(fldQ wk25).C.length=4:=by decide +kernel
 have hW:(fldQ wk25).W=[0,1,2,0,1,2,3]:=by decide +kernel
 have hN:ndsF wk25=7:=by decide +kernel
 have c1:=ze5 (T:=T) wk25 0 (by decide) (by decide) hn (by decide) (by simp[wk25]) hq
 have c2:=zpl (T:=T) wk25 0 (by decide) (by decide) hn (by decide) (by simp[wk25]) hq
 rw[hN,hC]at c2
 rw[hW]at c1
 unfold tapQ fltC at c1
 generalize fldQ wk25=q at *
 obtain⟨C,W,P⟩:=q
 dsimp only at hC hW c1 c2
 generalize hO:(P.map fun(n:Nat)=>(n:Int))=O at *
 clear hn hq hN hW hO
 unfold wk25 wk25c at c1 c2
 have u1:u32s [1]=[[u32 1]]:=rfl
 simp only[rowN,rowC,rowLt,celLt,celN,natR,List.map_cons,List.map_nil,efd,u1,zu7,List.length_cons,List.length_nil]at c1 c2
 simp only[Int.natCast_one,Int.natCast_zero,Int.cast_ofNat_Int]at c1 c2
 rw[f658 _ rfl,b658]
 simp -implicitDefEqProofs[c1,c2,hC]
end
def scW:Nat→List Nat→Option Nat
 | n,[]=>some n
 | n,p::r=>if n<p then none else scW (if p=n then n+1 else n) r
theorem zew:∀(W:List Nat) (n p:Nat),scW n (W++[p])=(scW n W).bind fun m=>if m<p then none else some (if p=m then m+1 else m)
 | [],n,p=>rfl
 | q::W,n,p=>by
  show (if n<q then none else scW _ (W++[p]))=(if n<q then none else scW _ W).bind _
  by_cases h:n<q
  ·rw[if_pos h,if_pos h];rfl
  ·rw[if_neg h,if_neg h,zew W]
structure InvC (dim par:Int) (C:List Ins) (W:List Nat):Prop where
 nd:C.Nodup
 may:∀(k:Nat) (i:Ins),C[k]? = some i→mayI dim par k i=true
 sc:scW 0 W=some C.length
theorem zwh{dim par:Int}{C:List Ins}{W:List Nat}(h:InvC dim par C W)(x:Ins)(hx:mayI dim par C.length x=true):InvC dim par (putI C x).1 (W++[(putI C x).2]):=by
 unfold putI
 cases hi:idxI x 0 C with
 | some i=>
  have:=zm4 x C 0 i hi
  refine⟨h.nd,h.may,?_⟩
  rw[zew,h.sc,Option.bind_some,if_neg (by dsimp only;omega),if_neg (by dsimp only;omega)]
 | none=>
  have hm:=zlg x C 0 hi
  refine⟨?_,fun k i hk=>?_,?_⟩
  ·show (C++[x]).Nodup
   rw[List.nodup_append]
   refine⟨h.nd,by simp,fun a ha b hb=>?_⟩
   rw[List.mem_singleton]at hb
   subst hb
   exact fun e=>hm (e▸ha)
  ·replace hk:(C++[x])[k]? = some i:=hk
   by_cases hkl:k<C.length
   ·rw[List.getElem?_append_left hkl]at hk
    exact h.may k i hk
   ·rw[List.getElem?_append_right (by omega)]at hk
    have hk0:k-C.length=0:=by
     obtain⟨h1,_⟩:=List.getElem?_eq_some_iff.1 hk
     simp only[List.length_singleton]at h1
     omega
    rw[hk0,List.getElem?_cons_zero,Option.some.injEq]at hk
    subst hk
    have:k=C.length:=by omega
    rw[this];exact hx
  ·show scW 0 (W++[C.length])=some (C++[x]).length
   rw[zew,h.sc,Option.bind_some,if_neg (by omega),if_pos rfl,List.length_append,List.length_singleton]
theorem zc1:blankF blk=true:=rfl
theorem zzk{dim par:Int}{Ls:List Nat}{C:List Ins}{W s:List Nat}{x:Nd}(h:InvC dim par C W)(hL:∀l∈Ls,l<C.length)(hs:∀p∈s,p<C.length)(hok:okN dim par Ls.length x=true)(har:0≤arN x.op∧arN x.op≤s.length) :
  InvC dim par (ndI Ls C s x).1 (W++[(ndI Ls C s x).2])∧C.length≤(ndI Ls C s x).1.length∧(ndI Ls C s x).2<(ndI Ls C s x).1.length:=by
 have hget:∀(l:List Nat) (k:Nat),(∀p∈l,p<C.length)→k<l.length→(l[k]?).getD 0<C.length:=by
  intro l k hl hk
  rw[List.getElem?_eq_getElem hk,Option.getD_some]
  exact hl _ (List.getElem_mem hk)
 unfold ndI
 unfold okN at hok
 by_cases h5:x.op=5
 ·rw[if_pos h5]
  simp only[h5,belB]at hok
  have hi:0≤x.i∧x.i<Ls.length:=by
   revert hok
   split<;>simp
   omega
  have hp:=hget Ls x.i.toNat hL (by omega)
  refine⟨⟨h.nd,h.may,?_⟩,Nat.le_refl _,hp⟩
  rw[zew,h.sc,Option.bind_some,if_neg (by dsimp only;omega),if_neg (by dsimp only;omega)]
 rw[if_neg h5]
 have fin:∀y,mayI dim par C.length y=true→InvC dim par (putI C y).1 (W++[(putI C y).2])∧C.length≤(putI C y).1.length∧(putI C y).2<(putI C y).1.length:=fun y hy=>
  ⟨zwh h y hy,(zev C y).1,(zev C y).2.2⟩
 rcases zbp x.op with ⟨h0,ho⟩ | ⟨h0,ho⟩ | ⟨h0,ho⟩ | ⟨h0,ho⟩
 ·rw[if_pos h0]
  refine fin _ ?_
  unfold leafI
  by_cases h1:x.op=1
  ·rw[if_pos h1]
   simp[mayI,rightF]
  ·rw[if_neg h1]
   rw[if_neg h1]at hok
   by_cases h2:x.op=2
   ·rw[if_pos h2]
    simp[mayI,zc1,readsI]
   ·rw[if_neg h2]
    have h34:x.op=3∨x.op=4:=by omega
    rcases h34 with e | e
    ·have hb:belowB x.i dim=true:=by
      simp[e,belB]at hok
      simp[belowB];omega
     simp[mayI,zc1,readsI,e,hb]
    ·have hb:belowB x.i par=true:=by
      simp[e,belB]at hok
      simp[belowB];omega
     simp[mayI,zc1,readsI,e,hb]
 ·have h01:¬ arN x.op=0:=by omega
  rw[if_neg h01,if_pos h0]
  refine fin _ ?_
  have hp:=hget s (s.length-1) hs (by omega)
  generalize (s[s.length-1]?).getD 0=p at *
  have hb:belowB (p:Int) (C.length:Int)=true:=by simp[belowB];omega
  rcases ho with e | e
  ·have hi:x.i=0:=by
    simp[e]at hok
    exact hok.2
   simp[mayI,zc1,readsI,e,hb,hi]
  ·have hi:-8≤x.i∧x.i≤8:=by
    simp[e]at hok
    omega
   simp[mayI,zc1,readsI,e,hb,hi]
 ·have h01:¬ arN x.op=0:=by omega
  have h02:¬ arN x.op=1:=by omega
  rw[if_neg h01,if_neg h02]
  refine fin _ ?_
  have hp:=hget s (s.length-1) hs (by omega)
  have hq:=hget s (s.length-2) hs (by omega)
  generalize (s[s.length-1]?).getD 0=p at *
  generalize (s[s.length-2]?).getD 0=q at *
  have hb:belowB (p:Int) (C.length:Int)=true:=by simp[belowB];omega
  have hc:belowB (q:Int) (C.length:Int)=true:=by simp[belowB];omega
  have e:x.op=7∨x.op=8∨x.op=9∨x.op=10:=by omega
  rcases e with e | e | e | e<;>simp[mayI,zc1,readsI,e,hb,hc]
 ·omega
theorem zlk{dim par:Int}{Ls:List Nat}:∀(c:List Nd) (q:Mq) (j:Nat),InvC dim par q.C q.W→(∀l∈Ls,l<q.C.length)→(∀p∈q.s,p<q.C.length)→(∀x∈c,okN dim par Ls.length x=true)→wrongL j q.s.length c=-1 →
  InvC dim par (c.foldl (stepQ' Ls) q).C (c.foldl (stepQ' Ls) q).W∧q.C.length≤(c.foldl (stepQ' Ls) q).C.length∧(∀p∈(c.foldl (stepQ' Ls) q).s,p<(c.foldl (stepQ' Ls) q).C.length)∧(c.foldl (stepQ' Ls) q).s.length=1
 | [],q,j,h,hL,hs,hok,hw=>by
  refine⟨h,Nat.le_refl _,hs,?_⟩
  unfold wrongL at hw
  show q.s.length=1
  by_cases h1:q.s.length=1
  ·exact h1
  ·exfalso
   have:¬ (q.s.length:Int)=1:=by omega
   simp only[h1,this,if_false]at hw
   omega
 | x::c,q,j,h,hL,hs,hok,hw=>by
  obtain⟨Cq,Wq,Sq⟩:=q
  dsimp only at *
  have h1:¬ (arN x.op<0∨(Sq.length:Int)<arN x.op):=by
   intro hh
   unfold wrongL at hw
   rw[if_pos hh]at hw
   omega
  have hw2:wrongL (j+1) (Sq.length+1-arN x.op) c=-1:=by
   unfold wrongL at hw
   rwa [if_neg h1]at hw
  obtain⟨ar,har⟩:∃ar:Nat,arN x.op=(ar:Int):=⟨(arN x.op).toNat,by omega⟩
  obtain⟨n1,n2,n3⟩:=zzk h hL hs (hok x List.mem_cons_self) ⟨by omega,by omega⟩
  have hst:stepQ' Ls ⟨Cq,Wq,Sq⟩ x=⟨(ndI Ls Cq Sq x).1,Wq++[(ndI Ls Cq Sq x).2],Sq.take (Sq.length-ar)++[(ndI Ls Cq Sq x).2]⟩:=by
   unfold stepQ'
   rw[har,Int.toNat_natCast]
  have hsl:(Sq.take (Sq.length-ar)++[(ndI Ls Cq Sq x).2]).length=Sq.length-ar+1:=by rw[List.length_append,List.length_take,List.length_singleton];omega
  rw[List.foldl_cons,hst]
  obtain⟨m1,m2,m3,m4⟩:=zlk (dim:=dim) (par:=par) (Ls:=Ls) c ⟨(ndI Ls Cq Sq x).1,Wq++[(ndI Ls Cq Sq x).2],Sq.take (Sq.length-ar)++[(ndI Ls Cq Sq x).2]⟩ (j+1) n1
   (fun l hl=>Nat.lt_of_lt_of_le (hL l hl) n2)
   (fun p hp=>by
    rcases List.mem_append.1 hp with hp | hp
    ·exact Nat.lt_of_lt_of_le (hs p (List.mem_of_mem_take hp)) n2
    ·rw[List.mem_singleton]at hp;rw[hp];exact n3)
   (fun y hy=>hok y (List.mem_cons_of_mem _ hy))
   (by
    dsimp only
    rw[hsl,←hw2]
    congr 1
    omega)
  exact⟨m1,Nat.le_trans n2 m2,m3,m4⟩
theorem zub{dim par:Int}{Ls:List Nat}{C:List Ins}{W:List Nat}(c:List Nd)(h:InvC dim par C W)(hL:∀l∈Ls,l<C.length)(hp:placeN dim par Ls.length c<0) :
  InvC dim par (exQ Ls C W c).C (exQ Ls C W c).W∧C.length≤(exQ Ls C W c).C.length∧((exQ Ls C W c).s[0]?).getD 0<(exQ Ls C W c).C.length:=by
 obtain⟨t,ht,hte,hok⟩:=zcq hp
 have hwr:wrongN c=-1:=by rw[←hte];exact zeb ht
 obtain⟨h1,h2,h3,h4⟩:=zlk (dim:=dim) (par:=par) (Ls:=Ls) c ⟨C,W,[]⟩ 0 h hL (fun p hp=>by cases hp) hok hwr
 refine⟨h1,h2,?_⟩
 unfold exQ
 rw[List.getElem?_eq_getElem (by omega),Option.getD_some]
 exact h3 _ (List.getElem_mem _)
structure InvF (dim par:Int) (q:Fq):Prop where
 inv:InvC dim par q.C q.W
 pl:∀p∈q.P,p<q.C.length
theorem zwi{dim par:Int}(L:List (List Nd))(h:∀(k:Nat) c,L[k]? = some c→placeN dim par (k:Nat) c<0):InvF dim par (ltsQ L):=by
 induction L using zdc with
 | nil=>exact⟨⟨List.nodup_nil,(fun k i hk=>by cases hk),rfl⟩,fun p hp=>by cases hp⟩
 | append_singleton L c ih=>
  have h0:=ih fun k d hd=>h k d (by
   obtain⟨hk,_⟩:=List.getElem?_eq_some_iff.1 hd
   rw[List.getElem?_append_left hk];exact hd)
  have hc:=h L.length c (by rw[List.getElem?_append_right (Nat.le_refl _),Nat.sub_self];rfl)
  rw[←(zdx L).1]at hc
  obtain⟨e1,e2,e3⟩:=zub c h0.inv h0.pl hc
  rw[zdo]
  refine⟨e1,fun p hp=>?_⟩
  rcases List.mem_append.1 hp with hp | hp
  ·exact Nat.lt_of_lt_of_le (h0.pl p hp) e2
  ·rw[List.mem_singleton]at hp;rw[hp];exact e3
theorem zwj{dim par:Int}(q:Fq)(O:List (List Nd))(h0:InvF dim par q)(h:∀c∈O,placeN dim par q.P.length c<0):InvF dim par (ousQ q O)∧q.C.length≤(ousQ q O).C.length:=by
 induction O using zdc with
 | nil=>exact⟨⟨h0.inv,fun p hp=>by cases hp⟩,Nat.le_refl _⟩
 | append_singleton O c ih=>
  obtain⟨h1,h2⟩:=ih fun d hd=>h d (List.mem_append_left _ hd)
  obtain⟨e1,e2,e3⟩:=zub c h1.inv (fun p hp=>Nat.lt_of_lt_of_le (h0.pl p hp) h2) (h c (by simp))
  rw[zdp]
  refine⟨⟨e1,fun p hp=>?_⟩,Nat.le_trans h2 e2⟩
  rcases List.mem_append.1 hp with hp | hp
  ·exact Nat.lt_of_lt_of_le (h1.pl p hp) e2
  ·rw[List.mem_singleton]at hp;rw[hp];exact e3
theorem zog{f:Fd}{dim par:Int}(hF:FineD f dim par):InvF dim par (fldQ f):=by
 have h0:=zwi (dim:=dim) (par:=par) (f.lets.map (·.code)) fun k c hk=>by
  rw[List.getElem?_map]at hk
  obtain⟨x,hx,rfl⟩:=Option.map_eq_some_iff.1 hk
  exact hF.lets k x hx
 refine(zwj _ f.outs h0 fun c hc=>?_).1
 rw[(zdx _).1,List.length_map]
 exact hF.outs c hc
theorem zoh{f:Fd}:(fldQ f).C.length≤sizeD f∧(fldQ f).W.length=sizeD f∧(fldQ f).P.length=f.outs.length:=by
 obtain⟨a1,a2,a3⟩:=zdx (f.lets.map (·.code))
 obtain⟨b1,b2,b3⟩:=zi4 (ltsQ (f.lets.map (·.code))) f.outs
 unfold fldQ sizeD codesD
 rw[List.map_append,List.sum_append]
 exact⟨by omega,by omega,b1⟩
theorem zzl{f:Fd}{par:Int}(hF:FineD f f.outs.length par):okT (tapQ f par)=true:=by
 have hi:=zog hF
 obtain⟨l1,l2,l3⟩:=zoh (f:=f)
 obtain⟨w1,w2,w3,w4,w5,w6,w7⟩:=hF.wh
 rw[zzn]
 refine⟨w1,w2,w3,w4,?_,?_,hi.inv.may,fun o ho=>?_⟩
 ·show (((fldQ f).P.map _).length:Int)=_
  rw[List.length_map,l3]
  rfl
 ·exact Nat.le_trans l1 w7
 ·obtain⟨p,hp,rfl⟩:=List.mem_map.1 ho
  have:=hi.pl p hp
  refine⟨by omega,?_⟩
  show (p:Int)<((fldQ f).C.length:Int)
  omega
theorem z4o{x y:Ins}(hx:MkI x)(hy:MkI y)(h1:x.op=y.op)(h2:x.a=y.a)(h3:x.b=y.b)(h4:fv x.n=fv y.n):x=y:=by
 refine Ins.ext' h1 h2 h3 ?_
 by_cases ho:x.op=1
 ·obtain⟨n,hn⟩:=hx.1 ho
  obtain⟨m,hm⟩:=hy.1 (h1▸ho)
  rw[hn,hm,z4j,z4j]at h4
  rw[hn,hm,h4]
 ·rw[hx.2 ho,hy.2 (h1▸ho)]
theorem zwk{C:List Ins}(h:C.Nodup){i j:Nat}{x y:Ins}(hx:C[i]? = some x)(hy:C[j]? = some y)(hij:j<i):x≠y:=by
 intro e
 subst e
 obtain⟨h1,h2⟩:=List.getElem?_eq_some_iff.1 hx
 obtain⟨h3,h4⟩:=List.getElem?_eq_some_iff.1 hy
 have:=(List.pairwise_iff_getElem.1 h) j i h3 h1 hij
 rw[h2,h4]at this
 exact this rfl
theorem zih:∀(A B:List Nat) (n:Nat),scW n (A++B)=(scW n A).bind fun m=>scW m B
 | [],B,n=>rfl
 | q::A,B,n=>by
  show (if n<q then none else scW _ (A++B))=(if n<q then none else scW _ A).bind _
  by_cases h:n<q
  ·rw[if_pos h,if_pos h];rfl
  ·rw[if_neg h,if_neg h,zih A]
theorem zxc:∀(A:List Nat) (n m:Nat),scW n A=some m→m≤n+A.length
 | [],n,m,h=>by cases h;simp
 | q::A,n,m,h=>by
  unfold scW at h
  split at h
  ·cases h
  ·have:=zxc A _ m h
   rw[List.length_cons]
   split at this<;>omega
def nxW(W:List Nat)(k:Nat):Nat:=(scW 0 (W.take k)).getD 0
theorem zwl{W:List Nat}{n:Nat}(h:scW 0 W=some n){k p:Nat}(hp:W[k]? = some p):p≤nxW W k∧nxW W (k+1)=(if p=nxW W k then nxW W k+1 else nxW W k)∧nxW W k≤k:=by
 have hk:k<W.length:=(List.getElem?_eq_some_iff.1 hp).1
 have e:W=W.take (k+1)++W.drop (k+1):=(List.take_append_drop _ _).symm
 have e1:W.take (k+1)=W.take k++[p]:=by rw[List.take_add_one,hp,Option.toList_some]
 rw[e,zih]at h
 obtain⟨m,hm,_⟩:=Option.bind_eq_some_iff.1 h
 have hm2:=hm
 rw[e1,zew]at hm2
 obtain⟨m0,h0,h1⟩:=Option.bind_eq_some_iff.1 hm2
 have hle:=zxc _ _ _ h0
 rw[List.length_take]at hle
 unfold nxW
 rw[hm,h0,Option.getD_some,Option.getD_some]
 split at h1
 ·cases h1
 ·cases h1
  exact⟨by omega,rfl,by omega⟩
theorem zzm{W:List Nat}{n:Nat}(h:scW 0 W=some n):nxW W W.length=n:=by
 unfold nxW
 rw[List.take_length,h,Option.getD_some]
section
variable{T:Tbl}[CRef17 T]
def stWq(l:List Nd)(p:Nat×Int):St:=⟨[(0,.sl (rowN l) .an),(3,.i .i64 p.2),(4,.i .i64 p.1)],[],2⟩
def longN(l:List Nd)(many words:Int):Bool:=decide (many<l.length) || (l.take many.toNat).any fun x=>decide (words<x.n.length)
theorem zic(l:List Nd)(many words:Nat)(hl:l.length≤4294967296∨many≤4294967295)(hm:many≤4294967295):callF T 10 [.sl (rowN l) .an,.i .i64 many,.i .i64 words]=some (.b (decide (many<l.length) || (l.take many).any fun x=>decide (words<x.n.length))):=by
 have hlo:loopN T 0 0 (.norm false [0,1]) l10_0 ⟨[(0,.sl (rowN l) .an),(1,.i .i64 many),(2,.i .i64 words),(7,.i .i64 ((0:Nat):Int))],[],2⟩ =
   if ((l.take many).drop 0).any (fun x=>decide (words<x.n.length))=true then some (.r,⟨[(6,.b true)],[],2⟩) else some (.n,⟨[(0,.sl (rowN l) .an),(1,.i .i64 many)],[],2⟩):=by
  refine zaz (fun i=>⟨[(0,.sl (rowN l) .an),(1,.i .i64 many),(2,.i .i64 words),(7,.i .i64 ((i:Nat):Int))],[],2⟩) (l.take many).length
   (fun i=>if ((l.take many).drop i).any (fun x=>decide (words<x.n.length))=true then some (.r,_) else some (.n,_)) (fun i hi=>?_) ?_
  ·have hi1:=hi
   rw[List.length_take]at hi1
   have h:i<l.length:=by omega
   have h':(i:Int)<l.length:=by omega
   have h2:i<many:=by omega
   have h2':(i:Int)<many:=by omega
   have hg:l[i]? = some (l[i]'h):=List.getElem?_eq_getElem h
   have hd:(l.take many).drop i=(l.take many)[i]'hi::(l.take many).drop (i+1):=List.drop_eq_getElem_cons hi
   have hx2:(l.take many)[i]'hi=l[i]'h:=by simp
   rw[hx2]at hd
   have hws:=zbq h2 (by omega)
   generalize hx:l[i]'h=x at *
   by_cases hc:words<x.n.length
   ·right
    rw[if_pos (by rw[hd];simp[hc])]
    have hc':(words:Int)<x.n.length:=by omega
    clear hd
    constructor<;>simp -implicitDefEqProofs[l10_0,h,h',h2,h2',hg,hx,hc,hc']
   ·left
    have hc':¬ (words:Int)<x.n.length:=by omega
    refine⟨?_,by rw[hd];simp[hc]⟩
    clear hd
    simp -implicitDefEqProofs[l10_0,h,h',h2,h2',hg,hx,hc,hc',hws]
  ·rw[List.drop_length,List.length_take]
   simp only[List.any_nil,Bool.false_eq_true,if_false]
   by_cases h:l.length≤many
   ·rw[Nat.min_eq_right h]
    constructor<;>simp -implicitDefEqProofs[l10_0]
   ·rw[Nat.min_eq_left (by omega)]
    have h2:many<l.length:=by omega
    have h2':(many:Int)<l.length:=by omega
    constructor<;>simp -implicitDefEqProofs[l10_0,h2,h2']
 rw[List.drop_zero]at hlo
 simp only[Int.natCast_zero]at hlo
 rw[f10 _ rfl,b10]
 generalize (l.take many).any (fun x=>decide (words<x.n.length))=B at *
 cases B with
 | true=>
  rw[if_pos rfl]at hlo
  simp -implicitDefEqProofs[hlo]
 | false=>
  rw[if_neg (by decide)]at hlo
  by_cases h:many<l.length
  ·have h':(many:Int)<l.length:=by omega
   simp -implicitDefEqProofs[hlo,h,h']
  ·have h':¬ (many:Int)<l.length:=by omega
   simp -implicitDefEqProofs[hlo,h,h']
variable[CRef02 T][CRef04 T][CRef05 T][CRef07 T]
def stPq(l:List Nd)(dim pars lets w:Int)(i:Nat):St:=⟨[(0,.sl (rowN l) .an),(1,.i .i64 dim),(2,.i .i64 pars),(3,.i .i64 lets),(9,.i .i64 w),(10,.i .i64 i)],[],2⟩
end
section
variable{T:Tbl}[CRef17 T]
def Tre.parts:Tre→List (List Nd)
 | .leaf _=>[]
 | .un _ a=>[a.flat]
 | .bin _ a b=>[a.flat,b.flat]
end
def lgN(l:List Nd)(many words:Nat):Bool:=decide (many<l.length) || (l.take many).any fun x=>decide (words<x.n.length)
def lgL(nodes words:Nat)(x:Lt):Bool:=decide (100<x.name.length) || lgN x.code nodes words
def lgF(f:Fd)(many nodes words:Nat):Bool:=decide (many<f.lets.length) || decide (many<f.outs.length) || f.lets.any (lgL nodes words) || f.outs.any fun c=>lgN c nodes words
section
variable{T:Tbl}[CRef17 T][CRef19 T]
def stG0(f:Fd)(nodes words i:Nat):St:=⟨[(2,.i .i64 nodes),(3,.i .i64 words),(4,.ptr (.loc 4) 1 2 0 0),(9,.i .i64 i)],[(.loc 4,⟨1,.str,2,[[.sl (rowLt f.lets) .an,.sl (rowC f.outs) .an]]⟩)],3⟩
def stG1(f:Fd)(nodes words i:Nat):St:=⟨[(2,.i .i64 nodes),(3,.i .i64 words),(4,.ptr (.loc 4) 1 2 0 0),(10,.i .i64 i)],[(.loc 4,⟨1,.str,2,[[.sl (rowLt f.lets) .an,.sl (rowC f.outs) .an]]⟩)],3⟩
theorem ztm(f:Fd)(nodes words:Nat)(hnd:nodes≤4294967295)(hl:f.lets.length≤100000) :
  loopN T 0 0 (.norm false [2,3,4]) l466_0 (stG0 f nodes words 0)=if f.lets.any (lgL nodes words)=true then some (.r,⟨[(8,.b true)],[],2⟩) else some (.n,⟨[(2,.i .i64 nodes),(3,.i .i64 words),(4,.ptr (.loc 4) 1 2 0 0)],[(.loc 4,⟨1,.str,2,[[.sl (rowLt f.lets) .an,.sl (rowC f.outs) .an]]⟩)],3⟩):=by
 have:=zaz (T:=T) (k:=0) (id:=0) (g2:=.norm false [2,3,4]) (c:=l466_0) (stG0 f nodes words) f.lets.length
  (fun i=>if (f.lets.drop i).any (lgL nodes words)=true then some (.r,⟨[(8,.b true)],[],2⟩) else some (.n,⟨[(2,.i .i64 nodes),(3,.i .i64 words),(4,.ptr (.loc 4) 1 2 0 0)],[(.loc 4,⟨1,.str,2,[[.sl (rowLt f.lets) .an,.sl (rowC f.outs) .an]]⟩)],3⟩)) (fun i hi=>?_) ?_
 ·simpa using this
 ·have hg:f.lets[i]? = some (f.lets[i]'hi):=List.getElem?_eq_getElem hi
  have hd:f.lets.drop i=f.lets[i]'hi::f.lets.drop (i+1):=List.drop_eq_getElem_cons hi
  have hi':(i:Int)<f.lets.length:=by omega
  have hws:=zbq hi (by omega)
  have c:=zic (T:=T) (f.lets[i]'hi).code nodes words (.inr hnd) hnd
  rw[hd,List.any_cons]
  unfold stG0
  obtain⟨L,O⟩:=f
  dsimp only at *
  clear hd
  generalize hx:L[i]'hi=x at *
  obtain⟨nm,code⟩:=x
  dsimp only at *
  unfold lgL
  dsimp only
  change callF T 10 _=some (.b (lgN code nodes words)) at c
  generalize lgN code nodes words=B at *
  by_cases h1:100<nm.length
  ·right
   have h1':(100:Int)<nm.length:=by omega
   rw[if_pos (by simp[h1])]
   constructor<;>simp -implicitDefEqProofs[l466_0,hi,hi',hg,hx,h1,h1']
  ·have h1':¬ (100:Int)<nm.length:=by omega
   cases B with
   | true=>
    right
    rw[if_pos (by simp)]
    constructor<;>simp -implicitDefEqProofs[l466_0,hi,hi',hg,hx,h1,h1',c]
   | false=>
    left
    refine⟨?_,by simp[h1]⟩
    simp -implicitDefEqProofs[l466_0,hi,hi',hg,hx,h1,h1',c,hws]
 ·rw[List.drop_length,List.any_nil,if_neg (by decide)]
  unfold stG0
  constructor<;>simp -implicitDefEqProofs[l466_0]
theorem ztn(f:Fd)(nodes words:Nat)(hnd:nodes≤4294967295)(hl:f.outs.length≤100000) :
  loopN T 0 2 (.norm false []) l466_1 (stG1 f nodes words 0)=if f.outs.any (fun c=>lgN c nodes words)=true then some (.r,⟨[(8,.b true)],[],2⟩) else some (.n,⟨[],[],2⟩):=by
 have:=zaz (T:=T) (k:=0) (id:=2) (g2:=.norm false []) (c:=l466_1) (stG1 f nodes words) f.outs.length
  (fun i=>if (f.outs.drop i).any (fun c=>lgN c nodes words)=true then some (.r,⟨[(8,.b true)],[],2⟩) else some (.n,⟨[],[],2⟩)) (fun i hi=>?_) ?_
 ·simpa using this
 ·have hg:f.outs[i]? = some (f.outs[i]'hi):=List.getElem?_eq_getElem hi
  have hd:f.outs.drop i=f.outs[i]'hi::f.outs.drop (i+1):=List.drop_eq_getElem_cons hi
  have hi':(i:Int)<f.outs.length:=by omega
  have hws:=zbq hi (by omega)
  have c:=zic (T:=T) (f.outs[i]'hi) nodes words (.inr hnd) hnd
  rw[hd,List.any_cons]
  unfold stG1
  obtain⟨L,O⟩:=f
  dsimp only at *
  clear hd
  generalize hx:O[i]'hi=code at *
  change callF T 10 _=some (.b (lgN code nodes words)) at c
  generalize lgN code nodes words=B at *
  cases B with
  | true=>
   right
   rw[if_pos (by simp)]
   constructor<;>simp -implicitDefEqProofs[l466_1,hi,hi',hg,hx,c]
  | false=>
   left
   refine⟨?_,by simp⟩
   simp -implicitDefEqProofs[l466_1,hi,hi',hg,hx,c,hws]
 ·rw[List.drop_length,List.any_nil,if_neg (by decide)]
  unfold stG1
  constructor<;>simp -implicitDefEqProofs[l466_1]
theorem zmw(f:Fd)(many nodes words:Nat)(hm:many≤100000)(hnd:nodes≤4294967295):callF T 466 [efd f,.i .i64 many,.i .i64 nodes,.i .i64 words]=some (.b (lgF f many nodes words)):=by
 unfold lgF
 by_cases h1:many<f.lets.length
 ·obtain⟨L,O⟩:=f
  dsimp only at *
  have h1':(many:Int)<L.length:=by omega
  rw[f466 _ rfl,b466]
  simp -implicitDefEqProofs[h1,h1']
 by_cases h2:many<f.outs.length
 ·obtain⟨L,O⟩:=f
  dsimp only at *
  have h1':¬ (many:Int)<L.length:=by omega
  have h2':(many:Int)<O.length:=by omega
  rw[f466 _ rfl,b466]
  simp -implicitDefEqProofs[h1,h1',h2,h2']
 have a:=ztm (T:=T) f nodes words hnd (by omega)
 have b:=ztn (T:=T) f nodes words hnd (by omega)
 unfold stG0 at a
 unfold stG1 at b
 obtain⟨L,O⟩:=f
 dsimp only at *
 have h1':¬ (many:Int)<L.length:=by omega
 have h2':¬ (many:Int)<O.length:=by omega
 simp only[Int.natCast_zero]at a b
 rw[f466 _ rfl,b466]
 generalize L.any (lgL nodes words)=A at *
 generalize (O.any fun c=>lgN c nodes words)=B at *
 cases A with
 | true=>
  rw[if_pos rfl]at a
  simp -implicitDefEqProofs[h1,h1',h2,h2',a]
 | false=>
  rw[if_neg (by decide)]at a
  cases B with
  | true=>
   rw[if_pos rfl]at b
   simp -implicitDefEqProofs[h1,h1',h2,h2',a,b]
  | false=>
   rw[if_neg (by decide)]at b
   simp -implicitDefEqProofs[h1,h1',h2,h2',a,b]
end
section
variable{T:Tbl}[CLaw17 T]
theorem zn8(l:List Nd)(hl:l.length≤4294967295):callF T 13 [.sl (rowN l) .an]=some (.sl (rowN l) .an):=by
 have hlo:loopN T 0 0 (.norm false [3]) l13_0 ⟨[(0,.sl (rowN l) .an),(3,.bs (.loc 3) 1 3 0 0),(4,.i .i64 0)],[(.loc 3,⟨1,.own,3,[]⟩)],3⟩ =
   some (.n,⟨[(3,.bs (.loc 3) 1 3 0 l.length)],[(.loc 3,⟨1,.own,3,rowN l⟩)],3⟩):=by
  have:=zap (T:=T) (k:=0) (id:=0) (g2:=.norm false [3]) (c:=l13_0) (fun i=>⟨[(0,.sl (rowN l) .an),(3,.bs (.loc 3) 1 3 0 i),(4,.i .i64 (i:Int))],[(.loc 3,⟨1,.own,3,rowN (l.take i)⟩)],3⟩) l.length
   (some (.n,⟨[(3,.bs (.loc 3) 1 3 0 l.length)],[(.loc 3,⟨1,.own,3,rowN l⟩)],3⟩)) (fun i hi=>?_) ?_
  ·simpa using this
  ·have hg:l[i]? = some (l[i]'hi):=List.getElem?_eq_getElem hi
   have hi':(i:Int)<l.length:=by omega
   have hws:=zbq hi (by omega)
   have hs:l.take (i+1)=l.take i++[l[i]'hi]:=by rw[List.take_succ_eq_append_getElem hi]
   have hp:=zll (n:=i) (show (l.take i).length=i by rw[List.length_take];omega) (l[i]'hi)
   have hle:i≤(l.take i).length:=by rw[List.length_take];omega
   have h32:i+1≤4294967296:=by omega
   rw[hs]
   generalize hx:l[i]'hi=x at *
   generalize l.take i=m at *
   obtain⟨op,j,n⟩:=x
   clear hs
   simp -implicitDefEqProofs[l13_0,hi,hi',hg,hx,hws,hp,hle,h32]
  ·constructor<;>simp -implicitDefEqProofs[l13_0]
 rw[f13 _ rfl,b13]
 simp -implicitDefEqProofs[hlo]
end
theorem zpr(m:List (List Nd))(x:List Nd):wkL (rowC m++[[.sl (rowN x) .an]])=rowC (m++[x]):=by rw[zlm,zue]
theorem zmu(m:List Lt)(x:Lt):wkL (rowLt m++[[.s x.name,.sl (rowN x.code) .an]])=rowLt (m++[x]):=by
 have:rowLt m++[celLt x]=rowLt (m++[x]):=zqk m x
 rw[show [[AV.s x.name,.sl (rowN x.code) .an]]=[celLt x] from rfl,this,zwe]
section
variable{T:Tbl}[CLaw17 T][CLaw21 T]
abbrev hpT(L:List Lt)(O:List (List Nd))(A:List Lt)(B:List (List Nd)):Heap:=
 [(.loc 1,⟨1,.str,2,[[.sl (rowLt L) .an,.sl (rowC O) .an]]⟩),(.loc 2,⟨2,.str,2,[[.sl [] .an,.sl [] .an]]⟩),
  (.loc 3,⟨3,.str,2,[[.bs ((BId.loc 3).fld 0) 4 2 0 A.length,.bs ((BId.loc 3).fld 1) 5 1 0 B.length]]⟩),((BId.loc 3).fld 0,⟨4,.own,2,rowLt A⟩),((BId.loc 3).fld 1,⟨5,.own,1,rowC B⟩)]
theorem zve(L:List Lt)(O:List (List Nd))(hn:∀x∈L,x.code.length≤4294967295)(h1:L.length≤100000) :
  loopN T 0 0 (.norm false [1,2,3]) l468_0 ⟨[(1,.ptr (.loc 1) 1 2 0 0),(2,.ptr (.loc 2) 2 2 0 0),(3,.ptr (.loc 3) 3 2 0 0),(4,.i .i64 ((0:Nat):Int))],hpT L O (L.take 0) [],7⟩ =
   some (.n,⟨[(1,.ptr (.loc 1) 1 2 0 0),(2,.ptr (.loc 2) 2 2 0 0),(3,.ptr (.loc 3) 3 2 0 0)],hpT L O L [],7⟩):=by
 refine zap (fun i=>⟨[(1,.ptr (.loc 1) 1 2 0 0),(2,.ptr (.loc 2) 2 2 0 0),(3,.ptr (.loc 3) 3 2 0 0),(4,.i .i64 ((i:Nat):Int))],hpT L O (L.take i) [],7⟩) L.length _ (fun i hi=>?_) ?_
 ·have hg:L[i]? = some (L[i]'hi):=List.getElem?_eq_getElem hi
  have hi':(i:Int)<L.length:=by omega
  have hws:=zbq hi (by omega)
  have hs:L.take (i+1)=L.take i++[L[i]'hi]:=by rw[List.take_succ_eq_append_getElem hi]
  have hml:(L.take i).length=i:=by rw[List.length_take];omega
  have hp:=zmu (L.take i) (L[i]'hi)
  have h32:i+1≤4294967296:=by omega
  have c:=zn8 (T:=T) (L[i]'hi).code (hn _ (List.getElem_mem hi))
  rw[hs]
  generalize hx:L[i]'hi=x at *
  generalize L.take i=m at *
  obtain⟨nm,code⟩:=x
  unfold hpT
  rw[List.length_append,hml]
  have ht:List.take i (rowLt m)=rowLt m:=List.take_of_length_le (by rw[zfg];omega)
  dsimp only at *
  clear hs hn
  simp -implicitDefEqProofs[l468_0,hi,hi',hg,hx,hws,hp,h32,c,hml,ht]
 ·rw[List.take_length]
  constructor<;>simp -implicitDefEqProofs[l468_0]
theorem zvf(L:List Lt)(O:List (List Nd))(hn:∀c∈O,c.length≤4294967295)(h1:O.length≤100000) :
  loopN T 0 2 (.norm false [2,3]) l468_1 ⟨[(1,.ptr (.loc 1) 1 2 0 0),(2,.ptr (.loc 2) 2 2 0 0),(3,.ptr (.loc 3) 3 2 0 0),(5,.i .i64 ((0:Nat):Int))],hpT L O L (O.take 0),7⟩ =
   some (.n,⟨[(2,.ptr (.loc 2) 1 2 0 0),(3,.ptr (.loc 3) 2 2 0 0)],[(.loc 2,⟨1,.str,2,[[.sl [] .an,.sl [] .an]]⟩),
  (.loc 3,⟨2,.str,2,[[.bs ((BId.loc 3).fld 0) 3 2 0 L.length,.bs ((BId.loc 3).fld 1) 4 1 0 O.length]]⟩),((BId.loc 3).fld 0,⟨3,.own,2,rowLt L⟩),((BId.loc 3).fld 1,⟨4,.own,1,rowC O⟩)],6⟩):=by
 refine zap (fun i=>⟨[(1,.ptr (.loc 1) 1 2 0 0),(2,.ptr (.loc 2) 2 2 0 0),(3,.ptr (.loc 3) 3 2 0 0),(5,.i .i64 ((i:Nat):Int))],hpT L O L (O.take i),7⟩) O.length _ (fun i hi=>?_) ?_
 ·have hg:O[i]? = some (O[i]'hi):=List.getElem?_eq_getElem hi
  have hi':(i:Int)<O.length:=by omega
  have hws:=zbq hi (by omega)
  have hs:O.take (i+1)=O.take i++[O[i]'hi]:=by rw[List.take_succ_eq_append_getElem hi]
  have hml:(O.take i).length=i:=by rw[List.length_take];omega
  have hp:=zpr (O.take i) (O[i]'hi)
  have h32:i+1≤4294967296:=by omega
  have c:=zn8 (T:=T) (O[i]'hi) (hn _ (List.getElem_mem hi))
  rw[hs]
  generalize hx:O[i]'hi=x at *
  generalize O.take i=m at *
  unfold hpT
  rw[List.length_append,hml]
  have ht:List.take i (rowC m)=rowC m:=List.take_of_length_le (by rw[zhb];omega)
  clear hs hn
  simp -implicitDefEqProofs[l468_1,hi,hi',hg,hx,hws,hp,h32,c,hml,ht]
 ·rw[List.take_length]
  constructor<;>simp -implicitDefEqProofs[l468_1]
theorem zi6(f:Fd)(hn:∀c∈codesD f,c.length≤4294967295)(h1:f.lets.length≤100000)(h2:f.outs.length≤100000):callF T 468 [efd f]=some (efd f):=by
 obtain⟨L,O⟩:=f
 dsimp only at h1 h2
 have a:=zve (T:=T) L O (fun x hx=>hn _ (List.mem_append.2 (.inl (List.mem_map.2 ⟨x,hx,rfl⟩)))) h1
 have b:=zvf (T:=T) L O (fun c hc=>hn _ (List.mem_append.2 (.inr hc))) h2
 simp only[hpT,List.take_zero,List.length_nil,zt6,zwm,Int.natCast_zero]at a b
 rw[f468 _ rfl,b468]
 have e1:List.take L.length (rowLt L)=rowLt L:=List.take_of_length_le (by rw[zfg];exact Nat.le_refl _)
 have e2:List.take O.length (rowC O)=rowC O:=List.take_of_length_le (by rw[zhb];exact Nat.le_refl _)
 simp -implicitDefEqProofs[a,b,e1,e2]
end
theorem zlj{l:List Nd}{many words:Nat}(h:lgN l many words=false):l.length≤many∧thin words l:=by
 unfold lgN at h
 have h1:l.length≤many:=by
  simp only[Bool.or_eq_false_iff,decide_eq_false_iff_not]at h
  omega
 refine⟨h1,fun x hx=>?_⟩
 rw[List.take_of_length_le h1]at h
 simp only[Bool.or_eq_false_iff,List.any_eq_false,decide_eq_true_eq]at h
 have:=h.2 x hx
 omega
theorem zua{f:Fd}{many nodes words:Nat}(h:lgF f many nodes words=false):f.lets.length≤many∧f.outs.length≤many∧(∀x∈f.lets,x.name.length≤100)∧∀c∈codesD f,c.length≤nodes∧thin words c:=by
 unfold lgF at h
 simp only[Bool.or_eq_false_iff,decide_eq_false_iff_not,List.any_eq_false]at h
 obtain⟨⟨⟨h1,h2⟩,h3⟩,h4⟩:=h
 refine⟨by omega,by omega,fun x hx=>?_,fun c hc=>?_⟩
 ·have:=h3 x hx
  unfold lgL at this
  simp only[Bool.or_eq_true,decide_eq_true_eq,not_or]at this
  omega
 ·rcases List.mem_append.1 hc with hc | hc
  ·obtain⟨x,hx,rfl⟩:=List.mem_map.1 hc
   have:=h3 x hx
   unfold lgL at this
   simp only[Bool.or_eq_true,not_or,Bool.not_eq_true]at this
   exact zlj this.2
  ·have:=h4 c hc
   simp only[Bool.not_eq_true]at this
   exact zlj this
theorem zqo{l:List (List Nd)}{B:Nat}(h:∀c∈l,c.length≤B):(l.map List.length).sum≤l.length*B:=by
 induction l with
 | nil=>simp
 | cons c r ih=>
  have h1:=h c (by simp)
  have h2:=ih fun d hd=>h d (by simp[hd])
  rw[List.map_cons,List.sum_cons,List.length_cons,Nat.succ_mul]
  omega
class CRef25 (T:Tbl):Prop where
abbrev rmP:AV:=.ptr (.bor 0) 0 2 0 0
def rmH(gc gw:Nat)(C:List Ins)(W:List Nat):Heap:=
 [(.bor 0,⟨0,.str,2,[[.bs (.bor 1) gc 6 0 C.length,.bs (.bor 2) gw 1 0 W.length]]⟩),(.bor 1,⟨gc,.own,6,rowI C⟩),(.bor 2,⟨gw,.own,1,natR W⟩)]
def stRq(C:List Ins)(W:List Nat)(x:Ins)(i:Nat):St:=
 ⟨[(0,rmP),(3,.ptr (.loc 3) 7 6 0 0),(5,.i .i64 (i:Int))],rmH 1 2 C W++[(.loc 3,⟨7,.str,6,[celI x]⟩)],9⟩
def endRq(C:List Ins)(W:List Nat)(x:Ins)(o:Option Nat):Option (Ex×St):=
 match o with
 | some j=>some (.r,⟨[(4,.i .i64 (j:Int))],rmH 1 2 C W,8⟩)
 | none=>some (.n,⟨[(0,rmP),(3,.ptr (.loc 3) 7 6 0 0)],rmH 1 2 C W++[(.loc 3,⟨7,.str,6,[celI x]⟩)],9⟩)
end Go.Ab
section
namespace Go.Ab
end Go.Ab
end
namespace Go.Ab
def rmL(gc gw:Nat)(C:List Ins)(W L:List Nat):Heap:=rmH gc gw C W++[(.bor 3,⟨3,.own,1,natR L⟩)]
def stR25(gc gw:Nat)(C:List Ins)(W L S:List Nat)(c:List Nd)(i:Nat):St:=
 ⟨[(0,rmP),(1,.sl (rowN c) .an),(2,.bs (.bor 3) 3 1 0 L.length),(7,.bs (.loc 7) 9 1 0 S.length),(8,.i .i64 (i:Int))],rmL gc gw C W L++[(.loc 7,⟨9,.own,1,natR S⟩)],11⟩
end Go.Ab
section
namespace Go.Ab
end Go.Ab
end
namespace Go.Ab
theorem zk9(x:Nd)(hn:x.n.length≤1000):fsz (leafI x).n≤2000:=by
 unfold leafI
 split
 ·have h1:=zw3 x.n
  have h2:(fz ((val x.n:Nat):Rat)).2.2=[1]:=by
   unfold fz
   simp
   decide +kernel
  show fsz (fz ((val x.n:Nat):Rat))≤2000
  unfold fsz
  rw[h2]
  simp only[List.length_cons,List.length_nil]
  omega
 ·split
  all_goals
   show fsz blk≤2000
   decide
theorem zjb{Pr:Ins→Prop}{C:List Ins}{x:Ins}(hC:∀y∈C,Pr y)(hx:Pr x):∀y∈(putI C x).1,Pr y:=by
 unfold putI
 split
 ·exact hC
 ·intro y hy
  rcases List.mem_append.1 hy with h | h
  ·exact hC y h
  ·rw[List.mem_singleton]at h
   rw[h];exact hx
theorem zy4{Pr:Ins→Prop}{Ls:List Nat}{C:List Ins}{s:List Nat}{x:Nd}(hC:∀y∈C,Pr y)(hl:Pr (leafI x))(hb:∀op a b,Pr ⟨op,a,b,blk⟩):∀y∈(ndI Ls C s x).1,Pr y:=by
 unfold ndI
 split
 ·exact hC
 ·split
  ·exact zjb hC hl
  ·split
   ·exact zjb hC (hb _ _ _)
   ·exact zjb hC (hb _ _ _)
theorem zmx{Pr:Ins→Prop}(Ls:List Nat)(hb:∀op a b,Pr ⟨op,a,b,blk⟩):∀(c:List Nd) (q:Mq),(∀y∈q.C,Pr y)→(∀x∈c,Pr (leafI x))→∀y∈(c.foldl (stepQ' Ls) q).C,Pr y
 | [],q,h,_=>h
 | x::c,q,h,hl=>zmx Ls hb c (stepQ' Ls q x) (zy4 h (hl x List.mem_cons_self) hb) fun y hy=>hl y (List.mem_cons_of_mem _ hy)
theorem zto(op a b:Int):fsz (⟨op,a,b,blk⟩:Ins).n≤2000:=by
 show fsz blk≤2000
 decide
abbrev mdBx(g:Nat)(C:List Ins)(W:List Nat):Heap:=
 [(.loc 6,⟨g,.str,2,[[.bs (.fld (.loc 6) 0) (g+1) 6 0 C.length,.bs (.fld (.loc 6) 1) (g+2) 1 0 W.length]]⟩),(.fld (.loc 6) 0,⟨g+1,.own,6,rowI C⟩),(.fld (.loc 6) 1,⟨g+2,.own,1,natR W⟩)]
abbrev bxF2(f:Fd):BId×Box:=(.loc 2,⟨1,.str,2,[[.sl (rowLt f.lets) .an,.sl (rowC f.outs) .an]]⟩)
def stG1'(f:Fd)(pars:Int)(C:List Ins)(W L:List Nat)(i:Nat):St:=
 ⟨[(1,.i .i64 pars),(2,.ptr (.loc 2) 1 2 0 0),(4,.ptr (.loc 4) 2 4 0 0),(6,.ptr (.loc 6) 3 2 0 0),(7,.bs (.loc 7) 6 1 0 L.length),(8,.i .i64 (i:Int))],
  [bxF2 f,bx4 2]++mdBx 3 C W++[(.loc 7,⟨6,.own,1,natR L⟩)],8⟩
def stG2'(f:Fd)(pars:Int)(C:List Ins)(W L Q:List Nat)(i:Nat):St:=
 ⟨[(2,.ptr (.loc 2) 1 2 0 0),(4,.ptr (.loc 4) 2 4 0 0),(6,.ptr (.loc 6) 3 2 0 0),(7,.bs (.loc 7) 6 1 0 L.length),(9,.ptr (.loc 9) 7 4 0 0),(10,.i .i64 (i:Int))],
  [bxF2 f,bx4 2]++mdBx 3 C W++[(.loc 7,⟨6,.own,1,natR L⟩),(.loc 9,⟨7,.str,4,[[.sl [] .an,.bs (.fld (.loc 9) 1) 8 1 0 Q.length,.i .i64 (f.outs.length:Int),.i .i64 pars]]⟩),(.fld (.loc 9) 1,⟨8,.own,1,natR Q⟩)],10⟩
theorem zy5(L:List (List Nd))(h:∀c∈L,thin 1000 c):∀y∈(ltsQ L).C,fsz y.n≤2000:=by
 induction L using zdc with
 | nil=>intro y hy;cases hy
 | append_singleton L c ih=>
  rw[zdo]
  exact zmx (Pr:=fun y=>fsz y.n≤2000) _ zto c ⟨_,_,[]⟩ (ih fun d hd=>h d (List.mem_append_left _ hd)) fun x hx=>zk9 x (h c (by simp) x hx)
theorem zy6(q:Fq)(O:List (List Nd))(hq:∀y∈q.C,fsz y.n≤2000)(h:∀c∈O,thin 1000 c):∀y∈(ousQ q O).C,fsz y.n≤2000:=by
 induction O using zdc with
 | nil=>exact hq
 | append_singleton O c ih=>
  rw[zdp]
  exact zmx (Pr:=fun y=>fsz y.n≤2000) _ zto c ⟨_,_,[]⟩ (ih fun d hd=>h d (List.mem_append_left _ hd)) fun x hx=>zk9 x (h c (by simp) x hx)
class CTapeS (T:Tbl):Prop where
class CLaw24 (T:Tbl):Prop where
class CLaw11b (T:Tbl):Prop where
end Go.Ab
section
namespace Go.Ab
end Go.Ab
end
namespace Go.Ab
def longT(t:Tp)(many words:Nat):Bool:=((t.code.take many).any fun i=>decide (words<fsz i.n)) || decide (many<t.code.length) || decide (many<t.outs.length)
def longP(x:PoF)(many words:Nat):Bool:=decide (words<fsz x.t) || longB x.y many words || longB x.p many words
section
variable{T:Tbl}[CRef02 T][CRef04 T][CRef05 T][CRef07 T][CRef06 T][CRef08 T][CRef09 T][CRef11 T][CLaw09 T][CLaw11 T][CLaw24 T]
def stLT(t:Tp)(many words i:Nat):St:=⟨[(1,.i .i64 many),(2,.i .i64 words),(3,.ptr (.loc 3) 1 4 0 0),(7,.i .i64 i)],[(.loc 3,bxT t)],3⟩
def enLT(t:Tp)(many:Nat):Ex×St:=(.n,⟨[(1,.i .i64 many),(3,.ptr (.loc 3) 1 4 0 0)],[(.loc 3,bxT t)],3⟩)
@[simp] theorem zacs(l:List Int):Option.all (fun r=>decide (r.length=1)) (ints l).head? = true:=by cases l<;>rfl
def fC:BId:=.fld (.loc 3) 0
def stTT(t:Tp)(i:Nat):St:=⟨[(1,.ptr (.loc 1) 1 4 0 0),(2,.ptr (.loc 2) 2 4 0 0),(3,.ptr (.loc 3) 3 4 0 0),(4,.i .i64 i)],
 [(.loc 1,bxT t),(.loc 2,⟨2,.str,4,[[.sl [] .an,.sl [] .an,.i .i64 0,.i .i64 0]]⟩),(.loc 3,⟨3,.str,4,[[.bs fC 4 6 0 i,.bs (.loc 13) 5 1 0 t.outs.length,.i .i64 t.dim,.i .i64 t.par]]⟩),(fC,⟨4,.own,6,rowI (t.code.take i)⟩),(.loc 13,⟨5,.own,1,ints t.outs⟩)],7⟩
end
def bxGt(g:Nat)(t:Tp):Box:=⟨g,.str,4,[[.sl (rowI t.code) .an,.sl (ints t.outs) .an,.i .i64 t.dim,.i .i64 t.par]]⟩
def stS8a(t:Tp)(i:Nat):St:=⟨[(2,.ptr (.loc 2) 1 4 0 0),(3,.ptr (.loc 3) 2 4 0 0),(5,.i .i64 (i:Int))],[(.loc 2,bxGt 1 t),(.loc 3,bxGt 2 t)],4⟩
def stS8b(t:Tp)(i:Nat):St:=⟨[(2,.ptr (.loc 2) 1 4 0 0),(3,.ptr (.loc 3) 2 4 0 0),(6,.i .i64 (i:Int))],[(.loc 2,bxGt 1 t),(.loc 3,bxGt 2 t)],4⟩
def stO1(t:Tp)(W:List Nat)(i:Nat):St:=⟨[(6,.ptr (.loc 6) 1 4 0 0),(7,.sl (natR W) .an),(9,.i .i64 (i:Int))],[(.loc 6,bxGt 1 t)],3⟩
def stO0(t:Tp)(W:List Nat)(i j:Nat):St:=⟨[(6,.ptr (.loc 6) 1 4 0 0),(7,.sl (natR W) .an),(9,.i .i64 (i:Int)),(10,.i .i64 (j:Int))],[(.loc 6,bxGt 1 t)],3⟩
def stO2(t:Tp)(W:List Nat)(m k:Nat):St:=⟨[(6,.ptr (.loc 6) 1 4 0 0),(7,.sl (natR W) .an),(13,.i .i64 (m:Int)),(14,.i .i64 (k:Int))],[(.loc 6,bxGt 1 t)],3⟩
section
variable{T:Tbl}[CNat T][CProd T][CTwos T][CQuot T][CQuotD T][CWhole T][CCommon T][CFrac T][CLaw25 T]
theorem zact(t:Tp)(W:List Nat)(i:Nat)(x:Ins)(hx:t.code[i]? = some x)(hl:t.code.length≤300)(hmk:∀y∈t.code,MkI y)(hnd:t.code.Nodup)(hf:∀y∈t.code,fsz y.n≤2000) :
  loopN T 0 2 (.norm false [6,7,9]) l657_0 (stO0 t W i 0)=some (.n,stO1 t W i):=by
 obtain⟨hi,hgx⟩:=List.getElem?_eq_some_iff.1 hx
 have hmx:x∈t.code:=hgx▸List.getElem_mem hi
 refine zap (T:=T) (k:=0) (id:=2) (g2:=.norm false [6,7,9]) (c:=l657_0) (fun j=>stO0 t W i j) i _ (fun j hj=>?_) ?_
 ·obtain⟨y,hy,hmy⟩:∃y,t.code[j]? = some y∧y∈t.code:=⟨t.code[j]'(by omega),List.getElem?_eq_getElem (by omega),List.getElem_mem (by omega)⟩
  obtain⟨hjl,hgy⟩:=List.getElem?_eq_some_iff.1 hy
  have hlt':(j:Int)<(i:Int):=by omega
  have hws:=zbq hj (by omega)
  have hne:=zwk hnd hx hy hj
  have c:=zpo (T:=T) x.n y.n (by have:=hf x hmx;omega) (by have:=hf y hmy;omega)
  have hcase:¬ (x.op=y.op∧x.a=y.a∧x.b=y.b∧fv x.n=fv y.n):=fun h=>hne (z4o (hmk x hmx) (hmk y hmy) h.1 h.2.1 h.2.2.1 h.2.2.2)
  clear hne hmx hmy
  generalize hD:decide (fv x.n=fv y.n)=D at *
  have hcase2:¬ (x.op=y.op∧x.a=y.a∧x.b=y.b∧D=true):=fun h=>hcase ⟨h.1,h.2.1,h.2.2.1,by simpa[←hD]using h.2.2.2⟩
  clear hcase hD
  obtain⟨xo,xa,xb,x0,x1,x2⟩:=x
  obtain⟨yo,ya,yb,y0,y1,y2⟩:=y
  dsimp only at *
  unfold stO0 bxGt
  by_cases h1:xo=yo
  ·by_cases h2:xa=ya
   ·by_cases h3:xb=yb
    ·have hDf:D=false:=by
      cases D with
      | false=>rfl
      | true=>exact absurd ⟨h1,h2,h3,rfl⟩ hcase2
     subst hDf
     simp -implicitDefEqProofs[l657_0,hi,hjl,hlt',hx,hgx,hy,hgy,hws,c,h1,h2,h3]
    ·simp -implicitDefEqProofs[l657_0,hi,hjl,hlt',hx,hgx,hy,hgy,hws,c,h1,h2,h3]
   ·simp -implicitDefEqProofs[l657_0,hi,hjl,hlt',hx,hgx,hy,hgy,hws,c,h1,h2]
  ·simp -implicitDefEqProofs[l657_0,hi,hjl,hlt',hx,hgx,hy,hgy,hws,c,h1]
 ·unfold stO0 stO1 bxGt
  constructor<;>simp -implicitDefEqProofs[l657_0]
theorem zacu(t:Tp)(W:List Nat)(hl:t.code.length≤300)(hmk:∀y∈t.code,MkI y)(hnd:t.code.Nodup)(hf:∀y∈t.code,fsz y.n≤2000) :
  loopN T 0 0 (.norm false [6,7]) l657_1 (stO1 t W 0)=some (.n,⟨[(6,.ptr (.loc 6) 1 4 0 0),(7,.sl (natR W) .an)],[(.loc 6,bxGt 1 t)],3⟩):=by
 refine zap (T:=T) (k:=0) (id:=0) (g2:=.norm false [6,7]) (c:=l657_1) (fun i=>stO1 t W i) t.code.length _ (fun i hi=>?_) ?_
 ·obtain⟨x,hx⟩:∃y,t.code[i]? = some y:=⟨t.code[i]'hi,List.getElem?_eq_getElem hi⟩
  have hlt':(i:Int)<t.code.length:=by omega
  have hws:=zbq hi (by omega)
  have h0:=zact (T:=T) t W i x hx hl hmk hnd hf
  unfold stO0 stO1 bxGt at h0
  unfold stO1 bxGt
  simp -implicitDefEqProofs at h0
  simp -implicitDefEqProofs[l657_1,hi,hlt',hws,h0]
 ·unfold stO1 bxGt
  constructor<;>simp -implicitDefEqProofs[l657_1]
theorem zacv(t:Tp)(W:List Nat)(n:Nat)(hW:W.length≤100000)(h:scW 0 W=some n) :
  loopN T 0 4 (.norm false [6,13]) l657_2 (stO2 t W 0 0)=some (.n,⟨[(6,.ptr (.loc 6) 1 4 0 0),(13,.i .i64 (n:Int))],[(.loc 6,bxGt 1 t)],3⟩):=by
 have:=zap (T:=T) (k:=0) (id:=4) (g2:=.norm false [6,13]) (c:=l657_2) (fun k=>stO2 t W (nxW W k) k) W.length (some (.n,⟨[(6,.ptr (.loc 6) 1 4 0 0),(13,.i .i64 (n:Int))],[(.loc 6,bxGt 1 t)],3⟩)) (fun k hk=>?_) ?_
 ·exact this
 ·obtain⟨p,hp⟩:∃y,W[k]? = some y:=⟨W[k]'hk,List.getElem?_eq_getElem hk⟩
  obtain⟨_,hge⟩:=List.getElem?_eq_some_iff.1 hp
  have hlt':(k:Int)<W.length:=by omega
  have hws:=zbq hk (by omega)
  obtain⟨s1,s2,s3⟩:=zwl h hp
  rw[s2]
  generalize nxW W k=m at *
  have hw:IntKind.wrap .i64 ((m:Int)+1)=(m:Int)+1:=zac _ (by omega)
  have g1:¬ (p:Int)<0:=by omega
  have g2:¬ (m:Int)<(p:Int):=by omega
  unfold stO2 bxGt
  by_cases hpm:p=m
  ·subst hpm
   rw[if_pos rfl]
   simp -implicitDefEqProofs[l657_2,hk,hlt',hp,hge,hws,hw,g1]
  ·have hpm':¬ (p:Int)=(m:Int):=by omega
   rw[if_neg hpm]
   simp -implicitDefEqProofs[l657_2,hk,hlt',hp,hge,hws,g1,g2,hpm,hpm']
 ·rw[zzm h]
  unfold stO2 bxGt
  constructor<;>simp -implicitDefEqProofs[l657_2]
end
section
variable{T:Tbl}[CText T][CComp T][CLimb T][CNat T][CProd T][CTwos T][CQuot T][CQuotD T][CWhole T][CCommon T][CFrac T][CFrac2 T][CFrac3 T][CFrac5 T][CPow T][CTape T][CGauge T][CEval T][CEval2 T][CTree T][CLenD T][CTree2 T][CJoin T][CLex T][CCheck T][CRef17 T][CRef19 T][CLaw17 T][CLaw21 T][CLaw25 T]
theorem zps(f:Fd)(pars:Int):callF T 657 [efd f,.i .i64 pars]=some (.b true):=by
 have hw:=zmv (T:=T)
 have cl:=zmw (T:=T) f 8 40 9 (by decide) (by decide)
 simp only[Int.cast_ofNat_Int]at cl
 cases hL:lgF f 8 40 9 with
 | true=>
  rw[hL]at cl
  obtain⟨L,O⟩:=f
  rw[f657 _ rfl,b657]
  simp -implicitDefEqProofs[hw,cl]
 | false=>
 rw[hL]at cl
 obtain⟨g1,g2,g3,g4⟩:=zua hL
 clear hL
 have hlen:(codesD f).length≤16:=by unfold codesD;rw[List.length_append,List.length_map];omega
 have hz:sizeD f≤4294967295:=by
  have:=zqo (l:=codesD f) (B:=40) fun c hc=>(g4 c hc).1
  unfold sizeD
  have:=Nat.mul_le_mul_right 40 hlen
  omega
 have hn:thinD 1000 50000 f:=fun c hc=>⟨Nat.le_trans (g4 c hc).1 (by decide),fun u hu=>Nat.le_trans ((g4 c hc).2 u hu) (by decide)⟩
 have hs:∀u∈f.lets,u.name.length≤100000:=fun u hu=>Nat.le_trans (g3 u hu) (by decide)
 have t1:=zi6 (T:=T) f (fun c hc=>Nat.le_trans (g4 c hc).1 (by decide)) (by omega) (by omega)
 cases hq:chkD f f.outs.length pars with
 | some q=>
  have c1:=zhk (T:=T) f pars (by omega) (by omega) hn hz hs q hq
  obtain⟨q1,q2,q3⟩:=q
  unfold fltC at c1
  dsimp only[etp]at c1
  clear hq hn hz hs g1 g2 g3 g4 hlen
  obtain⟨L,O⟩:=f
  try dsimp only at *
  rw[f657 _ rfl,b657]
  simp -implicitDefEqProofs[hw,cl,t1,c1]
 | none=>
  have c1:=ze5 (T:=T) f pars (by omega) (by omega) hn hz hs hq
  have c2:=zlc (T:=T) f (by omega) (by omega) (fun c hc=>⟨Nat.le_trans (hn c hc).1 (by decide),(hn c hc).2⟩) hz
  have hF:=zha hq
  have hok:=zzl hF
  have hinv:=zog hF
  obtain⟨n1,n2,n3⟩:=zoh (f:=f)
  obtain⟨w1,w2,w3,w4,w5,w6,w7⟩:=hF.wh
  have hfs:∀y∈(tapQ f pars).code,fsz y.n≤2000:=zy6 _ f.outs (zy5 _ fun c hc=>by
   obtain⟨x,hx,rfl⟩:=List.mem_map.1 hc
   exact(hn x.code (zfa hx)).2) fun c hc=>(hn c (zfb hc)).2
  have hmk:∀y∈(tapQ f pars).code,MkI y:=zsy _ f.outs (zmm _)
  have hcl:(tapQ f pars).code.length≤300:=Nat.le_trans n1 w7
  have hol:(tapQ f pars).outs.length≤1000:=by
   show ((fldQ f).P.map _).length≤_
   rw[List.length_map,n3];omega
  have hr:=zp6 (T:=T) (tapQ f pars) ⟨Nat.le_trans hcl (by decide),Nat.le_trans hol (by decide),fun y hy=>Nat.le_trans (hfs y hy) (by decide),by show -9223372036854775808≤(f.outs.length:Int);omega,by show (f.outs.length:Int)<_;omega⟩
  rw[hok]at hr
  have l1:=zacu (T:=T) (tapQ f pars) (fldQ f).W hcl hmk hinv.inv.nd hfs
  have l2:=zacv (T:=T) (tapQ f pars) (fldQ f).W (tapQ f pars).code.length (by omega) hinv.inv.sc
  have hWl:(fldQ f).W.length=sizeD f:=n2
  unfold fltC at c1
  unfold stO1 bxGt at l1
  unfold stO2 bxGt at l2
  dsimp only[etp]at c1 hr
  clear hq hn hz hs g1 g2 g3 g4 hlen hF hok hinv n1 n2 n3 w1 w2 w3 w4 w5 w6 w7 hfs hmk hcl hol
  rw[←hWl]at c2
  clear hWl
  generalize tapQ f pars=t at *
  generalize fldQ f=q at *
  obtain⟨Cq,Wq,Pq⟩:=q
  obtain⟨code,outs,dim,par⟩:=t
  obtain⟨L,O⟩:=f
  dsimp only at *
  rw[show (((0:Nat):Int))=0 from rfl]at l1 l2
  rw[f657 _ rfl,b657]
  simp -implicitDefEqProofs[hw,cl,t1,c1,c2,hr,l1,l2]
end
end Go.Ab