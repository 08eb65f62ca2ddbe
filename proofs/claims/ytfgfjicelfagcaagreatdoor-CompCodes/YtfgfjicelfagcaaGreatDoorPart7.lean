/-
  A calculus of values, boxes and code, and what functions of the program compute, proved in it.
  Conditions: none beyond those that the theorems state. (Part 7.)
-/
import Derived.Test.YtfgfjicelfagcaaGreatDoorPart6

set_option linter.unusedSectionVars false
set_option linter.unusedVariables false
set_option linter.unusedSimpArgs false
set_option linter.unnecessarySimpa false

namespace Go.Ab
section
variable{T:Tbl}[CText T][CComp T]
theorem zjk(C:List Ins)(L W:List Nat)(x:Ins)(hC:∀y∈C,MkI y)(hx:MkI x)(hn:x.n.2.1.length≤1000)(hl:C.length≤100000) :
  ∃gc,(gc=1∨gc=7)∧callH T 650 [cmP,.agg (celI x)] (cmH 1 4 C L W)=some (.i .i64 ((putI C x).2:Int),cmH gc 4 (putI C x).1 L W):=by
 unfold putI
 cases h:idxI x 0 C with
 | some i=>exact⟨1,.inl rfl,zlg C L W x hC hx hn i h⟩
 | none=>exact⟨7,.inr rfl,zlh C L W x hC hx hn h hl⟩
theorem zxd(a:List UInt32):(fz ((val a:Nat):Rat)).2.1.length≤a.length:=by
 have:(fz ((val a:Nat):Rat)).2.1=ofN (val a):=by
  unfold fz
  simp
 rw[this]
 exact zae a
theorem ztc(x:Nd)(hn:x.n.length≤1000):(leafI x).n.2.1.length≤1000:=by
 unfold leafI
 split
 ·exact Nat.le_trans (zxd x.n) hn
 ·split
  all_goals exact Nat.zero_le _
variable[CLimb T][CNat T][CProd T][CTwos T][CQuot T][CQuotD T][CWhole T][CCommon T][CFrac T][CFrac2 T][CFrac3 T][CFrac5 T][CPow T][CTape T][CGauge T][CEval T][CEval2 T][CTree T][CLenD T]
theorem ztd(x:Nd)(hn:x.n.length≤1000):callF T 651 [.agg (celN x)]=some (.agg (celI (leafI x))):=by
 have c:=zq2 (T:=T) x.n (by omega)
 obtain⟨op,i,n⟩:=x
 dsimp only at *
 unfold leafI
 rw[f651 _ rfl,b651]
 by_cases h1:op=1
 ·subst h1
  rw[if_pos rfl]
  generalize fz ((val n:Nat):Rat)=q at *
  obtain⟨q0,q1,q2⟩:=q
  simp -implicitDefEqProofs[c]
 ·rw[if_neg h1]
  by_cases h2:op=2
  ·subst h2
   rw[if_pos rfl]
   simp -implicitDefEqProofs[blk]
  ·rw[if_neg h2]
   simp -implicitDefEqProofs[h1,h2,blk]
abbrev bxS(g:Nat)(S:List Nat):BId×Box:=(.bor 5,⟨g,.own,1,natR S⟩)
theorem zjl(C:List Ins)(L W S:List Nat)(x:Nd)(ho:x.op=5)(h0:0≤x.i)(h1:x.i<L.length)(hn:x.n.length≤1000) :
  callH T 649 [cmP,.agg (celN x),.bs (.bor 5) 5 1 0 S.length] (cmH 1 4 C L W++[bxS 5 S])=some (.i .i64 (((L[x.i.toNat]?).getD 0:Nat):Int),cmH 1 4 C L W++[bxS 5 S]):=by
 obtain⟨op,i,n⟩:=x
 dsimp only at *
 subst ho
 obtain⟨j,rfl⟩:∃j:Nat,i=(j:Int):=⟨i.toNat,by omega⟩
 have hj:j<L.length:=by omega
 obtain⟨v,hv⟩:∃v,L[j]? = some v:=⟨_,List.getElem?_eq_getElem hj⟩
 obtain⟨_,hg⟩:=List.getElem?_eq_some_iff.1 hv
 unfold cmH
 rw[f649 _ _ rfl,b649]
 simp -implicitDefEqProofs[hj,hv,hg,h1,genAt]
end
section
variable{T:Tbl}[CText T][CComp T][CLimb T][CNat T][CProd T][CTwos T][CQuot T][CQuotD T][CWhole T][CCommon T][CFrac T][CFrac2 T][CFrac3 T][CFrac5 T][CPow T][CTape T][CGauge T][CEval T][CEval2 T][CTree T][CLenD T]
theorem zey(op a b:Int):celI ⟨op,a,b,blk⟩=[.i .i64 op,.i .i64 a,.i .i64 b,.b false,.sl [] .an,.sl [] .an]:=rfl
theorem zhu(C C1:List Ins)(L W S:List Nat)(x:Nd)(gc:Nat)(p:Nat)(hg:gc=1∨gc=7)(ho:x.op≠5)(ha:arN x.op=0)(hn:x.n.length≤1000)
  (c:callH T 650 [cmP,.agg (celI (leafI x))] (cmH 1 4 C L W)=some (.i .i64 (p:Int),cmH gc 4 C1 L W)) :
  callH T 649 [cmP,.agg (celN x),.bs (.bor 5) 5 1 0 S.length] (cmH 1 4 C L W++[bxS 5 S])=some (.i .i64 (p:Int),cmH (if gc=1 then 1 else 8) 4 C1 L W++[bxS 5 S]):=by
 have cl:=ztd (T:=T) x hn
 have car:=zb0 (T:=T) x.op
 rw[ha]at car
 generalize leafI x=y at *
 obtain⟨op,i,n⟩:=x
 obtain⟨yo,ya,yb,⟨y0,y1,y2⟩⟩:=y
 dsimp only at *
 unfold cmH at *
 rw[f649 _ _ rfl,b649]
 rcases hg with rfl | rfl
 ·simp -implicitDefEqProofs[ho,car,cl,c,genAt]
 ·simp -implicitDefEqProofs[ho,car,cl,c,genAt]
theorem zli(C C1:List Ins)(L W S:List Nat)(x:Nd)(gc:Nat)(p a:Nat)(hg:gc=1∨gc=7)(ho:x.op≠5)(ha:arN x.op=1)(hS:S[S.length-1]? = some a)(hl:S.length≤100000)(hn:x.n.length≤1000)
  (c:callH T 650 [cmP,.agg (celI ⟨x.op,(a:Int),x.i,blk⟩)] (cmH 1 4 C L W)=some (.i .i64 (p:Int),cmH gc 4 C1 L W)) :
  callH T 649 [cmP,.agg (celN x),.bs (.bor 5) 5 1 0 S.length] (cmH 1 4 C L W++[bxS 5 S])=some (.i .i64 (p:Int),cmH (if gc=1 then 1 else 8) 4 C1 L W++[bxS 5 S]):=by
 have car:=zb0 (T:=T) x.op
 rw[ha]at car
 obtain⟨h1,h2⟩:=List.getElem?_eq_some_iff.1 hS
 have hw1:IntKind.wrap .i64 ((S.length:Int)-1)=((S.length-1:Nat):Int):=by rw[zab _ (by omega)];omega
 have hlt:((S.length-1:Nat):Int)<S.length:=by omega
 obtain⟨op,i,n⟩:=x
 dsimp only at *
 rw[zey]at c
 unfold cmH at *
 rw[f649 _ _ rfl,b649]
 rcases hg with rfl | rfl
 ·simp -implicitDefEqProofs[ho,car,hw1,hlt,h1,h2,hS,c,genAt]
 ·simp -implicitDefEqProofs[ho,car,hw1,hlt,h1,h2,hS,c,genAt]
theorem zjm(C C1:List Ins)(L W S:List Nat)(x:Nd)(gc:Nat)(p a b:Nat)(hg:gc=1∨gc=7)(ho:x.op≠5)(ha:arN x.op=2)(h2S:2≤S.length)(hS:S[S.length-1]? = some b)(hS2:S[S.length-2]? = some a)(hl:S.length≤100000)(hn:x.n.length≤1000)
  (c:callH T 650 [cmP,.agg (celI ⟨x.op,(a:Int),(b:Int),blk⟩)] (cmH 1 4 C L W)=some (.i .i64 (p:Int),cmH gc 4 C1 L W)) :
  callH T 649 [cmP,.agg (celN x),.bs (.bor 5) 5 1 0 S.length] (cmH 1 4 C L W++[bxS 5 S])=some (.i .i64 (p:Int),cmH (if gc=1 then 1 else 8) 4 C1 L W++[bxS 5 S]):=by
 have car:=zb0 (T:=T) x.op
 rw[ha]at car
 obtain⟨h1,h2⟩:=List.getElem?_eq_some_iff.1 hS
 obtain⟨h3,h4⟩:=List.getElem?_eq_some_iff.1 hS2
 have hw1:IntKind.wrap .i64 ((S.length:Int)-1)=((S.length-1:Nat):Int):=by rw[zab _ (by omega)];omega
 have hw2:IntKind.wrap .i64 ((S.length:Int)-2)=((S.length-2:Nat):Int):=by rw[zab _ (by omega)];omega
 have hlt:((S.length-1:Nat):Int)<S.length:=by omega
 have hlt2:((S.length-2:Nat):Int)<S.length:=by omega
 obtain⟨op,i,n⟩:=x
 dsimp only at *
 rw[zey]at c
 unfold cmH at *
 rw[f649 _ _ rfl,b649]
 rcases hg with rfl | rfl
 ·simp -implicitDefEqProofs[ho,car,hw1,hw2,hlt,hlt2,h1,h2,h3,h4,hS,hS2,c,genAt]
 ·simp -implicitDefEqProofs[ho,car,hw1,hw2,hlt,hlt2,h1,h2,h3,h4,hS,hS2,c,genAt]
end
structure NdB (nl:Nat) (n:Nat) (x:Nd):Prop where
 len:x.n.length≤1000
 lt:x.op=5→0≤x.i∧x.i<nl
 ar:0≤arN x.op∧arN x.op≤n
def stEx(gc gw:Nat)(C:List Ins)(L W S:List Nat)(c:List Nd)(i:Nat):St:=
 ⟨[(0,cmP),(5,.bs (.loc 5) 11 1 0 S.length),(9,.sl (rowN c) .an),(10,.i .i64 c.length),(11,.i .i64 (i:Int))],cmH gc gw C L W++[(.loc 5,⟨11,.own,1,natR S⟩)],13⟩
section
variable{T:Tbl}[CText T][CComp T][CLimb T][CNat T][CProd T][CTwos T][CQuot T][CQuotD T][CWhole T][CCommon T][CFrac T][CFrac2 T][CFrac3 T][CFrac5 T][CPow T][CTape T][CGauge T][CEval T][CEval2 T][CTree T][CLenD T]
theorem zte(C:List Ins)(L W S:List Nat)(x:Nd)(hC:∀y∈C,MkI y)(hx:NdB L.length S.length x)(hl:C.length≤100000)(hs:S.length≤100000) :
  ∃gc,(gc=1∨gc=8)∧callH T 649 [cmP,.agg (celN x),.bs (.bor 5) 5 1 0 S.length] (cmH 1 4 C L W++[bxS 5 S])=some (.i .i64 ((ndI L C S x).2:Int),cmH gc 4 (ndI L C S x).1 L W++[bxS 5 S]):=by
 obtain⟨h1,h2,h3,h4⟩:=hx
 unfold ndI
 by_cases ho:x.op=5
 ·obtain⟨a,b⟩:=h2 ho
  rw[if_pos ho]
  exact⟨1,.inl rfl,zjl C L W S x ho a b h1⟩
 rw[if_neg ho]
 have g8:∀gc,(gc=1∨gc=7)→((if gc=1 then 1 else 8)=1∨(if gc=1 then 1 else 8)=8):=by
  rintro gc (rfl | rfl)
  ·exact .inl rfl
  ·exact .inr rfl
 rcases za4 x.op with ⟨e,_⟩ | ⟨e,_⟩ | ⟨e,_⟩ | ⟨e,_⟩
 ·rw[if_pos e]
  obtain⟨gc,hg,hc⟩:=zjk (T:=T) C L W (leafI x) hC (zj0 x) (ztc x h1) hl
  exact⟨_,g8 gc hg,zhu C _ L W S x gc _ hg ho e h1 hc⟩
 ·have ho1:x.op≠1:=fun h=>by rw[h]at e;revert e;decide
  rw[if_neg (by omega),if_pos e]
  obtain⟨a,ha⟩:∃a,S[S.length-1]? = some a:=⟨_,List.getElem?_eq_getElem (by omega)⟩
  rw[ha,Option.getD_some]
  obtain⟨gc,hg,hc⟩:=zjk (T:=T) C L W ⟨x.op,(a:Int),x.i,blk⟩ hC ⟨fun h=>absurd h ho1,fun _=>rfl⟩ (Nat.zero_le _) hl
  exact⟨_,g8 gc hg,zli C _ L W S x gc _ a hg ho e ha hs h1 hc⟩
 ·have ho1:x.op≠1:=fun h=>by rw[h]at e;revert e;decide
  rw[if_neg (by omega),if_neg (by omega)]
  obtain⟨b,hb⟩:∃b,S[S.length-1]? = some b:=⟨_,List.getElem?_eq_getElem (by omega)⟩
  obtain⟨a,ha⟩:∃a,S[S.length-2]? = some a:=⟨_,List.getElem?_eq_getElem (by omega)⟩
  rw[ha,hb,Option.getD_some,Option.getD_some]
  obtain⟨gc,hg,hc⟩:=zjk (T:=T) C L W ⟨x.op,(a:Int),(b:Int),blk⟩ hC ⟨fun h=>absurd h ho1,fun _=>rfl⟩ (Nat.zero_le _) hl
  exact⟨_,g8 gc hg,zjm C _ L W S x gc _ a b hg ho e (by omega) hb ha hs h1 hc⟩
 ·omega
theorem zp8(gc gw g1:Nat)(C C1:List Ins)(L W S:List Nat)(c:List Nd)(i p ar:Nat)(x:Nd)(hgc:gc=1∨gc=7)(hgw:gw=4∨gw=10)(hg1:g1=1∨g1=8)(hx:c[i]? = some x)(har:arN x.op=(ar:Int))(harS:ar≤S.length)
  (hcl:c.length≤100000) (hWl:W.length≤100000) (hSl:S.length≤100000) (hn:x.n.length≤1000)
  (hc:callH T 649 [cmP,.agg (celN x),.bs (.bor 5) 5 1 0 S.length] (cmH 1 4 C L W++[bxS 5 S])=some (.i .i64 (p:Int),cmH g1 4 C1 L W++[bxS 5 S])) :
  evX (orc T) T 5 l648_0 (stEx gc gw C L W S c i)=some (.n,stEx (if g1=1 then gc else 7) 10 C1 L (W++[p]) (S.take (S.length-ar)++[p]) c (i+1)):=by
 have car:=zb0 (T:=T) x.op
 rw[har]at car
 obtain⟨hlt,hge⟩:=List.getElem?_eq_some_iff.1 hx
 have hlt':(i:Int)<c.length:=by omega
 have hws:=zbg hlt (by omega)
 have hsW:=zav W p
 have hsS:=zav (S.take (S.length-ar)) p
 have hsl:(S.take (S.length-ar)).length=S.length-ar:=by rw[List.length_take];omega
 have htk:(natR S).take (S.length-ar)=natR (S.take (S.length-ar)):=by unfold natR;rw[List.map_take]
 have hw:IntKind.wrap .i64 ((S.length:Int)-(ar:Int))=((S.length-ar:Nat):Int):=by rw[zab _ (by omega)];omega
 have hle:((S.length-ar:Nat):Int)≤S.length:=by omega
 have h32:W.length+1≤4294967296:=by omega
 have h33:S.length-ar+1≤4294967296:=by omega
 have htkW:(natR W).take W.length=natR W:=List.take_of_length_le (by rw[zam];exact Nat.le_refl _)
 have hn32:x.n.length≤4294967296:=by omega
 have hlS:S.length-ar≤S.length:=Nat.sub_le _ _
 obtain⟨op,xi,n⟩:=x
 dsimp only at *
 unfold stEx cmH at *
 simp only[bxS,List.cons_append,List.nil_append]at hc
 generalize hS1:S.take (S.length-ar)=S1 at *
 generalize hm:S.length-ar=m at *
 rcases hgc with rfl | rfl<;>rcases hgw with rfl | rfl<;>rcases hg1 with rfl | rfl
 all_goals simp -implicitDefEqProofs[l648_0,hlt,hlt',hx,hge,hws,car,hc,hsW,hsS,hsl,htk,hw,hle,h32,h33,hn32,hlS,htkW,genAt]
end
theorem zox(Ls:List Nat)(C:List Ins)(W:List Nat)(c:List Nd)(i:Nat)(x:Nd)(hx:c[i]? = some x):exQ Ls C W (c.take (i+1))=stepQ' Ls (exQ Ls C W (c.take i)) x:=by
 rw[List.take_add_one,hx,Option.toList_some,zo4]
theorem zna(Ls:List Nat)(C:List Ins)(s:List Nat)(x:Nd):(ndI Ls C s x).1.length≤C.length+1:=by
 unfold ndI
 split
 ·simp
 ·split
  ·exact(zj1 C _).2.1
  ·split
   ·exact(zj1 C _).2.1
   ·exact(zj1 C _).2.1
section
variable{T:Tbl}[CText T][CComp T][CLimb T][CNat T][CProd T][CTwos T][CQuot T][CQuotD T][CWhole T][CCommon T][CFrac T][CFrac2 T][CFrac3 T][CFrac5 T][CPow T][CTape T][CGauge T][CEval T][CEval2 T][CTree T][CLenD T]
theorem zgz(C:List Ins)(L W:List Nat)(c:List Nd)(hC:∀y∈C,MkI y)(hw:wrongN c=-1)(hlt:∀x∈c,x.op=5→0≤x.i∧x.i<L.length)(hn:thin 1000 c)(hc:c.length≤50000)(hCl:C.length≤50000)(hWl:W.length≤50000) :
  (exQ L C W c).s.length=1∧∃gc,(gc=1∨gc=7)∧callH T 648 [cmP,.sl (rowN c) .an] (cmH 1 4 C L W)=some (.i .i64 ((((exQ L C W c).s[0]?).getD 0:Nat):Int),cmH gc 10 (exQ L C W c).C L (exQ L C W c).W):=by
 have hne:0<c.length:=by
  cases c with
  | nil=>exact absurd hw (by decide)
  | cons x r=>simp
 have hloop:∃r,((exQ L C W c).s.length=1∧∃gc,(gc=1∨gc=7)∧r=((.n,⟨[(5,.bs (.loc 5) 11 1 0 (exQ L C W c).s.length)],cmH gc 10 (exQ L C W c).C L (exQ L C W c).W++[(.loc 5,⟨11,.own,1,natR (exQ L C W c).s⟩)],13⟩):Ex×St)) ∧
   loopN T 5 0 (.norm false [5]) l648_0 (stEx 1 4 C L W [] c 0)=some r:=by
  refine zas (fun q:Nat×Nat×Nat=>stEx q.2.1 q.2.2 (exQ L C W (c.take q.1)).C L (exQ L C W (c.take q.1)).W (exQ L C W (c.take q.1)).s c q.1)
   (fun q=>q.1≤c.length∧(q.2.1=1∨q.2.1=7)∧(q.2.2=4∨q.2.2=10)∧(0<q.1→q.2.2=10)∧(exQ L C W (c.take q.1)).s.length≤q.1∧(exQ L C W (c.take q.1)).C.length≤C.length+q.1∧(exQ L C W (c.take q.1)).W.length=W.length+q.1∧∃j,wrongL j (exQ L C W (c.take q.1)).s.length (c.drop q.1)=-1)
   (fun q=>c.length-q.1) _ ?_ (0,1,4) ⟨Nat.zero_le _,.inl rfl,.inl rfl,fun h=>absurd h (by decide),Nat.le_refl _,Nat.le_refl _,rfl,0,hw⟩
  rintro⟨i,gc,gw⟩ ⟨hi,hgc,hgw,hg0,hs,hCi,hWi,j,hwr⟩
  dsimp only at *
  have hmk:∀y∈(exQ L C W (c.take i)).C,MkI y:=zl4 L (c.take i) ⟨C,W,[]⟩ hC
  by_cases hil:i<c.length
  ·left
   obtain⟨x,hx,hmem⟩:∃x,c[i]? = some x∧x∈c:=⟨c[i]'hil,List.getElem?_eq_getElem hil,List.getElem_mem hil⟩
   obtain⟨_,hge⟩:=List.getElem?_eq_some_iff.1 hx
   have hd:c.drop i=x::c.drop (i+1):=by rw[List.drop_eq_getElem_cons hil,hge]
   have htk:=zox L C W c i x hx
   rw[hd]at hwr
   generalize exQ L C W (c.take i)=q at *
   obtain⟨Cq,Wq,Sq⟩:=q
   dsimp only at *
   have h1:¬ (arN x.op<0∨(Sq.length:Int)<arN x.op):=by
    intro hh
    unfold wrongL at hwr
    rw[if_pos hh]at hwr
    omega
   have hw2:wrongL (j+1) (Sq.length+1-arN x.op) (c.drop (i+1))=-1:=by
    unfold wrongL at hwr
    rwa [if_neg h1]at hwr
   obtain⟨g1,hg1,hcall⟩:=zte (T:=T) Cq L Wq Sq x hmk ⟨hn x hmem,hlt x hmem,by omega,by omega⟩ (by omega) (by omega)
   obtain⟨ar,har⟩:∃ar:Nat,arN x.op=(ar:Int):=⟨(arN x.op).toNat,by omega⟩
   have e:=zp8 (T:=T) gc gw g1 Cq _ L Wq Sq c i _ ar x hgc hgw hg1 hx har (by omega) (by omega) (by omega) (by omega) (hn x hmem) hcall
   have hst:stepQ' L ⟨Cq,Wq,Sq⟩ x=⟨(ndI L Cq Sq x).1,Wq++[(ndI L Cq Sq x).2],Sq.take (Sq.length-ar)++[(ndI L Cq Sq x).2]⟩:=by
    unfold stepQ'
    rw[har,Int.toNat_natCast]
   have hnl:=zna L Cq Sq x
   have hsl:(Sq.take (Sq.length-ar)++[(ndI L Cq Sq x).2]).length=Sq.length-ar+1:=by rw[List.length_append,List.length_take,List.length_singleton];omega
   rw[hst]at htk
   refine⟨(i+1,if g1=1 then gc else 7,10),?_,by dsimp only;omega,?_⟩
   ·dsimp only
    rw[htk]
    dsimp only
    refine⟨by omega,?_,.inr rfl,fun _=>rfl,by omega,by omega,by rw[List.length_append,List.length_singleton];omega,j+1,?_⟩
    ·split
     ·exact hgc
     ·exact .inr rfl
    ·rw[hsl,←hw2]
     congr 1
     omega
   ·dsimp only
    rw[htk]
    exact e
  ·right
   have hic:i=c.length:=by omega
   subst hic
   rw[List.take_length]at *
   rw[List.drop_length]at hwr
   have h10:=hg0 hne
   have hs1:(exQ L C W c).s.length=1:=by
    unfold wrongL at hwr
    split at hwr
    ·omega
    ·omega
   refine⟨_,⟨hs1,gc,hgc,rfl⟩,?_⟩
   subst h10
   generalize exQ L C W c=q at *
   obtain⟨Cq,Wq,Sq⟩:=q
   dsimp only at *
   unfold stEx cmH
   rcases hgc with rfl | rfl
   ·constructor<;>simp -implicitDefEqProofs[l648_0,genAt]
   ·constructor<;>simp -implicitDefEqProofs[l648_0,genAt]
 obtain⟨r,⟨hs1,gc,hgc,rfl⟩,hr⟩:=hloop
 refine⟨hs1,gc,hgc,?_⟩
 generalize exQ L C W c=q at *
 obtain⟨Cq,Wq,Sq⟩:=q
 dsimp only at *
 obtain⟨v,rfl⟩:=List.length_eq_one_iff.1 hs1
 unfold stEx cmH at hr
 unfold cmH
 rw[f648 _ _ rfl,b648]
 simp -implicitDefEqProofs at hr
 have hnv:natR [v]=[[.i .i64 (v:Int)]]:=rfl
 rw[hnv]at hr
 rcases hgc with rfl | rfl
 ·simp -implicitDefEqProofs[hr,genAt]
 ·simp -implicitDefEqProofs[hr,genAt]
end
abbrev mkB:BId:=.fld (.loc 25) 3
abbrev mkBx(g:Nat)(C:List Ins)(L W:List Nat):Heap:=
 [(mkB,⟨g,.str,4,[[.bs (.fld mkB 0) (g+1) 6 0 C.length,.fnp 0 (.fld (.loc 25) 1) (g+2) 2 0 0,.bs (.fld mkB 2) (g+3) 1 0 L.length,.bs (.fld mkB 3) (g+4) 1 0 W.length]]⟩),
  (.fld mkB 0,⟨g+1,.own,6,rowI C⟩),(.fld (.loc 25) 1,⟨g+2,.mp,2,mapI 0 C⟩),(.fld mkB 2,⟨g+3,.own,1,natR L⟩),(.fld mkB 3,⟨g+4,.own,1,natR W⟩)]
abbrev bx4(g:Nat):BId×Box:=(.loc 4,⟨g,.str,4,[[.sl [] .an,.sl [] .an,.i .i64 0,.i .i64 0]]⟩)
abbrev bx6(g:Nat):BId×Box:=(.loc 6,⟨g,.str,4,[[.i .i64 0,.i .i64 0,.i .i64 0,.i .i64 0]]⟩)
def stF1(f:Fd)(pars:Int)(C:List Ins)(L W:List Nat)(i:Nat):St:=
 ⟨[(1,.i .i64 pars),(2,.ptr (.loc 2) 1 2 0 0),(4,.ptr (.loc 4) 2 4 0 0),(6,.ptr (.loc 6) 3 4 0 0),(8,.ptr mkB 4 4 0 0),(27,.sl (rowLt f.lets) .an),(28,.i .i64 f.lets.length),(29,.i .i64 (i:Int))],
  [(.loc 2,⟨1,.str,2,[[.sl (rowLt f.lets) .an,.sl (rowC f.outs) .an]]⟩),bx4 2,bx6 3]++mkBx 4 C L W,10⟩
def stF2(n:Nat)(Os:List (List Nd))(pars:Int)(C:List Ins)(L W Q:List Nat)(i:Nat):St:=
 ⟨[(4,.ptr (.loc 4) 1 4 0 0),(6,.ptr (.loc 6) 2 4 0 0),(8,.ptr mkB 3 4 0 0),(11,.ptr (.loc 11) 8 4 0 0),(53,.sl (rowC Os) .an),(54,.i .i64 Os.length),(55,.i .i64 (i:Int))],
  [bx4 1,bx6 2]++mkBx 3 C L W++[(.loc 11,⟨8,.str,4,[[.sl [] .an,.bs (.fld (.loc 11) 1) 9 1 0 Q.length,.i .i64 (n:Int),.i .i64 pars]]⟩),(.fld (.loc 11) 1,⟨9,.own,1,natR Q⟩)],11⟩
section
variable{T:Tbl}[CText T][CComp T]
theorem zg0(f:Fd)(pars:Int)(C C1:List Ins)(L W W1:List Nat)(i p gc:Nat)(x:Lt)(hgc:gc=1∨gc=7)(hx:f.lets[i]? = some x)(hl:f.lets.length≤100000)(hL:L.length≤100000)(hc:x.code.length≤100000)
  (c:callH T 648 [cmP,.sl (rowN x.code) .an] (cmH 1 4 C L W)=some (.i .i64 (p:Int),cmH gc 10 C1 L W1)) :
  evX (orc T) T 0 l644_0 (stF1 f pars C L W i)=some (.n,stF1 f pars C1 (L++[p]) W1 (i+1)):=by
 obtain⟨hlt,hge⟩:=List.getElem?_eq_some_iff.1 hx
 have hlt':(i:Int)<f.lets.length:=by omega
 have hws:=zbg hlt (by omega)
 have hsL:=zav L p
 have htkL:(natR L).take L.length=natR L:=List.take_of_length_le (by rw[zam];exact Nat.le_refl _)
 have h32:L.length+1≤4294967296:=by omega
 obtain⟨Ls,O⟩:=f
 obtain⟨nm,code⟩:=x
 dsimp only at *
 unfold stF1
 unfold cmH at c
 rcases hgc with rfl | rfl
 ·simp -implicitDefEqProofs[l644_0,hlt,hlt',hx,hge,hws,c,hsL,htkL,h32,genAt]
 ·simp -implicitDefEqProofs[l644_0,hlt,hlt',hx,hge,hws,c,hsL,htkL,h32,genAt]
theorem zg1(n:Nat)(Os:List (List Nd))(pars:Int)(C C1:List Ins)(L W W1 Q:List Nat)(i p gc:Nat)(x:List Nd)(hgc:gc=1∨gc=7)(hx:Os[i]? = some x)(hl:Os.length≤100000)(hQ:Q.length≤100000)(hc:x.length≤100000)
  (c:callH T 648 [cmP,.sl (rowN x) .an] (cmH 1 4 C L W)=some (.i .i64 (p:Int),cmH gc 10 C1 L W1)) :
  evX (orc T) T 0 l644_1 (stF2 n Os pars C L W Q i)=some (.n,stF2 n Os pars C1 L W1 (Q++[p]) (i+1)):=by
 obtain⟨hlt,hge⟩:=List.getElem?_eq_some_iff.1 hx
 have hlt':(i:Int)<Os.length:=by omega
 have hws:=zbg hlt (by omega)
 have hsQ:=zav Q p
 have htkQ:(natR Q).take Q.length=natR Q:=List.take_of_length_le (by rw[zam];exact Nat.le_refl _)
 have h32:Q.length+1≤4294967296:=by omega
 unfold stF2
 unfold cmH at c
 rcases hgc with rfl | rfl
 ·simp -implicitDefEqProofs[l644_1,hlt,hlt',hx,hge,hws,c,hsQ,htkQ,h32,genAt]
 ·simp -implicitDefEqProofs[l644_1,hlt,hlt',hx,hge,hws,c,hsQ,htkQ,h32,genAt]
end
abbrev bx4A(z:Fz):Box:=⟨7,.str,3,[[.b z.1,.sl (u32s z.2.1) .an,.sl (u32s z.2.2) .an]]⟩
abbrev bx5A(a b c d:Int):Box:=⟨8,.str,4,[[.i .i64 a,.i .i64 b,.i .i64 c,.i .i64 d]]⟩
abbrev hqA(gk:Nat)(Q:PoF)(LS:List Fz)(s p L seen:Int)(F:List Fz)(m:Nat)(z:Fz)(a b c d:Int):Heap:=
 [(.bor 0,⟨0,.str,9,[[.b Q.t.1,.sl (u32s Q.t.2.1) .an,.sl (u32s Q.t.2.2) .an,.sl (rowF Q.y) .an,.sl (rowF Q.p) .an,.sl (rowF LS) .an,.ptr (.bor 1) 1 3 0 0,.i .i64 seen,.bs (.bor 2) gk 3 0 m]]⟩),(.bor 1,bxG 1 s p L),(.bor 2,⟨gk,.own,3,rowF F⟩),(.loc 4,bx4A z),(.loc 5,bx5A a b c d)]
def stWA(gk:Nat)(Q:PoF)(LS:List Fz)(s p L seen:Int)(F:List Fz)(m:Nat)(code:List Nd)(i:Nat):St:=
 ⟨[(0,wP),(4,.ptr (.loc 4) 7 3 0 0),(5,.ptr (.loc 5) 8 4 0 0),(18,.sl (rowN code) .an),(19,.i .i64 code.length),(20,.i .i64 i)],hqA gk Q LS s p L seen F m (false,[],[]) 0 0 0 0,10⟩
def endWA(gk:Nat)(Q:PoF)(LS:List Fz)(s p L seen:Int)(F:List Fz)(m:Nat):Ex×St:=
 (.n,⟨[(0,wP),(4,.ptr (.loc 4) 7 3 0 0),(5,.ptr (.loc 5) 8 4 0 0)],hqA gk Q LS s p L seen F m (false,[],[]) 0 0 0 0,10⟩)
def endSA(gk:Nat)(Q:PoF)(LS:List Fz)(s p L seen:Int)(F:List Fz)(m:Nat)(kind at_:Int):Ex×St:=
 (.r,⟨[(4,.ptr (.loc 4) 7 3 0 0),(5,.ptr (.loc 5) 8 4 0 0)],hqA gk Q LS s p L seen F m (fz 0) kind 0 0 at_,10⟩)
section
variable{T:Tbl}[CLimb T][CNat T][CProd T][CTwos T][CQuot T][CQuotD T][CWhole T][CCommon T][CFrac T][CFrac2 T][CFrac3 T][CFrac5 T][CPow T][CTape T][CGauge T][CEval T][CEval2 T][CTree T][CText T][CLenD T]
def endQA(P:Po)(lim:Nat)(ls:List Rat)(n:Nat)(R:Rat×Nat×Nat)(r:Ex×St):Prop:=
 (R.2.1=0∧∃gk s p F,(gk=2∨gk=6)∧F[0]? = some (fz R.1)∧F.length≤5000∧r=endWA gk P.f (fzs ls) s p lim n F 1) ∨
 (R.2.1≠0∧∃gk s p seen F m,(gk=2∨gk=6)∧r=endSA gk P.f (fzs ls) s p lim seen F m R.2.1 R.2.2)
end
end Go.Ab
section
namespace Go.Ab
end Go.Ab
end
namespace Go.Ab
abbrev flt4(a b c d:Int):AV:=.agg [.i .i64 a,.i .i64 b,.i .i64 c,.i .i64 d]
section
variable{T:Tbl}[CTree T][CTree2 T][CText T][CLenD T][CLimb T][CNat T][CJoin T][CLex T][CCheck T]
theorem zp4(s:List UInt8)(hs:s.length≤100000):callF T 486 [.s s]=some (.b (nameB s)):=by
 have c:=ztp (T:=T) 2 0 s hs
 unfold nameB
 rw[f486 _ rfl,b486]
 generalize rightB 2 s=B at *
 by_cases h1:s=[116]
 ·subst h1;cases B<;>simp -implicitDefEqProofs
 by_cases h2:s=[121]
 ·subst h2;cases B<;>simp -implicitDefEqProofs
 by_cases h3:s=[112]
 ·subst h3;cases B<;>simp -implicitDefEqProofs
 by_cases h4:s=[108,101,116]
 ·subst h4;cases B<;>simp -implicitDefEqProofs
 cases B<;>simp -implicitDefEqProofs[c,h1,h2,h3,h4]
theorem zm5(L:List Lt)(i:Nat)(hi:i<L.length)(hL:L.length≤100000):callF T 487 [.sl (rowLt L) .an,.i .i64 i]=some (.b (twB (L.take i) (L[i]'hi).name)):=by
 have hlo:loopN T 0 0 (.norm false []) l487_0 ⟨[(0,.sl (rowLt L) .an),(1,.i .i64 i),(6,.i .i64 i),(7,.i .i64 ((0:Nat):Int))],[],2⟩ =
   if twB ((L.take i).drop 0) (L[i]'hi).name=true then some (.r,⟨[(4,.b true)],[],2⟩) else some (.n,⟨[],[],2⟩):=by
  refine zbx (fun k=>⟨[(0,.sl (rowLt L) .an),(1,.i .i64 i),(6,.i .i64 i),(7,.i .i64 ((k:Nat):Int))],[],2⟩) i
   (fun k=>if twB ((L.take i).drop k) (L[i]'hi).name=true then some (.r,_) else some (.n,_)) (fun k hk=>?_) ?_
  ·have hk1:k<L.length:=by omega
   have hg:L[k]? = some (L[k]'hk1):=List.getElem?_eq_getElem hk1
   have hgi:L[i]? = some (L[i]'hi):=List.getElem?_eq_getElem hi
   have hk2:k<(L.take i).length:=by rw[List.length_take];omega
   have hd:(L.take i).drop k=(L.take i)[k]'hk2::(L.take i).drop (k+1):=List.drop_eq_getElem_cons hk2
   have hx2:(L.take i)[k]'hk2=L[k]'hk1:=by simp
   rw[hx2]at hd
   have hws:=zbg hk (by omega)
   have hk':(k:Int)<i:=by omega
   have hi':(i:Int)<L.length:=by omega
   have hk1':(k:Int)<L.length:=by omega
   generalize hx:L[k]'hk1=x at *
   generalize hy:L[i]'hi=y at *
   obtain⟨xn,xc⟩:=x
   obtain⟨yn,yc⟩:=y
   by_cases hc:xn=yn
   ·right
    rw[if_pos (by rw[hd];simp[twB,hc])]
    clear hd
    constructor<;>simp -implicitDefEqProofs[l487_0,hk,hk',hk1,hk1',hi,hi',hg,hgi,hx,hy,hc]
   ·left
    refine⟨?_,by rw[hd];simp[twB,hc]⟩
    clear hd
    simp -implicitDefEqProofs[l487_0,hk,hk',hk1,hk1',hi,hi',hg,hgi,hx,hy,hc,hws]
  ·rw[List.drop_of_length_le (by rw[List.length_take];omega)]
   simp only[twB,List.any_nil,Bool.false_eq_true,if_false]
   constructor<;>simp -implicitDefEqProofs[l487_0]
 rw[List.drop_zero]at hlo
 simp only[Int.natCast_zero]at hlo
 rw[f487 _ rfl,b487]
 generalize twB (L.take i) (L[i]'hi).name=B at *
 cases B with
 | true=>
  rw[if_pos rfl]at hlo
  simp -implicitDefEqProofs[hlo]
 | false=>
  rw[if_neg (by decide)]at hlo
  simp -implicitDefEqProofs[hlo]
theorem zil(c:List Nd)(num dim pars lets:Int)(hl:c.length≤50000)(hn:thin 1000 c):callF T 488 [.sl (rowN c) .an,.i .i64 num,.i .i64 dim,.i .i64 pars,.i .i64 lets] =
  some (if 0≤ptA dim pars lets c then flt4 2 num 0 (ptA dim pars lets c) else flt4 0 0 0 0):=by
 have c1:=zee (T:=T) c dim pars lets (by omega) hn
 have c2:=zq0 (T:=T) c hl
 have hp:=zmb dim pars lets c
 unfold ptA
 rw[f488 _ rfl,b488]
 generalize depN c=d at *
 generalize placeN dim pars lets c=p at *
 by_cases h:p<0
 ·by_cases hd:40<d
  ·have hd':(40:Int)<d:=by omega
   have hnl:¬ (c.length:Int)<0:=by omega
   have h0:(0:Int)≤c.length:=by omega
   rw[if_pos (show p<0∧40<d from ⟨h,hd⟩),if_pos h0]
   simp -implicitDefEqProofs[c1,c2,h,hd,hd',hnl]
  ·have hd':¬ (40:Int)<d:=by omega
   have h0:¬ 0≤p:=by omega
   rw[if_neg (show ¬ (p<0∧40<d) from fun hh=>hd hh.2),if_neg h0]
   simp -implicitDefEqProofs[c1,c2,h,hd,hd']
 ·have h0:0≤p:=by omega
  rw[if_neg (show ¬ (p<0∧40<d) from fun hh=>h hh.1),if_pos h0]
  simp -implicitDefEqProofs[c1,c2,h]
theorem zm6(f:Fd)(dim pars:Int)(h1:f.lets.length≤100000)(h2:f.outs.length≤100000)(hn:thinD 1000 50000 f)(hs:sizeD f≤4294967295):callF T 485 [efd f,.i .i64 dim,.i .i64 pars]=some (.b (whB f dim pars)):=by
 have c:=zue (T:=T) f h1 h2 (fun c hc=>⟨Nat.le_trans (hn c hc).1 (by decide),(hn c hc).2⟩) hs
 unfold whB
 generalize sizeD f=S at *
 obtain⟨L,O⟩:=f
 dsimp only at *
 rw[f485 _ rfl,b485]
 by_cases g1:1≤dim
 ·by_cases g2:dim≤6
  ·by_cases g3:0≤pars
   ·by_cases g4:pars≤6
    ·by_cases g5:(O.length:Int)=dim
     ·by_cases g6:L.length≤10
      ·have g6':(L.length:Int)≤10:=by omega
       by_cases g7:S≤300
       ·have g7':(S:Int)≤300:=by omega
        simp -implicitDefEqProofs[g1,g2,g3,g4,g5,g6,g6',g7,g7',c]
       ·have g7':¬ (S:Int)≤300:=by omega
        simp -implicitDefEqProofs[g1,g2,g3,g4,g5,g6,g6',g7,g7',c]
      ·have g6':¬ (L.length:Int)≤10:=by omega
       simp -implicitDefEqProofs[g1,g2,g3,g4,g5,g6,g6',c]
     ·simp -implicitDefEqProofs[g1,g2,g3,g4,g5,c]
    ·simp -implicitDefEqProofs[g1,g2,g3,g4,c]
   ·simp -implicitDefEqProofs[g1,g2,g3,c]
  ·simp -implicitDefEqProofs[g1,g2,c]
 ·simp -implicitDefEqProofs[g1,c]
end
abbrev bxFd(g:Nat)(f:Fd):Box:=⟨g,.str,2,[[.sl (rowLt f.lets) .an,.sl (rowC f.outs) .an]]⟩
def fltC(q:Option (Int×Int×Int)):AV:=match q with
 | some (a,b,c)=>flt4 2 a b c
 | none=>flt4 0 0 0 0
def endC(a b c:Int):Option (Ex×St):=some (.r,⟨[(6,.ptr (.loc 6) 1 4 0 0)],[(.loc 6,⟨1,.str,4,[[.i .i64 2,.i .i64 a,.i .i64 b,.i .i64 c]]⟩)],3⟩)
section
variable{T:Tbl}[CTree T][CTree2 T][CText T][CLenD T][CLimb T][CNat T][CJoin T][CLex T][CCheck T]
def stCL(f:Fd)(dim pars:Int)(i:Nat):St:=⟨[(1,.i .i64 dim),(2,.i .i64 pars),(3,.ptr (.loc 3) 1 2 0 0),(6,.ptr (.loc 6) 2 4 0 0),(20,.sl (rowLt f.lets) .an),(21,.i .i64 f.lets.length),(22,.i .i64 i)],[(.loc 3,bxFd 1 f),(.loc 6,⟨2,.str,4,[[.i .i64 0,.i .i64 0,.i .i64 0,.i .i64 0]]⟩)],4⟩
theorem zp5(f:Fd)(dim pars:Int)(h1:f.lets.length≤10)(hn:thinD 1000 50000 f)(hs:∀x∈f.lets,x.name.length≤100000) :
  loopN T 0 0 (.norm false [1,2,3,6]) l477_0 (stCL f dim pars 0)=match chkL dim pars f.lets 0 f.lets with
   | some (a,b,c)=>endC a b c
   | none=>some (.n,⟨[(1,.i .i64 dim),(2,.i .i64 pars),(3,.ptr (.loc 3) 1 2 0 0),(6,.ptr (.loc 6) 2 4 0 0)],[(.loc 3,bxFd 1 f),(.loc 6,⟨2,.str,4,[[.i .i64 0,.i .i64 0,.i .i64 0,.i .i64 0]]⟩)],4⟩):=by
 have:=zbx (T:=T) (k:=0) (id:=0) (g2:=.norm false [1,2,3,6]) (c:=l477_0) (stCL f dim pars) f.lets.length
  (fun i=>match chkL dim pars f.lets i (f.lets.drop i) with
   | some (a,b,c)=>endC a b c
   | none=>some (.n,⟨[(1,.i .i64 dim),(2,.i .i64 pars),(3,.ptr (.loc 3) 1 2 0 0),(6,.ptr (.loc 6) 2 4 0 0)],[(.loc 3,bxFd 1 f),(.loc 6,⟨2,.str,4,[[.i .i64 0,.i .i64 0,.i .i64 0,.i .i64 0]]⟩)],4⟩)) (fun i hi=>?_) ?_
 ·simpa using this
 ·have hg:f.lets[i]? = some (f.lets[i]'hi):=List.getElem?_eq_getElem hi
  have hd:f.lets.drop i=f.lets[i]'hi::f.lets.drop (i+1):=List.drop_eq_getElem_cons hi
  have hi':(i:Int)<f.lets.length:=by omega
  have hws:=zbg hi (by omega)
  have hw1:IntKind.wrap .i64 ((i:Int)+1)=(i:Int)+1:=zab _ (by omega)
  obtain⟨hc1,hc2⟩:=hn (f.lets[i]'hi).code (List.mem_append.2 (.inl (List.mem_map.2 ⟨_,List.getElem_mem hi,rfl⟩)))
  have k1:=zp4 (T:=T) (f.lets[i]'hi).name (hs _ (List.getElem_mem hi))
  have k2:=zm5 (T:=T) f.lets i hi (by omega)
  have k3:=zil (T:=T) (f.lets[i]'hi).code ((i:Int)+1) dim pars i hc1 hc2
  have hp0:ptA dim pars i (f.lets[i]'hi).code<0∨0≤ptA dim pars i (f.lets[i]'hi).code:=by omega
  rw[hd,chkL]
  obtain⟨L,O⟩:=f
  dsimp only at *
  clear hd hn hs hc1 hc2
  generalize hx:L[i]'hi=x at *
  obtain⟨nm,code⟩:=x
  dsimp only at *
  unfold stCL bxFd endC
  dsimp only
  rw[hws]at hw1
  generalize ptA dim pars i code=p at *
  generalize twB (L.take i) nm=B at *
  cases hA:nameB nm with
  | false=>
   right
   rw[hA]at k1
   rw[if_pos (.inl rfl)]
   constructor<;>simp -implicitDefEqProofs[l477_0,hi,hi',hg,hx,k1,hws]
  | true=>
   rw[hA]at k1
   cases B with
   | true=>
    right
    rw[if_pos (.inr rfl)]
    constructor<;>simp -implicitDefEqProofs[l477_0,hi,hi',hg,hx,k1,k2,hws]
   | false=>
    rw[if_neg (by simp)]
    rcases hp0 with hp0 | hp0
    ·left
     have hp1:¬ 0≤p:=by omega
     rw[if_neg hp1]at k3 ⊢
     refine⟨?_,rfl⟩
     simp -implicitDefEqProofs[l477_0,hi,hi',hg,hx,k1,k2,k3,hws]
    ·right
     rw[if_pos hp0]at k3 ⊢
     constructor<;>simp -implicitDefEqProofs[l477_0,hi,hi',hg,hx,k1,k2,k3,hws]
 ·rw[List.drop_length,chkL]
  unfold stCL bxFd
  constructor<;>simp -implicitDefEqProofs[l477_0]
def stCO(f:Fd)(dim pars:Int)(i:Nat):St:=⟨[(1,.i .i64 dim),(2,.i .i64 pars),(3,.ptr (.loc 3) 1 2 0 0),(6,.ptr (.loc 6) 2 4 0 0),(54,.sl (rowC f.outs) .an),(55,.i .i64 f.outs.length),(56,.i .i64 i)],[(.loc 3,bxFd 1 f),(.loc 6,⟨2,.str,4,[[.i .i64 0,.i .i64 0,.i .i64 0,.i .i64 0]]⟩)],4⟩
theorem zp6(f:Fd)(dim pars:Int)(h1:f.lets.length≤10)(h2:f.outs.length≤10)(hn:thinD 1000 50000 f) :
  loopN T 0 2 (.norm false [6]) l477_1 (stCO f dim pars 0)=match chkO dim pars f.lets.length 0 f.outs with
   | some (a,b,c)=>endC a b c
   | none=>some (.n,⟨[(6,.ptr (.loc 6) 1 4 0 0)],[(.loc 6,⟨1,.str,4,[[.i .i64 0,.i .i64 0,.i .i64 0,.i .i64 0]]⟩)],3⟩):=by
 have:=zbx (T:=T) (k:=0) (id:=2) (g2:=.norm false [6]) (c:=l477_1) (stCO f dim pars) f.outs.length
  (fun i=>match chkO dim pars f.lets.length i (f.outs.drop i) with
   | some (a,b,c)=>endC a b c
   | none=>some (.n,⟨[(6,.ptr (.loc 6) 1 4 0 0)],[(.loc 6,⟨1,.str,4,[[.i .i64 0,.i .i64 0,.i .i64 0,.i .i64 0]]⟩)],3⟩)) (fun i hi=>?_) ?_
 ·simpa using this
 ·have hg:f.outs[i]? = some (f.outs[i]'hi):=List.getElem?_eq_getElem hi
  have hd:f.outs.drop i=f.outs[i]'hi::f.outs.drop (i+1):=List.drop_eq_getElem_cons hi
  have hi':(i:Int)<f.outs.length:=by omega
  have hws:=zbg hi (by omega)
  have hw1:IntKind.wrap .i64 ((f.lets.length:Int)+i)=(f.lets.length:Int)+i:=zab _ (by omega)
  have hw2:IntKind.wrap .i64 ((f.lets.length:Int)+i+1)=(f.lets.length:Int)+i+1:=zab _ (by omega)
  have hw3:(((f.lets.length+i:Nat):Int)+1)=(f.lets.length:Int)+i+1:=by omega
  obtain⟨hc1,hc2⟩:=hn (f.outs[i]'hi) (List.mem_append.2 (.inr (List.getElem_mem hi)))
  have k3:=zil (T:=T) (f.outs[i]'hi) ((f.lets.length:Int)+i+1) dim pars f.lets.length hc1 hc2
  have hp0:ptA dim pars f.lets.length (f.outs[i]'hi)<0∨0≤ptA dim pars f.lets.length (f.outs[i]'hi):=by omega
  rw[hd,chkO,hw3]
  obtain⟨L,O⟩:=f
  dsimp only at *
  clear hd hn hc1 hc2 hw3
  generalize hx:O[i]'hi=x at *
  unfold stCO bxFd endC
  dsimp only
  generalize ptA dim pars L.length x=p at *
  rcases hp0 with hp0 | hp0
  ·left
   have hp1:¬ 0≤p:=by omega
   rw[if_neg hp1]at k3 ⊢
   refine⟨?_,rfl⟩
   simp -implicitDefEqProofs[l477_1,hi,hi',hg,hx,k3,hws,hw1,hw2]
  ·right
   rw[if_pos hp0]at k3 ⊢
   constructor<;>simp -implicitDefEqProofs[l477_1,hi,hi',hg,hx,k3,hws,hw1,hw2]
 ·rw[List.drop_length,chkO]
  unfold stCO bxFd
  constructor<;>simp -implicitDefEqProofs[l477_1]
theorem zm7(f:Fd)(dim pars:Int)(h1:f.lets.length≤100000)(h2:f.outs.length≤100000)(hn:thinD 1000 50000 f)(hz:sizeD f≤4294967295)(hs:∀x∈f.lets,x.name.length≤100000) :
  callF T 477 [efd f,.i .i64 dim,.i .i64 pars]=some (fltC (chkD f dim pars)):=by
 have c:=zm6 (T:=T) f dim pars h1 h2 hn hz
 unfold chkD
 cases hW:whB f dim pars with
 | false=>
  rw[hW]at c
  rw[if_pos rfl]
  unfold fltC
  obtain⟨L,O⟩:=f
  dsimp only at *
  rw[f477 _ rfl,b477]
  simp -implicitDefEqProofs[c]
 | true=>
  rw[hW]at c
  rw[if_neg (by decide)]
  have hW2:(1≤dim∧dim≤6∧0≤pars∧pars≤6∧(f.outs.length:Int)=dim∧f.lets.length≤10∧sizeD f≤300):=by simpa[whB]using hW
  have a1:=zp5 (T:=T) f dim pars hW2.2.2.2.2.2.1 hn hs
  have a2:=zp6 (T:=T) f dim pars hW2.2.2.2.2.2.1 (by omega) hn
  generalize chkL dim pars f.lets 0 f.lets=X at *
  generalize chkO dim pars f.lets.length 0 f.outs=Y at *
  unfold stCL bxFd endC at a1
  unfold stCO bxFd endC at a2
  simp only[Int.natCast_zero]at a1 a2
  obtain⟨L,O⟩:=f
  dsimp only at *
  clear hW2 hn hs hz
  rw[f477 _ rfl,b477]
  obtain _ | ⟨x1,x2,x3⟩:=X
  ·dsimp only at a1 ⊢
   obtain _ | ⟨y1,y2,y3⟩:=Y
   ·dsimp only at a2
    unfold fltC
    simp -implicitDefEqProofs[c,a1,a2]
   ·dsimp only at a2
    unfold fltC
    simp -implicitDefEqProofs[c,a1,a2]
  ·dsimp only at a1 ⊢
   unfold fltC
   simp -implicitDefEqProofs[c,a1]
end
structure Fq where
 C:List Ins
 W:List Nat
 P:List Nat
def ltQ(q:Fq)(c:List Nd):Fq:=let r:=exQ q.P q.C q.W c;⟨r.C,r.W,q.P++[(r.s[0]?).getD 0]⟩
def ltsQ(L:List (List Nd)):Fq:=L.foldl ltQ ⟨[],[],[]⟩
def ouQ(Ls:List Nat)(q:Fq)(c:List Nd):Fq:=let r:=exQ Ls q.C q.W c;⟨r.C,r.W,q.P++[(r.s[0]?).getD 0]⟩
def ousQ(q:Fq)(O:List (List Nd)):Fq:=O.foldl (ouQ q.P) ⟨q.C,q.W,[]⟩
theorem zg2(L:List (List Nd))(c:List Nd):ltsQ (L++[c])=ltQ (ltsQ L) c:=by simp[ltsQ]
theorem zc2(q:Fq)(O:List (List Nd))(c:List Nd):ousQ q (O++[c])=ouQ q.P (ousQ q O) c:=by simp[ousQ]
theorem znb(Ls:List Nat)(C:List Ins)(W:List Nat)(c:List Nd):(exQ Ls C W c).C.length≤C.length+c.length∧(exQ Ls C W c).W.length=W.length+c.length:=by
 induction c using zff with
 | nil=>exact⟨Nat.le_refl _,rfl⟩
 | append_singleton c x ih=>
  rw[zo4]
  have:=zna Ls (exQ Ls C W c).C (exQ Ls C W c).s x
  refine⟨?_,?_⟩
  ·show (ndI Ls (exQ Ls C W c).C (exQ Ls C W c).s x).1.length≤_
   rw[List.length_append,List.length_singleton];omega
  ·show ((exQ Ls C W c).W++[_]).length=_
   rw[List.length_append,List.length_append,List.length_singleton,List.length_singleton,ih.2];omega
theorem zjn(L:List (List Nd)):(ltsQ L).P.length=L.length∧(ltsQ L).C.length≤(L.map List.length).sum∧(ltsQ L).W.length=(L.map List.length).sum:=by
 induction L using zff with
 | nil=>exact⟨rfl,Nat.le_refl _,rfl⟩
 | append_singleton L c ih=>
  rw[zg2]
  obtain⟨h1,h2,h3⟩:=ih
  have:=znb (ltsQ L).P (ltsQ L).C (ltsQ L).W c
  refine⟨?_,?_,?_⟩
  ·show ((ltsQ L).P++[_]).length=_
   simp[h1]
  ·show (exQ (ltsQ L).P (ltsQ L).C (ltsQ L).W c).C.length≤_
   rw[List.map_append,List.sum_append]
   simp
   omega
  ·show (exQ (ltsQ L).P (ltsQ L).C (ltsQ L).W c).W.length=_
   rw[List.map_append,List.sum_append]
   simp
   omega
theorem ztf(L:List (List Nd)):∀y∈(ltsQ L).C,MkI y:=by
 induction L using zff with
 | nil=>intro y hy;cases hy
 | append_singleton L c ih=>rw[zg2];exact zl4 _ c ⟨_,_,[]⟩ ih
theorem zjo(q:Fq)(O:List (List Nd)):(ousQ q O).P.length=O.length∧(ousQ q O).C.length≤q.C.length+(O.map List.length).sum∧(ousQ q O).W.length=q.W.length+(O.map List.length).sum:=by
 induction O using zff with
 | nil=>exact⟨rfl,Nat.le_refl _,rfl⟩
 | append_singleton O c ih=>
  rw[zc2]
  obtain⟨h1,h2,h3⟩:=ih
  have:=znb q.P (ousQ q O).C (ousQ q O).W c
  refine⟨?_,?_,?_⟩
  ·show ((ousQ q O).P++[_]).length=_
   simp[h1]
  ·show (exQ q.P (ousQ q O).C (ousQ q O).W c).C.length≤_
   rw[List.map_append,List.sum_append]
   simp
   omega
  ·show (exQ q.P (ousQ q O).C (ousQ q O).W c).W.length=_
   rw[List.map_append,List.sum_append]
   simp
   omega
theorem ztg(q:Fq)(O:List (List Nd))(h:∀y∈q.C,MkI y):∀y∈(ousQ q O).C,MkI y:=by
 induction O using zff with
 | nil=>exact h
 | append_singleton O c ih=>rw[zc2];exact zl4 _ c ⟨_,_,[]⟩ ih
def fldQ(f:Fd):Fq:=ousQ (ltsQ (f.lets.map (·.code))) f.outs
def tapQ(f:Fd)(pars:Int):Tp:=⟨(fldQ f).C,(fldQ f).P.map fun(n:Nat)=>(n:Int),f.outs.length,pars⟩
theorem zec(l:List (List Nd))(i:Nat):((l.take i).map List.length).sum≤(l.map List.length).sum:=by
 conv=>rhs;rw[←List.take_append_drop i l,List.map_append,List.sum_append]
 omega
section
variable{T:Tbl}[CText T][CComp T][CLimb T][CNat T][CProd T][CTwos T][CQuot T][CQuotD T][CWhole T][CCommon T][CFrac T][CFrac2 T][CFrac3 T][CFrac5 T][CPow T][CTape T][CGauge T][CEval T][CEval2 T][CTree T][CLenD T]
theorem zth(f:Fd)(dim pars:Int)(hF:FineD f dim pars)(hn:thinD 1000 50000 f) :
  loopN T 0 0 (.norm false [1,2,4,6,8]) l644_0 (stF1 f pars [] [] [] 0) =
   some (.n,⟨[(1,.i .i64 pars),(2,.ptr (.loc 2) 1 2 0 0),(4,.ptr (.loc 4) 2 4 0 0),(6,.ptr (.loc 6) 3 4 0 0),(8,.ptr mkB 4 4 0 0)],
    [(.loc 2,⟨1,.str,2,[[.sl (rowLt f.lets) .an,.sl (rowC f.outs) .an]]⟩),bx4 2,bx6 3]++mkBx 4 (ltsQ (f.lets.map (·.code))).C (ltsQ (f.lets.map (·.code))).P (ltsQ (f.lets.map (·.code))).W,10⟩):=by
 have hsz:=hF.wh.2.2.2.2.2.2
 have h10:=hF.wh.2.2.2.2.2.1
 have hsum:((f.lets.map (·.code)).map List.length).sum≤300:=by
  unfold sizeD codesD at hsz
  rw[List.map_append,List.sum_append]at hsz
  omega
 refine zaq (T:=T) (k:=0) (id:=0) (g2:=.norm false [1,2,4,6,8]) (c:=l644_0) (fun i=>stF1 f pars (ltsQ ((f.lets.map (·.code)).take i)).C (ltsQ ((f.lets.map (·.code)).take i)).P (ltsQ ((f.lets.map (·.code)).take i)).W i) f.lets.length _ (fun i hi=>?_) ?_
 ·obtain⟨x,hx,hmem⟩:∃x,f.lets[i]? = some x∧x∈f.lets:=⟨f.lets[i]'hi,List.getElem?_eq_getElem hi,List.getElem_mem hi⟩
  have hxc:(f.lets.map (·.code))[i]? = some x.code:=by rw[List.getElem?_map,hx];rfl
  have htk:ltsQ ((f.lets.map (·.code)).take (i+1))=ltQ (ltsQ ((f.lets.map (·.code)).take i)) x.code:=by rw[List.take_add_one,hxc,Option.toList_some,zg2]
  obtain⟨h1,h2,h3⟩:=zjn ((f.lets.map (·.code)).take i)
  have hs:=zec (f.lets.map (·.code)) i
  have hmk:=ztf ((f.lets.map (·.code)).take i)
  have hil:((f.lets.map (·.code)).take i).length=i:=by rw[List.length_take,List.length_map];omega
  obtain⟨t,ht,hte,hok⟩:=zb1 (hF.lets i x hx)
  have hwr:wrongN x.code=-1:=by rw[←hte];exact zdh ht
  have hcl:=hF.len x.code (ziz hmem)
  have hth:=(hn x.code (ziz hmem)).2
  rw[htk]
  generalize ltsQ ((f.lets.map (·.code)).take i)=q at *
  obtain⟨Cq,Wq,Pq⟩:=q
  dsimp only at *
  obtain⟨_,gc,hgc,hc⟩:=zgz (T:=T) Cq Pq Wq x.code hmk hwr (fun y hy ho=>by
   have:=zfg (hok y hy) ho
   omega) hth (by omega) (by omega) (by omega)
  exact zg0 f pars Cq _ Pq Wq _ i _ gc x hgc hx (by omega) (by omega) (by omega) hc
 ·rw[show f.lets.length=(f.lets.map (·.code)).length by simp,List.take_length]
  unfold stF1
  rw[show (f.lets.map (·.code)).length=f.lets.length by simp]
  generalize ltsQ (f.lets.map (·.code))=q
  obtain⟨Cq,Wq,Pq⟩:=q
  constructor<;>simp -implicitDefEqProofs[l644_0]
theorem zti(f:Fd)(dim pars:Int)(hF:FineD f dim pars)(hn:thinD 1000 50000 f) :
  loopN T 0 2 (.norm false [4,6,8,11]) l644_1 (stF2 f.outs.length f.outs pars (ltsQ (f.lets.map (·.code))).C (ltsQ (f.lets.map (·.code))).P (ltsQ (f.lets.map (·.code))).W [] 0) =
   some (.n,⟨[(4,.ptr (.loc 4) 1 4 0 0),(6,.ptr (.loc 6) 2 4 0 0),(8,.ptr mkB 3 4 0 0),(11,.ptr (.loc 11) 8 4 0 0)],
    [bx4 1,bx6 2]++mkBx 3 (fldQ f).C (ltsQ (f.lets.map (·.code))).P (fldQ f).W++[(.loc 11,⟨8,.str,4,[[.sl [] .an,.bs (.fld (.loc 11) 1) 9 1 0 (fldQ f).P.length,.i .i64 (f.outs.length:Int),.i .i64 pars]]⟩),(.fld (.loc 11) 1,⟨9,.own,1,natR (fldQ f).P⟩)],11⟩):=by
 have hsz:=hF.wh.2.2.2.2.2.2
 have h10:=hF.wh.2.2.2.2.2.1
 have hod:=hF.wh.2.2.2.2.1
 have hd6:=hF.wh.2.1
 have hsum:((f.lets.map (·.code)).map List.length).sum+(f.outs.map List.length).sum≤300:=by
  unfold sizeD codesD at hsz
  rw[List.map_append,List.sum_append]at hsz
  omega
 obtain⟨l1,l2,l3⟩:=zjn (f.lets.map (·.code))
 rw[List.length_map]at l1
 have lmk:=ztf (f.lets.map (·.code))
 unfold fldQ
 generalize ltsQ (f.lets.map (·.code))=q0 at *
 refine zaq (T:=T) (k:=0) (id:=2) (g2:=.norm false [4,6,8,11]) (c:=l644_1) (fun i=>stF2 f.outs.length f.outs pars (ousQ q0 (f.outs.take i)).C q0.P (ousQ q0 (f.outs.take i)).W (ousQ q0 (f.outs.take i)).P i) f.outs.length _ (fun i hi=>?_) ?_
 ·obtain⟨x,hx,hmem⟩:∃x,f.outs[i]? = some x∧x∈f.outs:=⟨f.outs[i]'hi,List.getElem?_eq_getElem hi,List.getElem_mem hi⟩
  have htk:ousQ q0 (f.outs.take (i+1))=ouQ q0.P (ousQ q0 (f.outs.take i)) x:=by rw[List.take_add_one,hx,Option.toList_some,zc2]
  obtain⟨h1,h2,h3⟩:=zjo q0 (f.outs.take i)
  have hs:=zec f.outs i
  have hmk:=ztg q0 (f.outs.take i) lmk
  have hil:(f.outs.take i).length=i:=by rw[List.length_take];omega
  obtain⟨t,ht,hte,hok⟩:=zb1 (hF.outs x hmem)
  have hwr:wrongN x=-1:=by rw[←hte];exact zdh ht
  have hcl:=hF.len x (zi0 hmem)
  have hth:=(hn x (zi0 hmem)).2
  rw[htk]
  generalize ousQ q0 (f.outs.take i)=q at *
  obtain⟨Cq,Wq,Pq⟩:=q
  dsimp only at *
  obtain⟨_,gc,hgc,hc⟩:=zgz (T:=T) Cq q0.P Wq x hmk hwr (fun y hy ho=>by
   have:=zfg (hok y hy) ho
   omega) hth (by omega) (by omega) (by omega)
  exact zg1 f.outs.length f.outs pars Cq _ q0.P Wq _ Pq i _ gc x hgc hx (by omega) (by omega) (by omega) hc
 ·rw[List.take_length]
  unfold stF2
  generalize ousQ q0 f.outs=q
  obtain⟨Cq,Wq,Pq⟩:=q
  obtain⟨C0,W0,P0⟩:=q0
  constructor<;>simp -implicitDefEqProofs[l644_1]
end
theorem zoy(Q:List Nat):ints (Q.map fun(n:Nat)=>(n:Int))=natR Q:=by simp[ints,natR]
section
variable{T:Tbl}[CText T][CComp T][CLimb T][CNat T][CProd T][CTwos T][CQuot T][CQuotD T][CWhole T][CCommon T][CFrac T][CFrac2 T][CFrac3 T][CFrac5 T][CPow T][CTape T][CGauge T][CEval T][CEval2 T][CTree T][CLenD T]
theorem zim:callH T 647 [] []=some (.ptr (.loc 3) 1 4 0 0,[(.loc 3,⟨1,.str,4,[[.sl [] .nl,.fnp 0 (.loc 1) 2 2 0 0,.sl [] .nl,.sl [] .nl]]⟩),(.loc 1,⟨2,.mp,2,[]⟩)]):=by
 rw[f647 _ _ rfl,b647]
 simp -implicitDefEqProofs[genAt]
variable[CTree2 T][CJoin T][CLex T][CCheck T]
theorem zin(f:Fd)(pars:Int)(h1:f.lets.length≤100000)(h2:f.outs.length≤100000)(hn:thinD 1000 50000 f)(hz:sizeD f≤4294967295)(hs:∀x∈f.lets,x.name.length≤100000)(hq:chkD f f.outs.length pars=none) :
  callF T 644 [efd f,.i .i64 pars]=some (.tup [etp (tapQ f pars),.sl (natR (fldQ f).W) .an,fltC none]):=by
 have c:=zm7 (T:=T) f f.outs.length pars h1 h2 hn hz hs
 rw[hq]at c
 have hF:=zl8 hq
 have l1:=zth (T:=T) f f.outs.length pars hF hn
 have l2:=zti (T:=T) f f.outs.length pars hF hn
 have hb:=zim (T:=T)
 unfold tapQ
 unfold fltC at c ⊢
 unfold stF1 at l1
 unfold stF2 at l2
 dsimp only[etp]
 rw[zoy]
 have htW:(natR (fldQ f).W).take (fldQ f).W.length=natR (fldQ f).W:=List.take_of_length_le (by rw[zam];exact Nat.le_refl _)
 have htP:(natR (fldQ f).P).take (fldQ f).P.length=natR (fldQ f).P:=List.take_of_length_le (by rw[zam];exact Nat.le_refl _)
 have htC:(rowI (fldQ f).C).take (fldQ f).C.length=rowI (fldQ f).C:=List.take_of_length_le (by rw[zde];exact Nat.le_refl _)
 generalize ltsQ (f.lets.map (·.code))=q0 at *
 generalize fldQ f=q1 at *
 obtain⟨C0,W0,P0⟩:=q0
 obtain⟨C1,W1,P1⟩:=q1
 obtain⟨L,O⟩:=f
 dsimp only at *
 clear hq hn hz hs hF
 simp only[mkBx,mkB,bx4,bx6,Nat.reduceAdd,List.cons_append,List.nil_append,zwv,zo0,List.length_nil,show rowI []=[] from rfl]at l1 l2
 rw[show (((0:Nat):Int))=0 from rfl]at l1 l2
 rw[f644 _ rfl,b644]
 simp -implicitDefEqProofs[c,hb,l1,l2,htW,htP,htC,genAt]
end
def cntN(c:List Nd):Nat:=(c.filter fun x=>decide (x.op≠5)).length
def ndsF(f:Fd):Nat:=((codesD f).map cntN).sum
theorem ztj(c:List Nd)(x:Nd):cntN (c++[x])=cntN c+if x.op=5 then 0 else 1:=by
 unfold cntN
 rw[List.filter_append,List.length_append]
 by_cases h:x.op=5
 ·rw[if_pos h];simp[h]
 ·rw[if_neg h];simp[h]
theorem znc(c:List Nd):cntN c≤c.length:=List.length_filter_le ..
def bx5(t:Tp):BId×Box:=(.loc 5,⟨1,.str,4,[[.sl (rowI t.code) .an,.sl (ints t.outs) .an,.i .i64 t.dim,.i .i64 t.par]]⟩)
def stSv0(t:Tp)(n:Nat)(l:List (List Nd))(i:Nat)(c:List Nd)(j:Nat):St:=
 ⟨[(5,.ptr (.loc 5) 1 4 0 0),(8,.i .i64 (n:Int)),(24,.sl (rowC l) .an),(25,.i .i64 l.length),(26,.i .i64 (i:Int)),(30,.sl (rowN c) .an),(31,.i .i64 c.length),(32,.i .i64 (j:Int))],[bx5 t],3⟩
def stSv1(t:Tp)(n:Nat)(l:List (List Nd))(i:Nat):St:=
 ⟨[(5,.ptr (.loc 5) 1 4 0 0),(8,.i .i64 (n:Int)),(24,.sl (rowC l) .an),(25,.i .i64 l.length),(26,.i .i64 (i:Int))],[bx5 t],3⟩
section
variable{T:Tbl}[CText T][CComp T]
theorem znd(t:Tp)(n:Nat)(l:List (List Nd))(i:Nat)(c:List Nd)(hc:c.length≤100000)(hn:n≤1000000000)(hx:thin 1000 c) :
  loopN T 0 2 (.norm false [5,8,24,25,26]) l645_0 (stSv0 t n l i c 0)=some (.n,stSv1 t (n+cntN c) l i):=by
 have:=zaq (T:=T) (k:=0) (id:=2) (g2:=.norm false [5,8,24,25,26]) (c:=l645_0) (fun j=>stSv0 t (n+cntN (c.take j)) l i c j) c.length (some (.n,stSv1 t (n+cntN c) l i)) (fun j hj=>?_) ?_
 ·simpa[show cntN []=0 from rfl]using this
 ·obtain⟨x,hx',hmem⟩:∃x,c[j]? = some x∧x∈c:=⟨c[j]'hj,List.getElem?_eq_getElem hj,List.getElem_mem hj⟩
  obtain⟨_,hge⟩:=List.getElem?_eq_some_iff.1 hx'
  have hlt':(j:Int)<c.length:=by omega
  have hws:=zbg hj (by omega)
  have hle:=znc (c.take j)
  rw[List.length_take]at hle
  have hnx:=hx x hmem
  rw[List.take_add_one,hx',Option.toList_some,ztj]
  generalize hm:n+cntN (c.take j)=m at *
  have hw:IntKind.wrap .i64 ((m:Int)+1)=(m:Int)+1:=zab _ (by omega)
  have h32:x.n.length≤4294967296:=by omega
  obtain⟨op,xi,nn⟩:=x
  dsimp only at *
  by_cases ho:op=5
  ·subst ho
   rw[if_pos rfl,Nat.add_zero,hm]
   unfold stSv0 bx5
   simp -implicitDefEqProofs[l645_0,hj,hlt',hx',hge,hws,h32]
  ·rw[if_neg ho,←Nat.add_assoc,hm]
   unfold stSv0 bx5
   simp -implicitDefEqProofs[l645_0,hj,hlt',hx',hge,hws,ho,hw,h32]
 ·rw[List.take_length]
  unfold stSv0 stSv1 bx5
  constructor<;>simp -implicitDefEqProofs[l645_0]
theorem zne(t:Tp)(l:List (List Nd))(hl:l.length≤1000)(hc:∀c∈l,c.length≤50000∧thin 1000 c) :
  loopN T 0 0 (.norm false [5,8]) l645_1 (stSv1 t 0 l 0)=some (.n,⟨[(5,.ptr (.loc 5) 1 4 0 0),(8,.i .i64 (((l.map cntN).sum:Nat):Int))],[bx5 t],3⟩):=by
 have:=zaq (T:=T) (k:=0) (id:=0) (g2:=.norm false [5,8]) (c:=l645_1) (fun i=>stSv1 t ((l.take i).map cntN).sum l i) l.length
  (some (.n,⟨[(5,.ptr (.loc 5) 1 4 0 0),(8,.i .i64 (((l.map cntN).sum:Nat):Int))],[bx5 t],3⟩)) (fun i hi=>?_) ?_
 ·simpa using this
 ·obtain⟨c,hx,hmem⟩:∃x,l[i]? = some x∧x∈l:=⟨l[i]'hi,List.getElem?_eq_getElem hi,List.getElem_mem hi⟩
  obtain⟨_,hge⟩:=List.getElem?_eq_some_iff.1 hx
  have hlt':(i:Int)<l.length:=by omega
  have hws:=zbg hi (by omega)
  obtain⟨c1,c2⟩:=hc c hmem
  have hb:((l.take i).map cntN).sum≤50000*1000:=by
   have key:∀m:List (List Nd),(∀d∈m,d.length≤50000)→(m.map cntN).sum≤50000*m.length:=by
    intro m
    induction m with
    | nil=>intro _;simp
    | cons d m ih=>
     intro h
     have h1:=ih fun e he=>h e (List.mem_cons_of_mem _ he)
     have h2:=h d List.mem_cons_self
     have h3:=znc d
     simp only[List.map_cons,List.sum_cons,List.length_cons]
     omega
   have h4:=key (l.take i) fun d hd=>(hc d (List.mem_of_mem_take hd)).1
   rw[List.length_take]at h4
   have:50000*min i l.length≤50000*1000:=Nat.mul_le_mul_left _ (by omega)
   omega
  have h0:=znd (T:=T) t ((l.take i).map cntN).sum l i c (by omega) (by omega) c2
  rw[List.take_add_one,hx,Option.toList_some,List.map_append,List.sum_append,List.map_singleton,List.sum_singleton]
  generalize ((l.take i).map cntN).sum=m at *
  unfold stSv0 stSv1 bx5 at h0
  unfold stSv1 bx5
  simp -implicitDefEqProofs at h0
  simp -implicitDefEqProofs[l645_1,hi,hlt',hx,hge,hws,h0]
 ·rw[List.take_length]
  unfold stSv1 bx5
  constructor<;>simp -implicitDefEqProofs[l645_1]
variable[CLimb T][CNat T][CProd T][CTwos T][CQuot T][CQuotD T][CWhole T][CCommon T][CFrac T][CFrac2 T][CFrac3 T][CFrac5 T][CPow T][CTape T][CGauge T][CEval T][CEval2 T][CTree T][CLenD T][CTree2 T][CJoin T][CLex T][CCheck T]
theorem zp9(f:Fd)(pars:Int)(h1:f.lets.length≤100)(h2:f.outs.length≤100)(hn:thinD 1000 50000 f)(hz:sizeD f≤4294967295)(hs:∀x∈f.lets,x.name.length≤100000)(hq:chkD f f.outs.length pars=none) :
  callF T 645 [efd f,.i .i64 pars]=some (.i .i64 ((ndsF f:Int)-((fldQ f).C.length:Int))):=by
 have c:=zin (T:=T) f pars (by omega) (by omega) hn hz hs hq
 have cc:=ziv (T:=T) f (by omega) (by omega) (fun c hc=>⟨by have:=(hn c hc).1;omega,(hn c hc).2⟩)
 have hF:=zl8 hq
 have hcl:(codesD f).length≤1000:=by simp[codesD];omega
 have l1:=zne (T:=T) (tapQ f pars) (codesD f) hcl fun c hc=>hn c hc
 have hnb:ndsF f≤300:=by
  have key:∀m:List (List Nd),(m.map cntN).sum≤(m.map List.length).sum:=by
   intro m
   induction m with
   | nil=>exact Nat.le_refl _
   | cons d m ih=>have:=znc d;simp only[List.map_cons,List.sum_cons];omega
  exact Nat.le_trans (key (codesD f)) hF.wh.2.2.2.2.2.2
 have hCb:(fldQ f).C.length≤300:=by
  have e1:=zjo (ltsQ (f.lets.map (·.code))) f.outs
  have e2:=zjn (f.lets.map (·.code))
  have e3:=hF.wh.2.2.2.2.2.2
  unfold sizeD codesD at e3
  rw[List.map_append,List.sum_append]at e3
  show (ousQ (ltsQ (f.lets.map (·.code))) f.outs).C.length≤_
  omega
 have hw:IntKind.wrap .i64 ((ndsF f:Int)-((fldQ f).C.length:Int))=(ndsF f:Int)-((fldQ f).C.length:Int):=zab _ (by omega)
 unfold stSv1 bx5 tapQ at l1
 rw[show ((codesD f).map cntN).sum=ndsF f from rfl]at l1
 unfold tapQ at c
 unfold fltC at c
 generalize codesD f=l at *
 generalize ndsF f=N at *
 generalize fldQ f=q at *
 obtain⟨Cq,Wq,Pq⟩:=q
 obtain⟨L,O⟩:=f
 dsimp only at *
 clear hn hz hs hF hq
 rw[f645 _ rfl,b645]
 simp -implicitDefEqProofs at l1
 simp -implicitDefEqProofs[c,cc,l1,hw]
end
def wk25c:List Nd:=[⟨2,0,[]⟩,⟨1,0,[1]⟩,⟨7,0,[]⟩,⟨2,0,[]⟩,⟨1,0,[1]⟩,⟨7,0,[]⟩,⟨9,0,[]⟩]
def wk25:Fd:=⟨[],[wk25c]⟩
section
variable{T:Tbl}[CText T][CComp T][CLimb T][CNat T][CProd T][CTwos T][CQuot T][CQuotD T][CWhole T][CCommon T][CFrac T][CFrac2 T][CFrac3 T][CFrac5 T][CPow T][CTape T][CGauge T][CEval T][CEval2 T][CTree T][CLenD T][CTree2 T][CJoin T][CLex T][CCheck T][CLaw25 T]
theorem znh:callF T 658 []=some (.b true):=by
 have hn:thinD 1000 50000 wk25:=by
  intro c hc
  have:c=wk25c:=by simpa[codesD,wk25]using hc
  subst this
  refine⟨by decide,fun x hx=>?_⟩
  simp only[wk25c,List.mem_cons,List.not_mem_nil,or_false]at hx
  rcases hx with rfl | rfl | rfl | rfl | rfl | rfl | rfl<;>decide
 have hq:chkD wk25 wk25.outs.length 0=none:=by decide +kernel
 have hC:(fldQ wk25).C.length=4:=by decide +kernel
 have hW:(fldQ wk25).W=[0,1,2,0,1,2,3]:=by decide +kernel
 have hN:ndsF wk25=7:=by decide +kernel
 have c1:=zin (T:=T) wk25 0 (by decide) (by decide) hn (by decide) (by simp[wk25]) hq
 have c2:=zp9 (T:=T) wk25 0 (by decide) (by decide) hn (by decide) (by simp[wk25]) hq
 rw[hN,hC]at c2
 rw[hW]at c1
 unfold tapQ fltC at c1
 generalize fldQ wk25=q at *
 obtain⟨C,W,P⟩:=q
 dsimp only at hC hW c1 c2
 generalize hO:(P.map fun(n:Nat)=>(n:Int))=O at *
 clear hn hq hN hW hO
 unfold wk25 wk25c at c1 c2
 have u1:u32s [1]=[[u32 1]]:=rfl
 simp only[rowN,rowC,rowLt,celLt,celN,natR,List.map_cons,List.map_nil,efd,u1,zvt,List.length_cons,List.length_nil]at c1 c2
 simp only[Int.natCast_one,Int.natCast_zero,Int.cast_ofNat_Int]at c1 c2
 rw[f658 _ rfl,b658]
 simp -implicitDefEqProofs[c1,c2,hC]
end
theorem zeg(x:Ins):∀(A B:List Ins) (k:Nat),idxI x k (A++B)=(match idxI x k A with | some i=>some i | none=>idxI x (k+A.length) B)
 | [],B,k=>by simp[idxI]
 | y::A,B,k=>by
  rw[List.cons_append]
  unfold idxI
  by_cases h:y=x
  ·rw[if_pos h,if_pos h]
  ·rw[if_neg h,if_neg h,zeg x A B (k+1),List.length_cons,show k+1+A.length=k+(A.length+1) by omega]
   cases idxI x (k+1) A with
   | some i=>rfl
   | none=>cases B<;>rfl
theorem zfe{C F:List Ins}(x:Ins)(h:(putI C x).1 <+: F):putI F x=(F,(putI C x).2):=by
 obtain⟨D,rfl⟩:=h
 unfold putI
 cases hi:idxI x 0 C with
 | some i=>
  dsimp only
  rw[zeg,hi]
 | none=>
  dsimp only
  rw[List.append_assoc,zeg,hi]
  dsimp only
  rw[List.singleton_append]
  unfold idxI
  rw[if_pos rfl]
  dsimp only
  rw[Nat.zero_add]
theorem zo5(C:List Ins)(x:Ins):C <+: (putI C x).1:=by
 unfold putI
 cases idxI x 0 C with
 | some i=>exact List.prefix_refl _
 | none=>exact List.prefix_append _ _
theorem zz2(Ls:List Nat)(C:List Ins)(s:List Nat)(x:Nd):C <+: (ndI Ls C s x).1:=by
 unfold ndI
 split
 ·exact List.prefix_refl _
 ·split
  ·exact zo5 _ _
  ·split<;>exact zo5 _ _
theorem zuu{Ls:List Nat}{C F:List Ins}{s:List Nat}{x:Nd}(h:(ndI Ls C s x).1 <+: F):ndI Ls F s x=(F,(ndI Ls C s x).2):=by
 unfold ndI at h ⊢
 split at h
 ·next h5=>rw[if_pos h5,if_pos h5]
 ·next h5=>
  rw[if_neg h5,if_neg h5]
  split at h
  ·next h0=>rw[if_pos h0,if_pos h0];exact zfe _ h
  ·next h0=>
   rw[if_neg h0,if_neg h0]
   split at h
   ·next h1=>rw[if_pos h1,if_pos h1];exact zfe _ h
   ·next h1=>rw[if_neg h1,if_neg h1];exact zfe _ h
theorem zl5(Ls:List Nat):∀(c:List Nd) (q:Mq),q.C <+: (c.foldl (stepQ' Ls) q).C
 | [],q=>List.prefix_refl _
 | x::c,q=>(zz2 Ls q.C q.s x).trans (zl5 Ls c (stepQ' Ls q x))
theorem zhi(Ls:List Nat)(F:List Ins):∀(c:List Nd) (q:Mq) (W:List Nat),(c.foldl (stepQ' Ls) q).C <+: F→(c.foldl (stepQ' Ls) ⟨F,W,q.s⟩).C=F∧(c.foldl (stepQ' Ls) ⟨F,W,q.s⟩).s=(c.foldl (stepQ' Ls) q).s
 | [],q,W,h=>⟨rfl,rfl⟩
 | x::c,q,W,h=>by
  rw[List.foldl_cons]at h
  have h1:(ndI Ls q.C q.s x).1 <+: F:=(zl5 Ls c (stepQ' Ls q x)).trans h
  have e:stepQ' Ls ⟨F,W,q.s⟩ x=⟨F,W++[(ndI Ls q.C q.s x).2],(stepQ' Ls q x).s⟩:=by
   unfold stepQ'
   rw[zuu h1]
  rw[List.foldl_cons,List.foldl_cons,e]
  exact zhi Ls F c (stepQ' Ls q x) _ h
theorem zuv(Ls:List Nat)(C:List Ins)(W W2:List Nat)(c:List Nd):(exQ Ls (exQ Ls C W c).C W2 c).C=(exQ Ls C W c).C∧(exQ Ls (exQ Ls C W c).C W2 c).s=(exQ Ls C W c).s:=
 zhi Ls (exQ Ls C W c).C c ⟨C,W,[]⟩ W2 (List.prefix_refl _)
theorem zhj(c:List Nd):∀(n:Nat),(ousQ ⟨[],[],[]⟩ (List.replicate (n+1) c)).C=(exQ [] [] [] c).C∧(ousQ ⟨[],[],[]⟩ (List.replicate (n+1) c)).P=List.replicate (n+1) (((exQ [] [] [] c).s[0]?).getD 0)
 | 0=>⟨rfl,rfl⟩
 | n+1=>by
  obtain⟨h1,h2⟩:=zhj c n
  rw[List.replicate_succ' (n:=n+1),zc2]
  unfold ouQ
  dsimp only
  rw[h1,h2]
  obtain⟨e1,e2⟩:=zuv [] [] [] (ousQ ⟨[],[],[]⟩ (List.replicate (n+1) c)).W c
  refine⟨e1,?_⟩
  rw[e2,←List.replicate_succ']
def stCo(C:List Ins)(N:Nat)(pars:Int)(v i:Nat):St:=
 ⟨[(6,.ptr (.loc 6) 1 4 0 0),(7,.ptr (.loc 7) 2 4 0 0),(10,.i .i64 (v:Int)),(11,.ptr (.loc 11) 3 4 0 0),(53,.i .i64 (N:Int)),(54,.i .i64 (i:Int))],
  [(.loc 6,⟨1,.str,4,[[.sl [] .an,.sl [] .an,.i .i64 0,.i .i64 0]]⟩),(.loc 7,⟨2,.str,4,[[.i .i64 0,.i .i64 0,.i .i64 0,.i .i64 0]]⟩),
   (.loc 11,⟨3,.str,4,[[.bs (.fld (.fld (.loc 42) 3) 0) 4 6 0 C.length,.bs (.fld (.loc 11) 1) 5 1 0 i,.i .i64 (N:Int),.i .i64 pars]]⟩),
   (.fld (.fld (.loc 42) 3) 0,⟨4,.own,6,rowI C⟩),(.fld (.loc 11) 1,⟨5,.own,1,natR (List.replicate i v)⟩)],7⟩
section
variable{T:Tbl}[CText T][CComp T][CLimb T][CNat T][CProd T][CTwos T][CQuot T][CQuotD T][CWhole T][CCommon T][CFrac T][CFrac2 T][CFrac3 T][CFrac5 T][CPow T][CTape T][CGauge T][CEval T][CEval2 T][CTree T][CLenD T]
theorem zht(c:List Nd)(dim pars:Int)(hc:c.length≤300)(hd:¬ (1≤dim∧dim≤6∧0≤pars∧pars≤6)) :
  callF T 646 [.sl (rowN c) .an,.i .i64 dim,.i .i64 pars]=some (.tup [etp ⟨[],[],0,0⟩,flt4 2 0 0 0]):=by
 rw[f646 _ rfl,b646]
 have hc':¬ (300:Int)<c.length:=by omega
 by_cases k1:dim<1
 ·simp -implicitDefEqProofs[k1]
 by_cases k2:6<dim
 ·simp -implicitDefEqProofs[k1,k2]
 by_cases k3:pars<0
 ·simp -implicitDefEqProofs[k1,k2,k3]
 by_cases k4:6<pars
 ·simp -implicitDefEqProofs[k1,k2,k3,k4]
 exact absurd ⟨by omega,by omega,by omega,by omega⟩ hd
theorem zjj(c:List Nd)(dim pars:Int)(hc:c.length≤300)(hn:thin 1000 c)(h1:1≤dim)(h2:dim≤6)(h3:0≤pars)(h4:pars≤6)(hp:0≤placeN dim pars 0 c) :
  callF T 646 [.sl (rowN c) .an,.i .i64 dim,.i .i64 pars]=some (.tup [etp ⟨[],[],0,0⟩,flt4 2 0 0 (placeN dim pars 0 c)]):=by
 have cp:=zee (T:=T) c dim pars 0 (by omega) (fun x hx=>hn x hx)
 have hc':¬ (300:Int)<c.length:=by omega
 have k1:¬ dim<1:=by omega
 have k2:¬ 6<dim:=by omega
 have k3:¬ pars<0:=by omega
 have k4:¬ 6<pars:=by omega
 generalize placeN dim pars 0 c=p at *
 have k5:¬ p<0:=by omega
 rw[f646 _ rfl,b646]
 simp -implicitDefEqProofs[k1,k2,k3,k4,k5,hp,hc',cp]
theorem zm9(C:List Ins)(N:Nat)(pars:Int)(v:Nat)(hN:N≤1000) :
  loopN T 0 0 (.norm false [6,7,11]) l646_0 (stCo C N pars v 0)=some (.n,⟨[(6,.ptr (.loc 6) 1 4 0 0),(7,.ptr (.loc 7) 2 4 0 0),(11,.ptr (.loc 11) 3 4 0 0)],
  [(.loc 6,⟨1,.str,4,[[.sl [] .an,.sl [] .an,.i .i64 0,.i .i64 0]]⟩),(.loc 7,⟨2,.str,4,[[.i .i64 0,.i .i64 0,.i .i64 0,.i .i64 0]]⟩),
   (.loc 11,⟨3,.str,4,[[.bs (.fld (.fld (.loc 42) 3) 0) 4 6 0 C.length,.bs (.fld (.loc 11) 1) 5 1 0 N,.i .i64 (N:Int),.i .i64 pars]]⟩),
   (.fld (.fld (.loc 42) 3) 0,⟨4,.own,6,rowI C⟩),(.fld (.loc 11) 1,⟨5,.own,1,natR (List.replicate N v)⟩)],7⟩):=by
 refine zaq (T:=T) (k:=0) (id:=0) (g2:=.norm false [6,7,11]) (c:=l646_0) (fun i=>stCo C N pars v i) N _ (fun i hi=>?_) ?_
 ·have hlt':(i:Int)<(N:Int):=by omega
  have hws:=zbg hi (by omega)
  have hsQ:=zav (List.replicate i v) v
  rw[←List.replicate_succ']at hsQ
  have htkQ:(natR (List.replicate i v)).take i=natR (List.replicate i v):=List.take_of_length_le (by rw[zam,List.length_replicate];exact Nat.le_refl _)
  have hlQ:(natR (List.replicate i v)).length=i:=by rw[zam,List.length_replicate]
  have h32:i+1≤4294967296:=by omega
  have hwk:wkL (natR (List.replicate (i+1) v))=natR (List.replicate (i+1) v):=by simp
  unfold stCo
  generalize natR (List.replicate i v)=Q at *
  generalize natR (List.replicate (i+1) v)=Q1 at *
  simp -implicitDefEqProofs[l646_0,hi,hlt',hws,hsQ,htkQ,hlQ,h32,hwk,genAt]
 ·unfold stCo
  constructor<;>simp -implicitDefEqProofs[l646_0,genAt]
theorem ztb(c:List Nd)(n:Nat)(pars:Int)(hc:c.length≤300)(hn:thin 1000 c)(h2:n+1≤6)(h3:0≤pars)(h4:pars≤6)(hp:placeN (n+1:Nat) pars 0 c<0) :
  callF T 646 [.sl (rowN c) .an,.i .i64 (n+1:Nat),.i .i64 pars]=some (.tup [etp ⟨(exQ [] [] [] c).C,List.replicate (n+1) ((((exQ [] [] [] c).s[0]?).getD 0:Nat):Int),(n+1:Nat),pars⟩,flt4 0 0 0 0]):=by
 have cp:=zee (T:=T) c (n+1:Nat) pars 0 (by omega) (fun x hx=>hn x hx)
 obtain⟨t,ht,hte,hok⟩:=zb1 hp
 have hwr:wrongN c=-1:=by rw[←hte];exact zdh ht
 obtain⟨hs1,gc,hgc,ce⟩:=zgz (T:=T) [] [] [] c (fun y hy=>by cases hy) hwr (fun y hy ho=>by
   have:=zfg (hok y hy) ho
   exact this) hn (by omega) (by decide) (by decide)
 have hb:=zim (T:=T)
 have hc':¬ (300:Int)<c.length:=by omega
 have k1:¬ ((n+1:Nat):Int)<1:=by omega
 have k2:¬ 6<((n+1:Nat):Int):=by omega
 have k3:¬ pars<0:=by omega
 have k4:¬ 6<pars:=by omega
 have k5:¬ 0≤placeN (n+1:Nat) pars 0 c:=by omega
 unfold cmH at ce
 generalize placeN (n+1:Nat) pars 0 c=p at *
 generalize (((exQ [] [] [] c).s[0]?).getD 0:Nat)=v at *
 generalize (exQ [] [] [] c).C=C at *
 generalize (exQ [] [] [] c).W=W at *
 have lo:=zm9 (T:=T) C (n+1) pars v (by omega)
 have htC:(rowI C).take C.length=rowI C:=List.take_of_length_le (by rw[zde];exact Nat.le_refl _)
 have htQ:(natR (List.replicate (n+1) v)).take (n+1)=natR (List.replicate (n+1) v):=List.take_of_length_le (by rw[zam,List.length_replicate];exact Nat.le_refl _)
 have hwk:wkL (natR (List.replicate (n+1) v))=natR (List.replicate (n+1) v):=by simp
 have hlQ:(natR (List.replicate (n+1) v)).length=n+1:=by rw[zam,List.length_replicate]
 have hiQ:ints (List.replicate (n+1) (v:Int))=natR (List.replicate (n+1) v):=by simp[ints,natR]
 unfold stCo at lo
 rw[List.replicate_zero,show natR []=[] from rfl,show (((0:Nat):Int))=0 from rfl]at lo
 dsimp only[etp]
 rw[hiQ]
 generalize natR (List.replicate (n+1) v)=Q at *
 generalize n+1=N at *
 clear hn hok hwr hs1 hp hiQ
 simp -implicitDefEqProofs at ce
 rw[f646 _ rfl,b646]
 rcases hgc with rfl | rfl
 ·simp -implicitDefEqProofs[k1,k2,k3,k4,k5,hc',cp,hb,ce,lo,htC,htQ,hwk,hlQ,genAt]
 ·simp -implicitDefEqProofs[k1,k2,k3,k4,k5,hc',cp,hb,ce,lo,htC,htQ,hwk,hlQ,genAt]
end
section
variable{T:Tbl}[CRef17 T]
theorem zbz(op:Int):callF T 113 [.i .i64 op]=some (.i .i64 (arN op)):=by
 rw[f113 _ rfl,b113]
 rcases za4 op with ⟨e,h1,h2⟩ | ⟨e,rfl | rfl⟩ | ⟨e,h1,h2⟩ | ⟨e,h⟩
 ·rw[e]
  simp -implicitDefEqProofs[h1,h2]
 ·rw[e]
  simp -implicitDefEqProofs
 ·rw[e]
  simp -implicitDefEqProofs
 ·rw[e]
  have g1:1≤op:=by omega
  have g2:¬ op≤5:=by omega
  have g3:op≠6:=by omega
  have g4:op≠11:=by omega
  simp -implicitDefEqProofs[h1,h2,g1,g2,g3,g4]
 ·rw[e]
  have g3:op≠6:=by omega
  have g4:op≠11:=by omega
  rcases h with h | h
  ·have g1:¬ 1≤op:=by omega
   have g2:¬ 7≤op:=by omega
   simp -implicitDefEqProofs[g1,g2,g3,g4]
  ·have g1:1≤op:=by omega
   have g2:7≤op:=by omega
   have g5:¬ op≤5:=by omega
   have g6:¬ op≤10:=by omega
   simp -implicitDefEqProofs[g1,g2,g3,g4,g5,g6]
def stWq(l:List Nd)(p:Nat×Int):St:=⟨[(0,.sl (rowN l) .an),(3,.i .i64 p.2),(4,.i .i64 p.1)],[],2⟩
theorem zfl(l:List Nd)(hl:l.length≤4294967296):∀p:Nat×Int,(p.1≤l.length∧0≤p.2∧p.2≤p.1)→loopN T 0 0 (.norm false [0,3]) l80_0 (stWq l p) =
  match goL p.1 p.2 (l.drop p.1) with
  | (some k,_)=>some (.r,⟨[(2,.i .i64 (k:Nat))],[],2⟩)
  | (none,o)=>some (.n,⟨[(0,.sl (rowN l) .an),(3,.i .i64 o)],[],2⟩):=by
 refine zaw (stWq l) _ (fun p=>l.length-p.1) _ ?_
 rintro⟨i,o⟩ ⟨hi,ho,ho2⟩
 dsimp only at *
 by_cases h:i<l.length
 ·have hg:l[i]? = some (l[i]'h):=List.getElem?_eq_getElem h
  have hd:l.drop i=l[i]'h::l.drop (i+1):=List.drop_eq_getElem_cons h
  have ca:=zbz (T:=T) (l[i]'h).op
  have h':(i:Int)<l.length:=by omega
  have hws:=zbg h (by omega)
  rw[hd,goL]
  generalize hx:l[i]'h=x at *
  clear hd
  have hw0:IntKind.wrap .i64 o=o:=zab _ (by omega)
  have hw1:IntKind.wrap .i64 (o-1)=o-1:=zab _ (by omega)
  have hw2:IntKind.wrap .i64 (o-2)=o-2:=zab _ (by omega)
  have hw3:IntKind.wrap .i64 (o+1)=o+1:=zab _ (by omega)
  have hw4:IntKind.wrap .i64 (o-1+1)=o:=by rw[zab _ (by omega)];omega
  have hw5:IntKind.wrap .i64 (o-2+1)=o-1:=by rw[zab _ (by omega)];omega
  rcases za4 x.op with ⟨e,_⟩ | ⟨e,_⟩ | ⟨e,_⟩ | ⟨e,_⟩
  ·left
   rw[e]at ca ⊢
   have hc:¬ o<0:=by omega
   refine⟨(i+1,o+1),⟨by omega,by omega,by dsimp only;omega⟩,by dsimp only;omega,?_,?_⟩
   ·unfold stWq
    simp -implicitDefEqProofs[l80_0,h,h',hg,hx,hws,ca,hw0,hw3,hc]
   ·rw[if_neg (by omega)]
    simp
  ·rw[e]at ca ⊢
   by_cases hc:o<1
   ·right
    rw[if_pos (by omega)]
    unfold stWq
    constructor<;>simp -implicitDefEqProofs[l80_0,h,h',hg,hx,ca,hc]
   ·left
    refine⟨(i+1,o),⟨by omega,by omega,by dsimp only;omega⟩,by dsimp only;omega,?_,?_⟩
    ·unfold stWq
     simp -implicitDefEqProofs[l80_0,h,h',hg,hx,hws,ca,hw0,hw1,hw4,hc]
    ·rw[if_neg (by omega)]
     simp
  ·rw[e]at ca ⊢
   by_cases hc:o<2
   ·right
    rw[if_pos (by omega)]
    unfold stWq
    constructor<;>simp -implicitDefEqProofs[l80_0,h,h',hg,hx,ca,hc]
   ·left
    refine⟨(i+1,o-1),⟨by omega,by omega,by dsimp only;omega⟩,by dsimp only;omega,?_,?_⟩
    ·unfold stWq
     simp -implicitDefEqProofs[l80_0,h,h',hg,hx,hws,ca,hw2,hw5,hc]
    ·rw[if_neg (by omega)]
     dsimp only
     rw[show o+1-2=o-1 by omega]
  ·right
   rw[e]at ca ⊢
   rw[if_pos (by omega)]
   unfold stWq
   constructor<;>simp -implicitDefEqProofs[l80_0,h,h',hg,hx,ca]
 ·have:i=l.length:=by omega
  subst this
  right
  rw[List.drop_length,goL]
  unfold stWq
  constructor<;>simp -implicitDefEqProofs[l80_0]
theorem znn(l:List Nd)(hl:l.length≤4294967296):callF T 80 [.sl (rowN l) .an]=some (.i .i64 (wrongN l)):=by
 have hlo:=zfl (T:=T) l hl (0,0) ⟨Nat.zero_le _,by decide,by decide⟩
 have hw:=zhm l 0 0
 unfold wrongN
 rw[hw]
 unfold stWq at hlo
 simp only[List.drop_zero,Int.natCast_zero]at hlo
 rw[f80 _ rfl,b80]
 generalize goL 0 0 l=G at *
 obtain⟨_ | k,o⟩:=G
 ·dsimp only at hlo ⊢
  by_cases h:o=1
  ·subst h
   simp -implicitDefEqProofs[hlo]
  ·simp -implicitDefEqProofs[hlo,h]
 ·dsimp only at hlo ⊢
  simp -implicitDefEqProofs[hlo]
def longN(l:List Nd)(many words:Int):Bool:=decide (many<l.length) || (l.take many.toNat).any fun x=>decide (words<x.n.length)
theorem zqr(l:List Nd)(many words:Nat)(hl:l.length≤4294967296∨many≤4294967295)(hm:many≤4294967295):callF T 10 [.sl (rowN l) .an,.i .i64 many,.i .i64 words]=some (.b (decide (many<l.length) || (l.take many).any fun x=>decide (words<x.n.length))):=by
 have hlo:loopN T 0 0 (.norm false [0,1]) l10_0 ⟨[(0,.sl (rowN l) .an),(1,.i .i64 many),(2,.i .i64 words),(7,.i .i64 ((0:Nat):Int))],[],2⟩ =
   if ((l.take many).drop 0).any (fun x=>decide (words<x.n.length))=true then some (.r,⟨[(6,.b true)],[],2⟩) else some (.n,⟨[(0,.sl (rowN l) .an),(1,.i .i64 many)],[],2⟩):=by
  refine zbx (fun i=>⟨[(0,.sl (rowN l) .an),(1,.i .i64 many),(2,.i .i64 words),(7,.i .i64 ((i:Nat):Int))],[],2⟩) (l.take many).length
   (fun i=>if ((l.take many).drop i).any (fun x=>decide (words<x.n.length))=true then some (.r,_) else some (.n,_)) (fun i hi=>?_) ?_
  ·have hi1:=hi
   rw[List.length_take]at hi1
   have h:i<l.length:=by omega
   have h':(i:Int)<l.length:=by omega
   have h2:i<many:=by omega
   have h2':(i:Int)<many:=by omega
   have hg:l[i]? = some (l[i]'h):=List.getElem?_eq_getElem h
   have hd:(l.take many).drop i=(l.take many)[i]'hi::(l.take many).drop (i+1):=List.drop_eq_getElem_cons hi
   have hx2:(l.take many)[i]'hi=l[i]'h:=by simp
   rw[hx2]at hd
   have hws:=zbg h2 (by omega)
   generalize hx:l[i]'h=x at *
   by_cases hc:words<x.n.length
   ·right
    rw[if_pos (by rw[hd];simp[hc])]
    have hc':(words:Int)<x.n.length:=by omega
    clear hd
    constructor<;>simp -implicitDefEqProofs[l10_0,h,h',h2,h2',hg,hx,hc,hc']
   ·left
    have hc':¬ (words:Int)<x.n.length:=by omega
    refine⟨?_,by rw[hd];simp[hc]⟩
    clear hd
    simp -implicitDefEqProofs[l10_0,h,h',h2,h2',hg,hx,hc,hc',hws]
  ·rw[List.drop_length,List.length_take]
   simp only[List.any_nil,Bool.false_eq_true,if_false]
   by_cases h:l.length≤many
   ·rw[Nat.min_eq_right h]
    constructor<;>simp -implicitDefEqProofs[l10_0]
   ·rw[Nat.min_eq_left (by omega)]
    have h2:many<l.length:=by omega
    have h2':(many:Int)<l.length:=by omega
    constructor<;>simp -implicitDefEqProofs[l10_0,h2,h2']
 rw[List.drop_zero]at hlo
 simp only[Int.natCast_zero]at hlo
 rw[f10 _ rfl,b10]
 generalize (l.take many).any (fun x=>decide (words<x.n.length))=B at *
 cases B with
 | true=>
  rw[if_pos rfl]at hlo
  simp -implicitDefEqProofs[hlo]
 | false=>
  rw[if_neg (by decide)]at hlo
  by_cases h:many<l.length
  ·have h':(many:Int)<l.length:=by omega
   simp -implicitDefEqProofs[hlo,h,h']
  ·have h':¬ (many:Int)<l.length:=by omega
   simp -implicitDefEqProofs[hlo,h,h']
variable[CRef02 T][CRef04 T][CRef05 T][CRef07 T]
theorem zqs(x:Nd)(dim pars lets:Int)(hn:x.n.length≤1000):callF T 79 [.agg (celN x),.i .i64 dim,.i .i64 pars,.i .i64 lets]=some (.b (okN dim pars lets x)):=by
 have c1:=zby (T:=T) x.n (by omega)
 have c2:=zfa (T:=T) (ofN (val x.n)) x.n (by have:=zae x.n;omega)
 have c3:=zqq (T:=T) x.n hn
 have e:decide (ofN (val x.n)=x.n)=decide (x.n=ofN (val x.n)):=by
  rw[decide_eq_decide];exact eq_comm
 rw[e]at c2
 obtain⟨op,i,n⟩:=x
 dsimp only at *
 rw[f79 _ rfl,b79]
 unfold okN wordsB
 dsimp only
 generalize hB:decide (n=ofN (val n))=B at *
 clear e
 generalize ofN (val n)=N at *
 generalize hL:textN (val n)=TX at *
 by_cases h1:op=1
 ·subst h1
  by_cases hi:i=0
  ·subst hi
   cases B with
   | false=>simp -implicitDefEqProofs[c1,c2]
   | true=>
    by_cases h2:TX.length≤60
    ·have h2':(TX.length:Int)≤60:=by omega
     simp -implicitDefEqProofs[c1,c2,c3,h2,h2']
    ·have h2':¬ (TX.length:Int)≤60:=by omega
     simp -implicitDefEqProofs[c1,c2,c3,h2,h2']
  ·simp -implicitDefEqProofs[hi]
 rw[if_neg h1]
 by_cases hne:n=[]
 ·subst hne
  by_cases hr:op<1
  ·rw[if_pos (.inr (.inl hr))]
   simp -implicitDefEqProofs[h1,hr]
  by_cases hr2:11<op
  ·rw[if_pos (.inr (.inr hr2))]
   simp -implicitDefEqProofs[h1,hr,hr2]
  rw[if_neg (by rintro(h | h | h)<;>first | exact h rfl | exact hr h | exact hr2 h)]
  unfold belB
  by_cases h3:op=3
  ·subst h3
   by_cases ha:0≤i
   ·by_cases hb:i<dim<;>simp -implicitDefEqProofs[ha,hb]
   ·simp -implicitDefEqProofs[ha]
  by_cases h4:op=4
  ·subst h4
   by_cases ha:0≤i
   ·by_cases hb:i<pars<;>simp -implicitDefEqProofs[ha,hb]
   ·simp -implicitDefEqProofs[ha]
  by_cases h5:op=5
  ·subst h5
   by_cases ha:0≤i
   ·by_cases hb:i<lets<;>simp -implicitDefEqProofs[ha,hb]
   ·simp -implicitDefEqProofs[ha]
  by_cases h11:op=11
  ·subst h11
   by_cases ha:-8≤i
   ·by_cases hb:i≤8<;>simp -implicitDefEqProofs[ha,hb]
   ·simp -implicitDefEqProofs[ha]
  by_cases hi:i=0<;>simp -implicitDefEqProofs[h1,hr,hr2,h3,h4,h5,h11,hi]
 ·have hp:0<n.length:=List.length_pos_iff.2 hne
  rw[if_pos (.inl hne)]
  simp -implicitDefEqProofs[h1,hp,hne]
def stPq(l:List Nd)(dim pars lets w:Int)(i:Nat):St:=⟨[(0,.sl (rowN l) .an),(1,.i .i64 dim),(2,.i .i64 pars),(3,.i .i64 lets),(9,.i .i64 w),(10,.i .i64 i)],[],2⟩
theorem zfm(l:List Nd)(dim pars lets w:Int)(hl:l.length≤4294967296)(hn:∀x∈l,x.n.length≤1000):loopN T 0 0 (.norm false [9]) l50_0 (stPq l dim pars lets w 0) =
  match findL dim pars lets w 0 l with
  | some k=>some (.r,⟨[(8,.i .i64 (k:Nat))],[],2⟩)
  | none=>some (.n,⟨[(9,.i .i64 w)],[],2⟩):=by
 have e0:l.drop 0=l:=rfl
 rw[←e0]
 refine zbx (stPq l dim pars lets w) l.length (fun i=>match findL dim pars lets w i (l.drop i) with
  | some k=>some (.r,⟨[(8,.i .i64 (k:Nat))],[],2⟩)
  | none=>some (.n,⟨[(9,.i .i64 w)],[],2⟩)) (fun i hi=>?_) ?_
 ·have hg:l[i]? = some (l[i]'hi):=List.getElem?_eq_getElem hi
  have hd:l.drop i=l[i]'hi::l.drop (i+1):=List.drop_eq_getElem_cons hi
  have cn:=zqs (T:=T) (l[i]'hi) dim pars lets (hn _ (List.getElem_mem hi))
  have hi':(i:Int)<l.length:=by omega
  have hws:=zbg hi (by omega)
  generalize hx:l[i]'hi=x at *
  rw[hd,findL]
  clear hd
  by_cases h1:(i:Int)=w
  ·right
   rw[if_pos (.inl h1)]
   subst h1
   unfold stPq
   constructor<;>simp -implicitDefEqProofs[l50_0,hi,hi',hg,hx]
  ·generalize okN dim pars lets x=B at *
   cases B with
   | false=>
    right
    rw[if_pos (.inr rfl)]
    unfold stPq
    constructor<;>simp -implicitDefEqProofs[l50_0,hi,hi',hg,hx,h1,cn]
   | true=>
    left
    refine⟨?_,by rw[if_neg (by simp[h1])]⟩
    unfold stPq
    simp -implicitDefEqProofs[l50_0,hi,hi',hg,hx,h1,cn,hws]
 ·rw[List.drop_length,findL]
  unfold stPq
  constructor<;>simp -implicitDefEqProofs[l50_0]
theorem zno(l:List Nd)(dim pars lets:Int)(hl:l.length≤4294967296)(hn:∀x∈l,x.n.length≤1000):callF T 50 [.sl (rowN l) .an,.i .i64 dim,.i .i64 pars,.i .i64 lets]=some (.i .i64 (placeN dim pars lets l)):=by
 have cw:=znn (T:=T) l hl
 have hlo:=zfm (T:=T) l dim pars lets (wrongN l) hl hn
 unfold stPq at hlo
 simp only[Int.natCast_zero]at hlo
 have hf:=zei dim pars lets (wrongN l) l 0
 unfold placeN
 rw[hf]
 rw[f50 _ rfl,b50]
 generalize wrongN l=w at *
 generalize findL dim pars lets w 0 l=F at *
 cases F with
 | none=>
  dsimp only at hlo ⊢
  simp -implicitDefEqProofs[cw,hlo]
 | some k=>
  dsimp only at hlo ⊢
  simp -implicitDefEqProofs[cw,hlo]
end
abbrev rmP:AV:=.ptr (.bor 0) 0 2 0 0
def rmH(gc gw:Nat)(C:List Ins)(W:List Nat):Heap:=
 [(.bor 0,⟨0,.str,2,[[.bs (.bor 1) gc 6 0 C.length,.bs (.bor 2) gw 1 0 W.length]]⟩),(.bor 1,⟨gc,.own,6,rowI C⟩),(.bor 2,⟨gw,.own,1,natR W⟩)]
def stRq(C:List Ins)(W:List Nat)(x:Ins)(i:Nat):St:=
 ⟨[(0,rmP),(3,.ptr (.loc 3) 7 6 0 0),(5,.i .i64 (i:Int))],rmH 1 2 C W++[(.loc 3,⟨7,.str,6,[celI x]⟩)],9⟩
def endRq(C:List Ins)(W:List Nat)(x:Ins)(o:Option Nat):Option (Ex×St):=
 match o with
 | some j=>some (.r,⟨[(4,.i .i64 (j:Int))],rmH 1 2 C W,8⟩)
 | none=>some (.n,⟨[(0,rmP),(3,.ptr (.loc 3) 7 6 0 0)],rmH 1 2 C W++[(.loc 3,⟨7,.str,6,[celI x]⟩)],9⟩)
theorem zt9(x y:Ins)(k:Nat)(r:List Ins):idxI x k (y::r)=if y=x then some k else idxI x (k+1) r:=rfl
theorem zua{x y:Ins}(hx:MkI x)(hy:MkI y):(x.op=y.op∧x.a=y.a∧x.b=y.b∧(x.op≠1∨x.n=y.n))↔y=x:=by
 constructor
 ·rintro⟨h1,h2,h3,h4⟩
  refine(Ins.ext' h1 h2 h3 ?_).symm
  rcases h4 with h4 | h4
  ·rw[hx.2 h4,hy.2 (h1▸h4)]
  ·exact h4
 ·rintro rfl
  exact⟨rfl,rfl,rfl,.inr rfl⟩
section
variable{T:Tbl}[CRef02 T][CRef04 T][CRef05 T][CRef07 T][CRef06 T][CRef08 T][CRef09 T][CRef25 T]
theorem zhw(C:List Ins)(W:List Nat)(x:Ins)(hC:∀y∈C,MkI y)(hx:MkI x)(hn:fsz x.n≤10000)(hb:∀y∈C,fsz y.n≤10000)(hl:C.length≤100000) :
  loopN T 3 0 (.norm false [0,3]) l654_0 (stRq C W x 0)=endRq C W x (idxI x 0 C):=by
 have:=zbx (T:=T) (k:=3) (id:=0) (g2:=.norm false [0,3]) (c:=l654_0) (fun i=>stRq C W x i) C.length (fun i=>endRq C W x (idxI x i (C.drop i))) (fun i hi=>?_) ?_
 ·simpa using this
 ·obtain⟨y,hy,hmem⟩:∃y,C[i]? = some y∧y∈C:=⟨C[i]'hi,List.getElem?_eq_getElem hi,List.getElem_mem hi⟩
  obtain⟨_,hge⟩:=List.getElem?_eq_some_iff.1 hy
  have hd:C.drop i=y::C.drop (i+1):=by rw[List.drop_eq_getElem_cons hi,hge]
  have hlt':(i:Int)<C.length:=by omega
  have hws:=zbg hi (by omega)
  have cs:=zit (T:=T) x.n y.n hn
  have hal:=zua hx (hC y hmem)
  rw[hd,zt9]
  have hL:(rowI C).length=C.length:=zde C
  by_cases hyx:y=x
  ·right
   rw[if_pos hyx]
   subst hyx
   rw[decide_eq_true rfl]at cs
   obtain⟨op,a,b,⟨n0,n1,n2⟩⟩:=y
   unfold stRq rmH endRq
   dsimp only at *
   by_cases ho:op=1
   ·subst ho
    constructor<;>simp -implicitDefEqProofs[l654_0,hi,hlt',hy,hge,cs,genAt,rmH]
   ·constructor<;>simp -implicitDefEqProofs[l654_0,hi,hlt',hy,hge,ho,genAt,rmH]
  ·left
   rw[if_neg hyx]
   refine⟨?_,rfl⟩
   have hno:=fun h=>hyx (hal.1 h)
   obtain⟨op,a,b,⟨n0,n1,n2⟩⟩:=x
   obtain⟨op',a',b',⟨m0,m1,m2⟩⟩:=y
   unfold stRq rmH
   dsimp only at *
   by_cases h1:op=op'
   ·subst h1
    by_cases h2:a=a'
    ·subst h2
     by_cases h3:b=b'
     ·subst h3
      have ho:op=1:=by
       refine Classical.byContradiction fun ho=>hno ⟨rfl,rfl,rfl,.inl ho⟩
      subst ho
      have hne:¬ ((n0,n1,n2):Fz)=(m0,m1,m2):=fun h=>hno ⟨rfl,rfl,rfl,.inr h⟩
      rw[decide_eq_false hne]at cs
      simp -implicitDefEqProofs[l654_0,hi,hlt',hy,hge,hws,cs,genAt]
     ·simp -implicitDefEqProofs[l654_0,hi,hlt',hy,hge,hws,h3,genAt]
    ·simp -implicitDefEqProofs[l654_0,hi,hlt',hy,hge,hws,h2,genAt]
   ·simp -implicitDefEqProofs[l654_0,hi,hlt',hy,hge,hws,h1,genAt]
 ·rw[List.drop_length]
  unfold stRq rmH endRq idxI
  constructor<;>simp -implicitDefEqProofs[l654_0,genAt,rmH]
end
section
variable{T:Tbl}[CRef02 T][CRef04 T][CRef05 T][CRef07 T][CRef06 T][CRef08 T][CRef09 T][CRef25 T]
theorem zub(C:List Ins)(W:List Nat)(x:Ins)(hC:∀y∈C,MkI y)(hx:MkI x)(hn:fsz x.n≤10000)(hb:∀y∈C,fsz y.n≤10000)(hl:C.length≤100000) :
  ∃gc,(gc=1∨gc=5)∧callH T 654 [rmP,.agg (celI x)] (rmH 1 2 C W)=some (.i .i64 ((putI C x).2:Int),rmH gc 2 (putI C x).1 W):=by
 have lo:=zhw (T:=T) C W x hC hx hn hb hl
 unfold putI
 cases h:idxI x 0 C with
 | some i=>
  refine⟨1,.inl rfl,?_⟩
  rw[h]at lo
  unfold stRq endRq rmH at lo
  obtain⟨op,a,b,⟨n0,n1,n2⟩⟩:=x
  unfold rmH
  dsimp only at *
  rw[f654 _ _ rfl,b654]
  simp -implicitDefEqProofs at lo
  simp -implicitDefEqProofs[lo,genAt]
 | none=>
  refine⟨5,.inr rfl,?_⟩
  rw[h]at lo
  have hrs:=zhl C x
  have hw3:IntKind.wrap .i64 (C.length:Int)=(C.length:Int):=zab _ (by omega)
  have hl2:C.length+1≤4294967296:=by omega
  unfold stRq endRq rmH at lo
  obtain⟨op,a,b,⟨n0,n1,n2⟩⟩:=x
  unfold rmH
  dsimp only at *
  rw[f654 _ _ rfl,b654]
  simp -implicitDefEqProofs at lo
  simp -implicitDefEqProofs[lo,genAt,hrs,hw3,hl2]
end
def rmL(gc gw:Nat)(C:List Ins)(W L:List Nat):Heap:=rmH gc gw C W++[(.bor 3,⟨3,.own,1,natR L⟩)]
def stR25(gc gw:Nat)(C:List Ins)(W L S:List Nat)(c:List Nd)(i:Nat):St:=
 ⟨[(0,rmP),(1,.sl (rowN c) .an),(2,.bs (.bor 3) 3 1 0 L.length),(7,.bs (.loc 7) 9 1 0 S.length),(8,.i .i64 (i:Int))],rmL gc gw C W L++[(.loc 7,⟨9,.own,1,natR S⟩)],11⟩
section
variable{T:Tbl}[CRef17 T][CRef02 T][CRef04 T][CRef05 T][CRef07 T][CRef06 T][CRef08 T][CRef09 T][CRef25 T]
theorem zg9(gc gw:Nat)(C:List Ins)(W L S:List Nat)(c:List Nd)(i:Nat)(x:Nd)(hgc:gc=1∨gc=6)(hgw:gw=2∨gw=7)(hx:c[i]? = some x)(ho:x.op=5)(h0:0≤x.i)(h1:x.i<L.length)
  (hcl:c.length≤100000) (hWl:W.length≤100000) (hSl:S.length≤100000) (hn:x.n.length≤1000) :
  evX (orc T) T 4 l653_0 (stR25 gc gw C W L S c i)=some (.n,stR25 gc 7 C (W++[(L[x.i.toNat]?).getD 0]) L (S++[(L[x.i.toNat]?).getD 0]) c (i+1)):=by
 have car:=zbz (T:=T) x.op
 rw[ho,show arN 5=0 by decide]at car
 obtain⟨hlt,hge⟩:=List.getElem?_eq_some_iff.1 hx
 have hlt':(i:Int)<c.length:=by omega
 have hws:=zbg hlt (by omega)
 obtain⟨op,xi,n⟩:=x
 dsimp only at *
 subst ho
 obtain⟨j,rfl⟩:∃j:Nat,xi=(j:Int):=⟨xi.toNat,by omega⟩
 have hj:j<L.length:=by omega
 obtain⟨v,hv⟩:∃v,L[j]? = some v:=⟨_,List.getElem?_eq_getElem hj⟩
 obtain⟨_,hg⟩:=List.getElem?_eq_some_iff.1 hv
 rw[Int.toNat_natCast,hv,Option.getD_some]
 have hsW:=zav W v
 have hsS:=zav S v
 have htkW:(natR W).take W.length=natR W:=List.take_of_length_le (by rw[zam];exact Nat.le_refl _)
 have htkS:(natR S).take S.length=natR S:=List.take_of_length_le (by rw[zam];exact Nat.le_refl _)
 have h32:W.length+1≤4294967296:=by omega
 have h33:S.length+1≤4294967296:=by omega
 have hn32:n.length≤4294967296:=by omega
 have hw:IntKind.wrap .i64 (S.length:Int)=(S.length:Int):=zab _ (by omega)
 unfold stR25 rmL rmH
 rcases hgc with rfl | rfl<;>rcases hgw with rfl | rfl
 all_goals simp -implicitDefEqProofs[l653_0,hlt,hlt',hx,hge,hws,car,hj,hv,hg,h1,hsW,hsS,htkW,htkS,h32,h33,hn32,hw,genAt]
set_option maxHeartbeats 2000000 in
theorem zfb(gc gw g1:Nat)(C C1:List Ins)(W L S:List Nat)(c:List Nd)(i p:Nat)(x:Nd)(hgc:gc=1∨gc=6)(hgw:gw=2∨gw=7)(hg1:g1=1∨g1=5)(hx:c[i]? = some x)(ho:x.op=1)
  (hcl:c.length≤100000) (hWl:W.length≤100000) (hSl:S.length≤100000) (hn:x.n.length≤1000)
  (hc:callH T 654 [rmP,.agg (celI ⟨1,0,0,fz ((val x.n:Nat):Rat)⟩)] (rmH 1 2 C W)=some (.i .i64 (p:Int),rmH g1 2 C1 W)) :
  evX (orc T) T 4 l653_0 (stR25 gc gw C W L S c i)=some (.n,stR25 (if g1=1 then gc else 6) 7 C1 (W++[p]) L (S++[p]) c (i+1)):=by
 have car:=zbz (T:=T) x.op
 rw[ho,show arN 1=0 by decide]at car
 obtain⟨hlt,hge⟩:=List.getElem?_eq_some_iff.1 hx
 have hlt':(i:Int)<c.length:=by omega
 have hws:=zbg hlt (by omega)
 have cn:=zis (T:=T) (false,x.n,[1]) (by unfold fsz;simp;omega)
 have hfv:fv (false,x.n,[1])=((val x.n:Nat):Rat):=by
  have h1:val [1]=1:=by decide
  unfold fv
  simp[h1,wv,Rat.mkRat_one,sg]
  rfl
 rw[hfv]at cn
 have u1:u32s [1]=[[u32 1]]:=rfl
 obtain⟨op,xi,n⟩:=x
 dsimp only at *
 subst ho
 dsimp only[efz,celF]at cn
 rw[u1]at cn
 have hsW:=zav W p
 have hsS:=zav S p
 have htkW:(natR W).take W.length=natR W:=List.take_of_length_le (by rw[zam];exact Nat.le_refl _)
 have htkS:(natR S).take S.length=natR S:=List.take_of_length_le (by rw[zam];exact Nat.le_refl _)
 have h32:W.length+1≤4294967296:=by omega
 have h33:S.length+1≤4294967296:=by omega
 have hn32:n.length≤4294967296:=by omega
 have hw:IntKind.wrap .i64 (S.length:Int)=(S.length:Int):=zab _ (by omega)
 generalize fz ((val n:Nat):Rat)=q at *
 obtain⟨q0,q1,q2⟩:=q
 unfold stR25 rmL
 unfold rmH at *
 rcases hgc with rfl | rfl<;>rcases hgw with rfl | rfl<;>rcases hg1 with rfl | rfl
 all_goals simp -implicitDefEqProofs[l653_0,hlt,hlt',hx,hge,hws,car,cn,hc,hsW,hsS,htkW,htkS,h32,h33,hn32,hw,genAt]
set_option maxHeartbeats 2000000 in
theorem zfn(gc gw g1:Nat)(C C1:List Ins)(W L S:List Nat)(c:List Nd)(i p:Nat)(x:Nd)(hgc:gc=1∨gc=6)(hgw:gw=2∨gw=7)(hg1:g1=1∨g1=5)(hx:c[i]? = some x)(ho:x.op=2∨x.op=3∨x.op=4)
  (hcl:c.length≤100000) (hWl:W.length≤100000) (hSl:S.length≤100000) (hn:x.n.length≤1000)
  (hc:callH T 654 [rmP,.agg (celI ⟨x.op,x.i,0,blk⟩)] (rmH 1 2 C W)=some (.i .i64 (p:Int),rmH g1 2 C1 W)) :
  evX (orc T) T 4 l653_0 (stR25 gc gw C W L S c i)=some (.n,stR25 (if g1=1 then gc else 6) 7 C1 (W++[p]) L (S++[p]) c (i+1)):=by
 have car:=zbz (T:=T) x.op
 have har:arN x.op=0:=by rcases ho with h | h | h<;>rw[h]<;>decide
 rw[har]at car
 obtain⟨hlt,hge⟩:=List.getElem?_eq_some_iff.1 hx
 have hlt':(i:Int)<c.length:=by omega
 have hws:=zbg hlt (by omega)
 rw[zey]at hc
 obtain⟨op,xi,n⟩:=x
 dsimp only at *
 have hsW:=zav W p
 have hsS:=zav S p
 have htkW:(natR W).take W.length=natR W:=List.take_of_length_le (by rw[zam];exact Nat.le_refl _)
 have htkS:(natR S).take S.length=natR S:=List.take_of_length_le (by rw[zam];exact Nat.le_refl _)
 have h32:W.length+1≤4294967296:=by omega
 have h33:S.length+1≤4294967296:=by omega
 have hn32:n.length≤4294967296:=by omega
 have hw:IntKind.wrap .i64 (S.length:Int)=(S.length:Int):=zab _ (by omega)
 unfold stR25 rmL
 unfold rmH at *
 rcases ho with rfl | rfl | rfl<;>rcases hgc with rfl | rfl<;>rcases hgw with rfl | rfl<;>rcases hg1 with rfl | rfl
 all_goals simp -implicitDefEqProofs[l653_0,hlt,hlt',hx,hge,hws,car,hc,hsW,hsS,htkW,htkS,h32,h33,hn32,hw,genAt]
end
section
variable{T:Tbl}[CRef17 T][CRef02 T][CRef04 T][CRef05 T][CRef07 T][CRef06 T][CRef08 T][CRef09 T][CRef25 T]
set_option maxHeartbeats 2000000 in
theorem zhx(gc gw g1:Nat)(C C1:List Ins)(W L S:List Nat)(c:List Nd)(i p a:Nat)(x:Nd)(hgc:gc=1∨gc=6)(hgw:gw=2∨gw=7)(hg1:g1=1∨g1=5)(hx:c[i]? = some x)(ho:x.op=6∨x.op=11)(hS:S[S.length-1]? = some a)
  (hcl:c.length≤100000) (hWl:W.length≤100000) (hSl:S.length≤100000) (hn:x.n.length≤1000)
  (hc:callH T 654 [rmP,.agg (celI ⟨x.op,(a:Int),x.i,blk⟩)] (rmH 1 2 C W)=some (.i .i64 (p:Int),rmH g1 2 C1 W)) :
  evX (orc T) T 4 l653_0 (stR25 gc gw C W L S c i)=some (.n,stR25 (if g1=1 then gc else 6) 7 C1 (W++[p]) L (S.take (S.length-1)++[p]) c (i+1)):=by
 have car:=zbz (T:=T) x.op
 have har:arN x.op=1:=by rcases ho with h | h<;>rw[h]<;>decide
 rw[har]at car
 obtain⟨hlt,hge⟩:=List.getElem?_eq_some_iff.1 hx
 have hlt':(i:Int)<c.length:=by omega
 have hws:=zbg hlt (by omega)
 obtain⟨s1,s2⟩:=List.getElem?_eq_some_iff.1 hS
 rw[zey]at hc
 obtain⟨op,xi,n⟩:=x
 dsimp only at *
 have hsW:=zav W p
 have hsS:=zav (S.take (S.length-1)) p
 have hsl:(S.take (S.length-1)).length=S.length-1:=by rw[List.length_take];omega
 have htk:(natR S).take (S.length-1)=natR (S.take (S.length-1)):=by unfold natR;rw[List.map_take]
 have htkW:(natR W).take W.length=natR W:=List.take_of_length_le (by rw[zam];exact Nat.le_refl _)
 have h32:W.length+1≤4294967296:=by omega
 have h33:S.length-1+1≤4294967296:=by omega
 have hn32:n.length≤4294967296:=by omega
 have hw:IntKind.wrap .i64 ((S.length:Int)-1)=((S.length-1:Nat):Int):=by rw[zab _ (by omega)];omega
 have hle:((S.length-1:Nat):Int)≤S.length:=by omega
 have hlt2:((S.length-1:Nat):Int)<S.length:=by omega
 have hlS:S.length-1≤S.length:=Nat.sub_le _ _
 unfold stR25 rmL
 unfold rmH at *
 generalize hS1:S.take (S.length-1)=S1 at *
 generalize hm:S.length-1=m at *
 rcases ho with rfl | rfl<;>rcases hgc with rfl | rfl<;>rcases hgw with rfl | rfl<;>rcases hg1 with rfl | rfl
 all_goals simp -implicitDefEqProofs[l653_0,hlt,hlt',hx,hge,hws,car,hc,s1,s2,hS,hsW,hsS,hsl,htk,htkW,h32,h33,hn32,hw,hle,hlt2,hlS,genAt]
set_option maxHeartbeats 2000000 in
theorem zha(gc gw g1:Nat)(C C1:List Ins)(W L S:List Nat)(c:List Nd)(i p a b:Nat)(x:Nd)(hgc:gc=1∨gc=6)(hgw:gw=2∨gw=7)(hg1:g1=1∨g1=5)(hx:c[i]? = some x)(ho:7≤x.op∧x.op≤10)(h2S:2≤S.length)(hS:S[S.length-1]? = some b)(hS2:S[S.length-2]? = some a)
  (hcl:c.length≤100000) (hWl:W.length≤100000) (hSl:S.length≤100000) (hn:x.n.length≤1000)
  (hc:callH T 654 [rmP,.agg (celI ⟨x.op,(a:Int),(b:Int),blk⟩)] (rmH 1 2 C W)=some (.i .i64 (p:Int),rmH g1 2 C1 W)) :
  evX (orc T) T 4 l653_0 (stR25 gc gw C W L S c i)=some (.n,stR25 (if g1=1 then gc else 6) 7 C1 (W++[p]) L (S.take (S.length-2)++[p]) c (i+1)):=by
 have car:=zbz (T:=T) x.op
 have har:arN x.op=2:=by
  rcases za4 x.op with ⟨e,h⟩ | ⟨e,h⟩ | ⟨e,h⟩ | ⟨e,h⟩<;>omega
 rw[har]at car
 obtain⟨hlt,hge⟩:=List.getElem?_eq_some_iff.1 hx
 have hlt':(i:Int)<c.length:=by omega
 have hws:=zbg hlt (by omega)
 obtain⟨s1,s2⟩:=List.getElem?_eq_some_iff.1 hS
 obtain⟨s3,s4⟩:=List.getElem?_eq_some_iff.1 hS2
 rw[zey]at hc
 obtain⟨op,xi,n⟩:=x
 dsimp only at *
 have hsW:=zav W p
 have hsS:=zav (S.take (S.length-2)) p
 have hsl:(S.take (S.length-2)).length=S.length-2:=by rw[List.length_take];omega
 have htk:(natR S).take (S.length-2)=natR (S.take (S.length-2)):=by unfold natR;rw[List.map_take]
 have htkW:(natR W).take W.length=natR W:=List.take_of_length_le (by rw[zam];exact Nat.le_refl _)
 have h32:W.length+1≤4294967296:=by omega
 have h33:S.length-2+1≤4294967296:=by omega
 have hn32:n.length≤4294967296:=by omega
 have hw:IntKind.wrap .i64 ((S.length:Int)-2)=((S.length-2:Nat):Int):=by rw[zab _ (by omega)];omega
 have hm1:S.length-2+1=S.length-1:=by omega
 have hw2:IntKind.wrap .i64 (((S.length-2:Nat):Int)+1)=((S.length-1:Nat):Int):=by rw[zab _ (by omega)];omega
 have hle:((S.length-2:Nat):Int)≤S.length:=by omega
 have hlt2:((S.length-2:Nat):Int)<S.length:=by omega
 have hlt3:((S.length-1:Nat):Int)<S.length:=by omega
 have hlS:S.length-2≤S.length:=Nat.sub_le _ _
 obtain⟨o7,o10⟩:=ho
 have n1:¬ op=1:=by omega
 have n2:¬ op=2:=by omega
 have n3:¬ op=3:=by omega
 have n4:¬ op=4:=by omega
 have n5:¬ op=5:=by omega
 have n6:¬ op=6:=by omega
 have n11:¬ op=11:=by omega
 unfold stR25 rmL
 unfold rmH at *
 generalize hS1:S.take (S.length-2)=S1 at *
 generalize hm:S.length-2=m at *
 generalize hm':S.length-1=m' at *
 rcases hgc with rfl | rfl<;>rcases hgw with rfl | rfl<;>rcases hg1 with rfl | rfl
 all_goals simp -implicitDefEqProofs[l653_0,hlt,hlt',hx,hge,hws,car,hc,s1,s2,s3,s4,hS,hS2,hsW,hsS,hsl,htk,htkW,h32,h33,hn32,hw,hw2,hle,hlt2,hlt3,hlS,o7,o10,n1,n2,n3,n4,n5,n6,n11,genAt]
end
theorem zhb(x:Nd)(hn:x.n.length≤1000):fsz (leafI x).n≤2000:=by
 unfold leafI
 split
 ·have h1:=zxd x.n
  have h2:(fz ((val x.n:Nat):Rat)).2.2=[1]:=by
   unfold fz
   simp
   decide +kernel
  show fsz (fz ((val x.n:Nat):Rat))≤2000
  unfold fsz
  rw[h2]
  simp only[List.length_cons,List.length_nil]
  omega
 ·split
  all_goals
   show fsz blk≤2000
   decide
theorem zjv{Pr:Ins→Prop}{C:List Ins}{x:Ins}(hC:∀y∈C,Pr y)(hx:Pr x):∀y∈(putI C x).1,Pr y:=by
 unfold putI
 split
 ·exact hC
 ·intro y hy
  rcases List.mem_append.1 hy with h | h
  ·exact hC y h
  ·rw[List.mem_singleton]at h
   rw[h];exact hx
theorem zzs{Pr:Ins→Prop}{Ls:List Nat}{C:List Ins}{s:List Nat}{x:Nd}(hC:∀y∈C,Pr y)(hl:Pr (leafI x))(hb:∀op a b,Pr ⟨op,a,b,blk⟩):∀y∈(ndI Ls C s x).1,Pr y:=by
 unfold ndI
 split
 ·exact hC
 ·split
  ·exact zjv hC hl
  ·split
   ·exact zjv hC (hb _ _ _)
   ·exact zjv hC (hb _ _ _)
theorem znp{Pr:Ins→Prop}(Ls:List Nat)(hb:∀op a b,Pr ⟨op,a,b,blk⟩):∀(c:List Nd) (q:Mq),(∀y∈q.C,Pr y)→(∀x∈c,Pr (leafI x))→∀y∈(c.foldl (stepQ' Ls) q).C,Pr y
 | [],q,h,_=>h
 | x::c,q,h,hl=>znp Ls hb c (stepQ' Ls q x) (zzs h (hl x List.mem_cons_self) hb) fun y hy=>hl y (List.mem_cons_of_mem _ hy)
theorem zjw(op a b:Int):fsz (⟨op,a,b,blk⟩:Ins).n≤2000:=by
 show fsz blk≤2000
 decide
section
variable{T:Tbl}[CRef17 T][CRef02 T][CRef04 T][CRef05 T][CRef07 T][CRef06 T][CRef08 T][CRef09 T][CRef25 T]
theorem znq(dim pars:Int)(gc gw:Nat)(C:List Ins)(W L S:List Nat)(c:List Nd)(i:Nat)(x:Nd)(hgc:gc=1∨gc=6)(hgw:gw=2∨gw=7)(hx:c[i]? = some x)(hok:okN dim pars L.length x=true)(har:0≤arN x.op∧arN x.op≤S.length)
  (hC:∀y∈C,MkI y) (hb:∀y∈C,fsz y.n≤2000) (hCl:C.length≤100000) (hcl:c.length≤100000) (hWl:W.length≤100000) (hSl:S.length≤100000) (hn:x.n.length≤1000) :
  ∃gc',(gc'=1∨gc'=6)∧evX (orc T) T 4 l653_0 (stR25 gc gw C W L S c i)=some (.n,stR25 gc' 7 (ndI L C S x).1 (W++[(ndI L C S x).2]) L (S.take (S.length-(arN x.op).toNat)++[(ndI L C S x).2]) c (i+1)):=by
 have g6:∀g1,(g1=1∨g1=5)→((if g1=1 then gc else 6)=1∨(if g1=1 then gc else 6)=6):=by
  rintro g1 (rfl | rfl)
  ·exact hgc
  ·exact .inr rfl
 have put:=fun(y:Ins) (hy:MkI y) (hf:fsz y.n≤2000)=>zub (T:=T) C W y hC hy (by omega) (fun z hz=>by have:=hb z hz;omega) hCl
 unfold ndI
 by_cases ho:x.op=5
 ·obtain⟨h0,h1⟩:=zfg hok ho
  rw[if_pos ho,ho,show (arN 5).toNat=0 by decide,Nat.sub_zero,List.take_length]
  exact⟨gc,hgc,zg9 gc gw C W L S c i x hgc hgw hx ho h0 h1 hcl hWl hSl hn⟩
 rw[if_neg ho]
 rcases za4 x.op with ⟨e,h⟩ | ⟨e,h⟩ | ⟨e,h⟩ | ⟨e,h⟩
 ·rw[if_pos e,e,show (0:Int).toNat=0 from rfl,Nat.sub_zero,List.take_length]
  obtain⟨g1,hg1,hc⟩:=put (leafI x) (zj0 x) (zhb x hn)
  refine⟨_,g6 g1 hg1,?_⟩
  by_cases h1:x.op=1
  ·have hl:leafI x=⟨1,0,0,fz ((val x.n:Nat):Rat)⟩:=if_pos h1
   rw[hl]at hc ⊢
   exact zfb gc gw g1 C _ W L S c i _ x hgc hgw hg1 hx h1 hcl hWl hSl hn hc
  ·have hl:leafI x=⟨x.op,x.i,0,blk⟩:=by
    unfold leafI
    rw[if_neg h1]
    by_cases h2:x.op=2
    ·rw[if_pos h2]
     have hi:x.i=0:=by
      unfold okN at hok
      rw[h2,if_neg (by decide)]at hok
      split at hok
      ·cases hok
      ·simpa using hok
     rw[h2,hi]
    ·rw[if_neg h2]
   rw[hl]at hc ⊢
   exact zfn gc gw g1 C _ W L S c i _ x hgc hgw hg1 hx (by omega) hcl hWl hSl hn hc
 ·rw[if_neg (by omega),if_pos e,e,show (1:Int).toNat=1 from rfl]
  obtain⟨a,ha⟩:∃a,S[S.length-1]? = some a:=⟨_,List.getElem?_eq_getElem (by omega)⟩
  rw[ha,Option.getD_some]
  obtain⟨g1,hg1,hc⟩:=put ⟨x.op,(a:Int),x.i,blk⟩ ⟨fun h1=>absurd e (by rw[show x.op=1 from h1];decide),fun _=>rfl⟩ (zjw _ _ _)
  exact⟨_,g6 g1 hg1,zhx gc gw g1 C _ W L S c i _ a x hgc hgw hg1 hx h ha hcl hWl hSl hn hc⟩
 ·rw[if_neg (by omega),if_neg (by omega),e,show (2:Int).toNat=2 from rfl]
  obtain⟨b,hb'⟩:∃b,S[S.length-1]? = some b:=⟨_,List.getElem?_eq_getElem (by omega)⟩
  obtain⟨a,ha⟩:∃a,S[S.length-2]? = some a:=⟨_,List.getElem?_eq_getElem (by omega)⟩
  rw[ha,hb',Option.getD_some,Option.getD_some]
  obtain⟨g1,hg1,hc⟩:=put ⟨x.op,(a:Int),(b:Int),blk⟩ ⟨fun h1=>absurd e (by rw[show x.op=1 from h1];decide),fun _=>rfl⟩ (zjw _ _ _)
  exact⟨_,g6 g1 hg1,zha gc gw g1 C _ W L S c i _ a b x hgc hgw hg1 hx h (by omega) hb' ha hcl hWl hSl hn hc⟩
 ·omega
theorem zqt(dim pars:Int)(C:List Ins)(W L:List Nat)(c:List Nd)(hC:∀y∈C,MkI y)(hb:∀y∈C,fsz y.n≤2000)(hw:wrongN c=-1)(hok:∀x∈c,okN dim pars L.length x=true)(hn:thin 1000 c)(hc:c.length≤50000)(hCl:C.length≤50000)(hWl:W.length≤50000) :
  ∃gc,(gc=1∨gc=6)∧callH T 653 [rmP,.sl (rowN c) .an,.bs (.bor 3) 3 1 0 L.length] (rmL 1 2 C W L)=some (.i .i64 ((((exQ L C W c).s[0]?).getD 0:Nat):Int),rmL gc 7 (exQ L C W c).C (exQ L C W c).W L):=by
 have hne:0<c.length:=by
  cases c with
  | nil=>exact absurd hw (by decide)
  | cons x r=>simp
 have hloop:∃r,((exQ L C W c).s.length=1∧∃gc,(gc=1∨gc=6)∧r=((.n,⟨[(7,.bs (.loc 7) 9 1 0 (exQ L C W c).s.length)],rmL gc 7 (exQ L C W c).C (exQ L C W c).W L++[(.loc 7,⟨9,.own,1,natR (exQ L C W c).s⟩)],11⟩):Ex×St)) ∧
   loopN T 4 0 (.norm false [7]) l653_0 (stR25 1 2 C W L [] c 0)=some r:=by
  refine zas (fun q:Nat×Nat×Nat=>stR25 q.2.1 q.2.2 (exQ L C W (c.take q.1)).C (exQ L C W (c.take q.1)).W L (exQ L C W (c.take q.1)).s c q.1)
   (fun q=>q.1≤c.length∧(q.2.1=1∨q.2.1=6)∧(q.2.2=2∨q.2.2=7)∧(0<q.1→q.2.2=7)∧(exQ L C W (c.take q.1)).s.length≤q.1∧(exQ L C W (c.take q.1)).C.length≤C.length+q.1∧(exQ L C W (c.take q.1)).W.length=W.length+q.1∧∃j,wrongL j (exQ L C W (c.take q.1)).s.length (c.drop q.1)=-1)
   (fun q=>c.length-q.1) _ ?_ (0,1,2) ⟨Nat.zero_le _,.inl rfl,.inl rfl,fun h=>absurd h (by decide),Nat.le_refl _,Nat.le_refl _,rfl,0,hw⟩
  rintro⟨i,gc,gw⟩ ⟨hi,hgc,hgw,hg0,hs,hCi,hWi,j,hwr⟩
  dsimp only at *
  have hmk:∀y∈(exQ L C W (c.take i)).C,MkI y:=zl4 L (c.take i) ⟨C,W,[]⟩ hC
  have hbk:∀y∈(exQ L C W (c.take i)).C,fsz y.n≤2000:=znp (Pr:=fun y=>fsz y.n≤2000) L zjw (c.take i) ⟨C,W,[]⟩ hb fun x hx=>zhb x (hn x (List.mem_of_mem_take hx))
  by_cases hil:i<c.length
  ·left
   obtain⟨x,hx,hmem⟩:∃x,c[i]? = some x∧x∈c:=⟨c[i]'hil,List.getElem?_eq_getElem hil,List.getElem_mem hil⟩
   obtain⟨_,hge⟩:=List.getElem?_eq_some_iff.1 hx
   have hd:c.drop i=x::c.drop (i+1):=by rw[List.drop_eq_getElem_cons hil,hge]
   have htk:=zox L C W c i x hx
   rw[hd]at hwr
   generalize exQ L C W (c.take i)=q at *
   obtain⟨Cq,Wq,Sq⟩:=q
   dsimp only at *
   have h1:¬ (arN x.op<0∨(Sq.length:Int)<arN x.op):=by
    intro hh
    unfold wrongL at hwr
    rw[if_pos hh]at hwr
    omega
   have hw2:wrongL (j+1) (Sq.length+1-arN x.op) (c.drop (i+1))=-1:=by
    unfold wrongL at hwr
    rwa [if_neg h1]at hwr
   obtain⟨gc',hgc',e⟩:=znq (T:=T) dim pars gc gw Cq Wq L Sq c i x hgc hgw hx (hok x hmem) (by omega) hmk hbk (by omega) (by omega) (by omega) (by omega) (hn x hmem)
   have hst:stepQ' L ⟨Cq,Wq,Sq⟩ x=⟨(ndI L Cq Sq x).1,Wq++[(ndI L Cq Sq x).2],Sq.take (Sq.length-(arN x.op).toNat)++[(ndI L Cq Sq x).2]⟩:=rfl
   have hnl:=zna L Cq Sq x
   have hsl:(Sq.take (Sq.length-(arN x.op).toNat)++[(ndI L Cq Sq x).2]).length=Sq.length-(arN x.op).toNat+1:=by rw[List.length_append,List.length_take,List.length_singleton];omega
   rw[hst]at htk
   refine⟨(i+1,gc',7),?_,by dsimp only;omega,?_⟩
   ·dsimp only
    rw[htk]
    dsimp only
    refine⟨by omega,hgc',.inr rfl,fun _=>rfl,by omega,by omega,by rw[List.length_append,List.length_singleton];omega,j+1,?_⟩
    rw[hsl,←hw2]
    congr 1
    omega
   ·dsimp only
    rw[htk]
    exact e
  ·right
   have hic:i=c.length:=by omega
   subst hic
   rw[List.take_length]at *
   rw[List.drop_length]at hwr
   have h7:=hg0 hne
   have hs1:(exQ L C W c).s.length=1:=by
    unfold wrongL at hwr
    split at hwr
    ·omega
    ·omega
   refine⟨_,⟨hs1,gc,hgc,rfl⟩,?_⟩
   subst h7
   generalize exQ L C W c=q at *
   obtain⟨Cq,Wq,Sq⟩:=q
   dsimp only at *
   unfold stR25 rmL rmH
   rcases hgc with rfl | rfl
   ·constructor<;>simp -implicitDefEqProofs[l653_0,genAt]
   ·constructor<;>simp -implicitDefEqProofs[l653_0,genAt]
 obtain⟨r,⟨hs1,gc,hgc,rfl⟩,hr⟩:=hloop
 refine⟨gc,hgc,?_⟩
 generalize exQ L C W c=q at *
 obtain⟨Cq,Wq,Sq⟩:=q
 dsimp only at *
 obtain⟨v,rfl⟩:=List.length_eq_one_iff.1 hs1
 unfold stR25 rmL rmH at hr
 unfold rmL rmH
 rw[f653 _ _ rfl,b653]
 simp -implicitDefEqProofs at hr
 have hnv:natR [v]=[[.i .i64 (v:Int)]]:=rfl
 rw[hnv]at hr
 rcases hgc with rfl | rfl
 ·simp -implicitDefEqProofs[hr,genAt]
 ·simp -implicitDefEqProofs[hr,genAt]
end
abbrev mdBx(g:Nat)(C:List Ins)(W:List Nat):Heap:=
 [(.loc 6,⟨g,.str,2,[[.bs (.fld (.loc 6) 0) (g+1) 6 0 C.length,.bs (.fld (.loc 6) 1) (g+2) 1 0 W.length]]⟩),(.fld (.loc 6) 0,⟨g+1,.own,6,rowI C⟩),(.fld (.loc 6) 1,⟨g+2,.own,1,natR W⟩)]
abbrev bxF2(f:Fd):BId×Box:=(.loc 2,⟨1,.str,2,[[.sl (rowLt f.lets) .an,.sl (rowC f.outs) .an]]⟩)
def stG1'(f:Fd)(pars:Int)(C:List Ins)(W L:List Nat)(i:Nat):St:=
 ⟨[(1,.i .i64 pars),(2,.ptr (.loc 2) 1 2 0 0),(4,.ptr (.loc 4) 2 4 0 0),(6,.ptr (.loc 6) 3 2 0 0),(7,.bs (.loc 7) 6 1 0 L.length),(8,.i .i64 (i:Int))],
  [bxF2 f,bx4 2]++mdBx 3 C W++[(.loc 7,⟨6,.own,1,natR L⟩)],8⟩
def stG2'(f:Fd)(pars:Int)(C:List Ins)(W L Q:List Nat)(i:Nat):St:=
 ⟨[(2,.ptr (.loc 2) 1 2 0 0),(4,.ptr (.loc 4) 2 4 0 0),(6,.ptr (.loc 6) 3 2 0 0),(7,.bs (.loc 7) 6 1 0 L.length),(9,.ptr (.loc 9) 7 4 0 0),(10,.i .i64 (i:Int))],
  [bxF2 f,bx4 2]++mdBx 3 C W++[(.loc 7,⟨6,.own,1,natR L⟩),(.loc 9,⟨7,.str,4,[[.sl [] .an,.bs (.fld (.loc 9) 1) 8 1 0 Q.length,.i .i64 (f.outs.length:Int),.i .i64 pars]]⟩),(.fld (.loc 9) 1,⟨8,.own,1,natR Q⟩)],10⟩
section
variable{T:Tbl}[CRef25 T]
theorem zfo(f:Fd)(pars:Int)(C C1:List Ins)(W W1 L Q:List Nat)(i p gc:Nat)(x:List Nd)(hgc:gc=1∨gc=6)(hx:f.outs[i]? = some x)(hl:f.outs.length≤100000)(hQ:Q.length≤100000)
  (c:callH T 653 [rmP,.sl (rowN x) .an,.bs (.bor 3) 3 1 0 L.length] (rmL 1 2 C W L)=some (.i .i64 (p:Int),rmL gc 7 C1 W1 L)) :
  evX (orc T) T 0 l652_1 (stG2' f pars C W L Q i)=some (.n,stG2' f pars C1 W1 L (Q++[p]) (i+1)):=by
 obtain⟨hlt,hge⟩:=List.getElem?_eq_some_iff.1 hx
 have hlt':(i:Int)<f.outs.length:=by omega
 have hws:=zbg hlt (by omega)
 have hsQ:=zav Q p
 have htkQ:(natR Q).take Q.length=natR Q:=List.take_of_length_le (by rw[zam];exact Nat.le_refl _)
 have h32:Q.length+1≤4294967296:=by omega
 obtain⟨Ls,O⟩:=f
 dsimp only at *
 unfold stG2'
 unfold rmL rmH at c
 simp only[List.cons_append,List.nil_append]at c
 rcases hgc with rfl | rfl
 ·simp -implicitDefEqProofs[l652_1,hlt,hlt',hx,hge,hws,c,hsQ,htkQ,h32,genAt]
 ·simp -implicitDefEqProofs[l652_1,hlt,hlt',hx,hge,hws,c,hsQ,htkQ,h32,genAt]
end
theorem zuc(q:Fq)(O:List (List Nd))(hq:∀y∈q.C,fsz y.n≤2000)(h:∀c∈O,thin 1000 c):∀y∈(ousQ q O).C,fsz y.n≤2000:=by
 induction O using zff with
 | nil=>exact hq
 | append_singleton O c ih=>
  rw[zc2]
  exact znp (Pr:=fun y=>fsz y.n≤2000) _ zjw c ⟨_,_,[]⟩ (ih fun d hd=>h d (List.mem_append_left _ hd)) fun x hx=>zhb x (h c (by simp) x hx)
section
variable{T:Tbl}[CRef17 T][CRef02 T][CRef04 T][CRef05 T][CRef07 T][CRef06 T][CRef08 T][CRef09 T][CRef25 T]
theorem znr(O:List (List Nd))(pars:Int) :
  loopN T 0 0 (.norm false [1,2,4,6,7]) l652_0 (stG1' ⟨[],O⟩ pars [] [] [] 0) =
   some (.n,⟨[(1,.i .i64 pars),(2,.ptr (.loc 2) 1 2 0 0),(4,.ptr (.loc 4) 2 4 0 0),(6,.ptr (.loc 6) 3 2 0 0),(7,.bs (.loc 7) 6 1 0 0)],
    [bxF2 ⟨[],O⟩,bx4 2]++mdBx 3 [] []++[(.loc 7,⟨6,.own,1,natR []⟩)],8⟩):=by
 refine zaq (T:=T) (k:=0) (id:=0) (g2:=.norm false [1,2,4,6,7]) (c:=l652_0) (fun i=>stG1' ⟨[],O⟩ pars [] [] [] i) 0 _ (fun i hi=>by omega) ?_
 unfold stG1'
 constructor<;>simp -implicitDefEqProofs[l652_0]
theorem zns(O:List (List Nd))(dim pars:Int)(hO:O.length≤100)(hsum:(O.map List.length).sum≤1000)(hP:∀c∈O,placeN dim pars 0 c<0)(hn:∀c∈O,thin 1000 c) :
  loopN T 0 2 (.norm false [4,6,9]) l652_1 (stG2' ⟨[],O⟩ pars [] [] [] [] 0) =
   some (.n,⟨[(4,.ptr (.loc 4) 1 4 0 0),(6,.ptr (.loc 6) 2 2 0 0),(9,.ptr (.loc 9) 5 4 0 0)],
    [bx4 1]++mdBx 2 (fldQ ⟨[],O⟩).C (fldQ ⟨[],O⟩).W++[(.loc 9,⟨5,.str,4,[[.sl [] .an,.bs (.fld (.loc 9) 1) 6 1 0 (fldQ ⟨[],O⟩).P.length,.i .i64 (O.length:Int),.i .i64 pars]]⟩),(.fld (.loc 9) 1,⟨6,.own,1,natR (fldQ ⟨[],O⟩).P⟩)],8⟩):=by
 have hfq:fldQ ⟨[],O⟩=ousQ ⟨[],[],[]⟩ O:=rfl
 rw[hfq]
 refine zaq (T:=T) (k:=0) (id:=2) (g2:=.norm false [4,6,9]) (c:=l652_1) (fun i=>stG2' ⟨[],O⟩ pars (ousQ ⟨[],[],[]⟩ (O.take i)).C (ousQ ⟨[],[],[]⟩ (O.take i)).W [] (ousQ ⟨[],[],[]⟩ (O.take i)).P i) O.length _ (fun i hi=>?_) ?_
 ·obtain⟨x,hx,hmem⟩:∃x,O[i]? = some x∧x∈O:=⟨O[i]'hi,List.getElem?_eq_getElem hi,List.getElem_mem hi⟩
  have htk:ousQ ⟨[],[],[]⟩ (O.take (i+1))=ouQ [] (ousQ ⟨[],[],[]⟩ (O.take i)) x:=by rw[List.take_add_one,hx,Option.toList_some,zc2]
  obtain⟨h1,h2,h3⟩:=zjo ⟨[],[],[]⟩ (O.take i)
  have hs:=zec O i
  have hmk:=ztg ⟨[],[],[]⟩ (O.take i) (fun y hy=>by cases hy)
  have hfs:=zuc ⟨[],[],[]⟩ (O.take i) (fun y hy=>by cases hy) fun c hc=>hn c (List.mem_of_mem_take hc)
  have hil:(O.take i).length=i:=by rw[List.length_take];omega
  obtain⟨t,ht,hte,hok⟩:=zb1 (hP x hmem)
  have hwr:wrongN x=-1:=by rw[←hte];exact zdh ht
  have hcl:x.length≤1000:=Nat.le_trans (ziy (List.mem_map.2 ⟨x,hmem,rfl⟩)) hsum
  have hth:=hn x hmem
  rw[htk]
  generalize ousQ ⟨[],[],[]⟩ (O.take i)=q at *
  obtain⟨Cq,Wq,Pq⟩:=q
  simp only[List.length_nil]at h2 h3
  dsimp only at *
  obtain⟨gc,hgc,hc⟩:=zqt (T:=T) dim pars Cq Wq [] x hmk hfs hwr hok hth (by omega) (by omega) (by omega)
  exact zfo ⟨[],O⟩ pars Cq _ Wq _ [] Pq i _ gc x hgc hx (by dsimp only;omega) (by omega) hc
 ·rw[List.take_length]
  unfold stG2'
  generalize ousQ ⟨[],[],[]⟩ O=q
  obtain⟨Cq,Wq,Pq⟩:=q
  constructor<;>simp -implicitDefEqProofs[l652_1]
theorem zlx(O:List (List Nd))(dim pars:Int)(hO:O.length≤100)(hsum:(O.map List.length).sum≤1000)(hP:∀c∈O,placeN dim pars 0 c<0)(hn:∀c∈O,thin 1000 c) :
  callF T 652 [efd ⟨[],O⟩,.i .i64 pars]=some (.tup [etp (tapQ ⟨[],O⟩ pars),.sl (natR (fldQ ⟨[],O⟩).W) .an]):=by
 have l1:=znr (T:=T) O pars
 have l2:=zns (T:=T) O dim pars hO hsum hP hn
 unfold tapQ
 unfold stG1' at l1
 unfold stG2' at l2
 dsimp only[etp]
 rw[zoy]
 have htW:(natR (fldQ ⟨[],O⟩).W).take (fldQ ⟨[],O⟩).W.length=natR (fldQ ⟨[],O⟩).W:=List.take_of_length_le (by rw[zam];exact Nat.le_refl _)
 have htP:(natR (fldQ ⟨[],O⟩).P).take (fldQ ⟨[],O⟩).P.length=natR (fldQ ⟨[],O⟩).P:=List.take_of_length_le (by rw[zam];exact Nat.le_refl _)
 have htC:(rowI (fldQ ⟨[],O⟩).C).take (fldQ ⟨[],O⟩).C.length=rowI (fldQ ⟨[],O⟩).C:=List.take_of_length_le (by rw[zde];exact Nat.le_refl _)
 generalize fldQ ⟨[],O⟩=q1 at *
 obtain⟨C1,W1,P1⟩:=q1
 dsimp only at *
 clear hn hP hsum
 simp only[mdBx,bxF2,bx4,Nat.reduceAdd,List.cons_append,List.nil_append,zo0,List.length_nil,show rowI []=[] from rfl]at l1 l2
 rw[show (((0:Nat):Int))=0 from rfl]at l1 l2
 simp -implicitDefEqProofs at l1 l2
 rw[f652 _ rfl,b652]
 simp -implicitDefEqProofs[l1,l2,htW,htP,htC,genAt]
end
class CLaw24 (T:Tbl):Prop where
class CLaw11b (T:Tbl):Prop where
end Go.Ab
section
namespace Go.Ab
end Go.Ab
end
namespace Go.Ab
def longT(t:Tp)(many words:Nat):Bool:=((t.code.take many).any fun i=>decide (words<fsz i.n)) || decide (many<t.code.length) || decide (many<t.outs.length)
def longP(x:PoF)(many words:Nat):Bool:=decide (words<fsz x.t) || longB x.y many words || longB x.p many words
section
variable{T:Tbl}[CRef02 T][CRef04 T][CRef05 T][CRef07 T][CRef06 T][CRef08 T][CRef09 T][CRef11 T][CLaw09 T][CLaw11 T][CLaw24 T]
def stLT(t:Tp)(many words i:Nat):St:=⟨[(1,.i .i64 many),(2,.i .i64 words),(3,.ptr (.loc 3) 1 4 0 0),(7,.i .i64 i)],[(.loc 3,bxT t)],3⟩
def enLT(t:Tp)(many:Nat):Ex×St:=(.n,⟨[(1,.i .i64 many),(3,.ptr (.loc 3) 1 4 0 0)],[(.loc 3,bxT t)],3⟩)
@[simp] theorem zadc(l:List Int):Option.all (fun r=>decide (r.length=1)) (ints l).head? = true:=by cases l<;>rfl
def fC:BId:=.fld (.loc 3) 0
def stTT(t:Tp)(i:Nat):St:=⟨[(1,.ptr (.loc 1) 1 4 0 0),(2,.ptr (.loc 2) 2 4 0 0),(3,.ptr (.loc 3) 3 4 0 0),(4,.i .i64 i)],
 [(.loc 1,bxT t),(.loc 2,⟨2,.str,4,[[.sl [] .an,.sl [] .an,.i .i64 0,.i .i64 0]]⟩),(.loc 3,⟨3,.str,4,[[.bs fC 4 6 0 i,.bs (.loc 13) 5 1 0 t.outs.length,.i .i64 t.dim,.i .i64 t.par]]⟩),(fC,⟨4,.own,6,rowI (t.code.take i)⟩),(.loc 13,⟨5,.own,1,ints t.outs⟩)],7⟩
end
def bxGt(g:Nat)(t:Tp):Box:=⟨g,.str,4,[[.sl (rowI t.code) .an,.sl (ints t.outs) .an,.i .i64 t.dim,.i .i64 t.par]]⟩
def stS8a(t:Tp)(i:Nat):St:=⟨[(2,.ptr (.loc 2) 1 4 0 0),(3,.ptr (.loc 3) 2 4 0 0),(5,.i .i64 (i:Int))],[(.loc 2,bxGt 1 t),(.loc 3,bxGt 2 t)],4⟩
def stS8b(t:Tp)(i:Nat):St:=⟨[(2,.ptr (.loc 2) 1 4 0 0),(3,.ptr (.loc 3) 2 4 0 0),(6,.i .i64 (i:Int))],[(.loc 2,bxGt 1 t),(.loc 3,bxGt 2 t)],4⟩
section
variable{T:Tbl}[CRef02 T][CRef04 T][CRef05 T][CRef07 T][CRef06 T][CRef08 T][CRef09 T][CRef11 T][CLaw09 T][CLaw11 T][CTapeS T]
theorem zud(t:Tp)(i:Nat)(hi:i<t.code.length)(hl:t.code.length≤1000):evX (orc T) T 0 l679_0 (stTT t i)=some (.n,stTT t (i+1)):=by
 have hws:=zbg hi (by omega)
 have hb:i≤4294967295:=by omega
 have hg:t.code[i]? = some (t.code[i]'hi):=List.getElem?_eq_getElem hi
 have hn:=zvz (T:=T) (t.code[i]'hi).n
 have hi':(i:Int)<t.code.length:=by omega
 have hml:(t.code.take i).length=i:=by simp;omega
 have ht:List.take i (t.code.take i)=t.code.take i:=List.take_of_length_le (by omega)
 have e:=ztn t.code hi
 have hp:=zu0 hml (t.code[i]'hi)
 rw[ht]at hp
 unfold stTT bxT fC
 rw[e]
 clear e
 generalize t.code.take i=M at *
 simp -implicitDefEqProofs[l679_0,hi,hi',hws,hb,hg,hn,hml,ht,hp]
theorem zwj(t:Tp)(hl:t.code.length≤1000):loopN T 0 0 (.norm false [2,3]) l679_0 (stTT t 0) =
  some (.n,⟨[(2,.ptr (.loc 2) 1 4 0 0),(3,.ptr (.loc 3) 2 4 0 0)],[(.loc 2,⟨1,.str,4,[[.sl [] .an,.sl [] .an,.i .i64 0,.i .i64 0]]⟩),(.loc 3,⟨2,.str,4,[[.bs fC 3 6 0 t.code.length,.bs (.loc 13) 4 1 0 t.outs.length,.i .i64 t.dim,.i .i64 t.par]]⟩),(fC,⟨3,.own,6,rowI t.code⟩),(.loc 13,⟨4,.own,1,ints t.outs⟩)],6⟩):=by
 refine zaq (stTT t) t.code.length _ (fun i hi=>zud t i hi hl) ?_
 unfold stTT bxT fC
 rw[List.take_of_length_le (Nat.le_refl _)]
 constructor<;>simp -implicitDefEqProofs[l679_0]
theorem zwk(t:Tp)(hl:t.code.length≤1000)(ho:t.outs.length≤1000):callF T 679 [etp t]=some (etp t):=by
 have ht:List.take t.code.length t.code=t.code:=List.take_of_length_le (by omega)
 have hs:List.take t.outs.length t.outs=t.outs:=List.take_of_length_le (by omega)
 have h:=zwj (T:=T) t hl
 unfold stTT bxT fC at h
 simp only[Int.natCast_zero,List.take_zero,zd2]at h
 obtain⟨code,outs,dim,par⟩:=t
 dsimp only at *
 have ho2:outs.length≤4294967296:=by omega
 rw[f679 _ rfl,b679]
 simp -implicitDefEqProofs[ht,hs,ho2,h]
theorem zqu(t:Tp)(ho:t.outs.length≤1000):loopN T 0 0 (.norm false [2,3]) l678_0 (stS8a t 0) =
  some (.n,⟨[(2,.ptr (.loc 2) 1 4 0 0),(3,.ptr (.loc 3) 2 4 0 0)],[(.loc 2,bxGt 1 t),(.loc 3,bxGt 2 t)],4⟩):=by
 refine zaq (stS8a t) t.outs.length _ (fun i hi=>?_) ?_
 ·have hws:=zbg hi (by omega)
  obtain⟨v,hx⟩:∃v,t.outs[i]? = some v:=⟨_,List.getElem?_eq_getElem hi⟩
  obtain⟨_,hge⟩:=List.getElem?_eq_some_iff.1 hx
  have hi':(i:Int)<t.outs.length:=by omega
  unfold stS8a bxGt
  simp -implicitDefEqProofs[l678_0,hi,hi',hws,hx,hge]
 ·unfold stS8a bxGt
  constructor<;>simp -implicitDefEqProofs[l678_0]
theorem zqv(t:Tp)(ho:t.code.length≤1000)(hf:∀y∈t.code,fsz y.n≤2000):loopN T 0 2 (.norm false []) l678_1 (stS8b t 0)=some (.n,⟨[],[],2⟩):=by
 refine zaq (stS8b t) t.code.length _ (fun i hi=>?_) ?_
 ·have hws:=zbg hi (by omega)
  obtain⟨v,hx,hmem⟩:∃v,t.code[i]? = some v∧v∈t.code:=⟨_,List.getElem?_eq_getElem hi,List.getElem_mem hi⟩
  obtain⟨_,hge⟩:=List.getElem?_eq_some_iff.1 hx
  have hi':(i:Int)<t.code.length:=by omega
  have hv:=hf v hmem
  have c1:=zis (T:=T) v.n (by omega)
  have c2:=zit (T:=T) (fz (fv v.n)) (fz (fv v.n)) (by have:=zadl hv (by decide);rw[z46];omega)
  rw[decide_eq_true rfl]at c2
  generalize fz (fv v.n)=w at *
  obtain⟨w0,w1,w2⟩:=w
  obtain⟨op,a,b,n0,n1,n2⟩:=v
  unfold stS8b bxGt
  simp -implicitDefEqProofs[l678_1,hi,hi',hws,hx,hge,c1,c2]
 ·unfold stS8b bxGt
  constructor<;>simp -implicitDefEqProofs[l678_1]
theorem zhy(t:Tp)(ho:t.outs.length≤1000)(hl:t.code.length≤1000)(hf:∀y∈t.code,fsz y.n≤2000):callF T 678 [etp t,etp t]=some (.b true):=by
 have h1:=zqu (T:=T) t ho
 have h2:=zqv (T:=T) t hl hf
 unfold stS8a bxGt at h1
 unfold stS8b bxGt at h2
 obtain⟨code,outs,dim,par⟩:=t
 dsimp only at *
 clear hf
 simp only[show (((0:Nat):Int))=0 from rfl]at h1 h2
 rw[f678 _ rfl,b678]
 simp -implicitDefEqProofs[h1,h2]
theorem zqw:callF T 677 [etp ⟨[],[],0,0⟩,etp ⟨[],[],0,0⟩]=some (.b true):=by
 have h1:=zaq (T:=T) (k:=0) (id:=0) (g2:=.norm false [2,3]) (c:=l677_0) (fun i=>⟨[(2,.ptr (.loc 2) 1 4 0 0),(3,.ptr (.loc 3) 2 4 0 0),(40,.sl [] .an),(41,.i .i64 0),(42,.i .i64 (i:Int))],[(.loc 2,bxGt 1 ⟨[],[],0,0⟩),(.loc 3,bxGt 2 ⟨[],[],0,0⟩)],4⟩) 0
  (some (.n,⟨[(2,.ptr (.loc 2) 1 4 0 0),(3,.ptr (.loc 3) 2 4 0 0)],[(.loc 2,bxGt 1 ⟨[],[],0,0⟩),(.loc 3,bxGt 2 ⟨[],[],0,0⟩)],4⟩)) (fun i hi=>by omega)
  (by unfold bxGt;constructor<;>simp -implicitDefEqProofs[l677_0])
 have h2:=zaq (T:=T) (k:=0) (id:=2) (g2:=.norm false []) (c:=l677_1) (fun i=>⟨[(3,.ptr (.loc 3) 1 4 0 0),(56,.sl [] .an),(57,.i .i64 0),(58,.i .i64 (i:Int))],[(.loc 3,bxGt 1 ⟨[],[],0,0⟩)],3⟩) 0
  (some (.n,⟨[],[],2⟩)) (fun i hi=>by omega)
  (by unfold bxGt;constructor<;>simp -implicitDefEqProofs[l677_1])
 unfold bxGt at h1 h2
 simp only[show (((0:Nat):Int))=0 from rfl,zd2,show ints []=[] from rfl]at h1 h2
 dsimp only[etp]
 simp only[zd2,show ints []=[] from rfl]
 rw[f677 _ rfl,b677]
 simp -implicitDefEqProofs[h1,h2]
end
section
variable{T:Tbl}[CRef17 T]
def Tre.parts:Tre→List (List Nd)
 | .leaf _=>[]
 | .un _ a=>[a.flat]
 | .bin _ a b=>[a.flat,b.flat]
end
def lgN(l:List Nd)(many words:Nat):Bool:=decide (many<l.length) || (l.take many).any fun x=>decide (words<x.n.length)
def lgL(nodes words:Nat)(x:Lt):Bool:=decide (100<x.name.length) || lgN x.code nodes words
def lgF(f:Fd)(many nodes words:Nat):Bool:=decide (many<f.lets.length) || decide (many<f.outs.length) || f.lets.any (lgL nodes words) || f.outs.any fun c=>lgN c nodes words
section
variable{T:Tbl}[CRef17 T][CRef19 T]
def stG0(f:Fd)(nodes words i:Nat):St:=⟨[(2,.i .i64 nodes),(3,.i .i64 words),(4,.ptr (.loc 4) 1 2 0 0),(9,.i .i64 i)],[(.loc 4,⟨1,.str,2,[[.sl (rowLt f.lets) .an,.sl (rowC f.outs) .an]]⟩)],3⟩
def stG1(f:Fd)(nodes words i:Nat):St:=⟨[(2,.i .i64 nodes),(3,.i .i64 words),(4,.ptr (.loc 4) 1 2 0 0),(10,.i .i64 i)],[(.loc 4,⟨1,.str,2,[[.sl (rowLt f.lets) .an,.sl (rowC f.outs) .an]]⟩)],3⟩
end
section
variable{T:Tbl}[CLaw17 T]
theorem zv0(l:List Nd)(hl:l.length≤4294967295):callF T 13 [.sl (rowN l) .an]=some (.sl (rowN l) .an):=by
 have hlo:loopN T 0 0 (.norm false [3]) l13_0 ⟨[(0,.sl (rowN l) .an),(3,.bs (.loc 3) 1 3 0 0),(4,.i .i64 0)],[(.loc 3,⟨1,.own,3,[]⟩)],3⟩ =
   some (.n,⟨[(3,.bs (.loc 3) 1 3 0 l.length)],[(.loc 3,⟨1,.own,3,rowN l⟩)],3⟩):=by
  have:=zaq (T:=T) (k:=0) (id:=0) (g2:=.norm false [3]) (c:=l13_0) (fun i=>⟨[(0,.sl (rowN l) .an),(3,.bs (.loc 3) 1 3 0 i),(4,.i .i64 (i:Int))],[(.loc 3,⟨1,.own,3,rowN (l.take i)⟩)],3⟩) l.length
   (some (.n,⟨[(3,.bs (.loc 3) 1 3 0 l.length)],[(.loc 3,⟨1,.own,3,rowN l⟩)],3⟩)) (fun i hi=>?_) ?_
  ·simpa using this
  ·have hg:l[i]? = some (l[i]'hi):=List.getElem?_eq_getElem hi
   have hi':(i:Int)<l.length:=by omega
   have hws:=zbg hi (by omega)
   have hs:l.take (i+1)=l.take i++[l[i]'hi]:=by rw[List.take_succ_eq_append_getElem hi]
   have hp:=zl9 (n:=i) (show (l.take i).length=i by rw[List.length_take];omega) (l[i]'hi)
   have hle:i≤(l.take i).length:=by rw[List.length_take];omega
   have h32:i+1≤4294967296:=by omega
   rw[hs]
   generalize hx:l[i]'hi=x at *
   generalize l.take i=m at *
   obtain⟨op,j,n⟩:=x
   clear hs
   simp -implicitDefEqProofs[l13_0,hi,hi',hg,hx,hws,hp,hle,h32]
  ·constructor<;>simp -implicitDefEqProofs[l13_0]
 rw[f13 _ rfl,b13]
 simp -implicitDefEqProofs[hlo]
end
def stC0(c:List Nd)(N:Nat)(pars:Int)(t:Tp)(i:Nat):St:=
 ⟨[(0,.sl (rowN c) .an),(1,.i .i64 (N:Int)),(2,.i .i64 pars),(7,.ptr (.loc 7) 1 4 0 0),(8,.ptr (.loc 8) 2 4 0 0),(9,.ptr (.loc 9) 3 4 0 0),(11,.ptr (.loc 11) 4 2 0 0),(12,.i .i64 (i:Int))],
  [(.loc 7,bxGt 1 t),(.loc 8,⟨2,.str,4,[[.i .i64 0,.i .i64 0,.i .i64 0,.i .i64 0]]⟩),(.loc 9,⟨3,.str,4,[[.i .i64 0,.i .i64 0,.i .i64 0,.i .i64 0]]⟩),
   (.loc 11,⟨4,.str,2,[[.sl [] .an,.bs (.fld (.loc 11) 1) 5 1 0 i]]⟩),(.fld (.loc 11) 1,⟨5,.own,1,rowC (List.replicate i c)⟩)],7⟩
section
variable{T:Tbl}[CLaw25 T]
theorem zqc(c:List Nd)(N:Nat)(pars:Int)(t:Tp)(hN:N≤1000)(hc:c.length≤1000) :
  loopN T 0 0 (.norm false [2,7,8,9,11]) l656_0 (stC0 c N pars t 0)=some (.n,⟨[(2,.i .i64 pars),(7,.ptr (.loc 7) 1 4 0 0),(8,.ptr (.loc 8) 2 4 0 0),(9,.ptr (.loc 9) 3 4 0 0),(11,.ptr (.loc 11) 4 2 0 0)],
  [(.loc 7,bxGt 1 t),(.loc 8,⟨2,.str,4,[[.i .i64 0,.i .i64 0,.i .i64 0,.i .i64 0]]⟩),(.loc 9,⟨3,.str,4,[[.i .i64 0,.i .i64 0,.i .i64 0,.i .i64 0]]⟩),
   (.loc 11,⟨4,.str,2,[[.sl [] .an,.bs (.fld (.loc 11) 1) 5 1 0 N]]⟩),(.fld (.loc 11) 1,⟨5,.own,1,rowC (List.replicate N c)⟩)],7⟩):=by
 refine zaq (T:=T) (k:=0) (id:=0) (g2:=.norm false [2,7,8,9,11]) (c:=l656_0) (fun i=>stC0 c N pars t i) N _ (fun i hi=>?_) ?_
 ·have hlt':(i:Int)<(N:Int):=by omega
  have hws:=zbg hi (by omega)
  have hsQ:rowC (List.replicate i c)++[[.sl (rowN c) .an]]=rowC (List.replicate (i+1) c):=by rw[List.replicate_succ'];simp[rowC]
  have hlQ:(rowC (List.replicate i c)).length=i:=by rw[zeh,List.length_replicate]
  have htkQ:(rowC (List.replicate i c)).take i=rowC (List.replicate i c):=List.take_of_length_le (by omega)
  have hwk:wkL (rowC (List.replicate (i+1) c))=rowC (List.replicate (i+1) c):=by simp
  have h32:i+1≤4294967296:=by omega
  unfold stC0 bxGt
  generalize rowC (List.replicate i c)=Q at *
  generalize rowC (List.replicate (i+1) c)=Q1 at *
  simp -implicitDefEqProofs[l656_0,hi,hlt',hws,hsQ,htkQ,hlQ,h32,hwk,genAt]
 ·unfold stC0 bxGt
  constructor<;>simp -implicitDefEqProofs[l656_0,genAt]
variable[CText T][CComp T][CLimb T][CNat T][CProd T][CTwos T][CQuot T][CQuotD T][CWhole T][CCommon T][CFrac T][CFrac2 T][CFrac3 T][CFrac5 T][CPow T][CTape T][CGauge T][CEval T][CEval2 T][CTree T][CLenD T][CTree2 T][CJoin T][CLex T][CCheck T][CRef02 T][CRef04 T][CRef05 T][CRef07 T][CRef06 T][CRef08 T][CRef09 T][CRef11 T][CRef17 T][CRef19 T][CLaw09 T][CLaw11 T][CLaw17 T][CRef25 T][CTapeS T]
theorem zni(c:List Nd)(dim pars:Int):callF T 656 [.sl (rowN c) .an,.i .i64 dim,.i .i64 pars]=some (.b true):=by
 have hw:=znh (T:=T)
 have cl:=zqr (T:=T) c 60 9 (.inr (by decide)) (by decide)
 change callF T 10 _=some (.b (lgN c 60 9)) at cl
 simp only[Int.cast_ofNat_Int]at cl
 cases hL:lgN c 60 9 with
 | true=>
  rw[hL]at cl
  rw[f656 _ rfl,b656]
  simp -implicitDefEqProofs[hw,cl]
 | false=>
 rw[hL]at cl
 have hcl:c.length≤60:=by
  unfold lgN at hL
  simp only[Bool.or_eq_false_iff,decide_eq_false_iff_not]at hL
  omega
 have hn:thin 1000 c:=by
  unfold lgN at hL
  simp only[Bool.or_eq_false_iff,decide_eq_false_iff_not]at hL
  obtain⟨_,h2⟩:=hL
  rw[List.take_of_length_le hcl,List.any_eq_false]at h2
  intro x hx
  have:=h2 x hx
  simp only[decide_eq_true_eq]at this
  omega
 clear hL
 have t1:=zv0 (T:=T) c (by omega)
 have ts:=zqw (T:=T)
 dsimp only[etp]at ts
 simp only[zd2,show ints []=[] from rfl]at ts
 by_cases hd:1≤dim∧dim≤6∧0≤pars∧pars≤6
 ·obtain⟨d1,d2,d3,d4⟩:=hd
  obtain⟨n,rfl⟩:∃n:Nat,dim=((n+1:Nat):Int):=⟨(dim-1).toNat,by omega⟩
  have cp:=zno (T:=T) c (n+1:Nat) pars 0 (by omega) hn
  have k1:¬ ((n+1:Nat):Int)<1:=by omega
  have k2:¬ 6<((n+1:Nat):Int):=by omega
  have k3:¬ pars<0:=by omega
  have k4:¬ 6<pars:=by omega
  by_cases hp:0≤placeN (n+1:Nat) pars 0 c
  ·have cc:=zjj (T:=T) c (n+1:Nat) pars (by omega) hn d1 d2 d3 d4 hp
   dsimp only[etp]at cc
   simp only[zd2,show ints []=[] from rfl]at cc
   generalize placeN (n+1:Nat) pars 0 c=p at *
   generalize ((n+1:Nat):Int)=m at *
   clear hn
   rw[f656 _ rfl,b656]
   simp -implicitDefEqProofs[hw,cl,t1,ts,cc,cp,k1,k2,k3,k4,hp]
  ·have hpl:placeN (n+1:Nat) pars 0 c<0:=by omega
   have cc:=ztb (T:=T) c n pars (by omega) hn (by omega) d3 d4 hpl
   have hmemr:∀d∈List.replicate (n+1) c,d=c:=fun d hd=>List.eq_of_mem_replicate hd
   have hsum:((List.replicate (n+1) c).map List.length).sum≤1000:=by
    rw[List.map_replicate,List.sum_replicate_nat]
    have:(n+1)*c.length≤6*60:=Nat.mul_le_mul (by omega) hcl
    omega
   have r1:=zlx (T:=T) (List.replicate (n+1) c) (n+1:Nat) pars (by rw[List.length_replicate];omega) hsum (fun d hd=>by rw[hmemr d hd];exact hpl) (fun d hd=>by rw[hmemr d hd];exact hn)
   obtain⟨q1,q2⟩:=zhj c n
   have hfq:fldQ ⟨[],List.replicate (n+1) c⟩=ousQ ⟨[],[],[]⟩ (List.replicate (n+1) c):=rfl
   have htp:tapQ ⟨[],List.replicate (n+1) c⟩ pars=⟨(exQ [] [] [] c).C,List.replicate (n+1) ((((exQ [] [] [] c).s[0]?).getD 0:Nat):Int),(n+1:Nat),pars⟩:=by
    unfold tapQ
    rw[hfq,q1,q2,List.map_replicate,List.length_replicate]
   rw[htp]at r1
   have hfs:=zuc ⟨[],[],[]⟩ (List.replicate (n+1) c) (fun y hy=>by cases hy) (fun d hd=>by rw[hmemr d hd];exact hn)
   rw[q1]at hfs
   have hCl:=(znb [] [] [] c).1
   rw[List.length_nil,Nat.zero_add]at hCl
   generalize hT:(⟨(exQ [] [] [] c).C,List.replicate (n+1) ((((exQ [] [] [] c).s[0]?).getD 0:Nat):Int),(n+1:Nat),pars⟩:Tp)=t at *
   have htc:t.code.length≤1000:=by subst hT;exact Nat.le_trans hCl (by omega)
   have hto:t.outs.length≤1000:=by subst hT;show (List.replicate _ _).length≤_;rw[List.length_replicate];omega
   have htf:∀y∈t.code,fsz y.n≤2000:=by subst hT;exact hfs
   have s1:=zwk (T:=T) t htc hto
   have s2:=zhy (T:=T) t hto htc htf
   have lo:=zqc (T:=T) c (n+1) pars t (by omega) (by omega)
   have htQ:(rowC (List.replicate (n+1) c)).take (n+1)=rowC (List.replicate (n+1) c):=List.take_of_length_le (by rw[zeh,List.length_replicate];exact Nat.le_refl _)
   have hlQ:(rowC (List.replicate (n+1) c)).length=n+1:=by rw[zeh,List.length_replicate]
   have hwk:wkL (rowC (List.replicate (n+1) c))=rowC (List.replicate (n+1) c):=by simp
   unfold stC0 bxGt at lo
   rw[List.replicate_zero,show rowC []=[] from rfl,show (((0:Nat):Int))=0 from rfl]at lo
   simp only[efd,show rowLt []=[] from rfl]at r1
   generalize rowC (List.replicate (n+1) c)=Q at *
   generalize (fldQ ⟨[],List.replicate (n+1) c⟩).W=W at *
   generalize placeN (n+1:Nat) pars 0 c=p at *
   generalize n+1=N at *
   obtain⟨code,outs,tdim,tpar⟩:=t
   clear hT htp q1 q2 hfq hsum hmemr hn hfs htc hto htf
   dsimp only[etp]at *
   rw[f656 _ rfl,b656]
   simp -implicitDefEqProofs[hw,cl,t1,cc,cp,k1,k2,k3,k4,hp,lo,r1,s1,s2,htQ,hlQ,hwk,genAt]
 ·have cc:=zht (T:=T) c dim pars (by omega) hd
  dsimp only[etp]at cc
  simp only[zd2,show ints []=[] from rfl]at cc
  clear hn
  rw[f656 _ rfl,b656]
  by_cases k1:dim<1
  ·simp -implicitDefEqProofs[hw,cl,t1,ts,cc,k1]
  by_cases k2:6<dim
  ·simp -implicitDefEqProofs[hw,cl,t1,ts,cc,k1,k2]
  by_cases k3:pars<0
  ·simp -implicitDefEqProofs[hw,cl,t1,ts,cc,k1,k2,k3]
  by_cases k4:6<pars
  ·simp -implicitDefEqProofs[hw,cl,t1,ts,cc,k1,k2,k3,k4]
  exact absurd ⟨by omega,by omega,by omega,by omega⟩ hd
end
end Go.Ab