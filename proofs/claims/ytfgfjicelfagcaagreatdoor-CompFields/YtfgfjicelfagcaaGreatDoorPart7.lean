/-
  A calculus of values, boxes and code, and what functions of the program compute, proved in it.
  Conditions: none beyond those that the theorems state. (Part 7.)
-/
import Derived.Test.YtfgfjicelfagcaaGreatDoorPart6

set_option linter.unusedSectionVars false
set_option linter.unusedVariables false
set_option linter.unusedSimpArgs false
set_option linter.unnecessarySimpa false

namespace Go.Ab
section
variable{T:Tbl}[CLimb T][CNat T][CProd T][CTwos T][CQuot T][CQuotD T][CWhole T][CCommon T][CFrac T][CFrac3 T][CTape T]
structure Small (t:Tp):Prop where
 code:t.code.length≤4294967296
 outs:t.outs.length≤4294967296
 ns:∀i∈t.code,fsz i.n≤10000
 d1:-9223372036854775808≤t.dim
 d2:t.dim<9223372036854775808
def bxT(t:Tp):Box:=⟨1,.str,4,[[.sl (rowI t.code) .an,.sl (ints t.outs) .an,.i .i64 t.dim,.i .i64 t.par]]⟩
def stW1(t:Tp)(i:Nat):St:=⟨[(1,.ptr (.loc 1) 1 4 0 0),(11,.i .i64 t.code.length),(12,.i .i64 i)],[(.loc 1,bxT t)],3⟩
def stW2(t:Tp)(i:Nat):St:=⟨[(1,.ptr (.loc 1) 1 4 0 0),(22,.sl (ints t.outs) .an),(23,.i .i64 t.outs.length),(24,.i .i64 i)],[(.loc 1,bxT t)],3⟩
end
def limI(n:Int):Int:=if n<0 then 0 else if 4096<n then 4096 else n
abbrev bxG(g:Nat)(s p L:Int):Box:=⟨g,.str,3,[[.i .i64 s,.i .i64 p,.i .i64 L]]⟩
def cntS(s:Int):Int:=IntKind.wrap .i64 (s+1)
def cntP(p:Int)(x:Fz):Int:=if p<(sizF x:Int) then (sizF x:Int) else p
section
variable{T:Tbl}[CLimb T][CNat T][CProd T][CTwos T][CQuot T][CQuotD T][CWhole T][CCommon T][CFrac T][CFrac3 T][CFrac5 T][CPow T][CTape T][CGauge T][CEval T]
def stEn(l:List Fz)(i:Nat):St:=⟨[(3,.bs (.loc 3) 1 3 0 i),(6,.sl (rowF l) .an),(7,.i .i64 l.length),(8,.i .i64 i)],[(.loc 3,⟨1,.own,3,rowF (nrm (l.take i))⟩)],3⟩
structure PoS (x:PoF) (B:Nat):Prop where
 t:fsz x.t≤B
 y:∀u∈x.y,fsz u≤B
 p:∀u∈x.p,fsz u≤B
 yl:x.y.length≤1000
 pl:x.p.length≤1000
end
abbrev mD:AV:=.agg [.dead]
structure PvS (P:Po) (B:Nat):Prop where
 t:sz P.t≤B
 y:∀q∈P.y,sz q≤B
 p:∀q∈P.p,sz q≤B
def runG(lim:Nat)(P:Po):List Ins→List Rat→Int→Int→Int×Int
 | [],_,s,p=>(s,p)
 | i::r,D,s,p=>if (valI P D i).2=false then (s,p) else if lim<sizQ (valI P D i).1 then (cntS s,cntP p (fz (valI P D i).1)) else runG lim P r (D++[(valI P D i).1]) (cntS s) (cntP p (fz (valI P D i).1))
abbrev bxM:Box:=⟨3,.str,1,[[.ptr (.bor 0) 0 3 0 0]]⟩
abbrev bxP(g:Nat)(x:PoF):Box:=⟨g,.str,5,[[.b x.t.1,.sl (u32s x.t.2.1) .an,.sl (u32s x.t.2.2) .an,.sl (rowF x.y) .an,.sl (rowF x.p) .an]]⟩
abbrev bxF(g:Nat)(a b c d:Int):Box:=⟨g,.str,4,[[.i .i64 a,.i .i64 b,.i .i64 c,.i .i64 d]]⟩
def stRun(Q:PoF)(L:Int)(code:List Ins)(i:Nat)(D:List Fz)(s p:Int)(kd:Kind):St:=
 ⟨[(3,.ptr (.loc 3) 3 1 0 0),(5,.ptr (.loc 5) 4 5 0 0),(7,.ptr (.loc 7) 5 4 0 0),(8,.bs (.loc 8) 6 3 0 i),(34,.sl (rowI code) .an),(35,.i .i64 code.length),(36,.i .i64 i)],
  [(.bor 0,bxG 0 s p L),(.loc 3,bxM),(.loc 5,bxP 4 Q),(.loc 7,bxF 5 0 0 0 0),(.loc 8,⟨6,kd,3,rowF D⟩)],8⟩
def endN(n:Nat)(D:List Fz)(s p L:Int)(kd:Kind):Ex×St:=(.n,⟨[(7,.ptr (.loc 7) 3 4 0 0),(8,.bs (.loc 8) 4 3 0 n)],[(.bor 0,bxG 0 s p L),(.loc 7,bxF 3 0 0 0 0),(.loc 8,⟨4,kd,3,rowF D⟩)],6⟩)
def endR(kind at_ s p L:Int):Ex×St:=(.r,⟨[(6,.sl [] .an),(7,.ptr (.loc 7) 3 4 0 0)],[(.bor 0,bxG 0 s p L),(.loc 7,bxF 3 kind 0 0 at_)],5⟩)
section
variable{T:Tbl}[CLimb T][CNat T][CProd T][CTwos T][CQuot T][CQuotD T][CWhole T][CCommon T][CFrac T][CFrac3 T][CFrac5 T][CPow T][CTape T][CGauge T][CEval T][CRun T][CIfc T]
def kdE(kd:Kind)(l:List Ins):Kind:=if l=[] then kd else .sh
def endRun(lim:Nat)(P:Po)(code l:List Ins)(D:List Rat)(s p:Int)(kd:Kind):Ex×St:=
 if (runR lim P l D).2.1=0 then endN code.length (fzs (runR lim P l D).1) (runG lim P l D s p).1 (runG lim P l D s p).2 lim (kdE kd l)
 else endR (runR lim P l D).2.1 (runR lim P l D).2.2 (runG lim P l D s p).1 (runG lim P l D s p).2 lim
end
def leafV(P:Po)(ls:List Rat)(x:Nd):Rat:=if x.op=1 then ((val x.n:Nat):Rat) else if x.op=3 then gI P.y x.i else if x.op=4 then gI P.p x.i else if x.op=5 then gI ls x.i else P.t
def unV(x:Nd)(a:Rat):Rat×Bool:=if x.op=6 then (-a,true) else powR a x.i
def biV(op:Int)(a b:Rat):Rat×Bool:=if op=7 then (a+b,true) else if op=8 then (a-b,true) else if op=9 then (a*b,true) else (a/b,decide (b≠0))
def finV(lim:Nat)(v:Rat×Bool)(i:Nat):Rat×Nat×Nat:=if v.2=false then (0,3,i) else if lim<sizQ v.1 then (0,6,i) else (v.1,0,0)
def stepV(P:Po)(ls:List Rat)(s:List Rat)(x:Nd):(Rat×Bool)×List Rat:=
 if arN x.op=0 then ((leafV P ls x,true),s) else if arN x.op=1 then (unV x (s.headD 0),s.tail) else (biV x.op (s.tail.headD 0) (s.headD 0),s.tail.tail)
def walkR(lim:Nat)(P:Po)(ls:List Rat):Nat→List Rat→List Nd→Rat×Nat×Nat
 | _,s,[]=>(s.headD 0,0,0)
 | i,s,x::r=>if (finV lim (stepV P ls s x).1 i).2.1≠0 then finV lim (stepV P ls s x).1 i else walkR lim P ls (i+1) ((stepV P ls s x).1.1::(stepV P ls s x).2) r
def evT(lim:Nat)(P:Po)(ls:List Rat):Tre→Nat→Rat×Nat×Nat
 | .leaf x,i=>finV lim (leafV P ls x,true) i
 | .un x a,i=>if (evT lim P ls a i).2.1≠0 then evT lim P ls a i else finV lim (unV x (evT lim P ls a i).1) (i+a.flat.length)
 | .bin x a b,i=>if (evT lim P ls a i).2.1≠0 then evT lim P ls a i else if (evT lim P ls b (i+a.flat.length)).2.1≠0 then evT lim P ls b (i+a.flat.length)
   else finV lim (biV x.op (evT lim P ls a i).1 (evT lim P ls b (i+a.flat.length)).1) (i+a.flat.length+b.flat.length)
def walkG(lim:Nat)(P:Po)(ls:List Rat):List Rat→List Nd→Int→Int→Int×Int
 | _,[],c,p=>(c,p)
 | s,x::r,c,p=>if (stepV P ls s x).1.2=false then (c,p) else if lim<sizQ (stepV P ls s x).1.1 then (cntS c,cntP p (fz (stepV P ls s x).1.1))
   else walkG lim P ls ((stepV P ls s x).1.1::(stepV P ls s x).2) r (cntS c) (cntP p (fz (stepV P ls s x).1.1))
abbrev hpA(gk:Nat)(Q:PoF)(LS:List Fz)(s p L seen:Int)(F:List Fz)(m:Nat):Heap:=
 [(.bor 0,⟨0,.str,9,[[.b Q.t.1,.sl (u32s Q.t.2.1) .an,.sl (u32s Q.t.2.2) .an,.sl (rowF Q.y) .an,.sl (rowF Q.p) .an,.sl (rowF LS) .an,.ptr (.bor 1) 1 3 0 0,.i .i64 seen,.bs (.bor 2) gk 3 0 m]]⟩),(.bor 1,bxG 1 s p L),(.bor 2,⟨gk,.own,3,rowF F⟩)]
abbrev wP:AV:=.ptr (.bor 0) 0 9 0 0
section
variable{T:Tbl}[CLimb T][CNat T][CProd T][CTwos T][CQuot T][CQuotD T][CWhole T][CCommon T][CFrac T][CFrac2 T][CFrac3 T][CFrac5 T][CPow T][CTape T][CGauge T][CEval T][CEval2 T][CTree T][CText T][CLenD T]
theorem zsa(a:List UInt32)(ha:a.length≤10000):callF T 204 [.agg [.b false,.sl (u32s a) .an],.sl [[u32 1]] .an]=some (.tup [efz (fz ((val a:Nat):Rat)),.b true]):=by
 have c1:callF T 70 [.sl [[u32 1]] .an]=some (.b false):=zgd (T:=T) [1] (by decide)
 have c2:callF T 202 [.agg [.b false,.sl (u32s a) .an],.sl [[u32 1]] .an]=some (efz (fz (mkRat (wv false a) 1))):=zoc (T:=T) false a [1] ha (by decide) (by decide)
 have e:mkRat (wv false a) 1=((val a:Nat):Rat):=by
  rw[Rat.mkRat_one]
  rfl
 rw[e]at c2
 rw[f204 _ rfl,b204]
 generalize fz ((val a:Nat):Rat)=R at *
 simp -implicitDefEqProofs[c1,c2]
end
section
variable{T:Tbl}[CText T][CComp T]
theorem zke(C:List Ins)(L W:List Nat)(x:Ins)(hC:∀y∈C,MkI y)(hx:MkI x)(hn:x.n.2.1.length≤1000)(hl:C.length≤100000) :
  ∃gc,(gc=1∨gc=7)∧callH T 650 [cmP,.agg (celI x)] (cmH 1 4 C L W)=some (.i .i64 ((putI C x).2:Int),cmH gc 4 (putI C x).1 L W):=by
 unfold putI
 cases h:idxI x 0 C with
 | some i=>exact⟨1,.inl rfl,zmd C L W x hC hx hn i h⟩
 | none=>exact⟨7,.inr rfl,zme C L W x hC hx hn h hl⟩
theorem zy9(a:List UInt32):(fz ((val a:Nat):Rat)).2.1.length≤a.length:=by
 have:(fz ((val a:Nat):Rat)).2.1=ofN (val a):=by
  unfold fz
  simp
 rw[this]
 exact zae a
theorem zum(x:Nd)(hn:x.n.length≤1000):(leafI x).n.2.1.length≤1000:=by
 unfold leafI
 split
 ·exact Nat.le_trans (zy9 x.n) hn
 ·split
  all_goals exact Nat.zero_le _
variable[CLimb T][CNat T][CProd T][CTwos T][CQuot T][CQuotD T][CWhole T][CCommon T][CFrac T][CFrac2 T][CFrac3 T][CFrac5 T][CPow T][CTape T][CGauge T][CEval T][CEval2 T][CTree T][CLenD T]
theorem zun(x:Nd)(hn:x.n.length≤1000):callF T 651 [.agg (celN x)]=some (.agg (celI (leafI x))):=by
 have c:=zsa (T:=T) x.n (by omega)
 obtain⟨op,i,n⟩:=x
 dsimp only at *
 unfold leafI
 rw[f651 _ rfl,b651]
 by_cases h1:op=1
 ·subst h1
  rw[if_pos rfl]
  generalize fz ((val n:Nat):Rat)=q at *
  obtain⟨q0,q1,q2⟩:=q
  simp -implicitDefEqProofs[c]
 ·rw[if_neg h1]
  by_cases h2:op=2
  ·subst h2
   rw[if_pos rfl]
   simp -implicitDefEqProofs[blk]
  ·rw[if_neg h2]
   simp -implicitDefEqProofs[h1,h2,blk]
abbrev bxS(g:Nat)(S:List Nat):BId×Box:=(.bor 5,⟨g,.own,1,natR S⟩)
theorem zkf(C:List Ins)(L W S:List Nat)(x:Nd)(ho:x.op=5)(h0:0≤x.i)(h1:x.i<L.length)(hn:x.n.length≤1000) :
  callH T 649 [cmP,.agg (celN x),.bs (.bor 5) 5 1 0 S.length] (cmH 1 4 C L W++[bxS 5 S])=some (.i .i64 (((L[x.i.toNat]?).getD 0:Nat):Int),cmH 1 4 C L W++[bxS 5 S]):=by
 obtain⟨op,i,n⟩:=x
 dsimp only at *
 subst ho
 obtain⟨j,rfl⟩:∃j:Nat,i=(j:Int):=⟨i.toNat,by omega⟩
 have hj:j<L.length:=by omega
 obtain⟨v,hv⟩:∃v,L[j]? = some v:=⟨_,List.getElem?_eq_getElem hj⟩
 obtain⟨_,hg⟩:=List.getElem?_eq_some_iff.1 hv
 unfold cmH
 rw[f649 _ _ rfl,b649]
 simp -implicitDefEqProofs[hj,hv,hg,h1,genAt]
end
section
variable{T:Tbl}[CText T][CComp T][CLimb T][CNat T][CProd T][CTwos T][CQuot T][CQuotD T][CWhole T][CCommon T][CFrac T][CFrac2 T][CFrac3 T][CFrac5 T][CPow T][CTape T][CGauge T][CEval T][CEval2 T][CTree T][CLenD T]
theorem ze7(op a b:Int):celI ⟨op,a,b,blk⟩=[.i .i64 op,.i .i64 a,.i .i64 b,.b false,.sl [] .an,.sl [] .an]:=rfl
theorem zil(C C1:List Ins)(L W S:List Nat)(x:Nd)(gc:Nat)(p:Nat)(hg:gc=1∨gc=7)(ho:x.op≠5)(ha:arN x.op=0)(hn:x.n.length≤1000)
  (c:callH T 650 [cmP,.agg (celI (leafI x))] (cmH 1 4 C L W)=some (.i .i64 (p:Int),cmH gc 4 C1 L W)) :
  callH T 649 [cmP,.agg (celN x),.bs (.bor 5) 5 1 0 S.length] (cmH 1 4 C L W++[bxS 5 S])=some (.i .i64 (p:Int),cmH (if gc=1 then 1 else 8) 4 C1 L W++[bxS 5 S]):=by
 have cl:=zun (T:=T) x hn
 have car:=zb1 (T:=T) x.op
 rw[ha]at car
 generalize leafI x=y at *
 obtain⟨op,i,n⟩:=x
 obtain⟨yo,ya,yb,⟨y0,y1,y2⟩⟩:=y
 dsimp only at *
 unfold cmH at *
 rw[f649 _ _ rfl,b649]
 rcases hg with rfl | rfl
 ·simp -implicitDefEqProofs[ho,car,cl,c,genAt]
 ·simp -implicitDefEqProofs[ho,car,cl,c,genAt]
theorem zmf(C C1:List Ins)(L W S:List Nat)(x:Nd)(gc:Nat)(p a:Nat)(hg:gc=1∨gc=7)(ho:x.op≠5)(ha:arN x.op=1)(hS:S[S.length-1]? = some a)(hl:S.length≤100000)(hn:x.n.length≤1000)
  (c:callH T 650 [cmP,.agg (celI ⟨x.op,(a:Int),x.i,blk⟩)] (cmH 1 4 C L W)=some (.i .i64 (p:Int),cmH gc 4 C1 L W)) :
  callH T 649 [cmP,.agg (celN x),.bs (.bor 5) 5 1 0 S.length] (cmH 1 4 C L W++[bxS 5 S])=some (.i .i64 (p:Int),cmH (if gc=1 then 1 else 8) 4 C1 L W++[bxS 5 S]):=by
 have car:=zb1 (T:=T) x.op
 rw[ha]at car
 obtain⟨h1,h2⟩:=List.getElem?_eq_some_iff.1 hS
 have hw1:IntKind.wrap .i64 ((S.length:Int)-1)=((S.length-1:Nat):Int):=by rw[zab _ (by omega)];omega
 have hlt:((S.length-1:Nat):Int)<S.length:=by omega
 obtain⟨op,i,n⟩:=x
 dsimp only at *
 rw[ze7]at c
 unfold cmH at *
 rw[f649 _ _ rfl,b649]
 rcases hg with rfl | rfl
 ·simp -implicitDefEqProofs[ho,car,hw1,hlt,h1,h2,hS,c,genAt]
 ·simp -implicitDefEqProofs[ho,car,hw1,hlt,h1,h2,hS,c,genAt]
theorem zkg(C C1:List Ins)(L W S:List Nat)(x:Nd)(gc:Nat)(p a b:Nat)(hg:gc=1∨gc=7)(ho:x.op≠5)(ha:arN x.op=2)(h2S:2≤S.length)(hS:S[S.length-1]? = some b)(hS2:S[S.length-2]? = some a)(hl:S.length≤100000)(hn:x.n.length≤1000)
  (c:callH T 650 [cmP,.agg (celI ⟨x.op,(a:Int),(b:Int),blk⟩)] (cmH 1 4 C L W)=some (.i .i64 (p:Int),cmH gc 4 C1 L W)) :
  callH T 649 [cmP,.agg (celN x),.bs (.bor 5) 5 1 0 S.length] (cmH 1 4 C L W++[bxS 5 S])=some (.i .i64 (p:Int),cmH (if gc=1 then 1 else 8) 4 C1 L W++[bxS 5 S]):=by
 have car:=zb1 (T:=T) x.op
 rw[ha]at car
 obtain⟨h1,h2⟩:=List.getElem?_eq_some_iff.1 hS
 obtain⟨h3,h4⟩:=List.getElem?_eq_some_iff.1 hS2
 have hw1:IntKind.wrap .i64 ((S.length:Int)-1)=((S.length-1:Nat):Int):=by rw[zab _ (by omega)];omega
 have hw2:IntKind.wrap .i64 ((S.length:Int)-2)=((S.length-2:Nat):Int):=by rw[zab _ (by omega)];omega
 have hlt:((S.length-1:Nat):Int)<S.length:=by omega
 have hlt2:((S.length-2:Nat):Int)<S.length:=by omega
 obtain⟨op,i,n⟩:=x
 dsimp only at *
 rw[ze7]at c
 unfold cmH at *
 rw[f649 _ _ rfl,b649]
 rcases hg with rfl | rfl
 ·simp -implicitDefEqProofs[ho,car,hw1,hw2,hlt,hlt2,h1,h2,h3,h4,hS,hS2,c,genAt]
 ·simp -implicitDefEqProofs[ho,car,hw1,hw2,hlt,hlt2,h1,h2,h3,h4,hS,hS2,c,genAt]
end
structure NdB (nl:Nat) (n:Nat) (x:Nd):Prop where
 len:x.n.length≤1000
 lt:x.op=5→0≤x.i∧x.i<nl
 ar:0≤arN x.op∧arN x.op≤n
def stEx(gc gw:Nat)(C:List Ins)(L W S:List Nat)(c:List Nd)(i:Nat):St:=
 ⟨[(0,cmP),(5,.bs (.loc 5) 11 1 0 S.length),(9,.sl (rowN c) .an),(10,.i .i64 c.length),(11,.i .i64 (i:Int))],cmH gc gw C L W++[(.loc 5,⟨11,.own,1,natR S⟩)],13⟩
section
variable{T:Tbl}[CText T][CComp T][CLimb T][CNat T][CProd T][CTwos T][CQuot T][CQuotD T][CWhole T][CCommon T][CFrac T][CFrac2 T][CFrac3 T][CFrac5 T][CPow T][CTape T][CGauge T][CEval T][CEval2 T][CTree T][CLenD T]
theorem zuo(C:List Ins)(L W S:List Nat)(x:Nd)(hC:∀y∈C,MkI y)(hx:NdB L.length S.length x)(hl:C.length≤100000)(hs:S.length≤100000) :
  ∃gc,(gc=1∨gc=8)∧callH T 649 [cmP,.agg (celN x),.bs (.bor 5) 5 1 0 S.length] (cmH 1 4 C L W++[bxS 5 S])=some (.i .i64 ((ndI L C S x).2:Int),cmH gc 4 (ndI L C S x).1 L W++[bxS 5 S]):=by
 obtain⟨h1,h2,h3,h4⟩:=hx
 unfold ndI
 by_cases ho:x.op=5
 ·obtain⟨a,b⟩:=h2 ho
  rw[if_pos ho]
  exact⟨1,.inl rfl,zkf C L W S x ho a b h1⟩
 rw[if_neg ho]
 have g8:∀gc,(gc=1∨gc=7)→((if gc=1 then 1 else 8)=1∨(if gc=1 then 1 else 8)=8):=by
  rintro gc (rfl | rfl)
  ·exact .inl rfl
  ·exact .inr rfl
 rcases za7 x.op with ⟨e,_⟩ | ⟨e,_⟩ | ⟨e,_⟩ | ⟨e,_⟩
 ·rw[if_pos e]
  obtain⟨gc,hg,hc⟩:=zke (T:=T) C L W (leafI x) hC (zkw x) (zum x h1) hl
  exact⟨_,g8 gc hg,zil C _ L W S x gc _ hg ho e h1 hc⟩
 ·have ho1:x.op≠1:=fun h=>by rw[h]at e;revert e;decide
  rw[if_neg (by omega),if_pos e]
  obtain⟨a,ha⟩:∃a,S[S.length-1]? = some a:=⟨_,List.getElem?_eq_getElem (by omega)⟩
  rw[ha,Option.getD_some]
  obtain⟨gc,hg,hc⟩:=zke (T:=T) C L W ⟨x.op,(a:Int),x.i,blk⟩ hC ⟨fun h=>absurd h ho1,fun _=>rfl⟩ (Nat.zero_le _) hl
  exact⟨_,g8 gc hg,zmf C _ L W S x gc _ a hg ho e ha hs h1 hc⟩
 ·have ho1:x.op≠1:=fun h=>by rw[h]at e;revert e;decide
  rw[if_neg (by omega),if_neg (by omega)]
  obtain⟨b,hb⟩:∃b,S[S.length-1]? = some b:=⟨_,List.getElem?_eq_getElem (by omega)⟩
  obtain⟨a,ha⟩:∃a,S[S.length-2]? = some a:=⟨_,List.getElem?_eq_getElem (by omega)⟩
  rw[ha,hb,Option.getD_some,Option.getD_some]
  obtain⟨gc,hg,hc⟩:=zke (T:=T) C L W ⟨x.op,(a:Int),(b:Int),blk⟩ hC ⟨fun h=>absurd h ho1,fun _=>rfl⟩ (Nat.zero_le _) hl
  exact⟨_,g8 gc hg,zkg C _ L W S x gc _ a b hg ho e (by omega) hb ha hs h1 hc⟩
 ·omega
theorem zra(gc gw g1:Nat)(C C1:List Ins)(L W S:List Nat)(c:List Nd)(i p ar:Nat)(x:Nd)(hgc:gc=1∨gc=7)(hgw:gw=4∨gw=10)(hg1:g1=1∨g1=8)(hx:c[i]? = some x)(har:arN x.op=(ar:Int))(harS:ar≤S.length)
  (hcl:c.length≤100000) (hWl:W.length≤100000) (hSl:S.length≤100000) (hn:x.n.length≤1000)
  (hc:callH T 649 [cmP,.agg (celN x),.bs (.bor 5) 5 1 0 S.length] (cmH 1 4 C L W++[bxS 5 S])=some (.i .i64 (p:Int),cmH g1 4 C1 L W++[bxS 5 S])) :
  evX (orc T) T 5 l648_0 (stEx gc gw C L W S c i)=some (.n,stEx (if g1=1 then gc else 7) 10 C1 L (W++[p]) (S.take (S.length-ar)++[p]) c (i+1)):=by
 have car:=zb1 (T:=T) x.op
 rw[har]at car
 obtain⟨hlt,hge⟩:=List.getElem?_eq_some_iff.1 hx
 have hlt':(i:Int)<c.length:=by omega
 have hws:=za0 hlt (by omega)
 have hsW:=zaw W p
 have hsS:=zaw (S.take (S.length-ar)) p
 have hsl:(S.take (S.length-ar)).length=S.length-ar:=by rw[List.length_take];omega
 have htk:(natR S).take (S.length-ar)=natR (S.take (S.length-ar)):=by unfold natR;rw[List.map_take]
 have hw:IntKind.wrap .i64 ((S.length:Int)-(ar:Int))=((S.length-ar:Nat):Int):=by rw[zab _ (by omega)];omega
 have hle:((S.length-ar:Nat):Int)≤S.length:=by omega
 have h32:W.length+1≤4294967296:=by omega
 have h33:S.length-ar+1≤4294967296:=by omega
 have htkW:(natR W).take W.length=natR W:=List.take_of_length_le (by rw[zap];exact Nat.le_refl _)
 have hn32:x.n.length≤4294967296:=by omega
 have hlS:S.length-ar≤S.length:=Nat.sub_le _ _
 obtain⟨op,xi,n⟩:=x
 dsimp only at *
 unfold stEx cmH at *
 simp only[bxS,List.cons_append,List.nil_append]at hc
 generalize hS1:S.take (S.length-ar)=S1 at *
 generalize hm:S.length-ar=m at *
 rcases hgc with rfl | rfl<;>rcases hgw with rfl | rfl<;>rcases hg1 with rfl | rfl
 all_goals simp -implicitDefEqProofs[l648_0,hlt,hlt',hx,hge,hws,car,hc,hsW,hsS,hsl,htk,hw,hle,h32,h33,hn32,hlS,htkW,genAt]
end
theorem zpx(Ls:List Nat)(C:List Ins)(W:List Nat)(c:List Nd)(i:Nat)(x:Nd)(hx:c[i]? = some x):exQ Ls C W (c.take (i+1))=stepQ' Ls (exQ Ls C W (c.take i)) x:=by
 rw[List.take_add_one,hx,Option.toList_some,zp5]
theorem zn8(Ls:List Nat)(C:List Ins)(s:List Nat)(x:Nd):(ndI Ls C s x).1.length≤C.length+1:=by
 unfold ndI
 split
 ·simp
 ·split
  ·exact(zkx C _).2.1
  ·split
   ·exact(zkx C _).2.1
   ·exact(zkx C _).2.1
section
variable{T:Tbl}[CText T][CComp T][CLimb T][CNat T][CProd T][CTwos T][CQuot T][CQuotD T][CWhole T][CCommon T][CFrac T][CFrac2 T][CFrac3 T][CFrac5 T][CPow T][CTape T][CGauge T][CEval T][CEval2 T][CTree T][CLenD T]
theorem zmg(C:List Ins)(L W:List Nat)(c:List Nd)(hC:∀y∈C,MkI y)(hw:wrongN c=-1)(hlt:∀x∈c,x.op=5→0≤x.i∧x.i<L.length)(hn:thin 1000 c)(hc:c.length≤50000)(hCl:C.length≤50000)(hWl:W.length≤50000) :
  (exQ L C W c).s.length=1∧∃gc,(gc=1∨gc=7)∧callH T 648 [cmP,.sl (rowN c) .an] (cmH 1 4 C L W)=some (.i .i64 ((((exQ L C W c).s[0]?).getD 0:Nat):Int),cmH gc 10 (exQ L C W c).C L (exQ L C W c).W):=by
 have hne:0<c.length:=by
  cases c with
  | nil=>exact absurd hw (by decide)
  | cons x r=>simp
 have hloop:∃r,((exQ L C W c).s.length=1∧∃gc,(gc=1∨gc=7)∧r=((.n,⟨[(5,.bs (.loc 5) 11 1 0 (exQ L C W c).s.length)],cmH gc 10 (exQ L C W c).C L (exQ L C W c).W++[(.loc 5,⟨11,.own,1,natR (exQ L C W c).s⟩)],13⟩):Ex×St)) ∧
   loopN T 5 0 (.norm false [5]) l648_0 (stEx 1 4 C L W [] c 0)=some r:=by
  refine zas (fun q:Nat×Nat×Nat=>stEx q.2.1 q.2.2 (exQ L C W (c.take q.1)).C L (exQ L C W (c.take q.1)).W (exQ L C W (c.take q.1)).s c q.1)
   (fun q=>q.1≤c.length∧(q.2.1=1∨q.2.1=7)∧(q.2.2=4∨q.2.2=10)∧(0<q.1→q.2.2=10)∧(exQ L C W (c.take q.1)).s.length≤q.1∧(exQ L C W (c.take q.1)).C.length≤C.length+q.1∧(exQ L C W (c.take q.1)).W.length=W.length+q.1∧∃j,wrongL j (exQ L C W (c.take q.1)).s.length (c.drop q.1)=-1)
   (fun q=>c.length-q.1) _ ?_ (0,1,4) ⟨Nat.zero_le _,.inl rfl,.inl rfl,fun h=>absurd h (by decide),Nat.le_refl _,Nat.le_refl _,rfl,0,hw⟩
  rintro⟨i,gc,gw⟩ ⟨hi,hgc,hgw,hg0,hs,hCi,hWi,j,hwr⟩
  dsimp only at *
  have hmk:∀y∈(exQ L C W (c.take i)).C,MkI y:=zm3 L (c.take i) ⟨C,W,[]⟩ hC
  by_cases hil:i<c.length
  ·left
   obtain⟨x,hx,hmem⟩:∃x,c[i]? = some x∧x∈c:=⟨c[i]'hil,List.getElem?_eq_getElem hil,List.getElem_mem hil⟩
   obtain⟨_,hge⟩:=List.getElem?_eq_some_iff.1 hx
   have hd:c.drop i=x::c.drop (i+1):=by rw[List.drop_eq_getElem_cons hil,hge]
   have htk:=zpx L C W c i x hx
   rw[hd]at hwr
   generalize exQ L C W (c.take i)=q at *
   obtain⟨Cq,Wq,Sq⟩:=q
   dsimp only at *
   have h1:¬ (arN x.op<0∨(Sq.length:Int)<arN x.op):=by
    intro hh
    unfold wrongL at hwr
    rw[if_pos hh]at hwr
    omega
   have hw2:wrongL (j+1) (Sq.length+1-arN x.op) (c.drop (i+1))=-1:=by
    unfold wrongL at hwr
    rwa [if_neg h1]at hwr
   obtain⟨g1,hg1,hcall⟩:=zuo (T:=T) Cq L Wq Sq x hmk ⟨hn x hmem,hlt x hmem,by omega,by omega⟩ (by omega) (by omega)
   obtain⟨ar,har⟩:∃ar:Nat,arN x.op=(ar:Int):=⟨(arN x.op).toNat,by omega⟩
   have e:=zra (T:=T) gc gw g1 Cq _ L Wq Sq c i _ ar x hgc hgw hg1 hx har (by omega) (by omega) (by omega) (by omega) (hn x hmem) hcall
   have hst:stepQ' L ⟨Cq,Wq,Sq⟩ x=⟨(ndI L Cq Sq x).1,Wq++[(ndI L Cq Sq x).2],Sq.take (Sq.length-ar)++[(ndI L Cq Sq x).2]⟩:=by
    unfold stepQ'
    rw[har,Int.toNat_natCast]
   have hnl:=zn8 L Cq Sq x
   have hsl:(Sq.take (Sq.length-ar)++[(ndI L Cq Sq x).2]).length=Sq.length-ar+1:=by rw[List.length_append,List.length_take,List.length_singleton];omega
   rw[hst]at htk
   refine⟨(i+1,if g1=1 then gc else 7,10),?_,by dsimp only;omega,?_⟩
   ·dsimp only
    rw[htk]
    dsimp only
    refine⟨by omega,?_,.inr rfl,fun _=>rfl,by omega,by omega,by rw[List.length_append,List.length_singleton];omega,j+1,?_⟩
    ·split
     ·exact hgc
     ·exact .inr rfl
    ·rw[hsl,←hw2]
     congr 1
     omega
   ·dsimp only
    rw[htk]
    exact e
  ·right
   have hic:i=c.length:=by omega
   subst hic
   rw[List.take_length]at *
   rw[List.drop_length]at hwr
   have h10:=hg0 hne
   have hs1:(exQ L C W c).s.length=1:=by
    unfold wrongL at hwr
    split at hwr
    ·omega
    ·omega
   refine⟨_,⟨hs1,gc,hgc,rfl⟩,?_⟩
   subst h10
   generalize exQ L C W c=q at *
   obtain⟨Cq,Wq,Sq⟩:=q
   dsimp only at *
   unfold stEx cmH
   rcases hgc with rfl | rfl
   ·constructor<;>simp -implicitDefEqProofs[l648_0,genAt]
   ·constructor<;>simp -implicitDefEqProofs[l648_0,genAt]
 obtain⟨r,⟨hs1,gc,hgc,rfl⟩,hr⟩:=hloop
 refine⟨hs1,gc,hgc,?_⟩
 generalize exQ L C W c=q at *
 obtain⟨Cq,Wq,Sq⟩:=q
 dsimp only at *
 obtain⟨v,rfl⟩:=List.length_eq_one_iff.1 hs1
 unfold stEx cmH at hr
 unfold cmH
 rw[f648 _ _ rfl,b648]
 simp -implicitDefEqProofs at hr
 have hnv:natR [v]=[[.i .i64 (v:Int)]]:=rfl
 rw[hnv]at hr
 rcases hgc with rfl | rfl
 ·simp -implicitDefEqProofs[hr,genAt]
 ·simp -implicitDefEqProofs[hr,genAt]
end
abbrev mkB:BId:=.fld (.loc 25) 3
abbrev mkBx(g:Nat)(C:List Ins)(L W:List Nat):Heap:=
 [(mkB,⟨g,.str,4,[[.bs (.fld mkB 0) (g+1) 6 0 C.length,.fnp 0 (.fld (.loc 25) 1) (g+2) 2 0 0,.bs (.fld mkB 2) (g+3) 1 0 L.length,.bs (.fld mkB 3) (g+4) 1 0 W.length]]⟩),
  (.fld mkB 0,⟨g+1,.own,6,rowI C⟩),(.fld (.loc 25) 1,⟨g+2,.mp,2,mapI 0 C⟩),(.fld mkB 2,⟨g+3,.own,1,natR L⟩),(.fld mkB 3,⟨g+4,.own,1,natR W⟩)]
abbrev bx4(g:Nat):BId×Box:=(.loc 4,⟨g,.str,4,[[.sl [] .an,.sl [] .an,.i .i64 0,.i .i64 0]]⟩)
abbrev bx6(g:Nat):BId×Box:=(.loc 6,⟨g,.str,4,[[.i .i64 0,.i .i64 0,.i .i64 0,.i .i64 0]]⟩)
def stF1(f:Fd)(pars:Int)(C:List Ins)(L W:List Nat)(i:Nat):St:=
 ⟨[(1,.i .i64 pars),(2,.ptr (.loc 2) 1 2 0 0),(4,.ptr (.loc 4) 2 4 0 0),(6,.ptr (.loc 6) 3 4 0 0),(8,.ptr mkB 4 4 0 0),(27,.sl (rowLt f.lets) .an),(28,.i .i64 f.lets.length),(29,.i .i64 (i:Int))],
  [(.loc 2,⟨1,.str,2,[[.sl (rowLt f.lets) .an,.sl (rowC f.outs) .an]]⟩),bx4 2,bx6 3]++mkBx 4 C L W,10⟩
def stF2(n:Nat)(Os:List (List Nd))(pars:Int)(C:List Ins)(L W Q:List Nat)(i:Nat):St:=
 ⟨[(4,.ptr (.loc 4) 1 4 0 0),(6,.ptr (.loc 6) 2 4 0 0),(8,.ptr mkB 3 4 0 0),(11,.ptr (.loc 11) 8 4 0 0),(53,.sl (rowC Os) .an),(54,.i .i64 Os.length),(55,.i .i64 (i:Int))],
  [bx4 1,bx6 2]++mkBx 3 C L W++[(.loc 11,⟨8,.str,4,[[.sl [] .an,.bs (.fld (.loc 11) 1) 9 1 0 Q.length,.i .i64 (n:Int),.i .i64 pars]]⟩),(.fld (.loc 11) 1,⟨9,.own,1,natR Q⟩)],11⟩
section
variable{T:Tbl}[CText T][CComp T]
theorem zhl(f:Fd)(pars:Int)(C C1:List Ins)(L W W1:List Nat)(i p gc:Nat)(x:Lt)(hgc:gc=1∨gc=7)(hx:f.lets[i]? = some x)(hl:f.lets.length≤100000)(hL:L.length≤100000)(hc:x.code.length≤100000)
  (c:callH T 648 [cmP,.sl (rowN x.code) .an] (cmH 1 4 C L W)=some (.i .i64 (p:Int),cmH gc 10 C1 L W1)) :
  evX (orc T) T 0 l644_0 (stF1 f pars C L W i)=some (.n,stF1 f pars C1 (L++[p]) W1 (i+1)):=by
 obtain⟨hlt,hge⟩:=List.getElem?_eq_some_iff.1 hx
 have hlt':(i:Int)<f.lets.length:=by omega
 have hws:=za0 hlt (by omega)
 have hsL:=zaw L p
 have htkL:(natR L).take L.length=natR L:=List.take_of_length_le (by rw[zap];exact Nat.le_refl _)
 have h32:L.length+1≤4294967296:=by omega
 obtain⟨Ls,O⟩:=f
 obtain⟨nm,code⟩:=x
 dsimp only at *
 unfold stF1
 unfold cmH at c
 rcases hgc with rfl | rfl
 ·simp -implicitDefEqProofs[l644_0,hlt,hlt',hx,hge,hws,c,hsL,htkL,h32,genAt]
 ·simp -implicitDefEqProofs[l644_0,hlt,hlt',hx,hge,hws,c,hsL,htkL,h32,genAt]
theorem zhm(n:Nat)(Os:List (List Nd))(pars:Int)(C C1:List Ins)(L W W1 Q:List Nat)(i p gc:Nat)(x:List Nd)(hgc:gc=1∨gc=7)(hx:Os[i]? = some x)(hl:Os.length≤100000)(hQ:Q.length≤100000)(hc:x.length≤100000)
  (c:callH T 648 [cmP,.sl (rowN x) .an] (cmH 1 4 C L W)=some (.i .i64 (p:Int),cmH gc 10 C1 L W1)) :
  evX (orc T) T 0 l644_1 (stF2 n Os pars C L W Q i)=some (.n,stF2 n Os pars C1 L W1 (Q++[p]) (i+1)):=by
 obtain⟨hlt,hge⟩:=List.getElem?_eq_some_iff.1 hx
 have hlt':(i:Int)<Os.length:=by omega
 have hws:=za0 hlt (by omega)
 have hsQ:=zaw Q p
 have htkQ:(natR Q).take Q.length=natR Q:=List.take_of_length_le (by rw[zap];exact Nat.le_refl _)
 have h32:Q.length+1≤4294967296:=by omega
 unfold stF2
 unfold cmH at c
 rcases hgc with rfl | rfl
 ·simp -implicitDefEqProofs[l644_1,hlt,hlt',hx,hge,hws,c,hsQ,htkQ,h32,genAt]
 ·simp -implicitDefEqProofs[l644_1,hlt,hlt',hx,hge,hws,c,hsQ,htkQ,h32,genAt]
end
abbrev bx4A(z:Fz):Box:=⟨7,.str,3,[[.b z.1,.sl (u32s z.2.1) .an,.sl (u32s z.2.2) .an]]⟩
abbrev bx5A(a b c d:Int):Box:=⟨8,.str,4,[[.i .i64 a,.i .i64 b,.i .i64 c,.i .i64 d]]⟩
abbrev hqA(gk:Nat)(Q:PoF)(LS:List Fz)(s p L seen:Int)(F:List Fz)(m:Nat)(z:Fz)(a b c d:Int):Heap:=
 [(.bor 0,⟨0,.str,9,[[.b Q.t.1,.sl (u32s Q.t.2.1) .an,.sl (u32s Q.t.2.2) .an,.sl (rowF Q.y) .an,.sl (rowF Q.p) .an,.sl (rowF LS) .an,.ptr (.bor 1) 1 3 0 0,.i .i64 seen,.bs (.bor 2) gk 3 0 m]]⟩),(.bor 1,bxG 1 s p L),(.bor 2,⟨gk,.own,3,rowF F⟩),(.loc 4,bx4A z),(.loc 5,bx5A a b c d)]
def stWA(gk:Nat)(Q:PoF)(LS:List Fz)(s p L seen:Int)(F:List Fz)(m:Nat)(code:List Nd)(i:Nat):St:=
 ⟨[(0,wP),(4,.ptr (.loc 4) 7 3 0 0),(5,.ptr (.loc 5) 8 4 0 0),(18,.sl (rowN code) .an),(19,.i .i64 code.length),(20,.i .i64 i)],hqA gk Q LS s p L seen F m (false,[],[]) 0 0 0 0,10⟩
def endWA(gk:Nat)(Q:PoF)(LS:List Fz)(s p L seen:Int)(F:List Fz)(m:Nat):Ex×St:=
 (.n,⟨[(0,wP),(4,.ptr (.loc 4) 7 3 0 0),(5,.ptr (.loc 5) 8 4 0 0)],hqA gk Q LS s p L seen F m (false,[],[]) 0 0 0 0,10⟩)
def endSA(gk:Nat)(Q:PoF)(LS:List Fz)(s p L seen:Int)(F:List Fz)(m:Nat)(kind at_:Int):Ex×St:=
 (.r,⟨[(4,.ptr (.loc 4) 7 3 0 0),(5,.ptr (.loc 5) 8 4 0 0)],hqA gk Q LS s p L seen F m (fz 0) kind 0 0 at_,10⟩)
section
variable{T:Tbl}[CLimb T][CNat T][CProd T][CTwos T][CQuot T][CQuotD T][CWhole T][CCommon T][CFrac T][CFrac2 T][CFrac3 T][CFrac5 T][CPow T][CTape T][CGauge T][CEval T][CEval2 T][CTree T][CText T][CLenD T]
def endQA(P:Po)(lim:Nat)(ls:List Rat)(n:Nat)(R:Rat×Nat×Nat)(r:Ex×St):Prop:=
 (R.2.1=0∧∃gk s p F,(gk=2∨gk=6)∧F[0]? = some (fz R.1)∧F.length≤5000∧r=endWA gk P.f (fzs ls) s p lim n F 1) ∨
 (R.2.1≠0∧∃gk s p seen F m,(gk=2∨gk=6)∧r=endSA gk P.f (fzs ls) s p lim seen F m R.2.1 R.2.2)
end
end Go.Ab
section
namespace Go.Ab
end Go.Ab
end
namespace Go.Ab
abbrev flt4(a b c d:Int):AV:=.agg [.i .i64 a,.i .i64 b,.i .i64 c,.i .i64 d]
section
variable{T:Tbl}[CTree T][CTree2 T][CText T][CLenD T][CLimb T][CNat T][CJoin T][CLex T][CCheck T]
theorem zq6(s:List UInt8)(hs:s.length≤100000):callF T 486 [.s s]=some (.b (nameB s)):=by
 have c:=zuy (T:=T) 2 0 s hs
 unfold nameB
 rw[f486 _ rfl,b486]
 generalize rightB 2 s=B at *
 by_cases h1:s=[116]
 ·subst h1;cases B<;>simp -implicitDefEqProofs
 by_cases h2:s=[121]
 ·subst h2;cases B<;>simp -implicitDefEqProofs
 by_cases h3:s=[112]
 ·subst h3;cases B<;>simp -implicitDefEqProofs
 by_cases h4:s=[108,101,116]
 ·subst h4;cases B<;>simp -implicitDefEqProofs
 cases B<;>simp -implicitDefEqProofs[c,h1,h2,h3,h4]
theorem zn5(L:List Lt)(i:Nat)(hi:i<L.length)(hL:L.length≤100000):callF T 487 [.sl (rowLt L) .an,.i .i64 i]=some (.b (twB (L.take i) (L[i]'hi).name)):=by
 have hlo:loopN T 0 0 (.norm false []) l487_0 ⟨[(0,.sl (rowLt L) .an),(1,.i .i64 i),(6,.i .i64 i),(7,.i .i64 ((0:Nat):Int))],[],2⟩ =
   if twB ((L.take i).drop 0) (L[i]'hi).name=true then some (.r,⟨[(4,.b true)],[],2⟩) else some (.n,⟨[],[],2⟩):=by
  refine zba (fun k=>⟨[(0,.sl (rowLt L) .an),(1,.i .i64 i),(6,.i .i64 i),(7,.i .i64 ((k:Nat):Int))],[],2⟩) i
   (fun k=>if twB ((L.take i).drop k) (L[i]'hi).name=true then some (.r,_) else some (.n,_)) (fun k hk=>?_) ?_
  ·have hk1:k<L.length:=by omega
   have hg:L[k]? = some (L[k]'hk1):=List.getElem?_eq_getElem hk1
   have hgi:L[i]? = some (L[i]'hi):=List.getElem?_eq_getElem hi
   have hk2:k<(L.take i).length:=by rw[List.length_take];omega
   have hd:(L.take i).drop k=(L.take i)[k]'hk2::(L.take i).drop (k+1):=List.drop_eq_getElem_cons hk2
   have hx2:(L.take i)[k]'hk2=L[k]'hk1:=by simp
   rw[hx2]at hd
   have hws:=za0 hk (by omega)
   have hk':(k:Int)<i:=by omega
   have hi':(i:Int)<L.length:=by omega
   have hk1':(k:Int)<L.length:=by omega
   generalize hx:L[k]'hk1=x at *
   generalize hy:L[i]'hi=y at *
   obtain⟨xn,xc⟩:=x
   obtain⟨yn,yc⟩:=y
   by_cases hc:xn=yn
   ·right
    rw[if_pos (by rw[hd];simp[twB,hc])]
    clear hd
    constructor<;>simp -implicitDefEqProofs[l487_0,hk,hk',hk1,hk1',hi,hi',hg,hgi,hx,hy,hc]
   ·left
    refine⟨?_,by rw[hd];simp[twB,hc]⟩
    clear hd
    simp -implicitDefEqProofs[l487_0,hk,hk',hk1,hk1',hi,hi',hg,hgi,hx,hy,hc,hws]
  ·rw[List.drop_of_length_le (by rw[List.length_take];omega)]
   simp only[twB,List.any_nil,Bool.false_eq_true,if_false]
   constructor<;>simp -implicitDefEqProofs[l487_0]
 rw[List.drop_zero]at hlo
 simp only[Int.natCast_zero]at hlo
 rw[f487 _ rfl,b487]
 generalize twB (L.take i) (L[i]'hi).name=B at *
 cases B with
 | true=>
  rw[if_pos rfl]at hlo
  simp -implicitDefEqProofs[hlo]
 | false=>
  rw[if_neg (by decide)]at hlo
  simp -implicitDefEqProofs[hlo]
theorem zjg(c:List Nd)(num dim pars lets:Int)(hl:c.length≤50000)(hn:thin 1000 c):callF T 488 [.sl (rowN c) .an,.i .i64 num,.i .i64 dim,.i .i64 pars,.i .i64 lets] =
  some (if 0≤ptA dim pars lets c then flt4 2 num 0 (ptA dim pars lets c) else flt4 0 0 0 0):=by
 have c1:=zos (T:=T) c dim pars lets (by omega) hn
 have c2:=zr8 (T:=T) c hl
 have hp:=znb dim pars lets c
 unfold ptA
 rw[f488 _ rfl,b488]
 generalize depN c=d at *
 generalize placeN dim pars lets c=p at *
 by_cases h:p<0
 ·by_cases hd:40<d
  ·have hd':(40:Int)<d:=by omega
   have hnl:¬ (c.length:Int)<0:=by omega
   have h0:(0:Int)≤c.length:=by omega
   rw[if_pos (show p<0∧40<d from ⟨h,hd⟩),if_pos h0]
   simp -implicitDefEqProofs[c1,c2,h,hd,hd',hnl]
  ·have hd':¬ (40:Int)<d:=by omega
   have h0:¬ 0≤p:=by omega
   rw[if_neg (show ¬ (p<0∧40<d) from fun hh=>hd hh.2),if_neg h0]
   simp -implicitDefEqProofs[c1,c2,h,hd,hd']
 ·have h0:0≤p:=by omega
  rw[if_neg (show ¬ (p<0∧40<d) from fun hh=>h hh.1),if_pos h0]
  simp -implicitDefEqProofs[c1,c2,h]
theorem zn6(f:Fd)(dim pars:Int)(h1:f.lets.length≤100000)(h2:f.outs.length≤100000)(hn:thinD 1000 50000 f)(hs:sizeD f≤4294967295):callF T 485 [efd f,.i .i64 dim,.i .i64 pars]=some (.b (whB f dim pars)):=by
 have c:=zv1 (T:=T) f h1 h2 (fun c hc=>⟨Nat.le_trans (hn c hc).1 (by decide),(hn c hc).2⟩) hs
 unfold whB
 generalize sizeD f=S at *
 obtain⟨L,O⟩:=f
 dsimp only at *
 rw[f485 _ rfl,b485]
 by_cases g1:1≤dim
 ·by_cases g2:dim≤6
  ·by_cases g3:0≤pars
   ·by_cases g4:pars≤6
    ·by_cases g5:(O.length:Int)=dim
     ·by_cases g6:L.length≤10
      ·have g6':(L.length:Int)≤10:=by omega
       by_cases g7:S≤300
       ·have g7':(S:Int)≤300:=by omega
        simp -implicitDefEqProofs[g1,g2,g3,g4,g5,g6,g6',g7,g7',c]
       ·have g7':¬ (S:Int)≤300:=by omega
        simp -implicitDefEqProofs[g1,g2,g3,g4,g5,g6,g6',g7,g7',c]
      ·have g6':¬ (L.length:Int)≤10:=by omega
       simp -implicitDefEqProofs[g1,g2,g3,g4,g5,g6,g6',c]
     ·simp -implicitDefEqProofs[g1,g2,g3,g4,g5,c]
    ·simp -implicitDefEqProofs[g1,g2,g3,g4,c]
   ·simp -implicitDefEqProofs[g1,g2,g3,c]
  ·simp -implicitDefEqProofs[g1,g2,c]
 ·simp -implicitDefEqProofs[g1,c]
end
abbrev bxFd(g:Nat)(f:Fd):Box:=⟨g,.str,2,[[.sl (rowLt f.lets) .an,.sl (rowC f.outs) .an]]⟩
def fltC(q:Option (Int×Int×Int)):AV:=match q with
 | some (a,b,c)=>flt4 2 a b c
 | none=>flt4 0 0 0 0
def endC(a b c:Int):Option (Ex×St):=some (.r,⟨[(6,.ptr (.loc 6) 1 4 0 0)],[(.loc 6,⟨1,.str,4,[[.i .i64 2,.i .i64 a,.i .i64 b,.i .i64 c]]⟩)],3⟩)
section
variable{T:Tbl}[CTree T][CTree2 T][CText T][CLenD T][CLimb T][CNat T][CJoin T][CLex T][CCheck T]
def stCL(f:Fd)(dim pars:Int)(i:Nat):St:=⟨[(1,.i .i64 dim),(2,.i .i64 pars),(3,.ptr (.loc 3) 1 2 0 0),(6,.ptr (.loc 6) 2 4 0 0),(20,.sl (rowLt f.lets) .an),(21,.i .i64 f.lets.length),(22,.i .i64 i)],[(.loc 3,bxFd 1 f),(.loc 6,⟨2,.str,4,[[.i .i64 0,.i .i64 0,.i .i64 0,.i .i64 0]]⟩)],4⟩
theorem zq7(f:Fd)(dim pars:Int)(h1:f.lets.length≤10)(hn:thinD 1000 50000 f)(hs:∀x∈f.lets,x.name.length≤100000) :
  loopN T 0 0 (.norm false [1,2,3,6]) l477_0 (stCL f dim pars 0)=match chkL dim pars f.lets 0 f.lets with
   | some (a,b,c)=>endC a b c
   | none=>some (.n,⟨[(1,.i .i64 dim),(2,.i .i64 pars),(3,.ptr (.loc 3) 1 2 0 0),(6,.ptr (.loc 6) 2 4 0 0)],[(.loc 3,bxFd 1 f),(.loc 6,⟨2,.str,4,[[.i .i64 0,.i .i64 0,.i .i64 0,.i .i64 0]]⟩)],4⟩):=by
 have:=zba (T:=T) (k:=0) (id:=0) (g2:=.norm false [1,2,3,6]) (c:=l477_0) (stCL f dim pars) f.lets.length
  (fun i=>match chkL dim pars f.lets i (f.lets.drop i) with
   | some (a,b,c)=>endC a b c
   | none=>some (.n,⟨[(1,.i .i64 dim),(2,.i .i64 pars),(3,.ptr (.loc 3) 1 2 0 0),(6,.ptr (.loc 6) 2 4 0 0)],[(.loc 3,bxFd 1 f),(.loc 6,⟨2,.str,4,[[.i .i64 0,.i .i64 0,.i .i64 0,.i .i64 0]]⟩)],4⟩)) (fun i hi=>?_) ?_
 ·simpa using this
 ·have hg:f.lets[i]? = some (f.lets[i]'hi):=List.getElem?_eq_getElem hi
  have hd:f.lets.drop i=f.lets[i]'hi::f.lets.drop (i+1):=List.drop_eq_getElem_cons hi
  have hi':(i:Int)<f.lets.length:=by omega
  have hws:=za0 hi (by omega)
  have hw1:IntKind.wrap .i64 ((i:Int)+1)=(i:Int)+1:=zab _ (by omega)
  obtain⟨hc1,hc2⟩:=hn (f.lets[i]'hi).code (List.mem_append.2 (.inl (List.mem_map.2 ⟨_,List.getElem_mem hi,rfl⟩)))
  have k1:=zq6 (T:=T) (f.lets[i]'hi).name (hs _ (List.getElem_mem hi))
  have k2:=zn5 (T:=T) f.lets i hi (by omega)
  have k3:=zjg (T:=T) (f.lets[i]'hi).code ((i:Int)+1) dim pars i hc1 hc2
  have hp0:ptA dim pars i (f.lets[i]'hi).code<0∨0≤ptA dim pars i (f.lets[i]'hi).code:=by omega
  rw[hd,chkL]
  obtain⟨L,O⟩:=f
  dsimp only at *
  clear hd hn hs hc1 hc2
  generalize hx:L[i]'hi=x at *
  obtain⟨nm,code⟩:=x
  dsimp only at *
  unfold stCL bxFd endC
  dsimp only
  rw[hws]at hw1
  generalize ptA dim pars i code=p at *
  generalize twB (L.take i) nm=B at *
  cases hA:nameB nm with
  | false=>
   right
   rw[hA]at k1
   rw[if_pos (.inl rfl)]
   constructor<;>simp -implicitDefEqProofs[l477_0,hi,hi',hg,hx,k1,hws]
  | true=>
   rw[hA]at k1
   cases B with
   | true=>
    right
    rw[if_pos (.inr rfl)]
    constructor<;>simp -implicitDefEqProofs[l477_0,hi,hi',hg,hx,k1,k2,hws]
   | false=>
    rw[if_neg (by simp)]
    rcases hp0 with hp0 | hp0
    ·left
     have hp1:¬ 0≤p:=by omega
     rw[if_neg hp1]at k3 ⊢
     refine⟨?_,rfl⟩
     simp -implicitDefEqProofs[l477_0,hi,hi',hg,hx,k1,k2,k3,hws]
    ·right
     rw[if_pos hp0]at k3 ⊢
     constructor<;>simp -implicitDefEqProofs[l477_0,hi,hi',hg,hx,k1,k2,k3,hws]
 ·rw[List.drop_length,chkL]
  unfold stCL bxFd
  constructor<;>simp -implicitDefEqProofs[l477_0]
def stCO(f:Fd)(dim pars:Int)(i:Nat):St:=⟨[(1,.i .i64 dim),(2,.i .i64 pars),(3,.ptr (.loc 3) 1 2 0 0),(6,.ptr (.loc 6) 2 4 0 0),(54,.sl (rowC f.outs) .an),(55,.i .i64 f.outs.length),(56,.i .i64 i)],[(.loc 3,bxFd 1 f),(.loc 6,⟨2,.str,4,[[.i .i64 0,.i .i64 0,.i .i64 0,.i .i64 0]]⟩)],4⟩
theorem zq8(f:Fd)(dim pars:Int)(h1:f.lets.length≤10)(h2:f.outs.length≤10)(hn:thinD 1000 50000 f) :
  loopN T 0 2 (.norm false [6]) l477_1 (stCO f dim pars 0)=match chkO dim pars f.lets.length 0 f.outs with
   | some (a,b,c)=>endC a b c
   | none=>some (.n,⟨[(6,.ptr (.loc 6) 1 4 0 0)],[(.loc 6,⟨1,.str,4,[[.i .i64 0,.i .i64 0,.i .i64 0,.i .i64 0]]⟩)],3⟩):=by
 have:=zba (T:=T) (k:=0) (id:=2) (g2:=.norm false [6]) (c:=l477_1) (stCO f dim pars) f.outs.length
  (fun i=>match chkO dim pars f.lets.length i (f.outs.drop i) with
   | some (a,b,c)=>endC a b c
   | none=>some (.n,⟨[(6,.ptr (.loc 6) 1 4 0 0)],[(.loc 6,⟨1,.str,4,[[.i .i64 0,.i .i64 0,.i .i64 0,.i .i64 0]]⟩)],3⟩)) (fun i hi=>?_) ?_
 ·simpa using this
 ·have hg:f.outs[i]? = some (f.outs[i]'hi):=List.getElem?_eq_getElem hi
  have hd:f.outs.drop i=f.outs[i]'hi::f.outs.drop (i+1):=List.drop_eq_getElem_cons hi
  have hi':(i:Int)<f.outs.length:=by omega
  have hws:=za0 hi (by omega)
  have hw1:IntKind.wrap .i64 ((f.lets.length:Int)+i)=(f.lets.length:Int)+i:=zab _ (by omega)
  have hw2:IntKind.wrap .i64 ((f.lets.length:Int)+i+1)=(f.lets.length:Int)+i+1:=zab _ (by omega)
  have hw3:(((f.lets.length+i:Nat):Int)+1)=(f.lets.length:Int)+i+1:=by omega
  obtain⟨hc1,hc2⟩:=hn (f.outs[i]'hi) (List.mem_append.2 (.inr (List.getElem_mem hi)))
  have k3:=zjg (T:=T) (f.outs[i]'hi) ((f.lets.length:Int)+i+1) dim pars f.lets.length hc1 hc2
  have hp0:ptA dim pars f.lets.length (f.outs[i]'hi)<0∨0≤ptA dim pars f.lets.length (f.outs[i]'hi):=by omega
  rw[hd,chkO,hw3]
  obtain⟨L,O⟩:=f
  dsimp only at *
  clear hd hn hc1 hc2 hw3
  generalize hx:O[i]'hi=x at *
  unfold stCO bxFd endC
  dsimp only
  generalize ptA dim pars L.length x=p at *
  rcases hp0 with hp0 | hp0
  ·left
   have hp1:¬ 0≤p:=by omega
   rw[if_neg hp1]at k3 ⊢
   refine⟨?_,rfl⟩
   simp -implicitDefEqProofs[l477_1,hi,hi',hg,hx,k3,hws,hw1,hw2]
  ·right
   rw[if_pos hp0]at k3 ⊢
   constructor<;>simp -implicitDefEqProofs[l477_1,hi,hi',hg,hx,k3,hws,hw1,hw2]
 ·rw[List.drop_length,chkO]
  unfold stCO bxFd
  constructor<;>simp -implicitDefEqProofs[l477_1]
theorem zhk(f:Fd)(dim pars:Int)(h1:f.lets.length≤100000)(h2:f.outs.length≤100000)(hn:thinD 1000 50000 f)(hz:sizeD f≤4294967295)(hs:∀x∈f.lets,x.name.length≤100000) :
  callF T 477 [efd f,.i .i64 dim,.i .i64 pars]=some (fltC (chkD f dim pars)):=by
 have c:=zn6 (T:=T) f dim pars h1 h2 hn hz
 unfold chkD
 cases hW:whB f dim pars with
 | false=>
  rw[hW]at c
  rw[if_pos rfl]
  unfold fltC
  obtain⟨L,O⟩:=f
  dsimp only at *
  rw[f477 _ rfl,b477]
  simp -implicitDefEqProofs[c]
 | true=>
  rw[hW]at c
  rw[if_neg (by decide)]
  have hW2:(1≤dim∧dim≤6∧0≤pars∧pars≤6∧(f.outs.length:Int)=dim∧f.lets.length≤10∧sizeD f≤300):=by simpa[whB]using hW
  have a1:=zq7 (T:=T) f dim pars hW2.2.2.2.2.2.1 hn hs
  have a2:=zq8 (T:=T) f dim pars hW2.2.2.2.2.2.1 (by omega) hn
  generalize chkL dim pars f.lets 0 f.lets=X at *
  generalize chkO dim pars f.lets.length 0 f.outs=Y at *
  unfold stCL bxFd endC at a1
  unfold stCO bxFd endC at a2
  simp only[Int.natCast_zero]at a1 a2
  obtain⟨L,O⟩:=f
  dsimp only at *
  clear hW2 hn hs hz
  rw[f477 _ rfl,b477]
  obtain _ | ⟨x1,x2,x3⟩:=X
  ·dsimp only at a1 ⊢
   obtain _ | ⟨y1,y2,y3⟩:=Y
   ·dsimp only at a2
    unfold fltC
    simp -implicitDefEqProofs[c,a1,a2]
   ·dsimp only at a2
    unfold fltC
    simp -implicitDefEqProofs[c,a1,a2]
  ·dsimp only at a1 ⊢
   unfold fltC
   simp -implicitDefEqProofs[c,a1]
end
structure Fq where
 C:List Ins
 W:List Nat
 P:List Nat
def ltQ(q:Fq)(c:List Nd):Fq:=let r:=exQ q.P q.C q.W c;⟨r.C,r.W,q.P++[(r.s[0]?).getD 0]⟩
def ltsQ(L:List (List Nd)):Fq:=L.foldl ltQ ⟨[],[],[]⟩
def ouQ(Ls:List Nat)(q:Fq)(c:List Nd):Fq:=let r:=exQ Ls q.C q.W c;⟨r.C,r.W,q.P++[(r.s[0]?).getD 0]⟩
def ousQ(q:Fq)(O:List (List Nd)):Fq:=O.foldl (ouQ q.P) ⟨q.C,q.W,[]⟩
theorem zdv(L:List (List Nd))(c:List Nd):ltsQ (L++[c])=ltQ (ltsQ L) c:=by simp[ltsQ]
theorem zdw(q:Fq)(O:List (List Nd))(c:List Nd):ousQ q (O++[c])=ouQ q.P (ousQ q O) c:=by simp[ousQ]
theorem zup(Ls:List Nat)(C:List Ins)(W:List Nat)(c:List Nd):(exQ Ls C W c).C.length≤C.length+c.length∧(exQ Ls C W c).W.length=W.length+c.length:=by
 induction c using zep with
 | nil=>exact⟨Nat.le_refl _,rfl⟩
 | append_singleton c x ih=>
  rw[zp5]
  have:=zn8 Ls (exQ Ls C W c).C (exQ Ls C W c).s x
  refine⟨?_,?_⟩
  ·show (ndI Ls (exQ Ls C W c).C (exQ Ls C W c).s x).1.length≤_
   rw[List.length_append,List.length_singleton];omega
  ·show ((exQ Ls C W c).W++[_]).length=_
   rw[List.length_append,List.length_append,List.length_singleton,List.length_singleton,ih.2];omega
theorem zd7(L:List (List Nd)):(ltsQ L).P.length=L.length∧(ltsQ L).C.length≤(L.map List.length).sum∧(ltsQ L).W.length=(L.map List.length).sum:=by
 induction L using zep with
 | nil=>exact⟨rfl,Nat.le_refl _,rfl⟩
 | append_singleton L c ih=>
  rw[zdv]
  obtain⟨h1,h2,h3⟩:=ih
  have:=zup (ltsQ L).P (ltsQ L).C (ltsQ L).W c
  refine⟨?_,?_,?_⟩
  ·show ((ltsQ L).P++[_]).length=_
   simp[h1]
  ·show (exQ (ltsQ L).P (ltsQ L).C (ltsQ L).W c).C.length≤_
   rw[List.map_append,List.sum_append]
   simp
   omega
  ·show (exQ (ltsQ L).P (ltsQ L).C (ltsQ L).W c).W.length=_
   rw[List.map_append,List.sum_append]
   simp
   omega
theorem zkh(L:List (List Nd)):∀y∈(ltsQ L).C,MkI y:=by
 induction L using zep with
 | nil=>intro y hy;cases hy
 | append_singleton L c ih=>rw[zdv];exact zm3 _ c ⟨_,_,[]⟩ ih
theorem zgc(q:Fq)(O:List (List Nd)):(ousQ q O).P.length=O.length∧(ousQ q O).C.length≤q.C.length+(O.map List.length).sum∧(ousQ q O).W.length=q.W.length+(O.map List.length).sum:=by
 induction O using zep with
 | nil=>exact⟨rfl,Nat.le_refl _,rfl⟩
 | append_singleton O c ih=>
  rw[zdw]
  obtain⟨h1,h2,h3⟩:=ih
  have:=zup q.P (ousQ q O).C (ousQ q O).W c
  refine⟨?_,?_,?_⟩
  ·show ((ousQ q O).P++[_]).length=_
   simp[h1]
  ·show (exQ q.P (ousQ q O).C (ousQ q O).W c).C.length≤_
   rw[List.map_append,List.sum_append]
   simp
   omega
  ·show (exQ q.P (ousQ q O).C (ousQ q O).W c).W.length=_
   rw[List.map_append,List.sum_append]
   simp
   omega
theorem zuq(q:Fq)(O:List (List Nd))(h:∀y∈q.C,MkI y):∀y∈(ousQ q O).C,MkI y:=by
 induction O using zep with
 | nil=>exact h
 | append_singleton O c ih=>rw[zdw];exact zm3 _ c ⟨_,_,[]⟩ ih
def fldQ(f:Fd):Fq:=ousQ (ltsQ (f.lets.map (·.code))) f.outs
def tapQ(f:Fd)(pars:Int):Tp:=⟨(fldQ f).C,(fldQ f).P.map fun(n:Nat)=>(n:Int),f.outs.length,pars⟩
theorem zdf(l:List (List Nd))(i:Nat):((l.take i).map List.length).sum≤(l.map List.length).sum:=by
 conv=>rhs;rw[←List.take_append_drop i l,List.map_append,List.sum_append]
 omega
section
variable{T:Tbl}[CText T][CComp T][CLimb T][CNat T][CProd T][CTwos T][CQuot T][CQuotD T][CWhole T][CCommon T][CFrac T][CFrac2 T][CFrac3 T][CFrac5 T][CPow T][CTape T][CGauge T][CEval T][CEval2 T][CTree T][CLenD T]
theorem zur(f:Fd)(dim pars:Int)(hF:FineD f dim pars)(hn:thinD 1000 50000 f) :
  loopN T 0 0 (.norm false [1,2,4,6,8]) l644_0 (stF1 f pars [] [] [] 0) =
   some (.n,⟨[(1,.i .i64 pars),(2,.ptr (.loc 2) 1 2 0 0),(4,.ptr (.loc 4) 2 4 0 0),(6,.ptr (.loc 6) 3 4 0 0),(8,.ptr mkB 4 4 0 0)],
    [(.loc 2,⟨1,.str,2,[[.sl (rowLt f.lets) .an,.sl (rowC f.outs) .an]]⟩),bx4 2,bx6 3]++mkBx 4 (ltsQ (f.lets.map (·.code))).C (ltsQ (f.lets.map (·.code))).P (ltsQ (f.lets.map (·.code))).W,10⟩):=by
 have hsz:=hF.wh.2.2.2.2.2.2
 have h10:=hF.wh.2.2.2.2.2.1
 have hsum:((f.lets.map (·.code)).map List.length).sum≤300:=by
  unfold sizeD codesD at hsz
  rw[List.map_append,List.sum_append]at hsz
  omega
 refine zai (T:=T) (k:=0) (id:=0) (g2:=.norm false [1,2,4,6,8]) (c:=l644_0) (fun i=>stF1 f pars (ltsQ ((f.lets.map (·.code)).take i)).C (ltsQ ((f.lets.map (·.code)).take i)).P (ltsQ ((f.lets.map (·.code)).take i)).W i) f.lets.length _ (fun i hi=>?_) ?_
 ·obtain⟨x,hx,hmem⟩:∃x,f.lets[i]? = some x∧x∈f.lets:=⟨f.lets[i]'hi,List.getElem?_eq_getElem hi,List.getElem_mem hi⟩
  have hxc:(f.lets.map (·.code))[i]? = some x.code:=by rw[List.getElem?_map,hx];rfl
  have htk:ltsQ ((f.lets.map (·.code)).take (i+1))=ltQ (ltsQ ((f.lets.map (·.code)).take i)) x.code:=by rw[List.take_add_one,hxc,Option.toList_some,zdv]
  obtain⟨h1,h2,h3⟩:=zd7 ((f.lets.map (·.code)).take i)
  have hs:=zdf (f.lets.map (·.code)) i
  have hmk:=zkh ((f.lets.map (·.code)).take i)
  have hil:((f.lets.map (·.code)).take i).length=i:=by rw[List.length_take,List.length_map];omega
  obtain⟨t,ht,hte,hok⟩:=zb3 (hF.lets i x hx)
  have hwr:wrongN x.code=-1:=by rw[←hte];exact zct ht
  have hcl:=hF.len x.code (zb2 hmem)
  have hth:=(hn x.code (zb2 hmem)).2
  rw[htk]
  generalize ltsQ ((f.lets.map (·.code)).take i)=q at *
  obtain⟨Cq,Wq,Pq⟩:=q
  dsimp only at *
  obtain⟨_,gc,hgc,hc⟩:=zmg (T:=T) Cq Pq Wq x.code hmk hwr (fun y hy ho=>by
   have:=zia (hok y hy) ho
   omega) hth (by omega) (by omega) (by omega)
  exact zhl f pars Cq _ Pq Wq _ i _ gc x hgc hx (by omega) (by omega) (by omega) hc
 ·rw[show f.lets.length=(f.lets.map (·.code)).length by simp,List.take_length]
  unfold stF1
  rw[show (f.lets.map (·.code)).length=f.lets.length by simp]
  generalize ltsQ (f.lets.map (·.code))=q
  obtain⟨Cq,Wq,Pq⟩:=q
  constructor<;>simp -implicitDefEqProofs[l644_0]
theorem zus(f:Fd)(dim pars:Int)(hF:FineD f dim pars)(hn:thinD 1000 50000 f) :
  loopN T 0 2 (.norm false [4,6,8,11]) l644_1 (stF2 f.outs.length f.outs pars (ltsQ (f.lets.map (·.code))).C (ltsQ (f.lets.map (·.code))).P (ltsQ (f.lets.map (·.code))).W [] 0) =
   some (.n,⟨[(4,.ptr (.loc 4) 1 4 0 0),(6,.ptr (.loc 6) 2 4 0 0),(8,.ptr mkB 3 4 0 0),(11,.ptr (.loc 11) 8 4 0 0)],
    [bx4 1,bx6 2]++mkBx 3 (fldQ f).C (ltsQ (f.lets.map (·.code))).P (fldQ f).W++[(.loc 11,⟨8,.str,4,[[.sl [] .an,.bs (.fld (.loc 11) 1) 9 1 0 (fldQ f).P.length,.i .i64 (f.outs.length:Int),.i .i64 pars]]⟩),(.fld (.loc 11) 1,⟨9,.own,1,natR (fldQ f).P⟩)],11⟩):=by
 have hsz:=hF.wh.2.2.2.2.2.2
 have h10:=hF.wh.2.2.2.2.2.1
 have hod:=hF.wh.2.2.2.2.1
 have hd6:=hF.wh.2.1
 have hsum:((f.lets.map (·.code)).map List.length).sum+(f.outs.map List.length).sum≤300:=by
  unfold sizeD codesD at hsz
  rw[List.map_append,List.sum_append]at hsz
  omega
 obtain⟨l1,l2,l3⟩:=zd7 (f.lets.map (·.code))
 rw[List.length_map]at l1
 have lmk:=zkh (f.lets.map (·.code))
 unfold fldQ
 generalize ltsQ (f.lets.map (·.code))=q0 at *
 refine zai (T:=T) (k:=0) (id:=2) (g2:=.norm false [4,6,8,11]) (c:=l644_1) (fun i=>stF2 f.outs.length f.outs pars (ousQ q0 (f.outs.take i)).C q0.P (ousQ q0 (f.outs.take i)).W (ousQ q0 (f.outs.take i)).P i) f.outs.length _ (fun i hi=>?_) ?_
 ·obtain⟨x,hx,hmem⟩:∃x,f.outs[i]? = some x∧x∈f.outs:=⟨f.outs[i]'hi,List.getElem?_eq_getElem hi,List.getElem_mem hi⟩
  have htk:ousQ q0 (f.outs.take (i+1))=ouQ q0.P (ousQ q0 (f.outs.take i)) x:=by rw[List.take_add_one,hx,Option.toList_some,zdw]
  obtain⟨h1,h2,h3⟩:=zgc q0 (f.outs.take i)
  have hs:=zdf f.outs i
  have hmk:=zuq q0 (f.outs.take i) lmk
  have hil:(f.outs.take i).length=i:=by rw[List.length_take];omega
  obtain⟨t,ht,hte,hok⟩:=zb3 (hF.outs x hmem)
  have hwr:wrongN x=-1:=by rw[←hte];exact zct ht
  have hcl:=hF.len x (zcj hmem)
  have hth:=(hn x (zcj hmem)).2
  rw[htk]
  generalize ousQ q0 (f.outs.take i)=q at *
  obtain⟨Cq,Wq,Pq⟩:=q
  dsimp only at *
  obtain⟨_,gc,hgc,hc⟩:=zmg (T:=T) Cq q0.P Wq x hmk hwr (fun y hy ho=>by
   have:=zia (hok y hy) ho
   omega) hth (by omega) (by omega) (by omega)
  exact zhm f.outs.length f.outs pars Cq _ q0.P Wq _ Pq i _ gc x hgc hx (by omega) (by omega) (by omega) hc
 ·rw[List.take_length]
  unfold stF2
  generalize ousQ q0 f.outs=q
  obtain⟨Cq,Wq,Pq⟩:=q
  obtain⟨C0,W0,P0⟩:=q0
  constructor<;>simp -implicitDefEqProofs[l644_1]
end
theorem zpy(Q:List Nat):ints (Q.map fun(n:Nat)=>(n:Int))=natR Q:=by simp[ints,natR]
section
variable{T:Tbl}[CText T][CComp T][CLimb T][CNat T][CProd T][CTwos T][CQuot T][CQuotD T][CWhole T][CCommon T][CFrac T][CFrac2 T][CFrac3 T][CFrac5 T][CPow T][CTape T][CGauge T][CEval T][CEval2 T][CTree T][CLenD T]
theorem zrb:callH T 647 [] []=some (.ptr (.loc 3) 1 4 0 0,[(.loc 3,⟨1,.str,4,[[.sl [] .nl,.fnp 0 (.loc 1) 2 2 0 0,.sl [] .nl,.sl [] .nl]]⟩),(.loc 1,⟨2,.mp,2,[]⟩)]):=by
 rw[f647 _ _ rfl,b647]
 simp -implicitDefEqProofs[genAt]
variable[CTree2 T][CJoin T][CLex T][CCheck T]
theorem zei(f:Fd)(pars:Int)(h1:f.lets.length≤100000)(h2:f.outs.length≤100000)(hn:thinD 1000 50000 f)(hz:sizeD f≤4294967295)(hs:∀x∈f.lets,x.name.length≤100000)(q:Int×Int×Int)(hq:chkD f f.outs.length pars=some q) :
  callF T 644 [efd f,.i .i64 pars]=some (.tup [etp ⟨[],[],0,0⟩,.sl [] .an,fltC (some q)]):=by
 have c:=zhk (T:=T) f f.outs.length pars h1 h2 hn hz hs
 rw[hq]at c
 obtain⟨q1,q2,q3⟩:=q
 unfold fltC at c ⊢
 obtain⟨L,O⟩:=f
 dsimp only at *
 clear hq hn hz hs
 rw[f644 _ rfl,b644]
 simp -implicitDefEqProofs[c]
theorem zfn(f:Fd)(pars:Int)(h1:f.lets.length≤100000)(h2:f.outs.length≤100000)(hn:thinD 1000 50000 f)(hz:sizeD f≤4294967295)(hs:∀x∈f.lets,x.name.length≤100000)(hq:chkD f f.outs.length pars=none) :
  callF T 644 [efd f,.i .i64 pars]=some (.tup [etp (tapQ f pars),.sl (natR (fldQ f).W) .an,fltC none]):=by
 have c:=zhk (T:=T) f f.outs.length pars h1 h2 hn hz hs
 rw[hq]at c
 have hF:=zh7 hq
 have l1:=zur (T:=T) f f.outs.length pars hF hn
 have l2:=zus (T:=T) f f.outs.length pars hF hn
 have hb:=zrb (T:=T)
 unfold tapQ
 unfold fltC at c ⊢
 unfold stF1 at l1
 unfold stF2 at l2
 dsimp only[etp]
 rw[zpy]
 have htW:(natR (fldQ f).W).take (fldQ f).W.length=natR (fldQ f).W:=List.take_of_length_le (by rw[zap];exact Nat.le_refl _)
 have htP:(natR (fldQ f).P).take (fldQ f).P.length=natR (fldQ f).P:=List.take_of_length_le (by rw[zap];exact Nat.le_refl _)
 have htC:(rowI (fldQ f).C).take (fldQ f).C.length=rowI (fldQ f).C:=List.take_of_length_le (by rw[zeq];exact Nat.le_refl _)
 generalize ltsQ (f.lets.map (·.code))=q0 at *
 generalize fldQ f=q1 at *
 obtain⟨C0,W0,P0⟩:=q0
 obtain⟨C1,W1,P1⟩:=q1
 obtain⟨L,O⟩:=f
 dsimp only at *
 clear hq hn hz hs hF
 simp only[mkBx,mkB,bx4,bx6,Nat.reduceAdd,List.cons_append,List.nil_append,zyo,zp1,List.length_nil,show rowI []=[] from rfl]at l1 l2
 rw[show (((0:Nat):Int))=0 from rfl]at l1 l2
 rw[f644 _ rfl,b644]
 simp -implicitDefEqProofs[c,hb,l1,l2,htW,htP,htC,genAt]
end
def cntN(c:List Nd):Nat:=(c.filter fun x=>decide (x.op≠5)).length
def ndsF(f:Fd):Nat:=((codesD f).map cntN).sum
theorem zmh(c:List Nd)(x:Nd):cntN (c++[x])=cntN c+if x.op=5 then 0 else 1:=by
 unfold cntN
 rw[List.filter_append,List.length_append]
 by_cases h:x.op=5
 ·rw[if_pos h];simp[h]
 ·rw[if_neg h];simp[h]
theorem zfo(c:List Nd):cntN c≤c.length:=List.length_filter_le ..
def bx5(t:Tp):BId×Box:=(.loc 5,⟨1,.str,4,[[.sl (rowI t.code) .an,.sl (ints t.outs) .an,.i .i64 t.dim,.i .i64 t.par]]⟩)
def stSv0(t:Tp)(n:Nat)(l:List (List Nd))(i:Nat)(c:List Nd)(j:Nat):St:=
 ⟨[(5,.ptr (.loc 5) 1 4 0 0),(8,.i .i64 (n:Int)),(24,.sl (rowC l) .an),(25,.i .i64 l.length),(26,.i .i64 (i:Int)),(30,.sl (rowN c) .an),(31,.i .i64 c.length),(32,.i .i64 (j:Int))],[bx5 t],3⟩
def stSv1(t:Tp)(n:Nat)(l:List (List Nd))(i:Nat):St:=
 ⟨[(5,.ptr (.loc 5) 1 4 0 0),(8,.i .i64 (n:Int)),(24,.sl (rowC l) .an),(25,.i .i64 l.length),(26,.i .i64 (i:Int))],[bx5 t],3⟩
section
variable{T:Tbl}[CText T][CComp T]
theorem zn9(t:Tp)(n:Nat)(l:List (List Nd))(i:Nat)(c:List Nd)(hc:c.length≤100000)(hn:n≤1000000000)(hx:thin 1000 c) :
  loopN T 0 2 (.norm false [5,8,24,25,26]) l645_0 (stSv0 t n l i c 0)=some (.n,stSv1 t (n+cntN c) l i):=by
 have:=zai (T:=T) (k:=0) (id:=2) (g2:=.norm false [5,8,24,25,26]) (c:=l645_0) (fun j=>stSv0 t (n+cntN (c.take j)) l i c j) c.length (some (.n,stSv1 t (n+cntN c) l i)) (fun j hj=>?_) ?_
 ·simpa[show cntN []=0 from rfl]using this
 ·obtain⟨x,hx',hmem⟩:∃x,c[j]? = some x∧x∈c:=⟨c[j]'hj,List.getElem?_eq_getElem hj,List.getElem_mem hj⟩
  obtain⟨_,hge⟩:=List.getElem?_eq_some_iff.1 hx'
  have hlt':(j:Int)<c.length:=by omega
  have hws:=za0 hj (by omega)
  have hle:=zfo (c.take j)
  rw[List.length_take]at hle
  have hnx:=hx x hmem
  rw[List.take_add_one,hx',Option.toList_some,zmh]
  generalize hm:n+cntN (c.take j)=m at *
  have hw:IntKind.wrap .i64 ((m:Int)+1)=(m:Int)+1:=zab _ (by omega)
  have h32:x.n.length≤4294967296:=by omega
  obtain⟨op,xi,nn⟩:=x
  dsimp only at *
  by_cases ho:op=5
  ·subst ho
   rw[if_pos rfl,Nat.add_zero,hm]
   unfold stSv0 bx5
   simp -implicitDefEqProofs[l645_0,hj,hlt',hx',hge,hws,h32]
  ·rw[if_neg ho,←Nat.add_assoc,hm]
   unfold stSv0 bx5
   simp -implicitDefEqProofs[l645_0,hj,hlt',hx',hge,hws,ho,hw,h32]
 ·rw[List.take_length]
  unfold stSv0 stSv1 bx5
  constructor<;>simp -implicitDefEqProofs[l645_0]
theorem zoa(t:Tp)(l:List (List Nd))(hl:l.length≤1000)(hc:∀c∈l,c.length≤50000∧thin 1000 c) :
  loopN T 0 0 (.norm false [5,8]) l645_1 (stSv1 t 0 l 0)=some (.n,⟨[(5,.ptr (.loc 5) 1 4 0 0),(8,.i .i64 (((l.map cntN).sum:Nat):Int))],[bx5 t],3⟩):=by
 have:=zai (T:=T) (k:=0) (id:=0) (g2:=.norm false [5,8]) (c:=l645_1) (fun i=>stSv1 t ((l.take i).map cntN).sum l i) l.length
  (some (.n,⟨[(5,.ptr (.loc 5) 1 4 0 0),(8,.i .i64 (((l.map cntN).sum:Nat):Int))],[bx5 t],3⟩)) (fun i hi=>?_) ?_
 ·simpa using this
 ·obtain⟨c,hx,hmem⟩:∃x,l[i]? = some x∧x∈l:=⟨l[i]'hi,List.getElem?_eq_getElem hi,List.getElem_mem hi⟩
  obtain⟨_,hge⟩:=List.getElem?_eq_some_iff.1 hx
  have hlt':(i:Int)<l.length:=by omega
  have hws:=za0 hi (by omega)
  obtain⟨c1,c2⟩:=hc c hmem
  have hb:((l.take i).map cntN).sum≤50000*1000:=by
   have key:∀m:List (List Nd),(∀d∈m,d.length≤50000)→(m.map cntN).sum≤50000*m.length:=by
    intro m
    induction m with
    | nil=>intro _;simp
    | cons d m ih=>
     intro h
     have h1:=ih fun e he=>h e (List.mem_cons_of_mem _ he)
     have h2:=h d List.mem_cons_self
     have h3:=zfo d
     simp only[List.map_cons,List.sum_cons,List.length_cons]
     omega
   have h4:=key (l.take i) fun d hd=>(hc d (List.mem_of_mem_take hd)).1
   rw[List.length_take]at h4
   have:50000*min i l.length≤50000*1000:=Nat.mul_le_mul_left _ (by omega)
   omega
  have h0:=zn9 (T:=T) t ((l.take i).map cntN).sum l i c (by omega) (by omega) c2
  rw[List.take_add_one,hx,Option.toList_some,List.map_append,List.sum_append,List.map_singleton,List.sum_singleton]
  generalize ((l.take i).map cntN).sum=m at *
  unfold stSv0 stSv1 bx5 at h0
  unfold stSv1 bx5
  simp -implicitDefEqProofs at h0
  simp -implicitDefEqProofs[l645_1,hi,hlt',hx,hge,hws,h0]
 ·rw[List.take_length]
  unfold stSv1 bx5
  constructor<;>simp -implicitDefEqProofs[l645_1]
variable[CLimb T][CNat T][CProd T][CTwos T][CQuot T][CQuotD T][CWhole T][CCommon T][CFrac T][CFrac2 T][CFrac3 T][CFrac5 T][CPow T][CTape T][CGauge T][CEval T][CEval2 T][CTree T][CLenD T][CTree2 T][CJoin T][CLex T][CCheck T]
theorem zim(f:Fd)(pars:Int)(h1:f.lets.length≤100000)(h2:f.outs.length≤100000)(hn:thinD 1000 50000 f)(hz:sizeD f≤4294967295)(hs:∀x∈f.lets,x.name.length≤100000)(q:Int×Int×Int)(hq:chkD f f.outs.length pars=some q) :
  callF T 645 [efd f,.i .i64 pars]=some (.i .i64 0):=by
 have c:=zei (T:=T) f pars h1 h2 hn hz hs q hq
 obtain⟨q1,q2,q3⟩:=q
 unfold fltC at c
 obtain⟨L,O⟩:=f
 dsimp only at *
 clear hq hn hz hs
 rw[f645 _ rfl,b645]
 simp -implicitDefEqProofs[c]
theorem zjh(f:Fd)(pars:Int)(h1:f.lets.length≤100)(h2:f.outs.length≤100)(hn:thinD 1000 50000 f)(hz:sizeD f≤4294967295)(hs:∀x∈f.lets,x.name.length≤100000)(hq:chkD f f.outs.length pars=none) :
  callF T 645 [efd f,.i .i64 pars]=some (.i .i64 ((ndsF f:Int)-((fldQ f).C.length:Int))):=by
 have c:=zfn (T:=T) f pars (by omega) (by omega) hn hz hs hq
 have cc:=zjs (T:=T) f (by omega) (by omega) (fun c hc=>⟨by have:=(hn c hc).1;omega,(hn c hc).2⟩)
 have hF:=zh7 hq
 have hcl:(codesD f).length≤1000:=by simp[codesD];omega
 have l1:=zoa (T:=T) (tapQ f pars) (codesD f) hcl fun c hc=>hn c hc
 have hnb:ndsF f≤300:=by
  have key:∀m:List (List Nd),(m.map cntN).sum≤(m.map List.length).sum:=by
   intro m
   induction m with
   | nil=>exact Nat.le_refl _
   | cons d m ih=>have:=zfo d;simp only[List.map_cons,List.sum_cons];omega
  exact Nat.le_trans (key (codesD f)) hF.wh.2.2.2.2.2.2
 have hCb:(fldQ f).C.length≤300:=by
  have e1:=zgc (ltsQ (f.lets.map (·.code))) f.outs
  have e2:=zd7 (f.lets.map (·.code))
  have e3:=hF.wh.2.2.2.2.2.2
  unfold sizeD codesD at e3
  rw[List.map_append,List.sum_append]at e3
  show (ousQ (ltsQ (f.lets.map (·.code))) f.outs).C.length≤_
  omega
 have hw:IntKind.wrap .i64 ((ndsF f:Int)-((fldQ f).C.length:Int))=(ndsF f:Int)-((fldQ f).C.length:Int):=zab _ (by omega)
 unfold stSv1 bx5 tapQ at l1
 rw[show ((codesD f).map cntN).sum=ndsF f from rfl]at l1
 unfold tapQ at c
 unfold fltC at c
 generalize codesD f=l at *
 generalize ndsF f=N at *
 generalize fldQ f=q at *
 obtain⟨Cq,Wq,Pq⟩:=q
 obtain⟨L,O⟩:=f
 dsimp only at *
 clear hn hz hs hF hq
 rw[f645 _ rfl,b645]
 simp -implicitDefEqProofs at l1
 simp -implicitDefEqProofs[c,cc,l1,hw]
end
def wk25c:List Nd:=[⟨2,0,[]⟩,⟨1,0,[1]⟩,⟨7,0,[]⟩,⟨2,0,[]⟩,⟨1,0,[1]⟩,⟨7,0,[]⟩,⟨9,0,[]⟩]
def wk25:Fd:=⟨[],[wk25c]⟩
section
variable{T:Tbl}[CText T][CComp T][CLimb T][CNat T][CProd T][CTwos T][CQuot T][CQuotD T][CWhole T][CCommon T][CFrac T][CFrac2 T][CFrac3 T][CFrac5 T][CPow T][CTape T][CGauge T][CEval T][CEval2 T][CTree T][CLenD T][CTree2 T][CJoin T][CLex T][CCheck T][CLaw25 T]
theorem zoe:callF T 658 []=some (.b true):=by
 have hn:thinD 1000 50000 wk25:=by
  intro c hc
  have:c=wk25c:=by simpa[codesD,wk25]using hc
  subst this
  refine⟨by decide,fun x hx=>?_⟩
  simp only[wk25c,List.mem_cons,List.not_mem_nil,or_false]at hx
  rcases hx with rfl | rfl | rfl | rfl | rfl | rfl | rfl<;>decide
 have hq:chkD wk25 wk25.outs.length 0=none:=by decide +kernel
 have hC:(fldQ wk25).C.length=4:=by decide +kernel
 have hW:(fldQ wk25).W=[0,1,2,0,1,2,3]:=by decide +kernel
 have hN:ndsF wk25=7:=by decide +kernel
 have c1:=zfn (T:=T) wk25 0 (by decide) (by decide) hn (by decide) (by simp[wk25]) hq
 have c2:=zjh (T:=T) wk25 0 (by decide) (by decide) hn (by decide) (by simp[wk25]) hq
 rw[hN,hC]at c2
 rw[hW]at c1
 unfold tapQ fltC at c1
 generalize fldQ wk25=q at *
 obtain⟨C,W,P⟩:=q
 dsimp only at hC hW c1 c2
 generalize hO:(P.map fun(n:Nat)=>(n:Int))=O at *
 clear hn hq hN hW hO
 unfold wk25 wk25c at c1 c2
 have u1:u32s [1]=[[u32 1]]:=rfl
 simp only[rowN,rowC,rowLt,celLt,celN,natR,List.map_cons,List.map_nil,efd,u1,zxj,List.length_cons,List.length_nil]at c1 c2
 simp only[Int.natCast_one,Int.natCast_zero,Int.cast_ofNat_Int]at c1 c2
 rw[f658 _ rfl,b658]
 simp -implicitDefEqProofs[c1,c2,hC]
end
class CLaw24 (T:Tbl):Prop where
class CLaw11b (T:Tbl):Prop where
end Go.Ab
section
namespace Go.Ab
end Go.Ab
end
namespace Go.Ab
def longT(t:Tp)(many words:Nat):Bool:=((t.code.take many).any fun i=>decide (words<fsz i.n)) || decide (many<t.code.length) || decide (many<t.outs.length)
def longP(x:PoF)(many words:Nat):Bool:=decide (words<fsz x.t) || longB x.y many words || longB x.p many words
section
variable{T:Tbl}[CRef02 T][CRef04 T][CRef05 T][CRef07 T][CRef06 T][CRef08 T][CRef09 T][CRef11 T][CLaw09 T][CLaw11 T][CLaw24 T]
def stLT(t:Tp)(many words i:Nat):St:=⟨[(1,.i .i64 many),(2,.i .i64 words),(3,.ptr (.loc 3) 1 4 0 0),(7,.i .i64 i)],[(.loc 3,bxT t)],3⟩
def enLT(t:Tp)(many:Nat):Ex×St:=(.n,⟨[(1,.i .i64 many),(3,.ptr (.loc 3) 1 4 0 0)],[(.loc 3,bxT t)],3⟩)
@[simp] theorem zafc(l:List Int):Option.all (fun r=>decide (r.length=1)) (ints l).head? = true:=by cases l<;>rfl
def fC:BId:=.fld (.loc 3) 0
def stTT(t:Tp)(i:Nat):St:=⟨[(1,.ptr (.loc 1) 1 4 0 0),(2,.ptr (.loc 2) 2 4 0 0),(3,.ptr (.loc 3) 3 4 0 0),(4,.i .i64 i)],
 [(.loc 1,bxT t),(.loc 2,⟨2,.str,4,[[.sl [] .an,.sl [] .an,.i .i64 0,.i .i64 0]]⟩),(.loc 3,⟨3,.str,4,[[.bs fC 4 6 0 i,.bs (.loc 13) 5 1 0 t.outs.length,.i .i64 t.dim,.i .i64 t.par]]⟩),(fC,⟨4,.own,6,rowI (t.code.take i)⟩),(.loc 13,⟨5,.own,1,ints t.outs⟩)],7⟩
end
def bxGt(g:Nat)(t:Tp):Box:=⟨g,.str,4,[[.sl (rowI t.code) .an,.sl (ints t.outs) .an,.i .i64 t.dim,.i .i64 t.par]]⟩
def stS8a(t:Tp)(i:Nat):St:=⟨[(2,.ptr (.loc 2) 1 4 0 0),(3,.ptr (.loc 3) 2 4 0 0),(5,.i .i64 (i:Int))],[(.loc 2,bxGt 1 t),(.loc 3,bxGt 2 t)],4⟩
def stS8b(t:Tp)(i:Nat):St:=⟨[(2,.ptr (.loc 2) 1 4 0 0),(3,.ptr (.loc 3) 2 4 0 0),(6,.i .i64 (i:Int))],[(.loc 2,bxGt 1 t),(.loc 3,bxGt 2 t)],4⟩
section
variable{T:Tbl}[CRef02 T][CRef04 T][CRef05 T][CRef07 T][CRef06 T][CRef08 T][CRef09 T][CRef11 T][CLaw09 T][CLaw11 T][CTapeS T]
theorem zvz(t:Tp)(i:Nat)(hi:i<t.code.length)(hl:t.code.length≤1000):evX (orc T) T 0 l679_0 (stTT t i)=some (.n,stTT t (i+1)):=by
 have hws:=za0 hi (by omega)
 have hb:i≤4294967295:=by omega
 have hg:t.code[i]? = some (t.code[i]'hi):=List.getElem?_eq_getElem hi
 have hn:=zxo (T:=T) (t.code[i]'hi).n
 have hi':(i:Int)<t.code.length:=by omega
 have hml:(t.code.take i).length=i:=by simp;omega
 have ht:List.take i (t.code.take i)=t.code.take i:=List.take_of_length_le (by omega)
 have e:=zuw t.code hi
 have hp:=zwr hml (t.code[i]'hi)
 rw[ht]at hp
 unfold stTT bxT fC
 rw[e]
 clear e
 generalize t.code.take i=M at *
 simp -implicitDefEqProofs[l679_0,hi,hi',hws,hb,hg,hn,hml,ht,hp]
theorem zyc(t:Tp)(hl:t.code.length≤1000):loopN T 0 0 (.norm false [2,3]) l679_0 (stTT t 0) =
  some (.n,⟨[(2,.ptr (.loc 2) 1 4 0 0),(3,.ptr (.loc 3) 2 4 0 0)],[(.loc 2,⟨1,.str,4,[[.sl [] .an,.sl [] .an,.i .i64 0,.i .i64 0]]⟩),(.loc 3,⟨2,.str,4,[[.bs fC 3 6 0 t.code.length,.bs (.loc 13) 4 1 0 t.outs.length,.i .i64 t.dim,.i .i64 t.par]]⟩),(fC,⟨3,.own,6,rowI t.code⟩),(.loc 13,⟨4,.own,1,ints t.outs⟩)],6⟩):=by
 refine zai (stTT t) t.code.length _ (fun i hi=>zvz t i hi hl) ?_
 unfold stTT bxT fC
 rw[List.take_of_length_le (Nat.le_refl _)]
 constructor<;>simp -implicitDefEqProofs[l679_0]
theorem zyd(t:Tp)(hl:t.code.length≤1000)(ho:t.outs.length≤1000):callF T 679 [etp t]=some (etp t):=by
 have ht:List.take t.code.length t.code=t.code:=List.take_of_length_le (by omega)
 have hs:List.take t.outs.length t.outs=t.outs:=List.take_of_length_le (by omega)
 have h:=zyc (T:=T) t hl
 unfold stTT bxT fC at h
 simp only[Int.natCast_zero,List.take_zero,zgg]at h
 obtain⟨code,outs,dim,par⟩:=t
 dsimp only at *
 have ho2:outs.length≤4294967296:=by omega
 rw[f679 _ rfl,b679]
 simp -implicitDefEqProofs[ht,hs,ho2,h]
theorem zr3(t:Tp)(ho:t.outs.length≤1000):loopN T 0 0 (.norm false [2,3]) l678_0 (stS8a t 0) =
  some (.n,⟨[(2,.ptr (.loc 2) 1 4 0 0),(3,.ptr (.loc 3) 2 4 0 0)],[(.loc 2,bxGt 1 t),(.loc 3,bxGt 2 t)],4⟩):=by
 refine zai (stS8a t) t.outs.length _ (fun i hi=>?_) ?_
 ·have hws:=za0 hi (by omega)
  obtain⟨v,hx⟩:∃v,t.outs[i]? = some v:=⟨_,List.getElem?_eq_getElem hi⟩
  obtain⟨_,hge⟩:=List.getElem?_eq_some_iff.1 hx
  have hi':(i:Int)<t.outs.length:=by omega
  unfold stS8a bxGt
  simp -implicitDefEqProofs[l678_0,hi,hi',hws,hx,hge]
 ·unfold stS8a bxGt
  constructor<;>simp -implicitDefEqProofs[l678_0]
theorem zr4(t:Tp)(ho:t.code.length≤1000)(hf:∀y∈t.code,fsz y.n≤2000):loopN T 0 2 (.norm false []) l678_1 (stS8b t 0)=some (.n,⟨[],[],2⟩):=by
 refine zai (stS8b t) t.code.length _ (fun i hi=>?_) ?_
 ·have hws:=za0 hi (by omega)
  obtain⟨v,hx,hmem⟩:∃v,t.code[i]? = some v∧v∈t.code:=⟨_,List.getElem?_eq_getElem hi,List.getElem_mem hi⟩
  obtain⟨_,hge⟩:=List.getElem?_eq_some_iff.1 hx
  have hi':(i:Int)<t.code.length:=by omega
  have hv:=hf v hmem
  have c1:=zjm (T:=T) v.n (by omega)
  have c2:=zjn (T:=T) (fz (fv v.n)) (fz (fv v.n)) (by have:=zafl hv (by decide);rw[z67];omega)
  rw[decide_eq_true rfl]at c2
  generalize fz (fv v.n)=w at *
  obtain⟨w0,w1,w2⟩:=w
  obtain⟨op,a,b,n0,n1,n2⟩:=v
  unfold stS8b bxGt
  simp -implicitDefEqProofs[l678_1,hi,hi',hws,hx,hge,c1,c2]
 ·unfold stS8b bxGt
  constructor<;>simp -implicitDefEqProofs[l678_1]
theorem zir(t:Tp)(ho:t.outs.length≤1000)(hl:t.code.length≤1000)(hf:∀y∈t.code,fsz y.n≤2000):callF T 678 [etp t,etp t]=some (.b true):=by
 have h1:=zr3 (T:=T) t ho
 have h2:=zr4 (T:=T) t hl hf
 unfold stS8a bxGt at h1
 unfold stS8b bxGt at h2
 obtain⟨code,outs,dim,par⟩:=t
 dsimp only at *
 clear hf
 simp only[show (((0:Nat):Int))=0 from rfl]at h1 h2
 rw[f678 _ rfl,b678]
 simp -implicitDefEqProofs[h1,h2]
theorem zr5:callF T 677 [etp ⟨[],[],0,0⟩,etp ⟨[],[],0,0⟩]=some (.b true):=by
 have h1:=zai (T:=T) (k:=0) (id:=0) (g2:=.norm false [2,3]) (c:=l677_0) (fun i=>⟨[(2,.ptr (.loc 2) 1 4 0 0),(3,.ptr (.loc 3) 2 4 0 0),(40,.sl [] .an),(41,.i .i64 0),(42,.i .i64 (i:Int))],[(.loc 2,bxGt 1 ⟨[],[],0,0⟩),(.loc 3,bxGt 2 ⟨[],[],0,0⟩)],4⟩) 0
  (some (.n,⟨[(2,.ptr (.loc 2) 1 4 0 0),(3,.ptr (.loc 3) 2 4 0 0)],[(.loc 2,bxGt 1 ⟨[],[],0,0⟩),(.loc 3,bxGt 2 ⟨[],[],0,0⟩)],4⟩)) (fun i hi=>by omega)
  (by unfold bxGt;constructor<;>simp -implicitDefEqProofs[l677_0])
 have h2:=zai (T:=T) (k:=0) (id:=2) (g2:=.norm false []) (c:=l677_1) (fun i=>⟨[(3,.ptr (.loc 3) 1 4 0 0),(56,.sl [] .an),(57,.i .i64 0),(58,.i .i64 (i:Int))],[(.loc 3,bxGt 1 ⟨[],[],0,0⟩)],3⟩) 0
  (some (.n,⟨[],[],2⟩)) (fun i hi=>by omega)
  (by unfold bxGt;constructor<;>simp -implicitDefEqProofs[l677_1])
 unfold bxGt at h1 h2
 simp only[show (((0:Nat):Int))=0 from rfl,zgg,show ints []=[] from rfl]at h1 h2
 dsimp only[etp]
 simp only[zgg,show ints []=[] from rfl]
 rw[f677 _ rfl,b677]
 simp -implicitDefEqProofs[h1,h2]
end
section
variable{T:Tbl}[CRef17 T]
theorem za6(op:Int):callF T 113 [.i .i64 op]=some (.i .i64 (arN op)):=by
 rw[f113 _ rfl,b113]
 rcases za7 op with ⟨e,h1,h2⟩ | ⟨e,rfl | rfl⟩ | ⟨e,h1,h2⟩ | ⟨e,h⟩
 ·rw[e]
  simp -implicitDefEqProofs[h1,h2]
 ·rw[e]
  simp -implicitDefEqProofs
 ·rw[e]
  simp -implicitDefEqProofs
 ·rw[e]
  have g1:1≤op:=by omega
  have g2:¬ op≤5:=by omega
  have g3:op≠6:=by omega
  have g4:op≠11:=by omega
  simp -implicitDefEqProofs[h1,h2,g1,g2,g3,g4]
 ·rw[e]
  have g3:op≠6:=by omega
  have g4:op≠11:=by omega
  rcases h with h | h
  ·have g1:¬ 1≤op:=by omega
   have g2:¬ 7≤op:=by omega
   simp -implicitDefEqProofs[g1,g2,g3,g4]
  ·have g1:1≤op:=by omega
   have g2:7≤op:=by omega
   have g5:¬ op≤5:=by omega
   have g6:¬ op≤10:=by omega
   simp -implicitDefEqProofs[g1,g2,g3,g4,g5,g6]
def stWq(l:List Nd)(p:Nat×Int):St:=⟨[(0,.sl (rowN l) .an),(3,.i .i64 p.2),(4,.i .i64 p.1)],[],2⟩
theorem zf2(l:List Nd)(hl:l.length≤4294967296):∀p:Nat×Int,(p.1≤l.length∧0≤p.2∧p.2≤p.1)→loopN T 0 0 (.norm false [0,3]) l80_0 (stWq l p) =
  match goL p.1 p.2 (l.drop p.1) with
  | (some k,_)=>some (.r,⟨[(2,.i .i64 (k:Nat))],[],2⟩)
  | (none,o)=>some (.n,⟨[(0,.sl (rowN l) .an),(3,.i .i64 o)],[],2⟩):=by
 refine zav (stWq l) _ (fun p=>l.length-p.1) _ ?_
 rintro⟨i,o⟩ ⟨hi,ho,ho2⟩
 dsimp only at *
 by_cases h:i<l.length
 ·have hg:l[i]? = some (l[i]'h):=List.getElem?_eq_getElem h
  have hd:l.drop i=l[i]'h::l.drop (i+1):=List.drop_eq_getElem_cons h
  have ca:=za6 (T:=T) (l[i]'h).op
  have h':(i:Int)<l.length:=by omega
  have hws:=za0 h (by omega)
  rw[hd,goL]
  generalize hx:l[i]'h=x at *
  clear hd
  have hw0:IntKind.wrap .i64 o=o:=zab _ (by omega)
  have hw1:IntKind.wrap .i64 (o-1)=o-1:=zab _ (by omega)
  have hw2:IntKind.wrap .i64 (o-2)=o-2:=zab _ (by omega)
  have hw3:IntKind.wrap .i64 (o+1)=o+1:=zab _ (by omega)
  have hw4:IntKind.wrap .i64 (o-1+1)=o:=by rw[zab _ (by omega)];omega
  have hw5:IntKind.wrap .i64 (o-2+1)=o-1:=by rw[zab _ (by omega)];omega
  rcases za7 x.op with ⟨e,_⟩ | ⟨e,_⟩ | ⟨e,_⟩ | ⟨e,_⟩
  ·left
   rw[e]at ca ⊢
   have hc:¬ o<0:=by omega
   refine⟨(i+1,o+1),⟨by omega,by omega,by dsimp only;omega⟩,by dsimp only;omega,?_,?_⟩
   ·unfold stWq
    simp -implicitDefEqProofs[l80_0,h,h',hg,hx,hws,ca,hw0,hw3,hc]
   ·rw[if_neg (by omega)]
    simp
  ·rw[e]at ca ⊢
   by_cases hc:o<1
   ·right
    rw[if_pos (by omega)]
    unfold stWq
    constructor<;>simp -implicitDefEqProofs[l80_0,h,h',hg,hx,ca,hc]
   ·left
    refine⟨(i+1,o),⟨by omega,by omega,by dsimp only;omega⟩,by dsimp only;omega,?_,?_⟩
    ·unfold stWq
     simp -implicitDefEqProofs[l80_0,h,h',hg,hx,hws,ca,hw0,hw1,hw4,hc]
    ·rw[if_neg (by omega)]
     simp
  ·rw[e]at ca ⊢
   by_cases hc:o<2
   ·right
    rw[if_pos (by omega)]
    unfold stWq
    constructor<;>simp -implicitDefEqProofs[l80_0,h,h',hg,hx,ca,hc]
   ·left
    refine⟨(i+1,o-1),⟨by omega,by omega,by dsimp only;omega⟩,by dsimp only;omega,?_,?_⟩
    ·unfold stWq
     simp -implicitDefEqProofs[l80_0,h,h',hg,hx,hws,ca,hw2,hw5,hc]
    ·rw[if_neg (by omega)]
     dsimp only
     rw[show o+1-2=o-1 by omega]
  ·right
   rw[e]at ca ⊢
   rw[if_pos (by omega)]
   unfold stWq
   constructor<;>simp -implicitDefEqProofs[l80_0,h,h',hg,hx,ca]
 ·have:i=l.length:=by omega
  subst this
  right
  rw[List.drop_length,goL]
  unfold stWq
  constructor<;>simp -implicitDefEqProofs[l80_0]
theorem zhv(l:List Nd)(hl:l.length≤4294967296):callF T 80 [.sl (rowN l) .an]=some (.i .i64 (wrongN l)):=by
 have hlo:=zf2 (T:=T) l hl (0,0) ⟨Nat.zero_le _,by decide,by decide⟩
 have hw:=zid l 0 0
 unfold wrongN
 rw[hw]
 unfold stWq at hlo
 simp only[List.drop_zero,Int.natCast_zero]at hlo
 rw[f80 _ rfl,b80]
 generalize goL 0 0 l=G at *
 obtain⟨_ | k,o⟩:=G
 ·dsimp only at hlo ⊢
  by_cases h:o=1
  ·subst h
   simp -implicitDefEqProofs[hlo]
  ·simp -implicitDefEqProofs[hlo,h]
 ·dsimp only at hlo ⊢
  simp -implicitDefEqProofs[hlo]
def longN(l:List Nd)(many words:Int):Bool:=decide (many<l.length) || (l.take many.toNat).any fun x=>decide (words<x.n.length)
theorem zjo(l:List Nd)(many words:Nat)(hl:l.length≤4294967296∨many≤4294967295)(hm:many≤4294967295):callF T 10 [.sl (rowN l) .an,.i .i64 many,.i .i64 words]=some (.b (decide (many<l.length) || (l.take many).any fun x=>decide (words<x.n.length))):=by
 have hlo:loopN T 0 0 (.norm false [0,1]) l10_0 ⟨[(0,.sl (rowN l) .an),(1,.i .i64 many),(2,.i .i64 words),(7,.i .i64 ((0:Nat):Int))],[],2⟩ =
   if ((l.take many).drop 0).any (fun x=>decide (words<x.n.length))=true then some (.r,⟨[(6,.b true)],[],2⟩) else some (.n,⟨[(0,.sl (rowN l) .an),(1,.i .i64 many)],[],2⟩):=by
  refine zba (fun i=>⟨[(0,.sl (rowN l) .an),(1,.i .i64 many),(2,.i .i64 words),(7,.i .i64 ((i:Nat):Int))],[],2⟩) (l.take many).length
   (fun i=>if ((l.take many).drop i).any (fun x=>decide (words<x.n.length))=true then some (.r,_) else some (.n,_)) (fun i hi=>?_) ?_
  ·have hi1:=hi
   rw[List.length_take]at hi1
   have h:i<l.length:=by omega
   have h':(i:Int)<l.length:=by omega
   have h2:i<many:=by omega
   have h2':(i:Int)<many:=by omega
   have hg:l[i]? = some (l[i]'h):=List.getElem?_eq_getElem h
   have hd:(l.take many).drop i=(l.take many)[i]'hi::(l.take many).drop (i+1):=List.drop_eq_getElem_cons hi
   have hx2:(l.take many)[i]'hi=l[i]'h:=by simp
   rw[hx2]at hd
   have hws:=za0 h2 (by omega)
   generalize hx:l[i]'h=x at *
   by_cases hc:words<x.n.length
   ·right
    rw[if_pos (by rw[hd];simp[hc])]
    have hc':(words:Int)<x.n.length:=by omega
    clear hd
    constructor<;>simp -implicitDefEqProofs[l10_0,h,h',h2,h2',hg,hx,hc,hc']
   ·left
    have hc':¬ (words:Int)<x.n.length:=by omega
    refine⟨?_,by rw[hd];simp[hc]⟩
    clear hd
    simp -implicitDefEqProofs[l10_0,h,h',h2,h2',hg,hx,hc,hc',hws]
  ·rw[List.drop_length,List.length_take]
   simp only[List.any_nil,Bool.false_eq_true,if_false]
   by_cases h:l.length≤many
   ·rw[Nat.min_eq_right h]
    constructor<;>simp -implicitDefEqProofs[l10_0]
   ·rw[Nat.min_eq_left (by omega)]
    have h2:many<l.length:=by omega
    have h2':(many:Int)<l.length:=by omega
    constructor<;>simp -implicitDefEqProofs[l10_0,h2,h2']
 rw[List.drop_zero]at hlo
 simp only[Int.natCast_zero]at hlo
 rw[f10 _ rfl,b10]
 generalize (l.take many).any (fun x=>decide (words<x.n.length))=B at *
 cases B with
 | true=>
  rw[if_pos rfl]at hlo
  simp -implicitDefEqProofs[hlo]
 | false=>
  rw[if_neg (by decide)]at hlo
  by_cases h:many<l.length
  ·have h':(many:Int)<l.length:=by omega
   simp -implicitDefEqProofs[hlo,h,h']
  ·have h':¬ (many:Int)<l.length:=by omega
   simp -implicitDefEqProofs[hlo,h,h']
variable[CRef02 T][CRef04 T][CRef05 T][CRef07 T]
theorem zrv(x:Nd)(dim pars lets:Int)(hn:x.n.length≤1000):callF T 79 [.agg (celN x),.i .i64 dim,.i .i64 pars,.i .i64 lets]=some (.b (okN dim pars lets x)):=by
 have c1:=zb0 (T:=T) x.n (by omega)
 have c2:=zfp (T:=T) (ofN (val x.n)) x.n (by have:=zae x.n;omega)
 have c3:=zrs (T:=T) x.n hn
 have e:decide (ofN (val x.n)=x.n)=decide (x.n=ofN (val x.n)):=by
  rw[decide_eq_decide];exact eq_comm
 rw[e]at c2
 obtain⟨op,i,n⟩:=x
 dsimp only at *
 rw[f79 _ rfl,b79]
 unfold okN wordsB
 dsimp only
 generalize hB:decide (n=ofN (val n))=B at *
 clear e
 generalize ofN (val n)=N at *
 generalize hL:textN (val n)=TX at *
 by_cases h1:op=1
 ·subst h1
  by_cases hi:i=0
  ·subst hi
   cases B with
   | false=>simp -implicitDefEqProofs[c1,c2]
   | true=>
    by_cases h2:TX.length≤60
    ·have h2':(TX.length:Int)≤60:=by omega
     simp -implicitDefEqProofs[c1,c2,c3,h2,h2']
    ·have h2':¬ (TX.length:Int)≤60:=by omega
     simp -implicitDefEqProofs[c1,c2,c3,h2,h2']
  ·simp -implicitDefEqProofs[hi]
 rw[if_neg h1]
 by_cases hne:n=[]
 ·subst hne
  by_cases hr:op<1
  ·rw[if_pos (.inr (.inl hr))]
   simp -implicitDefEqProofs[h1,hr]
  by_cases hr2:11<op
  ·rw[if_pos (.inr (.inr hr2))]
   simp -implicitDefEqProofs[h1,hr,hr2]
  rw[if_neg (by rintro(h | h | h)<;>first | exact h rfl | exact hr h | exact hr2 h)]
  unfold belB
  by_cases h3:op=3
  ·subst h3
   by_cases ha:0≤i
   ·by_cases hb:i<dim<;>simp -implicitDefEqProofs[ha,hb]
   ·simp -implicitDefEqProofs[ha]
  by_cases h4:op=4
  ·subst h4
   by_cases ha:0≤i
   ·by_cases hb:i<pars<;>simp -implicitDefEqProofs[ha,hb]
   ·simp -implicitDefEqProofs[ha]
  by_cases h5:op=5
  ·subst h5
   by_cases ha:0≤i
   ·by_cases hb:i<lets<;>simp -implicitDefEqProofs[ha,hb]
   ·simp -implicitDefEqProofs[ha]
  by_cases h11:op=11
  ·subst h11
   by_cases ha:-8≤i
   ·by_cases hb:i≤8<;>simp -implicitDefEqProofs[ha,hb]
   ·simp -implicitDefEqProofs[ha]
  by_cases hi:i=0<;>simp -implicitDefEqProofs[h1,hr,hr2,h3,h4,h5,h11,hi]
 ·have hp:0<n.length:=List.length_pos_iff.2 hne
  rw[if_pos (.inl hne)]
  simp -implicitDefEqProofs[h1,hp,hne]
def stPq(l:List Nd)(dim pars lets w:Int)(i:Nat):St:=⟨[(0,.sl (rowN l) .an),(1,.i .i64 dim),(2,.i .i64 pars),(3,.i .i64 lets),(9,.i .i64 w),(10,.i .i64 i)],[],2⟩
theorem zf3(l:List Nd)(dim pars lets w:Int)(hl:l.length≤4294967296)(hn:∀x∈l,x.n.length≤1000):loopN T 0 0 (.norm false [9]) l50_0 (stPq l dim pars lets w 0) =
  match findL dim pars lets w 0 l with
  | some k=>some (.r,⟨[(8,.i .i64 (k:Nat))],[],2⟩)
  | none=>some (.n,⟨[(9,.i .i64 w)],[],2⟩):=by
 have e0:l.drop 0=l:=rfl
 rw[←e0]
 refine zba (stPq l dim pars lets w) l.length (fun i=>match findL dim pars lets w i (l.drop i) with
  | some k=>some (.r,⟨[(8,.i .i64 (k:Nat))],[],2⟩)
  | none=>some (.n,⟨[(9,.i .i64 w)],[],2⟩)) (fun i hi=>?_) ?_
 ·have hg:l[i]? = some (l[i]'hi):=List.getElem?_eq_getElem hi
  have hd:l.drop i=l[i]'hi::l.drop (i+1):=List.drop_eq_getElem_cons hi
  have cn:=zrv (T:=T) (l[i]'hi) dim pars lets (hn _ (List.getElem_mem hi))
  have hi':(i:Int)<l.length:=by omega
  have hws:=za0 hi (by omega)
  generalize hx:l[i]'hi=x at *
  rw[hd,findL]
  clear hd
  by_cases h1:(i:Int)=w
  ·right
   rw[if_pos (.inl h1)]
   subst h1
   unfold stPq
   constructor<;>simp -implicitDefEqProofs[l50_0,hi,hi',hg,hx]
  ·generalize okN dim pars lets x=B at *
   cases B with
   | false=>
    right
    rw[if_pos (.inr rfl)]
    unfold stPq
    constructor<;>simp -implicitDefEqProofs[l50_0,hi,hi',hg,hx,h1,cn]
   | true=>
    left
    refine⟨?_,by rw[if_neg (by simp[h1])]⟩
    unfold stPq
    simp -implicitDefEqProofs[l50_0,hi,hi',hg,hx,h1,cn,hws]
 ·rw[List.drop_length,findL]
  unfold stPq
  constructor<;>simp -implicitDefEqProofs[l50_0]
theorem zok(l:List Nd)(dim pars lets:Int)(hl:l.length≤4294967296)(hn:∀x∈l,x.n.length≤1000):callF T 50 [.sl (rowN l) .an,.i .i64 dim,.i .i64 pars,.i .i64 lets]=some (.i .i64 (placeN dim pars lets l)):=by
 have cw:=zhv (T:=T) l hl
 have hlo:=zf3 (T:=T) l dim pars lets (wrongN l) hl hn
 unfold stPq at hlo
 simp only[Int.natCast_zero]at hlo
 have hf:=zer dim pars lets (wrongN l) l 0
 unfold placeN
 rw[hf]
 rw[f50 _ rfl,b50]
 generalize wrongN l=w at *
 generalize findL dim pars lets w 0 l=F at *
 cases F with
 | none=>
  dsimp only at hlo ⊢
  simp -implicitDefEqProofs[cw,hlo]
 | some k=>
  dsimp only at hlo ⊢
  simp -implicitDefEqProofs[cw,hlo]
end
abbrev rmP:AV:=.ptr (.bor 0) 0 2 0 0
def rmH(gc gw:Nat)(C:List Ins)(W:List Nat):Heap:=
 [(.bor 0,⟨0,.str,2,[[.bs (.bor 1) gc 6 0 C.length,.bs (.bor 2) gw 1 0 W.length]]⟩),(.bor 1,⟨gc,.own,6,rowI C⟩),(.bor 2,⟨gw,.own,1,natR W⟩)]
def stRq(C:List Ins)(W:List Nat)(x:Ins)(i:Nat):St:=
 ⟨[(0,rmP),(3,.ptr (.loc 3) 7 6 0 0),(5,.i .i64 (i:Int))],rmH 1 2 C W++[(.loc 3,⟨7,.str,6,[celI x]⟩)],9⟩
def endRq(C:List Ins)(W:List Nat)(x:Ins)(o:Option Nat):Option (Ex×St):=
 match o with
 | some j=>some (.r,⟨[(4,.i .i64 (j:Int))],rmH 1 2 C W,8⟩)
 | none=>some (.n,⟨[(0,rmP),(3,.ptr (.loc 3) 7 6 0 0)],rmH 1 2 C W++[(.loc 3,⟨7,.str,6,[celI x]⟩)],9⟩)
theorem zvu(x y:Ins)(k:Nat)(r:List Ins):idxI x k (y::r)=if y=x then some k else idxI x (k+1) r:=rfl
theorem zvv{x y:Ins}(hx:MkI x)(hy:MkI y):(x.op=y.op∧x.a=y.a∧x.b=y.b∧(x.op≠1∨x.n=y.n))↔y=x:=by
 constructor
 ·rintro⟨h1,h2,h3,h4⟩
  refine(Ins.ext' h1 h2 h3 ?_).symm
  rcases h4 with h4 | h4
  ·rw[hx.2 h4,hy.2 (h1▸h4)]
  ·exact h4
 ·rintro rfl
  exact⟨rfl,rfl,rfl,.inr rfl⟩
section
variable{T:Tbl}[CRef02 T][CRef04 T][CRef05 T][CRef07 T][CRef06 T][CRef08 T][CRef09 T][CRef25 T]
theorem zio(C:List Ins)(W:List Nat)(x:Ins)(hC:∀y∈C,MkI y)(hx:MkI x)(hn:fsz x.n≤10000)(hb:∀y∈C,fsz y.n≤10000)(hl:C.length≤100000) :
  loopN T 3 0 (.norm false [0,3]) l654_0 (stRq C W x 0)=endRq C W x (idxI x 0 C):=by
 have:=zba (T:=T) (k:=3) (id:=0) (g2:=.norm false [0,3]) (c:=l654_0) (fun i=>stRq C W x i) C.length (fun i=>endRq C W x (idxI x i (C.drop i))) (fun i hi=>?_) ?_
 ·simpa using this
 ·obtain⟨y,hy,hmem⟩:∃y,C[i]? = some y∧y∈C:=⟨C[i]'hi,List.getElem?_eq_getElem hi,List.getElem_mem hi⟩
  obtain⟨_,hge⟩:=List.getElem?_eq_some_iff.1 hy
  have hd:C.drop i=y::C.drop (i+1):=by rw[List.drop_eq_getElem_cons hi,hge]
  have hlt':(i:Int)<C.length:=by omega
  have hws:=za0 hi (by omega)
  have cs:=zjn (T:=T) x.n y.n hn
  have hal:=zvv hx (hC y hmem)
  rw[hd,zvu]
  have hL:(rowI C).length=C.length:=zeq C
  by_cases hyx:y=x
  ·right
   rw[if_pos hyx]
   subst hyx
   rw[decide_eq_true rfl]at cs
   obtain⟨op,a,b,⟨n0,n1,n2⟩⟩:=y
   unfold stRq rmH endRq
   dsimp only at *
   by_cases ho:op=1
   ·subst ho
    constructor<;>simp -implicitDefEqProofs[l654_0,hi,hlt',hy,hge,cs,genAt,rmH]
   ·constructor<;>simp -implicitDefEqProofs[l654_0,hi,hlt',hy,hge,ho,genAt,rmH]
  ·left
   rw[if_neg hyx]
   refine⟨?_,rfl⟩
   have hno:=fun h=>hyx (hal.1 h)
   obtain⟨op,a,b,⟨n0,n1,n2⟩⟩:=x
   obtain⟨op',a',b',⟨m0,m1,m2⟩⟩:=y
   unfold stRq rmH
   dsimp only at *
   by_cases h1:op=op'
   ·subst h1
    by_cases h2:a=a'
    ·subst h2
     by_cases h3:b=b'
     ·subst h3
      have ho:op=1:=by
       refine Classical.byContradiction fun ho=>hno ⟨rfl,rfl,rfl,.inl ho⟩
      subst ho
      have hne:¬ ((n0,n1,n2):Fz)=(m0,m1,m2):=fun h=>hno ⟨rfl,rfl,rfl,.inr h⟩
      rw[decide_eq_false hne]at cs
      simp -implicitDefEqProofs[l654_0,hi,hlt',hy,hge,hws,cs,genAt]
     ·simp -implicitDefEqProofs[l654_0,hi,hlt',hy,hge,hws,h3,genAt]
    ·simp -implicitDefEqProofs[l654_0,hi,hlt',hy,hge,hws,h2,genAt]
   ·simp -implicitDefEqProofs[l654_0,hi,hlt',hy,hge,hws,h1,genAt]
 ·rw[List.drop_length]
  unfold stRq rmH endRq idxI
  constructor<;>simp -implicitDefEqProofs[l654_0,genAt,rmH]
end
section
variable{T:Tbl}[CRef02 T][CRef04 T][CRef05 T][CRef07 T][CRef06 T][CRef08 T][CRef09 T][CRef25 T]
theorem zvw(C:List Ins)(W:List Nat)(x:Ins)(hC:∀y∈C,MkI y)(hx:MkI x)(hn:fsz x.n≤10000)(hb:∀y∈C,fsz y.n≤10000)(hl:C.length≤100000) :
  ∃gc,(gc=1∨gc=5)∧callH T 654 [rmP,.agg (celI x)] (rmH 1 2 C W)=some (.i .i64 ((putI C x).2:Int),rmH gc 2 (putI C x).1 W):=by
 have lo:=zio (T:=T) C W x hC hx hn hb hl
 unfold putI
 cases h:idxI x 0 C with
 | some i=>
  refine⟨1,.inl rfl,?_⟩
  rw[h]at lo
  unfold stRq endRq rmH at lo
  obtain⟨op,a,b,⟨n0,n1,n2⟩⟩:=x
  unfold rmH
  dsimp only at *
  rw[f654 _ _ rfl,b654]
  simp -implicitDefEqProofs at lo
  simp -implicitDefEqProofs[lo,genAt]
 | none=>
  refine⟨5,.inr rfl,?_⟩
  rw[h]at lo
  have hrs:=zib C x
  have hw3:IntKind.wrap .i64 (C.length:Int)=(C.length:Int):=zab _ (by omega)
  have hl2:C.length+1≤4294967296:=by omega
  unfold stRq endRq rmH at lo
  obtain⟨op,a,b,⟨n0,n1,n2⟩⟩:=x
  unfold rmH
  dsimp only at *
  rw[f654 _ _ rfl,b654]
  simp -implicitDefEqProofs at lo
  simp -implicitDefEqProofs[lo,genAt,hrs,hw3,hl2]
end
def rmL(gc gw:Nat)(C:List Ins)(W L:List Nat):Heap:=rmH gc gw C W++[(.bor 3,⟨3,.own,1,natR L⟩)]
def stR25(gc gw:Nat)(C:List Ins)(W L S:List Nat)(c:List Nd)(i:Nat):St:=
 ⟨[(0,rmP),(1,.sl (rowN c) .an),(2,.bs (.bor 3) 3 1 0 L.length),(7,.bs (.loc 7) 9 1 0 S.length),(8,.i .i64 (i:Int))],rmL gc gw C W L++[(.loc 7,⟨9,.own,1,natR S⟩)],11⟩
section
variable{T:Tbl}[CRef17 T][CRef02 T][CRef04 T][CRef05 T][CRef07 T][CRef06 T][CRef08 T][CRef09 T][CRef25 T]
theorem zhx(gc gw:Nat)(C:List Ins)(W L S:List Nat)(c:List Nd)(i:Nat)(x:Nd)(hgc:gc=1∨gc=6)(hgw:gw=2∨gw=7)(hx:c[i]? = some x)(ho:x.op=5)(h0:0≤x.i)(h1:x.i<L.length)
  (hcl:c.length≤100000) (hWl:W.length≤100000) (hSl:S.length≤100000) (hn:x.n.length≤1000) :
  evX (orc T) T 4 l653_0 (stR25 gc gw C W L S c i)=some (.n,stR25 gc 7 C (W++[(L[x.i.toNat]?).getD 0]) L (S++[(L[x.i.toNat]?).getD 0]) c (i+1)):=by
 have car:=za6 (T:=T) x.op
 rw[ho,show arN 5=0 by decide]at car
 obtain⟨hlt,hge⟩:=List.getElem?_eq_some_iff.1 hx
 have hlt':(i:Int)<c.length:=by omega
 have hws:=za0 hlt (by omega)
 obtain⟨op,xi,n⟩:=x
 dsimp only at *
 subst ho
 obtain⟨j,rfl⟩:∃j:Nat,xi=(j:Int):=⟨xi.toNat,by omega⟩
 have hj:j<L.length:=by omega
 obtain⟨v,hv⟩:∃v,L[j]? = some v:=⟨_,List.getElem?_eq_getElem hj⟩
 obtain⟨_,hg⟩:=List.getElem?_eq_some_iff.1 hv
 rw[Int.toNat_natCast,hv,Option.getD_some]
 have hsW:=zaw W v
 have hsS:=zaw S v
 have htkW:(natR W).take W.length=natR W:=List.take_of_length_le (by rw[zap];exact Nat.le_refl _)
 have htkS:(natR S).take S.length=natR S:=List.take_of_length_le (by rw[zap];exact Nat.le_refl _)
 have h32:W.length+1≤4294967296:=by omega
 have h33:S.length+1≤4294967296:=by omega
 have hn32:n.length≤4294967296:=by omega
 have hw:IntKind.wrap .i64 (S.length:Int)=(S.length:Int):=zab _ (by omega)
 unfold stR25 rmL rmH
 rcases hgc with rfl | rfl<;>rcases hgw with rfl | rfl
 all_goals simp -implicitDefEqProofs[l653_0,hlt,hlt',hx,hge,hws,car,hj,hv,hg,h1,hsW,hsS,htkW,htkS,h32,h33,hn32,hw,genAt]
set_option maxHeartbeats 2000000 in
theorem zfs(gc gw g1:Nat)(C C1:List Ins)(W L S:List Nat)(c:List Nd)(i p:Nat)(x:Nd)(hgc:gc=1∨gc=6)(hgw:gw=2∨gw=7)(hg1:g1=1∨g1=5)(hx:c[i]? = some x)(ho:x.op=1)
  (hcl:c.length≤100000) (hWl:W.length≤100000) (hSl:S.length≤100000) (hn:x.n.length≤1000)
  (hc:callH T 654 [rmP,.agg (celI ⟨1,0,0,fz ((val x.n:Nat):Rat)⟩)] (rmH 1 2 C W)=some (.i .i64 (p:Int),rmH g1 2 C1 W)) :
  evX (orc T) T 4 l653_0 (stR25 gc gw C W L S c i)=some (.n,stR25 (if g1=1 then gc else 6) 7 C1 (W++[p]) L (S++[p]) c (i+1)):=by
 have car:=za6 (T:=T) x.op
 rw[ho,show arN 1=0 by decide]at car
 obtain⟨hlt,hge⟩:=List.getElem?_eq_some_iff.1 hx
 have hlt':(i:Int)<c.length:=by omega
 have hws:=za0 hlt (by omega)
 have cn:=zjm (T:=T) (false,x.n,[1]) (by unfold fsz;simp;omega)
 have hfv:fv (false,x.n,[1])=((val x.n:Nat):Rat):=by
  have h1:val [1]=1:=by decide
  unfold fv
  simp[h1,wv,Rat.mkRat_one,sg]
  rfl
 rw[hfv]at cn
 have u1:u32s [1]=[[u32 1]]:=rfl
 obtain⟨op,xi,n⟩:=x
 dsimp only at *
 subst ho
 dsimp only[efz,celF]at cn
 rw[u1]at cn
 have hsW:=zaw W p
 have hsS:=zaw S p
 have htkW:(natR W).take W.length=natR W:=List.take_of_length_le (by rw[zap];exact Nat.le_refl _)
 have htkS:(natR S).take S.length=natR S:=List.take_of_length_le (by rw[zap];exact Nat.le_refl _)
 have h32:W.length+1≤4294967296:=by omega
 have h33:S.length+1≤4294967296:=by omega
 have hn32:n.length≤4294967296:=by omega
 have hw:IntKind.wrap .i64 (S.length:Int)=(S.length:Int):=zab _ (by omega)
 generalize fz ((val n:Nat):Rat)=q at *
 obtain⟨q0,q1,q2⟩:=q
 unfold stR25 rmL
 unfold rmH at *
 rcases hgc with rfl | rfl<;>rcases hgw with rfl | rfl<;>rcases hg1 with rfl | rfl
 all_goals simp -implicitDefEqProofs[l653_0,hlt,hlt',hx,hge,hws,car,cn,hc,hsW,hsS,htkW,htkS,h32,h33,hn32,hw,genAt]
set_option maxHeartbeats 2000000 in
theorem zf4(gc gw g1:Nat)(C C1:List Ins)(W L S:List Nat)(c:List Nd)(i p:Nat)(x:Nd)(hgc:gc=1∨gc=6)(hgw:gw=2∨gw=7)(hg1:g1=1∨g1=5)(hx:c[i]? = some x)(ho:x.op=2∨x.op=3∨x.op=4)
  (hcl:c.length≤100000) (hWl:W.length≤100000) (hSl:S.length≤100000) (hn:x.n.length≤1000)
  (hc:callH T 654 [rmP,.agg (celI ⟨x.op,x.i,0,blk⟩)] (rmH 1 2 C W)=some (.i .i64 (p:Int),rmH g1 2 C1 W)) :
  evX (orc T) T 4 l653_0 (stR25 gc gw C W L S c i)=some (.n,stR25 (if g1=1 then gc else 6) 7 C1 (W++[p]) L (S++[p]) c (i+1)):=by
 have car:=za6 (T:=T) x.op
 have har:arN x.op=0:=by rcases ho with h | h | h<;>rw[h]<;>decide
 rw[har]at car
 obtain⟨hlt,hge⟩:=List.getElem?_eq_some_iff.1 hx
 have hlt':(i:Int)<c.length:=by omega
 have hws:=za0 hlt (by omega)
 rw[ze7]at hc
 obtain⟨op,xi,n⟩:=x
 dsimp only at *
 have hsW:=zaw W p
 have hsS:=zaw S p
 have htkW:(natR W).take W.length=natR W:=List.take_of_length_le (by rw[zap];exact Nat.le_refl _)
 have htkS:(natR S).take S.length=natR S:=List.take_of_length_le (by rw[zap];exact Nat.le_refl _)
 have h32:W.length+1≤4294967296:=by omega
 have h33:S.length+1≤4294967296:=by omega
 have hn32:n.length≤4294967296:=by omega
 have hw:IntKind.wrap .i64 (S.length:Int)=(S.length:Int):=zab _ (by omega)
 unfold stR25 rmL
 unfold rmH at *
 rcases ho with rfl | rfl | rfl<;>rcases hgc with rfl | rfl<;>rcases hgw with rfl | rfl<;>rcases hg1 with rfl | rfl
 all_goals simp -implicitDefEqProofs[l653_0,hlt,hlt',hx,hge,hws,car,hc,hsW,hsS,htkW,htkS,h32,h33,hn32,hw,genAt]
end
section
variable{T:Tbl}[CRef17 T][CRef02 T][CRef04 T][CRef05 T][CRef07 T][CRef06 T][CRef08 T][CRef09 T][CRef25 T]
set_option maxHeartbeats 2000000 in
theorem ziq(gc gw g1:Nat)(C C1:List Ins)(W L S:List Nat)(c:List Nd)(i p a:Nat)(x:Nd)(hgc:gc=1∨gc=6)(hgw:gw=2∨gw=7)(hg1:g1=1∨g1=5)(hx:c[i]? = some x)(ho:x.op=6∨x.op=11)(hS:S[S.length-1]? = some a)
  (hcl:c.length≤100000) (hWl:W.length≤100000) (hSl:S.length≤100000) (hn:x.n.length≤1000)
  (hc:callH T 654 [rmP,.agg (celI ⟨x.op,(a:Int),x.i,blk⟩)] (rmH 1 2 C W)=some (.i .i64 (p:Int),rmH g1 2 C1 W)) :
  evX (orc T) T 4 l653_0 (stR25 gc gw C W L S c i)=some (.n,stR25 (if g1=1 then gc else 6) 7 C1 (W++[p]) L (S.take (S.length-1)++[p]) c (i+1)):=by
 have car:=za6 (T:=T) x.op
 have har:arN x.op=1:=by rcases ho with h | h<;>rw[h]<;>decide
 rw[har]at car
 obtain⟨hlt,hge⟩:=List.getElem?_eq_some_iff.1 hx
 have hlt':(i:Int)<c.length:=by omega
 have hws:=za0 hlt (by omega)
 obtain⟨s1,s2⟩:=List.getElem?_eq_some_iff.1 hS
 rw[ze7]at hc
 obtain⟨op,xi,n⟩:=x
 dsimp only at *
 have hsW:=zaw W p
 have hsS:=zaw (S.take (S.length-1)) p
 have hsl:(S.take (S.length-1)).length=S.length-1:=by rw[List.length_take];omega
 have htk:(natR S).take (S.length-1)=natR (S.take (S.length-1)):=by unfold natR;rw[List.map_take]
 have htkW:(natR W).take W.length=natR W:=List.take_of_length_le (by rw[zap];exact Nat.le_refl _)
 have h32:W.length+1≤4294967296:=by omega
 have h33:S.length-1+1≤4294967296:=by omega
 have hn32:n.length≤4294967296:=by omega
 have hw:IntKind.wrap .i64 ((S.length:Int)-1)=((S.length-1:Nat):Int):=by rw[zab _ (by omega)];omega
 have hle:((S.length-1:Nat):Int)≤S.length:=by omega
 have hlt2:((S.length-1:Nat):Int)<S.length:=by omega
 have hlS:S.length-1≤S.length:=Nat.sub_le _ _
 unfold stR25 rmL
 unfold rmH at *
 generalize hS1:S.take (S.length-1)=S1 at *
 generalize hm:S.length-1=m at *
 rcases ho with rfl | rfl<;>rcases hgc with rfl | rfl<;>rcases hgw with rfl | rfl<;>rcases hg1 with rfl | rfl
 all_goals simp -implicitDefEqProofs[l653_0,hlt,hlt',hx,hge,hws,car,hc,s1,s2,hS,hsW,hsS,hsl,htk,htkW,h32,h33,hn32,hw,hle,hlt2,hlS,genAt]
set_option maxHeartbeats 2000000 in
theorem zhy(gc gw g1:Nat)(C C1:List Ins)(W L S:List Nat)(c:List Nd)(i p a b:Nat)(x:Nd)(hgc:gc=1∨gc=6)(hgw:gw=2∨gw=7)(hg1:g1=1∨g1=5)(hx:c[i]? = some x)(ho:7≤x.op∧x.op≤10)(h2S:2≤S.length)(hS:S[S.length-1]? = some b)(hS2:S[S.length-2]? = some a)
  (hcl:c.length≤100000) (hWl:W.length≤100000) (hSl:S.length≤100000) (hn:x.n.length≤1000)
  (hc:callH T 654 [rmP,.agg (celI ⟨x.op,(a:Int),(b:Int),blk⟩)] (rmH 1 2 C W)=some (.i .i64 (p:Int),rmH g1 2 C1 W)) :
  evX (orc T) T 4 l653_0 (stR25 gc gw C W L S c i)=some (.n,stR25 (if g1=1 then gc else 6) 7 C1 (W++[p]) L (S.take (S.length-2)++[p]) c (i+1)):=by
 have car:=za6 (T:=T) x.op
 have har:arN x.op=2:=by
  rcases za7 x.op with ⟨e,h⟩ | ⟨e,h⟩ | ⟨e,h⟩ | ⟨e,h⟩<;>omega
 rw[har]at car
 obtain⟨hlt,hge⟩:=List.getElem?_eq_some_iff.1 hx
 have hlt':(i:Int)<c.length:=by omega
 have hws:=za0 hlt (by omega)
 obtain⟨s1,s2⟩:=List.getElem?_eq_some_iff.1 hS
 obtain⟨s3,s4⟩:=List.getElem?_eq_some_iff.1 hS2
 rw[ze7]at hc
 obtain⟨op,xi,n⟩:=x
 dsimp only at *
 have hsW:=zaw W p
 have hsS:=zaw (S.take (S.length-2)) p
 have hsl:(S.take (S.length-2)).length=S.length-2:=by rw[List.length_take];omega
 have htk:(natR S).take (S.length-2)=natR (S.take (S.length-2)):=by unfold natR;rw[List.map_take]
 have htkW:(natR W).take W.length=natR W:=List.take_of_length_le (by rw[zap];exact Nat.le_refl _)
 have h32:W.length+1≤4294967296:=by omega
 have h33:S.length-2+1≤4294967296:=by omega
 have hn32:n.length≤4294967296:=by omega
 have hw:IntKind.wrap .i64 ((S.length:Int)-2)=((S.length-2:Nat):Int):=by rw[zab _ (by omega)];omega
 have hm1:S.length-2+1=S.length-1:=by omega
 have hw2:IntKind.wrap .i64 (((S.length-2:Nat):Int)+1)=((S.length-1:Nat):Int):=by rw[zab _ (by omega)];omega
 have hle:((S.length-2:Nat):Int)≤S.length:=by omega
 have hlt2:((S.length-2:Nat):Int)<S.length:=by omega
 have hlt3:((S.length-1:Nat):Int)<S.length:=by omega
 have hlS:S.length-2≤S.length:=Nat.sub_le _ _
 obtain⟨o7,o10⟩:=ho
 have n1:¬ op=1:=by omega
 have n2:¬ op=2:=by omega
 have n3:¬ op=3:=by omega
 have n4:¬ op=4:=by omega
 have n5:¬ op=5:=by omega
 have n6:¬ op=6:=by omega
 have n11:¬ op=11:=by omega
 unfold stR25 rmL
 unfold rmH at *
 generalize hS1:S.take (S.length-2)=S1 at *
 generalize hm:S.length-2=m at *
 generalize hm':S.length-1=m' at *
 rcases hgc with rfl | rfl<;>rcases hgw with rfl | rfl<;>rcases hg1 with rfl | rfl
 all_goals simp -implicitDefEqProofs[l653_0,hlt,hlt',hx,hge,hws,car,hc,s1,s2,s3,s4,hS,hS2,hsW,hsS,hsl,htk,htkW,h32,h33,hn32,hw,hw2,hle,hlt2,hlt3,hlS,o7,o10,n1,n2,n3,n4,n5,n6,n11,genAt]
end
theorem zfc(x:Nd)(hn:x.n.length≤1000):fsz (leafI x).n≤2000:=by
 unfold leafI
 split
 ·have h1:=zy9 x.n
  have h2:(fz ((val x.n:Nat):Rat)).2.2=[1]:=by
   unfold fz
   simp
   decide +kernel
  show fsz (fz ((val x.n:Nat):Rat))≤2000
  unfold fsz
  rw[h2]
  simp only[List.length_cons,List.length_nil]
  omega
 ·split
  all_goals
   show fsz blk≤2000
   decide
theorem zkr{Pr:Ins→Prop}{C:List Ins}{x:Ins}(hC:∀y∈C,Pr y)(hx:Pr x):∀y∈(putI C x).1,Pr y:=by
 unfold putI
 split
 ·exact hC
 ·intro y hy
  rcases List.mem_append.1 hy with h | h
  ·exact hC y h
  ·rw[List.mem_singleton]at h
   rw[h];exact hx
theorem z1r{Pr:Ins→Prop}{Ls:List Nat}{C:List Ins}{s:List Nat}{x:Nd}(hC:∀y∈C,Pr y)(hl:Pr (leafI x))(hb:∀op a b,Pr ⟨op,a,b,blk⟩):∀y∈(ndI Ls C s x).1,Pr y:=by
 unfold ndI
 split
 ·exact hC
 ·split
  ·exact zkr hC hl
  ·split
   ·exact zkr hC (hb _ _ _)
   ·exact zkr hC (hb _ _ _)
theorem zks{Pr:Ins→Prop}(Ls:List Nat)(hb:∀op a b,Pr ⟨op,a,b,blk⟩):∀(c:List Nd) (q:Mq),(∀y∈q.C,Pr y)→(∀x∈c,Pr (leafI x))→∀y∈(c.foldl (stepQ' Ls) q).C,Pr y
 | [],q,h,_=>h
 | x::c,q,h,hl=>zks Ls hb c (stepQ' Ls q x) (z1r h (hl x List.mem_cons_self) hb) fun y hy=>hl y (List.mem_cons_of_mem _ hy)
theorem zhz(op a b:Int):fsz (⟨op,a,b,blk⟩:Ins).n≤2000:=by
 show fsz blk≤2000
 decide
section
variable{T:Tbl}[CRef17 T][CRef02 T][CRef04 T][CRef05 T][CRef07 T][CRef06 T][CRef08 T][CRef09 T][CRef25 T]
theorem zop(dim pars:Int)(gc gw:Nat)(C:List Ins)(W L S:List Nat)(c:List Nd)(i:Nat)(x:Nd)(hgc:gc=1∨gc=6)(hgw:gw=2∨gw=7)(hx:c[i]? = some x)(hok:okN dim pars L.length x=true)(har:0≤arN x.op∧arN x.op≤S.length)
  (hC:∀y∈C,MkI y) (hb:∀y∈C,fsz y.n≤2000) (hCl:C.length≤100000) (hcl:c.length≤100000) (hWl:W.length≤100000) (hSl:S.length≤100000) (hn:x.n.length≤1000) :
  ∃gc',(gc'=1∨gc'=6)∧evX (orc T) T 4 l653_0 (stR25 gc gw C W L S c i)=some (.n,stR25 gc' 7 (ndI L C S x).1 (W++[(ndI L C S x).2]) L (S.take (S.length-(arN x.op).toNat)++[(ndI L C S x).2]) c (i+1)):=by
 have g6:∀g1,(g1=1∨g1=5)→((if g1=1 then gc else 6)=1∨(if g1=1 then gc else 6)=6):=by
  rintro g1 (rfl | rfl)
  ·exact hgc
  ·exact .inr rfl
 have put:=fun(y:Ins) (hy:MkI y) (hf:fsz y.n≤2000)=>zvw (T:=T) C W y hC hy (by omega) (fun z hz=>by have:=hb z hz;omega) hCl
 unfold ndI
 by_cases ho:x.op=5
 ·obtain⟨h0,h1⟩:=zia hok ho
  rw[if_pos ho,ho,show (arN 5).toNat=0 by decide,Nat.sub_zero,List.take_length]
  exact⟨gc,hgc,zhx gc gw C W L S c i x hgc hgw hx ho h0 h1 hcl hWl hSl hn⟩
 rw[if_neg ho]
 rcases za7 x.op with ⟨e,h⟩ | ⟨e,h⟩ | ⟨e,h⟩ | ⟨e,h⟩
 ·rw[if_pos e,e,show (0:Int).toNat=0 from rfl,Nat.sub_zero,List.take_length]
  obtain⟨g1,hg1,hc⟩:=put (leafI x) (zkw x) (zfc x hn)
  refine⟨_,g6 g1 hg1,?_⟩
  by_cases h1:x.op=1
  ·have hl:leafI x=⟨1,0,0,fz ((val x.n:Nat):Rat)⟩:=if_pos h1
   rw[hl]at hc ⊢
   exact zfs gc gw g1 C _ W L S c i _ x hgc hgw hg1 hx h1 hcl hWl hSl hn hc
  ·have hl:leafI x=⟨x.op,x.i,0,blk⟩:=by
    unfold leafI
    rw[if_neg h1]
    by_cases h2:x.op=2
    ·rw[if_pos h2]
     have hi:x.i=0:=by
      unfold okN at hok
      rw[h2,if_neg (by decide)]at hok
      split at hok
      ·cases hok
      ·simpa using hok
     rw[h2,hi]
    ·rw[if_neg h2]
   rw[hl]at hc ⊢
   exact zf4 gc gw g1 C _ W L S c i _ x hgc hgw hg1 hx (by omega) hcl hWl hSl hn hc
 ·rw[if_neg (by omega),if_pos e,e,show (1:Int).toNat=1 from rfl]
  obtain⟨a,ha⟩:∃a,S[S.length-1]? = some a:=⟨_,List.getElem?_eq_getElem (by omega)⟩
  rw[ha,Option.getD_some]
  obtain⟨g1,hg1,hc⟩:=put ⟨x.op,(a:Int),x.i,blk⟩ ⟨fun h1=>absurd e (by rw[show x.op=1 from h1];decide),fun _=>rfl⟩ (zhz _ _ _)
  exact⟨_,g6 g1 hg1,ziq gc gw g1 C _ W L S c i _ a x hgc hgw hg1 hx h ha hcl hWl hSl hn hc⟩
 ·rw[if_neg (by omega),if_neg (by omega),e,show (2:Int).toNat=2 from rfl]
  obtain⟨b,hb'⟩:∃b,S[S.length-1]? = some b:=⟨_,List.getElem?_eq_getElem (by omega)⟩
  obtain⟨a,ha⟩:∃a,S[S.length-2]? = some a:=⟨_,List.getElem?_eq_getElem (by omega)⟩
  rw[ha,hb',Option.getD_some,Option.getD_some]
  obtain⟨g1,hg1,hc⟩:=put ⟨x.op,(a:Int),(b:Int),blk⟩ ⟨fun h1=>absurd e (by rw[show x.op=1 from h1];decide),fun _=>rfl⟩ (zhz _ _ _)
  exact⟨_,g6 g1 hg1,zhy gc gw g1 C _ W L S c i _ a b x hgc hgw hg1 hx h (by omega) hb' ha hcl hWl hSl hn hc⟩
 ·omega
theorem zjq(dim pars:Int)(C:List Ins)(W L:List Nat)(c:List Nd)(hC:∀y∈C,MkI y)(hb:∀y∈C,fsz y.n≤2000)(hw:wrongN c=-1)(hok:∀x∈c,okN dim pars L.length x=true)(hn:thin 1000 c)(hc:c.length≤50000)(hCl:C.length≤50000)(hWl:W.length≤50000) :
  ∃gc,(gc=1∨gc=6)∧callH T 653 [rmP,.sl (rowN c) .an,.bs (.bor 3) 3 1 0 L.length] (rmL 1 2 C W L)=some (.i .i64 ((((exQ L C W c).s[0]?).getD 0:Nat):Int),rmL gc 7 (exQ L C W c).C (exQ L C W c).W L):=by
 have hne:0<c.length:=by
  cases c with
  | nil=>exact absurd hw (by decide)
  | cons x r=>simp
 have hloop:∃r,((exQ L C W c).s.length=1∧∃gc,(gc=1∨gc=6)∧r=((.n,⟨[(7,.bs (.loc 7) 9 1 0 (exQ L C W c).s.length)],rmL gc 7 (exQ L C W c).C (exQ L C W c).W L++[(.loc 7,⟨9,.own,1,natR (exQ L C W c).s⟩)],11⟩):Ex×St)) ∧
   loopN T 4 0 (.norm false [7]) l653_0 (stR25 1 2 C W L [] c 0)=some r:=by
  refine zas (fun q:Nat×Nat×Nat=>stR25 q.2.1 q.2.2 (exQ L C W (c.take q.1)).C (exQ L C W (c.take q.1)).W L (exQ L C W (c.take q.1)).s c q.1)
   (fun q=>q.1≤c.length∧(q.2.1=1∨q.2.1=6)∧(q.2.2=2∨q.2.2=7)∧(0<q.1→q.2.2=7)∧(exQ L C W (c.take q.1)).s.length≤q.1∧(exQ L C W (c.take q.1)).C.length≤C.length+q.1∧(exQ L C W (c.take q.1)).W.length=W.length+q.1∧∃j,wrongL j (exQ L C W (c.take q.1)).s.length (c.drop q.1)=-1)
   (fun q=>c.length-q.1) _ ?_ (0,1,2) ⟨Nat.zero_le _,.inl rfl,.inl rfl,fun h=>absurd h (by decide),Nat.le_refl _,Nat.le_refl _,rfl,0,hw⟩
  rintro⟨i,gc,gw⟩ ⟨hi,hgc,hgw,hg0,hs,hCi,hWi,j,hwr⟩
  dsimp only at *
  have hmk:∀y∈(exQ L C W (c.take i)).C,MkI y:=zm3 L (c.take i) ⟨C,W,[]⟩ hC
  have hbk:∀y∈(exQ L C W (c.take i)).C,fsz y.n≤2000:=zks (Pr:=fun y=>fsz y.n≤2000) L zhz (c.take i) ⟨C,W,[]⟩ hb fun x hx=>zfc x (hn x (List.mem_of_mem_take hx))
  by_cases hil:i<c.length
  ·left
   obtain⟨x,hx,hmem⟩:∃x,c[i]? = some x∧x∈c:=⟨c[i]'hil,List.getElem?_eq_getElem hil,List.getElem_mem hil⟩
   obtain⟨_,hge⟩:=List.getElem?_eq_some_iff.1 hx
   have hd:c.drop i=x::c.drop (i+1):=by rw[List.drop_eq_getElem_cons hil,hge]
   have htk:=zpx L C W c i x hx
   rw[hd]at hwr
   generalize exQ L C W (c.take i)=q at *
   obtain⟨Cq,Wq,Sq⟩:=q
   dsimp only at *
   have h1:¬ (arN x.op<0∨(Sq.length:Int)<arN x.op):=by
    intro hh
    unfold wrongL at hwr
    rw[if_pos hh]at hwr
    omega
   have hw2:wrongL (j+1) (Sq.length+1-arN x.op) (c.drop (i+1))=-1:=by
    unfold wrongL at hwr
    rwa [if_neg h1]at hwr
   obtain⟨gc',hgc',e⟩:=zop (T:=T) dim pars gc gw Cq Wq L Sq c i x hgc hgw hx (hok x hmem) (by omega) hmk hbk (by omega) (by omega) (by omega) (by omega) (hn x hmem)
   have hst:stepQ' L ⟨Cq,Wq,Sq⟩ x=⟨(ndI L Cq Sq x).1,Wq++[(ndI L Cq Sq x).2],Sq.take (Sq.length-(arN x.op).toNat)++[(ndI L Cq Sq x).2]⟩:=rfl
   have hnl:=zn8 L Cq Sq x
   have hsl:(Sq.take (Sq.length-(arN x.op).toNat)++[(ndI L Cq Sq x).2]).length=Sq.length-(arN x.op).toNat+1:=by rw[List.length_append,List.length_take,List.length_singleton];omega
   rw[hst]at htk
   refine⟨(i+1,gc',7),?_,by dsimp only;omega,?_⟩
   ·dsimp only
    rw[htk]
    dsimp only
    refine⟨by omega,hgc',.inr rfl,fun _=>rfl,by omega,by omega,by rw[List.length_append,List.length_singleton];omega,j+1,?_⟩
    rw[hsl,←hw2]
    congr 1
    omega
   ·dsimp only
    rw[htk]
    exact e
  ·right
   have hic:i=c.length:=by omega
   subst hic
   rw[List.take_length]at *
   rw[List.drop_length]at hwr
   have h7:=hg0 hne
   have hs1:(exQ L C W c).s.length=1:=by
    unfold wrongL at hwr
    split at hwr
    ·omega
    ·omega
   refine⟨_,⟨hs1,gc,hgc,rfl⟩,?_⟩
   subst h7
   generalize exQ L C W c=q at *
   obtain⟨Cq,Wq,Sq⟩:=q
   dsimp only at *
   unfold stR25 rmL rmH
   rcases hgc with rfl | rfl
   ·constructor<;>simp -implicitDefEqProofs[l653_0,genAt]
   ·constructor<;>simp -implicitDefEqProofs[l653_0,genAt]
 obtain⟨r,⟨hs1,gc,hgc,rfl⟩,hr⟩:=hloop
 refine⟨gc,hgc,?_⟩
 generalize exQ L C W c=q at *
 obtain⟨Cq,Wq,Sq⟩:=q
 dsimp only at *
 obtain⟨v,rfl⟩:=List.length_eq_one_iff.1 hs1
 unfold stR25 rmL rmH at hr
 unfold rmL rmH
 rw[f653 _ _ rfl,b653]
 simp -implicitDefEqProofs at hr
 have hnv:natR [v]=[[.i .i64 (v:Int)]]:=rfl
 rw[hnv]at hr
 rcases hgc with rfl | rfl
 ·simp -implicitDefEqProofs[hr,genAt]
 ·simp -implicitDefEqProofs[hr,genAt]
end
abbrev mdBx(g:Nat)(C:List Ins)(W:List Nat):Heap:=
 [(.loc 6,⟨g,.str,2,[[.bs (.fld (.loc 6) 0) (g+1) 6 0 C.length,.bs (.fld (.loc 6) 1) (g+2) 1 0 W.length]]⟩),(.fld (.loc 6) 0,⟨g+1,.own,6,rowI C⟩),(.fld (.loc 6) 1,⟨g+2,.own,1,natR W⟩)]
abbrev bxF2(f:Fd):BId×Box:=(.loc 2,⟨1,.str,2,[[.sl (rowLt f.lets) .an,.sl (rowC f.outs) .an]]⟩)
def stG1'(f:Fd)(pars:Int)(C:List Ins)(W L:List Nat)(i:Nat):St:=
 ⟨[(1,.i .i64 pars),(2,.ptr (.loc 2) 1 2 0 0),(4,.ptr (.loc 4) 2 4 0 0),(6,.ptr (.loc 6) 3 2 0 0),(7,.bs (.loc 7) 6 1 0 L.length),(8,.i .i64 (i:Int))],
  [bxF2 f,bx4 2]++mdBx 3 C W++[(.loc 7,⟨6,.own,1,natR L⟩)],8⟩
def stG2'(f:Fd)(pars:Int)(C:List Ins)(W L Q:List Nat)(i:Nat):St:=
 ⟨[(2,.ptr (.loc 2) 1 2 0 0),(4,.ptr (.loc 4) 2 4 0 0),(6,.ptr (.loc 6) 3 2 0 0),(7,.bs (.loc 7) 6 1 0 L.length),(9,.ptr (.loc 9) 7 4 0 0),(10,.i .i64 (i:Int))],
  [bxF2 f,bx4 2]++mdBx 3 C W++[(.loc 7,⟨6,.own,1,natR L⟩),(.loc 9,⟨7,.str,4,[[.sl [] .an,.bs (.fld (.loc 9) 1) 8 1 0 Q.length,.i .i64 (f.outs.length:Int),.i .i64 pars]]⟩),(.fld (.loc 9) 1,⟨8,.own,1,natR Q⟩)],10⟩
section
variable{T:Tbl}[CRef25 T]
theorem zf5(f:Fd)(pars:Int)(C C1:List Ins)(W W1 L:List Nat)(i p gc:Nat)(x:Lt)(hgc:gc=1∨gc=6)(hx:f.lets[i]? = some x)(hl:f.lets.length≤100000)(hL:L.length≤100000)
  (c:callH T 653 [rmP,.sl (rowN x.code) .an,.bs (.bor 3) 3 1 0 L.length] (rmL 1 2 C W L)=some (.i .i64 (p:Int),rmL gc 7 C1 W1 L)) :
  evX (orc T) T 0 l652_0 (stG1' f pars C W L i)=some (.n,stG1' f pars C1 W1 (L++[p]) (i+1)):=by
 obtain⟨hlt,hge⟩:=List.getElem?_eq_some_iff.1 hx
 have hlt':(i:Int)<f.lets.length:=by omega
 have hws:=za0 hlt (by omega)
 have hsL:=zaw L p
 have htkL:(natR L).take L.length=natR L:=List.take_of_length_le (by rw[zap];exact Nat.le_refl _)
 have h32:L.length+1≤4294967296:=by omega
 obtain⟨Ls,O⟩:=f
 obtain⟨nm,code⟩:=x
 dsimp only at *
 unfold stG1'
 unfold rmL rmH at c
 simp only[List.cons_append,List.nil_append]at c
 rcases hgc with rfl | rfl
 ·simp -implicitDefEqProofs[l652_0,hlt,hlt',hx,hge,hws,c,hsL,htkL,h32,genAt]
 ·simp -implicitDefEqProofs[l652_0,hlt,hlt',hx,hge,hws,c,hsL,htkL,h32,genAt]
theorem zf6(f:Fd)(pars:Int)(C C1:List Ins)(W W1 L Q:List Nat)(i p gc:Nat)(x:List Nd)(hgc:gc=1∨gc=6)(hx:f.outs[i]? = some x)(hl:f.outs.length≤100000)(hQ:Q.length≤100000)
  (c:callH T 653 [rmP,.sl (rowN x) .an,.bs (.bor 3) 3 1 0 L.length] (rmL 1 2 C W L)=some (.i .i64 (p:Int),rmL gc 7 C1 W1 L)) :
  evX (orc T) T 0 l652_1 (stG2' f pars C W L Q i)=some (.n,stG2' f pars C1 W1 L (Q++[p]) (i+1)):=by
 obtain⟨hlt,hge⟩:=List.getElem?_eq_some_iff.1 hx
 have hlt':(i:Int)<f.outs.length:=by omega
 have hws:=za0 hlt (by omega)
 have hsQ:=zaw Q p
 have htkQ:(natR Q).take Q.length=natR Q:=List.take_of_length_le (by rw[zap];exact Nat.le_refl _)
 have h32:Q.length+1≤4294967296:=by omega
 obtain⟨Ls,O⟩:=f
 dsimp only at *
 unfold stG2'
 unfold rmL rmH at c
 simp only[List.cons_append,List.nil_append]at c
 rcases hgc with rfl | rfl
 ·simp -implicitDefEqProofs[l652_1,hlt,hlt',hx,hge,hws,c,hsQ,htkQ,h32,genAt]
 ·simp -implicitDefEqProofs[l652_1,hlt,hlt',hx,hge,hws,c,hsQ,htkQ,h32,genAt]
end
theorem zoq(L:List (List Nd))(h:∀c∈L,thin 1000 c):∀y∈(ltsQ L).C,fsz y.n≤2000:=by
 induction L using zep with
 | nil=>intro y hy;cases hy
 | append_singleton L c ih=>
  rw[zdv]
  exact zks (Pr:=fun y=>fsz y.n≤2000) _ zhz c ⟨_,_,[]⟩ (ih fun d hd=>h d (List.mem_append_left _ hd)) fun x hx=>zfc x (h c (by simp) x hx)
theorem zvx(q:Fq)(O:List (List Nd))(hq:∀y∈q.C,fsz y.n≤2000)(h:∀c∈O,thin 1000 c):∀y∈(ousQ q O).C,fsz y.n≤2000:=by
 induction O using zep with
 | nil=>exact hq
 | append_singleton O c ih=>
  rw[zdw]
  exact zks (Pr:=fun y=>fsz y.n≤2000) _ zhz c ⟨_,_,[]⟩ (ih fun d hd=>h d (List.mem_append_left _ hd)) fun x hx=>zfc x (h c (by simp) x hx)
section
variable{T:Tbl}[CRef17 T][CRef02 T][CRef04 T][CRef05 T][CRef07 T][CRef06 T][CRef08 T][CRef09 T][CRef25 T]
theorem zr1(f:Fd)(dim pars:Int)(hF:FineD f dim pars)(hn:thinD 1000 50000 f) :
  loopN T 0 0 (.norm false [1,2,4,6,7]) l652_0 (stG1' f pars [] [] [] 0) =
   some (.n,⟨[(1,.i .i64 pars),(2,.ptr (.loc 2) 1 2 0 0),(4,.ptr (.loc 4) 2 4 0 0),(6,.ptr (.loc 6) 3 2 0 0),(7,.bs (.loc 7) 6 1 0 (ltsQ (f.lets.map (·.code))).P.length)],
    [bxF2 f,bx4 2]++mdBx 3 (ltsQ (f.lets.map (·.code))).C (ltsQ (f.lets.map (·.code))).W++[(.loc 7,⟨6,.own,1,natR (ltsQ (f.lets.map (·.code))).P⟩)],8⟩):=by
 have hsz:=hF.wh.2.2.2.2.2.2
 have h10:=hF.wh.2.2.2.2.2.1
 have hsum:((f.lets.map (·.code)).map List.length).sum≤300:=by
  unfold sizeD codesD at hsz
  rw[List.map_append,List.sum_append]at hsz
  omega
 have hthL:∀c∈f.lets.map (·.code),thin 1000 c:=fun c hc=>by
  obtain⟨x,hx,rfl⟩:=List.mem_map.1 hc
  exact(hn x.code (zb2 hx)).2
 refine zai (T:=T) (k:=0) (id:=0) (g2:=.norm false [1,2,4,6,7]) (c:=l652_0) (fun i=>stG1' f pars (ltsQ ((f.lets.map (·.code)).take i)).C (ltsQ ((f.lets.map (·.code)).take i)).W (ltsQ ((f.lets.map (·.code)).take i)).P i) f.lets.length _ (fun i hi=>?_) ?_
 ·obtain⟨x,hx,hmem⟩:∃x,f.lets[i]? = some x∧x∈f.lets:=⟨f.lets[i]'hi,List.getElem?_eq_getElem hi,List.getElem_mem hi⟩
  have hxc:(f.lets.map (·.code))[i]? = some x.code:=by rw[List.getElem?_map,hx];rfl
  have htk:ltsQ ((f.lets.map (·.code)).take (i+1))=ltQ (ltsQ ((f.lets.map (·.code)).take i)) x.code:=by rw[List.take_add_one,hxc,Option.toList_some,zdv]
  obtain⟨h1,h2,h3⟩:=zd7 ((f.lets.map (·.code)).take i)
  have hs:=zdf (f.lets.map (·.code)) i
  have hmk:=zkh ((f.lets.map (·.code)).take i)
  have hfs:=zoq ((f.lets.map (·.code)).take i) fun c hc=>hthL c (List.mem_of_mem_take hc)
  have hil:((f.lets.map (·.code)).take i).length=i:=by rw[List.length_take,List.length_map];omega
  obtain⟨t,ht,hte,hok⟩:=zb3 (hF.lets i x hx)
  have hwr:wrongN x.code=-1:=by rw[←hte];exact zct ht
  have hcl:=hF.len x.code (zb2 hmem)
  have hth:=(hn x.code (zb2 hmem)).2
  rw[htk]
  generalize ltsQ ((f.lets.map (·.code)).take i)=q at *
  obtain⟨Cq,Wq,Pq⟩:=q
  dsimp only at *
  have hP:Pq.length=i:=by omega
  obtain⟨gc,hgc,hc⟩:=zjq (T:=T) dim pars Cq Wq Pq x.code hmk hfs hwr (by rw[hP];exact hok) hth (by omega) (by omega) (by omega)
  exact zf5 f pars Cq _ Wq _ Pq i _ gc x hgc hx (by omega) (by omega) hc
 ·rw[show f.lets.length=(f.lets.map (·.code)).length by simp,List.take_length]
  unfold stG1'
  rw[show (f.lets.map (·.code)).length=f.lets.length by simp]
  generalize ltsQ (f.lets.map (·.code))=q
  obtain⟨Cq,Wq,Pq⟩:=q
  constructor<;>simp -implicitDefEqProofs[l652_0]
theorem zr2(f:Fd)(dim pars:Int)(hF:FineD f dim pars)(hn:thinD 1000 50000 f) :
  loopN T 0 2 (.norm false [4,6,9]) l652_1 (stG2' f pars (ltsQ (f.lets.map (·.code))).C (ltsQ (f.lets.map (·.code))).W (ltsQ (f.lets.map (·.code))).P [] 0) =
   some (.n,⟨[(4,.ptr (.loc 4) 1 4 0 0),(6,.ptr (.loc 6) 2 2 0 0),(9,.ptr (.loc 9) 5 4 0 0)],
    [bx4 1]++mdBx 2 (fldQ f).C (fldQ f).W++[(.loc 9,⟨5,.str,4,[[.sl [] .an,.bs (.fld (.loc 9) 1) 6 1 0 (fldQ f).P.length,.i .i64 (f.outs.length:Int),.i .i64 pars]]⟩),(.fld (.loc 9) 1,⟨6,.own,1,natR (fldQ f).P⟩)],8⟩):=by
 have hsz:=hF.wh.2.2.2.2.2.2
 have h10:=hF.wh.2.2.2.2.2.1
 have hod:=hF.wh.2.2.2.2.1
 have hd6:=hF.wh.2.1
 have hsum:((f.lets.map (·.code)).map List.length).sum+(f.outs.map List.length).sum≤300:=by
  unfold sizeD codesD at hsz
  rw[List.map_append,List.sum_append]at hsz
  omega
 have hthL:∀c∈f.lets.map (·.code),thin 1000 c:=fun c hc=>by
  obtain⟨x,hx,rfl⟩:=List.mem_map.1 hc
  exact(hn x.code (zb2 hx)).2
 obtain⟨l1,l2,l3⟩:=zd7 (f.lets.map (·.code))
 rw[List.length_map]at l1
 have lmk:=zkh (f.lets.map (·.code))
 have lfs:=zoq (f.lets.map (·.code)) hthL
 unfold fldQ
 generalize ltsQ (f.lets.map (·.code))=q0 at *
 refine zai (T:=T) (k:=0) (id:=2) (g2:=.norm false [4,6,9]) (c:=l652_1) (fun i=>stG2' f pars (ousQ q0 (f.outs.take i)).C (ousQ q0 (f.outs.take i)).W q0.P (ousQ q0 (f.outs.take i)).P i) f.outs.length _ (fun i hi=>?_) ?_
 ·obtain⟨x,hx,hmem⟩:∃x,f.outs[i]? = some x∧x∈f.outs:=⟨f.outs[i]'hi,List.getElem?_eq_getElem hi,List.getElem_mem hi⟩
  have htk:ousQ q0 (f.outs.take (i+1))=ouQ q0.P (ousQ q0 (f.outs.take i)) x:=by rw[List.take_add_one,hx,Option.toList_some,zdw]
  obtain⟨h1,h2,h3⟩:=zgc q0 (f.outs.take i)
  have hs:=zdf f.outs i
  have hmk:=zuq q0 (f.outs.take i) lmk
  have hfs:=zvx q0 (f.outs.take i) lfs fun c hc=>(hn c (zcj (List.mem_of_mem_take hc))).2
  have hil:(f.outs.take i).length=i:=by rw[List.length_take];omega
  obtain⟨t,ht,hte,hok⟩:=zb3 (hF.outs x hmem)
  have hwr:wrongN x=-1:=by rw[←hte];exact zct ht
  have hcl:=hF.len x (zcj hmem)
  have hth:=(hn x (zcj hmem)).2
  rw[htk]
  generalize ousQ q0 (f.outs.take i)=q at *
  obtain⟨Cq,Wq,Pq⟩:=q
  dsimp only at *
  obtain⟨gc,hgc,hc⟩:=zjq (T:=T) dim pars Cq Wq q0.P x hmk hfs hwr (by rw[l1];exact hok) hth (by omega) (by omega) (by omega)
  exact zf6 f pars Cq _ Wq _ q0.P Pq i _ gc x hgc hx (by omega) (by omega) hc
 ·rw[List.take_length]
  unfold stG2'
  generalize ousQ q0 f.outs=q
  obtain⟨Cq,Wq,Pq⟩:=q
  obtain⟨C0,W0,P0⟩:=q0
  constructor<;>simp -implicitDefEqProofs[l652_1]
theorem zor(f:Fd)(pars:Int)(hn:thinD 1000 50000 f)(hF:FineD f f.outs.length pars) :
  callF T 652 [efd f,.i .i64 pars]=some (.tup [etp (tapQ f pars),.sl (natR (fldQ f).W) .an]):=by
 have l1:=zr1 (T:=T) f f.outs.length pars hF hn
 have l2:=zr2 (T:=T) f f.outs.length pars hF hn
 unfold tapQ
 unfold stG1' at l1
 unfold stG2' at l2
 dsimp only[etp]
 rw[zpy]
 have htW:(natR (fldQ f).W).take (fldQ f).W.length=natR (fldQ f).W:=List.take_of_length_le (by rw[zap];exact Nat.le_refl _)
 have htP:(natR (fldQ f).P).take (fldQ f).P.length=natR (fldQ f).P:=List.take_of_length_le (by rw[zap];exact Nat.le_refl _)
 have htC:(rowI (fldQ f).C).take (fldQ f).C.length=rowI (fldQ f).C:=List.take_of_length_le (by rw[zeq];exact Nat.le_refl _)
 generalize ltsQ (f.lets.map (·.code))=q0 at *
 generalize fldQ f=q1 at *
 obtain⟨C0,W0,P0⟩:=q0
 obtain⟨C1,W1,P1⟩:=q1
 obtain⟨L,O⟩:=f
 dsimp only at *
 clear hn hF
 simp only[mdBx,bxF2,bx4,Nat.reduceAdd,List.cons_append,List.nil_append,zp1,List.length_nil,show rowI []=[] from rfl]at l1 l2
 rw[show (((0:Nat):Int))=0 from rfl]at l1 l2
 rw[f652 _ rfl,b652]
 simp -implicitDefEqProofs[l1,l2,htW,htP,htC,genAt]
end
section
variable{T:Tbl}[CSameI T]
theorem zvy(a:List Nat)(ha:a.length≤1000):callF T 591 [.sl (natR a) .an,.sl (natR a) .an]=some (.b true):=by
 have key:=zai (T:=T) (k:=0) (id:=0) (g2:=.norm false [5]) (c:=l591_0) (fun i=>⟨[(0,.sl (natR a) .an),(1,.sl (natR a) .an),(5,.b true),(6,.i .i64 (i:Int))],[],2⟩) a.length
  (some (.n,⟨[(5,.b true)],[],2⟩)) (fun i hi=>?_) ?_
 ·rw[show (((0:Nat):Int))=0 from rfl]at key
  rw[f591 _ rfl,b591]
  simp -implicitDefEqProofs[key]
 ·obtain⟨v,hx⟩:∃v,a[i]? = some v:=⟨_,List.getElem?_eq_getElem hi⟩
  obtain⟨_,hge⟩:=List.getElem?_eq_some_iff.1 hx
  have hi':(i:Int)<a.length:=by omega
  have hws:=za0 hi (by omega)
  simp -implicitDefEqProofs[l591_0,hi,hi',hx,hge,hws]
 ·constructor<;>simp -implicitDefEqProofs[l591_0]
end
section
variable{T:Tbl}{k:Nat}
theorem z6q{id:Nat}{g2:Gh}{c:AX}{S0:St}{G:Option (Ex×St)}(fin:isEx (evX (orc T) T k c S0)=true∧finX k id g2 (evX (orc T) T k c S0)=G):loopN T k id g2 c S0=G:=
 zai (fun _=>S0) 0 G (fun j hj=>absurd hj (Nat.not_lt_zero j)) fin
theorem z6r{id:Nat}{g2:Gh}{c:AX}{S0 S1:St}{G:Option (Ex×St)}(h0:evX (orc T) T k c S0=some (.n,S1))(fin:isEx (evX (orc T) T k c S1)=true∧finX k id g2 (evX (orc T) T k c S1)=G):loopN T k id g2 c S0=G:=
 zai (fun j=>if j=0 then S0 else S1) 1 G (fun j hj=>by
  obtain rfl:j=0:=by omega
  exact h0) fin
theorem z6s{id:Nat}{g2:Gh}{c:AX}{S0 S1 S2:St}{G:Option (Ex×St)}(h0:evX (orc T) T k c S0=some (.n,S1))(h1:evX (orc T) T k c S1=some (.n,S2))(fin:isEx (evX (orc T) T k c S2)=true∧finX k id g2 (evX (orc T) T k c S2)=G):loopN T k id g2 c S0=G:=
 zai (fun j=>if j=0 then S0 else if j=1 then S1 else S2) 2 G (fun j hj=>by
  rcases(show j=0∨j=1 by omega) with rfl | rfl
  ·exact h0
  ·exact h1) fin
end
section
variable{T:Tbl}[CRef17 T]
theorem zd9:∀(t:Tre),t.ok→∀(p q code:List Nd),p++t.flat++q=code→code.length≤4294967290→callF T 114 [.sl (rowN code) .an,.i .i64 ((p.length+t.flat.length-1:Nat):Int)]=some (.tup [.i .i64 t.deep,.i .i64 p.length])
 | .leaf x,ht,p,q,code,hc,hl=>by
  have e:arN x.op=0:=ht
  have hx:code[p.length]? = some x:=by rw[←hc];simp[Tre.flat]
  obtain⟨hlt,hge⟩:=List.getElem?_eq_some_iff.1 hx
  have hlt':(p.length:Int)<code.length:=by omega
  have ca:=za6 (T:=T) x.op
  rw[e]at ca
  have e2:p.length+(Tre.leaf x).flat.length-1=p.length:=by simp[Tre.flat]
  rw[e2]
  have hlo:loopN T 0 0 (.norm false [6,7]) l114_0 ⟨[(0,.sl (rowN code) .an),(6,.i .i64 0),(7,.i .i64 p.length),(8,.i .i64 0)],[],2⟩=some (.n,⟨[(6,.i .i64 0),(7,.i .i64 p.length)],[],2⟩):=
   z6q (by constructor<;>simp -implicitDefEqProofs[l114_0])
  rw[f114 _ rfl,b114]
  obtain⟨op,xi,n⟩:=x
  simp -implicitDefEqProofs[hlt,hlt',hx,hge,ca,hlo,Tre.deep]
 | .un x a,ht,p,q,code,hc,hl=>by
  have e:arN x.op=1:=ht.1
  have hc2:p++a.flat++(x::q)=code:=by rw[←hc];simp[Tre.flat]
  have ih:=zd9 a ht.2 p (x::q) code hc2 hl
  have ha:=a.flat_pos
  have hx:code[p.length+a.flat.length]? = some x:=by rw[←hc2,←List.length_append];simp
  obtain⟨hlt,hge⟩:=List.getElem?_eq_some_iff.1 hx
  have hlt':(p.length:Int)+a.flat.length<code.length:=by omega
  have ca:=za6 (T:=T) x.op
  rw[e]at ca
  have e2:p.length+(Tre.un x a).flat.length-1=p.length+a.flat.length:=by simp[Tre.flat]
  rw[e2]
  have hw:IntKind.wrap .i64 ((p.length+a.flat.length:Nat)-1:Int)=((p.length+a.flat.length-1:Nat):Int):=by rw[zab _ (by omega)];omega
  have hd:(a.deep:Int)<4294967296:=by
   have:=a.deep_le
   omega
  have hwd:IntKind.wrap .i64 ((a.deep:Int)+1)=(a.deep:Int)+1:=zab _ (by omega)
  have hw0:IntKind.wrap .i64 0=0:=by decide
  have hmx:(if (a.deep:Int) > 0 then (a.deep:Int) else 0)=a.deep:=by split<;>omega
  have hdp:(Tre.un x a).deep=a.deep+1:=rfl
  have hcs:((p.length+a.flat.length:Nat):Int)=(p.length:Int)+a.flat.length:=by omega
  generalize hN:p.length+a.flat.length=N at *
  generalize hM:N-1=M at *
  have hlo:loopN T 0 0 (.norm false [6,7]) l114_0 ⟨[(0,.sl (rowN code) .an),(6,.i .i64 0),(7,.i .i64 (N:Int)),(8,.i .i64 1)],[],2⟩=some (.n,⟨[(6,.i .i64 a.deep),(7,.i .i64 p.length)],[],2⟩):=
   z6r (S1:=⟨[(0,.sl (rowN code) .an),(6,.i .i64 a.deep),(7,.i .i64 p.length),(8,.i .i64 0)],[],2⟩)
    (by simp -implicitDefEqProofs[l114_0,hw,hw0,ih];first | done | omega) (by constructor<;>simp -implicitDefEqProofs[l114_0])
  rw[f114 _ rfl,b114]
  obtain⟨op,xi,n⟩:=x
  simp -implicitDefEqProofs[hlt,hlt',hx,hge,ca,hlo,hdp,hwd]
 | .bin x a b,ht,p,q,code,hc,hl=>by
  have e:arN x.op=2:=ht.1
  have hcb:(p++a.flat)++b.flat++(x::q)=code:=by rw[←hc];simp[Tre.flat]
  have hca:p++a.flat++(b.flat++x::q)=code:=by rw[←hc];simp[Tre.flat]
  have ihb:=zd9 b ht.2.2 (p++a.flat) (x::q) code hcb hl
  have iha:=zd9 a ht.2.1 p (b.flat++x::q) code hca hl
  have ha:=a.flat_pos
  have hb:=b.flat_pos
  have hla:a.flat.length≤code.length:=by rw[←hca];simp only[List.length_append];omega
  have hlb:b.flat.length≤code.length:=by rw[←hcb];simp only[List.length_append];omega
  have hx:code[(p++a.flat++b.flat).length]? = some x:=by rw[←hcb];simp
  obtain⟨hlt,hge⟩:=List.getElem?_eq_some_iff.1 hx
  have ca:=za6 (T:=T) x.op
  rw[e]at ca
  rw[List.length_append]at ihb
  have e2:p.length+(Tre.bin x a b).flat.length-1=p.length+a.flat.length+b.flat.length:=by simp only[Tre.flat,List.length_append,List.length_cons,List.length_nil];omega
  have e3:(p++a.flat++b.flat).length=p.length+a.flat.length+b.flat.length:=by rw[List.length_append,List.length_append]
  rw[e2]
  simp only[e3]at hx hlt hge
  have hda:=a.deep_le
  have hdb:=b.deep_le
  have hdp:(Tre.bin x a b).deep=max a.deep b.deep+1:=rfl
  have hwd:IntKind.wrap .i64 (((max a.deep b.deep:Nat):Int)+1)=((max a.deep b.deep:Nat):Int)+1:=zab _ (by omega)
  have hw0:IntKind.wrap .i64 0=0:=by decide
  generalize hK:p.length+a.flat.length=K at *
  generalize hN:K+b.flat.length=N at *
  have hw1:IntKind.wrap .i64 ((N:Int)-1)=((N-1:Nat):Int):=by rw[zab _ (by omega)];omega
  have hw2:IntKind.wrap .i64 ((K:Int)-1)=((K-1:Nat):Int):=by rw[zab _ (by omega)];omega
  have hlt':(N:Int)<code.length:=by omega
  generalize hM:N-1=M at *
  generalize hM2:K-1=M2 at *
  generalize hMX:max a.deep b.deep=MX at *
  have hlo:loopN T 0 0 (.norm false [6,7]) l114_0 ⟨[(0,.sl (rowN code) .an),(6,.i .i64 0),(7,.i .i64 (N:Int)),(8,.i .i64 2)],[],2⟩=some (.n,⟨[(6,.i .i64 MX),(7,.i .i64 p.length)],[],2⟩):=
   z6s (S1:=⟨[(0,.sl (rowN code) .an),(6,.i .i64 b.deep),(7,.i .i64 K),(8,.i .i64 1)],[],2⟩) (S2:=⟨[(0,.sl (rowN code) .an),(6,.i .i64 MX),(7,.i .i64 p.length),(8,.i .i64 0)],[],2⟩)
    (by simp -implicitDefEqProofs[l114_0,hw1,hw0,ihb];first | done | omega) (by simp -implicitDefEqProofs[l114_0,hw2,hw0,iha];first | done | (split<;>omega) | omega) (by constructor<;>simp -implicitDefEqProofs[l114_0])
  rw[f114 _ rfl,b114]
  obtain⟨op,xi,n⟩:=x
  simp -implicitDefEqProofs[hlt,hlt',hx,hge,ca,hlo,hdp,hwd]
def Tre.parts:Tre→List (List Nd)
 | .leaf _=>[]
 | .un _ a=>[a.flat]
 | .bin _ a b=>[a.flat,b.flat]
end
def lgN(l:List Nd)(many words:Nat):Bool:=decide (many<l.length) || (l.take many).any fun x=>decide (words<x.n.length)
def lgL(nodes words:Nat)(x:Lt):Bool:=decide (100<x.name.length) || lgN x.code nodes words
def lgF(f:Fd)(many nodes words:Nat):Bool:=decide (many<f.lets.length) || decide (many<f.outs.length) || f.lets.any (lgL nodes words) || f.outs.any fun c=>lgN c nodes words
section
variable{T:Tbl}[CRef17 T][CRef19 T]
def stG0(f:Fd)(nodes words i:Nat):St:=⟨[(2,.i .i64 nodes),(3,.i .i64 words),(4,.ptr (.loc 4) 1 2 0 0),(9,.i .i64 i)],[(.loc 4,⟨1,.str,2,[[.sl (rowLt f.lets) .an,.sl (rowC f.outs) .an]]⟩)],3⟩
def stG1(f:Fd)(nodes words i:Nat):St:=⟨[(2,.i .i64 nodes),(3,.i .i64 words),(4,.ptr (.loc 4) 1 2 0 0),(10,.i .i64 i)],[(.loc 4,⟨1,.str,2,[[.sl (rowLt f.lets) .an,.sl (rowC f.outs) .an]]⟩)],3⟩
theorem zvq(f:Fd)(nodes words:Nat)(hnd:nodes≤4294967295)(hl:f.lets.length≤100000) :
  loopN T 0 0 (.norm false [2,3,4]) l466_0 (stG0 f nodes words 0)=if f.lets.any (lgL nodes words)=true then some (.r,⟨[(8,.b true)],[],2⟩) else some (.n,⟨[(2,.i .i64 nodes),(3,.i .i64 words),(4,.ptr (.loc 4) 1 2 0 0)],[(.loc 4,⟨1,.str,2,[[.sl (rowLt f.lets) .an,.sl (rowC f.outs) .an]]⟩)],3⟩):=by
 have:=zba (T:=T) (k:=0) (id:=0) (g2:=.norm false [2,3,4]) (c:=l466_0) (stG0 f nodes words) f.lets.length
  (fun i=>if (f.lets.drop i).any (lgL nodes words)=true then some (.r,⟨[(8,.b true)],[],2⟩) else some (.n,⟨[(2,.i .i64 nodes),(3,.i .i64 words),(4,.ptr (.loc 4) 1 2 0 0)],[(.loc 4,⟨1,.str,2,[[.sl (rowLt f.lets) .an,.sl (rowC f.outs) .an]]⟩)],3⟩)) (fun i hi=>?_) ?_
 ·simpa using this
 ·have hg:f.lets[i]? = some (f.lets[i]'hi):=List.getElem?_eq_getElem hi
  have hd:f.lets.drop i=f.lets[i]'hi::f.lets.drop (i+1):=List.drop_eq_getElem_cons hi
  have hi':(i:Int)<f.lets.length:=by omega
  have hws:=za0 hi (by omega)
  have c:=zjo (T:=T) (f.lets[i]'hi).code nodes words (.inr hnd) hnd
  rw[hd,List.any_cons]
  unfold stG0
  obtain⟨L,O⟩:=f
  dsimp only at *
  clear hd
  generalize hx:L[i]'hi=x at *
  obtain⟨nm,code⟩:=x
  dsimp only at *
  unfold lgL
  dsimp only
  change callF T 10 _=some (.b (lgN code nodes words)) at c
  generalize lgN code nodes words=B at *
  by_cases h1:100<nm.length
  ·right
   have h1':(100:Int)<nm.length:=by omega
   rw[if_pos (by simp[h1])]
   constructor<;>simp -implicitDefEqProofs[l466_0,hi,hi',hg,hx,h1,h1']
  ·have h1':¬ (100:Int)<nm.length:=by omega
   cases B with
   | true=>
    right
    rw[if_pos (by simp)]
    constructor<;>simp -implicitDefEqProofs[l466_0,hi,hi',hg,hx,h1,h1',c]
   | false=>
    left
    refine⟨?_,by simp[h1]⟩
    simp -implicitDefEqProofs[l466_0,hi,hi',hg,hx,h1,h1',c,hws]
 ·rw[List.drop_length,List.any_nil,if_neg (by decide)]
  unfold stG0
  constructor<;>simp -implicitDefEqProofs[l466_0]
theorem zvr(f:Fd)(nodes words:Nat)(hnd:nodes≤4294967295)(hl:f.outs.length≤100000) :
  loopN T 0 2 (.norm false []) l466_1 (stG1 f nodes words 0)=if f.outs.any (fun c=>lgN c nodes words)=true then some (.r,⟨[(8,.b true)],[],2⟩) else some (.n,⟨[],[],2⟩):=by
 have:=zba (T:=T) (k:=0) (id:=2) (g2:=.norm false []) (c:=l466_1) (stG1 f nodes words) f.outs.length
  (fun i=>if (f.outs.drop i).any (fun c=>lgN c nodes words)=true then some (.r,⟨[(8,.b true)],[],2⟩) else some (.n,⟨[],[],2⟩)) (fun i hi=>?_) ?_
 ·simpa using this
 ·have hg:f.outs[i]? = some (f.outs[i]'hi):=List.getElem?_eq_getElem hi
  have hd:f.outs.drop i=f.outs[i]'hi::f.outs.drop (i+1):=List.drop_eq_getElem_cons hi
  have hi':(i:Int)<f.outs.length:=by omega
  have hws:=za0 hi (by omega)
  have c:=zjo (T:=T) (f.outs[i]'hi) nodes words (.inr hnd) hnd
  rw[hd,List.any_cons]
  unfold stG1
  obtain⟨L,O⟩:=f
  dsimp only at *
  clear hd
  generalize hx:O[i]'hi=code at *
  change callF T 10 _=some (.b (lgN code nodes words)) at c
  generalize lgN code nodes words=B at *
  cases B with
  | true=>
   right
   rw[if_pos (by simp)]
   constructor<;>simp -implicitDefEqProofs[l466_1,hi,hi',hg,hx,c]
  | false=>
   left
   refine⟨?_,by simp⟩
   simp -implicitDefEqProofs[l466_1,hi,hi',hg,hx,c,hws]
 ·rw[List.drop_length,List.any_nil,if_neg (by decide)]
  unfold stG1
  constructor<;>simp -implicitDefEqProofs[l466_1]
theorem zol(f:Fd)(many nodes words:Nat)(hm:many≤100000)(hnd:nodes≤4294967295):callF T 466 [efd f,.i .i64 many,.i .i64 nodes,.i .i64 words]=some (.b (lgF f many nodes words)):=by
 unfold lgF
 by_cases h1:many<f.lets.length
 ·obtain⟨L,O⟩:=f
  dsimp only at *
  have h1':(many:Int)<L.length:=by omega
  rw[f466 _ rfl,b466]
  simp -implicitDefEqProofs[h1,h1']
 by_cases h2:many<f.outs.length
 ·obtain⟨L,O⟩:=f
  dsimp only at *
  have h1':¬ (many:Int)<L.length:=by omega
  have h2':(many:Int)<O.length:=by omega
  rw[f466 _ rfl,b466]
  simp -implicitDefEqProofs[h1,h1',h2,h2']
 have a:=zvq (T:=T) f nodes words hnd (by omega)
 have b:=zvr (T:=T) f nodes words hnd (by omega)
 unfold stG0 at a
 unfold stG1 at b
 obtain⟨L,O⟩:=f
 dsimp only at *
 have h1':¬ (many:Int)<L.length:=by omega
 have h2':¬ (many:Int)<O.length:=by omega
 simp only[Int.natCast_zero]at a b
 rw[f466 _ rfl,b466]
 generalize L.any (lgL nodes words)=A at *
 generalize (O.any fun c=>lgN c nodes words)=B at *
 cases A with
 | true=>
  rw[if_pos rfl]at a
  simp -implicitDefEqProofs[h1,h1',h2,h2',a]
 | false=>
  rw[if_neg (by decide)]at a
  cases B with
  | true=>
   rw[if_pos rfl]at b
   simp -implicitDefEqProofs[h1,h1',h2,h2',a,b]
  | false=>
   rw[if_neg (by decide)]at b
   simp -implicitDefEqProofs[h1,h1',h2,h2',a,b]
theorem zem(f:Fd)(h1:f.lets.length≤100000)(h2:f.outs.length≤100000):callF T 479 [efd f]=some (.sl (rowC (codesD f)) .an):=by
 obtain⟨L,O⟩:=f
 dsimp only at h1 h2
 have hL:loopN T 0 0 (.norm false [1,3]) l479_0 ⟨[(1,.ptr (.loc 1) 1 2 0 0),(3,.bs (.loc 3) 2 1 0 0),(4,.i .i64 0)],[(.loc 1,⟨1,.str,2,[[.sl (rowLt L) .an,.sl (rowC O) .an]]⟩),(.loc 3,⟨2,.own,1,[]⟩)],4⟩ =
   some (.n,⟨[(1,.ptr (.loc 1) 1 2 0 0),(3,.bs (.loc 3) 2 1 0 L.length)],[(.loc 1,⟨1,.str,2,[[.sl (rowLt L) .an,.sl (rowC O) .an]]⟩),(.loc 3,⟨2,.own,1,rowC (L.map (·.code))⟩)],4⟩):=by
  have:=zai (T:=T) (k:=0) (id:=0) (g2:=.norm false [1,3]) (c:=l479_0) (fun i=>⟨[(1,.ptr (.loc 1) 1 2 0 0),(3,.bs (.loc 3) 2 1 0 i),(4,.i .i64 (i:Int))],[(.loc 1,⟨1,.str,2,[[.sl (rowLt L) .an,.sl (rowC O) .an]]⟩),(.loc 3,⟨2,.own,1,rowC ((L.take i).map (·.code))⟩)],4⟩) L.length
   (some (.n,⟨[(1,.ptr (.loc 1) 1 2 0 0),(3,.bs (.loc 3) 2 1 0 L.length)],[(.loc 1,⟨1,.str,2,[[.sl (rowLt L) .an,.sl (rowC O) .an]]⟩),(.loc 3,⟨2,.own,1,rowC (L.map (·.code))⟩)],4⟩)) (fun i hi=>?_) ?_
  ·simpa using this
  ·have hg:L[i]? = some (L[i]'hi):=List.getElem?_eq_getElem hi
   have hi':(i:Int)<L.length:=by omega
   have hws:=za0 hi (by omega)
   have hs:(L.take (i+1)).map (·.code)=(L.take i).map (·.code)++[(L[i]'hi).code]:=by rw[List.take_succ_eq_append_getElem hi,List.map_append];rfl
   have hml:((L.take i).map (·.code)).length=i:=by rw[List.length_map,List.length_take];omega
   have hp:=zh1 (n:=i) hml (L[i]'hi).code
   have hle:i≤((L.take i).map (·.code)).length:=by omega
   have h32:i+1≤4294967296:=by omega
   rw[hs]
   generalize hx:L[i]'hi=x at *
   generalize (L.take i).map (·.code)=m at *
   obtain⟨nm,code⟩:=x
   dsimp only at *
   clear hs
   simp -implicitDefEqProofs[l479_0,hi,hi',hg,hx,hws,hp,hle,h32]
  ·constructor<;>simp -implicitDefEqProofs[l479_0]
 unfold codesD
 dsimp only
 have hM:(L.map (·.code)).length=L.length:=List.length_map _
 generalize L.map (·.code)=M at *
 have ht:List.take L.length M=M:=by rw[←hM,List.take_length]
 have hcat:wkL (rowC M++rowC O)=rowC (M++O):=by
  have:rowC M++rowC O=rowC (M++O):=by simp[rowC]
  rw[this,zow]
 have hh:Option.all (fun r:List AV=>decide (r.length=1)) (rowC O).head? = true:=by cases O<;>rfl
 have h32:L.length+O.length≤4294967296:=by omega
 rw[f479 _ rfl,b479]
 simp -implicitDefEqProofs[hL,hM,ht,hcat,hh,h32]
 rw[List.take_of_length_le (by rw[List.length_append];omega)]
theorem zrw(f:Fd)(h1:f.lets.length≤100000)(h2:f.outs.length≤100000)(hs:sizeD f≤4294967295):callF T 478 [efd f]=some (.i .i64 (sizeD f)):=by
 have c:=zem (T:=T) f h1 h2
 have hlen:(codesD f).length≤200000:=by unfold codesD;rw[List.length_append,List.length_map];omega
 unfold sizeD at *
 obtain⟨L,O⟩:=f
 generalize codesD ⟨L,O⟩=M at *
 have hlo:loopN T 0 0 (.norm false [3]) l478_0 ⟨[(3,.i .i64 0),(4,.sl (rowC M) .an),(5,.i .i64 0)],[],2⟩ =
   some (.n,⟨[(3,.i .i64 ((M.map List.length).sum:Nat))],[],2⟩):=by
  have:=zai (T:=T) (k:=0) (id:=0) (g2:=.norm false [3]) (c:=l478_0) (fun i=>⟨[(3,.i .i64 (((M.take i).map List.length).sum:Nat)),(4,.sl (rowC M) .an),(5,.i .i64 (i:Int))],[],2⟩) M.length
   (some (.n,⟨[(3,.i .i64 ((M.map List.length).sum:Nat))],[],2⟩)) (fun i hi=>?_) ?_
  ·simpa using this
  ·have hg:M[i]? = some (M[i]'hi):=List.getElem?_eq_getElem hi
   have hi':(i:Int)<M.length:=by omega
   have hws:=za0 hi (by omega)
   have hs1:((M.take (i+1)).map List.length).sum=((M.take i).map List.length).sum+(M[i]'hi).length:=by rw[List.take_succ_eq_append_getElem hi,List.map_append,List.sum_append];simp
   have hle:=zjt (l:=M) (i+1)
   have hw:IntKind.wrap .i64 ((((M.take i).map List.length).sum:Nat)+(M[i]'hi).length)=((((M.take i).map List.length).sum+(M[i]'hi).length:Nat):Int):=by rw[zab _ (by omega)];omega
   rw[hs1]
   generalize hx:M[i]'hi=x at *
   generalize ((M.take i).map List.length).sum=k at *
   clear hs1 c hs hle
   simp -implicitDefEqProofs[l478_0,hi,hi',hg,hx,hws,hw]
  ·rw[List.take_length]
   constructor<;>simp -implicitDefEqProofs[l478_0]
 generalize (M.map List.length).sum=S at *
 rw[f478 _ rfl,b478]
 simp -implicitDefEqProofs[c,hlo]
theorem zhw(l:List Nd)(hl:l.length≤50000):callF T 481 [.sl (rowN l) .an]=some (.i .i64 (depN l)):=by
 have cw:=zhv (T:=T) l (by omega)
 by_cases hw:wrongN l=-1
 ·obtain⟨t,ht,rfl⟩:=zie hw
  have c:=zd9 (T:=T) t ht [] [] t.flat (by simp) (by omega)
  rw[zv0 ht]
  rw[hw]at cw
  have hpos:=t.flat_pos
  have e:(([]:List Nd).length+t.flat.length-1:Nat)=t.flat.length-1:=by simp
  rw[e]at c
  generalize t.deep=d at *
  generalize t.flat=l at *
  obtain⟨n,hn⟩:∃n,l.length=n+1:=⟨l.length-1,by omega⟩
  have hww:IntKind.wrap .i64 (n:Int)=(n:Nat):=zab _ (by omega)
  rw[hn]at c
  rw[Nat.add_sub_cancel]at c
  rw[f481 _ rfl,b481]
  simp -implicitDefEqProofs[cw,c,hn,hww]
 ·have e:depN l=0:=by unfold depN;rw[if_neg hw]
  have h0:0≤wrongN l:=by
   rcases zc5 l 0 0 with h | h
   ·exact absurd h hw
   ·unfold wrongN;omega
  rw[e,f481 _ rfl,b481]
  simp -implicitDefEqProofs[cw,h0]
end
theorem zvi{c:UInt8}{n:Nat}(hn:n<256)(h:c≠UInt8.ofNat n):¬ c.toNat=n:=fun e=>h (by
 grind[UInt8.toNat_inj,UInt8.toNat_ofNat'])
section
variable{T:Tbl}[CRef16 T]
theorem zhu(c:UInt8):callF T 189 [u8 c.toNat]=some (.b (isD c)):=by
 rw[f189 _ rfl,b189]
 by_cases h1:48≤c.toNat
 ·simp -implicitDefEqProofs[isD,h1]
 ·simp -implicitDefEqProofs[isD,h1]
theorem zfz(c:UInt8):callF T 190 [u8 c.toNat]=some (.b (isL c)):=by
 rw[f190 _ rfl,b190]
 by_cases h1:97≤c.toNat<;>by_cases h2:c.toNat≤122<;>by_cases h3:65≤c.toNat<;>by_cases h4:c.toNat≤90<;>by_cases h5:c.toNat=95 <;>
  simp -implicitDefEqProofs[isL,h1,h2,h3,h4,h5]
end
section
variable{T:Tbl}
theorem zvj(c:UInt8)(l:List UInt8)(hl:l.length≤1000)(R:Bool):∀i:Nat,(i≤l.length∧(l.drop i).contains c=R) →
  loopN T 0 0 (.norm false []) l181_0 ⟨[(0,u8 c.toNat),(3,.s l),(4,.i .i64 i)],[],2⟩=if R=true then some (.r,⟨[(2,.i .i64 3)],[],2⟩) else some (.n,⟨[],[],2⟩):=by
 refine zav (fun i:Nat=>⟨[(0,u8 c.toNat),(3,.s l),(4,.i .i64 i)],[],2⟩) _ (fun i=>l.length-i) _ ?_
 rintro i ⟨hi,hR⟩
 by_cases h0:i<l.length
 ·have hg:l[i]? = some (l[i]'h0):=List.getElem?_eq_getElem h0
  have hd:=List.drop_eq_getElem_cons h0
  have hw:IntKind.wrap .i64 ((i:Int)+1)=((i+1:Nat):Int):=zab _ (by omega)
  rw[hd,List.contains_cons]at hR
  by_cases hc:(l[i]'h0).toNat=c.toNat
  ·right
   have:c=l[i]'h0:=(UInt8.toNat_inj.1 hc).symm
   have hR':R=true:=by grind
   subst hR'
   clear hR hd
   constructor<;>simp -implicitDefEqProofs[l181_0,h0,hc]
  ·left
   have hne:(c == l[i]'h0)=false:=by
    grind
   rw[hne,Bool.false_or]at hR
   refine⟨i+1,⟨h0,hR⟩,by omega,?_,rfl⟩
   simp -implicitDefEqProofs[l181_0,h0,hc,hw]
 ·right
  have:i=l.length:=by omega
  subst this
  subst hR
  constructor<;>simp -implicitDefEqProofs[l181_0]
end
section
variable{T:Tbl}[CRef16 T]
theorem zd8(c:UInt8):callF T 181 [u8 c.toNat]=some (.i .i64 (kindN c)):=by
 have h1:=zhu (T:=T) c
 have h2:=zfz (T:=T) c
 have h:=zvj (T:=T) c signB (by decide) _ 0 ⟨by decide,rfl⟩
 rw[List.drop_zero,show signB.contains c=isS c from rfl]at h
 simp only[signB]at h
 rw[f181 _ rfl,b181]
 cases e1:isD c<;>cases e2:isL c<;>cases e3:isS c<;>simp only[e3]at h<;>simp at h<;>simp -implicitDefEqProofs[kindN,h1,h2,h,e1,e2,e3]
theorem zfq(k:Nat)(c:UInt8):callF T 180 [.i .i64 k,u8 c.toNat]=some (.b (moreN k c)):=by
 have h1:=zhu (T:=T) c
 have h2:=zfz (T:=T) c
 rw[f180 _ rfl,b180]
 by_cases k1:k=1
 ·subst k1
  cases e1:isD c<;>cases e2:isL c<;>simp -implicitDefEqProofs[moreN,h1,e1,e2]
 ·have k1':¬ (k:Int)=1:=by omega
  by_cases k2:k=2
  ·subst k2
   cases e1:isD c<;>cases e2:isL c<;>simp -implicitDefEqProofs[moreN,h1,h2,e1,e2]
  ·have k2':¬ (k:Int)=2:=by omega
   simp -implicitDefEqProofs[moreN,k1,k2,k1',k2']
theorem zfr(k:Nat):callF T 182 [.i .i64 k]=some (.i .i64 (mostN k)):=by
 rw[f182 _ rfl,b182]
 by_cases k1:k=1
 ·subst k1
  simp -implicitDefEqProofs[mostN]
 ·have k1':¬ (k:Int)=1:=by omega
  by_cases k2:k=2
  ·subst k2
   simp -implicitDefEqProofs[mostN]
  ·have k2':¬ (k:Int)=2:=by omega
   simp -implicitDefEqProofs[mostN,k1,k2,k1',k2']
def stRf(s:List UInt8)(i:Nat)(note:Bool)(acc:List Wd):St:=
 ⟨[(0,.s s),(4,.bs (.loc 4) 1 3 0 acc.length),(5,.b note),(6,.i .i64 i)],[(.loc 4,⟨1,.own,3,rowsW acc⟩)],3⟩
def resRf:Except Nat (List Wd)→Option (Ex×St)
 | .ok ws=>some (.n,⟨[(4,.bs (.loc 4) 1 3 0 ws.length)],[(.loc 4,⟨1,.own,3,rowsW ws⟩)],3⟩)
 | .error e=>some (.r,⟨[(2,.sl [] .an),(3,.i .i64 e)],[],2⟩)
def EndsBy(acc:List Wd)(i:Nat):Prop:=∀k t a,acc.getLast? = some (k,t,a)→a+t.length≤i
theorem zvk(s:List UInt8)(hs:s.length≤4000)(i:Nat)(h0:i<s.length)(note:Bool)(acc:List Wd)(ha:acc.length≤i)(c:UInt8)(hc:s[i]'h0=c)
  (hsk:((if c=35 then true else if c=10 then false else note) || isB c)=true) :
  evX (orc T) T 0 l168_0 (stRf s i note acc)=some (.n,stRf s (i+1) (if c=35 then true else if c=10 then false else note) acc):=by
 have hw:IntKind.wrap .i64 ((i:Int)+1)=((i+1:Nat):Int):=zab _ (by omega)
 rw[z06]at hsk
 have e35:=zho c 35 (by decide)
 have e10:=zho c 10 (by decide)
 rw[show UInt8.ofNat 35=35 from rfl]at e35
 rw[show UInt8.ofNat 10=10 from rfl]at e10
 simp only[e35,e10]at hsk ⊢
 obtain⟨n,hn⟩:∃n,n=c.toNat:=⟨_,rfl⟩
 have hn':=hn.symm
 by_cases c35:n=35
 ·subst c35
  simp -implicitDefEqProofs[l168_0,stRf,h0,hc,hn',hw]
 ·by_cases c10:n=10
  ·subst c10
   simp -implicitDefEqProofs[l168_0,stRf,h0,hc,hn',hw]
  ·cases note with
   | true=>simp -implicitDefEqProofs[l168_0,stRf,h0,hc,hn',hw,c35,c10]
   | false=>
    by_cases c32:n=32
    ·subst c32
     simp -implicitDefEqProofs[l168_0,stRf,h0,hc,hn',hw]
    ·by_cases c9:n=9
     ·subst c9
      simp -implicitDefEqProofs[l168_0,stRf,h0,hc,hn',hw]
     ·have c13:n=13:=by grind
      subst c13
      simp -implicitDefEqProofs[l168_0,stRf,h0,hc,hn',hw]
theorem zci(pre:List Wd)(k a:Nat)(t:List UInt8):(rowsW (pre++[(k,t,a)]))[pre.length]? = some [.i .i64 k,.s t,.i .i64 a]:=by
 simp[rowsW,wdR]
theorem zvl(s:List UInt8)(hs:s.length≤4000)(i:Nat)(h0:i<s.length)(c:UInt8)(hc:s[i]'h0=c)
  (c35:¬ c.toNat=35) (c10:¬ c.toNat=10) (c32:¬ c.toNat=32) (c9:¬ c.toNat=9) (c13:¬ c.toNat=13) (k:Nat) (hk0:kindN c=k) (hz:¬ k=0) :
  evX (orc T) T 0 l168_0 (stRf s i false [])=some (.n,stRf s (i+1) false [(k,[c],i)]):=by
 have hw:IntKind.wrap .i64 ((i:Int)+1)=((i+1:Nat):Int):=zab _ (by omega)
 have hk:=zd8 (T:=T) c
 rw[hk0]at hk
 have b1:(i:Int)+1≤s.length:=by omega
 have b2:List.drop i (List.take (i+1) s)=[c]:=by
  grind[List.drop_eq_getElem_cons]
 have hm:=zfr (T:=T) k
 have hq:=zd2 k
 have hq':¬ ((mostN k:Nat):Int)<1:=by omega
 simp -implicitDefEqProofs[l168_0,stRf,rowsW,wdR,h0,hc,hw,c35,c10,c32,c9,c13,hk,hm,b1,b2,hz,hq']
theorem zkp(s:List UInt8)(hs:s.length≤4000)(i:Nat)(h0:i<s.length)(c:UInt8)(hc:s[i]'h0=c)
  (c35:¬ c.toNat=35) (c10:¬ c.toNat=10) (c32:¬ c.toNat=32) (c9:¬ c.toNat=9) (c13:¬ c.toNat=13) (hk0:kindN c=0) :
  isEx (evX (orc T) T 0 l168_0 (stRf s i false []))=true∧finX 0 0 (Gh.norm false [4]) (evX (orc T) T 0 l168_0 (stRf s i false []))=resRf (.error i):=by
 have hw:IntKind.wrap .i64 ((i:Int)+1)=((i+1:Nat):Int):=zab _ (by omega)
 have hk:=zd8 (T:=T) c
 rw[hk0]at hk
 have b1:(i:Int)+1≤s.length:=by omega
 have b2:List.drop i (List.take (i+1) s)=[c]:=by
  grind[List.drop_eq_getElem_cons]
 constructor<;>simp -implicitDefEqProofs[l168_0,stRf,resRf,rowsW,h0,hc,hw,c35,c10,c32,c9,c13,hk,b1,b2]
theorem zvm(s:List UInt8)(hs:s.length≤4000)(i:Nat)(h0:i<s.length)(c:UInt8)(hc:s[i]'h0=c)
  (c35:¬ c.toNat=35) (c10:¬ c.toNat=10) (c32:¬ c.toNat=32) (c9:¬ c.toNat=9) (c13:¬ c.toNat=13) (pre:List Wd) (hp:pre.length<i) (k0 a0:Nat) (t0:List UInt8) (ht0:a0+t0.length≤i) (hadj:¬ (a0+t0.length=i∧moreN k0 c=true)) (k:Nat) (hk0:kindN c=k) (hz:¬ k=0) :
  evX (orc T) T 0 l168_0 (stRf s i false (pre++[(k0,t0,a0)]))=some (.n,stRf s (i+1) false (pre++[(k0,t0,a0)]++[(k,[c],i)])):=by
 have hg:s[i]? = some c:=by grind
 have hw:IntKind.wrap .i64 ((i:Int)+1)=((i+1:Nat):Int):=zab _ (by omega)
 have hwi:IntKind.wrap .i64 (i:Int)=(i:Int):=zab _ (by omega)
 have b1:(i:Int)+1≤s.length:=by omega
 have b2:List.drop i (List.take (i+1) s)=[c]:=by
  grind[List.drop_eq_getElem_cons]
 have hmo:=zfq (T:=T) k0 c
 have hl:=zci pre k0 a0 t0
 have hll:(rowsW (pre++[(k0,t0,a0)])).length=pre.length+1:=by simp
 have hl2:=zci (pre++[(k0,t0,a0)]) k i [c]
 have hll2:(rowsW (pre++[(k0,t0,a0)]++[(k,[c],i)])).length=pre.length+2:=by simp
 have hpu:wkL (List.take (pre.length+1) (rowsW (pre++[(k0,t0,a0)]))++[[AV.i .i64 k,.s [c],.i .i64 i]])=rowsW (pre++[(k0,t0,a0)]++[(k,[c],i)]):=by
  grind[zjj,List.length_singleton]
 have hwp:IntKind.wrap .i64 (pre.length:Int)=(pre.length:Int):=zab _ (by omega)
 have hwp1:IntKind.wrap .i64 ((pre.length:Int)+1)=(pre.length:Int)+1:=zab _ (by omega)
 have hlt:(pre.length:Int)<(pre.length:Int)+1:=by omega
 have hws:IntKind.wrap .i64 ((a0:Int)+t0.length)=((a0:Int)+t0.length):=zab _ (by omega)
 have hk:=zd8 (T:=T) c
 rw[hk0]at hk
 have hm:=zfr (T:=T) k
 have hq:=zd2 k
 have hq':¬ ((mostN k:Nat):Int)<1:=by omega
 have hz':¬ (k:Int)=0:=by omega
 have hal:(pre++[(k0,t0,a0)]).length=pre.length+1:=by simp
 have hal2:(pre++[(k0,t0,a0)]++[(k,[c],i)]).length=pre.length+2:=by simp
 have hpl:pre.length≤4294967294:=by omega
 unfold stRf
 rw[hal,hal2]
 rw[hal]at hl2
 have g1:=zdg (pre++[(k0,t0,a0)])
 have g2:=ze8 (pre++[(k0,t0,a0)])
 have g3:=zdg (pre++[(k0,t0,a0)]++[(k,[c],i)])
 have g4:=ze8 (pre++[(k0,t0,a0)]++[(k,[c],i)])
 generalize rowsW (pre++[(k0,t0,a0)]++[(k,[c],i)])=RW2 at *
 generalize rowsW (pre++[(k0,t0,a0)])=RW at *
 generalize pre.length=m at *
 obtain⟨hx1,hgE⟩:=List.getElem?_eq_some_iff.1 hl
 have hT:List.take (m+1) RW=RW:=List.take_of_length_le (by omega)
 rw[hT]at hpu
 have hl3:(RW++[[AV.i .i64 k,.s [c],.i .i64 i]])[m+1]? = some [AV.i .i64 k,.s [c],.i .i64 i]:=by
  grind
 obtain⟨hx3,hgE3⟩:=List.getElem?_eq_some_iff.1 hl3
 have hm1:((m:Int)+1).toNat=m+1:=by omega
 by_cases had:a0+t0.length=i
 ·have had':(a0:Int)+t0.length=i:=by omega
  have hmm:moreN k0 c=false:=by grind
  simp -implicitDefEqProofs[l168_0,h0,hc,hw,hwi,c35,c10,c32,c9,c13,hk,hm,b1,b2,hz,hq',hmo,hll,hT,hpu,hm1,hwp,hwp1,hlt,hgE,hgE3,had',hmm,hpl]
 ·have had':¬ (a0:Int)+t0.length=i:=by omega
  simp -implicitDefEqProofs[l168_0,h0,hc,hw,c35,c10,c32,c9,c13,hk,hm,b1,b2,hz,hq',hll,hT,hpu,hm1,hwp,hwp1,hws,hlt,hgE,hgE3,had',hpl]
theorem zkq(s:List UInt8)(hs:s.length≤4000)(i:Nat)(h0:i<s.length)(c:UInt8)(hc:s[i]'h0=c)
  (c35:¬ c.toNat=35) (c10:¬ c.toNat=10) (c32:¬ c.toNat=32) (c9:¬ c.toNat=9) (c13:¬ c.toNat=13) (pre:List Wd) (hp:pre.length<i) (k0 a0:Nat) (t0:List UInt8) (ht0:a0+t0.length≤i) (hadj:¬ (a0+t0.length=i∧moreN k0 c=true)) (hk0:kindN c=0) :
  isEx (evX (orc T) T 0 l168_0 (stRf s i false (pre++[(k0,t0,a0)])))=true∧finX 0 0 (Gh.norm false [4]) (evX (orc T) T 0 l168_0 (stRf s i false (pre++[(k0,t0,a0)])))=resRf (.error i):=by
 obtain⟨k,hkk⟩:∃k:Nat,k=0:=⟨_,rfl⟩
 have hw:IntKind.wrap .i64 ((i:Int)+1)=((i+1:Nat):Int):=zab _ (by omega)
 have hwi:IntKind.wrap .i64 (i:Int)=(i:Int):=zab _ (by omega)
 have b1:(i:Int)+1≤s.length:=by omega
 have b2:List.drop i (List.take (i+1) s)=[c]:=by
  grind[List.drop_eq_getElem_cons]
 have hmo:=zfq (T:=T) k0 c
 have hl:=zci pre k0 a0 t0
 have hll:(rowsW (pre++[(k0,t0,a0)])).length=pre.length+1:=by simp
 have hl2:=zci (pre++[(k0,t0,a0)]) k i [c]
 have hpu:wkL (List.take (pre.length+1) (rowsW (pre++[(k0,t0,a0)]))++[[AV.i .i64 k,.s [c],.i .i64 i]])=rowsW (pre++[(k0,t0,a0)]++[(k,[c],i)]):=by
  grind[zjj,List.length_singleton]
 have hwp:IntKind.wrap .i64 (pre.length:Int)=(pre.length:Int):=zab _ (by omega)
 have hwp1:IntKind.wrap .i64 ((pre.length:Int)+1)=(pre.length:Int)+1:=zab _ (by omega)
 have hlt:(pre.length:Int)<(pre.length:Int)+1:=by omega
 have hws:IntKind.wrap .i64 ((a0:Int)+t0.length)=((a0:Int)+t0.length):=zab _ (by omega)
 have hk:=zd8 (T:=T) c
 rw[hk0]at hk
 have hz':(k:Int)=0:=by omega
 have hal:(pre++[(k0,t0,a0)]).length=pre.length+1:=by simp
 have hpl:pre.length≤4294967294:=by omega
 unfold stRf resRf
 rw[hal]
 have g4:=ze8 (pre++[(k0,t0,a0)]++[(k,[c],i)])
 generalize rowsW (pre++[(k0,t0,a0)])=RW at *
 generalize pre.length=m at *
 obtain⟨hx1,hgE⟩:=List.getElem?_eq_some_iff.1 hl
 have hT:List.take (m+1) RW=RW:=List.take_of_length_le (by omega)
 have hl3:(RW++[[AV.i .i64 k,.s [c],.i .i64 i]])[m+1]? = some [AV.i .i64 k,.s [c],.i .i64 i]:=by
  grind
 have hm1:((m:Int)+1).toNat=m+1:=by omega
 by_cases had:a0+t0.length=i
 ·have had':(a0:Int)+t0.length=i:=by omega
  have hmm:moreN k0 c=false:=by grind
  constructor<;>simp -implicitDefEqProofs[l168_0,h0,hc,hw,hwi,c35,c10,c32,c9,c13,hk,b1,b2,hmo,hll,hT,hm1,hwp,hwp1,hlt,hgE,had',hmm,hpl]
 ·have had':¬ (a0:Int)+t0.length=i:=by omega
  constructor<;>simp -implicitDefEqProofs[l168_0,h0,hc,hw,c35,c10,c32,c9,c13,hk,b1,b2,hll,hT,hm1,hwp,hwp1,hws,hlt,hgE,had',hpl]
theorem zvn(pre:List Wd)(k a:Nat)(t t':List UInt8):(rowsW (pre++[(k,t,a)])).set pre.length [.i .i64 k,.s t',.i .i64 a]=rowsW (pre++[(k,t',a)]):=by
 have e:rowsW (pre++[(k,t,a)])=rowsW pre++[wdR (k,t,a)]:=by simp[rowsW]
 have e':rowsW (pre++[(k,t',a)])=rowsW pre++[wdR (k,t',a)]:=by simp[rowsW]
 rw[e,e',List.set_append_right _ _ (by simp),zdx,Nat.sub_self]
 rfl
theorem zx9(s:List UInt8)(hs:s.length≤4000)(i:Nat)(h0:i<s.length)(c:UInt8)(hc:s[i]'h0=c)
  (c35:¬ c.toNat=35) (c10:¬ c.toNat=10) (c32:¬ c.toNat=32) (c9:¬ c.toNat=9) (c13:¬ c.toNat=13) (pre:List Wd) (hp:pre.length<i) (k0 a0:Nat) (t0:List UInt8) (had:a0+t0.length=i) (hmm:moreN k0 c=true) (hz:¬ k0=0) :
  (t0.length+1≤mostN k0→evX (orc T) T 0 l168_0 (stRf s i false (pre++[(k0,t0,a0)]))=some (.n,stRf s (i+1) false (pre++[(k0,t0++[c],a0)]))) ∧
  (mostN k0<t0.length+1→isEx (evX (orc T) T 0 l168_0 (stRf s i false (pre++[(k0,t0,a0)])))=true∧finX 0 0 (Gh.norm false [4]) (evX (orc T) T 0 l168_0 (stRf s i false (pre++[(k0,t0,a0)])))=resRf (.error i)):=by
 have hw:IntKind.wrap .i64 ((i:Int)+1)=((i+1:Nat):Int):=zab _ (by omega)
 have hwi:IntKind.wrap .i64 (i:Int)=(i:Int):=zab _ (by omega)
 have b1:(i:Int)+1≤s.length:=by omega
 have b2:List.drop i (List.take (i+1) s)=[c]:=by
  grind[List.drop_eq_getElem_cons]
 have hmo:=zfq (T:=T) k0 c
 rw[hmm]at hmo
 have hl:=zci pre k0 a0 t0
 have hll:(rowsW (pre++[(k0,t0,a0)])).length=pre.length+1:=by simp
 have hl2:=zci pre k0 a0 (t0++[c])
 have hll2:(rowsW (pre++[(k0,t0++[c],a0)])).length=pre.length+1:=by simp
 have hset:=zvn pre k0 a0 t0 (t0++[c])
 have hwp:IntKind.wrap .i64 (pre.length:Int)=(pre.length:Int):=zab _ (by omega)
 have hlt:(pre.length:Int)<(pre.length:Int)+1:=by omega
 have had':(a0:Int)+t0.length=i:=by omega
 have hm:=zfr (T:=T) k0
 have hal:(pre++[(k0,t0,a0)]).length=pre.length+1:=by simp
 have hal2:(pre++[(k0,t0++[c],a0)]).length=pre.length+1:=by simp
 have hcl:t0.length+1≤9223372036854775807:=by omega
 unfold stRf resRf
 rw[hal,hal2]
 have g3:=zdg (pre++[(k0,t0++[c],a0)])
 have g4:=ze8 (pre++[(k0,t0++[c],a0)])
 obtain⟨hx1,hgE⟩:=List.getElem?_eq_some_iff.1 hl
 obtain⟨hx2,hgE2⟩:=List.getElem?_eq_some_iff.1 hl2
 refine⟨fun hq=>?_,fun hq=>?_⟩
 ·have hq2:¬ ((mostN k0:Nat):Int)<(t0.length:Int)+1:=by omega
  simp -implicitDefEqProofs[l168_0,h0,hc,hw,hwi,c35,c10,c32,c9,c13,hm,b1,b2,hz,hmo,hll,hll2,hset,hwp,hlt,hgE,hgE2,had',hcl,hq2,g3]
 ·have hq2:((mostN k0:Nat):Int)<(t0.length:Int)+1:=by omega
  constructor<;>simp -implicitDefEqProofs[l168_0,h0,hc,hw,hwi,c35,c10,c32,c9,c13,hm,b1,b2,hz,hmo,hll,hll2,hset,hwp,hlt,hgE,hgE2,had',hcl,hq2]
theorem zvo(s:List UInt8)(hs:s.length≤4000):∀y:Nat×Bool×List Wd,(y.1≤s.length∧y.2.2.length≤y.1∧(∀k t a,y.2.2.getLast? = some (k,t,a)→a+t.length≤y.1∧¬ k=0)) →
  loopN T 0 0 (.norm false [4]) l168_0 (stRf s y.1 y.2.1 y.2.2)=resRf (refL (s.drop y.1) y.1 y.2.1 y.2.2):=by
 refine zav (fun y:Nat×Bool×List Wd=>stRf s y.1 y.2.1 y.2.2) (fun y=>y.1≤s.length∧y.2.2.length≤y.1∧(∀k t a,y.2.2.getLast? = some (k,t,a)→a+t.length≤y.1∧¬ k=0)) (fun y=>s.length-y.1) (fun y=>resRf (refL (s.drop y.1) y.1 y.2.1 y.2.2)) ?_
 rintro⟨i,note,acc⟩ ⟨hi,ha,he⟩
 by_cases h0:i<s.length
 ·obtain⟨c,hc⟩:∃c,s[i]'h0=c:=⟨_,rfl⟩
  have hd:s.drop i=c::s.drop (i+1):=by rw[List.drop_eq_getElem_cons h0,hc]
  by_cases hsk:((if c=35 then true else if c=10 then false else note) || isB c)=true
  ·left
   refine⟨(i+1,(if c=35 then true else if c=10 then false else note),acc),⟨h0,by grind,fun k t a h=>by
    grind⟩,by omega,zvk s hs i h0 note acc ha c hc hsk,?_⟩
   grind[refL]
  ·have hsk':=hsk
   simp only[Bool.or_eq_true,not_or,Bool.not_eq_true]at hsk'
   obtain⟨h1,h2⟩:=hsk'
   have n35:c≠35:=fun e=>by grind
   have n10:c≠10:=fun e=>by subst e;simp[isB]at h2
   have hnote:note=false:=by grind
   subst hnote
   have hB:¬ c=32∧¬ c=9∧¬ c=13:=by
    grind[isB]
   have c35:¬ c.toNat=35:=zvi (n:=35) (by decide) n35
   have c10:¬ c.toNat=10:=zvi (n:=10) (by decide) n10
   have c32:¬ c.toNat=32:=zvi (n:=32) (by decide) hB.1
   have c9:¬ c.toNat=9:=zvi (n:=9) (by decide) hB.2.1
   have c13:¬ c.toNat=13:=zvi (n:=13) (by decide) hB.2.2
   have hR:refL (s.drop i) i false acc=if badWd (stepWd c i acc)=true then .error i else refL (s.drop (i+1)) (i+1) false (stepWd c i acc):=by
    grind[refL]
   rw[hR]
   have hmp:=zd2 (kindN c)
   rcases List.eq_nil_or_concat acc with rfl | ⟨pre,⟨k0,t0,a0⟩,rfl⟩
   ·have hs1:stepWd c i []=[(kindN c,[c],i)]:=rfl
    have hb1:badWd [(kindN c,[c],i)]=decide (kindN c=0):=by
     simp[badWd]
     omega
    rw[hs1,hb1]
    by_cases hk:kindN c=0
    ·grind[zkp]
    ·left
     rw[decide_eq_false hk,if_neg (by decide)]
     refine⟨(i+1,false,[(kindN c,[c],i)]),⟨h0,by simp,fun k t a h=>by
      grind⟩,by omega,zvl (T:=T) s hs i h0 c hc c35 c10 c32 c9 c13 (kindN c) rfl hk,rfl⟩
   ·rw[List.concat_eq_append]at he ha ⊢
    obtain⟨e1,e2⟩:=he k0 t0 a0 (by simp)
    have hp:pre.length<i:=by
     grind
    by_cases hadj:a0+t0.length=i∧moreN k0 c=true
    ·have hs1:stepWd c i (pre++[(k0,t0,a0)])=pre++[(k0,t0++[c],a0)]:=by simp[stepWd,hadj.1,hadj.2]
     have hb1:badWd (pre++[(k0,t0++[c],a0)])=decide (mostN k0<t0.length+1):=by simp[badWd,e2]
     rw[hs1,hb1]
     obtain⟨x1,x2⟩:=zx9 (T:=T) s hs i h0 c hc c35 c10 c32 c9 c13 pre hp k0 a0 t0 hadj.1 hadj.2 e2
     by_cases hq:mostN k0<t0.length+1
     ·grind
     ·left
      rw[decide_eq_false hq,if_neg (by decide)]
      refine⟨(i+1,false,pre++[(k0,t0++[c],a0)]),⟨h0,by grind,fun k t a h=>by
       grind⟩,by omega,x1 (by omega),rfl⟩
    ·have hs1:stepWd c i (pre++[(k0,t0,a0)])=pre++[(k0,t0,a0)]++[(kindN c,[c],i)]:=by
      unfold stepWd
      grind
     have hb1:badWd (pre++[(k0,t0,a0)]++[(kindN c,[c],i)])=decide (kindN c=0):=by
      simp[badWd]
      omega
     rw[hs1,hb1]
     by_cases hk:kindN c=0
     ·grind[zkq]
     ·left
      rw[decide_eq_false hk,if_neg (by decide)]
      refine⟨(i+1,false,pre++[(k0,t0,a0)]++[(kindN c,[c],i)]),⟨h0,by grind,fun k t a h=>by
       grind⟩,by omega,zvm (T:=T) s hs i h0 c hc c35 c10 c32 c9 c13 pre hp k0 a0 t0 e1 hadj (kindN c) rfl hk,rfl⟩
 ·right
  have hi2:i=s.length:=by omega
  subst hi2
  rw[List.drop_length]
  have er:refL [] s.length note acc=.ok acc:=rfl
  rw[er]
  simp only[resRf,stRf]
  have g1:=zdg acc
  have g2:=ze8 acc
  have g3:=zdx acc
  generalize rowsW acc=RW at *
  generalize acc.length=m at *
  constructor<;>simp -implicitDefEqProofs[l168_0,g1]
def ansRef(r:Except Nat (List Wd)):AV:=
 match r with
 | .ok ws=>.tup [.sl (rowsW ws) .an,.i .i64 (-1)]
 | .error e=>.tup [.sl [] .an,.i .i64 e]
theorem zrt(s:List UInt8)(hs:s.length≤1000000):callF T 168 [.s s]=some (ansRef (scanT s)):=by
 rw[f168 _ rfl,b168]
 unfold scanT
 by_cases h1:4000<s.length
 ·have h1':(4000:Int)<s.length:=by omega
  rw[if_pos h1]
  simp -implicitDefEqProofs[ansRef,h1']
 ·have h1':¬ (4000:Int)<s.length:=by omega
  rw[if_neg h1]
  have h:=zvo (T:=T) s (by omega) (0,false,[]) ⟨Nat.zero_le _,Nat.le_refl _,fun k t a h=>by grind⟩
  simp only[List.drop_zero]at h
  rw[zwp]at h
  have e0:rowsW []=[]:=rfl
  simp only[stRf,e0,List.length_nil,Int.natCast_zero]at h
  cases hr:scanL (s.drop (skipC false s)) (skipC false s) []with
  | ok ws=>
   rw[hr]at h
   simp only[resRf]at h
   have g1:=zdg ws
   have g3:=zdx ws
   simp only[ansRef]
   generalize rowsW ws=RW at *
   generalize ws.length=m at *
   have ht:List.take m RW=RW:=List.take_of_length_le (by omega)
   simp -implicitDefEqProofs[h1',h,g1,ht,g3]
  | error e=>
   rw[hr]at h
   simp only[resRf]at h
   simp -implicitDefEqProofs[ansRef,h1',h]
end
theorem zmx:∀(n:Nat) (l:List UInt8) (i:Nat) (acc ws:List Wd),l.length=n→scanL l i acc=.ok ws→∃r,ws=acc++r:=by
 intro n
 induction n using Nat.strongRecOn with
 | _ n ih=>
  intro l i acc ws hl h
  cases l with
  | nil=>rw[zfe]at h;cases h;exact⟨[],by simp⟩
  | cons c r=>
   rw[zfv]at h
   split at h
   ·cases h
   ·split at h
    ·cases h
    ·obtain⟨r',hr'⟩:=ih _ (by simp only[List.length_drop,List.length_cons]at hl ⊢;omega) _ _ _ _ rfl h
     exact⟨_,by rw[hr',List.append_assoc]⟩
def oneB(k:Int)(t:List UInt8):Except Nat (List Wd)→Bool
 | .ok [(k',t',_)]=>decide ((k':Int)=k)&&decide (t'=t)
 | _=>false
theorem zvp(k:Nat)(r:List UInt8):1≤firstN k r∧firstN k r≤r.length+1:=by
 unfold firstN
 have:=(List.takeWhile_sublist (moreN k) (l:=r)).length_le
 omega
theorem zru(k:Int)(t:List UInt8)(ht:t.length≤4000):oneB k t (scanT t)=rightB k t:=by
 unfold scanT
 rw[if_neg (by omega)]
 cases t with
 | nil=>simp[skipC,zfe,oneB,rightB]
 | cons c r=>
  simp only[List.length_cons]at ht
  by_cases hsk:skipC false (c::r)=0
  ·rw[hsk,List.drop_zero,zfv]
   obtain⟨f1,f2⟩:=zvp (kindN c) r
   by_cases hk:kindN c=0
   ·rw[if_pos hk]
    simp only[oneB,rightB,hk]
    by_cases hk0:k=0
    ·simp[hk0]
    ·have:¬ (0:Int)=k:=fun h=>hk0 h.symm
     simp[this]
   ·rw[if_neg hk]
    by_cases hm:mostN (kindN c)<firstN (kindN c) r
    ·rw[if_pos hm]
     simp only[oneB,rightB]
     by_cases hfl:firstN (kindN c) r=r.length+1
     ·have:¬ r.length+1≤mostN (kindN c):=by omega
      simp[this]
     ·simp[hfl]
    ·rw[if_neg hm,List.nil_append]
     by_cases hfl:firstN (kindN c) r=r.length+1
     ·have e1:r.drop (firstN (kindN c) r-1)=[]:=by
       rw[hfl]
       exact List.drop_eq_nil_of_le (by omega)
      have e2:(c::r).take (firstN (kindN c) r)=c::r:=by
       rw[hfl]
       exact List.take_of_length_le (by simp)
      rw[e1,e2]
      simp only[skipC,List.drop_nil,zfe,oneB,rightB,hfl]
      have:r.length+1≤mostN (kindN c):=by omega
      by_cases hkk:(kindN c:Int)=k
      ·have hk0:k≠0:=by omega
       simp[hkk,hk0,this]
      ·simp[hkk]
     ·have hfalse:rightB k (c::r)=false:=by simp[rightB,hfl]
      rw[hfalse]
      generalize hws:scanL ((r.drop (firstN (kindN c) r-1)).drop (skipC false (r.drop (firstN (kindN c) r-1)))) (0+firstN (kindN c) r+skipC false (r.drop (firstN (kindN c) r-1))) [(kindN c,(c::r).take (firstN (kindN c) r),0)]=res
      cases res with
      | error e=>rfl
      | ok ws=>
       obtain⟨x,hx⟩:=zmx _ _ _ _ _ rfl hws
       rw[hx]
       cases x with
       | nil=>
        simp only[List.append_nil,oneB]
        have hne:¬ (c::r).take (firstN (kindN c) r)=c::r:=fun h=>by
         have:=congrArg List.length h
         rw[List.length_take,List.length_cons]at this
         omega
        rw[decide_eq_false hne,Bool.and_false]
       | cons y x=>rfl
  ·have hle:=zp7 false (c::r)
   have hk:kindN c=0∨isB c=true∨c=35:=by
    right
    by_cases hb:((if c=35 then true else if c=10 then false else false) || isB c)=true
    ·by_cases h35:c=35
     ·exact .inr h35
     ·simp[h35]at hb
      exact .inl hb
    ·exfalso
     apply hsk
     simp only[skipC]
     rw[if_neg hb]
   have hk0:kindN c=0:=by
    rcases hk with h | h | h
    ·exact h
    ·simp only[isB,Bool.or_eq_true,decide_eq_true_eq]at h
     rcases h with ((rfl | rfl) | rfl) | rfl<;>decide
    ·subst h;decide
   have hr:rightB k (c::r)=false:=by
    simp only[rightB,hk0]
    by_cases hk0:k=0
    ·simp[hk0]
    ·have:¬ (0:Int)=k:=fun h=>hk0 h.symm
     simp[this]
   rw[hr]
   -- every word is shorter than the text
   have key:∀(l:List UInt8) (i:Nat),l.length<(c::r).length→oneB k (c::r) (scanL l i [])=false:=by
    intro l i hl
    cases l with
    | nil=>rw[zfe];rfl
    | cons d q=>
     rw[zfv]
     split
     ·rfl
     ·split
      ·rfl
      ·generalize hws:scanL ((q.drop (firstN (kindN d) q-1)).drop (skipC false (q.drop (firstN (kindN d) q-1)))) (i+firstN (kindN d) q+skipC false (q.drop (firstN (kindN d) q-1))) ([]++[(kindN d,(d::q).take (firstN (kindN d) q),i)])=res
       cases res with
       | error e=>rfl
       | ok ws=>
        obtain⟨x,hx⟩:=zmx _ _ _ _ _ rfl hws
        rw[hx]
        cases x with
        | nil=>
         simp only[List.nil_append,List.append_nil,oneB]
         have hne:¬ (d::q).take (firstN (kindN d) q)=c::r:=fun h=>by
          have:=congrArg List.length h
          rw[List.length_take]at this
          omega
         rw[decide_eq_false hne,Bool.and_false]
        | cons y x=>rfl
   exact key _ _ (by rw[List.length_drop];omega)
section
variable{T:Tbl}[CRef16 T]
theorem zoj(k a:Int)(t:List UInt8)(ht:t.length≤4000):callF T 173 [.agg [.i .i64 k,.s t,.i .i64 a]]=some (.b (rightB k t)):=by
 have c:=zrt (T:=T) t (by omega)
 rw[←zru k t ht,f173 _ rfl,b173]
 cases hr:scanT t with
 | error e=>
  rw[hr]at c
  simp only[ansRef]at c
  have he:¬ (e:Int)<0:=by omega
  simp -implicitDefEqProofs[c,oneB,he]
 | ok ws=>
  rw[hr]at c
  simp only[ansRef]at c
  match ws with
  | []=>
   have e0:rowsW []=[]:=rfl
   rw[e0]at c
   simp -implicitDefEqProofs[c,oneB]
  | [(k',t',a')]=>
   have e1:rowsW [(k',t',a')]=[[.i .i64 k',.s t',.i .i64 a']]:=rfl
   rw[e1]at c
   by_cases hk:(k':Int)=k
   ·by_cases htt:t'=t
    ·simp -implicitDefEqProofs[c,oneB,hk,htt]
    ·simp -implicitDefEqProofs[c,oneB,hk,htt]
   ·simp -implicitDefEqProofs[c,oneB,hk]
  | w1::w2::r=>
   have hl:(rowsW (w1::w2::r)).length=r.length+2:=by simp
   have hne:¬ ((r.length:Int)+2=1):=by omega
   have hne':¬ (r.length+2=1):=by omega
   have g1:=zdg (w1::w2::r)
   have hone:oneB k t (.ok (w1::w2::r))=false:=rfl
   rw[hone]
   generalize rowsW (w1::w2::r)=RW at *
   generalize r.length=m at *
   simp -implicitDefEqProofs[c,hl,hne,hne',g1]
end
section
variable{T:Tbl}[CRef02 T][CRef04 T][CRef05 T][CRef07 T][CRef16 T][CRef17 T][CRef19 T]
theorem zrx(s:List UInt8)(hs:s.length≤4000):callF T 480 [.s s]=some (.b (nameB s)):=by
 have c:=zoj (T:=T) 2 0 s hs
 unfold nameB
 rw[f480 _ rfl,b480]
 generalize rightB 2 s=B at *
 cases B with
 | false=>simp -implicitDefEqProofs[c]
 | true=>
  by_cases h1:s=[116]
  ·subst h1;simp -implicitDefEqProofs[c]
  by_cases h2:s=[121]
  ·subst h2;simp -implicitDefEqProofs[c]
  by_cases h3:s=[112]
  ·subst h3;simp -implicitDefEqProofs[c]
  by_cases h4:s=[108,101,116]
  ·subst h4;simp -implicitDefEqProofs[c]
  simp -implicitDefEqProofs[c,h1,h2,h3,h4]
abbrev hpQ(f:Fd):Heap:=[(.loc 3,⟨1,.str,2,[[.sl (rowLt f.lets) .an,.sl (rowC f.outs) .an]]⟩),(.loc 7,⟨2,.str,3,[[.i .i64 0,.i .i64 0,.i .i64 0]]⟩)]
def stTw(f:Fd)(dim pars:Int)(C:List (List Nd))(i:Nat)(lt:Int)(ok:Bool)(k:Nat):St:=
 ⟨[(1,.i .i64 dim),(2,.i .i64 pars),(3,.ptr (.loc 3) 1 2 0 0),(7,.ptr (.loc 7) 2 3 0 0),(8,.sl (rowC C) .an),(9,.i .i64 i),(10,.i .i64 lt),(11,.b ok),(12,.i .i64 k)],hpQ f,4⟩
theorem zom(f:Fd)(dim pars:Int)(C:List (List Nd))(i:Nat)(lt:Int)(ok:Bool)(hi:i<f.lets.length)(hl:f.lets.length≤10) :
  loopN T 0 2 (.norm false [1,2,3,7,8,9,10,11]) l469_0 (stTw f dim pars C i lt (ok&&!twB (f.lets.take 0) (f.lets[i]'hi).name) 0) =
   some (.n,⟨[(1,.i .i64 dim),(2,.i .i64 pars),(3,.ptr (.loc 3) 1 2 0 0),(7,.ptr (.loc 7) 2 3 0 0),(8,.sl (rowC C) .an),(9,.i .i64 i),(10,.i .i64 lt),(11,.b (ok&&!twB (f.lets.take i) (f.lets[i]'hi).name))],hpQ f,4⟩):=by
 refine zai (fun k=>stTw f dim pars C i lt (ok&&!twB (f.lets.take k) (f.lets[i]'hi).name) k) i _ (fun k hk=>?_) ?_
 ·have hk1:k<f.lets.length:=by omega
  have hg:f.lets[k]? = some (f.lets[k]'hk1):=List.getElem?_eq_getElem hk1
  have hgi:f.lets[i]? = some (f.lets[i]'hi):=List.getElem?_eq_getElem hi
  have hk':(k:Int)<i:=by omega
  have hi':(i:Int)<f.lets.length:=by omega
  have hk1':(k:Int)<f.lets.length:=by omega
  have hws:=za0 hk (by omega)
  have hs:twB (f.lets.take (k+1)) (f.lets[i]'hi).name=(twB (f.lets.take k) (f.lets[i]'hi).name || decide ((f.lets[k]'hk1).name=(f.lets[i]'hi).name)):=by
   unfold twB
   rw[List.take_succ_eq_append_getElem hk1,List.any_append]
   simp only[List.any_cons,List.any_nil,Bool.or_false]
  rw[hs]
  obtain⟨L,O⟩:=f
  unfold stTw hpQ
  dsimp only at *
  generalize twB (L.take k) (L[i]'hi).name=B at *
  clear hs
  generalize hx:L[k]'hk1=x at *
  generalize hy:L[i]'hi=y at *
  obtain⟨xn,xc⟩:=x
  obtain⟨yn,yc⟩:=y
  dsimp only
  cases hob:(ok&&!B) with
  | false=>
   have e:(ok&&!(B || decide (xn=yn)))=false:=by
    cases ok<;>cases B<;>simp_all
   rw[e]
   simp -implicitDefEqProofs[l469_0,hk,hk',hws]
  | true=>
   have e:(ok&&!(B || decide (xn=yn)))=!decide (xn=yn):=by
    cases ok<;>cases B<;>simp_all
   rw[e]
   by_cases hc:xn=yn
   ·simp -implicitDefEqProofs[l469_0,hk,hk',hk1,hk1',hi,hi',hg,hgi,hx,hy,hc,hws]
   ·simp -implicitDefEqProofs[l469_0,hk,hk',hk1,hk1',hi,hi',hg,hgi,hx,hy,hc,hws]
 ·unfold stTw hpQ
  constructor<;>simp -implicitDefEqProofs[l469_0]
end
def chkA(f:Fd)(dim pars:Int)(i:Nat):Option (Int×Int×Int):=
 if i<f.lets.length then match chkL dim pars f.lets i (f.lets.drop i) with
  | some q=>some q
  | none=>chkO dim pars f.lets.length 0 f.outs
 else chkO dim pars f.lets.length (i-f.lets.length) (f.outs.drop (i-f.lets.length))
def endQa(q:Option (Int×Int×Int)):Option (Ex×St):=match q with
 | some (a,b,c)=>some (.r,⟨[(6,.b true),(7,.ptr (.loc 7) 1 3 0 0)],[(.loc 7,⟨1,.str,3,[[.i .i64 a,.i .i64 b,.i .i64 c]]⟩)],3⟩)
 | none=>some (.n,⟨[(7,.ptr (.loc 7) 1 3 0 0)],[(.loc 7,⟨1,.str,3,[[.i .i64 0,.i .i64 0,.i .i64 0]]⟩)],3⟩)
def stQ(f:Fd)(dim pars:Int)(i:Nat):St:=
 ⟨[(1,.i .i64 dim),(2,.i .i64 pars),(3,.ptr (.loc 3) 1 2 0 0),(7,.ptr (.loc 7) 2 3 0 0),(8,.sl (rowC (codesD f)) .an),(9,.i .i64 i)],hpQ f,4⟩
theorem zry{f:Fd}{i:Nat}(h:i<f.lets.length):(codesD f)[i]? = some (f.lets[i]'h).code:=by
 unfold codesD
 rw[List.getElem?_append_left (by simpa using h),List.getElem?_map,List.getElem?_eq_getElem h]
 rfl
theorem zrz{f:Fd}{i:Nat}(h:f.lets.length≤i)(h2:i-f.lets.length<f.outs.length):(codesD f)[i]? = some (f.outs[i-f.lets.length]'h2):=by
 unfold codesD
 rw[List.getElem?_append_right (by simpa using h),List.length_map,List.getElem?_eq_getElem h2]
section
variable{T:Tbl}[CRef02 T][CRef04 T][CRef05 T][CRef07 T][CRef16 T][CRef17 T][CRef19 T]
theorem zjp(c:List Nd)(dim pars lets:Int)(hl:c.length≤50000)(hn:thin 1000 c) :
  (0≤placeN dim pars lets c∧callF T 50 [.sl (rowN c) .an,.i .i64 dim,.i .i64 pars,.i .i64 lets]=some (.i .i64 (ptA dim pars lets c))∧0≤ptA dim pars lets c) ∨
  (∃p:Int,p<0∧callF T 50 [.sl (rowN c) .an,.i .i64 dim,.i .i64 pars,.i .i64 lets]=some (.i .i64 p) ∧
   ((40<depN c∧ptA dim pars lets c=c.length)∨(¬ 40<depN c∧ptA dim pars lets c<0))):=by
 have c1:=zok (T:=T) c dim pars lets (by omega) hn
 unfold ptA
 by_cases h:0≤placeN dim pars lets c
 ·left
  rw[if_neg (by omega)]
  exact⟨h,c1,h⟩
 ·right
  refine⟨_,by omega,c1,?_⟩
  by_cases hd:40<depN c
  ·left;exact⟨hd,by rw[if_pos ⟨by omega,hd⟩]⟩
  ·right;exact⟨hd,by rw[if_neg (fun hh=>hd hh.2)];omega⟩
end
def evLt(lim:Nat)(P:Po):Nat→List Rat→List (List Nd)→Nat×List Rat×Nat×Nat
 | n,ls,[]=>(n,ls,0,0)
 | n,ls,c::r=>if (walkR lim P ls n [] c).2.1≠0 then (n,ls,(walkR lim P ls n [] c).2.1,(walkR lim P ls n [] c).2.2) else evLt lim P (n+c.length) (ls++[(walkR lim P ls n [] c).1]) r
def evOu(lim:Nat)(P:Po)(ls:List Rat):Nat→List Rat→List (List Nd)→List Rat×Nat×Nat
 | _,os,[]=>(os,0,0)
 | n,os,c::r=>if (walkR lim P ls n [] c).2.1≠0 then ([],(walkR lim P ls n [] c).2.1,(walkR lim P ls n [] c).2.2) else evOu lim P ls (n+c.length) (os++[(walkR lim P ls n [] c).1]) r
def evD(lim:Nat)(P:Po)(f:Fd):List Rat×Nat×Nat:=
 if (evLt lim P 0 [] (f.lets.map (·.code))).2.2.1≠0 then ([],(evLt lim P 0 [] (f.lets.map (·.code))).2.2) else evOu lim P (evLt lim P 0 [] (f.lets.map (·.code))).2.1 (evLt lim P 0 [] (f.lets.map (·.code))).1 [] f.outs
section
variable{T:Tbl}[CRef02 T][CRef04 T][CRef05 T][CRef07 T][CRef16 T][CRef17 T][CRef19 T]
theorem zvs(f:Fd)(dim pars:Int)(i:Nat)(h:f.lets.length≤i)(h2:i-f.lets.length<f.outs.length)(h1:f.lets.length≤10)(ho:f.outs.length≤10)(hn:thinD 1000 50000 f) :
  (ptA dim pars f.lets.length (f.outs[i-f.lets.length]'h2)<0∧evX (orc T) T 0 l469_1 (stQ f dim pars i)=some (.n,stQ f dim pars (i+1))) ∨
  (0≤ptA dim pars f.lets.length (f.outs[i-f.lets.length]'h2)∧isEx (evX (orc T) T 0 l469_1 (stQ f dim pars i))=true ∧
   finX 0 0 (.norm false [7]) (evX (orc T) T 0 l469_1 (stQ f dim pars i))=endQa (some ((i:Int)+1,0,ptA dim pars f.lets.length (f.outs[i-f.lets.length]'h2)))):=by
 have hg:=zrz h h2
 have hlen:(codesD f).length=f.lets.length+f.outs.length:=by unfold codesD;rw[List.length_append,List.length_map]
 have hi:i<(codesD f).length:=by omega
 have hge:(codesD f)[i]'hi=f.outs[i-f.lets.length]'h2:=(List.getElem?_eq_some_iff.1 hg).2
 have hi':(i:Int)<(codesD f).length:=by omega
 have hi2:¬ (i:Int)<f.lets.length:=by omega
 have hws:=za0 hi (by omega)
 have hmn:min i f.lets.length=f.lets.length:=by omega
 obtain⟨hc1,hc2⟩:=hn _ (List.mem_append.2 (.inr (List.getElem_mem h2)))
 have hp:=zjp (T:=T) _ dim pars f.lets.length hc1 hc2
 have cd:=zhw (T:=T) _ hc1
 have hlt:((f.lets.length:Int)<i∨(f.lets.length:Int)=i):=by omega
 generalize f.outs[i-f.lets.length]'h2=c at *
 unfold stQ hpQ endQa
 generalize codesD f=C at *
 obtain⟨L,O⟩:=f
 dsimp only at *
 clear hn hmn
 generalize depN c=d at *
 generalize ptA dim pars L.length c=p at *
 have hmm:(if L.length<i then (L.length:Int) else i)=L.length:=by split<;>omega
 rcases hp with ⟨_,c1,h0⟩ | ⟨q,hq,c1,⟨hd,hpe⟩ | ⟨hd,hpe⟩⟩
 ·right
  refine⟨h0,?_⟩
  constructor<;>simp -implicitDefEqProofs[l469_1,hi,hi',hi2,hg,hge,hws,hmm,c1,h0]
 ·right
  have hq':¬ 0≤q:=by omega
  have hd':(40:Int)<d:=by omega
  have hwl:IntKind.wrap .i64 ((i:Int)+1)=(i:Int)+1:=zab _ (by omega)
  subst hpe
  refine⟨by omega,?_⟩
  constructor<;>simp -implicitDefEqProofs[l469_1,hi,hi',hi2,hg,hge,hws,hmm,c1,hq',cd,hd,hd']
 ·left
  have hq':¬ 0≤q:=by omega
  have hd':¬ (40:Int)<d:=by omega
  refine⟨hpe,?_⟩
  simp -implicitDefEqProofs[l469_1,hi,hi',hi2,hg,hge,hws,hmm,c1,hq',cd,hd,hd']
end
section
variable{T:Tbl}[CRef02 T][CRef04 T][CRef05 T][CRef07 T][CRef16 T][CRef17 T][CRef19 T]
theorem zvt(f:Fd)(dim pars:Int)(i:Nat)(h:i<f.lets.length)(h1:f.lets.length≤10)(ho:f.outs.length≤10)(hn:thinD 1000 50000 f)(hs:∀x∈f.lets,x.name.length≤4000) :
  (¬ (nameB (f.lets[i]'h).name=false∨twB (f.lets.take i) (f.lets[i]'h).name=true)∧ptA dim pars i (f.lets[i]'h).code<0∧evX (orc T) T 0 l469_1 (stQ f dim pars i)=some (.n,stQ f dim pars (i+1))) ∨
  ((nameB (f.lets[i]'h).name=false∨twB (f.lets.take i) (f.lets[i]'h).name=true)∧isEx (evX (orc T) T 0 l469_1 (stQ f dim pars i))=true ∧
   finX 0 0 (.norm false [7]) (evX (orc T) T 0 l469_1 (stQ f dim pars i))=endQa (some ((i:Int)+1,1,0))) ∨
  (¬ (nameB (f.lets[i]'h).name=false∨twB (f.lets.take i) (f.lets[i]'h).name=true)∧0≤ptA dim pars i (f.lets[i]'h).code∧isEx (evX (orc T) T 0 l469_1 (stQ f dim pars i))=true ∧
   finX 0 0 (.norm false [7]) (evX (orc T) T 0 l469_1 (stQ f dim pars i))=endQa (some ((i:Int)+1,0,ptA dim pars i (f.lets[i]'h).code))):=by
 have hg:=zry h
 have hgl:f.lets[i]? = some (f.lets[i]'h):=List.getElem?_eq_getElem h
 have hlen:(codesD f).length=f.lets.length+f.outs.length:=by unfold codesD;rw[List.length_append,List.length_map]
 have hi:i<(codesD f).length:=by omega
 have hge:(codesD f)[i]'hi=(f.lets[i]'h).code:=(List.getElem?_eq_some_iff.1 hg).2
 have hi':(i:Int)<(codesD f).length:=by omega
 have hi2:(i:Int)<f.lets.length:=by omega
 have hws:=za0 hi (by omega)
 obtain⟨hc1,hc2⟩:=hn _ (List.mem_append.2 (.inl (List.mem_map.2 ⟨_,List.getElem_mem h,rfl⟩)))
 have hp:=zjp (T:=T) _ dim pars i hc1 hc2
 have cd:=zhw (T:=T) _ hc1
 have cn:=zrx (T:=T) (f.lets[i]'h).name (hs _ (List.getElem_mem h))
 have ct:=zom (T:=T) f dim pars (codesD f) i i (nameB (f.lets[i]'h).name) h h1
 have hm0:¬ f.lets.length<i:=by omega
 have e0:twB (f.lets.take 0) (f.lets[i]'h).name=false:=rfl
 rw[e0]at ct
 generalize hx:f.lets[i]'h=x at *
 generalize twB (f.lets.take i) x.name=B at *
 generalize nameB x.name=A at *
 unfold stTw hpQ at ct
 unfold stQ hpQ endQa
 generalize codesD f=C at *
 obtain⟨L,O⟩:=f
 obtain⟨nm,code⟩:=x
 dsimp only at *
 clear hn hs e0
 generalize depN code=d at *
 generalize ptA dim pars i code=p at *
 simp only[Bool.not_false,Bool.and_true,Int.natCast_zero]at ct
 cases A with
 | false=>
  right;left
  refine⟨.inl rfl,?_⟩
  simp only[Bool.false_and]at ct
  constructor<;>simp -implicitDefEqProofs[l469_1,hi,hi',hi2,h,hgl,hx,hg,hge,hws,hm0,cn,ct]
 | true=>
  cases B with
  | true=>
   right;left
   refine⟨.inr rfl,?_⟩
   simp only[Bool.true_and,Bool.not_true]at ct
   constructor<;>simp -implicitDefEqProofs[l469_1,hi,hi',hi2,h,hgl,hx,hg,hge,hws,hm0,cn,ct]
  | false=>
   simp only[Bool.true_and,Bool.not_false]at ct
   have hno:¬ (true=false∨false=true):=by simp
   rcases hp with ⟨_,c1,h0⟩ | ⟨q,hq,c1,⟨hd,hpe⟩ | ⟨hd,hpe⟩⟩
   ·right;right
    refine⟨hno,h0,?_⟩
    constructor<;>simp -implicitDefEqProofs[l469_1,hi,hi',hi2,h,hgl,hx,hg,hge,hws,hm0,cn,ct,c1,h0]
   ·right;right
    have hq':¬ 0≤q:=by omega
    have hd':(40:Int)<d:=by omega
    subst hpe
    refine⟨hno,by omega,?_⟩
    constructor<;>simp -implicitDefEqProofs[l469_1,hi,hi',hi2,h,hgl,hx,hg,hge,hws,hm0,cn,ct,c1,hq',cd,hd,hd']
   ·left
    have hq':¬ 0≤q:=by omega
    have hd':¬ (40:Int)<d:=by omega
    refine⟨hno,hpe,?_⟩
    simp -implicitDefEqProofs[l469_1,hi,hi',hi2,h,hgl,hx,hg,hge,hws,hm0,cn,ct,c1,hq',cd,hd,hd']
end
def fltQ(q:Option (Int×Int×Int)):AV:=match q with
 | some (a,b,c)=>.tup [.b true,.agg [.i .i64 a,.i .i64 b,.i .i64 c]]
 | none=>.tup [.b false,.agg [.i .i64 0,.i .i64 0,.i .i64 0]]
theorem zya{f:Fd}{dim pars:Int}{i:Nat}(h:i<f.lets.length) :
  chkA f dim pars i=if nameB (f.lets[i]'h).name=false∨twB (f.lets.take i) (f.lets[i]'h).name=true then some ((i:Int)+1,1,0) else if 0≤ptA dim pars i (f.lets[i]'h).code then some ((i:Int)+1,0,ptA dim pars i (f.lets[i]'h).code) else chkA f dim pars (i+1):=by
 have hd:f.lets.drop i=f.lets[i]'h::f.lets.drop (i+1):=List.drop_eq_getElem_cons h
 unfold chkA
 rw[if_pos h,hd,chkL]
 by_cases h1:nameB (f.lets[i]'h).name=false∨twB (f.lets.take i) (f.lets[i]'h).name=true
 ·rw[if_pos h1,if_pos h1]
 ·rw[if_neg h1,if_neg h1]
  by_cases h2:0≤ptA dim pars i (f.lets[i]'h).code
  ·rw[if_pos h2,if_pos h2]
  ·rw[if_neg h2,if_neg h2]
   by_cases h3:i+1<f.lets.length
   ·rw[if_pos h3]
   ·have e:i+1=f.lets.length:=by omega
    rw[if_neg h3,e,List.drop_length,chkL,Nat.sub_self,List.drop_zero]
theorem zyb{f:Fd}{dim pars:Int}{i:Nat}(h:f.lets.length≤i)(h2:i-f.lets.length<f.outs.length) :
  chkA f dim pars i=if 0≤ptA dim pars f.lets.length (f.outs[i-f.lets.length]'h2) then some ((i:Int)+1,0,ptA dim pars f.lets.length (f.outs[i-f.lets.length]'h2)) else chkA f dim pars (i+1):=by
 have hd:f.outs.drop (i-f.lets.length)=f.outs[i-f.lets.length]'h2::f.outs.drop (i-f.lets.length+1):=List.drop_eq_getElem_cons h2
 unfold chkA
 have n1:¬ i<f.lets.length:=by omega
 have n2:¬ i+1<f.lets.length:=by omega
 rw[if_neg n1,hd,chkO,if_neg n2]
 have e:((f.lets.length+(i-f.lets.length):Nat):Int)=i:=by omega
 have e2:i+1-f.lets.length=i-f.lets.length+1:=by omega
 rw[e,e2]
section
variable{T:Tbl}[CRef02 T][CRef04 T][CRef05 T][CRef07 T][CRef16 T][CRef17 T][CRef19 T]
theorem zr0(f:Fd)(dim pars:Int)(h1:f.lets.length≤10)(ho:f.outs.length≤10)(hn:thinD 1000 50000 f)(hs:∀x∈f.lets,x.name.length≤4000) :
  loopN T 0 0 (.norm false [7]) l469_1 (stQ f dim pars 0)=endQa (chkA f dim pars 0):=by
 have hlen:(codesD f).length=f.lets.length+f.outs.length:=by unfold codesD;rw[List.length_append,List.length_map]
 refine zba (stQ f dim pars) (f.lets.length+f.outs.length) (fun i=>endQa (chkA f dim pars i)) (fun i hi=>?_) ?_
 ·by_cases h:i<f.lets.length
  ·rw[zya h]
   rcases zvt (T:=T) f dim pars i h h1 ho hn hs with ⟨g1,g2,g3⟩ | ⟨g1,g2⟩ | ⟨g1,g2,g3⟩
   ·left
    rw[if_neg g1,if_neg (by omega)]
    exact⟨g3,rfl⟩
   ·right
    rw[if_pos g1]
    exact g2
   ·right
    rw[if_neg g1,if_pos g2]
    exact g3
  ·have h2:i-f.lets.length<f.outs.length:=by omega
   rw[zyb (by omega) h2]
   rcases zvs (T:=T) f dim pars i (by omega) h2 h1 ho hn with ⟨g1,g2⟩ | ⟨g1,g2⟩
   ·left
    rw[if_neg (by omega)]
    exact⟨g2,rfl⟩
   ·right
    rw[if_pos g1]
    exact g2
 ·have e:chkA f dim pars (f.lets.length+f.outs.length)=none:=by
   unfold chkA
   rw[if_neg (by omega),show f.lets.length+f.outs.length-f.lets.length=f.outs.length by omega,List.drop_length,chkO]
  rw[e]
  rw[←hlen]
  unfold stQ hpQ endQa
  generalize codesD f=C at *
  obtain⟨L,O⟩:=f
  dsimp only
  constructor<;>simp -implicitDefEqProofs[l469_1]
theorem zon(f:Fd)(dim pars:Int)(h1:f.lets.length≤100000)(h2:f.outs.length≤100000)(hn:thinD 1000 50000 f)(hz:sizeD f≤4294967295)(hs:∀x∈f.lets,x.name.length≤4000) :
  callF T 469 [efd f,.i .i64 dim,.i .i64 pars]=some (fltQ (chkD f dim pars)):=by
 have cs:=zrw (T:=T) f h1 h2 hz
 have cc:=zem (T:=T) f h1 h2
 unfold chkD
 cases hW:whB f dim pars with
 | true=>
  rw[if_neg (by decide)]
  have hW2:(1≤dim∧dim≤6∧0≤pars∧pars≤6∧(f.outs.length:Int)=dim∧f.lets.length≤10∧sizeD f≤300):=by simpa[whB]using hW
  obtain⟨g1,g2,g3,g4,g5,g6,g7⟩:=hW2
  have hlo:=zr0 (T:=T) f dim pars g6 (by omega) hn hs
  have e0:chkA f dim pars 0=match chkL dim pars f.lets 0 f.lets with
    | some q=>some q
    | none=>chkO dim pars f.lets.length 0 f.outs:=by
   unfold chkA
   by_cases hp:0<f.lets.length
   ·(rw[if_pos hp,List.drop_zero])<;>(cases chkL dim pars f.lets 0 f.lets<;>rfl)
   ·have e1:f.lets=[]:=List.length_eq_zero_iff.1 (by omega)
    rw[if_neg hp,Nat.zero_sub,List.drop_zero,e1,chkL]
  rw[e0]at hlo
  obtain⟨X,hX⟩:∃X,X=(match chkL dim pars f.lets 0 f.lets with
    | some q=>some q
    | none=>chkO dim pars f.lets.length 0 f.outs):=⟨_,rfl⟩
  rw[←hX]at hlo
  change callF T 469 _=some (fltQ (match chkL dim pars f.lets 0 f.lets with
    | some q=>some q
    | none=>chkO dim pars f.lets.length 0 f.outs))
  rw[←hX]
  clear hX e0 hn hs hz hW
  unfold stQ hpQ endQa at hlo
  generalize sizeD f=S at *
  generalize codesD f=C at *
  obtain⟨L,O⟩:=f
  dsimp only at *
  have k1:¬ dim<1:=by omega
  have k2:¬ 6<dim:=by omega
  have k3:¬ pars<0:=by omega
  have k4:¬ 6<pars:=by omega
  have k6:¬ (10:Int)<L.length:=by omega
  have k6':¬ 10<L.length:=by omega
  have k7:¬ (300:Int)<S:=by omega
  have k7':¬ 300<S:=by omega
  simp only[Int.natCast_zero]at hlo
  rw[f469 _ rfl,b469]
  unfold fltQ
  obtain _ | ⟨a,b,c⟩:=X
  ·dsimp only at hlo ⊢
   simp -implicitDefEqProofs[k1,k2,k3,k4,g5,k6,k6',k7,k7',cs,cc,hlo]
  ·dsimp only at hlo ⊢
   simp -implicitDefEqProofs[k1,k2,k3,k4,g5,k6,k6',k7,k7',cs,cc,hlo]
 | false=>
  rw[if_pos rfl]
  have hW2:¬ (1≤dim∧dim≤6∧0≤pars∧pars≤6∧(f.outs.length:Int)=dim∧f.lets.length≤10∧sizeD f≤300):=by simpa[whB]using hW
  unfold fltQ
  clear hn hs hz hW
  generalize sizeD f=S at *
  obtain⟨L,O⟩:=f
  dsimp only at *
  rw[f469 _ rfl,b469]
  by_cases k1:dim<1
  ·simp -implicitDefEqProofs[k1]
  by_cases k2:6<dim
  ·simp -implicitDefEqProofs[k1,k2]
  by_cases k3:pars<0
  ·simp -implicitDefEqProofs[k1,k2,k3]
  by_cases k4:6<pars
  ·simp -implicitDefEqProofs[k1,k2,k3,k4]
  by_cases k5:(O.length:Int)=dim
  ·by_cases k6:10<L.length
   ·have k6':(10:Int)<L.length:=by omega
    simp -implicitDefEqProofs[k1,k2,k3,k4,k5,k6,k6']
   ·have k6':¬ (10:Int)<L.length:=by omega
    have k7:300<S:=by omega
    have k7':(300:Int)<S:=by omega
    simp -implicitDefEqProofs[k1,k2,k3,k4,k5,k6,k6',k7,k7',cs]
  ·simp -implicitDefEqProofs[k1,k2,k3,k4,k5]
variable[CLaw21 T]
theorem zoo(q:Option (Int×Int×Int)):∃b a0 a1 a2,fltQ q=.tup [.b b,.agg [.i .i64 a0,.i .i64 a1,.i .i64 a2]]∧b=q.isSome∧callF T 470 [.b b,.agg [.i .i64 a0,.i .i64 a1,.i .i64 a2]]=some (fltC q):=by
 obtain _ | ⟨a,b,c⟩:=q
 ·refine⟨false,0,0,0,rfl,rfl,?_⟩
  rw[f470 _ rfl,b470]
  unfold fltC
  simp -implicitDefEqProofs
 ·refine⟨true,a,b,c,rfl,rfl,?_⟩
  rw[f470 _ rfl,b470]
  unfold fltC
  simp -implicitDefEqProofs
end
section
variable{T:Tbl}[CLaw17 T]
theorem zpz(l:List Nd)(hl:l.length≤4294967295):callF T 13 [.sl (rowN l) .an]=some (.sl (rowN l) .an):=by
 have hlo:loopN T 0 0 (.norm false [3]) l13_0 ⟨[(0,.sl (rowN l) .an),(3,.bs (.loc 3) 1 3 0 0),(4,.i .i64 0)],[(.loc 3,⟨1,.own,3,[]⟩)],3⟩ =
   some (.n,⟨[(3,.bs (.loc 3) 1 3 0 l.length)],[(.loc 3,⟨1,.own,3,rowN l⟩)],3⟩):=by
  have:=zai (T:=T) (k:=0) (id:=0) (g2:=.norm false [3]) (c:=l13_0) (fun i=>⟨[(0,.sl (rowN l) .an),(3,.bs (.loc 3) 1 3 0 i),(4,.i .i64 (i:Int))],[(.loc 3,⟨1,.own,3,rowN (l.take i)⟩)],3⟩) l.length
   (some (.n,⟨[(3,.bs (.loc 3) 1 3 0 l.length)],[(.loc 3,⟨1,.own,3,rowN l⟩)],3⟩)) (fun i hi=>?_) ?_
  ·simpa using this
  ·have hg:l[i]? = some (l[i]'hi):=List.getElem?_eq_getElem hi
   have hi':(i:Int)<l.length:=by omega
   have hws:=za0 hi (by omega)
   have hs:l.take (i+1)=l.take i++[l[i]'hi]:=by rw[List.take_succ_eq_append_getElem hi]
   have hp:=zm8 (n:=i) (show (l.take i).length=i by rw[List.length_take];omega) (l[i]'hi)
   have hle:i≤(l.take i).length:=by rw[List.length_take];omega
   have h32:i+1≤4294967296:=by omega
   rw[hs]
   generalize hx:l[i]'hi=x at *
   generalize l.take i=m at *
   obtain⟨op,j,n⟩:=x
   clear hs
   simp -implicitDefEqProofs[l13_0,hi,hi',hg,hx,hws,hp,hle,h32]
  ·constructor<;>simp -implicitDefEqProofs[l13_0]
 rw[f13 _ rfl,b13]
 simp -implicitDefEqProofs[hlo]
end
theorem zre(m:List (List Nd))(x:List Nd):wkL (rowC m++[[.sl (rowN x) .an]])=rowC (m++[x]):=by rw[zm9,zow]
theorem zod(m:List Lt)(x:Lt):wkL (rowLt m++[[.s x.name,.sl (rowN x.code) .an]])=rowLt (m++[x]):=by
 have:rowLt m++[celLt x]=rowLt (m++[x]):=zse m x
 rw[show [[AV.s x.name,.sl (rowN x.code) .an]]=[celLt x] from rfl,this,zyp]
section
variable{T:Tbl}[CLaw17 T][CLaw21 T]
abbrev hpT(L:List Lt)(O:List (List Nd))(A:List Lt)(B:List (List Nd)):Heap:=
 [(.loc 1,⟨1,.str,2,[[.sl (rowLt L) .an,.sl (rowC O) .an]]⟩),(.loc 2,⟨2,.str,2,[[.sl [] .an,.sl [] .an]]⟩),
  (.loc 3,⟨3,.str,2,[[.bs ((BId.loc 3).fld 0) 4 2 0 A.length,.bs ((BId.loc 3).fld 1) 5 1 0 B.length]]⟩),((BId.loc 3).fld 0,⟨4,.own,2,rowLt A⟩),((BId.loc 3).fld 1,⟨5,.own,1,rowC B⟩)]
theorem zxp(L:List Lt)(O:List (List Nd))(hn:∀x∈L,x.code.length≤4294967295)(h1:L.length≤100000) :
  loopN T 0 0 (.norm false [1,2,3]) l468_0 ⟨[(1,.ptr (.loc 1) 1 2 0 0),(2,.ptr (.loc 2) 2 2 0 0),(3,.ptr (.loc 3) 3 2 0 0),(4,.i .i64 ((0:Nat):Int))],hpT L O (L.take 0) [],7⟩ =
   some (.n,⟨[(1,.ptr (.loc 1) 1 2 0 0),(2,.ptr (.loc 2) 2 2 0 0),(3,.ptr (.loc 3) 3 2 0 0)],hpT L O L [],7⟩):=by
 refine zai (fun i=>⟨[(1,.ptr (.loc 1) 1 2 0 0),(2,.ptr (.loc 2) 2 2 0 0),(3,.ptr (.loc 3) 3 2 0 0),(4,.i .i64 ((i:Nat):Int))],hpT L O (L.take i) [],7⟩) L.length _ (fun i hi=>?_) ?_
 ·have hg:L[i]? = some (L[i]'hi):=List.getElem?_eq_getElem hi
  have hi':(i:Int)<L.length:=by omega
  have hws:=za0 hi (by omega)
  have hs:L.take (i+1)=L.take i++[L[i]'hi]:=by rw[List.take_succ_eq_append_getElem hi]
  have hml:(L.take i).length=i:=by rw[List.length_take];omega
  have hp:=zod (L.take i) (L[i]'hi)
  have h32:i+1≤4294967296:=by omega
  have c:=zpz (T:=T) (L[i]'hi).code (hn _ (List.getElem_mem hi))
  rw[hs]
  generalize hx:L[i]'hi=x at *
  generalize L.take i=m at *
  obtain⟨nm,code⟩:=x
  unfold hpT
  rw[List.length_append,hml]
  have ht:List.take i (rowLt m)=rowLt m:=List.take_of_length_le (by rw[zf0];omega)
  dsimp only at *
  clear hs hn
  simp -implicitDefEqProofs[l468_0,hi,hi',hg,hx,hws,hp,h32,c,hml,ht]
 ·rw[List.take_length]
  constructor<;>simp -implicitDefEqProofs[l468_0]
theorem zxq(L:List Lt)(O:List (List Nd))(hn:∀c∈O,c.length≤4294967295)(h1:O.length≤100000) :
  loopN T 0 2 (.norm false [2,3]) l468_1 ⟨[(1,.ptr (.loc 1) 1 2 0 0),(2,.ptr (.loc 2) 2 2 0 0),(3,.ptr (.loc 3) 3 2 0 0),(5,.i .i64 ((0:Nat):Int))],hpT L O L (O.take 0),7⟩ =
   some (.n,⟨[(2,.ptr (.loc 2) 1 2 0 0),(3,.ptr (.loc 3) 2 2 0 0)],[(.loc 2,⟨1,.str,2,[[.sl [] .an,.sl [] .an]]⟩),
  (.loc 3,⟨2,.str,2,[[.bs ((BId.loc 3).fld 0) 3 2 0 L.length,.bs ((BId.loc 3).fld 1) 4 1 0 O.length]]⟩),((BId.loc 3).fld 0,⟨3,.own,2,rowLt L⟩),((BId.loc 3).fld 1,⟨4,.own,1,rowC O⟩)],6⟩):=by
 refine zai (fun i=>⟨[(1,.ptr (.loc 1) 1 2 0 0),(2,.ptr (.loc 2) 2 2 0 0),(3,.ptr (.loc 3) 3 2 0 0),(5,.i .i64 ((i:Nat):Int))],hpT L O L (O.take i),7⟩) O.length _ (fun i hi=>?_) ?_
 ·have hg:O[i]? = some (O[i]'hi):=List.getElem?_eq_getElem hi
  have hi':(i:Int)<O.length:=by omega
  have hws:=za0 hi (by omega)
  have hs:O.take (i+1)=O.take i++[O[i]'hi]:=by rw[List.take_succ_eq_append_getElem hi]
  have hml:(O.take i).length=i:=by rw[List.length_take];omega
  have hp:=zre (O.take i) (O[i]'hi)
  have h32:i+1≤4294967296:=by omega
  have c:=zpz (T:=T) (O[i]'hi) (hn _ (List.getElem_mem hi))
  rw[hs]
  generalize hx:O[i]'hi=x at *
  generalize O.take i=m at *
  unfold hpT
  rw[List.length_append,hml]
  have ht:List.take i (rowC m)=rowC m:=List.take_of_length_le (by rw[zic];omega)
  clear hs hn
  simp -implicitDefEqProofs[l468_1,hi,hi',hg,hx,hws,hp,h32,c,hml,ht]
 ·rw[List.take_length]
  constructor<;>simp -implicitDefEqProofs[l468_1]
theorem zkj(f:Fd)(hn:∀c∈codesD f,c.length≤4294967295)(h1:f.lets.length≤100000)(h2:f.outs.length≤100000):callF T 468 [efd f]=some (efd f):=by
 obtain⟨L,O⟩:=f
 dsimp only at h1 h2
 have a:=zxp (T:=T) L O (fun x hx=>hn _ (List.mem_append.2 (.inl (List.mem_map.2 ⟨x,hx,rfl⟩)))) h1
 have b:=zxq (T:=T) L O (fun c hc=>hn _ (List.mem_append.2 (.inr hc))) h2
 simp only[hpT,List.take_zero,List.length_nil,zwh,zys,Int.natCast_zero]at a b
 rw[f468 _ rfl,b468]
 have e1:List.take L.length (rowLt L)=rowLt L:=List.take_of_length_le (by rw[zf0];exact Nat.le_refl _)
 have e2:List.take O.length (rowC O)=rowC O:=List.take_of_length_le (by rw[zic];exact Nat.le_refl _)
 simp -implicitDefEqProofs[a,b,e1,e2]
end
class CLaw22 (T:Tbl):Prop where
def stPf(f:Fd)(i:Nat):St:=
 ⟨[(1,.ptr (.loc 1) 1 2 0 0),(3,.bs (.loc 3) 2 1 0 i),(10,.sl (rowLt f.lets) .an),(11,.i .i64 f.lets.length),(12,.i .i64 (i:Int))],
  [(.loc 1,⟨1,.str,2,[[.sl (rowLt f.lets) .an,.sl (rowC f.outs) .an]]⟩),(.loc 3,⟨2,.own,1,natR (szT ((f.lets.take i).map (·.code)))⟩)],4⟩
def stPg(S:List Nat)(O:List (List Nd))(i:Nat):St:=
 ⟨[(3,.bs (.loc 3) 1 1 0 S.length),(6,.i .i64 ((((O.take i).map (szC S)).sum:Nat):Int)),(25,.sl (rowC O) .an),(26,.i .i64 O.length),(27,.i .i64 (i:Int))],
  [(.loc 3,⟨1,.own,1,natR S⟩)],3⟩
def stPo(L:List Lt)(E:List (List Nd))(D:List Nat)(O:List (List Nd))(i:Nat):St:=
 ⟨[(4,.ptr (.loc 20) 1 2 0 0),(5,.bs (.loc 5) 3 1 0 i),(22,.sl (rowC O) .an),(23,.i .i64 O.length),(24,.i .i64 (i:Int))],
  [(.loc 20,⟨1,.str,2,[[.sl (rowLt L) .an,.fnp 0 (.loc 18) 2 2 0 0]]⟩),(.loc 18,⟨2,.mp,2,memR E D⟩),(.loc 5,⟨3,.own,1,rowC ((O.take i).map (inE E))⟩)],5⟩
def addU(t:Nat)(U:List Nat)(x:Nd):List Nat:=if x.op=5 then U.set x.i.toNat (min ((U[x.i.toNat]?).getD 0+t) 300) else U
def cntU(t:Nat)(U:List Nat)(c:List Nd):List Nat:=c.foldl (addU t) U
def occ(j:Nat)(c:List Nd):Nat:=(c.filter fun x=>decide (x.op=5)&&decide (x.i=(j:Int))).length
def uOut(O:List (List Nd))(n:Nat):List Nat:=O.foldl (cntU 1) (List.replicate n 0)
def uDown(L:List (List Nd))(U:List Nat):Nat→List Nat
 | 0=>U
 | d+1=>let V:=uDown L U d;cntU ((V[L.length-1-d]?).getD 0) V ((L[L.length-1-d]?).getD [])
def tmR(U:List Nat)(n k:Nat):Nat:=if k<n then (U[k]?).getD 0 else 1
def sumR(U:List Nat)(n i:Nat)(l:List (List Nd)):Nat→Nat
 | 0=>0
 | d+1=>sumR U n i l d+tmR U n (i+1+d)*occ i ((l[i+1+d]?).getD [])
def rDown(L O:List (List Nd)):Nat→List Nat
 | 0=>List.replicate L.length 0
 | d+1=>let V:=rDown L O d;let i:=L.length-1-d;V.set i (min (sumR V L.length i (L++O) ((L++O).length-(i+1))) 300)
def sFrom(U:List Nat)(L O:List (List Nd))(j:Nat):Nat→Nat
 | 0=>(O.map (occ j)).sum
 | d+1=>sFrom U L O j d+((U[L.length-1-d]?).getD 0)*occ j ((L[L.length-1-d]?).getD [])
def usesP(f:Fd):List Nat:=uDown (f.lets.map (·.code)) (uOut f.outs f.lets.length) f.lets.length
def has5(c:List Nd):Bool:=c.any fun x=>decide (x.op=5)
def stPl0(O:List (List Nd))(j:Nat)(c:List Nd)(i:Nat):St:=
 ⟨[(12,.sl (rowC O) .an),(13,.i .i64 O.length),(14,.i .i64 (j:Int)),(18,.sl (rowN c) .an),(19,.i .i64 c.length),(20,.i .i64 (i:Int))],[],2⟩
def stPl1(O:List (List Nd))(j:Nat):St:=⟨[(12,.sl (rowC O) .an),(13,.i .i64 O.length),(14,.i .i64 (j:Int))],[],2⟩
def stPu(t:Nat)(U:List Nat)(c:List Nd)(i:Nat):St:=
 ⟨[(1,.i .i64 (t:Int)),(2,.bs (.bor 0) 0 1 0 U.length),(8,.sl (rowN c) .an),(9,.i .i64 c.length),(10,.i .i64 (i:Int))],[(.bor 0,⟨0,.own,1,natR U⟩)],4⟩
def stPup(f:Fd)(i:Nat):St:=
 ⟨[(1,.ptr (.loc 1) 1 2 0 0),(3,.bs (.loc 13) 2 1 0 f.lets.length),(15,.sl (rowC f.outs) .an),(16,.i .i64 f.outs.length),(17,.i .i64 (i:Int))],
  [(.loc 1,⟨1,.str,2,[[.sl (rowLt f.lets) .an,.sl (rowC f.outs) .an]]⟩),(.loc 13,⟨2,.own,1,natR (uOut (f.outs.take i) f.lets.length)⟩)],4⟩
def stPdn(f:Fd)(U:List Nat)(d:Nat):St:=
 ⟨[(1,.ptr (.loc 1) 1 2 0 0),(3,.bs (.loc 13) 2 1 0 f.lets.length),(6,.i .i64 ((f.lets.length:Int)-1-(d:Int)))],
  [(.loc 1,⟨1,.str,2,[[.sl (rowLt f.lets) .an,.sl (rowC f.outs) .an]]⟩),(.loc 13,⟨2,.own,1,natR (uDown (f.lets.map (·.code)) U d)⟩)],4⟩
def wk22:Fd:=⟨[⟨[97],[⟨2,0,[]⟩,⟨1,0,[1]⟩,⟨7,0,[]⟩]⟩],[[⟨5,0,[]⟩,⟨5,0,[]⟩,⟨9,0,[]⟩]]⟩
def bxsK(f:Fd)(t u:Tp):Heap:=[(.loc 5,⟨1,.str,2,[[.sl (rowLt f.lets) .an,.sl (rowC f.outs) .an]]⟩),(.loc 6,bxGt 2 t),(.loc 8,⟨3,.str,4,[[.i .i64 0,.i .i64 0,.i .i64 0,.i .i64 0]]⟩),(.loc 11,bxGt 4 u)]
def stK0(f:Fd)(pars:Int)(t:Tp)(W:List Nat)(n:Nat)(l:List (List Nd))(i j:Nat):St:=
 ⟨[(1,.i .i64 pars),(5,.ptr (.loc 5) 1 2 0 0),(6,.ptr (.loc 6) 2 4 0 0),(7,.sl (natR W) .an),(8,.ptr (.loc 8) 3 4 0 0),(11,.ptr (.loc 11) 4 4 0 0),(12,.sl (natR W) .an),(13,.i .i64 (n:Int)),(14,.sl (rowC l) .an),(15,.i .i64 (i:Int)),(16,.i .i64 (j:Int))],bxsK f t t,6⟩
def stK1(f:Fd)(pars:Int)(t:Tp)(W:List Nat)(n:Nat)(l:List (List Nd))(i:Nat):St:=
 ⟨[(1,.i .i64 pars),(5,.ptr (.loc 5) 1 2 0 0),(6,.ptr (.loc 6) 2 4 0 0),(7,.sl (natR W) .an),(8,.ptr (.loc 8) 3 4 0 0),(11,.ptr (.loc 11) 4 4 0 0),(12,.sl (natR W) .an),(13,.i .i64 (n:Int)),(14,.sl (rowC l) .an),(15,.i .i64 (i:Int))],bxsK f t t,6⟩
section
variable{T:Tbl}[CLaw25 T]
theorem z04(f:Fd)(pars:Int)(t:Tp)(W:List Nat)(n:Nat)(l:List (List Nd))(i:Nat)(c:List Nd)(hi:i<l.length)(hx0:l[i]? = some c)(hc:c.length≤100000)(hn:n≤1000000000)(hx:thin 1000 c) :
  loopN T 0 2 (.norm false [1,5,6,7,8,11,12,13,14,15]) l655_0 (stK0 f pars t W n l i 0)=some (.n,stK1 f pars t W (n+cntN c) l i):=by
 obtain⟨_,hge0⟩:=List.getElem?_eq_some_iff.1 hx0
 have:=zai (T:=T) (k:=0) (id:=2) (g2:=.norm false [1,5,6,7,8,11,12,13,14,15]) (c:=l655_0) (fun j=>stK0 f pars t W (n+cntN (c.take j)) l i j) c.length (some (.n,stK1 f pars t W (n+cntN c) l i)) (fun j hj=>?_) ?_
 ·simpa[show cntN []=0 from rfl]using this
 ·obtain⟨x,hx',hmem⟩:∃x,c[j]? = some x∧x∈c:=⟨c[j]'hj,List.getElem?_eq_getElem hj,List.getElem_mem hj⟩
  obtain⟨_,hge⟩:=List.getElem?_eq_some_iff.1 hx'
  have hlt':(j:Int)<c.length:=by omega
  have hws:=za0 hj (by omega)
  have hle:=zfo (c.take j)
  rw[List.length_take]at hle
  have hnx:=hx x hmem
  rw[List.take_add_one,hx',Option.toList_some,zmh]
  generalize hm:n+cntN (c.take j)=m at *
  have hw:IntKind.wrap .i64 ((m:Int)+1)=(m:Int)+1:=zab _ (by omega)
  have h32:x.n.length≤4294967296:=by omega
  obtain⟨op,xi,nn⟩:=x
  dsimp only at *
  by_cases ho:op=5
  ·subst ho
   rw[if_pos rfl,Nat.add_zero,hm]
   unfold stK0 bxsK bxGt
   simp -implicitDefEqProofs[l655_0,hi,hx0,hge0,hj,hlt',hx',hge,hws,h32]
  ·rw[if_neg ho,←Nat.add_assoc,hm]
   unfold stK0 bxsK bxGt
   simp -implicitDefEqProofs[l655_0,hi,hx0,hge0,hj,hlt',hx',hge,hws,ho,hw,h32]
 ·rw[List.take_length]
  unfold stK0 stK1 bxsK bxGt
  constructor<;>simp -implicitDefEqProofs[l655_0,hi,hx0,hge0]
theorem z05(f:Fd)(pars:Int)(t:Tp)(W:List Nat)(l:List (List Nd))(hl:l.length≤1000)(hc:∀c∈l,c.length≤50000∧thin 1000 c) :
  loopN T 0 0 (.norm false [1,5,6,7,8,11,12,13]) l655_1 (stK1 f pars t W 0 l 0)=some (.n,⟨[(1,.i .i64 pars),(5,.ptr (.loc 5) 1 2 0 0),(6,.ptr (.loc 6) 2 4 0 0),(7,.sl (natR W) .an),(8,.ptr (.loc 8) 3 4 0 0),(11,.ptr (.loc 11) 4 4 0 0),(12,.sl (natR W) .an),(13,.i .i64 (((l.map cntN).sum:Nat):Int))],bxsK f t t,6⟩):=by
 have:=zai (T:=T) (k:=0) (id:=0) (g2:=.norm false [1,5,6,7,8,11,12,13]) (c:=l655_1) (fun i=>stK1 f pars t W ((l.take i).map cntN).sum l i) l.length
  (some (.n,⟨[(1,.i .i64 pars),(5,.ptr (.loc 5) 1 2 0 0),(6,.ptr (.loc 6) 2 4 0 0),(7,.sl (natR W) .an),(8,.ptr (.loc 8) 3 4 0 0),(11,.ptr (.loc 11) 4 4 0 0),(12,.sl (natR W) .an),(13,.i .i64 (((l.map cntN).sum:Nat):Int))],bxsK f t t,6⟩)) (fun i hi=>?_) ?_
 ·simpa using this
 ·obtain⟨c,hx,hmem⟩:∃x,l[i]? = some x∧x∈l:=⟨l[i]'hi,List.getElem?_eq_getElem hi,List.getElem_mem hi⟩
  obtain⟨_,hge⟩:=List.getElem?_eq_some_iff.1 hx
  have hlt':(i:Int)<l.length:=by omega
  have hws:=za0 hi (by omega)
  obtain⟨c1,c2⟩:=hc c hmem
  have hb:((l.take i).map cntN).sum≤50000*1000:=by
   have key:∀m:List (List Nd),(∀d∈m,d.length≤50000)→(m.map cntN).sum≤50000*m.length:=by
    intro m
    induction m with
    | nil=>intro _;simp
    | cons d m ih=>
     intro h
     have h1:=ih fun e he=>h e (List.mem_cons_of_mem _ he)
     have h2:=h d List.mem_cons_self
     have h3:=zfo d
     simp only[List.map_cons,List.sum_cons,List.length_cons]
     omega
   have h4:=key (l.take i) fun d hd=>(hc d (List.mem_of_mem_take hd)).1
   rw[List.length_take]at h4
   have:50000*min i l.length≤50000*1000:=Nat.mul_le_mul_left _ (by omega)
   omega
  have h0:=z04 (T:=T) f pars t W ((l.take i).map cntN).sum l i c hi hx (by omega) (by omega) c2
  rw[List.take_add_one,hx,Option.toList_some,List.map_append,List.sum_append,List.map_singleton,List.sum_singleton]
  generalize ((l.take i).map cntN).sum=m at *
  unfold stK0 stK1 bxsK bxGt at h0
  unfold stK1 bxsK bxGt
  simp -implicitDefEqProofs at h0
  simp -implicitDefEqProofs[l655_1,hi,hlt',hx,hge,hws,h0]
 ·rw[List.take_length]
  unfold stK1 bxsK bxGt
  constructor<;>simp -implicitDefEqProofs[l655_1]
end
theorem zm7{l:List Nd}{many words:Nat}(h:lgN l many words=false):l.length≤many∧thin words l:=by
 unfold lgN at h
 have h1:l.length≤many:=by
  simp only[Bool.or_eq_false_iff,decide_eq_false_iff_not]at h
  omega
 refine⟨h1,fun x hx=>?_⟩
 rw[List.take_of_length_le h1]at h
 simp only[Bool.or_eq_false_iff,List.any_eq_false,decide_eq_true_eq]at h
 have:=h.2 x hx
 omega
theorem zwq{f:Fd}{many nodes words:Nat}(h:lgF f many nodes words=false):f.lets.length≤many∧f.outs.length≤many∧(∀x∈f.lets,x.name.length≤100)∧∀c∈codesD f,c.length≤nodes∧thin words c:=by
 unfold lgF at h
 simp only[Bool.or_eq_false_iff,decide_eq_false_iff_not,List.any_eq_false]at h
 obtain⟨⟨⟨h1,h2⟩,h3⟩,h4⟩:=h
 refine⟨by omega,by omega,fun x hx=>?_,fun c hc=>?_⟩
 ·have:=h3 x hx
  unfold lgL at this
  simp only[Bool.or_eq_true,decide_eq_true_eq,not_or]at this
  omega
 ·rcases List.mem_append.1 hc with hc | hc
  ·obtain⟨x,hx,rfl⟩:=List.mem_map.1 hc
   have:=h3 x hx
   unfold lgL at this
   simp only[Bool.or_eq_true,not_or,Bool.not_eq_true]at this
   exact zm7 this.2
  ·have:=h4 c hc
   simp only[Bool.not_eq_true]at this
   exact zm7 this
theorem zsh{l:List (List Nd)}{B:Nat}(h:∀c∈l,c.length≤B):(l.map List.length).sum≤l.length*B:=by
 induction l with
 | nil=>simp
 | cons c r ih=>
  have h1:=h c (by simp)
  have h2:=ih fun d hd=>h d (by simp[hd])
  rw[List.map_cons,List.sum_cons,List.length_cons,Nat.succ_mul]
  omega
section
variable{T:Tbl}[CText T][CComp T][CLimb T][CNat T][CProd T][CTwos T][CQuot T][CQuotD T][CWhole T][CCommon T][CFrac T][CFrac2 T][CFrac3 T][CFrac5 T][CPow T][CTape T][CGauge T][CEval T][CEval2 T][CTree T][CLenD T][CTree2 T][CJoin T][CLex T][CCheck T][CRef02 T][CRef04 T][CRef05 T][CRef07 T][CRef06 T][CRef08 T][CRef09 T][CRef11 T][CRef16 T][CRef17 T][CRef19 T][CLaw09 T][CLaw11 T][CLaw17 T][CLaw21 T][CRef25 T][CSameI T][CTapeS T][CLaw25 T]
theorem zmj(f:Fd)(pars:Int):callF T 655 [efd f,.i .i64 pars]=some (.b true):=by
 have hw:=zoe (T:=T)
 have cl:=zol (T:=T) f 8 40 9 (by decide) (by decide)
 simp only[Int.cast_ofNat_Int]at cl
 cases hL:lgF f 8 40 9 with
 | true=>
  rw[hL]at cl
  obtain⟨L,O⟩:=f
  rw[f655 _ rfl,b655]
  simp -implicitDefEqProofs[hw,cl]
 | false=>
 rw[hL]at cl
 obtain⟨g1,g2,g3,g4⟩:=zwq hL
 clear hL
 have hlen:(codesD f).length≤16:=by unfold codesD;rw[List.length_append,List.length_map];omega
 have hz:sizeD f≤4294967295:=by
  have:=zsh (l:=codesD f) (B:=40) fun c hc=>(g4 c hc).1
  unfold sizeD
  have:=Nat.mul_le_mul_right 40 hlen
  omega
 have hn:thinD 1000 50000 f:=fun c hc=>⟨Nat.le_trans (g4 c hc).1 (by decide),fun u hu=>Nat.le_trans ((g4 c hc).2 u hu) (by decide)⟩
 have hs:∀u∈f.lets,u.name.length≤100000:=fun u hu=>Nat.le_trans (g3 u hu) (by decide)
 have hs4:∀u∈f.lets,u.name.length≤4000:=fun u hu=>Nat.le_trans (g3 u hu) (by decide)
 have t1:=zkj (T:=T) f (fun c hc=>Nat.le_trans (g4 c hc).1 (by decide)) (by omega) (by omega)
 have ck:=zon (T:=T) f f.outs.length pars (by omega) (by omega) hn hz hs4
 obtain⟨b,a0,a1,a2,e1,e2,fc⟩:=zoo (T:=T) (chkD f f.outs.length pars)
 rw[e1]at ck
 cases hq:chkD f f.outs.length pars with
 | some q=>
  have c1:=zei (T:=T) f pars (by omega) (by omega) hn hz hs q hq
  have c2:=zim (T:=T) f pars (by omega) (by omega) hn hz hs q hq
  have ts:=zr5 (T:=T)
  rw[hq]at e2 fc
  subst e2
  obtain⟨q1,q2,q3⟩:=q
  unfold fltC at c1 fc
  dsimp only[etp]at c1 ts
  simp only[zgg,show ints []=[] from rfl,Option.isSome_some]at c1 ts fc ck
  clear e1 hq hn hz hs hs4 g1 g2 g3 g4 hlen
  obtain⟨L,O⟩:=f
  dsimp only at *
  rw[f655 _ rfl,b655]
  simp -implicitDefEqProofs[hw,cl,t1,ck,fc,c1,c2,ts]
 | none=>
  have c1:=zfn (T:=T) f pars (by omega) (by omega) hn hz hs hq
  have c2:=zjh (T:=T) f pars (by omega) (by omega) hn hz hs hq
  have hF:=zh7 hq
  have r1:=zor (T:=T) f pars hn hF
  have r2:=zem (T:=T) f (by omega) (by omega)
  have l1:=z05 (T:=T) f pars (tapQ f pars) (fldQ f).W (codesD f) (by omega) fun c hc=>hn c hc
  rw[show ((codesD f).map cntN).sum=ndsF f from rfl]at l1
  have hsz:=hF.wh.2.2.2.2.2.2
  have hnb:ndsF f≤300:=by
   have key:∀m:List (List Nd),(m.map cntN).sum≤(m.map List.length).sum:=by
    intro m
    induction m with
    | nil=>exact Nat.le_refl _
    | cons d m ih=>have:=zfo d;simp only[List.map_cons,List.sum_cons];omega
   exact Nat.le_trans (key (codesD f)) hsz
  have l2:=zd7 (f.lets.map (·.code))
  have o2:=zgc (ltsQ (f.lets.map (·.code))) f.outs
  have e3:=hsz
  unfold sizeD codesD at e3
  rw[List.map_append,List.sum_append]at e3
  have hCb:(fldQ f).C.length≤300:=by
   show (ousQ (ltsQ (f.lets.map (·.code))) f.outs).C.length≤_
   omega
  have hWb:(fldQ f).W.length≤1000:=by
   show (ousQ (ltsQ (f.lets.map (·.code))) f.outs).W.length≤_
   omega
  have hPb:(tapQ f pars).outs.length≤1000:=by
   show ((ousQ (ltsQ (f.lets.map (·.code))) f.outs).P.map _).length≤_
   rw[List.length_map]
   omega
  have hfs:∀y∈(tapQ f pars).code,fsz y.n≤2000:=zvx _ f.outs (zoq _ fun c hc=>by
   obtain⟨x,hx,rfl⟩:=List.mem_map.1 hc
   exact(hn x.code (zb2 hx)).2) fun c hc=>(hn c (zcj hc)).2
  have hCb2:(tapQ f pars).code.length≤1000:=Nat.le_trans hCb (by decide)
  have s1:=zyd (T:=T) (tapQ f pars) hCb2 hPb
  have s2:=zir (T:=T) (tapQ f pars) hPb hCb2 hfs
  have s3:=zvy (T:=T) (fldQ f).W hWb
  have hwr:IntKind.wrap .i64 ((ndsF f:Int)-((fldQ f).C.length:Int))=(ndsF f:Int)-((fldQ f).C.length:Int):=zab _ (by omega)
  have hCe:(tapQ f pars).code.length=(fldQ f).C.length:=rfl
  rw[hq]at e2 fc
  subst e2
  unfold fltC at c1 fc
  unfold stK1 bxsK bxGt at l1
  dsimp only[etp]at c1 r1 s1 s2
  simp only[Option.isSome_none]at fc ck
  clear e1 hq hn hz hs hs4 g1 g2 g3 g4 hlen hF hsz l2 o2 e3 hnb hCb hWb hPb hfs hCb2
  generalize tapQ f pars=t at *
  generalize fldQ f=q at *
  generalize ndsF f=N at *
  generalize codesD f=l at *
  obtain⟨Cq,Wq,Pq⟩:=q
  obtain⟨code,outs,dim,par⟩:=t
  obtain⟨L,O⟩:=f
  dsimp only at *
  rw[←hCe]at c2 hwr
  rw[show (((0:Nat):Int))=0 from rfl]at l1
  rw[f655 _ rfl,b655]
  simp -implicitDefEqProofs[hw,cl,t1,ck,fc,c1,c2,r1,r2,l1,s1,s2,s3,hwr]
end
end Go.Ab