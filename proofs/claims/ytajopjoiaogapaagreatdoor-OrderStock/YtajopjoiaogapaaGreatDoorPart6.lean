/-
  A calculus of values, boxes and code, and what functions of the program compute, proved in it.
  Conditions: none beyond those that the theorems state. (Part 6.)
-/
import Derived.Test.YtajopjoiaogapaaGreatDoorPart5

set_option linter.unusedSectionVars false
set_option linter.unusedVariables false
set_option linter.unusedSimpArgs false
set_option linter.unnecessarySimpa false

namespace Go.Ab
theorem ze7(c:UInt8):∀l:List UInt8,((splitC c l).map fun w=>w.length+1).sum=l.length+1
 | []=>rfl
 | b::l=>by
  have ih:=ze7 c l
  by_cases h:b=c
  ·subst h
   simp[splitC,ih]
   omega
  ·cases hs:splitC c l with
   | nil=>rw[hs]at ih;simp at ih
   | cons p r=>
    rw[hs]at ih
    simp only[List.map_cons,List.sum_cons]at ih
    simp[splitC,h,hs]
    omega
theorem zgx:∀(ws:List (List UInt8)) (k:Nat) (acc:List Rat),((readL ws k acc).2.1=0∧(readL ws k acc).2.2=0) ∨
  (((readL ws k acc).2.1=1∨(readL ws k acc).2.1=2)∧0≤(readL ws k acc).2.2∧(readL ws k acc).2.2≤k+((ws.map fun w=>w.length+1).sum:Nat)+62)
 | [],_,_=>.inl ⟨rfl,rfl⟩
 | w::ws,k,acc=>by
  unfold readL
  by_cases h1:(figR w).2.1=0
  ·rw[if_pos h1]
   rcases zgx ws (k+w.length+1) (acc++[(figR w).1]) with h | ⟨h2,h3,h4⟩
   ·exact .inl h
   ·refine .inr ⟨h2,h3,?_⟩
    simp only[List.map_cons,List.sum_cons]
    omega
  ·rw[if_neg h1]
   rcases ze3 w with h | ⟨h2,h3,h4⟩
   ·exact absurd h.1 h1
   ·refine .inr ⟨h2,?_,?_⟩
    ·show 0≤(figR w).2.2+(k:Int);omega
    ·show (figR w).2.2+(k:Int)≤_
     simp only[List.map_cons,List.sum_cons]
     omega
theorem zh0(s:List UInt8):((rowR s).2.1=0∧(rowR s).2.2=0)∨(((rowR s).2.1=1∨(rowR s).2.1=2)∧0≤(rowR s).2.2∧(rowR s).2.2≤s.length+63):=by
 unfold rowR
 by_cases h:s=[]
 ·rw[if_pos h];exact .inl ⟨rfl,rfl⟩
 ·rw[if_neg h]
  rcases zgx (splitC 44 s) 0 []with h | ⟨h2,h3,h4⟩
  ·exact .inl h
  ·refine .inr ⟨h2,h3,?_⟩
   rw[ze7]at h4
   omega
theorem zvb{f:Int×Int}(h:(f.1=0∧f.2=0)∨((f.1=1∨f.1=2)∧0≤f.2)):f=(0,0)↔f.1=0:=by
 obtain⟨a,b⟩:=f
 simp only[Prod.mk.injEq]
 omega
section
variable{T:Tbl}[CLimb T][CNat T][CProd T][CTwos T][CQuot T][CQuotD T][CDigits T][CText T][CWhole T][CCommon T][CFrac T][CFrac2 T][CStr T][CSplit T][CPow T][CFig T][CJoin T][CRow T][CRow2 T][CLex T][CSchP T]
theorem zk1(hcut:∀l:List UInt8,l.length≤1000000→callF T 184 [.s l,.s [124]]=some (.tup [.s (hdC 124 l),.s (tlC 124 l),.b (l.contains 124)]))
  (l:List UInt8) (n:Nat) (hl:l.length≤100000) (hn:n≤500000) :
  callF T 620 [.s l,.i .i64 n]=some (.tup [efz (fz (stgR l n).1),.sl (rowF (fzs (stgR l n).2.1)) .an,flt (stgR l n).2.2.1 (stgR l n).2.2.2]):=by
 have c:=hcut l (by omega)
 have h1:(hdC 124 l).length≤l.length:=(List.takeWhile_sublist _).length_le
 have h2:(tlC 124 l).length≤l.length:=by
  unfold tlC
  rw[List.length_drop]
  have:=(List.dropWhile_sublist (fun x:UInt8=>x != 124) (l:=l)).length_le
  omega
 have c1:=zkg (T:=T) (hdC 124 l) (by omega)
 have c2:=zng (T:=T) (tlC 124 l) (by omega)
 have f1:=ze3 (hdC 124 l)
 have f2:=zh0 (tlC 124 l)
 have w1:IntKind.wrap .i64 ((n:Int)+(hdC 124 l).length)=(n:Int)+(hdC 124 l).length:=zab _ (by omega)
 have w2:IntKind.wrap .i64 ((n:Int)+(hdC 124 l).length+1)=(n:Int)+(hdC 124 l).length+1:=zab _ (by omega)
 have s1:=zgw (T:=T) (figR (hdC 124 l)).2.1 (figR (hdC 124 l)).2.2 n (by omega) (by omega)
 have s2:=zgw (T:=T) (rowR (tlC 124 l)).2.1 (rowR (tlC 124 l)).2.2 ((n:Int)+(hdC 124 l).length+1) (by omega) (by omega)
 have z1:=zvb (f:=(figR (hdC 124 l)).2) (by omega)
 unfold stgR
 rw[f620 _ rfl,b620]
 generalize hF:figR (hdC 124 l)=F at *
 generalize rowR (tlC 124 l)=R at *
 obtain⟨q,k,a⟩:=F
 obtain⟨L,k2,a2⟩:=R
 dsimp only at *
 by_cases hk:k=0
 ·have ha:a=0:=by omega
  subst hk ha
  rw[if_neg (by simp)]
  generalize shF (k2,a2) ((n:Int)+(hdC 124 l).length+1)=S at *
  generalize fz q=Z at *
  generalize fzs L=M at *
  generalize hdC 124 l=H at *
  generalize tlC 124 l=K at *
  obtain⟨g1,g2⟩:=S
  obtain⟨y1,y2,y3⟩:=Z
  dsimp only at *
  simp -implicitDefEqProofs[c,c1,c2,w1,w2,s2,zxl]
 ·rw[if_pos (fun h=>hk (congrArg Prod.fst h))]
  generalize shF (k,a) (n:Int)=S at *
  generalize fz q=Z at *
  generalize hdC 124 l=H at *
  generalize tlC 124 l=K at *
  have e0:fzs []=[]:=rfl
  obtain⟨g1,g2⟩:=S
  obtain⟨y1,y2,y3⟩:=Z
  dsimp only at *
  rw[e0]
  simp -implicitDefEqProofs[c,c1,s1,hk]
theorem zgy(r:Rd)(c:UInt8)(hr:r.rest.length≤100000)(ha:r.at_≤500000) :
  callH T 616 [.ptr (.bor 0) 0 3 0 0,.s [c]] [(.bor 0,bxR 0 r)]=some (.tup [.sl (rowF (fzs (wgtR c r).1)) .an,flt (wgtR c r).2.1 (wgtR c r).2.2],[(.bor 0,bxR 0 (nextR r))]):=by
 have c1:=ze6 (T:=T) r (by omega) (by omega)
 have hlen:(lineR r).length≤r.rest.length:=by
  unfold lineR
  split
  ·simp
  ·exact(List.takeWhile_sublist _).length_le
 have c2:=zo7 (T:=T) (lineR r) c (by omega)
 have c3:=zng (T:=T) ((lineR r).drop 2) (by rw[List.length_drop];omega)
 have f2:=zh0 ((lineR r).drop 2)
 rw[List.length_drop]at f2
 have w1:IntKind.wrap .i64 ((r.at_:Int)+1)=(r.at_:Int)+1:=zab _ (by omega)
 have w2:IntKind.wrap .i64 ((r.at_:Int)+1+1)=(r.at_:Int)+2:=by rw[zab _ (by omega)];omega
 have s2:=zgw (T:=T) (rowR ((lineR r).drop 2)).2.1 (rowR ((lineR r).drop 2)).2.2 ((r.at_:Int)+2) (by omega) (by omega)
 unfold wgtR
 unfold bxR at *
 generalize nextR r=r' at *
 rw[f616 _ _ rfl,b616]
 by_cases h:(lineR r).take 2=[c,32]
 ·rw[if_pos h,decide_eq_true h]at c2
  rw[if_pos h]
  clear f2 h
  generalize (lineR r).drop 2=D at *
  generalize lineR r=L at *
  generalize rowR D=R at *
  obtain⟨M,k2,a2⟩:=R
  dsimp only at *
  generalize shF (k2,a2) ((r.at_:Int)+2)=S at *
  obtain⟨g1,g2⟩:=S
  generalize fzs M=N at *
  obtain⟨rest,a,o⟩:=r
  obtain⟨rest',a',o'⟩:=r'
  dsimp only at *
  simp -implicitDefEqProofs[c1,c2,c3,w1,w2,s2]
 ·rw[if_neg h,decide_eq_false h]at c2
  rw[if_neg h]
  have e0:fzs []=[]:=rfl
  clear f2 h c3 s2
  generalize lineR r=L at *
  obtain⟨rest,a,o⟩:=r
  obtain⟨rest',a',o'⟩:=r'
  dsimp only at *
  rw[e0]
  simp -implicitDefEqProofs[c1,c2]
end
structure Sg where
 nm:List UInt8
 c:List Fz
 a:List (List Fz)
def hpG(r:Rd)(s:Sg):Heap:=[(.bor 0,bxR 0 r),(.bor 1,⟨1,.str,5,[[.s s.nm,.bs (.fld (.bor 1) 1) 5 3 0 s.c.length,.bs (.fld (.bor 1) 2) 6 1 0 s.a.length,.sl [] .nl,.sl [] .nl]]⟩),
 (.fld (.bor 1) 1,⟨5,.own,3,rowF s.c⟩),(.fld (.bor 1) 2,⟨6,.own,1,matF s.a⟩)]
def stG(t:List UInt8)(r:Rd)(s:Sg):St:=⟨[(0,.ptr (.bor 0) 0 3 0 0),(1,.s t),(2,.ptr (.bor 1) 1 5 0 0),(6,.ptr (.loc 6) 7 4 0 0)],
 hpG r s++[(.loc 6,⟨7,.str,4,[[.i .i64 0,.i .i64 0,.i .i64 0,.i .i64 0]]⟩)],9⟩
def endG(r:Rd)(s:Sg)(k a:Int):Ex×St:=(.r,⟨[(6,.ptr (.loc 6) 7 4 0 0)],hpG r s++[(.loc 6,⟨7,.str,4,[[.i .i64 k,.i .i64 0,.i .i64 0,.i .i64 a]]⟩)],9⟩)
section
variable{T:Tbl}[CLimb T][CNat T][CProd T][CTwos T][CQuot T][CQuotD T][CDigits T][CText T][CWhole T][CCommon T][CFrac T][CFrac2 T][CStr T][CSplit T][CPow T][CFig T][CJoin T][CRow T][CRow2 T][CLex T][CSchP T]
theorem z3z(t:List UInt8)(r:Rd)(s:Sg)(ho:r.over=true)(hr:r.rest.length≤1000000)(ha:r.at_≤1000000) :
  evX (orc T) T 2 l615_0 (stG t r s)=some (endG r s 0 0):=by
 have c1:=ze6 (T:=T) r hr ha
 have e1:lineR r=[]:=by unfold lineR;rw[ho];rfl
 have e2:nextR r=r:=by unfold nextR;rw[ho];rfl
 rw[e1,e2,ho]at c1
 unfold bxR at c1
 unfold stG endG hpG bxR
 obtain⟨rest,a,o⟩:=r
 obtain⟨nm,C,A⟩:=s
 dsimp only at *
 simp -implicitDefEqProofs[l615_0,c1]
theorem z30(t:List UInt8)(r:Rd)(s:Sg)(ho:r.over=false)(hb:(lineR r).contains 124=false)(hr:r.rest.length≤1000000)(ha:r.at_≤t.length)(ht:t.length≤1000000) :
  evX (orc T) T 2 l615_0 (stG t r s)=some (endG ⟨t.drop r.at_,r.at_,false⟩ s 0 0):=by
 have c1:=ze6 (T:=T) r hr (by omega)
 have c2:=zme (T:=T) (lineR r) 124
 have c3:=zyu (T:=T) (nextR r) t r.at_ ha ht
 rw[ho]at c1
 rw[hb]at c2
 unfold bxR at c1 c3
 unfold stG endG hpG bxR
 generalize nextR r=r' at *
 generalize lineR r=L at *
 obtain⟨rest,a,o⟩:=r
 obtain⟨rest',a',o'⟩:=r'
 obtain⟨nm,C,A⟩:=s
 dsimp only at *
 simp -implicitDefEqProofs[l615_0,c1,c2,c3]
theorem zacg(hcut:∀l:List UInt8,l.length≤1000000→callF T 184 [.s l,.s [124]]=some (.tup [.s (hdC 124 l),.s (tlC 124 l),.b (l.contains 124)]))
  (t:List UInt8) (r:Rd) (s:Sg) (ho:r.over=false) (hb:(lineR r).contains 124=true) (hr:r.rest.length≤100000) (ha:r.at_≤100000) (hf:(stgR (lineR r) r.at_).2.2≠(0,0)) :
  evX (orc T) T 2 l615_0 (stG t r s)=some (endG (nextR r) s (stgR (lineR r) r.at_).2.2.1 (stgR (lineR r) r.at_).2.2.2):=by
 have c1:=ze6 (T:=T) r (by omega) (by omega)
 have c2:=zme (T:=T) (lineR r) 124
 have hlen:(lineR r).length≤r.rest.length:=by
  unfold lineR
  split
  ·simp
  ·exact(List.takeWhile_sublist _).length_le
 have c3:=zk1 (T:=T) hcut (lineR r) r.at_ (by omega) (by omega)
 rw[ho]at c1
 rw[hb]at c2
 unfold bxR at c1
 unfold stG endG hpG bxR
 generalize nextR r=r' at *
 generalize lineR r=L at *
 generalize stgR L (r.at_:Int)=S at *
 obtain⟨q,M,k,b⟩:=S
 generalize fz q=z at *
 generalize fzs M=N at *
 obtain⟨rest,a,o⟩:=r
 obtain⟨rest',a',o'⟩:=r'
 obtain⟨nm,C,A⟩:=s
 obtain⟨z1,z2,z3⟩:=z
 dsimp only at *
 by_cases hk:k=0
 ·have hb0:¬ b=0:=fun h=>hf (by rw[hk,h])
  simp -implicitDefEqProofs[l615_0,c1,c2,c3,hk,hb0]
 ·simp -implicitDefEqProofs[l615_0,c1,c2,c3,hk]
theorem zyv(hcut:∀l:List UInt8,l.length≤1000000→callF T 184 [.s l,.s [124]]=some (.tup [.s (hdC 124 l),.s (tlC 124 l),.b (l.contains 124)]))
  (t:List UInt8) (r:Rd) (s:Sg) (ho:r.over=false) (hb:(lineR r).contains 124=true) (hr:r.rest.length≤100000) (ha:r.at_≤100000) (hc:s.c.length≤1000000) (hA:s.a.length≤1000000) (hf:(stgR (lineR r) r.at_).2.2=(0,0)) :
  evX (orc T) T 2 l615_0 (stG t r s)=some (.n,stG t (nextR r) ⟨s.nm,s.c++[fz (stgR (lineR r) r.at_).1],s.a++[fzs (stgR (lineR r) r.at_).2.1]⟩):=by
 have c1:=ze6 (T:=T) r (by omega) (by omega)
 have c2:=zme (T:=T) (lineR r) 124
 have hlen:(lineR r).length≤r.rest.length:=by
  unfold lineR
  split
  ·simp
  ·exact(List.takeWhile_sublist _).length_le
 have c3:=zk1 (T:=T) hcut (lineR r) r.at_ (by omega) (by omega)
 rw[ho]at c1
 rw[hb]at c2
 unfold bxR at c1
 unfold stG hpG bxR
 generalize nextR r=r' at *
 generalize lineR r=L at *
 generalize stgR L (r.at_:Int)=S at *
 obtain⟨q,M,k,b⟩:=S
 generalize fz q=z at *
 generalize fzs M=N at *
 obtain⟨rest,a,o⟩:=r
 obtain⟨rest',a',o'⟩:=r'
 obtain⟨nm,C,A⟩:=s
 dsimp only at *
 obtain⟨rfl,rfl⟩:=Prod.mk.inj hf
 have p1:=zg6 C z
 have p2:matF A++[[.sl (rowF N) .an]]=matF (A++[N]):=by simp[matF]
 have t1:List.take C.length C=C:=List.take_length
 have t2:List.take A.length A=A:=List.take_length
 have h1:C.length+1≤4294967296:=by omega
 have h2:A.length+1≤4294967296:=by omega
 obtain⟨z1,z2,z3⟩:=z
 rw[List.length_append,List.length_append]
 simp -implicitDefEqProofs[l615_0,c1,c2,c3,p1,p2,t1,t2,h1,h2]
end
def stgsR(t:List UInt8):Nat→Rd→Sg→Rd×Sg×Int×Int
 | 0,r,s=>(r,s,0,0)
 | n+1,r,s=>
  if r.over=true then (r,s,0,0)
  else if (lineR r).contains 124=false then (⟨t.drop r.at_,r.at_,false⟩,s,0,0)
  else if (stgR (lineR r) r.at_).2.2≠(0,0) then (nextR r,s,(stgR (lineR r) r.at_).2.2)
  else stgsR t n (nextR r) ⟨s.nm,s.c++[fz (stgR (lineR r) r.at_).1],s.a++[fzs (stgR (lineR r) r.at_).2.1]⟩
def muR(r:Rd):Nat:=if r.over then 0 else r.rest.length+1
theorem zmf:∀(l:List UInt8) (c:UInt8) (_:l.contains c=true),(hdC c l).length+1+(tlC c l).length=l.length
 | [],c,h=>by simp at h
 | b::l,c,h=>by
  by_cases hb:b=c
  ·subst hb
   simp[hdC,tlC]
   omega
  ·have h2:l.contains c=true:=by
    rw[List.contains_iff_mem]at h ⊢
    rcases List.mem_cons.1 h with h | h
    ·exact absurd h.symm hb
    ·exact h
   have ih:=zmf l c h2
   unfold hdC tlC at *
   simp only[List.takeWhile_cons,List.dropWhile_cons,bne_iff_ne,ne_eq,hb,not_false_eq_true,if_true,List.length_cons]
   omega
theorem zvc(c:UInt8)(l:List UInt8):(hdC c l).length≤l.length:=(List.takeWhile_sublist _).length_le
structure RdOk (t:List UInt8) (r:Rd):Prop where
 a:r.at_≤t.length
 l:r.rest.length≤t.length
 s:r.over=false→r.at_+r.rest.length=t.length
theorem z32(c:UInt8)(l:List UInt8):(tlC c l).length≤l.length:=by
 unfold tlC
 rw[List.length_drop]
 have:=(List.dropWhile_sublist (fun x:UInt8=>x != c) (l:=l)).length_le
 omega
theorem zmg{t:List UInt8}{r:Rd}(h:RdOk t r)(ho:r.over=false):RdOk t (nextR r)∧muR (nextR r)<muR r:=by
 have e:nextR r=⟨tlC 10 r.rest,r.at_+(hdC 10 r.rest).length+(if r.rest.contains 10 then 1 else 0),!r.rest.contains 10⟩:=by unfold nextR;rw[ho];rfl
 have h1:=h.s ho
 have h2:=zvc 10 r.rest
 have h3:=z32 10 r.rest
 have h4:=h.l
 rw[e]
 unfold muR
 rw[ho]
 cases hc:r.rest.contains 10 with
 | true=>
  have h5:=zmf r.rest 10 hc
  refine⟨⟨?_,?_,fun _=>?_⟩,?_⟩
  ·simp;omega
  ·simp;omega
  ·simp;omega
  ·simp;omega
 | false=>
  refine⟨⟨?_,?_,fun h=>?_⟩,?_⟩
  ·simp;omega
  ·simp;omega
  ·cases h
  ·simp
section
variable{T:Tbl}[CLimb T][CNat T][CProd T][CTwos T][CQuot T][CQuotD T][CDigits T][CText T][CWhole T][CCommon T][CFrac T][CFrac2 T][CStr T][CSplit T][CPow T][CFig T][CJoin T][CRow T][CRow2 T][CLex T][CSchP T]
theorem zsk(r:Rd)(s:Sg)(k a:Int):isEx (some (endG r s k a))=true∧finX 2 0 (.norm true [6]) (some (endG r s k a))=some (endG r s k a):=by
 unfold endG hpG bxR
 constructor<;>simp -implicitDefEqProofs
theorem z33(hcut:∀l:List UInt8,l.length≤1000000→callF T 184 [.s l,.s [124]]=some (.tup [.s (hdC 124 l),.s (tlC 124 l),.b (l.contains 124)]))
  (t:List UInt8) (ht:t.length≤100000) (n:Nat) (r:Rd) (s:Sg) (hr:RdOk t r) (hn:muR r<n) (hc:s.c.length+n≤1000000) (ha:s.a.length+n≤1000000) :
  loopN T 2 0 (.norm true [6]) l615_0 (stG t r s)=some (endG (stgsR t n r s).1 (stgsR t n r s).2.1 (stgsR t n r s).2.2.1 (stgsR t n r s).2.2.2):=by
 refine za3 (T:=T) (k:=2) (id:=0) (g2:=.norm true [6]) (c:=l615_0) (fun x:Nat×Rd×Sg=>stG t x.2.1 x.2.2)
  (fun x=>RdOk t x.2.1∧muR x.2.1<x.1∧x.2.2.c.length+x.1≤1000000∧x.2.2.a.length+x.1≤1000000) (fun x=>x.1)
  (fun x=>some (endG (stgsR t x.1 x.2.1 x.2.2).1 (stgsR t x.1 x.2.1 x.2.2).2.1 (stgsR t x.1 x.2.1 x.2.2).2.2.1 (stgsR t x.1 x.2.1 x.2.2).2.2.2)) ?_ (n,r,s) ⟨hr,hn,hc,ha⟩
 rintro⟨n,r,s⟩ ⟨hr,hn,hc,ha⟩
 dsimp only at *
 obtain⟨m,rfl⟩:∃m,n=m+1:=⟨n-1,by omega⟩
 have b1:=hr.a
 have b2:=hr.l
 cases ho:r.over with
 | true=>
  right
  have e:stgsR t (m+1) r s=(r,s,0,0):=by rw[stgsR,if_pos ho]
  rw[e,z3z (T:=T) t r s ho (by omega) (by omega)]
  exact zsk r s 0 0
 | false=>
 cases hb:(lineR r).contains 124 with
 | false=>
  right
  have e:stgsR t (m+1) r s=(⟨t.drop r.at_,r.at_,false⟩,s,0,0):=by rw[stgsR,if_neg (by rw[ho];decide),if_pos hb]
  rw[e,z30 (T:=T) t r s ho hb (by omega) b1 (by omega)]
  exact zsk _ s 0 0
 | true=>
 by_cases hf:(stgR (lineR r) r.at_).2.2=(0,0)
 ·left
  have e:stgsR t (m+1) r s=stgsR t m (nextR r) ⟨s.nm,s.c++[fz (stgR (lineR r) r.at_).1],s.a++[fzs (stgR (lineR r) r.at_).2.1]⟩:=by
   rw[stgsR,if_neg (by rw[ho];decide),if_neg (by rw[hb];decide),if_neg (by simpa using hf)]
  obtain⟨k1,k2⟩:=zmg hr ho
  have e2:=zyv (T:=T) hcut t r s ho hb (by omega) (by omega) (by omega) (by omega) hf
  refine⟨(m,nextR r,⟨s.nm,s.c++[fz (stgR (lineR r) r.at_).1],s.a++[fzs (stgR (lineR r) r.at_).2.1]⟩),⟨k1,show muR (nextR r)<m by omega,?_,?_⟩,by show m<m+1;omega,e2,by rw[e]⟩
  ·simp only[List.length_append,List.length_cons,List.length_nil];omega
  ·simp only[List.length_append,List.length_cons,List.length_nil];omega
 ·right
  have e:stgsR t (m+1) r s=(nextR r,s,(stgR (lineR r) r.at_).2.2):=by
   rw[stgsR,if_neg (by rw[ho];decide),if_neg (by rw[hb];decide),if_pos hf]
  rw[e,zacg (T:=T) hcut t r s ho hb (by omega) (by omega) hf]
  exact zsk _ s _ _
def bxSg0(nm:List UInt8):Box:=⟨1,.str,5,[[.s nm,.sl [] .nl,.sl [] .nl,.sl [] .nl,.sl [] .nl]]⟩
theorem zo8(hcut:∀l:List UInt8,l.length≤1000000→callF T 184 [.s l,.s [124]]=some (.tup [.s (hdC 124 l),.s (tlC 124 l),.b (l.contains 124)]))
  (t nm:List UInt8) (ht:t.length≤100000) (n:Nat) (r:Rd) (hr:RdOk t r) (hn:muR r<n) (hc:n≤1000000) :
  callH T 615 [.ptr (.bor 0) 0 3 0 0,.s t,.ptr (.bor 1) 1 5 0 0] [(.bor 0,bxR 0 r),(.bor 1,bxSg0 nm)] =
   some (flt (stgsR t n r ⟨nm,[],[]⟩).2.2.1 (stgsR t n r ⟨nm,[],[]⟩).2.2.2,hpG (stgsR t n r ⟨nm,[],[]⟩).1 (stgsR t n r ⟨nm,[],[]⟩).2.1):=by
 have hl:=z33 (T:=T) hcut t ht n r ⟨nm,[],[]⟩ hr hn (by simpa using hc) (by simpa using hc)
 generalize stgsR t n r ⟨nm,[],[]⟩=S at *
 obtain⟨r',s',k,a⟩:=S
 unfold stG endG hpG bxR at hl
 unfold hpG bxR bxSg0
 obtain⟨rest,at_,o⟩:=r
 obtain⟨rest',at',o'⟩:=r'
 obtain⟨nm',C,A⟩:=s'
 dsimp only at *
 simp only[List.length_nil,zet,zvp,List.cons_append,List.nil_append]at hl
 rw[f615 _ _ rfl,b615]
 simp -implicitDefEqProofs[hl]
end
theorem zdq{t:List UInt8}{r:Rd}(h:RdOk t r):RdOk t (nextR r):=by
 cases ho:r.over with
 | true=>
  have e:nextR r=r:=by unfold nextR;rw[ho];rfl
  rw[e];exact h
 | false=>exact(zmg h ho).1
theorem zmh{t:List UInt8}:∀(n:Nat) (r:Rd) (s:Sg),RdOk t r→RdOk t (stgsR t n r s).1
 | 0,_,_,h=>h
 | n+1,r,s,h=>by
  unfold stgsR
  by_cases h1:r.over=true
  ·rw[if_pos h1];exact h
  rw[if_neg h1]
  by_cases h2:(lineR r).contains 124=false
  ·rw[if_pos h2]
   exact⟨h.a,by simp,fun _=>by have:=h.a;simp;omega⟩
  rw[if_neg h2]
  by_cases h3:(stgR (lineR r) r.at_).2.2≠(0,0)
  ·rw[if_pos h3];exact zdq h
  ·rw[if_neg h3];exact zmh n _ _ (zdq h)
def smG(s:Sg)(b e:List Fz):Sm:=⟨s.nm,s.c,s.a,b,e⟩
def readS(t:List UInt8):Rd×Sg×Int×Int:=stgsR t (t.length+2) (nextR ⟨t,0,false⟩) ⟨lineR ⟨t,0,false⟩,[],[]⟩
def readR(t:List UInt8):Sm×Int×Int:=
 if rightB 2 (lineR ⟨t,0,false⟩)=false then (⟨lineR ⟨t,0,false⟩,[],[],[],[]⟩,1,0)
 else if (readS t).2.2≠(0,0) then (smG (readS t).2.1 [] [],(readS t).2.2)
 else if (wgtR 98 (readS t).1).2≠(0,0)∨(nextR (readS t).1).over=true then (smG (readS t).2.1 (fzs (wgtR 98 (readS t).1).1) [],(wgtR 98 (readS t).1).2)
 else if (wgtR 101 (nextR (readS t).1)).2≠(0,0)∨(nextR (nextR (readS t).1)).over=true then
  (smG (readS t).2.1 (fzs (wgtR 98 (readS t).1).1) (fzs (wgtR 101 (nextR (readS t).1)).1),(wgtR 101 (nextR (readS t).1)).2)
 else (smG (readS t).2.1 (fzs (wgtR 98 (readS t).1).1) (fzs (wgtR 101 (nextR (readS t).1)).1),1,(nextR (nextR (readS t).1)).at_)
section
variable{T:Tbl}[CLimb T][CNat T][CProd T][CTwos T][CQuot T][CQuotD T][CDigits T][CText T][CWhole T][CCommon T][CFrac T][CFrac2 T][CStr T][CSplit T][CPow T][CFig T][CJoin T][CRow T][CRow2 T][CLex T][CSchP T]
theorem zvd(hcut:∀l:List UInt8,l.length≤1000000→callF T 184 [.s l,.s [124]]=some (.tup [.s (hdC 124 l),.s (tlC 124 l),.b (l.contains 124)]))
  (t:List UInt8) (ht:t.length≤50000):callF T 612 [.s t]=some (.tup [esm (readR t).1,flt (readR t).2.1 (readR t).2.2]):=by
 have h0:RdOk t ⟨t,0,false⟩:=⟨Nat.zero_le _,Nat.le_refl _,fun _=>Nat.zero_add _⟩
 have c1:=ze6 (T:=T) ⟨t,0,false⟩ (by show t.length≤_;omega) (Nat.zero_le _)
 obtain⟨k1,k2⟩:=zmg h0 rfl
 have hmu:muR (⟨t,0,false⟩:Rd)=t.length+1:=rfl
 have hln:(lineR ⟨t,0,false⟩).length≤t.length:=zvc 10 t
 have c2:=zkk (T:=T) 2 0 (lineR ⟨t,0,false⟩) (by omega)
 have c3:=zo8 (T:=T) hcut t (lineR ⟨t,0,false⟩) (by omega) (t.length+2) (nextR ⟨t,0,false⟩) k1 (by omega) (by omega)
 have hS:readS t=stgsR t (t.length+2) (nextR ⟨t,0,false⟩) ⟨lineR ⟨t,0,false⟩,[],[]⟩:=rfl
 rw[←hS]at c3
 have o2:RdOk t (readS t).1:=by rw[hS];exact zmh _ _ _ k1
 have o3:=zdq o2
 have c4:=zgy (T:=T) (readS t).1 98 (by have:=o2.l;omega) (by have:=o2.a;omega)
 have c5:=zgy (T:=T) (nextR (readS t).1) 101 (by have:=o3.l;omega) (by have:=o3.a;omega)
 unfold readR
 rw[f612 _ rfl,b612]
 clear hS o2 o3 h0 k1 k2 hmu hln hcut ht
 generalize wgtR 98 (readS t).1=B at *
 generalize wgtR 101 (nextR (readS t).1)=E at *
 generalize nextR (nextR (readS t).1)=r4 at *
 generalize nextR (readS t).1=r3 at *
 generalize readS t=S at *
 obtain⟨r2,s2,kS,aS⟩:=S
 generalize nextR ⟨t,0,false⟩=r1 at *
 generalize lineR ⟨t,0,false⟩=nm at *
 obtain⟨B,kB,aB⟩:=B
 obtain⟨E,kE,aE⟩:=E
 generalize fzs B=FB at *
 generalize fzs E=FE at *
 unfold hpG bxSg0 bxR at c3
 unfold bxR at c1 c4 c5
 simp only[Int.natCast_zero,Bool.not_false]at c1
 obtain⟨l1,a1,o1⟩:=r1
 obtain⟨l2,a2,o2⟩:=r2
 obtain⟨l3,a3,o3⟩:=r3
 obtain⟨l4,a4,o4⟩:=r4
 obtain⟨nm2,C,A⟩:=s2
 unfold smG
 dsimp only at *
 cases hR:rightB 2 nm with
 | false=>
  rw[hR]at c2
  simp -implicitDefEqProofs[c1,c2]
 | true=>
 rw[hR]at c2
 simp only[Bool.true_eq_false,if_false,ne_eq,Prod.mk.injEq]
 by_cases hk:kS=0∧aS=0
 rotate_left
 ·rw[if_pos hk]
  by_cases h1:kS=0
  ·have h2:¬ aS=0:=fun h=>hk ⟨h1,h⟩
   simp -implicitDefEqProofs[c1,c2,c3,h1,h2]
  ·simp -implicitDefEqProofs[c1,c2,c3,h1]
 obtain⟨rfl,rfl⟩:=hk
 rw[if_neg (by simp)]
 by_cases hb:(¬ (kB=0∧aB=0))∨o3=true
 ·rw[if_pos hb]
  by_cases h1:kB=0
  ·by_cases h2:aB=0
   ·subst h1 h2
    have h3:o3=true:=by rcases hb with h | h;exact absurd ⟨rfl,rfl⟩ h;exact h
    subst h3
    simp -implicitDefEqProofs[c1,c2,c3,c4]
   ·simp -implicitDefEqProofs[c1,c2,c3,c4,h1,h2]
  ·simp -implicitDefEqProofs[c1,c2,c3,c4,h1]
 ·rw[if_neg hb]
  have h1:kB=0∧aB=0:=Classical.not_not.1 fun h=>hb (.inl h)
  have h2:o3=false:=by cases o3;rfl;exact absurd (.inr rfl) hb
  obtain⟨rfl,rfl⟩:=h1
  subst h2
  clear hb
  by_cases he:(¬ (kE=0∧aE=0))∨o4=true
  ·rw[if_pos he]
   by_cases h1:kE=0
   ·by_cases h2:aE=0
    ·subst h1 h2
     have h3:o4=true:=by rcases he with h | h;exact absurd ⟨rfl,rfl⟩ h;exact h
     subst h3
     simp -implicitDefEqProofs[c1,c2,c3,c4,c5]
    ·simp -implicitDefEqProofs[c1,c2,c3,c4,c5,h1,h2]
   ·simp -implicitDefEqProofs[c1,c2,c3,c4,c5,h1]
  ·rw[if_neg he]
   have h1:kE=0∧aE=0:=Classical.not_not.1 fun h=>he (.inl h)
   have h2:o4=false:=by cases o4;rfl;exact absurd (.inr rfl) he
   obtain⟨rfl,rfl⟩:=h1
   subst h2
   simp -implicitDefEqProofs[c1,c2,c3,c4,c5]
end
def parseR(t:List UInt8):Sm×Int×Int:=
 if 4000<t.length then (⟨[],[],[],[],[]⟩,1,4000)
 else if (readR t).2≠(0,0) then (⟨[],[],[],[],[]⟩,(readR t).2)
 else if wrongS (readR t).1≠0 then (⟨[],[],[],[],[]⟩,2,wrongS (readR t).1)
 else ((readR t).1,0,0)
section
variable{T:Tbl}[CLimb T][CNat T][CProd T][CTwos T][CQuot T][CQuotD T][CDigits T][CText T][CWhole T][CCommon T][CFrac T][CFrac2 T][CFrac3 T][CFrac5 T][CStr T][CSplit T][CPow T][CFig T][CTape T][CGauge T][CEval T][CRun T][CIfc T][CJoin T][CRow T][CRow2 T][CLex T][CScheme T][CSchP T]
theorem zsl(hcut:∀l:List UInt8,l.length≤1000000→callF T 184 [.s l,.s [124]]=some (.tup [.s (hdC 124 l),.s (tlC 124 l),.b (l.contains 124)]))
  (t:List UInt8) (ht:t.length≤1000000) (hs:t.length≤4000→(readR t).2=(0,0)→SmS (readR t).1):callF T 608 [.s t]=some (.tup [esm (parseR t).1,flt (parseR t).2.1 (parseR t).2.2]):=by
 unfold parseR
 rw[f608 _ rfl,b608]
 by_cases h1:4000<t.length
 ·have h1':(4000:Int)<t.length:=by omega
  rw[if_pos h1]
  clear hs
  simp -implicitDefEqProofs[h1,h1']
 have h1':¬ (4000:Int)<t.length:=by omega
 rw[if_neg h1]
 have c1:=zvd (T:=T) hcut t (by omega)
 have c2:(readR t).2=(0,0)→callF T 551 [esm (readR t).1]=some (.i .i64 (wrongS (readR t).1)):=fun h=>zfh (T:=T) (readR t).1 (hs (by omega) h)
 clear hs hcut ht
 generalize wrongS (readR t).1=W at *
 generalize readR t=R at *
 obtain⟨⟨nm,C,A,B,E⟩,k,a⟩:=R
 dsimp only at *
 simp only[ne_eq,Prod.mk.injEq]
 by_cases hk:k=0
 ·by_cases ha:a=0
  ·subst hk ha
   have c2:=c2 rfl
   rw[if_neg (by simp)]
   by_cases hw:W=0
   ·subst hw
    rw[if_neg (by simp)]
    simp -implicitDefEqProofs[h1,h1',c1,c2]
   ·rw[if_pos hw]
    simp -implicitDefEqProofs[h1,h1',c1,c2,hw]
  ·rw[if_pos (fun h=>ha h.2)]
   simp -implicitDefEqProofs[h1,h1',c1,hk,ha]
 ·rw[if_pos (fun h=>hk h.1)]
  simp -implicitDefEqProofs[h1,h1',c1,hk]
end
def sameM(a b:List (List Fz)):Bool:=(a.zip b).all fun p=>decide (p.1.map fv=p.2.map fv)
def sameS(a b:Sm):Bool:=decide (a.nm=b.nm)&&decide (a.a.length=b.a.length)&&decide (a.b.map fv=b.b.map fv)&&decide (a.c.map fv=b.c.map fv)&&decide (a.e.map fv=b.e.map fv)&&sameM a.a b.a
def eqM(a b:List (List Fz)):Bool:=(a.zip b).all fun p=>decide (p.1=p.2)
def eqS(a b:Sm):Bool:=decide (a.nm=b.nm)&&decide (a.a.length=b.a.length)&&decide (a.b=b.b)&&decide (a.c=b.c)&&decide (a.e=b.e)&&eqM a.a b.a
def nrmS(s:Sm):Sm:=⟨s.nm,nrm s.c,s.a.map nrm,nrm s.b,nrm s.e⟩
section
variable{T:Tbl}[CLimb T][CNat T][CProd T][CTwos T][CQuot T][CQuotD T][CText T][CWhole T][CCommon T][CFrac T][CJoin T][CRow T][CSchP T]
def stSmS(a b:Sm)(i:Nat):St:=⟨[(3,.ptr (.loc 3) 1 5 0 0),(46,.sl (matF a.a) .an),(47,.i .i64 a.a.length),(48,.i .i64 i)],[(.loc 3,bxS b)],3⟩
end
section
variable{T:Tbl}[CRef02 T][CRef04 T][CRef05 T][CRef07 T][CRef06 T][CRef08 T][CRef09 T][CRef11 T][CRef12 T][CSchT T][CLaw30 T]
def bxS2(g:Nat)(s:Sm):Box:=⟨g,.str,5,[[.s s.nm,.sl (rowF s.c) .an,.sl (matF s.a) .an,.sl (rowF s.b) .an,.sl (rowF s.e) .an]]⟩
def stEq(a b:Sm)(i:Nat):St:=⟨[(2,.ptr (.loc 2) 1 5 0 0),(3,.ptr (.loc 3) 2 5 0 0),(5,.i .i64 i)],[(.loc 2,bxS2 1 a),(.loc 3,bxS2 2 b)],4⟩
end
def subL(a b:List Fz):List Fz:=fzs (addR (a.map fv) (sclR ((-1:Int):Rat) (b.map fv)))
def gapS(s:Sm):List Fz:=if okS s=true∧s.e≠[] then subL s.b s.e else []
def endsS(s:Sm):Bool:=match s.b.getLast?,s.c.getLast?,s.a.getLast? with
 | some b,some c,some a=>decide (fv b=0)&&(decide (fv c=1)&&decide (a.map fv=(s.b.take (s.b.length-1)).map fv))
 | _,_,_=>false
structure OkSm (s:Sm):Prop where
 b1:1≤s.b.length
 b8:s.b.length≤8
 cl:s.c.length=s.b.length
 al:s.a.length=s.b.length
 el:s.e.length=s.b.length∨s.e.length=0
 sh:shapeL s.a 0=true
 na:numM s.a=true
 nb:s.b.all numF=true
 nc:s.c.all numF=true
 ne:s.e.all numF=true
theorem zv9(b c e:List Fz):numM [b,c,e]=(b.all numF&&c.all numF&&e.all numF):=by
 unfold numM
 simp only[List.all_cons,List.all_nil,Bool.and_true,Bool.and_assoc]
theorem ziv{s:Sm}(h:okS s=true):OkSm s∧wrongS s=0:=by
 unfold okS at h
 have hw:=of_decide_eq_true h
 refine⟨?_,hw⟩
 unfold wrongS at hw
 cases g1:rightB 2 s.nm with
 | false=>rw[g1]at hw;simp at hw
 | true=>
 cases g2:shapeS s with
 | false=>rw[g1,g2]at hw;simp at hw
 | true=>
 cases g3:numM s.a with
 | false=>rw[g1,g2,g3]at hw;simp at hw
 | true=>
 cases g4:numM [s.b,s.c,s.e]with
 | false=>rw[g1,g2,g3,g4]at hw;simp at hw
 | true=>
 obtain⟨s1,s2,s3,s4,s5,s6⟩:=zh1 g2
 rw[zv9]at g4
 simp only[Bool.and_eq_true]at g4
 exact⟨s1,s2,s3,s4,s5,s6,g3,g4.1.1,g4.1.2,g4.2⟩
theorem zmd{l:List Fz}(h:l.all numF=true):∀x∈l,fsz x≤6:=fun x hx=>zsn (List.all_eq_true.1 h x hx)
abbrev heunT:List UInt8:=[104,101,117,110,10,48,124,10,49,124,49,10,98,32,49,47,50,44,49,47,50,10,101,32,49,44,48]
abbrev eulT:List UInt8:=[101,117,108,101,114,10,48,124,10,98,32,50]
def heunS:Sm:=⟨[104,101,117,110],[fz 0,fz 1],[[],[fz 1]],[fz (mkRat 1 2),fz (mkRat 1 2)],[fz 1,fz 0]⟩
def eulS:Sm:=⟨[101,117,108,101,114],[fz 0],[[]],[fz 2],[]⟩
theorem zo6{q:Rat}(h:sz q≤2):numF (fz q)=true:=by
 unfold numF rightF
 rw[zcw,decide_eq_true rfl,Bool.true_and,decide_eq_true_eq]
 have:=zyq (x:=fz q) (k:=2) (by rw[zbg];exact h)
 omega
class CRef10 (T:Tbl):Prop where
end Go.Ab
section
namespace Go.Ab
end Go.Ab
end
namespace Go.Ab
class CRef11b (T:Tbl):Prop where
class CLaw11c (T:Tbl):Prop where
class CLaw11b (T:Tbl):Prop where
end Go.Ab
section
namespace Go.Ab
end Go.Ab
end
namespace Go.Ab
section
variable{T:Tbl}[CLimb T][CNat T][CProd T][CTwos T][CQuot T][CQuotD T][CDigits T][CText T][CWhole T][CCommon T][CFrac T][CFrac2 T][CFrac5 T][CStr T][CSplit T][CPow T][CFig T][CJoin T][CRow T][CRow2 T][CRow5 T][CRef02 T][CRef04 T][CRef05 T][CRef07 T][CRef06 T][CRef08 T][CRef09 T][CRef11 T][CRef5 T][CLaw09 T][CLaw11 T][CLaw11b T][CLaw11c T]
def stSzL(l:List Fz)(i:Nat):St:=⟨[(0,.sl (rowF l) .an),(3,.i .i64 (sizL (l.take i))),(4,.i .i64 i)],[],2⟩
end
section
variable{T:Tbl}[CRef02 T][CRef04 T][CRef05 T][CRef07 T][CRef06 T][CRef08 T][CRef09 T][CRef10 T][CRef11 T][CRef11b T]
def stR11(s:List UInt8)(y:Nat×Nat×List Rat):St:=
 ⟨[(0,.s s),(5,.bs (.loc 5) 1 3 0 y.2.2.length),(6,.i .i64 y.2.1),(7,.i .i64 y.1)],[(.loc 5,⟨1,.own,3,rowF (fzs y.2.2)⟩)],3⟩
def resR11(r:List Rat×Int×Int):Option (Ex×St):=
 if r.2.1=0 then some (.n,⟨[(5,.bs (.loc 5) 1 3 0 r.1.length)],[(.loc 5,⟨1,.own,3,rowF (fzs r.1)⟩)],3⟩)
 else some (.r,⟨[(2,.sl [] .an),(3,.i .i64 r.2.1),(4,.i .i64 r.2.2)],[],2⟩)
def restR11(s:List UInt8)(y:Nat×Nat×List Rat):List Rat×Int×Int:=
 if y.1≤s.length then readL (splitC 44 (s.drop y.2.1)) y.2.1 y.2.2 else (y.2.2,0,0)
def piece(s:List UInt8)(i from_:Nat):List UInt8:=(s.drop from_).take (i-from_)
end
section
variable{T:Tbl}[CLimb T][CNat T][CProd T][CTwos T][CQuot T][CQuotD T][CDigits T][CText T][CWhole T][CCommon T][CFrac T][CFrac2 T][CFrac3 T][CFrac5 T][CStr T][CSplit T][CPow T][CFig T][CTape T][CGauge T][CEval T][CRun T][CIfc T][CJoin T][CRow T][CRow2 T][CRow5 T][CLex T][CScheme T][CSchP T][CSchT T][CLaw30 T]
def stTxS(s:Sm)(i:Nat):St:=⟨[(1,.ptr (.loc 1) 1 5 0 0),(4,.bs (.loc 33) 2 1 0 (i+1)),(14,.sl (matF s.a) .an),(15,.i .i64 s.a.length),(16,.i .i64 i)],
 [(.loc 1,bxS s),(.loc 33,⟨2,.own,1,rowsT ([s.nm]++((s.c.zip s.a).take i).map fun p=>stgT p.1 p.2)⟩)],4⟩
def stSx(s:Sm):Nat→St
 | 0=>⟨[(1,.ptr (.loc 1) 1 5 0 0),(4,.sl (rowsT [s.nm]) .fu),(14,.sl (matF s.a) .an),(15,.i .i64 s.a.length),(16,.i .i64 0)],[(.loc 1,bxS s)],3⟩
 | i+1=>stTxS s (i+1)
end
section
variable{T:Tbl}[CLimb T][CNat T][CProd T][CTwos T][CQuot T][CQuotD T][CDigits T][CText T][CWhole T][CCommon T][CFrac T][CFrac2 T][CFrac3 T][CFrac5 T][CRef02 T][CRef04 T][CRef05 T][CRef06 T][CRef07 T][CRef08 T][CRef09 T][CRef10 T][CRef11 T][CRef11b T][CStr T][CSplit T][CPow T][CFig T][CTape T][CGauge T][CEval T][CRun T][CIfc T][CJoin T][CRow T][CRow2 T][CRow5 T][CLex T][CScheme T][CSchP T][CSchT T][CLaw30 T]
def accT(s:Sm)(i:Nat):List UInt8:=List.intercalate [10] ([s.nm]++((s.c.zip s.a).take i).map fun p=>stgT p.1 p.2)
def stAcc(s:Sm)(i:Nat):St:=⟨[(1,.ptr (.loc 1) 1 5 0 0),(3,.s (accT s i)),(4,.i .i64 i)],[(.loc 1,bxS s)],3⟩
end
def NumB(l:List UInt8):Prop:=∀b∈l,44≤b.toNat∧b.toNat≤57
theorem zse(c:UInt8):∀l:List UInt8,(∀b∈l,b≠c)→hdC c l=l∧l.contains c=false
 | [],_=>by simp[hdC]
 | b::l,h=>by
  have h1:=h b List.mem_cons_self
  obtain⟨e1,e2⟩:=zse c l fun d hd=>h d (List.mem_cons_of_mem _ hd)
  have h2:¬ c=b:=fun e=>h1 e.symm
  unfold hdC at *
  simp at e2
  simp[List.takeWhile_cons,h1,h2,e1,e2]
def stgW:List (Fz×List Fz)→List UInt8→List UInt8
 | [],W=>W
 | p::l,W=>stgT p.1 p.2++10::stgW l W
def wgtT(s:Sm):List UInt8:=98::32::List.intercalate [44] (txts s.b)++(if s.e=[] then [] else 10::101::32::List.intercalate [44] (txts s.e))
theorem zrl(w:List UInt8):sz (figR w).1≤200:=by
 have z0:sz 0≤200:=by rw[zg5];decide
 unfold figR
 simp only
 split
 ·exact z0
 ·next h0=>
  have hl:=zi5 h0
  split
  ·unfold figB
   simp only
   split
   ·exact z0
   ·next h1=>
    obtain⟨h60,hr⟩:=zre h1
    have ht:=zrf h60
    split
    ·split
     ·exact z0
     ·exact zpj (by omega) (by omega) (by decide)
    ·refine zpj ?_ (by omega) (by decide)
     rw[zk8]
     have e2:=zbw (x:=(readZ (w.take (cutN w))).natAbs) (y:=10^(w.drop (cutN w+1)).length) (L:=60) (M:=60) hl ht
     have e3:=zcd (x:=(((readZ (w.take (cutN w))).natAbs*10^(w.drop (cutN w+1)).length:Nat):Int)) (y:=((rd (w.drop (cutN w+1)):Nat):Int)) (L:=120) (by rw[Int.natAbs_natCast];exact e2) (by rw[Int.natAbs_natCast];omega)
     rw[←Int.natCast_add,Int.natAbs_natCast]at e3
     omega
  ·exact zpj (by omega) (by rw[zfb];decide) (by decide)
theorem znh:∀(ws:List (List UInt8)) (k:Nat) (acc:List Rat),(∀q∈acc,sz q≤200)→∀q∈(readL ws k acc).1,sz q≤200
 | [],_,_,h=>h
 | w::ws,k,acc,h=>by
  unfold readL
  split
  ·exact znh ws _ _ fun q hq=>by
    rcases List.mem_append.1 hq with h1 | h1
    ·exact h q h1
    ·rw[List.mem_singleton]at h1
     rw[h1]
     exact zrl w
  ·intro q hq
   simp at hq
theorem zx1(s:List UInt8):∀q∈(rowR s).1,sz q≤200:=by
 unfold rowR
 split
 ·intro q hq;simp at hq
 ·exact znh _ _ _ fun q hq=>by simp at hq
theorem zhy{t:List UInt8}(h:rightB 2 t=true):(∀b∈t,b≠10)∧t.length≤12:=by
 cases t with
 | nil=>simp[rightB]at h
 | cons c r=>
  simp only[rightB,Bool.and_eq_true,decide_eq_true_eq]at h
  obtain⟨⟨⟨_,h1⟩,h2⟩,h3⟩:=h
  have hk:kindN c=2:=by omega
  rw[hk]at h2 h3
  unfold firstN at h2
  have ht:(r.takeWhile (moreN 2)).length=r.length:=by omega
  have e:r.takeWhile (moreN 2)=r:=(List.takeWhile_sublist _).eq_of_length ht
  have hall:=List.all_takeWhile (p:=moreN 2) (l:=r)
  rw[e]at hall
  refine⟨fun b hb=>?_,h3⟩
  rcases List.mem_cons.1 hb with rfl | hb
  ·rintro rfl
   revert hk
   decide
  ·have:=List.all_eq_true.1 hall b hb
   rintro rfl
   revert this
   decide
theorem zva{s:Sm}(h:okS s=true):rightB 2 s.nm=true:=by
 unfold okS at h
 have hw:=of_decide_eq_true h
 unfold wrongS at hw
 cases g:rightB 2 s.nm with
 | true=>rfl
 | false=>rw[g]at hw;simp at hw
section
variable{T:Tbl}[CLimb T][CNat T][CProd T][CTwos T][CQuot T][CQuotD T][CDigits T][CText T][CWhole T][CCommon T][CFrac T][CFrac2 T][CFrac3 T][CFrac5 T][CRef02 T][CRef04 T][CRef05 T][CRef06 T][CRef07 T][CRef08 T][CRef09 T][CRef10 T][CRef11 T][CRef11b T][CStr T][CSplit T][CPow T][CFig T][CTape T][CGauge T][CEval T][CRun T][CIfc T][CJoin T][CRow T][CRow2 T][CRow5 T][CRef5 T][CLex T][CScheme T][CSchP T][CSchT T][CLaw30 T]
def stW0(s:Sm)(m:List UInt8)(G:List Fz):St:=⟨[(2,.ptr (.loc 2) 1 5 0 0),(5,.ptr (.loc 5) 2 5 0 0),(6,.s m),(8,.sl (rowF G) .an),(10,.sl [] .fu),(11,.i .i64 0)],[(.loc 2,bxS2 1 s),(.loc 5,bxS2 2 s)],4⟩
def stWs(s:Sm)(m:List UInt8)(G:List Fz)(i:Nat):St:=⟨[(2,.ptr (.loc 2) 1 5 0 0),(5,.ptr (.loc 5) 2 5 0 0),(6,.s m),(8,.sl (rowF G) .an),(10,.bs (.loc 106) 3 3 0 i),(11,.i .i64 i)],
 [(.loc 2,bxS2 1 s),(.loc 5,bxS2 2 s),(.loc 106,⟨3,.own,3,rowF ((subL s.b s.e).take i)⟩)],5⟩
def stW(s:Sm)(m:List UInt8)(G:List Fz):Nat→St
 | 0=>stW0 s m G
 | i+1=>stWs s m G (i+1)
end
theorem zys{w:List UInt8}(h:(figR w).2.1=0):1≤w.length:=by
 cases w with
 | nil=>exact absurd h (by decide)
 | cons c r=>simp
theorem zhz:∀(ws:List (List UInt8)) (k:Nat) (acc:List Rat),2*(readL ws k acc).1.length≤2*acc.length+(ws.map fun w=>w.length+1).sum
 | [],_,acc=>by simp[readL]
 | w::ws,k,acc=>by
  unfold readL
  by_cases h:(figR w).2.1=0
  ·have h1:=zys h
   have:=zhz ws (k+w.length+1) (acc++[(figR w).1])
   rw[if_pos h]
   simp only[List.length_append,List.length_cons,List.length_nil,List.map_cons,List.sum_cons]at this ⊢
   omega
  ·rw[if_neg h]
   simp
theorem zsf(s:List UInt8):2*(rowR s).1.length≤s.length+1:=by
 unfold rowR
 split
 ·simp
 ·have:=zhz (splitC 44 s) 0 []
  rw[ze7]at this
  simpa using this
structure SgS (s:Sg):Prop where
 al:s.a.length=s.c.length
 c:∀x∈s.c,fsz x≤300
 a:∀r∈s.a,r.length≤1000∧∀x∈r,fsz x≤300
theorem zsg{l:List UInt8}(hl:l.length≤1900):(fzs (rowR l).1).length≤1000∧∀x∈fzs (rowR l).1,fsz x≤300:=by
 refine⟨?_,fun x hx=>?_⟩
 ·rw[zat]
  have:=zsf l
  omega
 ·unfold fzs at hx
  obtain⟨q,hq,rfl⟩:=List.mem_map.1 hx
  rw[zbg]
  have:=zx1 l q hq
  omega
theorem zsh{r:Rd}(ho:r.over=false):muR r=muR (nextR r)+(lineR r).length+1:=by
 unfold muR lineR nextR
 rw[ho]
 cases hc:r.rest.contains 10 with
 | true=>
  have h5:=zmf r.rest 10 hc
  simp
  omega
 | false=>
  have:=(zse 10 r.rest (fun b hb e=>by rw[e]at hb;rw[List.contains_iff_mem.2 hb]at hc;cases hc)).1
  simp[this]
theorem zsi(t:List UInt8)(ht:t.length≤1500):∀(n:Nat) (r:Rd) (s:Sg),RdOk t r→SgS s→2*s.c.length+muR r≤1501→SgS (stgsR t n r s).2.1∧2*(stgsR t n r s).2.1.c.length≤1501
 | 0,_,_,_,h,hm=>⟨h,by simp only[stgsR];omega⟩
 | n+1,r,s,hr,h,hm=>by
  unfold stgsR
  by_cases h1:r.over=true
  ·rw[if_pos h1];exact⟨h,by dsimp only;omega⟩
  rw[if_neg h1]
  by_cases h2:(lineR r).contains 124=false
  ·rw[if_pos h2];exact⟨h,by dsimp only;omega⟩
  rw[if_neg h2]
  by_cases h3:(stgR (lineR r) r.at_).2.2≠(0,0)
  ·rw[if_pos h3];exact⟨h,by dsimp only;omega⟩
  rw[if_neg h3]
  have ho:r.over=false:=by simpa using h1
  have hmu:=zsh ho
  have hl1:1≤(lineR r).length:=by
   cases hl:lineR r with
   | nil=>rw[hl]at h2;simp at h2
   | cons c q=>simp
  have hl2:(lineR r).length≤1500:=by
   have:=hr.l
   have e:lineR r=hdC 10 r.rest:=by unfold lineR;rw[ho];rfl
   rw[e]
   have:=zvc 10 r.rest
   omega
  have k1:fsz (fz (stgR (lineR r) r.at_).1)≤300:=by
   rw[zbg]
   have:=zrl (hdC 124 (lineR r))
   unfold stgR
   split
   ·dsimp only;omega
   ·dsimp only;omega
  have k2:(fzs (stgR (lineR r) r.at_).2.1).length≤1000∧∀x∈fzs (stgR (lineR r) r.at_).2.1,fsz x≤300:=by
   unfold stgR
   split
   ·simp[fzs]
   ·exact zsg (by have:=z32 124 (lineR r);omega)
  refine zsi t ht n _ _ (zdq hr) ⟨?_,?_,?_⟩ ?_
  ·have:=h.al
   simp only[List.length_append,List.length_cons,List.length_nil]
   omega
  ·intro x hx
   rcases List.mem_append.1 hx with hx | hx
   ·exact h.c x hx
   ·rw[List.mem_singleton]at hx
    rw[hx]
    exact k1
  ·intro q hq
   rcases List.mem_append.1 hq with hq | hq
   ·exact h.a q hq
   ·rw[List.mem_singleton]at hq
    rw[hq]
    exact k2
  ·simp only[List.length_append,List.length_cons,List.length_nil]
   omega
theorem zv8(c:UInt8){r:Rd}(h:r.rest.length≤1500):(fzs (wgtR c r).1).length≤1000∧∀x∈fzs (wgtR c r).1,fsz x≤300:=by
 unfold wgtR
 split
 ·refine zsg ?_
  have e:(lineR r).length≤r.rest.length:=by
   unfold lineR
   split
   ·simp
   ·exact zvc 10 r.rest
  simp only[List.length_drop]
  omega
 ·simp[fzs]
theorem zyt(t:List UInt8)(ht:t.length≤1500)(h:(readR t).2=(0,0)):SmS (readR t).1:=by
 have h0:RdOk t ⟨t,0,false⟩:=⟨Nat.zero_le _,Nat.le_refl _,fun _=>Nat.zero_add _⟩
 have k1:=zdq h0
 have m0:=zsh (r:=⟨t,0,false⟩) rfl
 have m1:muR ⟨t,0,false⟩=t.length+1:=rfl
 obtain⟨S,hc⟩:=zsi t ht (t.length+2) (nextR ⟨t,0,false⟩) ⟨lineR ⟨t,0,false⟩,[],[]⟩ k1 ⟨rfl,fun x hx=>by simp at hx,fun x hx=>by simp at hx⟩ (by simp;omega)
 have o2:=zmh (t.length+2) (nextR ⟨t,0,false⟩) ⟨lineR ⟨t,0,false⟩,[],[]⟩ k1
 have hS:readS t=stgsR t (t.length+2) (nextR ⟨t,0,false⟩) ⟨lineR ⟨t,0,false⟩,[],[]⟩:=rfl
 rw[←hS]at S hc o2
 have o3:=zdq o2
 obtain⟨b1,b2⟩:=zv8 98 (r:=(readS t).1) (by have:=o2.l;omega)
 obtain⟨e1,e2⟩:=zv8 101 (r:=nextR (readS t).1) (by have:=o3.l;omega)
 have nmS:∀(n:Nat) (r:Rd) (s:Sg),(stgsR t n r s).2.1.nm=s.nm:=by
  intro n
  induction n with
  | zero=>intro r s;rfl
  | succ n ih=>
   intro r s
   unfold stgsR
   split
   ·rfl
   ·split
    ·rfl
    ·split
     ·rfl
     ·rw[ih]
 have hnm:(readS t).2.1.nm=lineR ⟨t,0,false⟩:=nmS _ _ _
 unfold readR at h ⊢
 by_cases q1:rightB 2 (lineR ⟨t,0,false⟩)=false
 ·rw[if_pos q1]at h
  simp at h
 have hn:=(zhy (t:=lineR ⟨t,0,false⟩) (by simpa using q1)).2
 rw[if_neg q1]at h ⊢
 by_cases q2:(readS t).2.2≠(0,0)
 ·rw[if_pos q2]at h
  exact absurd h q2
 rw[if_neg q2]at h ⊢
 have al:=S.al
 have mk:∀b e:List Fz,(b.length≤1000∧∀x∈b,fsz x≤300)→(e.length≤1000∧∀x∈e,fsz x≤300)→SmS (smG (readS t).2.1 b e):=fun b e hb he=>
  ⟨by show (readS t).2.1.nm.length≤1000;rw[hnm];omega,by show (readS t).2.1.c.length≤1000;omega,by show (readS t).2.1.a.length≤1000;omega,hb.1,he.1,S.c,S.a,hb.2,he.2⟩
 split
 ·exact mk _ _ ⟨b1,b2⟩ ⟨by simp,by simp⟩
 ·split
  ·exact mk _ _ ⟨b1,b2⟩ ⟨e1,e2⟩
  ·exact mk _ _ ⟨b1,b2⟩ ⟨e1,e2⟩
def intsN(l:List Nat):List (List AV):=l.map fun(n:Nat)=>[.i .i64 n]
theorem za8(l:List Nat):(intsN l).length=l.length:=by simp[intsN]
theorem zao(l:List Nat):wkL (intsN l)=intsN l:=by
 unfold intsN
 induction l with
 | nil=>rfl
 | cons a l ih=>rw[List.map_cons,znb,ih];rfl
theorem zpc(l:List Nat)(n:Nat):intsN l++[[.i .i64 n]]=intsN (l++[n]):=by simp[intsN]
def sAcc:Nat→List UInt8→List Nat
 | _,[]=>[]
 | k,c::r=>if c=10 then (k+1)::sAcc (k+1) r else sAcc (k+1) r
def stL(k:Nat)(l:List UInt8):List Nat:=sAcc k l++[k+l.length+1]
def stM(t:List UInt8)(i:Nat):List Nat:=0::sAcc 0 (t.take i)
section
variable{T:Tbl}[CRef31 T]
def stSs(t:List UInt8)(i:Nat):St:=
 if stM t i=[0] then ⟨[(0,.s t),(3,.sl [[.i .i64 0]] .fu),(4,.i .i64 i)],[],2⟩
 else ⟨[(0,.s t),(3,.bs (.loc 20) 1 1 0 (stM t i).length),(4,.i .i64 i)],[(.loc 20,⟨1,.own,1,intsN (stM t i)⟩)],3⟩
def endSs(t:List UInt8):Option (Ex×St):=
 if stM t t.length=[0] then some (.n,⟨[(0,.s t),(3,.sl [[.i .i64 0]] .fu)],[],2⟩)
 else some (.n,⟨[(0,.s t),(3,.bs (.loc 20) 1 1 0 (stM t t.length).length)],[(.loc 20,⟨1,.own,1,intsN (stM t t.length)⟩)],3⟩)
def stBa(s:List UInt8)(i:Nat):St:=⟨[(0,.s s),(3,.i .i64 i)],[],2⟩
end
def treeR(l:List (List Nat)):List (List AV):=l.map fun t=>[.sl (intsN t) .an]
theorem zcv(l:List (List Nat)):(treeR l).length=l.length:=by simp[treeR]
theorem zdp(l:List (List Nat))(t:List Nat):treeR l++[[.sl (intsN t) .an]]=treeR (l++[t]):=by simp[treeR]
theorem zbq(l:List (List Nat)):wkL (treeR l)=treeR l:=by
 unfold treeR
 induction l with
 | nil=>rfl
 | cons a l ih=>
  rw[List.map_cons,znb,ih]
  congr 1
  simp[zao]
theorem zbe{L:List Nat}{n p:Nat}(h:L[n]? = some p):(intsN L)[n]? = some [.i .i64 p]:=by
 unfold intsN
 simp[h]
section
variable{T:Tbl}[COrder T]
def stPr(l:List Nat)(i k0 j:Nat):St:=⟨[(0,.sl (intsN l) .an),(1,.i .i64 i),(5,.i .i64 (k0-j:Nat))],[],2⟩
theorem zux(l:List Nat)(i k0 r a:Nat)(hi:i=k0+1)(hil:i<l.length)(hr:r≤k0)(hlen:l.length≤1000)(ha:l[i]? = some (a+1))(h0:l[r]? = some a)(hk:∀k,r<k→k<i→l[k]?≠some a)(hb:∀x∈l,x≤1000) :
  loopN T 0 0 (.norm false [5]) l605_0 (stPr l i k0 0)=some (.n,⟨[(5,.i .i64 r)],[],2⟩):=by
 have hwk:=zao l
 have hln:=za8 l
 have ia:=zbe ha
 have ha1:a+1≤1000:=hb _ (List.mem_of_getElem? ha)
 have hsub:IntKind.wrap .i64 (a:Int)=(a:Int):=zab _ (by omega)
 refine za0 (stPr l i k0) (k0-r) _ (fun j hj=>?_) ?_
 ·obtain⟨k',hk'⟩:∃k',k0-j=k'+1:=⟨k0-j-1,by omega⟩
  have hk'':k0-(j+1)=k':=by omega
  have hkl:k'+1<l.length:=by omega
  have hkI:(k':Int)+1<l.length:=by omega
  have hiI:(i:Int)<l.length:=by omega
  obtain⟨x,hx⟩:∃x,l[k'+1]? = some x:=⟨l[k'+1]'hkl,List.getElem?_eq_getElem hkl⟩
  have ix:=zbe hx
  have hne:¬ x=a:=fun e=>hk (k'+1) (by omega) (by omega) (by rw[hx,e])
  have hne':¬ (x:Int)=(a:Int):=by omega
  have hw:IntKind.wrap .i64 (k':Int)=(k':Int):=zab _ (by omega)
  unfold stPr
  rw[hk',hk'']
  rw[←hln]at hkl hkI hiI hil
  generalize intsN l=R at *
  obtain⟨j0,ia⟩:=List.getElem?_eq_some_iff.1 ia
  obtain⟨j1,ix⟩:=List.getElem?_eq_some_iff.1 ix
  have g0:R[i]? = some (R[i]'j0):=List.getElem?_eq_getElem j0
  have g1:R[k'+1]? = some (R[k'+1]'j1):=List.getElem?_eq_getElem j1
  simp only[Int.natCast_add,Int.natCast_one]at ia
  clear hk h0 ha hx hb hi
  simp -implicitDefEqProofs[l605_0,hkl,hkI,hiI,hil,g0,g1,ia,ix,hsub,hne,hne',hw,hwk]
 ·have e:k0-(k0-r)=r:=by omega
  have hrl:r<l.length:=by omega
  have hrI:(r:Int)<l.length:=by omega
  have hiI:(i:Int)<l.length:=by omega
  have i0:=zbe h0
  unfold stPr
  rw[e]
  rw[←hln]at hrl hrI hiI hil
  generalize intsN l=R at *
  obtain⟨j0,ia⟩:=List.getElem?_eq_some_iff.1 ia
  obtain⟨j1,i0⟩:=List.getElem?_eq_some_iff.1 i0
  have g0:R[i]? = some (R[i]'j0):=List.getElem?_eq_getElem j0
  have g1:R[r]? = some (R[r]'j1):=List.getElem?_eq_getElem j1
  simp only[Int.natCast_add,Int.natCast_one]at ia
  clear hk h0 ha hb hi
  constructor<;>simp -implicitDefEqProofs[l605_0,hrl,hrI,hiI,hil,g0,g1,ia,i0,hsub]
theorem zhw(l:List Nat)(i r a:Nat)(hil:i<l.length)(hr:r<i)(hlen:l.length≤1000)(ha:l[i]? = some (a+1))(h0:l[r]? = some a)(hk:∀k,r<k→k<i→l[k]?≠some a)(hb:∀x∈l,x≤1000) :
  callF T 605 [.sl (intsN l) .an,.i .i64 i]=some (.i .i64 r):=by
 obtain⟨k0,rfl⟩:∃k0,i=k0+1:=⟨i-1,by omega⟩
 have L:=zux (T:=T) l (k0+1) k0 r a rfl hil (by omega) hlen ha h0 hk hb
 have hwk:=zao l
 have hw:IntKind.wrap .i64 (k0:Int)=(k0:Int):=zab _ (by omega)
 unfold stPr at L
 simp only[Nat.sub_zero,Int.natCast_add,Int.natCast_one]at L
 rw[f605 _ rfl,b605]
 clear ha h0 hk hb
 generalize intsN l=R at *
 simp -implicitDefEqProofs[L,hwk,hw]
def stNw(n i:Nat):St:=⟨[(0,.i .i64 n),(3,.bs (.loc 3) 1 1 0 0),(4,.bs (.loc 4) 2 1 0 i),(15,.i .i64 n),(16,.i .i64 i)],[(.loc 3,⟨1,.own,1,[]⟩),(.loc 4,⟨2,.own,1,intsN (List.range i)⟩)],4⟩
theorem zuy(n:Nat)(hn:n≤1000):loopN T 0 0 (.norm false [0,3,4]) l589_0 (stNw n 0)=some (.n,⟨[(0,.i .i64 n),(3,.bs (.loc 3) 1 1 0 0),(4,.bs (.loc 4) 2 1 0 n)],[(.loc 3,⟨1,.own,1,[]⟩),(.loc 4,⟨2,.own,1,intsN (List.range n)⟩)],4⟩):=by
 refine za0 (stNw n) n _ (fun i hi=>?_) ?_
 ·have hi':(i:Int)<n:=by omega
  have hws:=zda hi (by omega)
  have hc:i≤4294967295:=by omega
  have hl:=za8 (List.range i)
  rw[List.length_range]at hl
  have ht:List.take i (intsN (List.range i))=intsN (List.range i):=List.take_of_length_le (by omega)
  have hw:=zao (List.range (i+1))
  unfold stNw
  rw[List.range_succ,←zpc]at hw ⊢
  generalize intsN (List.range i)=R at *
  simp -implicitDefEqProofs[l589_0,hi,hi',hws,hc,hl,ht,hw]
 ·have hw:=zao (List.range n)
  unfold stNw
  generalize intsN (List.range n)=R at *
  constructor<;>simp -implicitDefEqProofs[l589_0,hw]
end
def okSt:Int→List Int→Bool
 | _,[]=>true
 | p,x::l=>decide (1≤x)&&decide (x-1≤p)&&okSt x l
def rightT:List Int→Bool
 | []=>false
 | x::l=>decide (x=0)&&okSt x l
def smallT(l:List Int):Bool:=decide (l.length≤8)&&rightT l
def extT(t:List Nat):List (List Nat):=(List.range (t.getLast?.getD 0+1)).map fun x=>t++[x+1]
def lvlT:Nat→List (List Nat)
 | 0=>[[0]]
 | n+1=>(lvlT n).flatMap extT
def allT:List (List Nat):=(List.range 8).flatMap lvlT
def intsT(t:List Nat):List Int:=t.map fun(n:Nat)=>(n:Int)
def parF(t:List Nat)(a:Nat):Nat→Nat
 | 0=>0
 | k+1=>if t[k+1]? = some a then k+1 else parF t a k
def parN(t:List Nat)(i:Nat):Nat:=parF t (t[i]?.getD 0-1) (i-1)
def cntG(a:Nat):List Nat→Nat
 | []=>0
 | x::l=>if a<x then cntG a l+1 else 0
def enT(t:List Nat)(i:Nat):Nat:=i+1+cntG (t[i]?.getD 0) (t.drop (i+1))
def denS(t:List Nat)(i:Nat)(q:List Nat×Nat):List Nat×Nat:=
 let s:=q.1[i]?.getD 0+1
 let l:=q.1.set i s
 (if 0<i then l.set (parN t i) (l[parN t i]?.getD 0+s) else l,q.2*s)
def denJ(t:List Nat):Nat→List Nat×Nat
 | 0=>(List.replicate t.length 0,1)
 | j+1=>denS t (t.length-1-j) (denJ t j)
def denP(t:List Nat):Nat:=(denJ t t.length).2
def denK(t:List Nat):Nat→Nat
 | 0=>1
 | k+1=>denK t k*(enT t k-k)
def denE(t:List Nat):Nat:=denK t t.length
def kidP(t:List Nat)(q:Nat):List Nat:=(List.range t.length).filter fun c=>decide (0<c)&&decide (parN t c=q)
def kidC(t:List Nat)(e:Nat):Nat→Nat→List Nat
 | 0,_=>[]
 | f+1,c=>if c<e then c::kidC t e f (enT t c) else []
def kidE(t:List Nat)(q:Nat):List Nat:=kidC t (enT t q) t.length (q+1)
def parOk(t:List Nat)(i:Nat):Bool:=
 decide (1≤t[i]?.getD 0)&&decide (parN t i<i)&&decide (t[parN t i]?.getD 9+1=t[i]?.getD 0)&&((List.range i).all fun k=>decide (k≤parN t i) || decide (t[k]?.getD 9+1≠t[i]?.getD 0))
def chkT(t:List Nat):Bool:=
 decide (1≤t.length)&&decide (t.length≤8)&&t.all (fun x=>decide (x≤8))&&((List.range t.length).all fun i=>decide (i=0) || parOk t i) &&
 decide (denP t=denE t)&&((List.range (t.length+1)).all fun j=>decide (denK t j≤100000)&&(denJ t j).1.all (fun x=>decide (x≤8))&&decide ((denJ t j).2≤100000)&&decide ((denJ t j).1.length=t.length)) &&
 ((List.range t.length).all fun i=>decide (kidP t i=kidE t i))
structure TrOk (t:List Nat):Prop where
 l1:1≤t.length
 l8:t.length≤8
 v:∀x∈t,x≤8
 p:∀i,0<i→i<t.length→parOk t i=true
 den:denP t=denE t
 dk:∀j,j≤t.length→denK t j≤100000
 dj:∀j,j≤t.length→(∀x∈(denJ t j).1,x≤8)∧(denJ t j).2≤100000∧(denJ t j).1.length=t.length
 kid:∀i,i<t.length→kidP t i=kidE t i
theorem zwi{t:List Nat}(h:chkT t=true):TrOk t:=by
 simp only[chkT,Bool.and_eq_true,decide_eq_true_eq,List.all_eq_true,Bool.or_eq_true,List.mem_range]at h
 obtain⟨⟨⟨⟨⟨⟨h1,h2⟩,h3⟩,h4⟩,h5⟩,h6⟩,h7⟩:=h
 exact⟨h1,h2,h3,fun i hi hl=>(h4 i hl).resolve_left (by omega),h5,fun j hj=>(h6 j (by omega)).1.1.1,fun j hj=>⟨(h6 j (by omega)).1.1.2,(h6 j (by omega)).1.2,(h6 j (by omega)).2⟩,h7⟩
theorem zr1(t:List Nat):ints (intsT t)=intsN t:=by simp[ints,intsT,intsN]
theorem inRg(x:Int)(h1:-9223372036854775808≤x)(h2:x<9223372036854775808):IntKind.wrap .i64 x=x:=zab _ ⟨h1,h2⟩
section
variable{T:Tbl}[COrder T]
def stOrR(l:List Int)(i:Nat):St:=⟨[(0,.sl (ints l) .an),(3,.i .i64 ((i+1:Nat):Int))],[],2⟩
def resOrR(b:Bool):Option (Ex×St):=if b then some (.n,⟨[],[],2⟩) else some (.r,⟨[(2,.b false)],[],2⟩)
theorem zya(x0:Int)(t:List Int)(hl:t.length≤1000000)(hw:∀x∈x0::t,-9223372036854775808≤x∧x<9223372036854775808) :
  loopN T 0 0 (.norm false []) l594_0 (stOrR (x0::t) 0)=resOrR (okSt x0 t):=by
 have key:=zbm (T:=T) (k:=0) (id:=0) (g2:=.norm false []) (c:=l594_0) (stOrR (x0::t)) t.length (fun i=>resOrR (okSt ((x0::t)[i]?.getD 0) (t.drop i))) (fun i hi=>?_) ?_
 ·simpa using key
 ·have hi':(i:Int)+1<t.length+1:=by omega
  have hii:(i:Int)<t.length+1:=by omega
  have hi2:i<t.length+1:=by omega
  have hws:IntKind.wrap .i64 ((i:Int)+1+1)=(i:Int)+1+1:=inRg _ (by omega) (by omega)
  have hw1:IntKind.wrap .i64 (i:Int)=(i:Int):=inRg _ (by omega) (by omega)
  have e1:(x0::t)[i+1]? = some t[i]:=by simp[hi]
  have e0:(x0::t)[i]? = some ((x0::t)[i]'(by simp;omega)):=List.getElem?_eq_getElem _
  have hd:t.drop i=t[i]::t.drop (i+1):=(List.getElem_cons_drop ..).symm
  obtain⟨h1,h2⟩:=hw t[i] (by simp)
  rw[hd,e0,Option.getD_some]
  generalize (x0::t)[i]'(by simp;omega)=p at *
  generalize hx:t[i]=x at *
  have hlen:(ints (x0::t)).length=t.length+1:=by simp
  have hwk:=zi0 (x0::t)
  have q0:(ints (x0::t))[i]? = some [.i .i64 p]:=by rw[ints_get?,e0];rfl
  have q1:(ints (x0::t))[i+1]? = some [.i .i64 x]:=by rw[ints_get?,e1];rfl
  clear hw
  have hwx:1≤x→IntKind.wrap .i64 (x-1)=x-1:=fun h=>inRg _ (by omega) (by omega)
  rw[show okSt p (x::t.drop (i+1))=(decide (1≤x)&&decide (x-1≤p)&&okSt x (t.drop (i+1))) from rfl]
  unfold stOrR
  generalize ints (x0::t)=R at *
  obtain⟨j0,a0⟩:=List.getElem?_eq_some_iff.1 q0
  obtain⟨j1,a1⟩:=List.getElem?_eq_some_iff.1 q1
  have q0:R[i]? = some (R[i]'j0):=List.getElem?_eq_getElem j0
  have q1:R[i+1]? = some (R[i+1]'j1):=List.getElem?_eq_getElem j1
  by_cases c1:1≤x
  ·have hwx:=hwx c1
   have c1':¬ x<1:=by omega
   by_cases c2:x-1≤p
   ·left
    have c2':¬ p<x-1:=by omega
    refine⟨?_,?_⟩
    ·simp -implicitDefEqProofs[l594_0,hlen,hwk,hi',hii,hi2,hi,hws,hw1,q0,q1,a0,a1,hwx,c1',c2']
    ·simp[c1,c2,hi,hx,resOrR]
   ·right
    have c2':p<x-1:=by omega
    constructor<;>simp -implicitDefEqProofs[l594_0,hlen,hwk,hi',hii,hi2,hi,hws,hw1,q0,q1,a0,a1,hwx,c1',c1,c2,c2',resOrR]
  ·right
   have c1':x<1:=by omega
   constructor<;>simp -implicitDefEqProofs[l594_0,hlen,hwk,hi',hii,hi2,hi,hws,hw1,q0,q1,a0,a1,c1',c1,resOrR]
 ·have h0:¬ (t.length:Int)+1<t.length+1:=by omega
  unfold stOrR
  constructor<;>simp -implicitDefEqProofs[l594_0,h0,resOrR,okSt]
theorem zl9(l:List Int)(hl:l.length≤1000000)(hw:∀x∈l,-9223372036854775808≤x∧x<9223372036854775808):callF T 594 [.sl (ints l) .an]=some (.b (rightT l)):=by
 rw[f594 _ rfl,b594]
 match l with
 | []=>simp -implicitDefEqProofs[rightT]
 | x::t=>
  have hne:¬ (t.length:Int)+1=0:=by omega
  have hp0:(0:Int)<(t.length:Int)+1:=by omega
  have L:=zya (T:=T) x t (by simp at hl;omega) hw
  by_cases h0:x=0
  ·subst h0
   simp only[stOrR,Nat.zero_add,Int.natCast_one]at L
   have hlen:(ints (0::t)).length=t.length+1:=by simp
   have hwk:=zi0 (0::t)
   have q0:(ints (0::t))[0]? = some [.i .i64 0]:=rfl
   have e:rightT (0::t)=okSt 0 t:=by simp[rightT]
   rw[e]
   generalize ints (0::t)=R at *
   obtain⟨j0,a0⟩:=List.getElem?_eq_some_iff.1 q0
   cases hb:okSt 0 t<;>simp -implicitDefEqProofs[L,hne,hp0,hlen,hwk,q0,a0,resOrR,hb]
  ·have e:rightT (x::t)=false:=by simp[rightT,h0]
   have hlen:(ints (x::t)).length=t.length+1:=by simp
   have hwk:=zi0 (x::t)
   have q0:(ints (x::t))[0]? = some [.i .i64 x]:=rfl
   rw[e]
   clear hw L
   generalize ints (x::t)=R at *
   obtain⟨j0,a0⟩:=List.getElem?_eq_some_iff.1 q0
   simp -implicitDefEqProofs[hne,hp0,hlen,hwk,q0,a0,h0]
theorem zd4(l:List Int)(hl:l.length≤1000000)(hw:∀x∈l,-9223372036854775808≤x∧x<9223372036854775808):callF T 607 [.sl (ints l) .an]=some (.b (smallT l)):=by
 have c:=zl9 (T:=T) l hl hw
 rw[f607 _ rfl,b607]
 unfold smallT
 by_cases h:l.length≤8
 ·have h':(l.length:Int)≤8:=by omega
  simp -implicitDefEqProofs[c,h,h']
 ·have h':¬ (l.length:Int)≤8:=by omega
  simp -implicitDefEqProofs[h,h']
theorem zgs{t:List Nat}(ht:TrOk t){i:Nat}(h0:0<i)(hi:i<t.length):parN t i<i∧callF T 605 [.sl (intsN t) .an,.i .i64 i]=some (.i .i64 (parN t i)):=by
 have h:=ht.p i h0 hi
 simp only[parOk,Bool.and_eq_true,decide_eq_true_eq,List.all_eq_true,Bool.or_eq_true,List.mem_range]at h
 obtain⟨⟨⟨h1,h2⟩,h3⟩,h4⟩:=h
 refine⟨h2,?_⟩
 generalize parN t i=r at *
 have e1:t[i]? = some t[i]:=List.getElem?_eq_getElem hi
 have e2:t[r]? = some (t[r]'(by omega)):=List.getElem?_eq_getElem (by omega)
 rw[e1]at h1 h3 h4
 rw[e2]at h3
 simp only[Option.getD_some]at h1 h3 h4
 have l8:=ht.l8
 exact zhw (T:=T) t i r t[r] hi h2 (by omega) (by rw[e1,h3]) e2 (fun k h5 h6 h7=>by
  rcases h4 k h6 with h8 | h8
  ·omega
  ·rw[h7]at h8
   exact h8 h3) (fun x hx=>by have:=ht.v x hx;omega)
def stOrD(t:List Nat)(j:Nat):St:=⟨[(0,.sl (intsN t) .an),(3,.bs (.loc 11) 1 1 0 t.length),(4,.i .i64 ((denJ t j).2:Nat)),(5,.i .i64 ((t.length:Int)-1-j))],[(.loc 11,⟨1,.own,1,intsN (denJ t j).1⟩)],3⟩
theorem zhx(l:List Nat)(i x:Nat):(intsN l).set i [.i .i64 x]=intsN (l.set i x):=by
 simp[intsN,List.map_set]
theorem zyb{t:List Nat}(ht:TrOk t):loopN T 0 0 (.norm false [4]) l595_0 (stOrD t 0)=some (.n,⟨[(4,.i .i64 (denP t:Nat))],[],2⟩):=by
 have l8:=ht.l8
 have l1:=ht.l1
 refine za0 (stOrD t) t.length _ (fun j hj=>?_) ?_
 ·obtain⟨i,hi⟩:∃i,i=t.length-1-j:=⟨_,rfl⟩
  have hil:i<t.length:=by omega
  have ei:(t.length:Int)-1-j=i:=by omega
  have ei2:(t.length:Int)-1-(j+1:Nat)=i-1:=by omega
  obtain⟨b1,b2,b3⟩:=ht.dj j (by omega)
  obtain⟨d1,d2,d3⟩:=ht.dj (j+1) (by omega)
  have en:denJ t (j+1)=denS t i (denJ t j):=by rw[denJ,hi]
  unfold stOrD
  rw[ei,ei2]
  rw[en]at d1 d2 d3 ⊢
  unfold denS at d1 d2 d3 ⊢
  generalize denJ t j=q at *
  obtain⟨s,o⟩:=q
  dsimp only at *
  have e1:s[i]? = some (s[i]'(by omega)):=List.getElem?_eq_getElem (by omega)
  have hx:s[i]'(by omega)≤100:=Nat.le_trans (b1 _ (List.getElem_mem _)) (by decide)
  rw[e1]at d1 d2 d3 ⊢
  generalize s[i]'(by omega)=x at *
  simp only[Option.getD_some]at d1 d2 d3 ⊢
  obtain⟨z,hz⟩:∃z,z=x+1:=⟨_,rfl⟩
  rw[←hz]at d1 d2 d3 ⊢
  have hwt:=zao t
  have hws:=zao s
  have hwi:IntKind.wrap .i64 ((i:Int)-1)=(i:Int)-1:=inRg _ (by omega) (by omega)
  have hwx:IntKind.wrap .i64 ((x:Int)+1)=(z:Int):=by
   rw[inRg _ (by omega) (by omega)]
   omega
  have hwo:IntKind.wrap .i64 ((o:Int)*(z:Int))=((o*z:Nat):Int):=by
   rw[←Int.natCast_mul]
   generalize o*z=m at *
   exact inRg _ (by omega) (by omega)
  have hiI:(i:Int)<t.length:=by omega
  have hls:=za8 s
  have q0:=zbe e1
  have hset:(intsN s).set i [.i .i64 (z:Int)]=intsN (s.set i z):=zhx s i z
  by_cases h0:0<i
  ·obtain⟨p1,c1⟩:=zgs (T:=T) ht h0 hil
   generalize parN t i=p at *
   have h0':(0:Int)<i:=by omega
   have hpl:p<t.length:=by omega
   have hpI:(p:Int)<t.length:=by omega
   rw[if_pos h0]at d1 d3 ⊢
   have ne:i≠p:=by omega
   obtain⟨y,e20⟩:∃y,s[p]? = some y:=⟨s[p]'(by omega),List.getElem?_eq_getElem (by omega)⟩
   have hy:y≤100:=Nat.le_trans (b1 _ (List.mem_of_getElem? e20)) (by decide)
   have e2:(s.set i z)[p]? = some y:=by rw[List.getElem?_set_ne ne];exact e20
   rw[e2]at d1 d3 ⊢
   simp only[Option.getD_some]at d1 d3 ⊢
   have e3:(s.set i z)[i]? = some z:=List.getElem?_set_self (by omega)
   have q2:=zbe e2
   have q3:=zbe e3
   obtain⟨v,hv⟩:∃v,v=y+z:=⟨_,rfl⟩
   rw[←hv]at d1 d3 ⊢
   have hwy:IntKind.wrap .i64 ((y:Int)+(z:Int))=(v:Int):=by
    rw[inRg _ (by omega) (by omega)]
    omega
   have hset2:(intsN (s.set i z)).set p [.i .i64 (v:Int)]=intsN ((s.set i z).set p v):=zhx _ _ _
   have hl2:=za8 (s.set i z)
   rw[List.length_set]at hl2
   have hw2:=zao (s.set i z)
   have hw3:=zao ((s.set i z).set p v)
   rw[←hset2,←hset]
   rw[←hset]at q2 q3 hset2 hl2 hw2
   rw[←hset2]at hw3
   have hgs:(i:Int)≥0:=by omega
   clear d1 d2 d3 hset hset2 e1 e2 e3 en
   generalize intsN s=R at *
   generalize intsN t=Q at *
   obtain⟨j0,a0⟩:=List.getElem?_eq_some_iff.1 q0
   obtain⟨j2,a2⟩:=List.getElem?_eq_some_iff.1 q2
   obtain⟨j3,a3⟩:=List.getElem?_eq_some_iff.1 q3
   have q0:=List.getElem?_eq_getElem j0
   have q2:=List.getElem?_eq_getElem j2
   have q3:=List.getElem?_eq_getElem j3
   have hi0:¬ i=0:=by omega
   simp -implicitDefEqProofs[l595_0,hi0,c1,a0,a2,a3, h0',hil,hpl,hpI,hiI,hwi,hwx,hwo,hwy,hls,hl2,b3,q0,q2,q3,hw2,hw3,hwt,hws,hgs]
  ·have h00:i=0:=by omega
   subst h00
   rw[if_neg h0]at d1 d3 ⊢
   have e3:(s.set 0 z)[0]? = some z:=List.getElem?_set_self (by omega)
   have q3:=zbe e3
   have hl2:=za8 (s.set 0 z)
   rw[List.length_set]at hl2
   have hw2:=zao (s.set 0 z)
   rw[←hset]
   rw[←hset]at q3 hl2 hw2
   clear d1 d2 d3 hset e1 e3 en
   generalize intsN s=R at *
   generalize intsN t=Q at *
   obtain⟨j0,a0⟩:=List.getElem?_eq_some_iff.1 q0
   obtain⟨j3,a3⟩:=List.getElem?_eq_some_iff.1 q3
   have q0:=List.getElem?_eq_getElem j0
   have q3:=List.getElem?_eq_getElem j3
   have hm1:IntKind.wrap .i64 (-1)=-1:=inRg _ (by omega) (by omega)
   have hlt:(0:Int)<t.length:=by omega
   simp only[Int.natCast_zero]at *
   simp -implicitDefEqProofs[l595_0,a0,a3,hil,hlt,hwx,hwo,hls,hl2,b3,q0,q3,hw2,hwt,hws,hm1]
 ·have hwt:=zao t
  have ei:(t.length:Int)-1-t.length=-1:=by omega
  unfold stOrD denP
  rw[ei]
  generalize denJ t t.length=q at *
  constructor<;>simp -implicitDefEqProofs[l595_0,hwt]
theorem zen{t:List Nat}(ht:TrOk t)(hs:smallT (intsT t)=true):callF T 595 [.sl (intsN t) .an]=some (.i .i64 (denE t:Nat)):=by
 have l8:=ht.l8
 have l1:=ht.l1
 have L:=zyb (T:=T) ht
 have c:=zd4 (T:=T) (intsT t) (by simp[intsT];omega) (fun x hx=>by
  obtain⟨n,hn,rfl⟩:=List.mem_map.1 hx
  have:=ht.v n hn
  omega)
 rw[zr1,hs]at c
 have hwt:=zao t
 have hl:=za8 t
 have hw:IntKind.wrap .i64 ((t.length:Int)-1)=(t.length:Int)-1:=inRg _ (by omega) (by omega)
 have hr:List.replicate t.length [AV.i .i64 0]=intsN (List.replicate t.length 0):=by simp[intsN]
 have hwr:=zao (List.replicate t.length 0)
 rw[←ht.den]
 unfold stOrD at L
 simp only[denJ]at L
 rw[show (((0:Nat):Int))=0 from rfl,show (((1:Nat):Int))=1 from rfl,Int.sub_zero]at L
 rw[f595 _ rfl,b595]
 generalize intsN t=Q at *
 generalize denP t=D at *
 have hle:t.length≤4294967295:=by omega
 have hleI:(t.length:Int)≤4294967295:=by omega
 have hleI2:(t.length:Int)≤4294967296:=by omega
 simp -implicitDefEqProofs[c,hl,hw,hwt,hr,hwr,L,hle,hleI,hleI2]
end
def belQ(a:List (List Fz))(N:List Fz):List Rat:=a.map fun r=>dotQ r N
theorem zkr:∀(r N:List Fz),dotQ r (N.take r.length)=dotQ r N
 | [],N=>by simp[dotQ]
 | x::r,[]=>by simp[dotQ]
 | x::r,y::N=>by simp[dotQ,zkr r N]
theorem zks(r N:List Fz):dotK r (N.take r.length) r.length=dotQ r N:=by
 unfold dotK
 rw[List.take_of_length_le (Nat.le_refl _),List.take_take,Nat.min_self,zkr]
theorem zeo{a b:List Fz}(hab:a.length=b.length){A B:Nat}(ha:∀x∈a,fsz x≤A)(hb:∀x∈b,fsz x≤B)(hA:1≤A)(hB:1≤B):∀i,i≤a.length→sz (dotK a b i)≤i*(A+B+1)+1
 | 0,_=>by
  have:dotK a b 0=0:=rfl
  rw[this,zg5];omega
 | i+1,hi=>by
  have ih:=zeo hab ha hb hA hB i (by omega)
  rw[zgv hab hi]
  have h1:=ztf (dotK a b i) (fv (a[i]'hi)*fv (b[i]'(by omega)))
  have h2:=zh5 (fv (a[i]'hi)) (fv (b[i]'(by omega)))
  have h3:=zi6 (ha _ (List.getElem_mem hi)) hA
  have h4:=zi6 (hb _ (List.getElem_mem (show i<b.length by omega))) hB
  grind
section
variable{T:Tbl}[CLimb T][CNat T][CProd T][CTwos T][CQuot T][CQuotD T][CWhole T][CCommon T][CFrac T][COrder2 T]
def hpBe(out:List Fz)(q:Rat):Heap:=[(.loc 5,⟨1,.own,3,rowF out⟩),(.loc 8,⟨2,.str,3,[celF (fz q)]⟩)]
def stBe(N:List Fz)(a:List (List Fz))(i:Nat)(out:List Fz)(r:List Fz)(j:Nat):St:=
 ⟨[(1,.sl (rowF N) .an),(5,.bs (.loc 5) 1 3 0 out.length),(8,.ptr (.loc 8) 2 3 0 0),(12,.sl (matF a) .an),(13,.i .i64 a.length),(14,.i .i64 i),(19,.sl (rowF r) .an),(20,.i .i64 r.length),(21,.i .i64 j)],
  hpBe out (dotK r (N.take r.length) j),4⟩
theorem zab9(N:List Fz)(a:List (List Fz))(i:Nat)(out r:List Fz)(hn:N.length≤8)(hrn:r.length≤N.length)(hr:∀x∈r,fsz x≤10)(hN:∀y∈N,fsz y≤3600) :
  loopN T 0 2 (.norm false [1,5,8,12,13,14]) l622_0 (stBe N a i out r 0) =
   some (.n,⟨[(1,.sl (rowF N) .an),(5,.bs (.loc 5) 1 3 0 out.length),(8,.ptr (.loc 8) 2 3 0 0),(12,.sl (matF a) .an),(13,.i .i64 a.length),(14,.i .i64 i)],hpBe out (dotQ r N),4⟩):=by
 refine za0 (stBe N a i out r) r.length _ (fun j hj=>?_) ?_
 ·have hab:r.length=(N.take r.length).length:=by simp;omega
  have hjN:j<N.length:=by omega
  have hjN':(j:Int)<N.length:=by omega
  have hjr':(j:Int)<r.length:=by omega
  have hws:=zda hj (by omega)
  have hb:∀y∈N.take r.length,fsz y≤3600:=fun y hy=>hN y (List.mem_of_mem_take hy)
  have ha1:=hr _ (List.getElem_mem hj)
  have hb1:=hN _ (List.getElem_mem hjN)
  have c1:=zej (T:=T) (r[j]'hj) (N[j]'hjN) (by omega) (by omega)
  have s1:=zeo hab hr hb (by omega) (by omega) j (by omega)
  have s3:=zh5 (fv (r[j]'hj)) (fv (N[j]'hjN))
  have s4:=zi6 ha1 (by omega)
  have s5:=zi6 hb1 (by omega)
  have c2:=zgn (T:=T) (fz (dotK r (N.take r.length) j)) (fz (fv (r[j]'hj)*fv (N[j]'hjN))) (by rw[zbg];omega) (by rw[zbg];omega)
  have e:=zgv hab hj
  rw[List.getElem_take]at e
  rw[zcw,zcw,←e]at c2
  unfold stBe hpBe
  generalize dotK r (N.take r.length) (j+1)=Q' at *
  generalize dotK r (N.take r.length) j=Q at *
  have e1:(rowF r)[j]? = some (celF (r[j]'hj)):=by simp[hj]
  simp -implicitDefEqProofs[l622_0,hj,hjr',hws,c1,c2,hjN,hjN']
 ·unfold stBe
  rw[zks]
  constructor<;>simp -implicitDefEqProofs[l622_0,hpBe]
def stBo(N:List Fz)(a:List (List Fz))(i:Nat):St:=
 ⟨[(1,.sl (rowF N) .an),(5,.bs (.loc 5) 1 3 0 (fzs (belQ (a.take i) N)).length),(12,.sl (matF a) .an),(13,.i .i64 a.length),(14,.i .i64 i)],[(.loc 5,⟨1,.own,3,rowF (fzs (belQ (a.take i) N))⟩)],3⟩
theorem z3r(N:List Fz)(a:List (List Fz))(ha:a.length≤8)(hn:N.length≤8)(hr:∀r∈a,r.length≤N.length∧∀x∈r,fsz x≤10)(hN:∀y∈N,fsz y≤3600) :
  loopN T 0 0 (.norm false [5]) l622_1 (stBo N a 0)=some (.n,⟨[(5,.bs (.loc 5) 1 3 0 a.length)],[(.loc 5,⟨1,.own,3,rowF (fzs (belQ a N))⟩)],3⟩):=by
 refine za0 (stBo N a) a.length _ (fun i hi=>?_) ?_
 ·have hiI:(i:Int)<a.length:=by omega
  have hws:=zda hi (by omega)
  have h0:=zcl (T:=T)
  obtain⟨h1,h2⟩:=hr _ (List.getElem_mem hi)
  have L:=zab9 (T:=T) N a i (fzs (belQ (a.take i) N)) (a[i]'hi) hn h1 h2 hN
  have hl:(fzs (belQ (a.take i) N)).length=i:=by simp[belQ];omega
  have hl2:(fzs (belQ (a.take (i+1)) N)).length=i+1:=by simp[belQ];omega
  have e:fzs (belQ (a.take (i+1)) N)=fzs (belQ (a.take i) N)++[fz (dotQ (a[i]'hi) N)]:=by
   rw[List.take_succ_eq_append_getElem hi]
   simp only[belQ,fzs,List.map_append,List.map_cons,List.map_nil]
  unfold stBe hpBe at L
  rw[show dotK (a[i]'hi) (N.take (a[i]'hi).length) 0=0 from rfl]at L
  unfold stBo
  rw[hl2,e]
  rw[hl]at L ⊢
  rw[show (((0:Nat):Int))=0 from rfl]at L
  have e1:(matF a)[i]? = some [.sl (rowF (a[i]'hi)) .an]:=by simp[hi]
  generalize fzs (belQ (a.take i) N)=O at *
  have hp:=zkz hl (fz (dotQ (a[i]'hi) N))
  have hc:i≤4294967295:=by omega
  have ht:O.take i=O:=List.take_of_length_le (by omega)
  rw[ht]at hp
  simp -implicitDefEqProofs[l622_1,hi,hiI,hws,h0,L,e1,hl,hc,ht,hp]
 ·have e:a.take a.length=a:=List.take_of_length_le (by omega)
  have hl:(fzs (belQ a N)).length=a.length:=by simp[belQ]
  unfold stBo
  rw[e,hl]
  constructor<;>simp -implicitDefEqProofs[l622_1]
theorem zma(s:Sm)(N:List Fz)(ha:s.a.length≤8)(hn:N.length≤8)(hr:∀r∈s.a,r.length≤N.length∧∀x∈r,fsz x≤10)(hN:∀y∈N,fsz y≤3600) :
  callF T 622 [esm s,.sl (rowF N) .an]=some (.sl (rowF (fzs (belQ s.a N))) .an):=by
 have L:=z3r (T:=T) N s.a ha hn hr hN
 have hl:(fzs (belQ s.a N)).length=s.a.length:=by simp[belQ]
 unfold stBo at L
 simp only[List.take_zero]at L
 rw[show fzs (belQ [] N)=[] from rfl,show (((0:Nat):Int))=0 from rfl]at L
 have ht:(fzs (belQ s.a N)).take s.a.length=fzs (belQ s.a N):=List.take_of_length_le (by omega)
 obtain⟨nm,C,M,B,E⟩:=s
 dsimp only at *
 rw[f622 _ rfl,b622]
 generalize fzs (belQ M N)=O at *
 simp only[List.length_nil,zet]at L
 simp -implicitDefEqProofs[L,hl,ht]
end
section
variable{T:Tbl}{k:Nat}
theorem zr2{id:Nat}{g2:Gh}{c:AX}(E:Nat→Env)(n:Nat)(P:Nat→Heap→Nat→Prop)(E':Env)(P':Heap→Nat→Prop)
  (step:∀j h q,j<n→P j h q→∃h' q',P (j+1) h' q'∧evX (orc T) T k c ⟨E j,h,q⟩=some (.n,⟨E (j+1),h',q'⟩))
  (fin:∀h q,P n h q→isEx (evX (orc T) T k c ⟨E n,h,q⟩)=true∧∃h' q',P' h' q'∧finX k id g2 (evX (orc T) T k c ⟨E n,h,q⟩)=some (.n,⟨E',h',q'⟩)) :
  ∀h q,P 0 h q→∃h' q',P' h' q'∧loopN T k id g2 c ⟨E 0,h,q⟩=some (.n,⟨E',h',q'⟩):=by
 intro h q hP
 obtain⟨r,⟨h',q',hP',rfl⟩,hr⟩:=zax (T:=T) (k:=k) (id:=id) (g2:=g2) (c:=c) (fun x:Nat×Heap×Nat=>⟨E x.1,x.2.1,x.2.2⟩)
  (fun x=>x.1≤n∧P x.1 x.2.1 x.2.2) (fun x=>n-x.1) (fun r=>∃h' q',P' h' q'∧r=(.n,⟨E',h',q'⟩)) (fun x hx=>by
   obtain⟨j,h,q⟩:=x
   obtain⟨h1,h2⟩:=hx
   by_cases hj:j<n
   ·obtain⟨h',q',h3,h4⟩:=step j h q hj h2
    exact .inl ⟨(j+1,h',q'),⟨hj,h3⟩,by dsimp only;omega,h4⟩
   ·have:j=n:=by dsimp only at h1;omega
    subst this
    obtain⟨h3,h',q',h4,h5⟩:=fin h q h2
    exact .inr ⟨_,⟨h',q',h4,rfl⟩,h3,h5⟩) (0,h,q) ⟨Nat.zero_le _,hP⟩
 exact⟨h',q',hP',hr⟩
end
abbrev smC'(s:Sm):List AV:=[.s s.nm,.sl (rowF s.c) .an,.sl (matF s.a) .an,.sl (rowF s.b) .an,.sl (rowF s.e) .an]
abbrev nlc:List AV:=[.b false,.sl [] .nl,.sl [] .nl]
structure BaWt (s:Sm) (c8:List AV) (h:Heap):Prop where
 b3:List.lookup (BId.loc 3) h=some ⟨1,.str,5,[smC' s]⟩
 b6:List.lookup (BId.loc 6) h=some ⟨2,.str,3,[nlc]⟩
 b8:List.lookup (BId.loc 8) h=some ⟨3,.str,3,[c8]⟩
def onesF(n:Nat):List Fz:=List.replicate n (fz 1)
structure PrW0 (s:Sm) (c8:List AV) (n i:Nat) (h0:Heap) (els0:List (List AV)) (g:Nat) (els:List (List AV)) (j:Nat) (h:Heap):Prop where
 ba:BaWt s c8 h
 bn:List.lookup (BId.loc 37) h=some ⟨4,.str,1,els⟩
 ln:els.length=n
 ei:els[i]? = some [.bs (.fld (.loc 37) i) g 3 0 j]
 bi:List.lookup (BId.fld (.loc 37) i) h=some ⟨g,.own,3,rowF (onesF j)⟩
 fr:∀p,p≠i→els[p]? = els0[p]?∧List.lookup (BId.fld (.loc 37) p) h=List.lookup (BId.fld (.loc 37) p) h0
section
variable{T:Tbl}[CLimb T][CNat T][CProd T][CTwos T][CQuot T][CQuotD T][CWhole T][CCommon T][CFrac T][COrder T][COrder2 T]
def EnW0(w:List Fz)(Q:List (List AV))(n i m j:Nat):Env:=
 [(1,.sl (rowF w) .an),(2,.sl Q .an),(3,.ptr (.loc 3) 1 5 0 0),(6,.ptr (.loc 6) 2 3 0 0),(8,.ptr (.loc 8) 3 3 0 0),(9,.bs (.loc 37) 4 1 0 n),(10,.i .i64 i),(39,.i .i64 n),(40,.i .i64 i),(45,.i .i64 m),(46,.i .i64 j)]
def EnW1(w:List Fz)(Q:List (List AV))(n i:Nat):Env:=
 [(1,.sl (rowF w) .an),(2,.sl Q .an),(3,.ptr (.loc 3) 1 5 0 0),(6,.ptr (.loc 6) 2 3 0 0),(8,.ptr (.loc 8) 3 3 0 0),(9,.bs (.loc 37) 4 1 0 n),(39,.i .i64 n),(40,.i .i64 i)]
theorem zyc(s:Sm)(c8:List AV)(w:List Fz)(Q:List (List AV))(n i m:Nat)(h0:Heap)(els0:List (List AV))(hi:i<n)(hn:n≤8)(hm:m≤8)(j:Nat)(h:Heap)(q:Nat)(hj:j<m)
  (hP:∃g els,PrW0 s c8 n i h0 els0 g els j h):∃h' q',(∃g els,PrW0 s c8 n i h0 els0 g els (j+1) h')∧evX (orc T) T 0 l617_0 ⟨EnW0 w Q n i m j,h,q⟩=some (.n,⟨EnW0 w Q n i m (j+1),h',q'⟩):=by
 obtain⟨g,els,⟨⟨b3,b6,b8⟩,bn,ln,ei,bi,fr⟩⟩:=hP
 have hiI:(i:Int)<n:=by omega
 have hjI:(j:Int)<m:=by omega
 have hws:=zda hj (by omega)
 have c1:=zil (T:=T)
 have hil:i<els.length:=by omega
 have ei':els[i]'hil=[.bs (.fld (.loc 37) i) g 3 0 j]:=by
  rw[List.getElem?_eq_getElem hil]at ei
  exact Option.some.inj ei
 have ei2:els[i]? = some (els[i]'hil):=List.getElem?_eq_getElem hil
 have hlo:(onesF j).length=j:=by simp[onesF]
 have hlt:(onesF j).take j=onesF j:=List.take_of_length_le (by omega)
 have hc:j≤4294967295:=by omega
 unfold EnW0
 have hlk:∀p,BId.fld (.loc 37) p≠.loc 37:=fun p=>by simp
 refine⟨(.loc 37,⟨4,.str,1,els.set i [.bs (.fld (.loc 37) i) q 3 0 (j+1)]⟩)::(.fld (.loc 37) i,⟨q,.own,3,rowF (onesF (j+1))⟩)::h,q+1,⟨q,els.set i [.bs (.fld (.loc 37) i) q 3 0 (j+1)],⟨⟨?_,?_,?_⟩,?_,?_,?_,?_,?_⟩⟩,?_⟩
 ·simpa using b3
 ·simpa using b6
 ·simpa using b8
 ·simp
 ·simpa using ln
 ·exact List.getElem?_set_self hil
 ·simp
 ·intro p hp
  rw[List.getElem?_set_ne (fun e=>hp e.symm)]
  refine⟨(fr p hp).1,?_⟩
  rw[zam _ _ (hlk p),zam _ _ (by simpa using hp)]
  exact(fr p hp).2
 ·have e:rowF (onesF (j+1))=rowF (onesF j)++[celF (fz 1)]:=by
   rw[zg6]
   congr 1
   simp[onesF,List.replicate_succ']
  rw[e]
  simp -implicitDefEqProofs[l617_0,hjI,hj,hws,c1,hi,hiI,b3,b6,b8,bn,ln,ei',ei2,bi,hil,hlo,hlt,hc]
theorem zaca(s:Sm)(c8:List AV)(w:List Fz)(Q:List (List AV))(hwQ:wkL Q=Q)(n i m:Nat)(h0:Heap)(els0:List (List AV))(hi:i<n)(hn:n≤8)(hm:m≤8)(h:Heap)(q:Nat)(hP:∃g els,PrW0 s c8 n i h0 els0 g els 0 h) :
  ∃h' q',(∃g els,PrW0 s c8 n i h0 els0 g els m h')∧loopN T 0 2 (.trm [1,2,3,6,8,9,39,40]) l617_0 ⟨EnW0 w Q n i m 0,h,q⟩=some (.n,⟨EnW1 w Q n i,h',q'⟩):=by
 refine zr2 (EnW0 w Q n i m) m (fun j h _=>∃g els,PrW0 s c8 n i h0 els0 g els j h) (EnW1 w Q n i) (fun h _=>∃g els,PrW0 s c8 n i h0 els0 g els m h) (fun j h q hj hP=>zyc s c8 w Q n i m h0 els0 hi hn hm j h q hj hP) (fun h q hP=>?_) h q hP
 unfold EnW0 EnW1
 refine⟨?_,h,q,hP,?_⟩<;>simp -implicitDefEqProofs[l617_0]
structure PrW1 (s:Sm) (c8:List AV) (n m:Nat) (kd:Kind) (els:List (List AV)) (i:Nat) (h:Heap):Prop where
 ba:BaWt s c8 h
 bn:List.lookup (BId.loc 37) h=some ⟨4,kd,1,els⟩
 ks:kd≠.sh
 kt:0<i→kd=.str
 ln:els.length=n
 lo:∀p,p<i→∃g,els[p]? = some [.bs (.fld (.loc 37) p) g 3 0 m]∧List.lookup (BId.fld (.loc 37) p) h=some ⟨g,.own,3,rowF (onesF m)⟩
 hi:∀p,i≤p→p<n→els[p]? = some [.sl [] .nl]∧List.lookup (BId.fld (.loc 37) p) h=none
theorem zyd(s:Sm)(c8:List AV)(w:List Fz)(Q:List (List AV))(hwQ:wkL Q=Q)(n:Nat)(hn:n≤8)(hm:s.b.length≤8)(i:Nat)(h:Heap)(q:Nat)(hi:i<n)
  (hP:∃kd els,PrW1 s c8 n s.b.length kd els i h):∃h' q',(∃kd els,PrW1 s c8 n s.b.length kd els (i+1) h')∧evX (orc T) T 0 l617_1 ⟨EnW1 w Q n i,h,q⟩=some (.n,⟨EnW1 w Q n (i+1),h',q'⟩):=by
 obtain⟨kd,els,⟨⟨b3,b6,b8⟩,bn,ks,kt,ln,lo,hi'⟩⟩:=hP
 have hiI:(i:Int)<n:=by omega
 have hws:=zda hi (by omega)
 have hil:i<els.length:=by omega
 obtain⟨ei,bi⟩:=hi' i (Nat.le_refl _) hi
 have ei':els[i]'hil=[.sl [] .nl]:=by
  rw[List.getElem?_eq_getElem hil]at ei
  exact Option.some.inj ei
 have ei2:els[i]? = some (els[i]'hil):=List.getElem?_eq_getElem hil
 have hlk:∀p,BId.fld (.loc 37) p≠.loc 37:=fun p=>by simp
 obtain⟨h',q',⟨g,els',⟨⟨b3',b6',b8'⟩,bn',ln',ei1,bi',fr⟩⟩,L⟩:=zaca (T:=T) s c8 w Q hwQ n i s.b.length h els hi hn hm
  ((.loc 37,⟨4,.str,1,els.set i [.bs (.fld (.loc 37) i) q 3 0 0]⟩)::(.fld (.loc 37) i,⟨q,.own,3,[]⟩)::h) (q+1)
  ⟨q,els.set i [.bs (.fld (.loc 37) i) q 3 0 0],⟨⟨by simpa using b3,by simpa using b6,by simpa using b8⟩,by simp,by simpa using ln,List.getElem?_set_self hil,by simp[onesF],fun p hp=>⟨List.getElem?_set_ne (fun e=>hp e.symm),by
   rw[zam _ _ (hlk p),zam _ _ (by simpa using hp)]⟩⟩⟩
 refine⟨h',q',⟨.str,els',⟨⟨b3',b6',b8'⟩,bn',by decide,fun _=>rfl,ln',fun p hp=>?_,fun p h1 h2=>?_⟩⟩,?_⟩
 ·by_cases hpi:p=i
  ·subst hpi
   exact⟨g,ei1,bi'⟩
  ·obtain⟨g',h1,h2⟩:=lo p (by omega)
   obtain⟨h3,h4⟩:=fr p hpi
   exact⟨g',by rw[h3,h1],by rw[h4,h2]⟩
 ·obtain⟨h3,h4⟩:=fr p (by omega)
  obtain⟨h5,h6⟩:=hi' p (by omega) h2
  exact⟨by rw[h3,h5],by rw[h4,h6]⟩
 ·unfold EnW0 EnW1 at L
  unfold EnW1
  obtain⟨nm,C,M,B,E⟩:=s
  dsimp only at *
  rw[show (((0:Nat):Int))=0 from rfl]at L
  simp -implicitDefEqProofs[l617_1,hi,hiI,hws,b3,b6,b8,bn,ln,ei',ei2,bi,hil,ks,L]
theorem zacb(s:Sm)(c8:List AV)(w:List Fz)(Q:List (List AV))(hwQ:wkL Q=Q)(n:Nat)(hn:n≤8)(hm:s.b.length≤8)(h:Heap)(q:Nat)(hP:∃kd els,PrW1 s c8 n s.b.length kd els 0 h) :
  ∃h' q',(∃kd els,PrW1 s c8 n s.b.length kd els n h')∧loopN T 0 0 (.trm [1,2,3,6,8,9]) l617_1 ⟨EnW1 w Q n 0,h,q⟩=some (.n,⟨[(1,.sl (rowF w) .an),(2,.sl Q .an),(3,.ptr (.loc 3) 1 5 0 0),(6,.ptr (.loc 6) 2 3 0 0),(8,.ptr (.loc 8) 3 3 0 0),(9,.bs (.loc 37) 4 1 0 n)],h',q'⟩):=by
 refine zr2 (EnW1 w Q n) n (fun j h _=>∃kd els,PrW1 s c8 n s.b.length kd els j h) _ (fun h _=>∃kd els,PrW1 s c8 n s.b.length kd els n h) (fun j h q hj hP=>zyd s c8 w Q hwQ n hn hm j h q hj hP) (fun h q hP=>?_) h q hP
 unfold EnW1
 refine⟨?_,h,q,hP,?_⟩<;>simp -implicitDefEqProofs[l617_1]
end
def mulR(u v:List Rat):List Rat:=List.zipWith (fun p q=>p*q) u v
def wtS(a:List (List Fz))(t:List Nat)(i:Nat)(N:List (List Rat)):List (List Rat):=
 N.set (parN t i) (mulR (N[parN t i]?.getD []) (belQ a (fzs (N[i]?.getD []))))
def wtJ(a:List (List Fz))(t:List Nat)(m:Nat):Nat→List (List Rat)
 | 0=>List.replicate t.length (List.replicate m 1)
 | j+1=>wtS a t (t.length-1-j) (wtJ a t m j)
def row0(N:List (List Rat)):List Rat:=N[0]?.getD []
def wtQ(a:List (List Fz))(t:List Nat)(m:Nat)(w:List Fz):Rat:=dotQ w (fzs (row0 (wtJ a t m (t.length-1))))
abbrev rwN(N:List (List Rat))(p:Nat):List Rat:=N[p]?.getD []
structure PrW2 (s:Sm) (c8:List AV) (n m:Nat) (els:List (List AV)) (N:List (List Rat)) (i:Nat) (h:Heap):Prop where
 ba:BaWt s c8 h
 bn:List.lookup (BId.loc 37) h=some ⟨4,.str,1,els⟩
 ln:els.length=n
 ro:∀p,p<n→∃g kd,els[p]? = some [.bs (.fld (.loc 37) p) g 3 0 m]∧List.lookup (BId.fld (.loc 37) p) h=some ⟨g,kd,3,rowF (fzs (rwN N p))⟩∧kd≠.str∧(p≤i→kd=.own)
structure PrW6 (s:Sm) (c8:List AV) (p g:Nat) (L u:List Rat) (h0:Heap) (k:Nat) (h:Heap):Prop where
 ba:BaWt s c8 h
 fr:∀b,b=.loc 37∨(∃p',p'≠p∧b=.fld (.loc 37) p')→List.lookup b h=List.lookup b h0
 bp:List.lookup (BId.fld (.loc 37) p) h=some ⟨g,.own,3,rowF (fzs (L.take k++u.drop k))⟩
section
variable{T:Tbl}[CLimb T][CNat T][CProd T][CTwos T][CQuot T][CQuotD T][CWhole T][CCommon T][CFrac T][COrder T][COrder2 T]
def EnW6(w:List Fz)(Q:List (List AV))(n i p g m:Nat)(x:List Rat)(k:Nat):Env:=
 [(1,.sl (rowF w) .an),(2,.sl Q .an),(3,.ptr (.loc 3) 1 5 0 0),(6,.ptr (.loc 6) 2 3 0 0),(8,.ptr (.loc 8) 3 3 0 0),(9,.bs (.loc 37) 4 1 0 n),(11,.i .i64 i),(12,.bs (.fld (.loc 37) p) g 3 0 m),(78,.sl (rowF (fzs x)) .an),(79,.i .i64 x.length),(80,.i .i64 k)]
def EnW3(w:List Fz)(Q:List (List AV))(n:Nat)(i:Nat):Env:=
 [(1,.sl (rowF w) .an),(2,.sl Q .an),(3,.ptr (.loc 3) 1 5 0 0),(6,.ptr (.loc 6) 2 3 0 0),(8,.ptr (.loc 8) 3 3 0 0),(9,.bs (.loc 37) 4 1 0 n),(11,.i .i64 i)]
theorem zacc(s:Sm)(c8:List AV)(w:List Fz)(Q:List (List AV))(hwQ:wkL Q=Q)(n i p g m:Nat)(x u:List Rat)(hx:x.length=m)(hu:u.length=m)(hm:m≤8)
  (sx:∀q∈x,sz q≤30000) (su:∀q∈u,sz q≤30000) (h0 h:Heap) (q:Nat) (hP:PrW6 s c8 p g (mulR u x) u h0 0 h) :
  ∃h' q',PrW6 s c8 p g (mulR u x) u h0 m h'∧loopN T 0 6 (.trm [1,2,3,6,8,9,11]) l617_2 ⟨EnW6 w Q n i p g m x 0,h,q⟩=some (.n,⟨EnW3 w Q n i,h',q'⟩):=by
 refine zr2 (EnW6 w Q n i p g m x) m (fun k h _=>PrW6 s c8 p g (mulR u x) u h0 k h) (EnW3 w Q n i) (fun h _=>PrW6 s c8 p g (mulR u x) u h0 m h) (fun k h q hk hP=>?_) (fun h q hP=>?_) h q hP
 ·obtain⟨⟨b3,b6,b8⟩,fr,bp⟩:=hP
  have hkI:(k:Int)<m:=by omega
  have hws:=zda hk (by omega)
  have hlu:(mulR u x).length=u.length:=by simp[mulR];omega
  have g1:=zyo (L:=mulR u x) (acc:=u) hlu (i:=k) (by omega)
  have g2:=zu9 (L:=mulR u x) (acc:=u) hlu (i:=k) (by omega)
  have hul:k<u.length:=by omega
  have hxl:k<x.length:=by omega
  have em:(mulR u x)[k]'(by omega)=u[k]'hul*x[k]'hxl:=by simp[mulR]
  have hll:((mulR u x).take k++u.drop k).length=m:=by simp;omega
  have c1:=zej (T:=T) (fz (u[k]'hul)) (fz (x[k]'hxl)) (by rw[zbg];exact su _ (List.getElem_mem _)) (by rw[zbg];exact sx _ (List.getElem_mem _))
  rw[zcw,zcw,←em]at c1
  have f1:=zsd g1
  have f2:(fzs x)[k]? = some (fz (x[k]'hxl)):=zsd (List.getElem?_eq_getElem hxl)
  have f3:=zyp ((mulR u x).take k++u.drop k) k ((mulR u x)[k]'(by omega))
  rw[g2]at f3
  have hlf:(fzs ((mulR u x).take k++u.drop k)).length=m:=by rw[zat,hll]
  have hlx:(fzs x).length=m:=by rw[zat,hx]
  refine⟨(.fld (.loc 37) p,⟨g,.own,3,rowF (fzs ((mulR u x).take (k+1)++u.drop (k+1)))⟩)::(.loc 14,⟨q,.str,3,[celF (fz (x[k]'hxl))]⟩)::(.loc 14,⟨q,.str,3,[nlc]⟩)::h,q+1,⟨⟨?_,?_,?_⟩,?_,?_⟩,?_⟩
  ·simpa using b3
  ·simpa using b6
  ·simpa using b8
  ·intro b hb
   have h1:b≠.fld (.loc 37) p:=by
    rcases hb with rfl | ⟨p',hp,rfl⟩
    ·simp
    ·simpa using hp
   have h2:b≠.loc 14:=by
    rcases hb with rfl | ⟨p',hp,rfl⟩<;>simp
   rw[zam _ _ h1,zam _ _ h2,zam _ _ h2]
   exact fr b hb
  ·simp
  ·unfold EnW6
   rw[hx,←f3,←zvo]
   have f1':(rowF (fzs ((mulR u x).take k++u.drop k)))[k]? = some (celF (fz (u[k]'hul))):=by rw[rowF_get?,f1];rfl
   have f2':(rowF (fzs x))[k]? = some (celF (fz (x[k]'hxl))):=by rw[rowF_get?,f2];rfl
   have hlf':(rowF (fzs ((mulR u x).take k++u.drop k))).length=m:=by rw[zbx,hlf]
   have hlx':(rowF (fzs x)).length=m:=by rw[zbx,hlx]
   generalize (mulR u x)[k]'(by omega)=z at *
   generalize rowF (fzs ((mulR u x).take k++u.drop k))=R at *
   have hwx:wkL (rowF (fzs x))=rowF (fzs x):=zfc _
   generalize rowF (fzs x)=X at *
   generalize u[k]'hul=uk at *
   generalize x[k]'hxl=xk at *
   obtain⟨j0,a0⟩:=List.getElem?_eq_some_iff.1 f1'
   obtain⟨j1,a1⟩:=List.getElem?_eq_some_iff.1 f2'
   have q0:=List.getElem?_eq_getElem j0
   have q1:=List.getElem?_eq_getElem j1
   simp -implicitDefEqProofs[l617_2,hk,hkI,hws,c1,b3,b6,b8,bp,a0,a1,q0,q1,hlf',hlx',hwx,hwQ,j0]
 ·unfold EnW6 EnW3
  refine⟨?_,h,q,hP,?_⟩<;>simp -implicitDefEqProofs[l617_2,hx]
end
structure NOk (N:List (List Rat)) (n m:Nat):Prop where
 l:N.length=n
 r:∀p,p<n→(rwN N p).length=m∧∀q∈rwN N p,sz q≤3600
theorem zye{a:List (List Fz)}{N:List Fz}(hn:N.length≤8)(hr:∀r∈a,r.length≤N.length∧∀x∈r,fsz x≤10)(hN:∀y∈N,fsz y≤3600):∀q∈belQ a N,sz q≤30000:=by
 intro q hq
 obtain⟨r,h1,rfl⟩:=List.mem_map.1 hq
 obtain⟨h2,h3⟩:=hr r h1
 have h:=zeo (a:=r) (b:=N.take r.length) (by simp;omega) h3 (fun y hy=>hN y (List.mem_of_mem_take hy)) (by omega) (by omega) r.length (Nat.le_refl _)
 rw[zks]at h
 have:r.length*(10+3600+1)≤8*(10+3600+1):=Nat.mul_le_mul_right _ (by omega)
 omega
section
variable{T:Tbl}[CLimb T][CNat T][CProd T][CTwos T][CQuot T][CQuotD T][CWhole T][CCommon T][CFrac T][COrder T][COrder2 T]
theorem zyf(s:Sm)(c8:List AV)(w:List Fz)(t:List Nat)(ht:TrOk t)(m:Nat)(hm:m≤8)(ha:s.a.length=m)(hr:∀r∈s.a,r.length≤m∧∀x∈r,fsz x≤10)
  (N:List (List Rat)) (hN:NOk N t.length m) (els:List (List AV)) (i:Nat) (hi:i+1<t.length) (h:Heap) (q:Nat) (hP:PrW2 s c8 t.length m els N (i+1) h) :
  ∃h' q',PrW2 s c8 t.length m els (wtS s.a t (i+1) N) i h'∧evX (orc T) T 0 l617_3 ⟨EnW3 w (intsN t) t.length (i+1),h,q⟩=some (.n,⟨EnW3 w (intsN t) t.length i,h',q'⟩):=by
 obtain⟨⟨b3,b6,b8⟩,bn,ln,ro⟩:=hP
 have l8:=ht.l8
 obtain⟨p1,c1⟩:=zgs (T:=T) ht (i:=i+1) (by omega) hi
 unfold wtS
 generalize parN t (i+1)=p at *
 have hpl:p<t.length:=by omega
 have hpI:(p:Int)<t.length:=by omega
 have hiI:(i:Int)+1<t.length:=by omega
 obtain⟨gi,ki,ei,bi,nki,oki⟩:=ro (i+1) hi
 obtain⟨gp,kp,ep,bp,nkp,okp⟩:=ro p hpl
 have hki:=oki (Nat.le_refl _)
 have hkp:=okp (by omega)
 subst hki hkp
 obtain⟨ui,si⟩:=hN.r (i+1) hi
 obtain⟨up,sp⟩:=hN.r p hpl
 have hlN:(fzs (rwN N (i+1))).length=m:=by rw[zat,ui]
 have hNs:∀y∈fzs (rwN N (i+1)),fsz y≤3600:=by
  intro y hy
  obtain⟨z,hz,rfl⟩:=List.mem_map.1 hy
  exact si z hz
 have hr':∀r∈s.a,r.length≤(fzs (rwN N (i+1))).length∧∀x∈r,fsz x≤10:=fun r hh=>by rw[hlN];exact hr r hh
 have c2:=zma (T:=T) s (fzs (rwN N (i+1))) (by omega) (by omega) hr' hNs
 have sx:=zye (by omega) hr' hNs
 have lx:(belQ s.a (fzs (rwN N (i+1)))).length=m:=by simp[belQ,ha]
 rw[show (N[i+1]?.getD [])=rwN N (i+1) from rfl,show (N[p]?.getD [])=rwN N p from rfl]
 generalize belQ s.a (fzs (rwN N (i+1)))=x at *
 obtain⟨h2,hh2⟩:∃h2,shareIds [BId.fld (.loc 37) (i+1)] h=h2:=⟨_,rfl⟩
 have hlk:∀b,List.lookup b h2=(List.lookup b h).map fun bx=>if [BId.fld (.loc 37) (i+1)].contains b then { bx with kind:=.sh } else bx:=fun b=>by rw[←hh2];exact zce _ _ _
 have k3:List.lookup (BId.loc 3) h2=some ⟨1,.str,5,[smC' s]⟩:=by rw[hlk,b3];rfl
 have k6:List.lookup (BId.loc 6) h2=some ⟨2,.str,3,[nlc]⟩:=by rw[hlk,b6];rfl
 have k8:List.lookup (BId.loc 8) h2=some ⟨3,.str,3,[c8]⟩:=by rw[hlk,b8];rfl
 have kn:List.lookup (BId.loc 37) h2=some ⟨4,.str,1,els⟩:=by rw[hlk,bn];rfl
 have ki:List.lookup (BId.fld (.loc 37) (i+1)) h2=some ⟨gi,.sh,3,rowF (fzs (rwN N (i+1)))⟩:=by rw[hlk,bi];simp
 have kpp:List.lookup (BId.fld (.loc 37) p) h2=some ⟨gp,.own,3,rowF (fzs (rwN N p))⟩:=by
  rw[hlk,bp]
  have:¬ p=i+1:=by omega
  simp[this]
 obtain⟨h',q',⟨⟨b3',b6',b8'⟩,fr,bp'⟩,L⟩:=zacc (T:=T) s c8 w (intsN t) (zao t) t.length (i+1) p gp m x (rwN N p) lx up hm sx (fun z hz=>Nat.le_trans (sp z hz) (by decide)) h2 h2 q
  ⟨⟨k3,k6,k8⟩,fun b _=>rfl,by simpa using kpp⟩
 have hLm:(mulR (rwN N p) x).length=m:=by simp[mulR,up,lx]
 rw[List.take_of_length_le (by omega),List.drop_of_length_le (by omega),List.append_nil]at bp'
 refine⟨h',q',⟨⟨b3',b6',b8'⟩,by rw[fr _ (.inl rfl),kn],ln,fun p' hp'=>?_⟩,?_⟩
 ·by_cases hpp:p'=p
  ·subst hpp
   refine⟨gp,.own,ep,?_,by decide,fun _=>rfl⟩
   rw[bp']
   have:rwN (N.set p' (mulR (rwN N p') x)) p'=mulR (rwN N p') x:=by
    unfold rwN
    rw[List.getElem?_set_self (by rw[hN.l];exact hp')]
    rfl
   rw[this]
  ·obtain⟨g,kd,e1,e2,e3,e4⟩:=ro p' hp'
   have e5:rwN (N.set p (mulR (rwN N p) x)) p'=rwN N p':=by
    unfold rwN
    rw[List.getElem?_set_ne (fun e=>hpp e.symm)]
   rw[e5,fr _ (.inr ⟨p',hpp,rfl⟩),hlk,e2]
   by_cases hpi:p'=i+1
   ·subst hpi
    exact⟨g,.sh,e1,by simp,by decide,fun hh=>by omega⟩
   ·exact⟨g,kd,e1,by simp[hpi],e3,fun hh=>e4 (by omega)⟩
 ·have hil:i+1<els.length:=by omega
  have hpel:p<els.length:=by omega
  have ei':els[i+1]'hil=[.bs (.fld (.loc 37) (i+1)) gi 3 0 m]:=by
   rw[List.getElem?_eq_getElem hil]at ei
   exact Option.some.inj ei
  have ei2:els[i+1]? = some (els[i+1]'hil):=List.getElem?_eq_getElem hil
  have ep':els[p]'hpel=[.bs (.fld (.loc 37) p) gp 3 0 m]:=by
   rw[List.getElem?_eq_getElem hpel]at ep
   exact Option.some.inj ep
  have ep2:els[p]? = some (els[p]'hpel):=List.getElem?_eq_getElem hpel
  have hpos:(0:Int)<(i:Int)+1:=by omega
  have hw:IntKind.wrap .i64 (i:Int)=i:=zab _ (by omega)
  have hwQ:=zao t
  have hlx:(rowF (fzs x)).length=m:=by rw[zbx,zat,lx]
  have hlNi:(rowF (fzs (rwN N (i+1)))).length=m:=by rw[zbx,hlN]
  have htk:List.take m (rowF (fzs (rwN N (i+1))))=rowF (fzs (rwN N (i+1))):=List.take_of_length_le (by omega)
  have hwN:wkL (rowF (fzs (rwN N (i+1))))=rowF (fzs (rwN N (i+1))):=zfc _
  have hwx:wkL (rowF (fzs x))=rowF (fzs x):=zfc _
  have s0:shareIds [] h=h:=rfl
  unfold EnW6 EnW3 at L
  unfold EnW3
  rw[lx]at L
  obtain⟨nm,C,M,B,E⟩:=s
  dsimp only at *
  rw[show (((0:Nat):Int))=0 from rfl]at L
  simp only[Int.natCast_add,Int.natCast_one]at L c1 ⊢
  generalize intsN t=Q at *
  generalize rowF (fzs (rwN N (i+1)))=RI at *
  generalize rowF (fzs x)=X at *
  simp -implicitDefEqProofs[-shareIds,s0,hh2,l617_3,c1,c2,hi,hiI,hpl,hpI,hpos,hw,hwQ,b3,b6,b8,bn,k3,k6,k8,kn,ki,bi,ln,ei',ei2,ep',ep2,hil,hpel,hlx,hlNi,htk,hwN,hwx,L,zt8 COrder2.h622]
end
theorem z3s(k:Nat):k+1≤2^k:=by
 induction k with
 | zero=>decide
 | succ k ih=>rw[Nat.pow_succ];omega
theorem znn(C B E:Nat)(hB:B+2≤C):∀(r N:List Fz) (k:Nat),(∀x∈r,sz (fv x)≤B)→(∀j y,N[j]? = some y→sz (fv y)≤1+C*2^(j+k)*E) →
  sz (dotQ r N)≤1+C*r.length+C*(2^(r.length+k)-2^k)*E
 | [],N,k,_,_=>by
  have:dotQ [] N=0:=rfl
  rw[this,zg5]
  omega
 | x::r,[],k,_,_=>by
  have:dotQ (x::r) []=0:=rfl
  rw[this,zg5]
  omega
 | x::r,y::N,k,h1,h2=>by
  have ih:=znn C B E hB r N (k+1) (fun z hz=>h1 z (List.mem_cons_of_mem _ hz)) (fun j z hz=>by
   have:=h2 (j+1) z (by simpa using hz)
   rwa [show j+1+k=j+(k+1) by omega]at this)
  have h3:=h1 x (List.mem_cons_self ..)
  have h4:=h2 0 y rfl
  have h5:=ztf (fv x*fv y) (dotQ r N)
  have h6:=zh5 (fv x) (fv y)
  have e:dotQ (x::r) (y::N)=fv x*fv y+dotQ r N:=rfl
  rw[e,List.length_cons]
  rw[Nat.zero_add]at h4
  have e2:r.length+(k+1)=r.length+1+k:=by omega
  rw[e2]at ih
  have hp:2^(k+1)≤2^(r.length+1+k):=Nat.pow_le_pow_right (by decide) (by omega)
  have hq:2^(k+1)=2*2^k:=by rw[Nat.pow_succ];omega
  obtain⟨u,hu⟩:∃u,2^(r.length+1+k)=u+2^(k+1):=⟨2^(r.length+1+k)-2^(k+1),by omega⟩
  have e3:2^(r.length+1+k)-2^(k+1)=u:=by omega
  have e4:2^(r.length+1+k)-2^k=u+2^k:=by omega
  rw[e3]at ih
  rw[e4]
  have e5:C*(u+2^k)*E=C*u*E+C*2^k*E:=by rw[Nat.mul_add,Nat.add_mul]
  rw[e5,Nat.mul_add]
  omega
theorem zu0{u v:List Rat}{k:Nat}{q:Rat}(h:(mulR u v)[k]? = some q):∃a b,u[k]? = some a∧v[k]? = some b∧q=a*b:=by
 unfold mulR at h
 rw[List.getElem?_zipWith]at h
 cases hu:u[k]? with
 | none=>simp[hu]at h
 | some a=>
  cases hv:v[k]? with
  | none=>simp[hu,hv]at h
  | some b=>simp[hu,hv]at h;exact⟨a,b,rfl,rfl,h.symm⟩
theorem z3t{a:List (List Fz)}{t:List Nat}(ht:TrOk t)(m:Nat)(ha:a.length=m)(hr:∀(k:Nat) (r:List Fz),a[k]? = some r→r.length=k∧∀x∈r,fsz x≤2) :
  ∀j,j<t.length→(wtJ a t m j).length=t.length∧∀p,p<t.length→(rwN (wtJ a t m j) p).length=m ∧
   ∀k q,(rwN (wtJ a t m j) p)[k]? = some q→sz q≤1+4*2^k*((denJ t j).1[p]?.getD 0):=by
 intro j
 induction j with
 | zero=>
  intro _
  refine⟨by simp[wtJ],fun p hp=>?_⟩
  have e:rwN (wtJ a t m 0) p=List.replicate m 1:=by
   unfold rwN
   rw[wtJ,List.getElem?_replicate,if_pos hp]
   rfl
  rw[e]
  refine⟨by simp,fun k q hq=>?_⟩
  have:q=1:=List.eq_of_mem_replicate (List.mem_of_getElem? hq)
  subst this
  rw[znx]
  omega
 | succ j ih=>
  intro hj
  obtain⟨h1,h2⟩:=ih (by omega)
  obtain⟨d1,d2,d3⟩:=ht.dj j (by omega)
  have en:denJ t (j+1)=denS t (t.length-1-j) (denJ t j):=rfl
  rw[en,wtJ]
  unfold wtS denS
  obtain⟨i,hi⟩:∃i,i=t.length-1-j:=⟨_,rfl⟩
  rw[←hi]
  have hil:i<t.length:=by omega
  have hi0:0<i:=by omega
  have hpo:=ht.p i hi0 hil
  simp only[parOk,Bool.and_eq_true,decide_eq_true_eq]at hpo
  have p1:=hpo.1.1.2
  dsimp only
  rw[if_pos hi0]
  generalize parN t i=p at *
  generalize wtJ a t m j=N at *
  generalize (denJ t j).1=D at *
  rw[show (N[i]?.getD [])=rwN N i from rfl,show (N[p]?.getD [])=rwN N p from rfl]
  obtain⟨li,zi⟩:=h2 i hil
  obtain⟨lp,zp⟩:=h2 p (by omega)
  obtain⟨y,hy⟩:∃y,D[i]? = some y:=⟨D[i]'(by omega),List.getElem?_eq_getElem _⟩
  obtain⟨z,hz⟩:∃z,D[p]? = some z:=⟨D[p]'(by omega),List.getElem?_eq_getElem _⟩
  rw[hy]at zi ⊢
  rw[hz]at zp
  simp only[Option.getD_some]at zi zp ⊢
  have hz2:(D.set i (y+1))[p]? = some z:=by rw[List.getElem?_set_ne (by omega)];exact hz
  rw[hz2,Option.getD_some]
  refine⟨by simpa using h1,fun p' hp'=>?_⟩
  by_cases hpp:p'=p
  ·subst hpp
   have e1:rwN (N.set p' (mulR (rwN N p') (belQ a (fzs (rwN N i))))) p'=mulR (rwN N p') (belQ a (fzs (rwN N i))):=by
    unfold rwN
    rw[List.getElem?_set_self (by omega)]
    rfl
   have e2:((D.set i (y+1)).set p' (z+(y+1)))[p']? = some (z+(y+1)):=List.getElem?_set_self (by simp;omega)
   rw[e1,e2,Option.getD_some]
   refine⟨by simp[mulR,belQ,lp,ha],fun k q hq=>?_⟩
   obtain⟨u,v,hu,hv,rfl⟩:=zu0 hq
   have hu:=zp k u hu
   have hm:=zh5 u v
   obtain⟨r,hr1,rfl⟩:∃r,a[k]? = some r∧dotQ r (fzs (rwN N i))=v:=by
    unfold belQ at hv
    rw[List.getElem?_map]at hv
    cases har:a[k]? with
    | none=>simp[har]at hv
    | some r=>simp[har]at hv;exact⟨r,rfl,hv⟩
   obtain⟨hr2,hr3⟩:=hr k r hr1
   have hs:=znn 4 2 y (by decide) r (fzs (rwN N i)) 0 (fun x hx=>zi6 (hr3 x hx) (by decide)) (fun l x hx=>by
    unfold fzs at hx
    rw[List.getElem?_map]at hx
    cases hl:(rwN N i)[l]? with
    | none=>simp[hl]at hx
    | some q=>simp[hl]at hx;rw[←hx,zcw,Nat.add_zero];exact zi l q hl)
   rw[hr2,Nat.add_zero,Nat.pow_zero]at hs
   have hk:=z3s k
   obtain⟨w,hw⟩:∃w,2^k=w+1:=⟨2^k-1,by omega⟩
   rw[hw,Nat.add_sub_cancel]at hs
   rw[hw]at hu hk ⊢
   have e3:4*(w+1)*(z+(y+1))=4*(w+1)*z+4*w*y+4*y+4*(w+1):=by
    rw[Nat.mul_add,Nat.mul_add (4*(w+1)) y 1,Nat.mul_add 4 w 1,Nat.add_mul (4*w) (4*1) y]
    omega
   rw[e3]
   generalize 4*(w+1)*z=U at *
   generalize 4*w*y=V at *
   omega
  ·have e1:rwN (N.set p (mulR (rwN N p) (belQ a (fzs (rwN N i))))) p'=rwN N p':=by
    unfold rwN
    rw[List.getElem?_set_ne (fun e=>hpp e.symm)]
   rw[e1,List.getElem?_set_ne (fun e=>hpp e.symm)]
   obtain⟨lp',zp'⟩:=h2 p' hp'
   refine⟨lp',fun k q hq=>?_⟩
   have h:=zp' k q hq
   by_cases hpi:p'=i
   ·subst hpi
    rw[List.getElem?_set_self (by omega),Option.getD_some]
    rw[hy,Option.getD_some]at h
    have:4*2^k*y≤4*2^k*(y+1):=Nat.mul_le_mul_left _ (by omega)
    omega
   ·rw[List.getElem?_set_ne (fun e=>hpi e.symm)]
    exact h
theorem zr3{a:List (List Fz)}{t:List Nat}(ht:TrOk t)(m:Nat)(hm:m≤7)(ha:a.length=m)(hr:∀(k:Nat) (r:List Fz),a[k]? = some r→r.length=k∧∀x∈r,fsz x≤2)(j:Nat)(hj:j<t.length):NOk (wtJ a t m j) t.length m:=by
 obtain⟨h1,h2⟩:=z3t ht m ha hr j hj
 obtain⟨d1,d2,d3⟩:=ht.dj j (by omega)
 refine⟨h1,fun p hp=>?_⟩
 obtain⟨h3,h4⟩:=h2 p hp
 refine⟨h3,fun q hq=>?_⟩
 obtain⟨k,hk,rfl⟩:=List.getElem_of_mem hq
 have h:=h4 k _ (List.getElem?_eq_getElem hk)
 have hd:(denJ t j).1[p]?.getD 0≤8:=by
  rw[List.getElem?_eq_getElem (by omega),Option.getD_some]
  exact d1 _ (List.getElem_mem _)
 have h5:2^k≤2^6:=Nat.pow_le_pow_right (by decide) (by omega)
 have h6:4*2^k*((denJ t j).1[p]?.getD 0)≤4*2^6*8:=Nat.mul_le_mul (by omega) hd
 omega
end Go.Ab
namespace Go.Ab
structure PrW8 (n m:Nat) (w:List Fz) (r:List Rat) (k:Nat) (h:Heap):Prop where
 b6:List.lookup (BId.loc 6) h=some ⟨2,.str,3,[nlc]⟩
 b8:List.lookup (BId.loc 8) h=some ⟨3,.str,3,[celF (fz (dotK w (fzs r) k))]⟩
 ro:∃els g kd,List.lookup (BId.loc 37) h=some ⟨4,.str,1,els⟩∧els.length=n∧els[0]? = some [.bs (.fld (.loc 37) 0) g 3 0 m]∧List.lookup (BId.fld (.loc 37) 0) h=some ⟨g,kd,3,rowF (fzs r)⟩
section
variable{T:Tbl}[CLimb T][CNat T][CProd T][CTwos T][CQuot T][CQuotD T][CWhole T][CCommon T][CFrac T][COrder T][COrder2 T]
theorem zacd(s:Sm)(c8:List AV)(w:List Fz)(t:List Nat)(ht:TrOk t)(m:Nat)(hm:m≤7)(ha:s.a.length=m)(hr:∀(k:Nat) (r:List Fz),s.a[k]? = some r→r.length=k∧∀x∈r,fsz x≤2)
  (els:List (List AV)) (h:Heap) (q:Nat) (hP:PrW2 s c8 t.length m els (wtJ s.a t m 0) (t.length-1) h) :
  ∃h' q',PrW2 s c8 t.length m els (wtJ s.a t m (t.length-1)) 0 h'∧loopN T 0 4 (.trm [1,6,8,9]) l617_3 ⟨EnW3 w (intsN t) t.length (t.length-1),h,q⟩=some (.n,⟨[(1,.sl (rowF w) .an),(6,.ptr (.loc 6) 2 3 0 0),(8,.ptr (.loc 8) 3 3 0 0),(9,.bs (.loc 37) 4 1 0 t.length)],h',q'⟩):=by
 have l1:=ht.l1
 have hwQ:=zao t
 refine zr2 (fun j=>EnW3 w (intsN t) t.length (t.length-1-j)) (t.length-1) (fun j h _=>PrW2 s c8 t.length m els (wtJ s.a t m j) (t.length-1-j) h) _ (fun h _=>PrW2 s c8 t.length m els (wtJ s.a t m (t.length-1)) 0 h) (fun j h q hj hP=>?_) (fun h q hP=>?_) h q hP
 ·obtain⟨i,hi⟩:∃i,t.length-1-j=i+1:=⟨t.length-1-j-1,by omega⟩
  have e:t.length-1-(j+1)=i:=by omega
  have hr2:∀r∈s.a,r.length≤m∧∀x∈r,fsz x≤10:=fun r hh=>by
   obtain⟨k,hk,rfl⟩:=List.getElem_of_mem hh
   obtain⟨h1,h2⟩:=hr k _ (List.getElem?_eq_getElem hk)
   exact⟨by omega,fun x hx=>Nat.le_trans (h2 x hx) (by decide)⟩
  have st:=zyf (T:=T) s c8 w t ht m (by omega) ha hr2 (wtJ s.a t m j) (zr3 ht m hm ha hr j (by omega)) els i (by omega) h q (by rw[←hi];exact hP)
  rw[e,hi]
  rw[show wtJ s.a t m (j+1)=wtS s.a t (i+1) (wtJ s.a t m j) by rw[wtJ,hi]]
  exact st
 ·rw[Nat.sub_self]at hP ⊢
  unfold EnW3
  refine⟨?_,h,q,hP,?_⟩<;>simp -implicitDefEqProofs[l617_3]
def EnW8(w:List Fz)(n k:Nat):Env:=[(6,.ptr (.loc 6) 2 3 0 0),(8,.ptr (.loc 8) 3 3 0 0),(9,.bs (.loc 37) 4 1 0 n),(95,.sl (rowF w) .an),(96,.i .i64 w.length),(97,.i .i64 k)]
theorem zace(n m:Nat)(w:List Fz)(r:List Rat)(hn:1≤n)(hm:m≤7)(hw:w.length=m)(hrl:r.length=m)(ws:∀x∈w,fsz x≤10)(rs:∀q∈r,sz q≤3600)(h:Heap)(q:Nat)(hP:PrW8 n m w r 0 h) :
  ∃h' q',PrW8 n m w r m h'∧loopN T 0 8 (.trm [6,8]) l617_4 ⟨EnW8 w n 0,h,q⟩=some (.n,⟨[(6,.ptr (.loc 6) 2 3 0 0),(8,.ptr (.loc 8) 3 3 0 0)],h',q'⟩):=by
 refine zr2 (EnW8 w n) m (fun k h _=>PrW8 n m w r k h) _ (fun h _=>PrW8 n m w r m h) (fun k h q hk hP=>?_) (fun h q hP=>?_) h q hP
 ·obtain⟨b6,b8,els,g,kd,bn,ln,e0,b0⟩:=hP
  have hkI:(k:Int)<m:=by omega
  have hws:=zda hk (by omega)
  have hkw:k<w.length:=by omega
  have hkr:k<r.length:=by omega
  have hkf:k<(fzs r).length:=by rw[zat];exact hkr
  have rsf:∀y∈fzs r,fsz y≤3600:=by
   intro y hy
   obtain⟨z,hz,rfl⟩:=List.mem_map.1 hy
   exact rs z hz
  have hab:w.length=(fzs r).length:=by rw[zat];omega
  have z1:=ws _ (List.getElem_mem hkw)
  have z2:=rsf _ (List.getElem_mem hkf)
  have c1:=zej (T:=T) (w[k]'hkw) ((fzs r)[k]'hkf) (by omega) (by omega)
  have s1:=zeo hab ws rsf (by omega) (by omega) k (by omega)
  have s3:=zh5 (fv (w[k]'hkw)) (fv ((fzs r)[k]'hkf))
  have s4:=zi6 z1 (by omega)
  have s5:=zi6 z2 (by omega)
  have c2:=zgn (T:=T) (fz (dotK w (fzs r) k)) (fz (fv (w[k]'hkw)*fv ((fzs r)[k]'hkf))) (by rw[zbg];omega) (by rw[zbg];omega)
  rw[zcw,zcw,←zgv hab hkw]at c2
  have f1:(rowF w)[k]? = some (celF (w[k]'hkw)):=by rw[rowF_get?,List.getElem?_eq_getElem hkw];rfl
  have f2:(rowF (fzs r))[k]? = some (celF ((fzs r)[k]'hkf)):=by rw[rowF_get?,List.getElem?_eq_getElem hkf];rfl
  have hlw:(rowF w).length=m:=by rw[zbx,hw]
  have hlr:(rowF (fzs r)).length=m:=by rw[zbx,zat,hrl]
  have hwk:=zfc w
  have h0l:0<els.length:=by omega
  have e0':els[0]'h0l=[.bs (.fld (.loc 37) 0) g 3 0 m]:=by
   rw[List.getElem?_eq_getElem h0l]at e0
   exact Option.some.inj e0
  have e02:els[0]? = some (els[0]'h0l):=List.getElem?_eq_getElem h0l
  have hnI:(0:Int)<n:=by omega
  have hn0:0<n:=hn
  refine⟨(.loc 8,⟨3,.str,3,[celF (fz (dotK w (fzs r) (k+1)))]⟩)::(.loc 16,⟨q,.str,3,[celF (w[k]'hkw)]⟩)::(.loc 16,⟨q,.str,3,[nlc]⟩)::h,q+1,⟨?_,?_,els,g,kd,?_,ln,e0,?_⟩,?_⟩
  ·simpa using b6
  ·simp
  ·simpa using bn
  ·simpa using b0
  ·unfold EnW8
   rw[hw]
   generalize dotK w (fzs r) (k+1)=Q' at *
   generalize dotK w (fzs r) k=Q at *
   generalize (fzs r)[k]'hkf=rk at *
   generalize rowF (fzs r)=R at *
   generalize rowF w=W at *
   generalize w[k]'hkw=wk at *
   obtain⟨j0,a0⟩:=List.getElem?_eq_some_iff.1 f1
   obtain⟨j1,a1⟩:=List.getElem?_eq_some_iff.1 f2
   have q0:=List.getElem?_eq_getElem j0
   have q1:=List.getElem?_eq_getElem j1
   simp -implicitDefEqProofs[l617_4,hk,hkI,hws,c1,c2,b6,b8,bn,b0,a0,a1,q0,q1,hlw,hlr,hwk,h0l,e0',e02,hnI,hn0,j0,j1]
 ·unfold EnW8
  refine⟨?_,h,q,hP,?_⟩<;>simp -implicitDefEqProofs[l617_4,hw]
end
section
variable{T:Tbl}[CLimb T][CNat T][CProd T][CTwos T][CQuot T][CQuotD T][CWhole T][CCommon T][CFrac T][CFrac3 T][CFrac5 T][CPow T][CTape T][CGauge T][CEval T][CRun T][CIfc T][CJoin T][CLex T][CScheme T][COrder T][COrder2 T]
theorem zkt(s:Sm)(hs:SmS s)(w:List Fz)(t:List Nat)(ht:TrOk t)(hst:smallT (intsT t)=true)(hm:s.b.length≤7)(hok:okS s=true)(hw:w.length=s.b.length)
  (ha:s.a.length=s.b.length) (hr:∀(k:Nat) (r:List Fz),s.a[k]? = some r→r.length=k∧∀x∈r,fsz x≤2) (ws:∀x∈w,fsz x≤10) :
  callF T 617 [esm s,.sl (rowF w) .an,.sl (intsN t) .an]=some (.tup [efz (fz (wtQ s.a t s.b.length w)),.b true]):=by
 have l1:=ht.l1
 have l8:=ht.l8
 have h0:=zcl (T:=T)
 have c1:=zfi (T:=T) s hs
 rw[hok]at c1
 have c2:=zd4 (T:=T) (intsT t) (by simp[intsT];omega) (fun x hx=>by
  obtain⟨n,hn,rfl⟩:=List.mem_map.1 hx
  have:=ht.v n hn
  omega)
 rw[zr1,hst]at c2
 have hQ:=za8 t
 have hwQ:=zao t
 have hle:t.length≤4294967295:=by omega
 have hleI:(t.length:Int)≤4294967295:=by omega
 have hleI2:(t.length:Int)≤4294967296:=by omega
 have hw1:IntKind.wrap .i64 ((t.length:Int)-1)=((t.length-1:Nat):Int):=by
  rw[inRg _ (by omega) (by omega)]
  omega
 obtain⟨els0,he0⟩:∃els0,els0=List.replicate t.length [AV.sl [] Fl.nl]:=⟨_,rfl⟩
 have hle0:els0.length=t.length:=by rw[he0,List.length_replicate]
 obtain⟨h1,q1,⟨kd,els,⟨ba,bn,ks,kt,ln,lo,hi⟩⟩,L1⟩:=zacb (T:=T) s (celF (fz 0)) w (intsN t) hwQ t.length l8 (by omega)
  [(.loc 37,⟨4,.own,1,els0⟩),(.loc 8,⟨3,.str,3,[celF (fz 0)]⟩),(.loc 8,⟨3,.str,3,[nlc]⟩),(.loc 6,⟨2,.str,3,[nlc]⟩),(.loc 3,⟨1,.str,5,[smC' s]⟩)] 5
  ⟨.own,els0,⟨⟨by simp,by simp,by simp⟩,by simp,by decide,fun hh=>absurd hh (Nat.lt_irrefl 0),hle0,fun p hp=>by omega,fun p _ hp=>⟨by rw[he0,List.getElem?_replicate,if_pos hp],by simp⟩⟩⟩
 have hones:∀p,p<t.length→rwN (wtJ s.a t s.b.length 0) p=List.replicate s.b.length 1:=fun p hp=>by
  unfold rwN
  rw[wtJ,List.getElem?_replicate,if_pos hp]
  rfl
 have hkd:kd=.str:=kt (by omega)
 subst hkd
 obtain⟨h2,q2,⟨ba2,bn2,ln2,ro2⟩,L2⟩:=zacd (T:=T) s (celF (fz 0)) w t ht s.b.length hm ha hr els h1 q1 ⟨ba,bn,ln,fun p hp=>by
  obtain⟨g,e1,e2⟩:=lo p hp
  refine⟨g,.own,e1,?_,by decide,fun _=>rfl⟩
  rw[e2,hones p hp]
  simp[onesF,fzs]⟩
 obtain⟨g,kd,e1,e2,_⟩:=ro2 0 (by omega)
 have hN:=zr3 ht s.b.length hm ha hr (t.length-1) (by omega)
 obtain⟨r1,r2⟩:=hN.r 0 (by omega)
 obtain⟨h3,q3,⟨b6,b8,_⟩,L3⟩:=zace (T:=T) t.length s.b.length w (rwN (wtJ s.a t s.b.length (t.length-1)) 0) l1 hm hw r1 ws r2 h2 q2 ⟨ba2.b6,ba2.b8,els,g,kd,bn2,ln2,e1,e2⟩
 have hdot:dotK w (fzs (rwN (wtJ s.a t s.b.length (t.length-1)) 0)) s.b.length=wtQ s.a t s.b.length w:=by
  unfold dotK wtQ
  rw[List.take_of_length_le (by omega),List.take_of_length_le (by rw[zat];omega)]
  rfl
 rw[hdot]at b8
 generalize wtQ s.a t s.b.length w=V at *
 rw[f617 _ rfl,b617]
 unfold EnW1 at L1
 unfold EnW3 at L2
 unfold EnW8 at L3
 rw[show (((0:Nat):Int))=0 from rfl]at L1 L3
 clear ro2 lo hi hones hN r1 r2 hdot
 obtain⟨nm,C,M,B,E⟩:=s
 dsimp only at *
 rw[hw]at L3
 generalize intsN t=Q at *
 simp -implicitDefEqProofs[h0,c1,c2,hw,hQ,hwQ,hle,hleI,hleI2,hw1,←he0,L1,L2,L3,b6,b8]
end
def refK(l:List Nat)(p r:Nat):Nat→List Nat
 | 0=>l
 | k+1=>(refK l p r k).set (p+k) ((refK l p r k).getD (k+r) 0)
theorem zem(l:List Nat)(p r:Nat):∀k,(refK l p r k).length=l.length
 | 0=>rfl
 | k+1=>by rw[refK,List.length_set];exact zem l p r k
theorem zr0(l:List Nat)(i x:Nat):(intsN l).set i [.i .i64 x]=intsN (l.set i x):=by
 unfold intsN
 rw[List.map_set]
theorem zx7{f:St→Option (Ex×St)}{l:Nat}(F:Nat→St)(R:Ex×St)(hR:∀j,R.1≠.g j)(m:Nat)(hs:∀j,j<m→f (F j)=some (.g l,F (j+1)))(he:f (F m)=some R) :
  ∀n,m+1<n→gscX f l n (some (.g l,F 0))=some R:=by
 have key:∀k j,j+k=m→∀n,k+1<n→gscX f l n (some (.g l,F j))=some R:=by
  intro k
  induction k with
  | zero=>
   intro j hj n hn
   obtain⟨n,rfl⟩:∃n',n=n'+2:=⟨n-2,by omega⟩
   have:j=m:=by omega
   subst this
   have e1:gscX f l (n+2) (some (.g l,F j))=gscX f l (n+1) (f (F j)):=by simp[gscX]
   rw[e1,he]
   obtain⟨e,s⟩:=R
   cases e with
   | g j=>exact absurd rfl (hR j)
   | n=>rfl
   | x i=>rfl
   | r=>rfl
  | succ k ih=>
   intro j hj n hn
   obtain⟨n,rfl⟩:∃n',n=n'+1:=⟨n-1,by omega⟩
   simp only[gscX,Option.bind_some,if_true]
   rw[hs j (by omega)]
   exact ih (j+1) (by omega) n (by omega)
 exact fun n hn=>key m 0 (by omega) n hn
section
variable{T:Tbl}[COrder T]
def hpTr(out:List (List Nat))(now:List Nat):Heap:=[(.loc 3,⟨1,.own,1,treeR out⟩),(.loc 4,⟨2,.own,1,intsN now⟩)]
def stFd(n:Nat)(out:List (List Nat))(now:List Nat)(p:Int):St:=⟨[(0,.i .i64 n),(3,.bs (.loc 3) 1 1 0 out.length),(4,.bs (.loc 4) 2 1 0 now.length),(6,.i .i64 p)],hpTr out now,4⟩
theorem zkp(n:Nat)(out:List (List Nat))(now:List Nat)(hl:now.length≤1000)(p0 p:Nat)(hp0:p0<now.length)(hp:p≤p0)
  (h1:∀k,p<k→k≤p0→∃x,now[k]? = some x∧x<2) (h2:p=0∨∃x,now[p]? = some x∧2≤x) :
  loopN T 0 2 (.norm false [0,3,4,6]) l589_1 (stFd n out now p0)=some (.n,stFd n out now p):=by
 have hw1:=zbq out
 have hw2:=zao now
 have hl2:=za8 now
 have r:=za0 (T:=T) (k:=0) (id:=2) (g2:=.norm false [0,3,4,6]) (c:=l589_1) (fun j=>stFd n out now ((p0-j:Nat):Int)) (p0-p) (some (.n,stFd n out now p)) (fun j hj=>?_) ?_
 ·simpa using r
 ·obtain⟨k',hk'⟩:∃k',p0-j=k'+1:=⟨p0-j-1,by omega⟩
  have hk'':p0-(j+1)=k':=by omega
  obtain⟨x,hx,hx2⟩:=h1 (k'+1) (by omega) (by omega)
  have ix:=zbe hx
  have hx2':(x:Int)<2:=by omega
  have hkl:k'+1<now.length:=by omega
  have hkI:(k':Int)+1<now.length:=by omega
  have hk0:(0:Int)<(k':Int)+1:=by omega
  have hw:IntKind.wrap .i64 (k':Int)=(k':Int):=zab _ (by omega)
  rw[hk',hk'']
  unfold stFd hpTr
  clear h1 h2 hx
  generalize treeR out=R1 at *
  generalize intsN now=R at *
  obtain⟨j1,ix⟩:=List.getElem?_eq_some_iff.1 ix
  have g1:R[k'+1]? = some (R[k'+1]'j1):=List.getElem?_eq_getElem j1
  simp -implicitDefEqProofs[l589_1,hkl,hkI,hk0,g1,ix,hx2',hx2,hw,hw1,hw2,hl2,j1]
 ·have e:p0-(p0-p)=p:=by omega
  rw[e]
  unfold stFd hpTr
  clear h1
  by_cases hz:p=0
  ·subst hz
   clear h2
   generalize treeR out=R1 at *
   generalize intsN now=R at *
   constructor<;>simp -implicitDefEqProofs[l589_1,hw1,hw2]
  ·obtain⟨x,hx,hx2⟩:=h2.resolve_left hz
   have ix:=zbe hx
   have hx2':¬ (x:Int)<2:=by omega
   have hx3:¬ x<2:=by omega
   have hkl:p<now.length:=by omega
   have hkI:(p:Int)<now.length:=by omega
   have hk0:(0:Int)<(p:Int):=by omega
   have hk1:0<p:=by omega
   clear h2 hx
   generalize treeR out=R1 at *
   generalize intsN now=R at *
   obtain⟨j1,ix⟩:=List.getElem?_eq_some_iff.1 ix
   have g1:R[p]? = some (R[p]'j1):=List.getElem?_eq_getElem j1
   constructor<;>simp -implicitDefEqProofs[l589_1,hkl,hkI,hk0,hk1,g1,ix,hx2',hx3,hw1,hw2,hl2,j1]
def stRfO(n:Nat)(out:List (List Nat))(now:List Nat)(p r k:Nat):St:=⟨[(0,.i .i64 n),(3,.bs (.loc 3) 1 1 0 out.length),(4,.bs (.loc 4) 2 1 0 now.length),(6,.i .i64 p),(7,.i .i64 r),(8,.i .i64 (p+k:Nat))],hpTr out (refK now p r k),4⟩
theorem zuz(n:Nat)(out:List (List Nat))(now:List Nat)(hn:now.length=n)(hl:n≤1000)(p r:Nat)(hp:p≤n)(hr:r<p) :
  loopN T 0 4 (.norm false [0,3,4]) l589_2 (stRfO n out now p r 0)=some (.n,⟨[(0,.i .i64 n),(3,.bs (.loc 3) 1 1 0 out.length),(4,.bs (.loc 4) 2 1 0 now.length)],hpTr out (refK now p r (n-p)),4⟩):=by
 have hw1:=zbq out
 refine za0 (stRfO n out now p r) (n-p) _ (fun k hk=>?_) ?_
 ·have hw2:=zao (refK now p r (k+1))
  have hl2:=za8 (refK now p r k)
  rw[zem,hn]at hl2
  have hpk:((p+k:Nat):Int)<n:=by omega
  have hws:IntKind.wrap .i64 ((p:Int)+k+1)=(p:Int)+(k+1):=by rw[zab _ (by omega)];omega
  have s1:IntKind.wrap .i64 ((p:Int)+k-p)=(k:Int):=by rw[zab _ (by omega)];omega
  have s2:IntKind.wrap .i64 ((k:Int)+r)=(k:Int)+r:=zab _ (by omega)
  have hkr:k+r<n:=by omega
  obtain⟨x,hx⟩:∃x,(refK now p r k)[k+r]? = some x:=⟨_,List.getElem?_eq_getElem (by rw[zem,hn];exact hkr)⟩
  have hD:(refK now p r k).getD (k+r) 0=x:=by simp[List.getD,hx]
  have ix:=zbe hx
  obtain⟨y,hy⟩:∃y,(refK now p r k)[p+k]? = some y:=⟨_,List.getElem?_eq_getElem (by rw[zem,hn];omega)⟩
  have g2:=zbe hy
  have hset:intsN (refK now p r (k+1))=(intsN (refK now p r k)).set (p+k) [.i .i64 x]:=by
   rw[refK,hD,zr0]
  unfold stRfO hpTr
  rw[hset]at hw2 ⊢
  have q1:k+r<(intsN (refK now p r k)).length:=by omega
  have q2:p+k<(intsN (refK now p r k)).length:=by omega
  have q3:(k:Int)+r<now.length:=by omega
  have q4:(p:Int)+k<now.length:=by omega
  have q5:(p:Int)+k<n:=by omega
  have q6:k+r<now.length:=by omega
  have q7:p+k<now.length:=by omega
  clear hset hx hD
  generalize treeR out=R1 at *
  generalize intsN (refK now p r k)=R at *
  obtain⟨j1,ix⟩:=List.getElem?_eq_some_iff.1 ix
  have g1:R[k+r]? = some (R[k+r]'j1):=List.getElem?_eq_getElem j1
  obtain⟨j2,g2⟩:=List.getElem?_eq_some_iff.1 g2
  have g3:R[p+k]? = some (R[p+k]'j2):=List.getElem?_eq_getElem j2
  simp -implicitDefEqProofs[l589_2,g1,g2,g3,ix,hws,s1,s2,q1,q2,q3,q4,q5,q6,q7,hw1,hw2,hl2]
 ·have hw2:=zao (refK now p r (n-p))
  have e:p+(n-p)=n:=by omega
  unfold stRfO hpTr
  rw[e]
  generalize treeR out=R1 at *
  generalize intsN (refK now p r (n-p))=R at *
  constructor<;>simp -implicitDefEqProofs[l589_2,hw1,hw2]
end
structure Nx (n:Nat) (now now':List Nat) (p r a:Nat):Prop where
 ln:now.length=n
 p1:1≤p
 pl:p<n
 h1:∀k,k<n→p<k→now.getD k 9<2
 h2:2≤now.getD p 0
 ha:now[p]? = some (a+1)
 hr:r<p
 h0:now[r]? = some a
 hk:∀k,k<p→r<k→now[k]?≠some a
 hb:∀x∈now,x≤1000
 re:refK now p r (n-p)=now'
section
variable{T:Tbl}[COrder T]
def stG5(n:Nat)(out:List (List Nat))(now:List Nat):St:=⟨[(0,.i .i64 n),(3,.bs (.loc 3) 1 1 0 out.length),(4,.bs (.loc 4) 2 1 0 now.length)],hpTr out now,4⟩
theorem z3o{n:Nat}{now now':List Nat}{p r a:Nat}(H:Nx n now now' p r a)(out:List (List Nat))(hn:n≤1000)(ho:out.length≤1000) :
  evX (orc T) T 0 g589_0 (stG5 n out now)=some (.g 0,stG5 n (out++[now]) now'):=by
 have ln:=H.ln
 have pl:=H.pl
 have p1:=H.p1
 have F:=zkp (T:=T) n (out++[now]) now (by omega) (n-1) p (by omega) (by omega) (fun k h1 h2=>by
  have q:=H.h1 k (by omega) h1
  have hk:k<now.length:=by omega
  refine⟨now[k]'hk,List.getElem?_eq_getElem hk,?_⟩
  rwa [List.getD_eq_getElem?_getD,List.getElem?_eq_getElem hk]at q) (.inr (by
  have q:=H.h2
  have hk:p<now.length:=by omega
  refine⟨now[p]'hk,List.getElem?_eq_getElem hk,?_⟩
  rwa [List.getD_eq_getElem?_getD,List.getElem?_eq_getElem hk]at q))
 have c1:=zhw (T:=T) now p r a (by omega) H.hr (by omega) H.ha H.h0 (fun k h1 h2=>H.hk k h2 h1) H.hb
 have R:=zuz (T:=T) n (out++[now]) now ln hn p r (by omega) H.hr
 have re:=H.re
 rw[re]at R
 have ln':now'.length=n:=by rw[←re,zem];exact ln
 have hw1:=zbq (out++[now])
 have hw2:=zao now
 have hw3:=zao now'
 have hl1:=zcv out
 have hw0:=zbq out
 have hcap2:n≤4294967296:=by omega
 have hl2:=za8 now
 rw[ln]at hl2
 have hout:(out++[now]).length=out.length+1:=by simp
 unfold stFd hpTr at F
 unfold stRfO hpTr at R
 unfold stG5 hpTr
 have ez:refK now p r 0=now:=rfl
 rw[ez]at R
 rw[hout,←zdp]at F R ⊢
 rw[←zdp]at hw1
 rw[ln]at F R ⊢
 rw[ln']at *
 have hcap:out.length≤4294967295:=by omega
 have hsub:IntKind.wrap .i64 ((n:Int)-1)=((n-1:Nat):Int):=by rw[zab _ (by omega)];omega
 have hp1:¬ (p:Int)<1:=by omega
 have hp2:¬ p<1:=by omega
 have ht:List.take out.length (treeR out)=treeR out:=List.take_of_length_le (by omega)
 have ht2:List.take n (intsN now)=intsN now:=List.take_of_length_le (by omega)
 simp only[Nat.add_zero]at R
 clear H re ez
 generalize treeR out=R1 at *
 generalize intsN now=R2 at *
 generalize intsN now'=R3 at *
 simp -implicitDefEqProofs[g589_0,F,c1,R,hw0,hcap2,hw1,hw2,hw3,hl1,hl2,hcap,hsub,hp1,hp2,ht,ht2]
theorem z3p{n:Nat}{now:List Nat}(ln:now.length=n)(h1:∀k,k<n→0<k→now.getD k 9<2)(out:List (List Nat))(hn:n≤1000)(hn0:1≤n)(ho:out.length≤1000) :
  evX (orc T) T 0 g589_0 (stG5 n out now)=some (.r,⟨[(2,.bs (.loc 3) 1 1 0 (out.length+1))],[(.loc 3,⟨1,.own,1,treeR (out++[now])⟩)],3⟩):=by
 have F:=zkp (T:=T) n (out++[now]) now (by omega) (n-1) 0 (by omega) (by omega) (fun k h2 h3=>by
  have q:=h1 k (by omega) h2
  have hk:k<now.length:=by omega
  refine⟨now[k]'hk,List.getElem?_eq_getElem hk,?_⟩
  rwa [List.getD_eq_getElem?_getD,List.getElem?_eq_getElem hk]at q) (.inl rfl)
 have hw1:=zbq (out++[now])
 have hw2:=zao now
 have hl1:=zcv out
 have hw0:=zbq out
 have hcap2:n≤4294967296:=by omega
 have hl2:=za8 now
 rw[ln]at hl2
 have hout:(out++[now]).length=out.length+1:=by simp
 unfold stFd hpTr at F
 unfold stG5 hpTr
 rw[hout,←zdp]at F
 rw[←zdp]at hw1 ⊢
 rw[ln]at F ⊢
 have hcap:out.length≤4294967295:=by omega
 have hsub:IntKind.wrap .i64 ((n:Int)-1)=((n-1:Nat):Int):=by rw[zab _ (by omega)];omega
 have ht:List.take out.length (treeR out)=treeR out:=List.take_of_length_le (by omega)
 have ht2:List.take n (intsN now)=intsN now:=List.take_of_length_le (by omega)
 simp only[Int.natCast_zero]at F
 clear h1
 generalize treeR out=R1 at *
 generalize intsN now=R2 at *
 simp -implicitDefEqProofs[g589_0,F,hw0,hcap2,hw1,hw2,hl1,hl2,hcap,hsub,ht,ht2]
end
def trs:Nat→List (List Nat)
 | 1=>[[0]]
 | 2=>[[0,1]]
 | 3=>[[0,1,2],[0,1,1]]
 | 4=>[[0,1,2,3],[0,1,2,2],[0,1,2,1],[0,1,1,1]]
 | 5=>[[0,1,2,3,4],[0,1,2,3,3],[0,1,2,3,2],[0,1,2,3,1],[0,1,2,2,2],[0,1,2,2,1],[0,1,2,1,2],[0,1,2,1,1],[0,1,1,1,1]]
 | _=>[]
def trD:Nat→List (Nat×Nat×Nat)
 | 1=>[]
 | 2=>[]
 | 3=>[(2,1,1)]
 | 4=>[(3,2,2),(3,1,1),(2,1,1)]
 | 5=>[(4,3,3),(4,2,2),(4,1,1),(3,2,2),(4,1,1),(3,1,1),(4,3,1),(2,1,1)]
 | _=>[]
def nxB(n:Nat)(now now':List Nat)(p r a:Nat):Bool:=
 decide (now.length=n)&&decide (1≤p)&&decide (p<n)&&decide (∀k,k<n→p<k→now.getD k 9<2)&&decide (2≤now.getD p 0)&&decide (now[p]? = some (a+1))&&decide (r<p)
  && decide (now[r]? = some a)&&decide (∀k,k<p→r<k→now[k]?≠some a)&&decide (∀x∈now,x≤1000)&&decide (refK now p r (n-p)=now')
theorem zab8{n:Nat}{now now':List Nat}{p r a:Nat}(h:nxB n now now' p r a=true):Nx n now now' p r a:=by
 unfold nxB at h
 simp only[Bool.and_eq_true,decide_eq_true_eq]at h
 obtain⟨⟨⟨⟨⟨⟨⟨⟨⟨⟨h1,h2⟩,h3⟩,h4⟩,h5⟩,h6⟩,h7⟩,h8⟩,h9⟩,h10⟩,h11⟩:=h
 exact⟨h1,h2,h3,h4,h5,h6,h7,h8,h9,h10,h11⟩
theorem z3q:∀n,n<6→∀j,j<(trD n).length→nxB n ((trs n).getD j []) ((trs n).getD (j+1) []) ((trD n).getD j (0,0,0)).1 ((trD n).getD j (0,0,0)).2.1 ((trD n).getD j (0,0,0)).2.2=true:=by decide +kernel
theorem zl8:∀n,n<6→1≤n→(trs n).length=(trD n).length+1∧(trs n).getD 0 []=List.range n∧((trs n).getD (trD n).length []).length=n∧(∀k,k<n→0<k→((trs n).getD (trD n).length []).getD k 9<2)∧(trs n).length≤9:=by decide +kernel
section
variable{T:Tbl}[COrder T]
def stF5(n j:Nat):St:=stG5 n ((trs n).take j) ((trs n).getD j [])
theorem zkq{α:Type}(l:List α)(d:α){j:Nat}(h:j<l.length):l.take j++[l.getD j d]=l.take (j+1):=by
 rw[List.take_succ_eq_append_getElem h,List.getD_eq_getElem?_getD,List.getElem?_eq_getElem h]
 rfl
theorem zx8{n j:Nat}(hn:n<6)(h1:1≤n)(hj:j<(trD n).length):evX (orc T) T 0 g589_0 (stF5 n j)=some (.g 0,stF5 n (j+1)):=by
 obtain⟨l1,_,_,_,l5⟩:=zl8 n hn h1
 have q:=z3o (T:=T) (zab8 (z3q n hn j hj)) ((trs n).take j) (by omega) (by rw[List.length_take];omega)
 unfold stF5
 rw[←zkq (trs n) [] (show j<(trs n).length by omega)]
 exact q
theorem zx9{n:Nat}(hn:n<6)(h1:1≤n):evX (orc T) T 0 g589_0 (stF5 n (trD n).length)=some (.r,⟨[(2,.bs (.loc 3) 1 1 0 (trs n).length)],[(.loc 3,⟨1,.own,1,treeR (trs n)⟩)],3⟩):=by
 obtain⟨l1,_,l3,l4,l5⟩:=zl8 n hn h1
 have q:=z3p (T:=T) (n:=n) l3 l4 ((trs n).take (trD n).length) (by omega) h1 (by rw[List.length_take];omega)
 have e1:((trs n).take (trD n).length).length+1=(trs n).length:=by
  rw[List.length_take]
  omega
 have e2:(trs n).take ((trD n).length+1)=trs n:=List.take_of_length_le (by omega)
 rw[e1,zkq (trs n) [] (by omega),e2]at q
 exact q
theorem zd3(n:Nat)(hn:n<6)(h1:1≤n):callF T 589 [.i .i64 n]=some (.sl (treeR (trs n)) .an):=by
 have L:=zuy (T:=T) n (by omega)
 unfold stNw at L
 simp only[Int.natCast_zero,List.range_zero]at L
 have e0:intsN []=[]:=rfl
 rw[e0]at L
 obtain⟨l1,l2,_,_,l5⟩:=zl8 n hn h1
 have hF0:stF5 n 0=⟨[(0,.i .i64 n),(3,.bs (.loc 3) 1 1 0 0),(4,.bs (.loc 4) 2 1 0 n)],[(.loc 3,⟨1,.own,1,[]⟩),(.loc 4,⟨2,.own,1,intsN (List.range n)⟩)],4⟩:=by
  unfold stF5 stG5 hpTr
  rw[l2,List.take_zero,List.length_range]
  rfl
 have hlt:¬ (n:Int)<1:=by omega
 have hgt:¬ (5:Int)<n:=by omega
 have hlt2:¬ n<1:=by omega
 have hgt2:¬ 5<n:=by omega
 have hl:=zcv (trs n)
 have hw:=zbq (trs n)
 have ht:List.take (trs n).length (treeR (trs n))=treeR (trs n):=List.take_of_length_le (by omega)
 have hlast:=zx9 (T:=T) hn h1
 have hnext:=fun j hj=>zx8 (T:=T) hn h1 (j:=j) hj
 have hrun:gscX (fun s=>evX (orc T) T 0 g589_0 s) 0 100 (evX (orc T) T 0 g589_0 (stF5 n 0))=some (.r,⟨[(2,.bs (.loc 3) 1 1 0 (trs n).length)],[(.loc 3,⟨1,.own,1,treeR (trs n)⟩)],3⟩):=by
  cases hD:(trD n).length with
  | zero=>
   rw[hD]at hlast
   rw[hlast]
   rfl
  | succ m=>
   rw[hnext 0 (by omega)]
   rw[hD]at hlast
   exact zx7 (fun j=>stF5 n (j+1)) _ (fun j e=>by cases e) m (fun j hj=>hnext (j+1) (by omega)) hlast 100 (by omega)
 rw[f589 _ rfl,b589]
 rw[hF0]at hrun
 clear hlast hnext l1 l2 hF0
 have hlN:=za8 (List.range n)
 have hwN:=zao (List.range n)
 generalize intsN (List.range n)=NN at *
 generalize trs n=TR at *
 generalize treeR TR=TT at *
 generalize TR.length=M at *
 have hE:evX (orc T) T 0 g589_0 ⟨[(7,.i .i64 0),(6,.i .i64 0),(0,.i .i64 n),(3,.bs (.loc 3) 1 1 0 0),(4,.bs (.loc 4) 2 1 0 n)],[(.loc 3,⟨1,.own,1,[]⟩),(.loc 4,⟨2,.own,1,NN⟩)],4⟩ =
   evX (orc T) T 0 g589_0 ⟨[(0,.i .i64 n),(3,.bs (.loc 3) 1 1 0 0),(4,.bs (.loc 4) 2 1 0 n)],[(.loc 3,⟨1,.own,1,[]⟩),(.loc 4,⟨2,.own,1,NN⟩)],4⟩:=by
  unfold g589_0
  rw[z2u,z2u]
  congr 1
 simp -implicitDefEqProofs[zaat,hlt,hgt,L,hE,hrun,hl,hw,ht]
end
def wOk(s:Sm)(w:List Fz):Bool:=okS s&&decide (w.length=s.b.length)
structure SmW (s:Sm):Prop where
 ok:SmS s
 b:s.b.length≤7
 a:okS s=true→s.a.length=s.b.length∧∀(k:Nat) (r:List Fz),s.a[k]? = some r→r.length=k∧∀x∈r,fsz x≤2
theorem zr4:∀n,n<6→(trs n).all (fun t=>smallT (intsT t)&&chkT t)=true:=by decide +kernel
theorem zr5:∀n,n<6→(1≤n→0<(trs n).length)∧(trs n).length≤9:=by decide +kernel
section
variable{T:Tbl}[CLimb T][CNat T][CProd T][CTwos T][CQuot T][CQuotD T][CWhole T][CCommon T][CFrac T][CFrac3 T][CFrac5 T][CPow T][CTape T][CGauge T][CEval T][CRun T][CIfc T][CJoin T][CLex T][CScheme T][COrder T][COrder2 T]
theorem zir(s:Sm)(hs:SmS s)(w:List Fz)(l:List Int)(hl:l.length≤1000)(hlw:∀x∈l,-9223372036854775808≤x∧x<9223372036854775808)(h:(okS s&&decide (w.length=s.b.length)&&smallT l)=false) :
  callF T 617 [esm s,.sl (rowF w) .an,.sl (ints l) .an]=some (.tup [efz (fz 0),.b false]):=by
 have h0:=zcl (T:=T)
 have c1:=zfi (T:=T) s hs
 have c2:=zd4 (T:=T) l (by omega) hlw
 have hwQ:=zi0 l
 rw[f617 _ rfl,b617]
 obtain⟨nm,C,M,B,E⟩:=s
 dsimp only at *
 generalize ints l=Q at *
 generalize smallT l=z at *
 cases ho:okS ⟨nm,C,M,B,E⟩ with
 | false=>
  rw[ho]at c1
  simp -implicitDefEqProofs[h0,c1,hwQ]
 | true=>
  rw[ho]at c1 h
  by_cases hw:w.length=B.length
  ·have hz:z=false:=by simpa[hw]using h
   subst hz
   simp -implicitDefEqProofs[h0,c1,c2,hwQ,hw]
  ·have hw':¬ (w.length:Int)=B.length:=by omega
   simp -implicitDefEqProofs[h0,c1,hwQ,hw,hw']
def goodW(s:Sm)(w:List Fz)(t:List Nat):Bool:=wOk s w&&decide (wtQ s.a t s.b.length w*(denE t:Nat)=1)
def holW(s:Sm)(w:List Fz)(n:Nat):Bool:=(trs n).all (goodW s w)
def ordN(s:Sm)(w:List Fz):Nat→Nat→Nat
 | 0,n=>n
 | f+1,n=>if holW s w (n+1) then ordN s w f (n+1) else n
def ordQ(s:Sm)(w:List Fz):Nat:=ordN s w 5 0
def stHo(s:Sm)(w:List Fz)(L:List (List Nat))(i:Nat):St:=
 ⟨[(1,.sl (rowF w) .an),(3,.ptr (.loc 3) 1 5 0 0),(12,.sl (treeR L) .an),(13,.i .i64 L.length),(14,.i .i64 i)],[(.loc 3,⟨1,.str,5,[smC' s]⟩)],3⟩
def resHo(b:Bool):Option (Ex×St):=if b then some (.n,⟨[],[],2⟩) else some (.r,⟨[(6,.b false)],[],2⟩)
theorem z3u{t:List Nat}(ht:TrOk t):denE t≤100000:=by
 rw[←ht.den]
 exact(ht.dj t.length (Nat.le_refl _)).2.1
theorem z3v{s:Sm}{t:List Nat}{w:List Fz}(ht:TrOk t)(hm:s.b.length≤7)(hw:w.length=s.b.length)(ha:s.a.length=s.b.length)
  (hr:∀(k:Nat) (r:List Fz),s.a[k]? = some r→r.length=k∧∀x∈r,fsz x≤2) (ws:∀x∈w,fsz x≤10):sz (wtQ s.a t s.b.length w)≤26000:=by
 have l1:=ht.l1
 have hN:=zr3 ht s.b.length hm ha hr (t.length-1) (by omega)
 obtain⟨r1,r2⟩:=hN.r 0 (by omega)
 have hl:w.length=(fzs (rwN (wtJ s.a t s.b.length (t.length-1)) 0)).length:=by rw[zat];omega
 have h:=zeo hl ws (fun y hy=>by
  obtain⟨z,hz,rfl⟩:=List.mem_map.1 hy
  exact r2 z hz) (by omega) (by omega) w.length (Nat.le_refl _)
 have e:dotK w (fzs (rwN (wtJ s.a t s.b.length (t.length-1)) 0)) w.length=wtQ s.a t s.b.length w:=by
  unfold dotK wtQ
  rw[List.take_of_length_le (Nat.le_refl _),List.take_of_length_le (by omega)]
  rfl
 rw[e]at h
 have:w.length*(10+3600+1)≤7*(10+3600+1):=Nat.mul_le_mul_right _ (by omega)
 omega
theorem zyg(s:Sm)(hs:SmW s)(w:List Fz)(ws:∀x∈w,fsz x≤10)(L:List (List Nat))(hL:L.length≤9)(hok:∀t∈L,smallT (intsT t)=true∧chkT t=true)(i:Nat)(hi:i<L.length) :
  (goodW s w L[i]=true→evX (orc T) T 0 l613_0 (stHo s w L i)=some (.n,stHo s w L (i+1))) ∧
  (goodW s w L[i]=false→isEx (evX (orc T) T 0 l613_0 (stHo s w L i))=true∧finX 0 0 (.norm false []) (evX (orc T) T 0 l613_0 (stHo s w L i))=resHo false):=by
 obtain⟨h1,h2⟩:=hok _ (List.getElem_mem hi)
 have ht:=zwi h2
 have e0:(treeR L)[i]? = some [.sl (intsN L[i]) .an]:=by simp[treeR,hi]
 have hlt:=zcv L
 have hwt:=zbq L
 have hiI:(i:Int)<L.length:=by omega
 have hws:=zda hi (by omega)
 have hwQ:=zao L[i]
 have o1:=zil (T:=T)
 have hd:=z3u ht
 have l8:=ht.l8
 have c5:=zen (T:=T) ht h1
 have c3:callF T 205 [.i .i64 (denE L[i]:Nat)]=some (efz (fz ((denE L[i]:Nat):Rat))):=by
  have:=zl3 (T:=T) ((denE L[i]:Nat):Int) (by omega) (by omega)
  rw[this,Rat.intCast_natCast]
 unfold goodW
 cases hwo:wOk s w with
 | false=>
  have c0:=zir (T:=T) s hs.ok w (intsT L[i]) (by simp[intsT];omega) (fun x hx=>by
   obtain⟨n,hn,rfl⟩:=List.mem_map.1 hx
   have:=ht.v n hn
   omega) (by
   unfold wOk at hwo
   rw[hwo]
   rfl)
  rw[zr1]at c0
  refine⟨fun h=>by simp at h,fun _=>?_⟩
  unfold stHo resHo
  obtain⟨nm,C,M,B,E⟩:=s
  dsimp only at *
  generalize intsN L[i]=Q at *
  generalize treeR L=R at *
  obtain⟨j0,a0⟩:=List.getElem?_eq_some_iff.1 e0
  have q0:=List.getElem?_eq_getElem j0
  constructor<;>simp -implicitDefEqProofs[l613_0,hi,hiI,hws,c0,hlt,hwt,hwQ,a0,q0]
 | true=>
  have hwo2:=hwo
  unfold wOk at hwo2
  rw[Bool.and_eq_true,decide_eq_true_eq]at hwo2
  obtain⟨ha,hr⟩:=hs.a hwo2.1
  have c0:=zkt (T:=T) s hs.ok w L[i] ht h1 hs.b hwo2.1 hwo2.2 ha hr ws
  have z0:=z3v ht hs.b hwo2.2 ha hr ws
  have zd:sz ((denE L[i]:Nat):Rat)≤1:=Nat.max_le.2 ⟨zae (by rw[Rat.num_natCast];simp;omega),zae (by rw[Rat.den_natCast];decide)⟩
  rw[Bool.true_and]
  generalize wtQ s.a L[i] s.b.length w=V at *
  generalize ((denE L[i]:Nat):Rat)=D at *
  have c1:=zej (T:=T) (fz V) (fz D) (by rw[zbg];omega) (by rw[zbg];omega)
  rw[zcw,zcw]at c1
  have zm:=zh5 V D
  have c2:=zht (T:=T) (fz (V*D)) (fz 1) (by rw[zbg];omega) (by rw[zbg,znx];omega)
  rw[zcw,zcw]at c2
  unfold stHo resHo
  obtain⟨nm,C,M,B,E⟩:=s
  dsimp only at *
  generalize intsN L[i]=Q at *
  generalize treeR L=R at *
  obtain⟨j0,a0⟩:=List.getElem?_eq_some_iff.1 e0
  have q0:=List.getElem?_eq_getElem j0
  clear hs hok z0 zm zd hwo
  refine⟨fun h=>?_,fun h=>?_⟩
  ·rw[h]at c2
   simp -implicitDefEqProofs[l613_0,hi,hiI,hws,c0,c1,c2,c3,c5,o1,hlt,hwt,hwQ,a0,q0]
  ·rw[h]at c2
   constructor<;>simp -implicitDefEqProofs[l613_0,hi,hiI,hws,c0,c1,c2,c3,c5,o1,hlt,hwt,hwQ,a0,q0]
theorem zacf(s:Sm)(hs:SmW s)(w:List Fz)(ws:∀x∈w,fsz x≤10)(L:List (List Nat))(hL:L.length≤9)(hok:∀t∈L,smallT (intsT t)=true∧chkT t=true) :
  loopN T 0 0 (.norm false []) l613_0 (stHo s w L 0)=resHo (L.all (goodW s w)):=by
 have key:=zbm (T:=T) (k:=0) (id:=0) (g2:=.norm false []) (c:=l613_0) (stHo s w L) L.length (fun i=>resHo ((L.drop i).all (goodW s w))) (fun i hi=>?_) ?_
 ·simpa using key
 ·obtain⟨h1,h2⟩:=zyg (T:=T) s hs w ws L hL hok i hi
  have hd:L.drop i=L[i]::L.drop (i+1):=(List.getElem_cons_drop ..).symm
  rw[hd,List.all_cons]
  cases hg:goodW s w L[i]with
  | true=>exact .inl ⟨h1 hg,by rw[Bool.true_and]⟩
  | false=>exact .inr (h2 hg)
 ·have hwt:=zbq L
  unfold stHo
  rw[List.drop_length]
  generalize treeR L=R at *
  obtain⟨nm,C,M,B,E⟩:=s
  constructor<;>simp -implicitDefEqProofs[l613_0,hwt,resHo]
theorem zmb(s:Sm)(hs:SmW s)(w:List Fz)(ws:∀x∈w,fsz x≤10)(n:Nat)(h1:1≤n)(hn:n<6) :
  callF T 613 [esm s,.sl (rowF w) .an,.i .i64 n]=some (.b (holW s w n)):=by
 have L:=zacf (T:=T) s hs w ws (trs n) (zr5 n hn).2 (fun t ht=>by
  have:=List.all_eq_true.1 (zr4 n hn) t ht
  simpa using this)
 have c:=zd3 (T:=T) n hn h1
 have hl:=zcv (trs n)
 have hwt:=zbq (trs n)
 unfold holW
 unfold stHo resHo at L
 generalize (trs n).all (goodW s w)=z at *
 rw[f613 _ rfl,b613]
 obtain⟨nm,C,M,B,E⟩:=s
 generalize treeR (trs n)=R at *
 rw[show (((0:Nat):Int))=0 from rfl]at L
 cases z<;>simp -implicitDefEqProofs[L,c,hl,hwt]
def stOf(s:Sm)(w:List Fz)(n:Nat):St:=⟨[(1,.sl (rowF w) .an),(2,.ptr (.loc 2) 1 5 0 0),(5,.i .i64 n)],[(.loc 2,⟨1,.str,5,[smC' s]⟩)],3⟩
theorem zno(s:Sm)(hs:SmW s)(w:List Fz)(ws:∀x∈w,fsz x≤10):callF T 611 [esm s,.sl (rowF w) .an]=some (.i .i64 (ordQ s w:Nat)):=by
 have key:=zbm (T:=T) (k:=0) (id:=0) (g2:=.norm false [5]) (c:=l611_0) (stOf s w) 5 (fun n=>some (.n,⟨[(5,.i .i64 (ordN s w (5-n) n:Nat))],[],2⟩)) (fun n hn=>?_) ?_
 ·unfold stOf at key
  rw[show (((0:Nat):Int))=0 from rfl,Nat.sub_zero,show ordN s w 5 0=ordQ s w from rfl]at key
  generalize ordQ s w=z at *
  rw[f611 _ rfl,b611]
  obtain⟨nm,C,M,B,E⟩:=s
  simp -implicitDefEqProofs[key]
 ·have c:=zmb (T:=T) s hs w ws (n+1) (by omega) (by omega)
  have hws:=zda hn (by omega)
  have hnI:(n:Int)<5:=by omega
  obtain⟨f,hf⟩:∃f,5-n=f+1:=⟨5-n-1,by omega⟩
  have hf2:5-(n+1)=f:=by omega
  have ee:ordN s w (f+1) n=if holW s w (n+1) then ordN s w f (n+1) else n:=rfl
  rw[hf,hf2,ee]
  unfold stOf
  cases hh:holW s w (n+1) with
  | true=>
   rw[hh]at c
   left
   refine⟨?_,by simp⟩
   obtain⟨nm,C,M,B,E⟩:=s
   simp only[Int.natCast_add,Int.natCast_one]at c hws
   simp -implicitDefEqProofs[l611_0,hn,hnI,hws,c]
  | false=>
   rw[hh]at c
   right
   obtain⟨nm,C,M,B,E⟩:=s
   simp only[Int.natCast_add,Int.natCast_one]at c hws
   constructor<;>simp -implicitDefEqProofs[l611_0,hn,hnI,hws,c]
 ·unfold stOf
  obtain⟨nm,C,M,B,E⟩:=s
  constructor<;>simp -implicitDefEqProofs[l611_0,ordN]
theorem zo5(s:Sm)(hs:SmW s)(wb:∀x∈s.b,fsz x≤10)(we:∀x∈s.e,fsz x≤10):callF T 604 [esm s]=some (.tup [.i .i64 (ordQ s s.b:Nat),.i .i64 (ordQ s s.e:Nat)]):=by
 have c1:=zno (T:=T) s hs s.b wb
 have c2:=zno (T:=T) s hs s.e we
 generalize ordQ s s.b=p at *
 generalize ordQ s s.e=q at *
 rw[f604 _ rfl,b604]
 obtain⟨nm,C,M,B,E⟩:=s
 dsimp only at *
 simp -implicitDefEqProofs[c1,c2]
end
def trsI(n:Int):List (List Nat):=if n<1∨5<n then [] else trs n.toNat
section
variable{T:Tbl}[CRef32 T]
def stSI(a b:List Nat)(x:Nat×Bool):St:=⟨[(0,.sl (intsN a) .an),(1,.sl (intsN b) .an),(5,.b x.2),(6,.i .i64 x.1)],[],2⟩
def stRR32(l:List Int)(i:Nat):St:=⟨[(0,.sl (ints l) .an),(3,.i .i64 ((i+1:Nat):Int))],[],2⟩
def resRR32(l:List Int)(b:Bool):Option (Ex×St):=if b then some (.n,⟨[(0,.sl (ints l) .an)],[],2⟩) else some (.r,⟨[(2,.b false)],[],2⟩)
def stEd(t:List Nat)(i j:Nat):St:=⟨[(0,.sl (intsN t) .an),(1,.i .i64 i),(5,.i .i64 ((i+1+j:Nat):Int))],[],2⟩
def stD32(t:List Nat)(i:Nat):St:=⟨[(0,.sl (intsN t) .an),(3,.i .i64 (denK t i:Nat)),(4,.i .i64 i)],[],2⟩
end
class CLaw31 (T:Tbl):Prop where
def smQ(p:List UInt8×List Rat×List (List Rat)×List Rat×List Rat):Sm:=⟨p.1,fzs p.2.1,p.2.2.1.map fzs,fzs p.2.2.2.1,fzs p.2.2.2.2⟩
def sumQ(l:List Rat):Rat:=l.foldl (fun s x=>s+x) 0
def smallQ(q:Rat):Bool:=decide (q.num.natAbs<4294967296)&&decide (q.den<4294967296)
def okQ(p:List UInt8×List Rat×List (List Rat)×List Rat×List Rat):Bool:=
 rightB 2 p.1&&shapeS (smQ p)&&p.2.2.1.all (fun r=>r.all smallQ)&&(p.2.2.2.1.all smallQ&&p.2.1.all smallQ&&p.2.2.2.2.all smallQ)
  && (p.2.2.1.zip p.2.1).all (fun z=>decide (sumQ z.1=z.2))&&decide (sumQ p.2.2.2.1=1)&&(p.2.2.2.2.isEmpty || decide (sumQ p.2.2.2.2=1))
def stkT:Nat→List UInt8
 | 0=>[101,117,108,101,114,10,48,124,10,98,32,49]
 | 1=>[104,101,117,110,10,48,124,10,49,124,49,10,98,32,49,47,50,44,49,47,50,10,101,32,49,44,48]
 | 2=>[109,105,100,112,111,105,110,116,10,48,124,10,49,47,50,124,49,47,50,10,98,32,48,44,49,10,101,32,49,44,48]
 | 3=>[114,107,52,10,48,124,10,49,47,50,124,49,47,50,10,49,47,50,124,48,44,49,47,50,10,49,124,48,44,48,44,49,10,98,32,49,47,54,44,49,47,51,44,49,47,51,44,49,47,54]
 | 4=>[98,115,50,51,10,48,124,10,49,47,50,124,49,47,50,10,51,47,52,124,48,44,51,47,52,10,49,124,50,47,57,44,49,47,51,44,52,47,57,10,98,32,50,47,57,44,49,47,51,44,52,47,57,44,48,10,101,32,55,47,50,52,44,49,47,52,44,49,47,51,44,49,47,56]
 | 5=>[100,112,52,53,10,48,124,10,49,47,53,124,49,47,53,10,51,47,49,48,124,51,47,52,48,44,57,47,52,48,10,52,47,53,124,52,52,47,52,53,44,45,53,54,47,49,53,44,51,50,47,57,10,56,47,57,124,49,57,51,55,50,47,54,53,54,49,44,45,50,53,51,54,48,47,50,49,56,55,44,54,52,52,52,56,47,54,53,54,49,44,45,50,49,50,47,55,50,57,10,49,124,57,48,49,55,47,51,49,54,56,44,45,51,53,53,47,51,51,44,52,54,55,51,50,47,53,50,52,55,44,52,57,47,49,55,54,44,45,53,49,48,51,47,49,56,54,53,54,10,49,124,51,53,47,51,56,52,44,48,44,53,48,48,47,49,49,49,51,44,49,50,53,47,49,57,50,44,45,50,49,56,55,47,54,55,56,52,44,49,49,47,56,52,10,98,32,51,53,47,51,56,52,44,48,44,53,48,48,47,49,49,49,51,44,49,50,53,47,49,57,50,44,45,50,49,56,55,47,54,55,56,52,44,49,49,47,56,52,44,48,10,101,32,53,49,55,57,47,53,55,54,48,48,44,48,44,55,53,55,49,47,49,54,54,57,53,44,51,57,51,47,54,52,48,44,45,57,50,48,57,55,47,51,51,57,50,48,48,44,49,56,55,47,50,49,48,48,44,49,47,52,48]
 | _=>[]
def stkN:Nat→List UInt8
 | 0=>[101,117,108,101,114]
 | 1=>[104,101,117,110]
 | 2=>[109,105,100,112,111,105,110,116]
 | 3=>[114,107,52]
 | 4=>[98,115,50,51]
 | 5=>[100,112,52,53]
 | _=>[]
def stkQ:Nat→List UInt8×List Rat×List (List Rat)×List Rat×List Rat
 | 0=>([101,117,108,101,114],[mkRat 0 1],[[]],[mkRat 1 1],[])
 | 1=>([104,101,117,110],[mkRat 0 1,mkRat 1 1],[[],[mkRat 1 1]],[mkRat 1 2,mkRat 1 2],[mkRat 1 1,mkRat 0 1])
 | 2=>([109,105,100,112,111,105,110,116],[mkRat 0 1,mkRat 1 2],[[],[mkRat 1 2]],[mkRat 0 1,mkRat 1 1],[mkRat 1 1,mkRat 0 1])
 | 3=>([114,107,52],[mkRat 0 1,mkRat 1 2,mkRat 1 2,mkRat 1 1],[[],[mkRat 1 2],[mkRat 0 1,mkRat 1 2],[mkRat 0 1,mkRat 0 1,mkRat 1 1]],[mkRat 1 6,mkRat 1 3,mkRat 1 3,mkRat 1 6],[])
 | 4=>([98,115,50,51],[mkRat 0 1,mkRat 1 2,mkRat 3 4,mkRat 1 1],[[],[mkRat 1 2],[mkRat 0 1,mkRat 3 4],[mkRat 2 9,mkRat 1 3,mkRat 4 9]],[mkRat 2 9,mkRat 1 3,mkRat 4 9,mkRat 0 1],[mkRat 7 24,mkRat 1 4,mkRat 1 3,mkRat 1 8])
 | 5=>([100,112,52,53],[mkRat 0 1,mkRat 1 5,mkRat 3 10,mkRat 4 5,mkRat 8 9,mkRat 1 1,mkRat 1 1],[[],[mkRat 1 5],[mkRat 3 40,mkRat 9 40],[mkRat 44 45,mkRat (-56) 15,mkRat 32 9],[mkRat 19372 6561,mkRat (-25360) 2187,mkRat 64448 6561,mkRat (-212) 729],[mkRat 9017 3168,mkRat (-355) 33,mkRat 46732 5247,mkRat 49 176,mkRat (-5103) 18656],[mkRat 35 384,mkRat 0 1,mkRat 500 1113,mkRat 125 192,mkRat (-2187) 6784,mkRat 11 84]],[mkRat 35 384,mkRat 0 1,mkRat 500 1113,mkRat 125 192,mkRat (-2187) 6784,mkRat 11 84,mkRat 0 1],[mkRat 5179 57600,mkRat 0 1,mkRat 7571 16695,mkRat 393 640,mkRat (-92097) 339200,mkRat 187 2100,mkRat 1 40])
 | _=>([],[],[],[],[])
def stkS(i:Nat):Sm:=smQ (stkQ i)
theorem ziy(l:List Rat):sumF (fzs l)=sumQ l:=by
 unfold sumF sumQ fzs
 rw[List.foldl_map]
 simp only[zcw]
theorem zer{q:Rat}(h:smallQ q=true):sz q≤1:=by
 unfold smallQ at h
 simp only[Bool.and_eq_true,decide_eq_true_eq]at h
 exact zab7 h.1 h.2
theorem zes{l:List Rat}(h:l.all smallQ=true):(fzs l).all numF=true:=by
 rw[List.all_eq_true]
 intro x hx
 unfold fzs at hx
 obtain⟨q,hq,rfl⟩:=List.mem_map.1 hx
 exact zo6 (by have:=zer (List.all_eq_true.1 h q hq);omega)
theorem z34(p:List UInt8×List Rat×List (List Rat)×List Rat×List Rat)(h:okQ p=true):okS (smQ p)=true:=by
 obtain⟨nm,c,a,b,e⟩:=p
 unfold okQ at h
 simp only[Bool.and_eq_true,decide_eq_true_eq,Bool.or_eq_true]at h
 obtain⟨⟨⟨⟨⟨⟨h1,h2⟩,h3⟩,⟨h4,h5⟩,h6⟩,h7⟩,h8⟩,h9⟩:=h
 have n1:numM (a.map fzs)=true:=by
  unfold numM
  rw[List.all_map,List.all_eq_true]
  intro r hr
  exact zes (List.all_eq_true.1 h3 r hr)
 have n2:numM [fzs b,fzs c,fzs e]=true:=by
  rw[zv9,zes h4,zes h5,zes h6]
  rfl
 have n3:rowsSm (a.map fzs) (fzs c)=true:=by
  unfold rowsSm
  rw[List.all_eq_true]at h7 ⊢
  intro z hz
  have e1:(a.map fzs).zip (fzs c)=(a.zip c).map fun z=>(fzs z.1,fz z.2):=by
   unfold fzs
   rw[List.zip_map]
   rfl
  rw[e1]at hz
  obtain⟨y,hy,rfl⟩:=List.mem_map.1 hz
  have:=h7 y hy
  rw[decide_eq_true_eq]at this ⊢
  rw[ziy,zcw]
  exact this
 have n4:sumF (fzs b)=1:=by rw[ziy];exact h8
 have n5:¬ (fzs e≠[]∧sumF (fzs e)≠1):=by
  rw[ziy]
  rintro⟨q1,q2⟩
  rcases h9 with h9 | h9
  ·cases e with
   | nil=>exact q1 rfl
   | cons x e=>simp at h9
  ·exact q2 h9
 unfold okS wrongS
 rw[show (smQ (nm,c,a,b,e)).nm=nm from rfl,show (smQ (nm,c,a,b,e)).a=a.map fzs from rfl,show (smQ (nm,c,a,b,e)).b=fzs b from rfl,show (smQ (nm,c,a,b,e)).c=fzs c from rfl,show (smQ (nm,c,a,b,e)).e=fzs e from rfl]
 rw[h1,h2,n1,n2,n3,if_neg n5]
 simp[n4]
def shortF(x:Fz):Bool:=decide ((textN (fv x).num.natAbs).length≤10)&&decide ((textN (fv x).den).length≤10)
theorem zmj:∀i,i<6→okQ (stkQ i)=true:=by decide +kernel
theorem zns{i:Nat}(h:i<6):okS (stkS i)=true:=z34 _ (zmj i h)
theorem zss:readR (stkT 0)=(stkS 0,0,0):=by kernel_rfl
theorem zst:readR (stkT 1)=(stkS 1,0,0):=by kernel_rfl
theorem zsu:readR (stkT 2)=(stkS 2,0,0):=by kernel_rfl
theorem zsv:readR (stkT 3)=(stkS 3,0,0):=by kernel_rfl
theorem zsw:readR (stkT 4)=(stkS 4,0,0):=by kernel_rfl
theorem zsx:readR (stkT 5)=(stkS 5,0,0):=by kernel_rfl
theorem zsy{i:Nat}(h:i<6):parseR (stkT i)=(stkS i,0,0):=by
 have hr:readR (stkT i)=(stkS i,0,0):=by
  match i,h with
  | 0,_=>exact zss
  | 1,_=>exact zst
  | 2,_=>exact zsu
  | 3,_=>exact zsv
  | 4,_=>exact zsw
  | 5,_=>exact zsx
 have hl:∀i,i<6→(stkT i).length≤4000:=by decide +kernel
 have:=hl i h
 obtain⟨_,hw⟩:=ziv (zns h)
 unfold parseR
 rw[if_neg (by omega),hr,if_neg (by simp),if_neg (by simp[hw])]
def getI(l:List UInt8)(i:Nat):Option Nat:=((List.range 6).drop i).find? fun j=>decide (stkN j=l)
theorem zsz(l:List UInt8){i:Nat}(h:i<6):getI l i=if stkN i=l then some i else getI l (i+1):=by
 unfold getI
 rw[List.drop_eq_getElem_cons (by simpa using h),List.find?_cons,List.getElem_range]
 by_cases e:stkN i=l<;>simp[e]
theorem zyy:∀i,i<6→hdC 10 (stkT i)=stkN i:=by decide +kernel
theorem znt:∀i,i<6→(stkT i).length≤1000:=by decide +kernel
def emS:Sm:=⟨[],[],[],[],[]⟩
def getS(l:List UInt8):Sm:=match getI l 0 with | some i=>stkS i | none=>emS
def hasS(l:List UInt8):Bool:=(getI l 0).isSome
theorem z35{s:Sm}(h:okS s=true):SmS s:=by
 obtain⟨H,_⟩:=ziv h
 have hn:=(zhy (zva h)).2
 have b8:=H.b8
 have al:=H.al
 have cl:=H.cl
 have el:=H.el
 refine⟨by omega,by omega,by omega,by omega,by omega,fun x hx=>?_,fun r hr=>⟨?_,fun x hx=>?_⟩,fun x hx=>?_,fun x hx=>?_⟩
 ·have:=zmd H.nc x hx;omega
 ·have q:=ze9 _ _ H.sh r hr;omega
 ·have:=zix H.na r hr x hx;omega
 ·have:=zmd H.nb x hx;omega
 ·have:=zmd H.ne x hx;omega
def texA:List AV:=[.s (stkT 0),.s (stkT 1),.s (stkT 2),.s (stkT 3),.s (stkT 4),.s (stkT 5)]
theorem zcc:∃a b c d e f:List UInt8,texA=[.s a,.s b,.s c,.s d,.s e,.s f]:=⟨_,_,_,_,_,_,rfl⟩
theorem zwa(i:Nat)(h:i<6):ixaAV 1 6 none (.agg texA) (.i .i64 i)=some (.s (stkT i)):=by
 match i,h with
 | 0,_=>rfl
 | 1,_=>rfl
 | 2,_=>rfl
 | 3,_=>rfl
 | 4,_=>rfl
 | 5,_=>rfl
def smC(s:Sm):List AV:=[.s s.nm,.sl (rowF s.c) .an,.sl (matF s.a) .an,.sl (rowF s.b) .an,.sl (rowF s.e) .an]
def rowN(n:Nat):List (List AV):=(List.range n).map fun i=>[.s (stkN i)]
def rowS(n:Nat):List (List AV):=(List.range n).map fun i=>smC (stkS i)
theorem zs0(n:Nat):rowS (n+1)=rowS n++[smC (stkS n)]:=by unfold rowS;rw[List.range_succ,List.map_append];rfl
theorem ziz(n:Nat):(rowS n).length=n:=by simp[rowS]
theorem znu{α:Type}(f:α→List AV)(h:∀a,wkR (f a)=f a):∀l:List α,wkL (l.map f)=l.map f
 | []=>rfl
 | a::l=>by rw[List.map_cons,wkL,h,znu f h l]
theorem z36(s:Sm):wkR (smC s)=smC s:=by
 unfold smC
 simp[zfc,zy9]
theorem zd5(n:Nat):wkL (rowS n)=rowS n:=znu _ (fun _=>z36 _) _
section
variable{T:Tbl}[CLimb T][CNat T][CProd T][CTwos T][CQuot T][CQuotD T][CDigits T][CText T][CWhole T][CCommon T][CFrac T][CFrac2 T][CFrac3 T][CFrac5 T][CStr T][CSplit T][CPow T][CFig T][CTape T][CGauge T][CEval T][CRun T][CIfc T][CJoin T][CRow T][CRow2 T][CRow5 T][CLex T][CScheme T][CSchP T][CStock T]
theorem zgz:callF T 609 []=some (.agg texA):=by
 rw[f609 _ rfl]
 kernel_rfl
theorem zpb(l:List UInt8)(h:l.length≤1000000):callF T 610 [.s l]=some (.s (hdC 10 l)):=by
 have c:=zrp (T:=T) l h
 unfold hdC
 rw[f610 _ rfl,b610]
 generalize List.takeWhile (fun x=>x != 10) l=A at *
 generalize List.drop 1 (List.dropWhile (fun x=>x != 10) l)=B at *
 generalize l.contains 10=C at *
 simp -implicitDefEqProofs[c]
theorem zg0(hcut:∀l:List UInt8,l.length≤1000000→callF T 184 [.s l,.s [124]]=some (.tup [.s (hdC 124 l),.s (tlC 124 l),.b (l.contains 124)])){i:Nat}(h:i<6):callF T 608 [.s (stkT i)]=some (.tup [esm (stkS i),flt 0 0]):=by
 have:=znt i h
 have q:=zsl (T:=T) hcut (stkT i) (by omega) (fun _ g=>zyt _ (by omega) g)
 rw[zsy h]at q
 exact q
def stGe(l:List UInt8)(i:Nat):St:=⟨[(0,.s l),(2,.ptr (.loc 2) 1 5 0 0),(8,.agg texA),(9,.i .i64 i)],[(.loc 2,⟨1,.str,5,[[.s [],.sl [] .an,.sl [] .an,.sl [] .an,.sl [] .an]]⟩)],3⟩
def endGe:Option Nat→Option (Ex×St)
 | some j=>some (.r,⟨[(2,.ptr (.loc 2) 1 5 0 0),(3,.b true)],[(.loc 2,⟨1,.str,5,[smC (stkS j)]⟩)],3⟩)
 | none=>some (.n,⟨[(2,.ptr (.loc 2) 1 5 0 0)],[(.loc 2,⟨1,.str,5,[[.s [],.sl [] .an,.sl [] .an,.sl [] .an,.sl [] .an]]⟩)],3⟩)
theorem zvf(hcut:∀l:List UInt8,l.length≤1000000→callF T 184 [.s l,.s [124]]=some (.tup [.s (hdC 124 l),.s (tlC 124 l),.b (l.contains 124)]))(l:List UInt8) :
  loopN T 0 0 (.norm false [2]) l603_0 (stGe l 0)=endGe (getI l 0):=by
 refine zbm (stGe l) 6 (fun i=>endGe (getI l i)) (fun i hi=>?_) ?_
 ·have hi':(i:Int)<6:=by omega
  have hws:=zda hi (by omega)
  have ha:=zwa i hi
  have c1:=zpb (T:=T) (stkT i) (by have:=znt i hi;omega)
  rw[zyy i hi]at c1
  have c2:=zg0 (T:=T) hcut hi
  clear hcut
  rw[zsz l hi]
  unfold stGe
  obtain⟨u0,u1,u2,u3,u4,u5,hA⟩:=zcc
  rw[hA]at ha ⊢
  clear hA
  by_cases e:stkN i=l
  ·right
   rw[if_pos e]
   unfold endGe smC
   dsimp only
   generalize stkS i=S at *
   obtain⟨nm,C,M,B,E⟩:=S
   generalize stkT i=X at *
   generalize stkN i=N at *
   subst e
   dsimp only at *
   constructor<;>simp -implicitDefEqProofs[-ixaAV,l603_0,hi,hi',hws,ha,c1,c2]
  ·left
   rw[if_neg e]
   clear c2
   generalize stkT i=X at *
   generalize stkN i=N at *
   refine⟨?_,rfl⟩
   simp -implicitDefEqProofs[-ixaAV,l603_0,hi,hi',hws,ha,c1,e]
 ·have e0:getI l 6=none:=rfl
  rw[e0]
  unfold stGe endGe
  obtain⟨u0,u1,u2,u3,u4,u5,hA⟩:=zcc
  rw[hA]
  clear hA
  constructor<;>simp -implicitDefEqProofs[l603_0]
theorem zs1(hcut:∀l:List UInt8,l.length≤1000000→callF T 184 [.s l,.s [124]]=some (.tup [.s (hdC 124 l),.s (tlC 124 l),.b (l.contains 124)]))(l:List UInt8) :
  callF T 603 [.s l]=some (.tup [esm (getS l),.b (hasS l)]):=by
 have L:=zvf (T:=T) hcut l
 have ct:=zgz (T:=T)
 unfold stGe at L
 simp only[Int.natCast_zero]at L
 unfold getS hasS
 rw[f603 _ rfl,b603]
 clear hcut
 cases hg:getI l 0 with
 | none=>
  rw[hg]at L
  unfold endGe at L
  dsimp only at L
  clear hg
  obtain⟨u0,u1,u2,u3,u4,u5,hA⟩:=zcc
  rw[hA]at L ct
  clear hA
  have e0:esm emS=.agg [.s [],.sl [] .an,.sl [] .an,.sl [] .an,.sl [] .an]:=rfl
  simp only[e0]
  simp -implicitDefEqProofs[L,ct]
 | some j=>
  rw[hg]at L
  unfold endGe smC at L
  dsimp only at L ⊢
  clear hg
  obtain⟨u0,u1,u2,u3,u4,u5,hA⟩:=zcc
  rw[hA]at L ct
  clear hA
  simp only[Option.isSome_some]
  generalize stkS j=S at *
  obtain⟨nm,C,M,B,E⟩:=S
  dsimp only at *
  simp -implicitDefEqProofs[L,ct]
def findR(l:List UInt8):Sm×Int×Int:=if hasS l=true then (getS l,0,0) else parseR l
def stNms(i:Nat):St:=⟨[(1,.bs (.loc 1) 1 1 0 i),(4,.agg texA),(5,.i .i64 i)],[(.loc 1,⟨1,.own,1,rowN i⟩)],3⟩
def stAl(i:Nat):St:=⟨[(1,.bs (.loc 1) 1 5 0 i),(6,.agg texA),(7,.i .i64 i)],[(.loc 1,⟨1,.own,5,rowS i⟩)],3⟩
theorem zvg(hcut:∀l:List UInt8,l.length≤1000000→callF T 184 [.s l,.s [124]]=some (.tup [.s (hdC 124 l),.s (tlC 124 l),.b (l.contains 124)])) :
  loopN T 0 0 (.norm false [1]) l634_0 (stAl 0)=some (.n,⟨[(1,.bs (.loc 1) 1 5 0 6)],[(.loc 1,⟨1,.own,5,rowS 6⟩)],3⟩):=by
 refine za0 stAl 6 _ (fun i hi=>?_) ?_
 ·have hi':(i:Int)<6:=by omega
  have hws:=zda hi (by omega)
  have ha:=zwa i hi
  have c2:=zg0 (T:=T) hcut hi
  clear hcut
  have hl:=ziz i
  have hc:i≤4294967295:=by omega
  have hw2:=zd5 (i+1)
  unfold stAl
  rw[zs0]at hw2 ⊢
  unfold smC at hw2 ⊢
  have ht:List.take i (rowS i)=rowS i:=List.take_of_length_le (by omega)
  have hw:wkL (rowS i)=rowS i:=zd5 _
  generalize rowS i=R at *
  obtain⟨u0,u1,u2,u3,u4,u5,hA⟩:=zcc
  rw[hA]at ha ⊢
  clear hA
  generalize stkT i=X at *
  generalize stkS i=S at *
  obtain⟨nm,C,M,B,E⟩:=S
  dsimp only at *
  simp -implicitDefEqProofs[-ixaAV,l634_0,hi,hi',hws,ha,c2,ht,hl,hw,hc,hw2]
 ·clear hcut
  unfold stAl
  obtain⟨u0,u1,u2,u3,u4,u5,hA⟩:=zcc
  rw[hA]
  clear hA
  have hl:=ziz 6
  have hw:=zd5 6
  generalize rowS 6=R at *
  constructor<;>simp -implicitDefEqProofs[l634_0,hl,hw]
theorem zs2(hcut:∀l:List UInt8,l.length≤1000000→callF T 184 [.s l,.s [124]]=some (.tup [.s (hdC 124 l),.s (tlC 124 l),.b (l.contains 124)])):callF T 634 []=some (.sl (rowS 6) .an):=by
 have L:=zvg (T:=T) hcut
 have ct:=zgz (T:=T)
 clear hcut
 unfold stAl at L
 have e0:rowS 0=[]:=rfl
 rw[e0]at L
 simp only[Int.natCast_zero]at L
 have hl:=ziz 6
 have hw:wkL (rowS 6)=rowS 6:=zd5 _
 have ht:List.take 6 (rowS 6)=rowS 6:=List.take_of_length_le (by omega)
 rw[f634 _ rfl,b634]
 obtain⟨u0,u1,u2,u3,u4,u5,hA⟩:=zcc
 rw[hA]at L ct
 clear hA
 generalize rowS 6=R at *
 simp -implicitDefEqProofs[L,ct,hl,hw,ht]
end
theorem zyz{i:Nat}(h:i<6):(rowS 6)[i]? = some (smC (stkS i)):=by
 unfold rowS
 simp[h]
section
variable{T:Tbl}[CLimb T][CNat T][CProd T][CTwos T][CQuot T][CQuotD T][CDigits T][CText T][CWhole T][CCommon T][CFrac T][CFrac2 T][CFrac3 T][CFrac5 T][CStr T][CSplit T][CPow T][CFig T][CTape T][CGauge T][CEval T][CRun T][CIfc T][CJoin T][CRow T][CRow2 T][CRow5 T][CLex T][CScheme T][CSchP T][CSchT T][CStock T][CLaw31 T][CLaw30 T]
def stRgt(i:Nat):St:=⟨[(1,.sl (rowS 6) .an),(2,.sl (rowN 6) .an),(3,.i .i64 i)],[],2⟩
end
def dotP:List Rat→List Rat→Rat
 | x::a,y::b=>x*y+dotP a b
 | _,_=>0
theorem zl5:∀(a b:List Rat),dotQ (fzs a) (fzs b)=dotP a b
 | [],b=>by cases b<;>rfl
 | x::a,[]=>rfl
 | x::a,y::b=>by
  rw[show fzs (x::a)=fz x::fzs a from rfl,show fzs (y::b)=fz y::fzs b from rfl,dotQ,dotP,zcw,zcw,zl5 a b]
def wtSP(a:List (List Rat))(t:List Nat)(i:Nat)(N:List (List Rat)):List (List Rat):=
 N.set (parN t i) (mulR (N[parN t i]?.getD []) (a.map fun r=>dotP r (N[i]?.getD [])))
def wtJP(a:List (List Rat))(t:List Nat)(m:Nat):Nat→List (List Rat)
 | 0=>List.replicate t.length (List.replicate m 1)
 | j+1=>wtSP a t (t.length-1-j) (wtJP a t m j)
def wtP(a:List (List Rat))(t:List Nat)(m:Nat)(w:List Rat):Rat:=dotP w (row0 (wtJP a t m (t.length-1)))
theorem zrm(a:List (List Rat))(t:List Nat)(m:Nat):∀j,wtJ (a.map fzs) t m j=wtJP a t m j
 | 0=>rfl
 | j+1=>by
  rw[wtJ,wtJP,zrm a t m j]
  unfold wtS wtSP belQ
  rw[List.map_map]
  simp only[Function.comp_def,zl5]
theorem z3h(a:List (List Rat))(t:List Nat)(m:Nat)(w:List Rat):wtQ (a.map fzs) t m (fzs w)=wtP a t m w:=by
 unfold wtQ wtP
 rw[zrm,zl5]
def holP(a:List (List Rat))(m:Nat)(w:List Rat)(n:Nat):Bool:=(trs n).all fun t=>decide (wtP a t m w*(denE t:Nat)=1)
def ordNP(a:List (List Rat))(m:Nat)(w:List Rat):Nat→Nat→Nat
 | 0,n=>n
 | f+1,n=>if holP a m w (n+1) then ordNP a m w f (n+1) else n
def ordP(p:List UInt8×List Rat×List (List Rat)×List Rat×List Rat)(w:List Rat):Nat:=if w.length=p.2.2.2.1.length then ordNP p.2.2.1 p.2.2.2.1.length w 5 0 else 0
def wantO:Nat→Nat×Nat
 | 0=>(1,0)
 | 1=>(2,1)
 | 2=>(2,1)
 | 3=>(4,0)
 | 4=>(3,2)
 | 5=>(5,4)
 | _=>(0,0)
theorem zx2:∀i,i<6→(ordP (stkQ i) (stkQ i).2.2.2.1,ordP (stkQ i) (stkQ i).2.2.2.2)=wantO i:=by decide +kernel
theorem zrn(p:List UInt8×List Rat×List (List Rat)×List Rat×List Rat)(h:okS (smQ p)=true)(w:List Rat):ordQ (smQ p) (fzs w)=ordP p w:=by
 have eb:(smQ p).b.length=p.2.2.2.1.length:=by unfold smQ;simp
 have ea:(smQ p).a=p.2.2.1.map fzs:=rfl
 by_cases hw:w.length=p.2.2.2.1.length
 ·have ho:wOk (smQ p) (fzs w)=true:=by
   unfold wOk
   rw[h,eb,zat,hw]
   simp
  have hh:∀n,holW (smQ p) (fzs w) n=holP p.2.2.1 p.2.2.2.1.length w n:=by
   intro n
   unfold holW holP goodW
   rw[ho,eb,ea]
   simp only[z3h,Bool.true_and]
  have key:∀f n,ordN (smQ p) (fzs w) f n=ordNP p.2.2.1 p.2.2.2.1.length w f n:=by
   intro f
   induction f with
   | zero=>intro n;rfl
   | succ f ih=>intro n;rw[ordN,ordNP,hh,ih]
  unfold ordQ ordP
  rw[if_pos hw,key]
 ·have ho:wOk (smQ p) (fzs w)=false:=by
   unfold wOk
   rw[eb,zat]
   simp[hw]
  have h1:holW (smQ p) (fzs w) 1=false:=by
   unfold holW goodW
   rw[ho]
   rfl
  unfold ordQ ordP
  rw[if_neg hw,ordN,h1]
  rfl
theorem z3i:∀i,i<6→(stkQ i).2.2.2.1.length≤7:=by decide
theorem zki:∀(l:List (List Fz)) (i k:Nat) (r:List Fz),shapeL l i=true→l[k]? = some r→r.length=i+k
 | [],i,k,r,_,h=>by simp at h
 | a::l,i,k,r,hs,h=>by
  rw[shapeL,Bool.and_eq_true,decide_eq_true_eq]at hs
  cases k with
  | zero=>
   rw[List.getElem?_cons_zero]at h
   cases h
   exact hs.1
  | succ k=>
   rw[List.getElem?_cons_succ]at h
   have:=zki l (i+1) k r hs.2 h
   omega
theorem z3j{s:Sm}(hs:SmS s)(hb:s.b.length≤7)(ha:∀r∈s.a,∀x∈r,fsz x≤2):SmW s:=by
 refine⟨hs,hb,fun ok=>?_⟩
 obtain⟨H,_⟩:=ziv ok
 exact⟨H.al,fun k r h=>⟨by have:=zki _ _ k r H.sh h;omega,ha r (List.mem_of_getElem? h)⟩⟩
theorem zx3{i:Nat}(h:i<6):SmW (stkS i):=by
 have ok:=zns h
 refine z3j (z35 ok) (by have:=z3i i h;unfold stkS smQ;simpa using this) ?_
 have hq:=zmj i h
 unfold okQ at hq
 simp only[Bool.and_eq_true,decide_eq_true_eq,Bool.or_eq_true]at hq
 obtain⟨⟨⟨⟨⟨⟨_,_⟩,h3⟩,_⟩,_⟩,_⟩,_⟩:=hq
 intro r hr x hx
 obtain⟨q,hq,rfl⟩:=List.mem_map.1 hr
 obtain⟨z,hz,rfl⟩:=List.mem_map.1 hx
 rw[zbg]
 have:=zer (List.all_eq_true.1 (List.all_eq_true.1 h3 q hq) z hz)
 omega
theorem z3k{i:Nat}(h:i<6):(∀x∈(stkS i).b,fsz x≤10)∧∀x∈(stkS i).e,fsz x≤10:=by
 have hq:=zmj i h
 unfold okQ at hq
 simp only[Bool.and_eq_true,decide_eq_true_eq,Bool.or_eq_true]at hq
 obtain⟨⟨⟨⟨⟨⟨_,_⟩,_⟩,⟨h4,_⟩,h6⟩,_⟩,_⟩,_⟩:=hq
 constructor
 ·intro x hx
  obtain⟨z,hz,rfl⟩:=List.mem_map.1 hx
  rw[zbg]
  have:=zer (List.all_eq_true.1 h4 z hz)
  omega
 ·intro x hx
  obtain⟨z,hz,rfl⟩:=List.mem_map.1 hx
  rw[zbg]
  have:=zer (List.all_eq_true.1 h6 z hz)
  omega
section
variable{T:Tbl}[CLimb T][CNat T][CProd T][CTwos T][CQuot T][CQuotD T][CDigits T][CText T][CWhole T][CCommon T][CFrac T][CFrac2 T][CFrac3 T][CFrac5 T][CStr T][CSplit T][CPow T][CFig T][CTape T][CGauge T][CEval T][CRun T][CIfc T][CJoin T][CRow T][CRow2 T][CRow5 T][CLex T][CScheme T][CSchP T][CSchT T][CStock T][COrder T][COrder2 T][CRef32 T][CLaw32 T]
theorem zni{i:Nat}(h:i<6):callF T 604 [esm (stkS i)]=some (.tup [.i .i64 ((wantO i).1:Nat),.i .i64 ((wantO i).2:Nat)]):=by
 have c:=zo5 (T:=T) (stkS i) (zx3 h) (z3k h).1 (z3k h).2
 have e:=zx2 i h
 have e1:=zrn (stkQ i) (zns h) (stkQ i).2.2.2.1
 have e2:=zrn (stkQ i) (zns h) (stkQ i).2.2.2.2
 rw[show ordQ (stkS i) (stkS i).b=_ from e1,show ordQ (stkS i) (stkS i).e=_ from e2]at c
 rw[c,←e]
theorem zl6:callF T 588 []=some (.b true):=by
 have hcut:∀l:List UInt8,l.length≤1000000→callF T 184 [.s l,.s [124]]=some (.tup [.s (hdC 124 l),.s (tlC 124 l),.b (l.contains 124)]):=fun l h=>by rw[p184,zfd l h];rfl
 have c1:=zs1 (T:=T) hcut [104,101,117,110]
 have e1:getS [104,101,117,110]=stkS 1:=rfl
 have e2:hasS [104,101,117,110]=true:=rfl
 rw[e1,e2]at c1
 have c2:=zni (T:=T) (i:=1) (by decide)
 rw[show ((wantO 1).1:Nat)=2 from rfl,show ((wantO 1).2:Nat)=1 from rfl,show (((2:Nat):Int))=2 from rfl,show (((1:Nat):Int))=1 from rfl]at c2
 have c3:=zd3 (T:=T) 3 (by decide) (by decide)
 have hl3:(treeR (trs 3)).length=2:=rfl
 have hw3:=zbq (trs 3)
 obtain⟨ht,hs⟩:chkT [0,1,2]=true∧smallT (intsT [0,1,2])=true:=by decide
 have c4:=zen (T:=T) (zwi ht) hs
 have e4:denE [0,1,2]=6:=by decide
 rw[e4]at c4
 have e5:intsN [0,1,2]=[[.i .i64 0],[.i .i64 1],[.i .i64 2]]:=rfl
 rw[e5,show (((6:Nat):Int))=6 from rfl]at c4
 rw[show (((3:Nat):Int))=3 from rfl]at c3
 clear hcut e1 e2
 generalize stkS 1=S at *
 obtain⟨nm,C,M,B,E⟩:=S
 generalize treeR (trs 3)=R at *
 rw[f588 _ rfl,b588]
 simp -implicitDefEqProofs[c1,c2,c3,c4,hl3,hw3]
def stOT(l:List Int)(L:List (List Nat))(i:Nat):St:=⟨[(1,.sl (ints l) .an),(5,.sl (treeR L) .an),(6,.sl (treeR L) .an),(7,.i .i64 i)],[],2⟩
end
def cumT:Nat→Nat
 | 0=>0
 | 1=>1
 | 2=>2
 | 3=>4
 | 4=>8
 | _=>17
theorem z3l:∀i,i<5→cumT (i+1)=cumT i+(trs (i+1)).length∧cumT i≤17:=by decide
def wantC:List AV:=[.i .i64 1,.i .i64 0,.i .i64 2,.i .i64 1,.i .i64 2,.i .i64 1,.i .i64 4,.i .i64 0,.i .i64 3,.i .i64 2,.i .i64 5,.i .i64 4]
section
variable{T:Tbl}[CLimb T][CNat T][CProd T][CTwos T][CQuot T][CQuotD T][CDigits T][CText T][CWhole T][CCommon T][CFrac T][CFrac2 T][CFrac3 T][CFrac5 T][CStr T][CSplit T][CPow T][CFig T][CTape T][CGauge T][CEval T][CRun T][CIfc T][CJoin T][CRow T][CRow2 T][CRow5 T][CLex T][CScheme T][CSchP T][CSchT T][CStock T][COrder T][COrder2 T][CRef32 T][CLaw32 T][CLaw32s T]
def stSa(i:Nat):St:=⟨[(1,.ptr (.loc 1) 1 12 0 0),(2,.sl (rowS 6) .an),(3,.i .i64 (cumT i:Nat)),(4,.i .i64 ((i+1:Nat):Int))],[(.loc 1,⟨1,.str,12,[wantC]⟩)],3⟩
theorem z3m:loopN T 0 0 (.norm false [1,2,3]) l639_0 (stSa 0)=some (.n,⟨[(1,.ptr (.loc 1) 1 12 0 0),(2,.sl (rowS 6) .an),(3,.i .i64 17)],[(.loc 1,⟨1,.str,12,[wantC]⟩)],3⟩):=by
 have w1:=zd5 6
 refine za0 stSa 5 _ (fun i hi=>?_) ?_
 ·obtain⟨e,b⟩:=z3l i hi
  have c:=zd3 (T:=T) (i+1) (by omega) (by omega)
  have hl:=zcv (trs (i+1))
  have h9:=(zr5 (i+1) (by omega)).2
  have hi':(i:Int)+1≤5:=by omega
  have hws:IntKind.wrap .i64 ((i:Int)+1+1)=(i:Int)+1+1:=inRg _ (by omega) (by omega)
  have hwc:IntKind.wrap .i64 ((cumT i:Int)+((trs (i+1)).length:Int))=((cumT (i+1):Nat):Int):=by
   rw[e,inRg _ (by omega) (by omega)]
   omega
  unfold stSa wantC
  generalize cumT (i+1)=Q at *
  generalize cumT i=P at *
  generalize trs (i+1)=TT at *
  generalize treeR TT=R at *
  generalize rowS 6=RS at *
  simp only[Int.natCast_add,Int.natCast_one]at c ⊢
  simp -implicitDefEqProofs[l639_0,hi',hws,c,hl,hwc,w1]
 ·unfold stSa wantC
  generalize rowS 6=RS at *
  constructor<;>simp -implicitDefEqProofs[l639_0,w1,cumT]
def stSb(i:Nat):St:=⟨[(1,.ptr (.loc 1) 1 12 0 0),(2,.sl (rowS 6) .an),(5,.i .i64 i)],[(.loc 1,⟨1,.str,12,[wantC]⟩)],3⟩
theorem z3n:loopN T 0 2 (.norm false []) l639_1 (stSb 0)=some (.n,⟨[],[],2⟩):=by
 have w1:=zd5 6
 have hl:(rowS 6).length=6:=rfl
 refine za0 stSb 6 _ (fun i hi=>?_) ?_
 ·have hi':(i:Int)<6:=by omega
  have hws:=zda hi (by omega)
  have a1:=zyz hi
  have c:=zni (T:=T) hi
  unfold stSb wantC
  unfold smC at a1
  generalize rowS 6=RS at *
  generalize stkS i=S at *
  obtain⟨nm,C,M,B,E⟩:=S
  obtain⟨j0,a0⟩:=List.getElem?_eq_some_iff.1 a1
  have q0:=List.getElem?_eq_getElem j0
  obtain rfl | rfl | rfl | rfl | rfl | rfl:i=0∨i=1∨i=2∨i=3∨i=4∨i=5:=by omega
  all_goals
   simp only[wantO,Int.natCast_zero,Int.natCast_one,Int.cast_ofNat_Int]at c
   simp -implicitDefEqProofs[l639_1,hl,w1,a0,q0,c]
 ·unfold stSb wantC
  generalize rowS 6=RS at *
  constructor<;>simp -implicitDefEqProofs[l639_1,w1,hl]
theorem zl7:callF T 639 []=some (.b true):=by
 have hcut:∀l:List UInt8,l.length≤1000000→callF T 184 [.s l,.s [124]]=some (.tup [.s (hdC 124 l),.s (tlC 124 l),.b (l.contains 124)]):=fun l h=>by rw[p184,zfd l h];rfl
 have c1:=zs2 (T:=T) hcut
 have c2:=zl6 (T:=T)
 have L0:=z3m (T:=T)
 have L1:=z3n (T:=T)
 have w1:=zd5 6
 have hl:(rowS 6).length=6:=rfl
 clear hcut
 unfold stSa wantC at L0
 unfold stSb wantC at L1
 simp only[cumT,Nat.zero_add]at L0
 rw[show (((0:Nat):Int))=0 from rfl,show (((1:Nat):Int))=1 from rfl]at L0
 rw[show (((0:Nat):Int))=0 from rfl]at L1
 generalize rowS 6=RS at *
 rw[f639 _ rfl,b639]
 simp -implicitDefEqProofs[c1,c2,L0,L1,w1,hl]
end
end Go.Ab