/-
  A calculus of values, boxes and code, and what functions of the program compute, proved in it.
  Conditions: none beyond those that the theorems state. (Part 7.)
-/
import Derived.Test.YtebcadckeepbdaaGreatDoorPart6
import Derived.Test.YtebcadckeepbdaaGreatDoorRows
import Derived.Test.YtebcadckeepbdaaGreatDoorCards
import Derived.Test.YtebcadckeepbdaaGreatDoorTie
import Derived.ProofKit
import Derived.LaidMore
import Derived.OpenShut
import Derived.Stop.Joined
import Derived.SevenTiedAt
import Derived.Lib.LaidU8
import Derived.Lib.IndexAny
import Derived.Lib.Bytealg

set_option linter.unusedSectionVars false
set_option linter.unusedVariables false
set_option linter.unusedSimpArgs false
set_option linter.unnecessarySimpa false

namespace Go.Ab
section
variable{T:Tbl}[CRef02 T][CRef04 T][CRef05 T][CRef07 T][CRef06 T][CRef08 T][CRef09 T][CRef11 T]
def stZ1(n i:Nat):St:=⟨[(0,.i .i64 n),(3,.bs (.loc 3) 1 3 0 i),(4,.i .i64 i)],[(.loc 3,⟨1,.own,3,rowF (List.replicate i (fz 0))⟩)],3⟩
def stN1(l:List Fz)(i:Nat):St:=⟨[(0,.sl (rowF l) .an),(3,.bs (.loc 3) 1 3 0 i),(4,.i .i64 i)],[(.loc 3,⟨1,.own,3,rowF (nrm (l.take i))⟩)],3⟩
theorem zqb(l:List Fz)(hl:l.length≤1000)(hw:∀x∈l,fsz x≤1000) :
  loopN T 0 0 (.norm false [3]) l278_0 (stN1 l 0)=some (.n,⟨[(3,.bs (.loc 3) 1 3 0 l.length)],[(.loc 3,⟨1,.own,3,rowF (nrm l)⟩)],3⟩):=by
 refine za6 (stN1 l) l.length _ (fun i hi=>?_) ?_
 ·have hg:l[i]? = some (l[i]'hi):=List.getElem?_eq_getElem hi
  have hws:=zcy hi (by omega)
  have hn:=zcc (T:=T) (l[i]'hi) (Nat.le_trans (hw _ (List.getElem_mem hi)) (by decide))
  have e:nrm (l.take (i+1))=nrm (l.take i)++[fz (fv (l[i]'hi))]:=zbt l _ hi
  have hml:(nrm (l.take i)).length=i:=by simp[nrm];omega
  have hp:=zcp hml (fz (fv (l[i]'hi)))
  unfold stN1
  rw[e]
  clear e
  generalize nrm (l.take i)=M at *
  generalize fz (fv (l[i]'hi))=z at *
  have hb:i≤4294967295:=by omega
  simp -implicitDefEqProofs[l278_0,hi,hg,hws,hn,hp,hml,hb]
 ·unfold stN1
  rw[List.take_of_length_le (Nat.le_refl _)]
  generalize nrm l=M
  constructor<;>simp -implicitDefEqProofs[l278_0]
theorem zdj(l:List Fz)(hl:l.length≤1000)(hw:∀x∈l,fsz x≤1000):callF T 278 [.sl (rowF l) .an]=some (.sl (rowF (nrm l)) .an):=by
 have h:=zqb (T:=T) l hl hw
 unfold stN1 at h
 have e:nrm (l.take 0)=[]:=rfl
 rw[e]at h
 simp only[zb8,Int.natCast_zero]at h
 have hl2:(nrm l).length=l.length:=by simp[nrm]
 have ht:List.take l.length (nrm l)=nrm l:=List.take_of_length_le (by omega)
 rw[f278 _ rfl,b278]
 simp -implicitDefEqProofs[h,ht,hl2]
def stS1(a b:List Fz)(i:Nat):St:=⟨[(0,.sl (rowF a) .an),(1,.sl (rowF b) .an),(5,.i .i64 i)],[],2⟩
theorem zqc(a b:List Fz)(hab:a.length=b.length)(hl:a.length≤1000)(ha:∀x∈a,fsz x≤10000) :
  loopN T 0 0 (.norm false []) l279_0 (stS1 a b 0)=if a.drop 0=b.drop 0 then some (.n,⟨[],[],2⟩) else some (.r,⟨[(4,.b false)],[],2⟩):=by
 refine zca (stS1 a b) a.length (fun i=>if a.drop i=b.drop i then some (.n,⟨[],[],2⟩) else some (.r,⟨[(4,.b false)],[],2⟩)) (fun i hi=>?_) ?_
 ·have hga:a[i]? = some (a[i]'hi):=List.getElem?_eq_getElem hi
  have hib:i<b.length:=by omega
  have hgb:b[i]? = some (b[i]'hib):=List.getElem?_eq_getElem hib
  have hws:=zcy hi (by omega)
  have c:=zi4 (T:=T) (a[i]'hi) (b[i]'hib) (ha _ (List.getElem_mem hi))
  have hib':(i:Int)<b.length:=by omega
  have key:(a.drop i=b.drop i)↔((a[i]'hi)=(b[i]'hib)∧a.drop (i+1)=b.drop (i+1)):=by
   rw[List.drop_eq_getElem_cons hi,List.drop_eq_getElem_cons hib,List.cons.injEq]
  by_cases he:(a[i]'hi)=(b[i]'hib)
  ·left
   refine⟨?_,by simp only[key,he,true_and]⟩
   unfold stS1
   rw[decide_eq_true he]at c
   clear he
   simp -implicitDefEqProofs[l279_0,hi,hga,hgb,hws,c,hib,hib']
  ·right
   rw[if_neg (fun h=>he (key.1 h).1)]
   unfold stS1
   rw[decide_eq_false he]at c
   clear he
   constructor<;>simp -implicitDefEqProofs[l279_0,hi,hga,hgb,hws,c,hib,hib']
 ·rw[List.drop_length,if_pos (by rw[hab,List.drop_length])]
  unfold stS1
  constructor<;>simp -implicitDefEqProofs[l279_0]
theorem zi6(a b:List Fz)(hl:a.length≤1000)(ha:∀x∈a,fsz x≤10000):callF T 279 [.sl (rowF a) .an,.sl (rowF b) .an]=some (.b (decide (a=b))):=by
 rw[f279 _ rfl,b279]
 by_cases hab:a.length=b.length
 ·have h:=zqc (T:=T) a b hab hl ha
  rw[List.drop_zero,List.drop_zero]at h
  unfold stS1 at h
  simp only[Int.natCast_zero]at h
  have hab':(b.length:Int)=a.length:=by omega
  by_cases he:a=b
  ·subst he
   rw[if_pos rfl]at h
   simp -implicitDefEqProofs[h]
  ·rw[if_neg he]at h
   simp -implicitDefEqProofs[hab',h,he]
 ·have he:¬ a=b:=fun h=>hab (by rw[h])
  have hab':¬ (a.length:Int)=b.length:=by omega
  simp -implicitDefEqProofs[hab,hab',he]
def stA1(p q:List Rat)(i:Nat):St:=⟨[(0,.sl (rowF (fzs p)) .an),(1,.sl (rowF (fzs q)) .an),(5,.bs (.loc 5) 1 3 0 i),(6,.i .i64 i)],[(.loc 5,⟨1,.own,3,rowF (fzs ((addP p (fzs q)).take i))⟩)],3⟩
theorem ztq(p q:List Rat)(hpq:q.length=p.length)(hl:p.length≤1000)(hp:∀x∈p,sz x≤1000)(hq:∀x∈q,sz x≤1000) :
  loopN T 0 0 (.norm false [5]) l280_0 (stA1 p q 0)=some (.n,⟨[(5,.bs (.loc 5) 1 3 0 p.length)],[(.loc 5,⟨1,.own,3,rowF (fzs (addP p (fzs q)))⟩)],3⟩):=by
 have hL:(addP p (fzs q)).length=p.length:=zbw (by simpa using hpq)
 refine za6 (stA1 p q) p.length _ (fun i hi=>?_) ?_
 ·have hiq:i<q.length:=by omega
  have hga:=zfw (List.getElem?_eq_getElem hi)
  have hgb:=zfw (List.getElem?_eq_getElem hiq)
  have hws:=zcy hi (by omega)
  have c:=zi5 (T:=T) (p[i]'hi) (q[i]'hiq) (hp _ (List.getElem_mem hi)) (hq _ (List.getElem_mem hiq))
  have e1:(addP p (fzs q))[i]'(by omega)=p[i]'hi+q[i]'hiq:=by simp[addP,fzs]
  have e:fzs ((addP p (fzs q)).take (i+1))=fzs ((addP p (fzs q)).take i)++[fz (p[i]'hi+q[i]'hiq)]:=by
   rw[←e1]
   exact zbt _ fz (by omega)
  have hml:(fzs ((addP p (fzs q)).take i)).length=i:=by simp;omega
  have hpu:=zcp hml (fz (p[i]'hi+q[i]'hiq))
  have la:(fzs p).length=p.length:=by simp
  have lb:(fzs q).length=q.length:=by simp
  unfold stA1
  rw[e]
  clear e e1
  generalize fzs ((addP p (fzs q)).take i)=M at *
  generalize fz (p[i]'hi+q[i]'hiq)=z at *
  generalize fz (p[i]'hi)=x at *
  generalize fz (q[i]'hiq)=y at *
  generalize fzs p=A at *
  generalize fzs q=B at *
  have hb:i≤4294967295:=by omega
  have hA:i<A.length:=by omega
  have hB:i<B.length:=by omega
  have hA':(i:Int)<A.length:=by omega
  have hB':(i:Int)<B.length:=by omega
  clear la lb
  obtain⟨_,gA⟩:=List.getElem?_eq_some_iff.1 hga
  obtain⟨_,gB⟩:=List.getElem?_eq_some_iff.1 hgb
  simp -implicitDefEqProofs[l280_0,hA,hA',hB,hB',hga,hgb,gA,gB,hws,c,hpu,hml,hb]
 ·have e:(addP p (fzs q)).take p.length=addP p (fzs q):=List.take_of_length_le (by omega)
  have la:(fzs p).length=p.length:=by simp
  unfold stA1
  rw[e]
  generalize fzs (addP p (fzs q))=M at *
  generalize fzs p=A at *
  rw[←la]
  constructor<;>simp -implicitDefEqProofs[l280_0]
theorem zlv(p q:List Rat)(hpq:q.length=p.length)(hl:p.length≤1000)(hp:∀x∈p,sz x≤1000)(hq:∀x∈q,sz x≤1000) :
  callF T 280 [.sl (rowF (fzs p)) .an,.sl (rowF (fzs q)) .an]=some (.sl (rowF (fzs (addP p (fzs q)))) .an):=by
 have h:=ztq (T:=T) p q hpq hl hp hq
 have hL:(fzs (addP p (fzs q))).length=p.length:=by rw[zam];exact zbw (by simpa using hpq)
 unfold stA1 at h
 have e:fzs ((addP p (fzs q)).take 0)=[]:=rfl
 rw[e]at h
 simp only[zb8,Int.natCast_zero]at h
 have ht:List.take p.length (fzs (addP p (fzs q)))=fzs (addP p (fzs q)):=List.take_of_length_le (by omega)
 rw[f280 _ rfl,b280]
 generalize fzs (addP p (fzs q))=M at *
 simp -implicitDefEqProofs[h,ht,hL]
def stD1(p q:List Rat)(i:Nat):St:=⟨[(0,.sl (rowF (fzs p)) .an),(1,.sl (rowF (fzs q)) .an),(4,.ptr (.loc 4) 1 3 0 0),(5,.ptr (.loc 5) 2 3 0 0),(6,.i .i64 i)],
 [(.loc 4,⟨1,.str,3,[nocell]⟩),(.loc 5,⟨2,.str,3,[celF (fz (dotK (fzs p) (fzs q) i))]⟩)],4⟩
def longB(l:List Fz)(many words:Nat):Bool:=decide (many<l.length) || l.any fun x=>decide (words<fsz x)
def stL1(l:List Fz)(many words:Nat)(i:Nat):St:=⟨[(0,.sl (rowF l) .an),(1,.i .i64 many),(2,.i .i64 words),(7,.i .i64 i)],[],2⟩
theorem zqd(l:List Fz)(many words:Nat)(hl:l.length≤many)(hm:many≤1000) :
  loopN T 0 0 (.norm false [0,1]) l286_0 (stL1 l many words 0)=if (l.drop 0).any (fun x=>decide (words<fsz x))=true then some (.r,⟨[(6,.b true)],[],2⟩) else some (.n,⟨[(0,.sl (rowF l) .an),(1,.i .i64 many)],[],2⟩):=by
 refine zca (stL1 l many words) l.length (fun i=>if (l.drop i).any (fun x=>decide (words<fsz x))=true then some (.r,⟨[(6,.b true)],[],2⟩) else some (.n,⟨[(0,.sl (rowF l) .an),(1,.i .i64 many)],[],2⟩)) (fun i hi=>?_) ?_
 ·have hga:l[i]? = some (l[i]'hi):=List.getElem?_eq_getElem hi
  have hws:=zcy hi (by omega)
  have c:=zei (T:=T) (l[i]'hi) words
  have h3:(i:Int)<many:=by omega
  have h4:i<many:=by omega
  have key:(l.drop i).any (fun x=>decide (words<fsz x))=(decide (words<fsz (l[i]'hi)) || (l.drop (i+1)).any fun x=>decide (words<fsz x)):=by
   rw[List.drop_eq_getElem_cons hi,List.any_cons]
  by_cases he:words<fsz (l[i]'hi)
  ·right
   rw[if_pos (by rw[key,decide_eq_true he,Bool.true_or])]
   rw[decide_eq_true he]at c
   unfold stL1
   clear key he
   constructor<;>simp -implicitDefEqProofs[l286_0,hi,h3,h4,hga,hws,c]
  ·left
   refine⟨?_,by simp only[key,decide_eq_false he,Bool.false_or]⟩
   rw[decide_eq_false he]at c
   unfold stL1
   clear key he
   simp -implicitDefEqProofs[l286_0,hi,h3,h4,hga,hws,c]
 ·rw[List.drop_length,if_neg (by simp)]
  unfold stL1
  constructor<;>simp -implicitDefEqProofs[l286_0]
theorem zqe(l:List Fz)(many words:Nat)(hl:l.length≤many)(hm:many≤1000):callF T 286 [.sl (rowF l) .an,.i .i64 many,.i .i64 words]=some (.b (longB l many words)):=by
 have h:=zqd (T:=T) l many words hl hm
 rw[List.drop_zero]at h
 unfold stL1 at h
 simp only[Int.natCast_zero]at h
 have h1:¬ (many:Int)<l.length:=by omega
 have h2:¬ many<l.length:=by omega
 unfold longB
 rw[f286 _ rfl,b286]
 cases hc:l.any fun x=>decide (words<fsz x) with
 | true=>
  rw[hc,if_pos rfl]at h
  simp -implicitDefEqProofs[h,h2]
 | false=>
  rw[hc,if_neg (by decide)]at h
  simp -implicitDefEqProofs[h,h1,h2]
theorem zqf(l:List Fz)(many words:Nat)(hl:many<l.length)(hm:many≤1000) :
  ∃r,(r=some (.r,(⟨[(6,.b true)],[],2⟩:St))∨r=some (.n,⟨[(0,.sl (rowF l) .an),(1,.i .i64 many)],[],2⟩))∧loopN T 0 0 (.norm false [0,1]) l286_0 (stL1 l many words 0)=r:=by
 obtain⟨G,hG⟩:∃G:Nat→Option (Ex×St),G=fun i=>if ((l.take many).drop i).any (fun x=>decide (words<fsz x))=true then some (.r,⟨[(6,.b true)],[],2⟩) else some (.n,⟨[(0,.sl (rowF l) .an),(1,.i .i64 many)],[],2⟩):=⟨_,rfl⟩
 refine⟨G 0,?_,zca (stL1 l many words) many G (fun i hi=>?_) ?_⟩
 ·rw[hG]
  simp only
  split
  ·exact .inl rfl
  ·exact .inr rfl
 ·have hil:i<l.length:=by omega
  have hil':(i:Int)<l.length:=by omega
  have hga:l[i]? = some (l[i]'hil):=List.getElem?_eq_getElem hil
  have hws:=zcy hi (by omega)
  have c:=zei (T:=T) (l[i]'hil) words
  have key:((l.take many).drop i).any (fun x=>decide (words<fsz x))=(decide (words<fsz (l[i]'hil)) || ((l.take many).drop (i+1)).any fun x=>decide (words<fsz x)):=by
   rw[List.drop_eq_getElem_cons (show i<(l.take many).length by simp;omega),List.any_cons,List.getElem_take]
  by_cases he:words<fsz (l[i]'hil)
  ·right
   rw[hG]
   simp only
   rw[if_pos (by rw[key,decide_eq_true he,Bool.true_or])]
   rw[decide_eq_true he]at c
   unfold stL1
   clear key he hG
   constructor<;>simp -implicitDefEqProofs[l286_0,hi,hil,hil',hga,hws,c]
  ·left
   refine⟨?_,by rw[hG];simp only[key,decide_eq_false he,Bool.false_or]⟩
   rw[decide_eq_false he]at c
   unfold stL1
   clear key he hG
   simp -implicitDefEqProofs[l286_0,hi,hil,hil',hga,hws,c]
 ·rw[hG]
  simp only
  rw[List.drop_of_length_le (by simp;omega),if_neg (by simp)]
  have h1:(many:Int)<l.length:=by omega
  unfold stL1
  constructor<;>simp -implicitDefEqProofs[l286_0,h1,hl]
theorem zm9(l:List Fz)(many words:Nat)(hl:many<l.length)(hm:many≤1000):callF T 286 [.sl (rowF l) .an,.i .i64 many,.i .i64 words]=some (.b true):=by
 obtain⟨r,hr,h⟩:=zqf (T:=T) l many words hl hm
 unfold stL1 at h
 simp only[Int.natCast_zero]at h
 have h1:(many:Int)<l.length:=by omega
 rw[f286 _ rfl,b286]
 rcases hr with rfl | rfl
 ·simp -implicitDefEqProofs[h]
 ·simp -implicitDefEqProofs[h,hl]
theorem zdk(l:List Fz)(many words:Nat)(hm:many≤1000):callF T 286 [.sl (rowF l) .an,.i .i64 many,.i .i64 words]=some (.b (longB l many words)):=by
 by_cases h:many<l.length
 ·rw[zm9 l many words h hm]
  unfold longB
  rw[decide_eq_true h,Bool.true_or]
 ·exact zqe l many words (by omega) hm
theorem zdl{l:List Fz}{many words:Nat}(h:longB l many words=false):l.length≤many∧∀x∈l,fsz x≤words:=by
 unfold longB at h
 simp only[Bool.or_eq_false_iff,decide_eq_false_iff_not,List.any_eq_false,decide_eq_true_eq]at h
 exact⟨by omega,fun x hx=>by have:=h.2 x hx;omega⟩
end
def cap300(n:Int):Nat:=(min (max n 0) 300).toNat
theorem zd3(n:Int):cap300 n≤300:=by unfold cap300;omega
section
variable{T:Tbl}[CNat T][CProd T][CTwos T][CQuot T][CQuotD T][CText T][CWhole T][CCommon T][CFrac T][CJoin T][CRow T]
theorem zdq(n:Int):callH T 2263 [.i .i64 n] []=some (.bs (.loc 9) 1 3 0 (cap300 n),[(.loc 9,⟨1,.own,3,rowF (List.replicate (cap300 n) (fz 0))⟩)]):=by
 have hk:=zd3 n
 have h:=zlw (T:=T) (cap300 n) hk
 have m2:(if (300:Int)<(if n<0 then 0 else n) then (300:Int) else (if n<0 then 0 else n))=(cap300 n:Int):=by unfold cap300;split<;>split at *<;>omega
 generalize cap300 n=k at *
 rw[show l263_0=l2263_0 from rfl]at h
 unfold stZe at h
 simp only[List.replicate_zero,zb8,List.nil_append,Nat.sub_zero,Int.natCast_zero]at h
 have m3:(k:Int)≤4294967296:=by omega
 have hz:wkL (List.replicate k [AV.b false,.sl [] .nl,.sl [] .nl])=List.replicate k [AV.b false,.sl [] .an,.sl [] .an]:=by rw[zbs,List.map_replicate];simp[wkR,wkA]
 rw[f2263 _ _ rfl,b2263]
 simp -implicitDefEqProofs[mm2,m2,m3,h,hz]
theorem zgd(n:Int):callF T 263 [.i .i64 n]=some (.sl (rowF (fzs (List.replicate (cap300 n) 0))) .an):=by
 have hk:=zd3 n
 have h:=zlw (T:=T) (cap300 n) hk
 have m2:(if (300:Int)<(if n<0 then 0 else n) then (300:Int) else (if n<0 then 0 else n))=(cap300 n:Int):=by unfold cap300;split<;>split at *<;>omega
 have ef:fzs (List.replicate (cap300 n) 0)=List.replicate (cap300 n) (fz 0):=by simp[fzs]
 rw[ef]
 clear ef
 generalize cap300 n=k at *
 unfold stZe at h
 simp only[List.replicate_zero,zb8,List.nil_append,Nat.sub_zero,Int.natCast_zero]at h
 have m3:(k:Int)≤4294967296:=by omega
 have hz:wkL (List.replicate k [AV.b false,.sl [] .nl,.sl [] .nl])=List.replicate k [AV.b false,.sl [] .an,.sl [] .an]:=by rw[zbs,List.map_replicate];simp[wkR,wkA]
 rw[f263 _ rfl,b263]
 simp -implicitDefEqProofs[mm2,m2,m3,h,hz]
def unitR(n i:Int):List Rat:=if 0≤i∧i<cap300 n then (List.replicate (cap300 n) 0).set i.toNat 1 else List.replicate (cap300 n) 0
end
section
variable{T:Tbl}[CRef02 T][CRef04 T][CRef05 T][CRef07 T][CRef06 T][CRef08 T][CRef09 T][CRef11 T]
def stZ1x(n:Int)(i:Nat):St:=⟨[(0,.i .i64 n),(3,.bs (.loc 3) 1 3 0 i),(4,.i .i64 i)],[(.loc 3,⟨1,.own,3,rowF (List.replicate i (fz 0))⟩)],3⟩
theorem znb(n:Int):loopN T 0 0 (.norm false [3]) l276_0 (stZ1x n 0)=some (.n,⟨[(3,.bs (.loc 3) 1 3 0 (cap300 n))],[(.loc 3,⟨1,.own,3,rowF (List.replicate (cap300 n) (fz 0))⟩)],3⟩):=by
 have hk:=zd3 n
 have hc:(cap300 n:Int)=min (max n 0) 300:=by unfold cap300;omega
 refine za6 (stZ1x n) (cap300 n) _ (fun i hi=>?_) ?_
 ·have h0:=zi3 (T:=T)
  have hw:=zcy hi (by omega)
  have hp:=zcp (m:=List.replicate i (fz 0)) (n:=i) (by simp) (fz 0)
  have hml:(List.replicate i (fz 0)).length=i:=by simp
  have e:List.replicate (i+1) (fz 0)=List.replicate i (fz 0)++[fz 0]:=List.replicate_succ'
  have hb:i≤4294967295:=by omega
  have h3:(i:Int)<300:=by omega
  have h4:(i:Int)<n:=by omega
  unfold stZ1x
  rw[e]
  clear e hc
  generalize List.replicate i (fz 0)=M at *
  generalize fz 0=z at *
  simp -implicitDefEqProofs[l276_0,h3,h4,hw,h0,hp,hml,hb]
 ·unfold stZ1x
  generalize List.replicate (cap300 n) (fz 0)=M at *
  by_cases h4:(cap300 n:Int)<n
  ·have h3:¬ (cap300 n:Int)<300:=by omega
   generalize cap300 n=k at *
   constructor<;>simp -implicitDefEqProofs[l276_0,h4,h3]
  ·generalize cap300 n=k at *
   constructor<;>simp -implicitDefEqProofs[l276_0,h4]
theorem zer(n:Int):callF T 276 [.i .i64 n]=some (.sl (rowF (fzs (List.replicate (cap300 n) 0))) .an):=by
 have h:=znb (T:=T) n
 unfold stZ1x at h
 simp only[List.replicate_zero,zb8,Int.natCast_zero]at h
 have ef:fzs (List.replicate (cap300 n) 0)=List.replicate (cap300 n) (fz 0):=by simp[fzs]
 rw[ef]
 clear ef
 generalize cap300 n=k at *
 have hl:(List.replicate k (fz 0)).length=k:=by simp
 rw[f276 _ rfl,b276]
 generalize List.replicate k (fz 0)=M at *
 have ht:List.take k M=M:=List.take_of_length_le (by omega)
 simp -implicitDefEqProofs[h,hl,ht]
end
class CGrid (T:Tbl):Prop where
theorem zlg{α:Type}(l:List α){i:Nat}(h:i<l.length):l.take (i+1)=l.take i++[l[i]'h]:=List.take_succ_eq_append_getElem h
section
variable{T:Tbl}[CRef02 T][CRef04 T][CRef05 T][CRef07 T][CRef06 T][CRef08 T][CRef09 T][CRef11 T][CLaw09 T][CLaw11 T]
theorem zod(x:Fz):callF T 248 [efz x]=some (efz x):=by
 rw[f248 _ rfl,b248]
 simp -implicitDefEqProofs
theorem zoe(x:Fz):callF T 249 [efz x]=some (efz x):=by
 rw[f249 _ rfl,b249]
 simp -implicitDefEqProofs
def stTo11(l:List Fz)(i:Nat):St:=⟨[(0,.sl (rowF l) .an),(3,.bs (.loc 3) 1 3 0 i),(4,.i .i64 i)],[((.loc 3),⟨1,.own,3,rowF (l.take i)⟩)],3⟩
theorem zsz(l:List Fz)(hl:l.length≤4294967296) :
  loopN T 0 0 (.norm false [3]) l287_0 (stTo11 l 0)=some (.n,⟨[(3,.bs (.loc 3) 1 3 0 (l.length))],[((.loc 3),⟨1,.own,3,rowF (l.take (l.length))⟩)],3⟩):=by
 refine za6 (stTo11 l) (l.length) _ (fun i hi=>?_) ?_
 ·have hws:=zcy hi (by omega)
  have hb:i≤4294967295:=by omega
  have hg:l[i]? = some (l[i]'hi):=List.getElem?_eq_getElem hi
  have hn:=zod (T:=T) (l[i]'hi)
  have e:=zlg l hi
  have hml:(l.take i).length=i:=by simp;omega
  have hp:=zcp hml (l[i]'hi)
  unfold stTo11
  rw[e]
  clear e
  generalize l.take i=M at *
  simp -implicitDefEqProofs[l287_0,hi,hws,hb,hp,hml,hg,hn]
 ·unfold stTo11
  rw[List.take_of_length_le (Nat.le_refl _)]
  constructor<;>simp -implicitDefEqProofs[l287_0]
theorem zof(l:List Fz)(hl:l.length≤4294967296):callF T 287 [.sl (rowF l) .an]=some (.sl (rowF l) .an):=by
 have h:=zsz (T:=T) l hl
 unfold stTo11 at h
 rw[List.take_zero,List.take_of_length_le (Nat.le_refl _)]at h
 simp only[zb8,Int.natCast_zero]at h
 have ht:List.take l.length l=l:=List.take_of_length_le (Nat.le_refl _)
 rw[f287 _ rfl,b287]
 simp -implicitDefEqProofs[h,ht]
def stOf11(l:List Fz)(i:Nat):St:=⟨[(0,.sl (rowF l) .an),(3,.bs (.loc 3) 1 3 0 i),(4,.i .i64 i)],[((.loc 3),⟨1,.own,3,rowF (l.take i)⟩)],3⟩
theorem zs1(l:List Fz)(hl:l.length≤4294967296) :
  loopN T 0 0 (.norm false [3]) l288_0 (stOf11 l 0)=some (.n,⟨[(3,.bs (.loc 3) 1 3 0 (l.length))],[((.loc 3),⟨1,.own,3,rowF (l.take (l.length))⟩)],3⟩):=by
 refine za6 (stOf11 l) (l.length) _ (fun i hi=>?_) ?_
 ·have hws:=zcy hi (by omega)
  have hb:i≤4294967295:=by omega
  have hg:l[i]? = some (l[i]'hi):=List.getElem?_eq_getElem hi
  have hn:=zoe (T:=T) (l[i]'hi)
  have e:=zlg l hi
  have hml:(l.take i).length=i:=by simp;omega
  have hp:=zcp hml (l[i]'hi)
  unfold stOf11
  rw[e]
  clear e
  generalize l.take i=M at *
  simp -implicitDefEqProofs[l288_0,hi,hws,hb,hp,hml,hg,hn]
 ·unfold stOf11
  rw[List.take_of_length_le (Nat.le_refl _)]
  constructor<;>simp -implicitDefEqProofs[l288_0]
theorem zog(l:List Fz)(hl:l.length≤4294967296):callF T 288 [.sl (rowF l) .an]=some (.sl (rowF l) .an):=by
 have h:=zs1 (T:=T) l hl
 unfold stOf11 at h
 rw[List.take_zero,List.take_of_length_le (Nat.le_refl _)]at h
 simp only[zb8,Int.natCast_zero]at h
 have ht:List.take l.length l=l:=List.take_of_length_le (Nat.le_refl _)
 rw[f288 _ rfl,b288]
 simp -implicitDefEqProofs[h,ht]
end
def widthM:List (List Fz)→Nat
 | []=>0
 | r::_=>r.length
def rightM(m:List (List Fz)):Bool:=m.all fun r=>decide (r.length=widthM m)
def colM(m:List (List Fz))(j:Nat):List Fz:=m.map fun r=>r.getD j (false,[],[])
def turnM(m:List (List Fz))(k:Nat):List (List Fz):=(List.range k).map fun j=>nrm (colM m j)
def scM(r:List Fz)(m:List (List Fz)):List (List Fz):=List.zipWith (fun x row=>scl (fv x) row) r m
def sumM:List (List Fz)→List Rat
 | []=>[]
 | r::m=>m.foldl addP (r.map fv)
def leftQ(r:List Fz)(m:List (List Fz)):List Rat:=sumM (scM r m)
def applyQ(m:List (List Fz))(c:List Fz):List Rat:=m.map fun r=>dotQ r c
section
variable{T:Tbl}[CNat T][CProd T][CTwos T][CQuot T][CQuotD T][CText T][CWhole T][CCommon T][CFrac T][CJoin T][CRow T][CGrid T]
def stGrR(m:List (List Fz))(i:Nat):St:=⟨[(0,.sl (matF m) .an),(5,.sl (matF m) .an),(6,.i .i64 m.length),(7,.i .i64 i)],[],2⟩
def stGrS(a b:List (List Fz))(i:Nat):St:=⟨[(1,.sl (matF b) .an),(12,.sl (matF a) .an),(13,.i .i64 a.length),(14,.i .i64 i)],[],2⟩
def idQ(k:Nat)(i:Nat):List (List Fz):=(List.range i).map fun j=>fzs ((List.replicate k 0).set j 1)
def stGrI(k:Nat)(i:Nat):St:=⟨[(0,.i .i64 k),(3,.bs (.loc 3) 1 1 0 i),(8,.i .i64 k),(9,.i .i64 i)],[((.loc 3),⟨1,.own,1,matF (idQ k i)⟩)],3⟩
def stGrT(m R:List (List Fz))(k j:Nat)(i:Nat):St:=⟨[(0,.sl (matF m) .an),(3,.bs (.loc 3) 1 1 0 j),(4,.i .i64 j),(5,.bs (.loc 5) 2 3 0 i),(12,.i .i64 k),(13,.i .i64 j),(16,.sl (matF m) .an),(17,.i .i64 m.length),(18,.i .i64 i)],[(.loc 3,⟨1,.own,1,matF R⟩),((.loc 5),⟨2,.own,3,rowF (nrm (colM (m.take i) j))⟩)],4⟩
def stTo12t(m:List (List Fz))(k:Nat)(i:Nat):St:=⟨[(0,.sl (matF m) .an),(3,.bs (.loc 3) 1 1 0 i),(12,.i .i64 k),(13,.i .i64 i)],[((.loc 3),⟨1,.own,1,matF (turnM m i)⟩)],3⟩
end
section
variable{T:Tbl}[CNat T][CProd T][CTwos T][CQuot T][CQuotD T][CText T][CWhole T][CCommon T][CFrac T][CJoin T][CRow T][CGrid T]
def stGrL(r:List Fz)(m:List (List Fz))(i:Nat):St:=⟨[(0,.sl (rowF r) .an),(6,.bs (.loc 6) 1 1 0 i),(19,.sl (matF m) .an),(20,.i .i64 m.length),(21,.i .i64 i)],[((.loc 6),⟨1,.own,1,matF (scM (r.take i) (m.take i))⟩)],3⟩
def stGrA(m:List (List Fz))(c:List Fz)(i:Nat):St:=⟨[(1,.sl (rowF c) .an),(6,.bs (.loc 6) 1 3 0 i),(21,.sl (matF m) .an),(22,.i .i64 m.length),(23,.i .i64 i)],[((.loc 6),⟨1,.own,3,rowF (fzs (applyQ (m.take i) c))⟩)],3⟩
def mulM(a b:List (List Fz)):List (List Fz):=a.map fun r=>fzs (leftQ r b)
def stGrM(a m:List (List Fz))(i:Nat):St:=⟨[(1,.sl (matF m) .an),(6,.bs (.loc 6) 1 1 0 i),(26,.sl (matF a) .an),(27,.i .i64 a.length),(28,.i .i64 i)],[((.loc 6),⟨1,.own,1,matF (mulM (a.take i) m)⟩)],3⟩
def addM(a b:List (List Fz)):List (List Fz):=List.zipWith (fun r s=>fzs (addP (r.map fv) s)) a b
def stGrP(a m:List (List Fz))(i:Nat):St:=⟨[(1,.sl (matF m) .an),(6,.bs (.loc 6) 1 1 0 i),(33,.sl (matF a) .an),(34,.i .i64 a.length),(35,.i .i64 i)],[((.loc 6),⟨1,.own,1,matF (addM (a.take i) (m.take i))⟩)],3⟩
end
def dotR:List Rat→List Rat→Rat
 | x::a,y::b=>x*y+dotR a b
 | _,_=>0
def valM(m:List (List Fz)):List (List Rat):=m.map fun r=>r.map fv
def fzM(L:List (List Rat)):List (List Fz):=L.map fzs
def widthQ:List (List Rat)→Nat
 | []=>0
 | r::_=>r.length
def rightQ(L:List (List Rat)):Bool:=L.all fun r=>decide (r.length=widthQ L)
def colQ(L:List (List Rat))(j:Nat):List Rat:=L.map fun p=>p.getD j 0
def turnQ(L:List (List Rat)):List (List Rat):=(List.range (widthQ L)).map (colQ L)
def applyR(L:List (List Rat))(c:List Rat):List Rat:=L.map fun p=>dotR p c
def leftR(r:List Rat)(L:List (List Rat)):List Rat:=applyR (turnQ L) r
def absQ(q:Rat):Rat:=if q<0 then -q else q
def sclR(c:Rat)(l:List Rat):List Rat:=l.map fun x=>c*x
def addR(a b:List Rat):List Rat:=List.zipWith (· + ·) a b
def maxStep(b x:Rat):Rat:=if b<absQ x then absQ x else b
def normR(l:List Rat):Rat:=l.foldl maxStep 0
def mixR:List (Rat×List Rat)→List Rat→List Rat
 | [],acc=>acc
 | p::l,acc=>mixR l (addR acc (sclR p.1 p.2))
def sqC:List UInt32→Nat
 | []=>0
 | x::r=>4294967296*(x.toNat*val r)+4294967296*4294967296*sqC r
def sqD:List UInt32→Nat
 | []=>0
 | x::r=>x.toNat*x.toNat+4294967296*4294967296*sqD r
section
variable{T:Tbl}[CLimb T][CNat T][CProd T][CTwos T][CPow T]
theorem zgm(a:List UInt32)(ha:a.length≤1000000):callF T 356 [.sl (u32s a) .an]=some (.i .i64 (blen (val a))):=by
 have h1:=zbn (T:=T) a (by omega)
 have hl:=zac a
 have hv:val (ofN (val a))=val a:=zae _
 rw[f356 _ rfl,b356]
 by_cases h0:val a=0
 ·have e:ofN (val a)=[]:=zau.2 h0
  have eb:blen (val a)=0:=by rw[h0];rfl
  rw[e]at h1
  rw[eb]
  simp -implicitDefEqProofs[h1]
 ·have hne:ofN (val a)≠[]:=fun h=>h0 (zau.1 h)
  obtain⟨B,x,hB⟩:∃B x,ofN (val a)=B++[x]:=⟨_,_,(List.dropLast_concat_getLast hne).symm⟩
  have hx0:x.toNat≠0:=by
   intro hx
   have e1:val (ofN (val a))=val B:=by
    rw[hB,zah]
    simp[hx]
   have e2:ofN (val B)=ofN (val a):=by rw[←e1,zae]
   have e3:=zac B
   rw[e2,hB]at e3
   simp at e3
   omega
  have hlog:blen (val a)=32*B.length+blen x.toNat:=by
   have hdiv:val a/2^(32*B.length)=x.toNat:=by
    have e1:val a=val B+4294967296^B.length*x.toNat:=by
     rw[←hv,hB,zah]
     simp
    have e2:2^(32*B.length)=4294967296^B.length:=by
     rw[Nat.pow_mul]
    have e3:=za0 B
    rw[e2,e1,Nat.add_mul_div_left _ _ (by omega),Nat.div_eq_of_lt e3,Nat.zero_add]
   have:=zi0 (n:=val a) (s:=32*B.length) (by rw[hdiv];exact hx0)
   rw[hdiv]at this
   exact this
  have hbl:B.length+1≤1000000:=by
   have:=congrArg List.length hB
   simp at this
   omega
  have hL:=zon (T:=T) x
  have hb32:blen x.toNat≤32:=by
   have hx:=zaj x
   unfold blen
   split
   ·omega
   ·have:=(Nat.log2_lt (n:=x.toNat) (k:=32) (by assumption)).2 (by omega)
    omega
  rw[hB]at h1
  rw[hlog]
  have w1:IntKind.wrap .i64 ((B.length:Int)+1-1)=(B.length:Int):=by
   rw[Int.add_sub_cancel]
   exact zad _ (by omega)
  have w2:IntKind.wrap .i64 (32*(B.length:Int))=32*(B.length:Int):=zad _ (by omega)
  have w3:IntKind.wrap .i64 (32*(B.length:Int)+(blen x.toNat:Int))=32*(B.length:Int)+(blen x.toNat:Int):=zad _ (by omega)
  have w4:IntKind.wrap .i64 (B.length:Int)=B.length:=zad _ (by omega)
  have n1:¬ (B.length:Int)+1=0:=by omega
  have n2:(B.length:Int)<(B.length:Int)+1:=by omega
  clear hlog hB hne hb32
  simp -implicitDefEqProofs[h1,hL,w1,w2,w3,w4,n1,n2]
def stSqA(a X:List UInt32)(i:Nat):St:=
 ⟨[(0,.sl (u32s a) .an),(3,.bs (.loc 14) 1 1 0 (2*a.length+1)),(15,.sl (u32s a) .an),(16,.i .i64 a.length),(17,.i .i64 i)],[(.loc 14,⟨1,.own,1,u32s (X++List.replicate (a.length+1-i) 0)⟩)],3⟩
def stSqD(a X:List UInt32)(U:List (List AV))(i:Nat):St:=
 ⟨[(6,.sl U .an),(7,.bs (.loc 38) 1 1 0 (2*a.length)),(39,.sl (u32s a) .an),(40,.i .i64 a.length),(41,.i .i64 i)],[(.loc 38,⟨1,.own,1,u32s (X++List.replicate (2*a.length-2*i) 0)⟩)],3⟩
end
class CLaw12 (T:Tbl):Prop where
class CRef12 (T:Tbl):Prop where
section
variable{T:Tbl}[CRef02 T][CRef04 T][CRef05 T][CRef07 T][CRef06 T][CRef08 T][CRef09 T][CRef11 T][CRef12 T]
def stR12(m:List (List Fz))(i:Nat):St:=⟨[(0,.sl (matF m) .an),(3,.i .i64 i)],[],2⟩
def stN12(m:List (List Fz))(i:Nat):St:=⟨[(0,.sl (matF m) .an),(3,.bs (.loc 3) 1 1 0 i),(4,.i .i64 i)],[((.loc 3),⟨1,.own,1,matF (fzM (valM (m.take i)))⟩)],3⟩
def stS12(a b:List (List Fz))(i:Nat):St:=⟨[(0,.sl (matF a) .an),(1,.sl (matF b) .an),(5,.i .i64 i)],[],2⟩
def stI12(n:Int)(k:Nat)(i:Nat):St:=⟨[(0,.i .i64 n),(3,.bs (.loc 3) 1 1 0 i),(4,.i .i64 i)],[((.loc 3),⟨1,.own,1,matF (idQ k i)⟩)],3⟩
def stT12i(L:List (List Rat))(R:List (List Fz))(j:Nat)(i:Nat):St:=⟨[(0,.sl (matF (fzM L)) .an),(3,.bs (.loc 3) 1 1 0 j),(4,.i .i64 j),(5,.bs (.loc 5) 2 3 0 i),(6,.i .i64 i)],[(.loc 3,⟨1,.own,1,matF R⟩),((.loc 5),⟨2,.own,3,rowF (fzs (colQ (L.take i) j))⟩)],4⟩
def stT12o(L:List (List Rat))(i:Nat):St:=⟨[(0,.sl (matF (fzM L)) .an),(3,.bs (.loc 3) 1 1 0 i),(4,.i .i64 i)],[((.loc 3),⟨1,.own,1,matF (fzM ((List.range i).map (colQ L)))⟩)],3⟩
def stA12(L:List (List Rat))(c:List Rat)(i:Nat):St:=⟨[(0,.sl (matF (fzM L)) .an),(1,.sl (rowF (fzs c)) .an),(5,.bs (.loc 5) 1 3 0 i),(6,.i .i64 i)],[((.loc 5),⟨1,.own,3,rowF (fzs (applyR (L.take i) c))⟩)],3⟩
def longM(m:List (List Fz))(many words:Nat):Bool:=decide (many<m.length) || m.any fun r=>longB r many words
def stL12(m:List (List Fz))(many words:Nat)(i:Nat):St:=⟨[(0,.sl (matF m) .an),(1,.i .i64 many),(2,.i .i64 words),(7,.i .i64 i)],[],2⟩
end
theorem zxb{l:List Rat}{B:Nat}(h:∀q∈l,sz q≤B):∀x∈fzs l,fsz x≤B:=by
 intro x hx
 obtain⟨q,hq,rfl⟩:=List.mem_map.1 hx
 exact h q hq
section
variable{T:Tbl}[CNat T][CProd T][CTwos T][CQuot T][CQuotD T][CText T][CWhole T][CCommon T][CFrac T][CJoin T][CRow T][CGrid T][CRef02 T][CRef04 T][CRef05 T][CRef07 T][CRef06 T][CRef08 T][CRef09 T][CRef11 T][CRef12 T][CLaw09 T][CLaw11 T][CLaw12 T]
def stTo12(m:List (List Fz))(i:Nat):St:=⟨[(0,.sl (matF m) .an),(3,.bs (.loc 3) 1 1 0 i),(4,.i .i64 i)],[((.loc 3),⟨1,.own,1,matF (m.take i)⟩)],3⟩
def stI12s(a b:List (List Fz))(i:Nat):St:=⟨[(0,.sl (matF a) .an),(1,.sl (matF b) .an),(5,.i .i64 i)],[],2⟩
theorem z4f{q:Rat}(h1:q.num.natAbs<4294967296)(h2:q.den<4294967296):sz q≤1:=Nat.max_le.2 ⟨zao (by simpa using h1),zao (by simpa using h2)⟩
end
class CPoly (T:Tbl):Prop where
def tlen(l:List Rat):Nat→Nat
 | 0=>0
 | n+1=>if l.getD n 0=0 then tlen l n else n+1
def trimR(l:List Rat):List Rat:=l.take (tlen l l.length)
theorem ztb(M:List Fz):Option.all (fun r:List AV=>decide (r.length=3)) (rowF M).head? = true:=by cases M<;>rfl
section
variable{T:Tbl}[CNat T][CProd T][CTwos T][CQuot T][CQuotD T][CText T][CWhole T][CCommon T][CFrac T][CJoin T][CRow T][CPoly T]
def evlR:List Rat→Rat→Rat
 | [],_=>0
 | a::l,x=>evlR l x*x+a
def dif(l:List Rat):List Rat:=(List.range (l.length-1)).map fun(i:Nat)=>(((i:Int)+1:Int):Rat)*l.getD (i+1) 0
def stDf(l:List Fz)(i:Nat):St:=⟨[(0,.sl (rowF l) .an),(3,.bs (.loc 3) 1 3 0 i),(4,.i .i64 ((i:Int)+1))],[((.loc 3),⟨1,.own,3,rowF (fzs ((dif (l.map fv)).take i))⟩)],3⟩
end
def sizF(x:Fz):Nat:=blen (val x.2.1)+blen (val x.2.2)
def sizL(l:List Fz):Nat:=l.foldl (fun n x=>max n (sizF x)) 0
theorem zgn{x k:Nat}(h:(ofN x).length≤k):blen x≤32*k:=by
 unfold blen
 split
 ·omega
 ·next h0=>
  have h1:=za0 (ofN x)
  rw[zae]at h1
  have h2:4294967296^(ofN x).length≤4294967296^k:=Nat.pow_le_pow_right (by decide) h
  have h3:(4294967296:Nat)^k=2^(32*k):=by rw[Nat.pow_mul]
  have:=(Nat.log2_lt (n:=x) (k:=32*k) h0).2 (by omega)
  omega
section
variable{T:Tbl}[CLimb T][CNat T][CProd T][CTwos T][CQuot T][CQuotD T][CText T][CWhole T][CCommon T][CFrac T][CFrac2 T][CFrac5 T][CPow T][CJoin T][CRow T][CRow5 T]
def bestI(b c:Rat)(i:Nat):Rat:=if i=0 then 0 else if i=1 then b else (if b<c then c else b)
def stMx(b c:Rat)(i:Nat):St:=⟨[(2,.ptr (.loc 2) 1 3 0 0),(3,.ptr (.loc 3) 2 3 0 0),(7,.sl [celF (fz b),celF (fz c)] .an),(8,.i .i64 2),(9,.i .i64 i)],
 [(.loc 2,⟨1,.str,3,[nocell]⟩),(.loc 3,⟨2,.str,3,[celF (fz (bestI b c i))]⟩)],4⟩
def stRn(l:List Fz)(i:Nat):St:=⟨[(2,.ptr (.loc 2) 1 3 0 0),(3,.ptr (.loc 3) 2 3 0 0),(7,.sl (rowF l) .an),(8,.i .i64 l.length),(9,.i .i64 i)],
 [(.loc 2,⟨1,.str,3,[nocell]⟩),(.loc 3,⟨2,.str,3,[celF (fz (normR ((l.map fv).take i)))]⟩)],4⟩
def stRs(l:List Fz)(i:Nat):St:=⟨[(3,.i .i64 (sizL (l.take i))),(6,.sl (rowF l) .an),(7,.i .i64 l.length),(8,.i .i64 i)],[],2⟩
end
section
variable{T:Tbl}[CRef02 T][CRef04 T][CRef05 T][CRef07 T][CRef06 T][CRef08 T][CRef09 T][CRef11 T][CRef5 T]
def stSc(c:Rat)(p:List Rat)(i:Nat):St:=⟨[(1,.sl (rowF (fzs p)) .an),(2,.ptr (.loc 2) 1 3 0 0),(5,.bs (.loc 5) 2 3 0 i),(6,.i .i64 i)],
 [(.loc 2,⟨1,.str,3,[celF (fz c)]⟩),(.loc 5,⟨2,.own,3,rowF (fzs ((sclR c p).take i))⟩)],4⟩
def stRx(p:List Rat)(i:Nat):St:=⟨[(0,.sl (rowF (fzs p)) .an),(2,.ptr (.loc 2) 1 3 0 0),(3,.ptr (.loc 3) 2 3 0 0),(4,.i .i64 i)],
 [(.loc 2,⟨1,.str,3,[nocell]⟩),(.loc 3,⟨2,.str,3,[celF (fz (normR (p.take i)))]⟩)],4⟩
end
structure Ins where
 op:Int
 a:Int
 b:Int
 n:Fz
abbrev celI(i:Ins):List AV:=[.i .i64 i.op,.i .i64 i.a,.i .i64 i.b,.b i.n.1,.sl (u32s i.n.2.1) .an,.sl (u32s i.n.2.2) .an]
def rowI(l:List Ins):List (List AV):=l.map celI
@[simp] theorem z0c(l:List Ins):(rowI l).length=l.length:=by simp[rowI]
@[simp] theorem zabu(l:List Ins):wkL (rowI l)=rowI l:=by rw[zbs];simp[rowI,wkR,wkA]
@[simp] theorem rowI_get?(l:List Ins)(i:Nat):(rowI l)[i]? = (l[i]?).map celI:=by simp[rowI]
@[simp] theorem z7n(l:List Ins)(i:Nat)(h:i<(rowI l).length):(rowI l)[i]=celI (l[i]'(by simpa using h)):=by simp[rowI]
@[simp] theorem z7o:rowI []=[]:=rfl
structure Tp where
 code:List Ins
 outs:List Int
 dim:Int
 par:Int
abbrev etp(t:Tp):AV:=.agg [.sl (rowI t.code) .an,.sl (ints t.outs) .an,.i .i64 t.dim,.i .i64 t.par]
def rightF(x:Fz):Bool:=decide (x=fz (fv x))
def blankF(x:Fz):Bool:=!x.1&&x.2.1.isEmpty&&x.2.2.isEmpty
def readsI(i:Ins):List Int:=if i.op=6∨i.op=11 then [i.a] else if 7≤i.op∧i.op≤10 then [i.a,i.b] else []
def belowB(i m:Int):Bool:=decide (0≤i)&&decide (i<m)
def mayI(dim par p:Int)(i:Ins):Bool:=
 if i.op=1 then decide (i.a=0)&&decide (i.b=0)&&rightF i.n
 else blankF i.n&&(readsI i).all (fun r=>belowB r p) &&
  (if i.op=2 then decide (i.a=0)&&decide (i.b=0)
   else if i.op=3 then belowB i.a dim&&decide (i.b=0)
   else if i.op=4 then belowB i.a par&&decide (i.b=0)
   else if i.op=6 then decide (i.b=0)
   else if i.op=11 then decide (-8≤i.b)&&decide (i.b≤8)
   else decide ((readsI i).length=2))
def firstI(dim par:Int):Nat→List Ins→Int
 | _,[]=>-1
 | p,i::r=>if mayI dim par p i then firstI dim par (p+1) r else p
def wholeT(t:Tp):Bool:=belowB (t.dim-1) 6&&belowB t.par 7&&decide ((t.outs.length:Int)=t.dim)&&decide (t.code.length≤300)
def wrongT(t:Tp):Int:=
 if wholeT t=false then -2 else if firstI t.dim t.par 0 t.code≠-1 then firstI t.dim t.par 0 t.code
 else if (t.outs.all fun o=>belowB o t.code.length)=false then t.code.length else -1
def okT(t:Tp):Bool:=decide (wrongT t=-1)
theorem zjc(dim par:Int):∀(l:List Ins) (p:Nat),firstI dim par p l=-1↔∀(k:Nat) (i:Ins),l[k]? = some i→mayI dim par (p+k:Nat) i=true
 | [],p=>by simp[firstI]
 | x::l,p=>by
  have ih:=zjc dim par l (p+1)
  unfold firstI
  by_cases h:mayI dim par p x=true
  ·rw[if_pos h,ih]
   constructor
   ·intro H k i hk
    cases k with
    | zero=>simp only[List.getElem?_cons_zero,Option.some.injEq]at hk;subst hk;simpa using h
    | succ k=>have:=H k i (by simpa using hk);rwa [show p+1+k=p+(k+1) by omega]at this
   ·intro H k i hk
    have:=H (k+1) i (by simpa using hk)
    rwa [show p+(k+1)=p+1+k by omega]at this
  ·rw[if_neg h]
   constructor
   ·intro H;omega
   ·intro H;exact absurd (by simpa using H 0 x rfl) h
structure OkTp (t:Tp):Prop where
 d1:1≤t.dim
 d2:t.dim≤6
 p1:0≤t.par
 p2:t.par≤6
 ol:(t.outs.length:Int)=t.dim
 cl:t.code.length≤300
 may:∀(k:Nat) (i:Ins),t.code[k]? = some i→mayI t.dim t.par k i=true
 outs:∀o∈t.outs,0≤o∧o<t.code.length
theorem zni(t:Tp):okT t=true↔OkTp t:=by
 unfold okT wrongT
 rw[decide_eq_true_eq]
 by_cases h1:wholeT t=false
 ·rw[if_pos h1]
  constructor
  ·intro h;omega
  ·intro h
   exfalso
   have:wholeT t=true:=by
    have:=h.d1;have:=h.d2;have:=h.p1;have:=h.p2
    simp only[wholeT,belowB,Bool.and_eq_true,decide_eq_true_eq]
    exact⟨⟨⟨⟨by omega,by omega⟩,by omega,by omega⟩,h.ol⟩,h.cl⟩
   rw[this]at h1;cases h1
 ·have hw:wholeT t=true:=by simpa using h1
  rw[if_neg h1]
  simp only[wholeT,belowB,Bool.and_eq_true,decide_eq_true_eq]at hw
  obtain⟨⟨⟨⟨a1,a2⟩,a3,a4⟩,a5⟩,a6⟩:=hw
  have hf:=zjc t.dim t.par t.code 0
  by_cases h2:firstI t.dim t.par 0 t.code≠-1
  ·rw[if_pos h2]
   constructor
   ·intro h;exact absurd h h2
   ·intro h;exact absurd (hf.2 fun k i hk=>by rw[Nat.zero_add];exact h.may k i hk) h2
  ·have h2':firstI t.dim t.par 0 t.code=-1:=by simpa using h2
   rw[if_neg h2]
   by_cases h3:(t.outs.all fun o=>belowB o t.code.length)=false
   ·rw[if_pos h3]
    constructor
    ·intro h;omega
    ·intro h
     exfalso
     have:(t.outs.all fun o=>belowB o t.code.length)=true:=List.all_eq_true.2 fun o ho=>by
      have:=h.outs o ho
      simp only[belowB,Bool.and_eq_true,decide_eq_true_eq]
      exact this
     rw[this]at h3;cases h3
   ·rw[if_neg h3]
    have h3':(t.outs.all fun o=>belowB o t.code.length)=true:=by simpa using h3
    refine⟨fun _=>⟨by omega,by omega,a3,by omega,a5,a6,fun k i hk=>by have:=hf.1 h2' k i hk;rwa [Nat.zero_add]at this,fun o ho=>?_⟩,fun _=>rfl⟩
    have:=List.all_eq_true.1 h3' o ho
    simpa only[belowB,Bool.and_eq_true,decide_eq_true_eq]using this
theorem zf4{dim par:Int}{p:Nat}{i:Ins}(h:mayI dim par p i=true)(ho:i.op=6∨i.op=11∨(7≤i.op∧i.op≤10)):0≤i.a∧i.a<p:=by
 unfold mayI at h
 rw[if_neg (by omega)]at h
 simp only[Bool.and_eq_true,List.all_eq_true]at h
 have:=h.1.2 i.a (by
  unfold readsI
  by_cases h1:i.op=6∨i.op=11
  ·rw[if_pos h1];simp
  ·rw[if_neg h1,if_pos (by omega)];simp)
 simpa only[belowB,Bool.and_eq_true,decide_eq_true_eq]using this
theorem zj7{dim par:Int}{p:Nat}{i:Ins}(h:mayI dim par p i=true)(ho:7≤i.op∧i.op≤10):0≤i.b∧i.b<p:=by
 unfold mayI at h
 rw[if_neg (by omega)]at h
 simp only[Bool.and_eq_true,List.all_eq_true]at h
 have:=h.1.2 i.b (by
  unfold readsI
  rw[if_neg (by omega),if_pos ho];simp)
 simpa only[belowB,Bool.and_eq_true,decide_eq_true_eq]using this
theorem zum{dim par:Int}{p:Nat}{i:Ins}(h:mayI dim par p i=true):i.op=1∨i.op=2∨i.op=3∨i.op=4∨i.op=6∨i.op=7∨i.op=8∨i.op=9∨i.op=10∨i.op=11:=by
 unfold mayI at h
 by_cases h1:i.op=1
 ·exact .inl h1
 rw[if_neg h1]at h
 by_cases h2:i.op=2
 ·omega
 by_cases h3:i.op=3
 ·omega
 by_cases h4:i.op=4
 ·omega
 by_cases h6:i.op=6
 ·omega
 by_cases h11:i.op=11
 ·omega
 rw[if_neg h2,if_neg h3,if_neg h4,if_neg h6,if_neg h11]at h
 simp only[Bool.and_eq_true,decide_eq_true_eq]at h
 have h2':=h.2
 by_cases hr:7≤i.op∧i.op≤10
 ·omega
 ·have e:readsI i=[]:=by
   unfold readsI
   rw[if_neg (by omega),if_neg hr]
  rw[e]at h2'
  simp at h2'
theorem z0d{dim par:Int}{p:Nat}{i:Ins}(h:mayI dim par p i=true)(ho:i.op=3):0≤i.a∧i.a<dim:=by
 unfold mayI at h
 rw[if_neg (by omega),if_neg (by omega),if_pos ho]at h
 simp only[Bool.and_eq_true,decide_eq_true_eq,belowB]at h
 exact h.2.1
theorem z0e{dim par:Int}{p:Nat}{i:Ins}(h:mayI dim par p i=true)(ho:i.op=4):0≤i.a∧i.a<par:=by
 unfold mayI at h
 rw[if_neg (by omega),if_neg (by omega),if_neg (by omega),if_pos ho]at h
 simp only[Bool.and_eq_true,decide_eq_true_eq,belowB]at h
 exact h.2.1
theorem zwr{dim par:Int}{p:Nat}{i:Ins}(h:mayI dim par p i=true)(ho:i.op=11):-8≤i.b∧i.b≤8:=by
 unfold mayI at h
 rw[if_neg (by omega),if_neg (by omega),if_neg (by omega),if_neg (by omega),if_neg (by omega),if_pos ho]at h
 simp only[Bool.and_eq_true,decide_eq_true_eq]at h
 exact h.2
structure Po where
 t:Rat
 y:List Rat
 p:List Rat
structure PoF where
 t:Fz
 y:List Fz
 p:List Fz
def PoF.v(x:PoF):Po:=⟨fv x.t,x.y.map fv,x.p.map fv⟩
def Po.f(x:Po):PoF:=⟨fz x.t,fzs x.y,fzs x.p⟩
abbrev ept(x:PoF):AV:=.agg [.b x.t.1,.sl (u32s x.t.2.1) .an,.sl (u32s x.t.2.2) .an,.sl (rowF x.y) .an,.sl (rowF x.p) .an]
def gI(l:List Rat)(i:Int):Rat:=l.getD i.toNat 0
def powZ(x:Rat)(e:Int):Rat:=x^e
def valI(P:Po)(D:List Rat)(i:Ins):Rat×Bool:=
 if i.op=1 then (fv i.n,true)
 else if i.op=3 then (gI P.y i.a,true)
 else if i.op=4 then (gI P.p i.a,true)
 else if i.op=6 then (-gI D i.a,true)
 else if i.op=7 then (gI D i.a+gI D i.b,true)
 else if i.op=8 then (gI D i.a-gI D i.b,true)
 else if i.op=9 then (gI D i.a*gI D i.b,true)
 else if i.op=10 then (gI D i.a/gI D i.b,decide (gI D i.b≠0))
 else if i.op=11 then (if i.b<0∧gI D i.a=0 then (0,false) else (powZ (gI D i.a) i.b,true))
 else (P.t,true)
def sizQ(q:Rat):Nat:=sizF (fz q)
def runR(lim:Nat)(P:Po):List Ins→List Rat→List Rat×Nat×Nat
 | [],D=>(D,0,0)
 | i::r,D=>if (valI P D i).2=false then ([],3,D.length) else if lim<sizQ (valI P D i).1 then ([],6,D.length) else runR lim P r (D++[(valI P D i).1])
theorem zc7(lim:Nat)(P:Po)(i:Ins)(r:List Ins)(D:List Rat):runR lim P (i::r) D=if (valI P D i).2=false then ([],3,D.length) else if lim<sizQ (valI P D i).1 then ([],6,D.length) else runR lim P r (D++[(valI P D i).1]):=rfl
theorem zj8(lim:Nat)(P:Po):∀(l:List Ins) (D:List Rat),(runR lim P l D).2.1=0→(runR lim P l D).2.2=0∧∃E,(runR lim P l D).1=D++E∧E.length=l.length
 | [],D,_=>⟨rfl,[],by simp[runR],rfl⟩
 | i::r,D,h=>by
  have ih:=zj8 lim P r (D++[(valI P D i).1])
  rw[zc7]at h ⊢
  by_cases h1:(valI P D i).2=false
  ·simp[h1]at h
  ·rw[if_neg h1]at h ⊢
   by_cases h2:lim<sizQ (valI P D i).1
   ·simp[h2]at h
   ·rw[if_neg h2]at h ⊢
    obtain⟨e1,E,e2,e3⟩:=ih h
    exact⟨e1,(valI P D i).1::E,by rw[e2];simp,by simp[e3]⟩
theorem zun(lim:Nat)(P:Po):∀(l:List Ins) (D:List Rat),(runR lim P l D).2.1≠0→(runR lim P l D).1=[]∧D.length≤(runR lim P l D).2.2∧(runR lim P l D).2.2<D.length+l.length
 | [],D,h=>by simp[runR]at h
 | i::r,D,h=>by
  have ih:=zun lim P r (D++[(valI P D i).1])
  rw[zc7]at h ⊢
  by_cases h1:(valI P D i).2=false
  ·simp[h1]
  ·rw[if_neg h1]at h ⊢
   by_cases h2:lim<sizQ (valI P D i).1
   ·simp[h2]
   ·rw[if_neg h2]at h ⊢
    have:=ih h
    simp only[List.length_append,List.length_cons,List.length_nil]at this ⊢
    exact⟨this.1,by omega,by omega⟩
abbrev tyI:Ty:=.cons (.int .i64) (.cons (.int .i64) (.cons (.int .i64) (.cons tyF .nil)))
abbrev tyT:Ty:=.cons (.sl tyI) (.cons (.sl (.int .i64)) (.cons (.int .i64) (.cons (.int .i64) .nil)))
abbrev tyP:Ty:=.cons tyF (.cons (.sl tyF) (.cons (.sl tyF) .nil))
theorem zld{x:AV}(h:OkArg (true,tyP) x):∃t:PoF,wkA x=ept t:=by
 obtain⟨cs,rfl,c1,c1',rfl,h1,c2,c2',rfl,h2,c3,c3',rfl,h3,rfl⟩:=h
 obtain⟨t,e1⟩:=zw8 h1
 obtain⟨y,e2⟩:=zlc h2
 obtain⟨p,e3⟩:=zlc h3
 refine⟨⟨t,y,p⟩,?_⟩
 rw[wkA]
 simp only[zpn,e1,e2,e3]
 rfl
abbrev tyW:Ty:=.cons tyP (.cons tyP (.cons (.int .i64) .nil))
end Go.Ab
section
namespace Go.Proofs.YtebcadckeepbdaaGreatDoor
open Go Go.Ab Go.ChangeShapes Go.WideShapes Go.ChangeAt Go.RowKit
theorem Tryz.own:ownKnob Tryz.prog.godebug=none:=by kernel_rfl
theorem Tryz.laidOut:laidOutB Tryz.prog=true:=by kernel_rfl
theorem Tryz.mixed:Tryz.prog.follows .mixedOrders=true:=by kernel_rfl
theorem Tryz.rowed:mapsRowed Tryz.prog=true:=by kernel_rfl
theorem Tryz.heard:Tryz.prog.stopsHeard=true:=by kernel_rfl
theorem Tryz.enters:Tryz.prog.mayEnter=true:=by kernel_rfl
theorem Tryz.keys:Tryz.prog.plainKeys=Rows.pullSumsRow.plainKeys:=by kernel_rfl
theorem Tryz.lifts:Tryz.prog.liftsFinal=Rows.pullSumsRow.lifted:=by kernel_rfl
theorem Tryz.makes:Tryz.prog.make=some Rows.pullSumsRow.make:=by kernel_rfl
def laid2:List (String×DataW Unit):=[("unicode/utf8.acceptRanges",Rows.laid_unicode_utf8_acceptRanges),("unicode/utf8.first",Rows.laid_unicode_utf8_first)]
noncomputable def laidWorld(os:Os):World:=
 let put (h:Array Obj) (g:Nat) (cs:Array Value):Array Obj:=h.modify g fun
  | .cells _ t frozen=>.cells cs t frozen
  | o=>o
 let w0:=World.holding Tryz.prog os ⟨#[],#[],[]⟩
 let h1:=put w0.heap 1 (Lib.firstTab.map fun z=>Value.int .u8 z).toArray
 let h2:=put h1 2 ((List.range 16).flatMap fun i=>[Value.int .u8 (Lib.accLo i),Value.int .u8 (Lib.accHi i)]).toArray
 { w0 with heap:=h2 }
theorem laid_met(os:Os)(args:Array Value):laidMetH Tryz.prog laid2 ((laidWorld os).forCall (fun _ _=>0) ⟨#[],args,[]⟩).memory:=
 laidMetH_of_parts3 (fuel:=8) (laidMet_of_run' 8 (by kernel_rfl) (by kernel_rfl)) (by kernel_rfl) (by kernel_rfl)
theorem laid_shaped(os:Os):(laidWorld os).Shaped Tryz.prog:=World.shaped_of_RefB (by kernel_rfl) (by kernel_rfl)
theorem tab_all:TOk Tryz.prog nu (fun u=>lTab.lookup u):=lTab_ok (text_ok Tryz.mixed) (join_ok)
end Go.Proofs.YtebcadckeepbdaaGreatDoor
end
namespace Go.Ab
theorem zm4:∀(a b:List UInt32),a.length=b.length→val a=val b→a=b
 | [],[],_,_=>rfl
 | x::a,y::b,hl,hv=>by
  simp only[zak]at hv
  have hx:=zaj x
  have hy:=zaj y
  have h1:x.toNat=y.toNat:=by omega
  have h2:val a=val b:=by omega
  rw[UInt32.toNat_inj.1 h1,zm4 a b (by simpa using hl) h2]
 | [],_::_,hl,_=>by simp at hl
 | _::_,[],hl,_=>by simp at hl
theorem zfe{x y:Nat}:cmpN x y=0↔x=y:=by
 unfold cmpN
 split
 ·constructor
  ·intro h;omega
  ·intro h;omega
 ·split
  ·constructor
   ·intro h;omega
   ·intro h;omega
  ·constructor
   ·intro _;omega
   ·intro _;rfl
theorem zsv(z:Int):∀t:Nat,sg (decide (z<0)&&decide (t%2=1)) (z.natAbs^t)=z^t
 | 0=>by simp[sg]
 | t+1=>by
  have ih:=zsv z t
  have hz:sg (decide (z<0)) z.natAbs=z:=by
   unfold sg
   by_cases h:z<0
   ·simp only[h,decide_true,if_true];omega
   ·simp only[h,decide_false,Bool.false_eq_true,if_false];omega
  have hm:=zuh (decide (z<0)&&decide (t%2=1)) (decide (z<0)) (z.natAbs^t) z.natAbs
  rw[ih,hz]at hm
  rw[Int.pow_succ,←hm,Nat.pow_succ]
  congr 1
  rcases Nat.mod_two_eq_zero_or_one t with h | h
  ·have h2:(t+1)%2=1:=by omega
   rw[h,h2]
   cases decide (z<0)<;>rfl
  ·have h2:(t+1)%2=0:=by omega
   rw[h,h2]
   cases decide (z<0)<;>rfl
theorem zft{x L:Nat}(h:(ofN x).length≤L):∀t:Nat,(ofN (x^t)).length≤t*L+1
 | 0=>by rw[Nat.pow_zero,ze2];simp
 | t+1=>by
  have ih:=zft h t
  have:=za9 ih h
  rw[Nat.pow_succ,Nat.succ_mul]
  omega
section
variable{T:Tbl}[CLimb T][CNat T][CProd T][CTwos T][CQuot T][CQuotD T][CWhole T][CCommon T][CFrac T][CFrac3 T]
theorem zpt(x:Fz)(hx:fsz x≤10000):callF T 208 [efz x]=some (.b (rightF x)):=by
 have hn:=zcl (T:=T) x hx
 have hs:=zbo (x:=x) (L:=10000) hx (by decide)
 have l1:=zfl (fv x)
 have l2:=zfm (fv x)
 unfold rightF
 have e':fz (fv x)=(decide ((fv x).num<0),ofN (fv x).num.natAbs,ofN (fv x).den):=rfl
 rw[e']at hn ⊢
 obtain⟨n,a,d⟩:=x
 have la:=zdo (n,a,d)
 have ld:=zds (n,a,d)
 simp only at la ld
 generalize decide ((fv (n,a,d)).num<0)=m at *
 generalize ofN (fv (n,a,d)).num.natAbs=b at *
 generalize ofN (fv (n,a,d)).den=e at *
 have c1:=zfv (T:=T) a b (by omega) (by omega)
 have c2:=zfv (T:=T) d e (by omega) (by omega)
 clear e' hs
 change callF T 207 [.agg [.b n,.sl (u32s a) .an,.sl (u32s d) .an]]=some (.agg [.b m,.sl (u32s b) .an,.sl (u32s e) .an]) at hn
 rw[f208 _ rfl,b208]
 by_cases h1:n=m
 case neg=>
  have hd:decide ((n,a,d)=(m,b,e))=false:=by simp[h1]
  have hb:(n == m)=false:=by simpa using h1
  rw[hd]
  simp -implicitDefEqProofs[hn,hb]
 subst h1
 by_cases h2:a.length=b.length
 case neg=>
  have hd:decide ((n,a,d)=(n,b,e))=false:=by
   have:a≠b:=fun h=>h2 (by rw[h])
   simp[this]
  have hb:((a.length:Int) == b.length)=false:=by simp;omega
  have hb':¬ (a.length:Int)=b.length:=by omega
  rw[hd]
  simp -implicitDefEqProofs[hn,hb,hb',h2]
 by_cases h3:d.length=e.length
 case neg=>
  have hd:decide ((n,a,d)=(n,b,e))=false:=by
   have:d≠e:=fun h=>h3 (by rw[h])
   simp[this]
  have hb:((d.length:Int) == e.length)=false:=by simp;omega
  have hb':¬ (d.length:Int)=e.length:=by omega
  rw[hd]
  simp -implicitDefEqProofs[hn,h2,hb,hb',h3]
 by_cases h4:val a=val b
 case neg=>
  have hd:decide ((n,a,d)=(n,b,e))=false:=by
   have:a≠b:=fun h=>h4 (by rw[h])
   simp[this]
  have hc:¬ cmpN (val a) (val b)=0:=fun h=>h4 (zfe.1 h)
  rw[hd]
  generalize cmpN (val a) (val b)=k at *
  simp -implicitDefEqProofs[hn,h2,h3,c1,hc]
 have hab:=zm4 a b h2 h4
 subst hab
 have hk:cmpN (val a) (val a)=0:=zfe.2 rfl
 rw[hk]at c1
 by_cases h5:val d=val e
 case neg=>
  have hd:decide ((n,a,d)=(n,a,e))=false:=by
   have:d≠e:=fun h=>h5 (by rw[h])
   simp[this]
  have hc:¬ cmpN (val d) (val e)=0:=fun h=>h5 (zfe.1 h)
  rw[hd]
  generalize cmpN (val d) (val e)=k at *
  simp -implicitDefEqProofs[hn,h3,c1,c2,hc]
 have hde:=zm4 d e h3 h5
 subst hde
 have hk2:cmpN (val d) (val d)=0:=zfe.2 rfl
 rw[hk2]at c2
 have hd:decide ((n,a,d)=(n,a,d))=true:=by simp
 rw[hd]
 simp -implicitDefEqProofs[hn,c1,c2]
def stPw(a:List UInt32)(k i:Nat):St:=⟨[(0,.sl (u32s a) .an),(5,.sl (u32s (ofN (val a^i))) .an),(7,.i .i64 k),(8,.i .i64 i)],[],2⟩
theorem ziw(a:List UInt32)(k:Nat)(hk:k≤8)(ha:a.length≤1100):callF T 219 [.sl (u32s a) .an,.i .i64 k]=some (.sl (u32s (ofN (val a^k))) .an):=by
 have h:loopN T 0 0 (.norm false [5]) l219_0 (stPw a k 0)=some (.n,⟨[(5,.sl (u32s (ofN (val a^k))) .an)],[],2⟩):=by
  refine za6 (stPw a k) k _ (fun i hi=>?_) ?_
  ·have hl:=zft (L:=1100) (Nat.le_trans (zac a) ha) i
   have c:=zeh (T:=T) (ofN (val a^i)) a (by omega) (by omega)
   rw[zae,←Nat.pow_succ]at c
   have hw:=zcy hi (by omega)
   unfold stPw
   generalize ofN (val a^i)=M at *
   generalize ofN (val a^(i+1))=M' at *
   simp -implicitDefEqProofs[l219_0,hi,hw,c]
  ·unfold stPw
   generalize ofN (val a^k)=M at *
   constructor<;>simp -implicitDefEqProofs[l219_0]
 have ho:=zga (T:=T) 1 (by decide)
 unfold stPw at h
 rw[Nat.pow_zero]at h
 simp only[Int.natCast_zero]at h
 generalize ofN 1=O at *
 rw[f219 _ rfl,b219]
 generalize ofN (val a^k)=M at *
 simp -implicitDefEqProofs[ho,h]
def powR(q:Rat)(e:Int):Rat×Bool:=if -8≤e∧e≤8∧¬ (e<0∧q=0) then (powZ q e,true) else (0,false)
theorem z4e(q:Rat)(t:Nat):fz (q^t)=(decide (q.num<0)&&decide (t%2=1)&&decide (q.num.natAbs^t≠0),ofN (q.num.natAbs^t),ofN (q.den^t)):=by
 have h:=zsv q.num t
 unfold fz
 rw[Rat.num_pow,Rat.den_pow,←h,zov,zow]
theorem zy5(q:Rat)(t:Nat)(hq:q≠0):fz (q^t)⁻¹=(decide (q.num<0)&&decide (t%2=1)&&decide (q.den^t≠0),ofN (q.den^t),ofN (q.num.natAbs^t)):=by
 have h:=zsv q.num t
 have hn:q.num≠0:=fun h=>hq (Rat.num_eq_zero.1 h)
 have hz:q.num^t≠0:=Int.pow_ne_zero hn
 have hd:q.den^t≠0:=Nat.pos_iff_ne_zero.1 (Nat.pow_pos q.den_pos)
 have ha:q.num.natAbs^t≠0:=Nat.pos_iff_ne_zero.1 (Nat.pow_pos (Int.natAbs_pos.2 hn))
 have e1:(q^t)⁻¹.num=(q.num^t).sign*((q.den^t:Nat):Int):=by rw[Rat.num_inv,Rat.num_pow,Rat.den_pow]
 have e2:(q^t)⁻¹.den=q.num.natAbs^t:=by rw[Rat.den_inv,Rat.num_pow,if_neg hz,Int.natAbs_pow]
 have e3:((q.num^t).sign*((q.den^t:Nat):Int)).natAbs=q.den^t:=by
  rw[Int.natAbs_mul,Int.natAbs_sign_of_ne_zero hz,Nat.one_mul,Int.natAbs_natCast]
 have e4:decide ((q.num^t).sign*((q.den^t:Nat):Int)<0)=decide (q.num^t<0):=by
  rw[decide_eq_decide]
  rcases Int.lt_trichotomy (q.num^t) 0 with h1 | h1 | h1
  ·rw[Int.sign_eq_neg_one_of_neg h1]
   constructor
   ·intro _;exact h1
   ·intro _;omega
  ·exact absurd h1 hz
  ·rw[Int.sign_eq_one_of_pos h1]
   constructor
   ·intro _;omega
   ·intro _;omega
 have e5:decide (q.num^t<0)=(decide (q.num<0)&&decide (t%2=1)):=by
  rw[←h,zov,decide_eq_true ha,Bool.and_true]
 unfold fz
 rw[e1,e2,e3,e4,e5,decide_eq_true hd,Bool.and_true]
theorem zoc(x:Fz)(e:Int)(hx:fsz x≤1000):callF T 220 [efz x,.i .i64 e]=some (.tup [efz (fz (powR (fv x) e).1),.b (powR (fv x) e).2]):=by
 have h0:=zee (T:=T)
 have hsg:=zho (T:=T) x (by omega)
 have hn:=zcl (T:=T) x (by omega)
 have hs:=zbo (x:=x) (L:=1000) hx (by decide)
 have l1:=zfl (fv x)
 have l2:=zfm (fv x)
 unfold powR
 rw[f220 _ rfl,b220]
 by_cases h1:e < -8
 ·rw[if_neg (by omega)]
  generalize fz 0=Z at *
  simp -implicitDefEqProofs[h0,h1]
 by_cases h2:8<e
 ·rw[if_neg (by omega)]
  generalize fz 0=Z at *
  simp -implicitDefEqProofs[h0,h1,h2]
 obtain⟨q,hq⟩:∃q,q=fv x:=⟨_,rfl⟩
 rw[←hq]at hsg hn hs l1 l2 ⊢
 clear hq
 have e':fz q=(decide (q.num<0),ofN q.num.natAbs,ofN q.den):=rfl
 rw[e']at hn
 have hA:(ofN q.num.natAbs).length≤1100:=by omega
 have hD:(ofN q.den).length≤1100:=by omega
 have pA:∀k:Nat,k≤8→callF T 219 [.sl (u32s (ofN q.num.natAbs)) .an,.i .i64 k]=some (.sl (u32s (ofN (q.num.natAbs^k))) .an):=fun k hk=>by
  have:=ziw (T:=T) (ofN q.num.natAbs) k hk hA
  rwa [zae]at this
 have pD:∀k:Nat,k≤8→callF T 219 [.sl (u32s (ofN q.den)) .an,.i .i64 k]=some (.sl (u32s (ofN (q.den^k))) .an):=fun k hk=>by
  have:=ziw (T:=T) (ofN q.den) k hk hD
  rwa [zae]at this
 have lA:∀k:Nat,k≤8→(ofN (q.num.natAbs^k)).length≤1000000:=fun k hk=>by
  have:=zft hA k
  have:k*1100≤8*1100:=Nat.mul_le_mul_right _ hk
  omega
 have lD:∀k:Nat,k≤8→(ofN (q.den^k)).length≤1000000:=fun k hk=>by
  have:=zft hD k
  have:k*1100≤8*1100:=Nat.mul_le_mul_right _ hk
  omega
 have hodd:∀k:Nat,k≤8→(((k:Int).tmod 2) == 1)=decide (k%2=1):=fun k hk=>by
  have e:(k:Int).tmod 2=((k%2:Nat):Int):=by rw[show (2:Int)=((2:Nat):Int) from rfl,←Int.ofNat_tmod]
  rw[e,Bool.eq_iff_iff]
  simp
  omega
 by_cases h3:e<0
 case neg=>
  obtain⟨n,rfl⟩:∃n:Nat,e=n:=⟨e.toNat,by omega⟩
  have hn8:n≤8:=by omega
  rw[if_pos (by omega)]
  have hw:IntKind.wrap .i64 (-(n:Int))=-(n:Int):=zad _ (by omega)
  have cA:=pA n hn8
  have cD:=pD n hn8
  have ho:=hodd n hn8
  have hnorm:=zfy (T:=T) (decide (q.num<0)&&decide (n%2=1)) (ofN (q.num.natAbs^n)) (lA n hn8)
  rw[show wv (decide (q.num<0)&&decide (n%2=1)) (ofN (q.num.natAbs^n))=sg (decide (q.num<0)&&decide (n%2=1)) (q.num.natAbs^n) by unfold wv;rw[zae],zug]at hnorm
  have hf:=z4e q n
  have hz:powZ q (n:Int)=q^n:=Rat.zpow_natCast q n
  simp only[hz]
  rw[hf]
  clear hf hz pA pD lA lD hodd hsg e'
  have h4:¬ (8:Int)<n:=by omega
  have h5:¬ ((n:Int) < -(n:Int)):=by omega
  have h6:¬ (n:Int)<0:=by omega
  have h1':¬ (n:Int) < -8:=by omega
  generalize ofN (q.num.natAbs^n)=AP at *
  generalize ofN (q.den^n)=DP at *
  generalize decide (q.num.natAbs^n≠0)=NZ at *
  generalize ofN q.num.natAbs=A at *
  generalize ofN q.den=D at *
  generalize decide (q.num<0)=NG at *
  generalize decide (n%2=1)=OD at *
  cases NG with
  | false=>
   simp only[Bool.false_and]at hnorm ⊢
   simp -implicitDefEqProofs[h0,hn,h4,h5,h6,h1',hw,mm2,cA,cD,ho,hnorm]
  | true=>
   simp only[Bool.true_and]at hnorm ⊢
   cases OD with
   | false=>simp -implicitDefEqProofs[h0,hn,h4,h5,h6,h1',hw,mm2,cA,cD,ho,hnorm]
   | true=>simp -implicitDefEqProofs[h0,hn,h4,h5,h6,h1',hw,mm2,cA,cD,ho,hnorm]
 by_cases h7:q=0
 ·rw[if_neg (by intro h;exact h.2.2 ⟨h3,h7⟩)]
  have hs0:sgQ q=0:=zgo.2 h7
  rw[hs0]at hsg
  generalize fz 0=Z at *
  have h4:¬ (8:Int)<e:=by omega
  simp -implicitDefEqProofs[h0,h1,h4,h3,hsg]
 rw[if_pos (by refine⟨by omega,by omega,fun h=>h7 h.2⟩)]
 obtain⟨n,rfl⟩:∃n:Nat,e=-(n:Int):=⟨(-e).toNat,by omega⟩
 have hn8:n≤8:=by omega
 have hsz:¬ sgQ q=0:=fun h=>h7 (zgo.1 h)
 have hw:IntKind.wrap .i64 (n:Int)=(n:Int):=zad _ (by omega)
 have cA:=pA n hn8
 have cD:=pD n hn8
 have ho:=hodd n hn8
 have hnorm:=zfy (T:=T) (decide (q.num<0)&&decide (n%2=1)) (ofN (q.den^n)) (lD n hn8)
 rw[show wv (decide (q.num<0)&&decide (n%2=1)) (ofN (q.den^n))=sg (decide (q.num<0)&&decide (n%2=1)) (q.den^n) by unfold wv;rw[zae],zug]at hnorm
 have hf:=zy5 q n h7
 have hz:powZ q (-(n:Int))=(q^n)⁻¹:=by unfold powZ;rw[Rat.zpow_neg,Rat.zpow_natCast]
 simp only[hz]
 rw[hf]
 clear hf hz pA pD lA lD hodd e'
 have h4:¬ (8:Int) < -(n:Int):=by omega
 have h5:(-(n:Int)<(n:Int)):=by omega
 have h1':¬ -(n:Int) < -8:=by omega
 have h6:(n:Int)≠0:=by omega
 have h6':0<(n:Int):=by omega
 have h6'':0<n:=by omega
 have h1'':¬ 8<n:=by omega
 generalize ofN (q.num.natAbs^n)=AP at *
 generalize ofN (q.den^n)=DP at *
 generalize decide (q.den^n≠0)=NZ at *
 generalize ofN q.num.natAbs=A at *
 generalize ofN q.den=D at *
 generalize decide (q.num<0)=NG at *
 generalize decide (n%2=1)=OD at *
 generalize sgQ q=SG at *
 cases NG with
 | false=>
  simp only[Bool.false_and]at hnorm ⊢
  simp -implicitDefEqProofs[h0,hn,h3,h4,h5,h6,h6',h6'',h1',h1'',hw,mm2,cA,cD,ho,hnorm,hsg,hsz]
 | true=>
  simp only[Bool.true_and]at hnorm ⊢
  cases OD with
  | false=>simp -implicitDefEqProofs[h0,hn,h3,h4,h5,h6,h6',h6'',h1',h1'',hw,mm2,cA,cD,ho,hnorm,hsg,hsz]
  | true=>simp -implicitDefEqProofs[h0,hn,h3,h4,h5,h6,h6',h6'',h1',h1'',hw,mm2,cA,cD,ho,hnorm,hsg,hsz]
end
@[simp] theorem zz0(l:List Int):(ints l).length=l.length:=by simp[ints]
@[simp] theorem zabs(l:List Int):wkL (ints l)=ints l:=by rw[zbs];simp[ints,wkR,wkA]
@[simp] theorem z7i(l:List Int)(i:Nat)(h:i<(ints l).length):(ints l)[i]=[.i .i64 (l[i]'(by simpa using h))]:=by simp[ints]
@[simp] theorem z7j:ints []=[]:=rfl
section
variable{T:Tbl}[CLimb T][CNat T][CProd T][CTwos T][CQuot T][CQuotD T][CWhole T][CCommon T][CFrac T][CFrac3 T][CTape T]
theorem zcd(i m:Int):callF T 435 [.i .i64 i,.i .i64 m]=some (.b (belowB i m)):=by
 rw[f435 _ rfl,b435]
 unfold belowB
 by_cases h:0≤i
 ·by_cases h2:i<m<;>simp -implicitDefEqProofs[h,h2]
 ·simp -implicitDefEqProofs[h]
theorem zz1(i:Ins):callF T 437 [.agg (celI i)]=some (.agg [.i .i64 i.op,.i .i64 i.a,.i .i64 i.b]):=by
 rw[f437 _ rfl,b437]
 simp -implicitDefEqProofs
theorem zqh(x:Fz)(hx:fsz x≤10000):callF T 438 [efz x]=some (.b (blankF x)):=by
 obtain⟨n,a,d⟩:=x
 rw[f438 _ rfl,b438]
 unfold blankF
 cases n with
 | true=>simp -implicitDefEqProofs
 | false=>
  by_cases h:a=[]
  ·subst h
   by_cases h2:d=[]
   ·subst h2
    simp -implicitDefEqProofs
   ·have e2:d.isEmpty=false:=by cases d<;>simp_all
    simp -implicitDefEqProofs[h2,e2]
  ·have e2:a.isEmpty=false:=by cases a<;>simp_all
   simp -implicitDefEqProofs[h,e2]
theorem zqi(i:Ins):callF T 439 [.agg (celI i)]=some (.sl (ints (readsI i)) .an):=by
 obtain⟨op,a,b,n⟩:=i
 rw[f439 _ rfl,b439]
 unfold readsI
 simp only
 by_cases h6:op=6
 ·subst h6
  simp -implicitDefEqProofs[ints]
 by_cases h11:op=11
 ·subst h11
  simp -implicitDefEqProofs[ints]
 rw[if_neg (by omega)]
 by_cases h7:op=7
 ·subst h7
  simp -implicitDefEqProofs[ints]
 by_cases h8:op=8
 ·subst h8
  simp -implicitDefEqProofs[ints]
 by_cases h9:op=9
 ·subst h9
  simp -implicitDefEqProofs[ints]
 by_cases h10:op=10
 ·subst h10
  simp -implicitDefEqProofs[ints]
 rw[if_neg (by omega)]
 simp -implicitDefEqProofs[h6,h7,h8,h9,h10,h11]
theorem zt6(i:Ins):(readsI i).length≤2:=by
 unfold readsI
 split
 ·simp
 ·split<;>simp
def stMy(t:Tp)(p:Nat)(x:Ins)(i:Nat):St:=
 ⟨[(1,.i .i64 p),(2,.ptr (.loc 2) 1 4 0 0),(5,.ptr (.loc 5) 2 6 0 0),(30,.sl (ints (readsI x)) .an),(31,.i .i64 (readsI x).length),(32,.i .i64 i)],
  [(.loc 2,⟨1,.str,4,[[.sl (rowI t.code) .an,.sl (ints t.outs) .an,.i .i64 t.dim,.i .i64 t.par]]⟩),(.loc 5,⟨2,.str,6,[celI x]⟩)],4⟩
theorem zwe(t:Tp)(p:Nat)(x:Ins):loopN T 0 0 (.norm false [2,5]) l434_0 (stMy t p x 0) =
  if ((readsI x).all fun r=>belowB r p)=true then some (.n,⟨[(2,.ptr (.loc 2) 1 4 0 0),(5,.ptr (.loc 5) 2 6 0 0)],
   [(.loc 2,⟨1,.str,4,[[.sl (rowI t.code) .an,.sl (ints t.outs) .an,.i .i64 t.dim,.i .i64 t.par]]⟩),(.loc 5,⟨2,.str,6,[celI x]⟩)],4⟩)
  else some (.r,⟨[(4,.b false)],[],2⟩):=by
 have hlen:=zt6 x
 refine zca (stMy t p x) (readsI x).length (fun i=>if (((readsI x).drop i).all fun r=>belowB r p)=true then some (.n,_) else some (.r,_)) (fun i hi=>?_) ?_
 ·have hg:(readsI x)[i]? = some ((readsI x)[i]'hi):=List.getElem?_eq_getElem hi
  have hws:=zcy hi (by omega)
  have hd:(readsI x).drop i=(readsI x)[i]'hi::(readsI x).drop (i+1):=List.drop_eq_getElem_cons hi
  have cb:=zcd (T:=T) ((readsI x)[i]'hi) p
  have hi':(i:Int)<(readsI x).length:=by omega
  by_cases hb:belowB ((readsI x)[i]'hi) p=true
  ·left
   rw[hb]at cb
   refine⟨?_,by rw[hd];simp only[List.all_cons,hb,Bool.true_and]⟩
   unfold stMy
   generalize readsI x=R at *
   simp -implicitDefEqProofs[l434_0,hi,hi',hg,hws,cb]
  ·right
   have hb':belowB ((readsI x)[i]'hi) p=false:=by simpa using hb
   rw[hb']at cb
   have hall:(((readsI x).drop i).all fun r=>belowB r p)=false:=by rw[hd,List.all_cons,hb'];rfl
   simp only[hall,Bool.false_eq_true,if_false]
   unfold stMy
   clear hall hd
   generalize readsI x=R at *
   constructor<;>simp -implicitDefEqProofs[l434_0,hi,hi',hg,cb]
 ·simp only[List.drop_length,List.all_nil,if_true]
  unfold stMy
  generalize readsI x=R at *
  constructor<;>simp -implicitDefEqProofs[l434_0]
theorem zwf(t:Tp)(p:Nat)(x:Ins)(hx:t.code[p]? = some x)(hf:fsz x.n≤10000)(hl:t.code.length≤4294967296):callF T 434 [etp t,.i .i64 p]=some (.b (mayI t.dim t.par p x)):=by
 have hp:=zax hx
 have hp2:(p:Int)<t.code.length:=by omega
 have ho:=zz1 (T:=T) x
 have hbl:=zqh (T:=T) x.n hf
 have hrd:=zqi (T:=T) x
 have hlo:=zwe (T:=T) t p x
 have hrt:=zpt (T:=T) x.n hf
 unfold mayI
 unfold stMy at hlo
 simp only[Int.natCast_zero]at hlo
 have cy:=zcd (T:=T) x.a t.dim
 have cp:=zcd (T:=T) x.a t.par
 have hr2:(((readsI x).length:Int) == 2)=decide ((readsI x).length=2):=by
  rw[Bool.eq_iff_iff]
  simp
  omega
 rw[f434 _ rfl,b434]
 generalize readsI x=R at *
 generalize rightF x.n=RT at *
 generalize blankF x.n=BL at *
 generalize belowB x.a t.dim=B1 at *
 generalize belowB x.a t.par=B2 at *
 generalize (R.all fun r=>belowB r p)=AL at *
 obtain⟨code,outs,dim,par⟩:=t
 obtain⟨op,a,b,n⟩:=x
 dsimp only at hx hp hp2 ho hbl hrd hlo hrt cy cp ⊢
 have hxe:=(List.getElem?_eq_some_iff.1 hx).2
 clear hf hl
 by_cases h1:op=1
 ·subst h1
  by_cases ha:a=0
  ·subst ha
   by_cases hb:b=0
   ·subst hb
    simp -implicitDefEqProofs[hp,hp2,hx,hxe,ho,hrt]
   ·simp -implicitDefEqProofs[hp,hp2,hx,hxe,ho,hrt,hb]
  ·simp -implicitDefEqProofs[hp,hp2,hx,hxe,ho,hrt,ha]
 rw[if_neg h1]
 cases BL with
 | false=>simp -implicitDefEqProofs[hp,hp2,hx,hxe,h1,hbl]
 | true=>
 cases AL with
 | false=>
  simp only[Bool.false_eq_true,if_false]at hlo
  simp -implicitDefEqProofs[hp,hp2,hx,hxe,h1,hbl,hrd,hlo]
 | true=>
 simp only[if_true]at hlo
 by_cases h2:op=2
 ·subst h2
  by_cases ha:a=0
  ·subst ha
   by_cases hb:b=0
   ·subst hb
    simp -implicitDefEqProofs[hp,hp2,hx,hxe,ho,hbl,hrd,hlo]
   ·simp -implicitDefEqProofs[hp,hp2,hx,hxe,ho,hbl,hrd,hlo,hb]
  ·simp -implicitDefEqProofs[hp,hp2,hx,hxe,ho,hbl,hrd,hlo,ha]
 by_cases h3:op=3
 ·subst h3
  cases B1 with
  | false=>simp -implicitDefEqProofs[hp,hp2,hx,hxe,hbl,hrd,hlo,cy]
  | true=>
   by_cases hb:b=0
   ·subst hb
    simp -implicitDefEqProofs[hp,hp2,hx,hxe,hbl,hrd,hlo,cy]
   ·simp -implicitDefEqProofs[hp,hp2,hx,hxe,hbl,hrd,hlo,cy,hb]
 by_cases h4:op=4
 ·subst h4
  cases B2 with
  | false=>simp -implicitDefEqProofs[hp,hp2,hx,hxe,hbl,hrd,hlo,cp]
  | true=>
   by_cases hb:b=0
   ·subst hb
    simp -implicitDefEqProofs[hp,hp2,hx,hxe,hbl,hrd,hlo,cp]
   ·simp -implicitDefEqProofs[hp,hp2,hx,hxe,hbl,hrd,hlo,cp,hb]
 by_cases h6:op=6
 ·subst h6
  by_cases hb:b=0
  ·subst hb
   simp -implicitDefEqProofs[hp,hp2,hx,hxe,hbl,hrd,hlo]
  ·simp -implicitDefEqProofs[hp,hp2,hx,hxe,hbl,hrd,hlo,hb]
 by_cases h11:op=11
 ·subst h11
  by_cases hb:-8≤b
  ·by_cases hb2:b≤8
   ·simp -implicitDefEqProofs[hp,hp2,hx,hxe,hbl,hrd,hlo,hb,hb2]
   ·simp -implicitDefEqProofs[hp,hp2,hx,hxe,hbl,hrd,hlo,hb,hb2]
  ·simp -implicitDefEqProofs[hp,hp2,hx,hxe,hbl,hrd,hlo,hb]
 simp -implicitDefEqProofs[hp,hp2,hx,hxe,h1,h2,h3,h4,h6,h11,hbl,hrd,hlo,hr2]
end
section
variable{T:Tbl}[CLimb T][CNat T][CProd T][CTwos T][CQuot T][CQuotD T][CWhole T][CCommon T][CFrac T][CFrac3 T][CTape T]
structure Small (t:Tp):Prop where
 code:t.code.length≤4294967296
 outs:t.outs.length≤4294967296
 ns:∀i∈t.code,fsz i.n≤10000
 d1:-9223372036854775808≤t.dim
 d2:t.dim<9223372036854775808
theorem zqj(t:Tp)(hs:Small t):callF T 433 [etp t]=some (.b (wholeT t)):=by
 obtain⟨h1,h2,_,d1,d2⟩:=hs
 have c0:callF T 435 [.i .i64 (IntKind.wrap .i64 (t.dim-1)),.i .i64 6]=some (.b (belowB (t.dim-1) 6)):=by
  rw[zcd]
  congr 2
  by_cases hm:t.dim=-9223372036854775808
  ·rw[hm]
   decide
  ·rw[zad _ (by omega)]
 have c1:=zcd (T:=T) t.par 7
 unfold wholeT
 obtain⟨code,outs,dim,par⟩:=t
 dsimp only at *
 have e1:((outs.length:Int) == dim)=decide ((outs.length:Int)=dim):=rfl
 rw[f433 _ rfl,b433]
 generalize belowB (dim-1) 6=B1 at *
 generalize belowB par 7=B2 at *
 cases B1 with
 | false=>simp -implicitDefEqProofs[c0]
 | true=>
 cases B2 with
 | false=>simp -implicitDefEqProofs[c0,c1]
 | true=>
 by_cases ho:(outs.length:Int)=dim
 ·by_cases hc:code.length≤300
  ·have hc':(code.length:Int)≤300:=by omega
   simp -implicitDefEqProofs[c0,c1,ho,hc,hc']
  ·have hc':300<(code.length:Int):=by omega
   simp -implicitDefEqProofs[c0,c1,ho,hc,hc']
 ·simp -implicitDefEqProofs[c0,c1,ho]
def bxT(t:Tp):Box:=⟨1,.str,4,[[.sl (rowI t.code) .an,.sl (ints t.outs) .an,.i .i64 t.dim,.i .i64 t.par]]⟩
def stW1(t:Tp)(i:Nat):St:=⟨[(1,.ptr (.loc 1) 1 4 0 0),(11,.i .i64 t.code.length),(12,.i .i64 i)],[(.loc 1,bxT t)],3⟩
theorem znd(t:Tp)(hs:Small t):loopN T 0 0 (.norm false [1]) l430_0 (stW1 t 0) =
  if firstI t.dim t.par 0 t.code=-1 then some (.n,⟨[(1,.ptr (.loc 1) 1 4 0 0)],[(.loc 1,bxT t)],3⟩) else some (.r,⟨[(2,.i .i64 (firstI t.dim t.par 0 t.code))],[],2⟩):=by
 have hc:=hs.code
 have e0:t.code.drop 0=t.code:=rfl
 rw[←e0]
 refine zca (stW1 t) t.code.length (fun i=>if firstI t.dim t.par i (t.code.drop i)=-1 then some (.n,_) else some (.r,⟨[(2,.i .i64 (firstI t.dim t.par i (t.code.drop i)))],[],2⟩)) (fun i hi=>?_) ?_
 ·have hg:t.code[i]? = some (t.code[i]'hi):=List.getElem?_eq_getElem hi
  have hws:=zcy hi (by omega)
  have hd:t.code.drop i=t.code[i]'hi::t.code.drop (i+1):=List.drop_eq_getElem_cons hi
  have cm:=zwf (T:=T) t i _ hg (hs.ns _ (List.getElem_mem hi)) hc
  have hi':(i:Int)<t.code.length:=by omega
  have hf:firstI t.dim t.par i (t.code.drop i)=if mayI t.dim t.par i (t.code[i]'hi) then firstI t.dim t.par (i+1) (t.code.drop (i+1)) else i:=by rw[hd];rfl
  by_cases hb:mayI t.dim t.par i (t.code[i]'hi)=true
  ·left
   rw[hb]at cm
   rw[if_pos hb]at hf
   refine⟨?_,by simp only[hf]⟩
   unfold stW1 bxT
   clear hf hd
   simp -implicitDefEqProofs[l430_0,hi,hi',hws,cm]
  ·right
   have hb':mayI t.dim t.par i (t.code[i]'hi)=false:=by simpa using hb
   rw[hb']at cm
   rw[if_neg hb]at hf
   have hne:¬ (i:Int)=-1:=by omega
   simp only[hf,if_neg hne]
   unfold stW1 bxT
   clear hf hd
   constructor<;>simp -implicitDefEqProofs[l430_0,hi,hi',cm]
 ·have hf:firstI t.dim t.par t.code.length (t.code.drop t.code.length)=-1:=by rw[List.drop_length];rfl
  simp only[hf,if_true]
  unfold stW1 bxT
  constructor<;>simp -implicitDefEqProofs[l430_0]
def stW2(t:Tp)(i:Nat):St:=⟨[(1,.ptr (.loc 1) 1 4 0 0),(22,.sl (ints t.outs) .an),(23,.i .i64 t.outs.length),(24,.i .i64 i)],[(.loc 1,bxT t)],3⟩
theorem zne(t:Tp)(hs:Small t):loopN T 0 2 (.norm false []) l430_1 (stW2 t 0) =
  if (t.outs.all fun o=>belowB o t.code.length)=true then some (.n,⟨[],[],2⟩) else some (.r,⟨[(2,.i .i64 t.code.length)],[],2⟩):=by
 have hc:=hs.outs
 refine zca (stW2 t) t.outs.length (fun i=>if ((t.outs.drop i).all fun o=>belowB o t.code.length)=true then some (.n,_) else some (.r,_)) (fun i hi=>?_) ?_
 ·have hg:t.outs[i]? = some (t.outs[i]'hi):=List.getElem?_eq_getElem hi
  have hws:=zcy hi (by omega)
  have hd:t.outs.drop i=t.outs[i]'hi::t.outs.drop (i+1):=List.drop_eq_getElem_cons hi
  have cm:=zcd (T:=T) (t.outs[i]'hi) t.code.length
  have hi':(i:Int)<t.outs.length:=by omega
  by_cases hb:belowB (t.outs[i]'hi) t.code.length=true
  ·left
   rw[hb]at cm
   refine⟨?_,by rw[hd];simp only[List.all_cons,hb,Bool.true_and]⟩
   unfold stW2 bxT
   clear hd
   simp -implicitDefEqProofs[l430_1,hi,hi',hg,hws,cm]
  ·right
   have hb':belowB (t.outs[i]'hi) t.code.length=false:=by simpa using hb
   rw[hb']at cm
   have hall:((t.outs.drop i).all fun o=>belowB o t.code.length)=false:=by rw[hd,List.all_cons,hb'];rfl
   simp only[hall,Bool.false_eq_true,if_false]
   unfold stW2 bxT
   clear hall hd
   constructor<;>simp -implicitDefEqProofs[l430_1,hi,hi',hg,cm]
 ·simp only[List.drop_length,List.all_nil,if_true]
  unfold stW2 bxT
  constructor<;>simp -implicitDefEqProofs[l430_1]
theorem zqk(t:Tp)(hs:Small t):callF T 430 [etp t]=some (.i .i64 (wrongT t)):=by
 have cw:=zqj (T:=T) t hs
 have h1:=znd (T:=T) t hs
 have h2:=zne (T:=T) t hs
 unfold wrongT
 unfold stW1 bxT at h1
 unfold stW2 bxT at h2
 simp only[Int.natCast_zero]at h1 h2
 generalize hfi:firstI t.dim t.par 0 t.code=F at *
 generalize hal:(t.outs.all fun o=>belowB o t.code.length)=AL at *
 generalize hwt:wholeT t=W at *
 obtain⟨code,outs,dim,par⟩:=t
 dsimp only at *
 rw[f430 _ rfl,b430]
 cases W with
 | false=>simp -implicitDefEqProofs[cw]
 | true=>
 by_cases hf:F=-1
 ·subst hf
  cases AL with
  | false=>
   simp only[Bool.false_eq_true,if_false]at h2
   simp -implicitDefEqProofs[cw,h1,h2]
  | true=>
   simp only[if_true]at h1 h2
   simp -implicitDefEqProofs[cw,h1,h2]
 ·rw[if_neg hf]at h1
  simp -implicitDefEqProofs[cw,h1,hf]
theorem zfx(t:Tp)(hs:Small t):callF T 421 [etp t]=some (.b (okT t)):=by
 have cw:=zqk (T:=T) t hs
 have e:(wrongT t == -1)=okT t:=rfl
 rw[f421 _ rfl,b421,←e]
 generalize wrongT t=W at *
 obtain⟨code,outs,dim,par⟩:=t
 simp -implicitDefEqProofs[cw]
end
def limI(n:Int):Int:=if n<0 then 0 else if 4096<n then 4096 else n
abbrev bxG(g:Nat)(s p L:Int):Box:=⟨g,.str,3,[[.i .i64 s,.i .i64 p,.i .i64 L]]⟩
def cntS(s:Int):Int:=IntKind.wrap .i64 (s+1)
def cntP(p:Int)(x:Fz):Int:=if p<(sizF x:Int) then (sizF x:Int) else p
section
variable{T:Tbl}[CLimb T][CNat T][CProd T][CTwos T][CQuot T][CQuotD T][CWhole T][CCommon T][CFrac T][CFrac3 T][CFrac5 T][CPow T][CTape T][CGauge T][CEval T]
theorem zpu(x:Fz)(hx:fsz x≤10000):callF T 223 [efz x]=some (.i .i64 (sizF x)):=by
 have h1:=zdo x
 have h2:=zds x
 have c1:=zgm (T:=T) x.2.1 (by omega)
 have c2:=zgm (T:=T) x.2.2 (by omega)
 have b1:=zgn (x:=val x.2.1) (k:=10000) (Nat.le_trans (zac x.2.1) (by omega))
 have b2:=zgn (x:=val x.2.2) (k:=10000) (Nat.le_trans (zac x.2.2) (by omega))
 have w:IntKind.wrap .i64 ((blen (val x.2.1):Int)+(blen (val x.2.2):Int))=((sizF x:Nat):Int):=by
  have e:((sizF x:Nat):Int)=(blen (val x.2.1):Int)+(blen (val x.2.2):Int):=by unfold sizF;omega
  rw[e]
  exact zad _ (by omega)
 rw[f223 _ rfl,b223]
 generalize sizF x=S at *
 generalize blen (val x.2.1)=B1 at *
 generalize blen (val x.2.2)=B2 at *
 simp -implicitDefEqProofs[c1,c2,w]
theorem zlf(n:Int):callH T 406 [.i .i64 n] []=some (.ptr (.loc 7) 1 3 0 0,[(.loc 7,bxG 1 0 0 (limI n))]):=by
 unfold limI
 rw[f406 _ _ rfl,b406]
 by_cases h1:n<0
 ·simp -implicitDefEqProofs[h1,mm2]
 ·by_cases h2:4096<n
  ·simp -implicitDefEqProofs[h1,h2,mm2]
  ·simp -implicitDefEqProofs[h1,h2,mm2]
theorem zix(s p L k:Int):callH T 426 [.ptr (.bor 0) 0 3 0 0,.i .i64 k] [(.bor 0,bxG 0 s p L)]=some (.tup [],[(.bor 0,bxG 0 (cntS s) (if p<k then k else p) L)]):=by
 unfold cntS
 rw[f426 _ _ rfl,b426]
 by_cases h1:p<k
 ·simp -implicitDefEqProofs[h1,mm2]
 ·simp -implicitDefEqProofs[h1,mm2]
theorem zpv(s p L:Int)(x:Fz)(hx:fsz x≤10000):callH T 411 [.ptr (.bor 0) 0 3 0 0,efz x] [(.bor 0,bxG 0 s p L)]=some (.b (decide ((sizF x:Int)≤L)),[(.bor 0,bxG 0 (cntS s) (cntP p x) L)]):=by
 have h1:=zpu (T:=T) x hx
 have h2:=zix (T:=T) s p L (sizF x)
 unfold cntP
 rw[f411 _ _ rfl,b411]
 generalize cntS s=s' at *
 generalize (if p<(sizF x:Int) then (sizF x:Int) else p)=p' at *
 generalize (sizF x:Int)=z at *
 simp -implicitDefEqProofs[h1,h2]
def stEn(l:List Fz)(i:Nat):St:=⟨[(3,.bs (.loc 3) 1 3 0 i),(6,.sl (rowF l) .an),(7,.i .i64 l.length),(8,.i .i64 i)],[(.loc 3,⟨1,.own,3,rowF (nrm (l.take i))⟩)],3⟩
theorem ziy(l:List Fz)(hl:l.length≤1000)(hw:∀x∈l,fsz x≤1000):callF T 420 [.sl (rowF l) .an]=some (.sl (rowF (nrm l)) .an):=by
 have h:loopN T 0 0 (.norm false [3]) l420_0 (stEn l 0)=some (.n,⟨[(3,.bs (.loc 3) 1 3 0 l.length)],[(.loc 3,⟨1,.own,3,rowF (nrm l)⟩)],3⟩):=by
  refine za6 (stEn l) l.length _ (fun i hi=>?_) ?_
  ·have hg:l[i]? = some (l[i]'hi):=List.getElem?_eq_getElem hi
   have hws:=zcy hi (by omega)
   have hn:=zcl (T:=T) (l[i]'hi) (Nat.le_trans (hw _ (List.getElem_mem hi)) (by decide))
   have e:nrm (l.take (i+1))=nrm (l.take i)++[fz (fv (l[i]'hi))]:=zbt l _ hi
   have hp:=zcp (m:=nrm (l.take i)) (n:=i) (by simp[nrm];omega) (fz (fv (l[i]'hi)))
   have hml:(nrm (l.take i)).length=i:=by simp[nrm];omega
   unfold stEn
   rw[e]
   clear e
   generalize nrm (l.take i)=M at *
   generalize fz (fv (l[i]'hi))=z at *
   have hb:i≤4294967295:=by omega
   simp -implicitDefEqProofs[l420_0,hi,hg,hws,hn,hp,hml,hb]
  ·unfold stEn
   rw[List.take_of_length_le (Nat.le_refl _)]
   generalize nrm l=M
   constructor<;>simp -implicitDefEqProofs[l420_0]
 unfold stEn at h
 simp[nrm]at h
 have ht:List.take l.length (List.map (fun x=>fz (fv x)) l)=List.map (fun x=>fz (fv x)) l:=List.take_of_length_le (by simp)
 rw[f420 _ rfl,b420]
 simp -implicitDefEqProofs[h,nrm,ht]
structure PoS (x:PoF) (B:Nat):Prop where
 t:fsz x.t≤B
 y:∀u∈x.y,fsz u≤B
 p:∀u∈x.p,fsz u≤B
 yl:x.y.length≤1000
 pl:x.p.length≤1000
theorem zy6(x:PoF):x.v.f=⟨fz (fv x.t),nrm x.y,nrm x.p⟩:=by
 unfold PoF.v Po.f
 rw[zdm,zdm]
theorem zsw(x:PoF)(h:PoS x 1000):callF T 405 [ept x]=some (ept x.v.f):=by
 have h1:=zcl (T:=T) x.t (Nat.le_trans h.t (by decide))
 have h2:=ziy (T:=T) x.y h.yl h.y
 have h3:=ziy (T:=T) x.p h.pl h.p
 rw[zy6]
 obtain⟨t,y,p⟩:=x
 dsimp only at *
 rw[f405 _ rfl,b405]
 generalize fz (fv t)=t' at *
 generalize nrm y=y' at *
 generalize nrm p=p' at *
 simp -implicitDefEqProofs[h1,h2,h3]
end
theorem zty{q:Rat}{e:Int}(h1:-8≤e)(h2:e≤8):powR q e=if e<0∧q=0 then (0,false) else (powZ q e,true):=by
 unfold powR
 by_cases h:e<0∧q=0
 ·rw[if_pos h,if_neg (by intro hh;exact hh.2.2 h)]
 ·rw[if_neg h,if_pos ⟨h1,h2,h⟩]
abbrev mD:AV:=.agg [.dead]
section
variable{T:Tbl}[CLimb T][CNat T][CProd T][CTwos T][CQuot T][CQuotD T][CWhole T][CCommon T][CFrac T][CFrac3 T][CFrac5 T][CPow T][CTape T][CGauge T][CEval T][CRun T][CIfc T]
theorem zabq(x:Fz)(hx:fsz x≤1000):callF T 445 [mD,efz x]=some (efz (fz (fv x))):=by
 have h:=zcl (T:=T) x (by omega)
 rw[f445 _ rfl,b445]
 generalize fz (fv x)=z at *
 simp -implicitDefEqProofs[h]
theorem z4j(x:Fz)(hx:fsz x≤1000):callF T 444 [mD,efz x]=some (efz (fz (-fv x))):=by
 have h:=zju (T:=T) x (by omega)
 rw[f444 _ rfl,b444]
 generalize fz (-fv x)=z at *
 simp -implicitDefEqProofs[h]
theorem z4k(x y:Fz)(hx:fsz x≤1000)(hy:fsz y≤1000):callF T 441 [mD,efz x,efz y]=some (efz (fz (fv x+fv y))):=by
 have h:=zjv (T:=T) x y hx hy
 rw[f441 _ rfl,b441]
 generalize fz (fv x+fv y)=z at *
 simp -implicitDefEqProofs[h]
theorem z4l(x y:Fz)(hx:fsz x≤1000)(hy:fsz y≤1000):callF T 448 [mD,efz x,efz y]=some (efz (fz (fv x-fv y))):=by
 have h:=zvm (T:=T) x y hx hy
 rw[f448 _ rfl,b448]
 generalize fz (fv x-fv y)=z at *
 simp -implicitDefEqProofs[h]
theorem z4m(x y:Fz)(hx:fsz x≤1000)(hy:fsz y≤1000):callF T 443 [mD,efz x,efz y]=some (efz (fz (fv x*fv y))):=by
 have h:=zeg (T:=T) x y hx hy
 rw[f443 _ rfl,b443]
 generalize fz (fv x*fv y)=z at *
 simp -implicitDefEqProofs[h]
theorem z4n(x y:Fz)(hx:fsz x≤1000)(hy:fsz y≤1000):callF T 447 [mD,efz x,efz y]=some (.tup [efz (fz (fv x/fv y)),.b (decide (fv y≠0))]):=by
 have h:=zjw (T:=T) x y hx hy
 rw[f447 _ rfl,b447]
 generalize fz (fv x/fv y)=z at *
 generalize decide (fv y≠0)=ok at *
 simp -implicitDefEqProofs[h]
theorem z4o(x:Fz)(e:Int)(hx:fsz x≤1000):callF T 446 [mD,efz x,.i .i64 e]=some (.tup [efz (fz (powR (fv x) e).1),.b (powR (fv x) e).2]):=by
 have h:=zoc (T:=T) x e hx
 rw[f446 _ rfl,b446]
 generalize fz (powR (fv x) e).1=z at *
 generalize (powR (fv x) e).2=ok at *
 simp -implicitDefEqProofs[h]
theorem ztz(s p L:Int)(x:Fz)(hx:fsz x≤10000):callH T 442 [.agg [.ptr (.bor 0) 0 3 0 0],efz x] [(.bor 0,bxG 0 s p L)]=some (.b (decide ((sizF x:Int)≤L)),[(.bor 0,bxG 0 (cntS s) (cntP p x) L)]):=by
 have h:=zpv (T:=T) s p L x hx
 rw[f442 _ _ rfl,b442]
 generalize cntS s=s' at *
 generalize cntP p x=p' at *
 simp -implicitDefEqProofs[h]
theorem zwa(i:Ins)(P:Po)(hop:i.op=1∨i.op=2∨i.op=3∨i.op=4)(hn:fsz i.n≤1000)(hy:i.op=3→0≤i.a∧i.a<P.y.length)(hp:i.op=4→0≤i.a∧i.a<P.p.length) :
  callF T 431 [mD,.agg (celI i),ept P.f]=some (efz (fz (valI P [] i).1)):=by
 have h1:=zabq (T:=T) i.n hn
 obtain⟨op,a,b,n⟩:=i
 obtain⟨t,y,p⟩:=P
 dsimp only at *
 unfold valI Po.f
 dsimp only
 rw[f431 _ rfl,b431]
 rcases hop with rfl | rfl | rfl | rfl
 ·show _=some (efz (fz (fv n)))
  generalize fz (fv n)=z at *
  generalize fzs y=Y at *
  generalize fzs p=PP at *
  generalize fz t=tt at *
  simp -implicitDefEqProofs[h1]
 ·show _=some (efz (fz t))
  generalize fzs y=Y at *
  generalize fzs p=PP at *
  generalize fz t=tt at *
  simp -implicitDefEqProofs
 ·obtain⟨k,rfl⟩:∃k:Nat,a=k:=⟨a.toNat,by have:=(hy rfl).1;omega⟩
  have hk:k<y.length:=by have:=(hy rfl).2;omega
  have hk':(k:Int)<y.length:=by omega
  have hg:(fzs y)[k]? = some (fz (y[k]'hk)):=zfw (List.getElem?_eq_getElem hk)
  have hge:=(List.getElem?_eq_some_iff.1 hg).2
  have hl:(fzs y).length=y.length:=zam y
  have e:gI y (k:Int)=y[k]'hk:=by simp[gI,List.getD,List.getElem?_eq_getElem hk]
  show _=some (efz (fz (gI _ _)))
  rw[e]
  generalize fzs y=Y at *
  generalize fzs p=PP at *
  generalize fz t=tt at *
  generalize fz (y[k]'hk)=z at *
  simp -implicitDefEqProofs[hk,hk',hg,hge,hl]
 ·obtain⟨k,rfl⟩:∃k:Nat,a=k:=⟨a.toNat,by have:=(hp rfl).1;omega⟩
  have hk:k<p.length:=by have:=(hp rfl).2;omega
  have hk':(k:Int)<p.length:=by omega
  have hg:(fzs p)[k]? = some (fz (p[k]'hk)):=zfw (List.getElem?_eq_getElem hk)
  have hge:=(List.getElem?_eq_some_iff.1 hg).2
  have hl:(fzs p).length=p.length:=zam p
  have e:gI p (k:Int)=p[k]'hk:=by simp[gI,List.getD,List.getElem?_eq_getElem hk]
  show _=some (efz (fz (gI _ _)))
  rw[e]
  generalize fzs y=Y at *
  generalize fzs p=PP at *
  generalize fz t=tt at *
  generalize fz (p[k]'hk)=z at *
  simp -implicitDefEqProofs[hk,hk',hg,hge,hl]
theorem zxg{D:List Rat}{a:Int}(h:0≤a∧a<D.length):∃k:Nat,a=k∧(k:Int)<D.length∧k<D.length∧(fzs D)[k]? = some (fz (gI D a)):=by
 obtain⟨k,rfl⟩:∃k:Nat,a=k:=⟨a.toNat,by omega⟩
 have hk:k<D.length:=by omega
 refine⟨k,rfl,by omega,hk,?_⟩
 have e:gI D (k:Int)=D[k]'hk:=by simp[gI,List.getD,List.getElem?_eq_getElem hk]
 rw[e]
 exact zfw (List.getElem?_eq_getElem hk)
theorem zlz{D:List Rat}{a:Int}{B:Nat}(hB:1≤B)(h:∀q∈D,sz q≤B):sz (gI D a)≤B:=by
 unfold gI List.getD
 cases hx:D[a.toNat]? with
 | none=>exact Nat.le_trans (Nat.le_of_eq zf2) hB
 | some q=>exact h q (List.mem_of_getElem? hx)
theorem zwb(i:Ins)(P:Po)(D:List Rat)(dim par:Int)(hm:mayI dim par D.length i=true)(hd:(P.y.length:Int)=dim)(hp:(P.p.length:Int)=par)(hn:fsz i.n≤1000)(hD:∀q∈D,sz q≤1000) :
  callF T 422 [mD,.agg (celI i),ept P.f,.sl (rowF (fzs D)) .an]=some (.tup [efz (fz (valI P D i).1),.b (valI P D i).2]):=by
 have hop:=zum hm
 by_cases hleaf:i.op=1∨i.op=2∨i.op=3∨i.op=4
 ·have h1:=zwa (T:=T) i P hleaf hn (fun h=>by have:=z0d hm h;omega) (fun h=>by have:=z0e hm h;omega)
  have e:valI P D i=((valI P [] i).1,true):=by
   unfold valI
   rcases hleaf with h | h | h | h<;>simp[h]
  rw[e]
  generalize fz (valI P [] i).1=z at *
  generalize fzs D=DD at *
  obtain⟨op,a,b,n⟩:=i
  generalize P.f=Q at *
  obtain⟨⟨t0,t1,t2⟩,y,p⟩:=Q
  dsimp only at *
  rw[f422 _ rfl,b422]
  rcases hleaf with rfl | rfl | rfl | rfl<;>simp -implicitDefEqProofs[h1]
 have ha:=zf4 hm (by omega)
 obtain⟨k,hk1,hk2,hk3,hka⟩:=zxg ha
 have sa:fsz (fz (gI D i.a))≤1000:=zlz (by decide) hD
 have hkae:=(List.getElem?_eq_some_iff.1 hka).2
 have hl:(fzs D).length=D.length:=zam D
 have c6:=z4j (T:=T) (fz (gI D i.a)) sa
 have c11:=z4o (T:=T) (fz (gI D i.a)) i.b sa
 rw[zd5]at c6 c11
 by_cases h6:i.op=6
 ·have e:valI P D i=(-gI D i.a,true):=by simp[valI,h6]
  rw[e]
  generalize fz (-gI D i.a)=z at *
  generalize fz (gI D i.a)=u at *
  generalize fzs D=DD at *
  obtain⟨op,a,b,n⟩:=i
  generalize P.f=Q at *
  obtain⟨⟨t0,t1,t2⟩,y,p⟩:=Q
  dsimp only at *
  subst h6 hk1
  rw[f422 _ rfl,b422]
  simp -implicitDefEqProofs[hk2,hk3,hka,hkae,hl,c6]
 by_cases h11:i.op=11
 ·have hb:=zwr hm h11
  have e:valI P D i=powR (gI D i.a) i.b:=by simp[valI,h11,zty hb.1 hb.2]
  rw[e]
  generalize fz (powR (gI D i.a) i.b).1=z at *
  generalize (powR (gI D i.a) i.b).2=ok at *
  generalize fz (gI D i.a)=u at *
  generalize fzs D=DD at *
  obtain⟨op,a,b,n⟩:=i
  generalize P.f=Q at *
  obtain⟨⟨t0,t1,t2⟩,y,p⟩:=Q
  dsimp only at *
  subst h11 hk1
  rw[f422 _ rfl,b422]
  simp -implicitDefEqProofs[hk2,hk3,hka,hkae,hl,c11]
 have hb:=zj7 hm (by omega)
 obtain⟨j,hj1,hj2,hj3,hjb⟩:=zxg hb
 have sb:fsz (fz (gI D i.b))≤1000:=zlz (by decide) hD
 have hjbe:=(List.getElem?_eq_some_iff.1 hjb).2
 have c7:=z4k (T:=T) (fz (gI D i.a)) (fz (gI D i.b)) sa sb
 have c8:=z4l (T:=T) (fz (gI D i.a)) (fz (gI D i.b)) sa sb
 have c9:=z4m (T:=T) (fz (gI D i.a)) (fz (gI D i.b)) sa sb
 have c10:=z4n (T:=T) (fz (gI D i.a)) (fz (gI D i.b)) sa sb
 rw[zd5,zd5]at c7 c8 c9 c10
 have e7:i.op=7→valI P D i=(gI D i.a+gI D i.b,true):=fun h=>by simp[valI,h]
 have e8:i.op=8→valI P D i=(gI D i.a-gI D i.b,true):=fun h=>by simp[valI,h]
 have e9:i.op=9→valI P D i=(gI D i.a*gI D i.b,true):=fun h=>by simp[valI,h]
 have e10:i.op=10→valI P D i=(gI D i.a/gI D i.b,decide (gI D i.b≠0)):=fun h=>by simp[valI,h]
 generalize gI D i.a=A at *
 generalize gI D i.b=B at *
 generalize fz A=u at *
 generalize fz B=v at *
 generalize valI P D i=V at *
 generalize fzs D=DD at *
 obtain⟨op,a,b,n⟩:=i
 generalize P.f=Q at *
 obtain⟨⟨t0,t1,t2⟩,y,p⟩:=Q
 dsimp only at *
 subst hk1 hj1
 rw[f422 _ rfl,b422]
 rcases(show op=7∨op=8∨op=9∨op=10 by omega) with rfl | rfl | rfl | rfl
 ·rw[e7 rfl]
  generalize fz (A+B)=z at *
  simp -implicitDefEqProofs[hk2,hk3,hka,hkae,hj2,hj3,hjb,hjbe,hl,c7]
 ·rw[e8 rfl]
  generalize fz (A-B)=z at *
  simp -implicitDefEqProofs[hk2,hk3,hka,hkae,hj2,hj3,hjb,hjbe,hl,c8]
 ·rw[e9 rfl]
  generalize fz (A*B)=z at *
  simp -implicitDefEqProofs[hk2,hk3,hka,hkae,hj2,hj3,hjb,hjbe,hl,c9]
 ·rw[e10 rfl]
  generalize fz (A/B)=z at *
  generalize decide (B≠0)=ok at *
  simp -implicitDefEqProofs[hk2,hk3,hka,hkae,hj2,hj3,hjb,hjbe,hl,c10]
end
theorem zor{n b:Nat}(h:blen n≤b):(ofN n).length≤b/32+1:=by
 refine zao ?_
 unfold blen at h
 split at h
 ·rename_i h0
  subst h0
  exact Nat.pow_pos (by decide)
 ·rename_i h0
  have h1:n<2^(n.log2+1):=(Nat.log2_lt h0).1 (Nat.lt_succ_self _)
  have h3:(4294967296:Nat)^(b/32+1)=2^(32*(b/32+1)):=by rw[Nat.pow_mul]
  have h2:2^(n.log2+1)≤2^(32*(b/32+1)):=Nat.pow_le_pow_right (by decide) (by omega)
  omega
theorem znc{q:Rat}{b:Nat}(h:sizQ q≤b):sz q≤b/32+1:=by
 unfold sizQ sizF fz at h
 rw[zae,zae]at h
 exact Nat.max_le.2 ⟨zor (Nat.le_trans (Nat.le_add_right _ _) h),zor (Nat.le_trans (Nat.le_add_left _ _) h)⟩
theorem zt0(q:Rat)(n:Nat):sz (q^n)≤n*sz q+1:=by
 unfold sz
 rw[Rat.num_pow,Rat.den_pow,Int.natAbs_pow]
 exact Nat.max_le.2 ⟨zft (Nat.le_max_left _ _) n,zft (Nat.le_max_right _ _) n⟩
theorem zzv{q:Rat}{e:Int}{B:Nat}(hq:sz q≤B)(h1:-8≤e)(h2:e≤8):sz (powZ q e)≤8*B+1:=by
 unfold powZ
 rcases Int.le_total 0 e with h | h
 ·obtain⟨n,rfl⟩:∃n:Nat,e=n:=⟨e.toNat,by omega⟩
  rw[Rat.zpow_natCast]
  have:=zt0 q n
  have h3:n*sz q≤8*B:=Nat.mul_le_mul (by omega) hq
  omega
 ·obtain⟨n,rfl⟩:∃n:Nat,e=-(n:Int):=⟨(-e).toNat,by omega⟩
  rw[Rat.zpow_neg,Rat.zpow_natCast]
  have:=zt0 q n
  have h3:n*sz q≤8*B:=Nat.mul_le_mul (by omega) hq
  have:=zxp (q^n)
  omega
structure PvS (P:Po) (B:Nat):Prop where
 t:sz P.t≤B
 y:∀q∈P.y,sz q≤B
 p:∀q∈P.p,sz q≤B
theorem zzw{P:Po}{D:List Rat}{i:Ins}{dim par:Int}{p:Nat}(hm:mayI dim par p i=true)(hP:PvS P 1000)(hn:fsz i.n≤1000)(hD:∀q∈D,sz q≤129):sz (valI P D i).1≤2000:=by
 have ga:=zlz (D:=D) (a:=i.a) (B:=129) (by decide) hD
 have gb:=zlz (D:=D) (a:=i.b) (B:=129) (by decide) hD
 have gy:=zlz (D:=P.y) (a:=i.a) (B:=1000) (by decide) hP.y
 have gp:=zlz (D:=P.p) (a:=i.a) (B:=1000) (by decide) hP.p
 have gn:=zbo (x:=i.n) (L:=1000) hn (by decide)
 have gt:=hP.t
 rcases zum hm with h | h | h | h | h | h | h | h | h | h
 ·simp[valI,h];omega
 ·simp[valI,h];omega
 ·simp[valI,h];omega
 ·simp[valI,h];omega
 ·simp[valI,h,zja];omega
 ·have:=zge (gI D i.a) (gI D i.b);simp[valI,h];omega
 ·have:=z4u (gI D i.a) (gI D i.b);simp[valI,h];omega
 ·have:=zdr (gI D i.a) (gI D i.b);simp[valI,h];omega
 ·have:=zl9 (gI D i.a) (gI D i.b);simp[valI,h];omega
 ·obtain⟨e1,e2⟩:=zwr hm h
  have h1:=zzv ga e1 e2
  by_cases hc:i.b<0∧gI D i.a=0
  ·simp[valI,h,hc,zf2]
  ·simp only[valI,h]
   simp only[hc]
   simp
   omega
def runG(lim:Nat)(P:Po):List Ins→List Rat→Int→Int→Int×Int
 | [],_,s,p=>(s,p)
 | i::r,D,s,p=>if (valI P D i).2=false then (s,p) else if lim<sizQ (valI P D i).1 then (cntS s,cntP p (fz (valI P D i).1)) else runG lim P r (D++[(valI P D i).1]) (cntS s) (cntP p (fz (valI P D i).1))
theorem zhy(lim:Nat)(P:Po)(i:Ins)(r:List Ins)(D:List Rat)(s p:Int):runG lim P (i::r) D s p=if (valI P D i).2=false then (s,p) else if lim<sizQ (valI P D i).1 then (cntS s,cntP p (fz (valI P D i).1)) else runG lim P r (D++[(valI P D i).1]) (cntS s) (cntP p (fz (valI P D i).1)):=rfl
abbrev bxM:Box:=⟨3,.str,1,[[.ptr (.bor 0) 0 3 0 0]]⟩
abbrev bxP(g:Nat)(x:PoF):Box:=⟨g,.str,5,[[.b x.t.1,.sl (u32s x.t.2.1) .an,.sl (u32s x.t.2.2) .an,.sl (rowF x.y) .an,.sl (rowF x.p) .an]]⟩
abbrev bxF(g:Nat)(a b c d:Int):Box:=⟨g,.str,4,[[.i .i64 a,.i .i64 b,.i .i64 c,.i .i64 d]]⟩
def stRun(Q:PoF)(L:Int)(code:List Ins)(i:Nat)(D:List Fz)(s p:Int)(kd:Kind):St:=
 ⟨[(3,.ptr (.loc 3) 3 1 0 0),(5,.ptr (.loc 5) 4 5 0 0),(7,.ptr (.loc 7) 5 4 0 0),(8,.bs (.loc 8) 6 3 0 i),(34,.sl (rowI code) .an),(35,.i .i64 code.length),(36,.i .i64 i)],
  [(.bor 0,bxG 0 s p L),(.loc 3,bxM),(.loc 5,bxP 4 Q),(.loc 7,bxF 5 0 0 0 0),(.loc 8,⟨6,kd,3,rowF D⟩)],8⟩
def endN(n:Nat)(D:List Fz)(s p L:Int)(kd:Kind):Ex×St:=(.n,⟨[(7,.ptr (.loc 7) 3 4 0 0),(8,.bs (.loc 8) 4 3 0 n)],[(.bor 0,bxG 0 s p L),(.loc 7,bxF 3 0 0 0 0),(.loc 8,⟨4,kd,3,rowF D⟩)],6⟩)
def endR(kind at_ s p L:Int):Ex×St:=(.r,⟨[(6,.sl [] .an),(7,.ptr (.loc 7) 3 4 0 0)],[(.bor 0,bxG 0 s p L),(.loc 7,bxF 3 kind 0 0 at_)],5⟩)
section
variable{T:Tbl}[CLimb T][CNat T][CProd T][CTwos T][CQuot T][CQuotD T][CWhole T][CCommon T][CFrac T][CFrac3 T][CFrac5 T][CPow T][CTape T][CGauge T][CEval T][CRun T][CIfc T]
theorem zwc{kd:Kind}(hk:kd=.own∨kd=.sh)(x:Ins)(Q:PoF)(L:Int)(code:List Ins)(i:Nat)(D:List Fz)(s p:Int)(v:Fz)(hi:i<code.length)(hc:code.length≤1000)(hg:code[i]? = some x)(hdl:D.length=i)(hv:fsz v≤10000)
  (c:callF T 422 [mD,.agg (celI x),ept Q,.sl (rowF D) .an]=some (.tup [efz v,.b true])) (hf:(sizF v:Int)≤L) :
  evX (orc T) T 1 l407_0 (stRun Q L code i D s p kd)=some (.n,stRun Q L code (i+1) (D++[v]) (cntS s) (cntP p v) .sh):=by
 have hf2:=ztz (T:=T) s p L v hv
 rw[decide_eq_true hf]at hf2
 have hws:=zcy hi (by omega)
 have hge:=(List.getElem?_eq_some_iff.1 hg).2
 have ht:List.take i D=D:=List.take_of_length_le (by omega)
 have hp:wkL (rowF D++[celF v])=rowF (D++[v]):=by rw[zh4,zf3]
 have hi':(i:Int)<code.length:=by omega
 have hb:i≤4294967295:=by omega
 generalize cntS s=s' at *
 generalize cntP p v=p' at *
 unfold stRun
 obtain⟨⟨q0,q1,q2⟩,qy,qp⟩:=Q
 rcases hk with rfl | rfl<;>simp -implicitDefEqProofs[l407_0,hi,hi',hg,hge,hws,c,hf2,hp,hdl,hb,ht]
theorem zzx{kd:Kind}(hk:kd=.own∨kd=.sh)(x:Ins)(Q:PoF)(L:Int)(code:List Ins)(i:Nat)(D:List Fz)(s p:Int)(v:Fz)(hi:i<code.length)(hc:code.length≤1000)(hg:code[i]? = some x)(hdl:D.length=i)
  (c:callF T 422 [mD,.agg (celI x),ept Q,.sl (rowF D) .an]=some (.tup [efz v,.b false])) :
  evX (orc T) T 1 l407_0 (stRun Q L code i D s p kd)=some (endR 3 i s p L):=by
 have hge:=(List.getElem?_eq_some_iff.1 hg).2
 have ht:List.take i D=D:=List.take_of_length_le (by omega)
 have hi':(i:Int)<code.length:=by omega
 unfold stRun endR
 obtain⟨⟨q0,q1,q2⟩,qy,qp⟩:=Q
 rcases hk with rfl | rfl<;>simp -implicitDefEqProofs[l407_0,hi,hi',hg,hge,c,hdl,ht]
theorem zzy{kd:Kind}(hk:kd=.own∨kd=.sh)(x:Ins)(Q:PoF)(L:Int)(code:List Ins)(i:Nat)(D:List Fz)(s p:Int)(v:Fz)(hi:i<code.length)(hc:code.length≤1000)(hg:code[i]? = some x)(hdl:D.length=i)(hv:fsz v≤10000)
  (c:callF T 422 [mD,.agg (celI x),ept Q,.sl (rowF D) .an]=some (.tup [efz v,.b true])) (hf:¬ (sizF v:Int)≤L) :
  evX (orc T) T 1 l407_0 (stRun Q L code i D s p kd)=some (endR 6 i (cntS s) (cntP p v) L):=by
 have hf2:=ztz (T:=T) s p L v hv
 rw[decide_eq_false hf]at hf2
 have hge:=(List.getElem?_eq_some_iff.1 hg).2
 have ht:List.take i D=D:=List.take_of_length_le (by omega)
 have hi':(i:Int)<code.length:=by omega
 generalize cntS s=s' at *
 generalize cntP p v=p' at *
 unfold stRun endR
 obtain⟨⟨q0,q1,q2⟩,qy,qp⟩:=Q
 rcases hk with rfl | rfl<;>simp -implicitDefEqProofs[l407_0,hi,hi',hg,hge,c,hf2,hdl,ht]
theorem z4p{kd:Kind}(hk:kd=.own∨kd=.sh)(Q:PoF)(L:Int)(code:List Ins)(D:List Fz)(s p:Int):isEx (evX (orc T) T 1 l407_0 (stRun Q L code code.length D s p kd))=true ∧
  finX 1 0 (.norm false [7,8]) (evX (orc T) T 1 l407_0 (stRun Q L code code.length D s p kd))=some (endN code.length D s p L kd):=by
 unfold stRun endN
 obtain⟨⟨q0,q1,q2⟩,qy,qp⟩:=Q
 rcases hk with rfl | rfl<;>constructor<;>simp -implicitDefEqProofs[l407_0]
theorem zt1(kind at_ s p L:Int):finX 1 0 (.norm false [7,8]) (some (endR kind at_ s p L))=some (endR kind at_ s p L):=by
 unfold endR
 simp -implicitDefEqProofs
def kdE(kd:Kind)(l:List Ins):Kind:=if l=[] then kd else .sh
def endRun(lim:Nat)(P:Po)(code l:List Ins)(D:List Rat)(s p:Int)(kd:Kind):Ex×St:=
 if (runR lim P l D).2.1=0 then endN code.length (fzs (runR lim P l D).1) (runG lim P l D s p).1 (runG lim P l D s p).2 lim (kdE kd l)
 else endR (runR lim P l D).2.1 (runR lim P l D).2.2 (runG lim P l D s p).1 (runG lim P l D s p).2 lim
theorem zos(P:Po)(lim:Nat)(hlim:lim≤4096)(t:Tp)(ht:OkTp t)(hn:∀i∈t.code,fsz i.n≤1000)(hd:(P.y.length:Int)=t.dim)(hp:(P.p.length:Int)=t.par)(hP:PvS P 1000)(s p:Int) :
  loopN T 1 0 (.norm false [7,8]) l407_0 (stRun P.f lim t.code 0 [] s p .own)=some (endRun lim P t.code t.code [] s p .own):=by
 have hc:=ht.cl
 have key:=za4 (T:=T) (k:=1) (id:=0) (g2:=.norm false [7,8]) (c:=l407_0) (fun x:Nat×List Rat×(Int×Int)×Kind=>stRun P.f lim t.code x.1 (fzs x.2.1) x.2.2.1.1 x.2.2.1.2 x.2.2.2)
  (fun x=>x.1≤t.code.length∧x.2.1.length=x.1∧(∀q∈x.2.1,sz q≤129)∧(x.2.2.2=.own∨x.2.2.2=.sh)) (fun x=>t.code.length-x.1)
  (fun x=>some (endRun lim P t.code (t.code.drop x.1) x.2.1 x.2.2.1.1 x.2.2.1.2 x.2.2.2)) ?_ (0,[],(s,p),.own) ⟨Nat.zero_le _,rfl,by simp,.inl rfl⟩
 ·exact key
 rintro⟨i,D,⟨s,p⟩,kd⟩ ⟨hi,hdl,hD,hk⟩
 dsimp only at *
 by_cases hlt:i<t.code.length
 ·have hg:t.code[i]? = some (t.code[i]'hlt):=List.getElem?_eq_getElem hlt
  have hmem:=List.getElem_mem hlt
  have hm:=ht.may i _ hg
  have hdr:t.code.drop i=t.code[i]'hlt::t.code.drop (i+1):=List.drop_eq_getElem_cons hlt
  generalize hx:t.code[i]'hlt=x at *
  have hm':mayI t.dim t.par D.length x=true:=by rw[hdl];exact hm
  have c:=zwb (T:=T) x P D t.dim t.par hm' hd hp (hn x hmem) (fun q hq=>Nat.le_trans (hD q hq) (by decide))
  have hvs:fsz (fz (valI P D x).1)≤10000:=Nat.le_trans (zzw hm' hP (hn x hmem) hD) (by decide)
  have hfl:(fzs D).length=i:=by rw[zam,hdl]
  have hout:endRun lim P t.code (t.code.drop i) D s p kd=endRun lim P t.code (x::t.code.drop (i+1)) D s p kd:=by rw[hdr]
  rw[hout]
  cases hok:(valI P D x).2 with
  | false=>
   right
   rw[hok]at c
   have e:=zzx (T:=T) hk x P.f lim t.code i (fzs D) s p _ hlt (by omega) hg hfl c
   rw[e,zt1]
   refine⟨rfl,?_⟩
   have hR:runR lim P (x::t.code.drop (i+1)) D=([],3,i):=by rw[zc7,if_pos hok,hdl]
   have hG:runG lim P (x::t.code.drop (i+1)) D s p=(s,p):=by rw[zhy,if_pos hok]
   unfold endRun
   rw[hR,hG]
   rfl
  | true=>
   rw[hok]at c
   by_cases hfit:sizQ (valI P D x).1≤lim
   ·left
    have e:=zwc (T:=T) hk x P.f lim t.code i (fzs D) s p _ hlt (by omega) hg hfl hvs c (by unfold sizQ at hfit;omega)
    refine⟨(i+1,D++[(valI P D x).1],(cntS s,cntP p (fz (valI P D x).1)),.sh),⟨by omega,by simp[hdl],fun q hq=>?_,.inr rfl⟩,by show t.code.length-(i+1)<t.code.length-i;omega,?_,?_⟩
    ·rcases List.mem_append.1 hq with h | h
     ·exact hD q h
     ·rw[List.mem_singleton.1 h]
      have:=znc hfit
      have:lim/32≤128:=by omega
      omega
    ·rw[e]
     simp[fzs]
    ·dsimp only
     congr 1
     have hR:runR lim P (x::t.code.drop (i+1)) D=runR lim P (t.code.drop (i+1)) (D++[(valI P D x).1]):=by rw[zc7,if_neg (by rw[hok];decide),if_neg (by omega)]
     have hG:runG lim P (x::t.code.drop (i+1)) D s p=runG lim P (t.code.drop (i+1)) (D++[(valI P D x).1]) (cntS s) (cntP p (fz (valI P D x).1)):=by rw[zhy,if_neg (by rw[hok];decide),if_neg (by omega)]
     unfold endRun
     rw[hR,hG]
     have e1:kdE kd (x::t.code.drop (i+1))=.sh:=by simp[kdE]
     have e2:∀l,kdE .sh l=.sh:=by intro l;simp[kdE]
     rw[e1,e2]
   ·right
    have e:=zzy (T:=T) hk x P.f lim t.code i (fzs D) s p _ hlt (by omega) hg hfl hvs c (by unfold sizQ at hfit;omega)
    rw[e,zt1]
    refine⟨rfl,?_⟩
    have hR:runR lim P (x::t.code.drop (i+1)) D=([],6,i):=by rw[zc7,if_neg (by rw[hok];decide),if_pos (by omega),hdl]
    have hG:runG lim P (x::t.code.drop (i+1)) D s p=(cntS s,cntP p (fz (valI P D x).1)):=by rw[zhy,if_neg (by rw[hok];decide),if_pos (by omega)]
    unfold endRun
    rw[hR,hG]
    rfl
 ·right
  have hi2:i=t.code.length:=by omega
  subst hi2
  have e:=z4p (T:=T) hk P.f lim t.code (fzs D) s p
  refine⟨e.1,?_⟩
  rw[e.2,List.drop_length]
  unfold endRun
  simp[runR,runG,kdE]
end
def fitT(t:Tp)(y p:Nat):Bool:=okT t&&decide ((y:Int)=t.dim)&&decide ((p:Int)=t.par)
def tapeR(lim:Nat)(t:Tp)(P:Po):List Rat×Nat×Nat:=if fitT t P.y.length P.p.length=true then runR lim P t.code [] else ([],2,0)
def outsR(t:Tp)(D:List Rat):List Rat:=t.outs.map (gI D)
def fieldR(lim:Nat)(t:Tp)(P:Po):List Rat×Nat×Nat:=if (tapeR lim t P).2.1=0 then (outsR t (tapeR lim t P).1,0,0) else ([],(tapeR lim t P).2)
structure TpS (t:Tp):Prop where
 small:Small t
 ns:∀i∈t.code,fsz i.n≤1000
abbrev fltA(k s g a:Int):AV:=.agg [.i .i64 k,.i .i64 s,.i .i64 g,.i .i64 a]
theorem zhz{t:Tp}{y p:Nat}(h:fitT t y p=true):OkTp t∧(y:Int)=t.dim∧(p:Int)=t.par:=by
 unfold fitT at h
 simp only[Bool.and_eq_true,decide_eq_true_eq]at h
 exact⟨(zni t).1 h.1.1,h.1.2,h.2⟩
section
variable{T:Tbl}[CLimb T][CNat T][CProd T][CTwos T][CQuot T][CQuotD T][CWhole T][CCommon T][CFrac T][CFrac3 T][CFrac5 T][CPow T][CTape T][CGauge T][CEval T][CRun T][CIfc T]
theorem zzz(t:Tp)(Q:PoF)(hs:TpS t)(s p L:Int)(h:fitT t Q.y.length Q.p.length=false) :
  callH T 407 [.agg [.ptr (.bor 0) 0 3 0 0],etp t,ept Q] [(.bor 0,bxG 0 s p L)]=some (.tup [.sl [] .an,fltA 2 0 0 0],[(.bor 0,bxG 0 s p L)]):=by
 have hr:=zfx (T:=T) t hs.small
 unfold fitT at h
 rw[f407 _ _ rfl,b407]
 obtain⟨⟨q0,q1,q2⟩,qy,qp⟩:=Q
 dsimp only at h
 cases hok:okT t with
 | false=>
  rw[hok]at hr
  obtain⟨code,outs,dim,par⟩:=t
  simp -implicitDefEqProofs[hr]
 | true=>
  rw[hok]at hr h
  obtain⟨code,outs,dim,par⟩:=t
  dsimp only at *
  by_cases h1:(qy.length:Int)=dim
  ·by_cases h2:(qp.length:Int)=par
   ·simp[h1,h2]at h
   ·simp -implicitDefEqProofs[hr,h1,h2]
  ·simp -implicitDefEqProofs[hr,h1]
theorem zt2(t:Tp)(P:Po)(hs:TpS t)(lim:Nat)(hlim:lim≤4096)(s p:Int)(hP:PvS P 1000)(h:fitT t P.y.length P.p.length=true)(hk:(runR lim P t.code []).2.1=0) :
  ∃(s' p':Int) (kd:Kind),(kd=.own∨kd=.sh)∧callH T 407 [.agg [.ptr (.bor 0) 0 3 0 0],etp t,ept P.f] [(.bor 0,bxG 0 s p lim)] =
   some (.tup [.bs (.loc 8) 3 3 0 t.code.length,fltA 0 0 0 0],[(.bor 0,bxG 0 s' p' lim),(.loc 8,⟨3,kd,3,rowF (fzs (runR lim P t.code []).1)⟩)]):=by
 obtain⟨hok,h1,h2⟩:=zhz h
 have hr:=zfx (T:=T) t hs.small
 have hl:=zos (T:=T) P lim hlim t hok hs.ns h1 h2 hP s p
 rw[(zni t).2 hok]at hr
 unfold endRun at hl
 rw[if_pos hk]at hl
 unfold stRun endN at hl
 simp only[Int.natCast_zero,zb8]at hl
 have hkd:∃kd:Kind,kdE .own t.code=kd∧(kd=.own∨kd=.sh):=by
  unfold kdE
  split
  ·exact⟨_,rfl,.inl rfl⟩
  ·exact⟨_,rfl,.inr rfl⟩
 obtain⟨kd,hkd1,hkd2⟩:=hkd
 rw[hkd1]at hl
 clear hkd1
 have hy:(fzs P.y).length=P.y.length:=zam _
 have hp':(fzs P.p).length=P.p.length:=zam _
 unfold Po.f at *
 generalize (runG lim P t.code [] s p).1=s' at *
 generalize (runG lim P t.code [] s p).2=p' at *
 generalize fzs (runR lim P t.code []).1=D at *
 generalize fzs P.y=Y at *
 generalize fzs P.p=PP at *
 generalize fz P.t=tt at *
 obtain⟨code,outs,dim,par⟩:=t
 dsimp only at *
 refine⟨s',p',kd,hkd2,?_⟩
 rw[f407 _ _ rfl,b407]
 rcases hkd2 with rfl | rfl
 ·simp -implicitDefEqProofs[hr,h1,h2,hy,hp',hl]
 ·simp -implicitDefEqProofs[hr,h1,h2,hy,hp',hl]
theorem zt3(t:Tp)(P:Po)(hs:TpS t)(lim:Nat)(hlim:lim≤4096)(s p:Int)(hP:PvS P 1000)(h:fitT t P.y.length P.p.length=true)(hk:¬ (runR lim P t.code []).2.1=0) :
  ∃(s' p':Int),callH T 407 [.agg [.ptr (.bor 0) 0 3 0 0],etp t,ept P.f] [(.bor 0,bxG 0 s p lim)] =
   some (.tup [.sl [] .an,fltA (runR lim P t.code []).2.1 0 0 (runR lim P t.code []).2.2],[(.bor 0,bxG 0 s' p' lim)]):=by
 obtain⟨hok,h1,h2⟩:=zhz h
 have hr:=zfx (T:=T) t hs.small
 have hl:=zos (T:=T) P lim hlim t hok hs.ns h1 h2 hP s p
 rw[(zni t).2 hok]at hr
 unfold endRun at hl
 rw[if_neg hk]at hl
 unfold stRun endR at hl
 simp only[Int.natCast_zero,zb8]at hl
 have hy:(fzs P.y).length=P.y.length:=zam _
 have hp':(fzs P.p).length=P.p.length:=zam _
 unfold Po.f at *
 generalize (runG lim P t.code [] s p).1=s' at *
 generalize (runG lim P t.code [] s p).2=p' at *
 generalize (((runR lim P t.code []).2.1:Nat):Int)=kk at *
 generalize (((runR lim P t.code []).2.2:Nat):Int)=aa at *
 generalize fzs P.y=Y at *
 generalize fzs P.p=PP at *
 generalize fz P.t=tt at *
 obtain⟨code,outs,dim,par⟩:=t
 dsimp only at *
 refine⟨s',p',?_⟩
 rw[f407 _ _ rfl,b407]
 simp -implicitDefEqProofs[hr,h1,h2,hy,hp',hl]
theorem zabr{x:PoF}(h:PoS x 1000):PvS x.v 1000:=by
 refine⟨zbo h.t (by decide),fun q hq=>?_,fun q hq=>?_⟩
 ·obtain⟨u,hu,rfl⟩:=List.mem_map.1 hq
  exact zbo (h.y u hu) (by decide)
 ·obtain⟨u,hu,rfl⟩:=List.mem_map.1 hq
  exact zbo (h.p u hu) (by decide)
def limN(n:Int):Nat:=(limI n).toNat
theorem zt4(n:Int):limI n=(limN n:Int)∧limN n≤4096:=by
 unfold limN limI
 split
 ·omega
 ·split<;>omega
theorem zwd(t:Tp)(x:PoF)(bits:Int)(hs:TpS t)(hx:PoS x 1000) :
  callF T 384 [etp t,ept x,.i .i64 bits]=some (.tup [.sl (rowF (fzs (tapeR (limN bits) t x.v).1)) .an,fltA (tapeR (limN bits) t x.v).2.1 0 0 (tapeR (limN bits) t x.v).2.2]):=by
 have hn:=zsw (T:=T) x hx
 have hg:=zlf (T:=T) bits
 obtain⟨hl1,hl2⟩:=zt4 bits
 rw[hl1]at hg
 have hP:=zabr hx
 have hlen:x.v.f.y.length=x.v.y.length∧x.v.f.p.length=x.v.p.length:=⟨zam _,zam _⟩
 unfold tapeR
 cases hf:fitT t x.v.y.length x.v.p.length with
 | false=>
  have hm:=zzz (T:=T) t x.v.f hs 0 0 (limN bits) (by rw[hlen.1,hlen.2];exact hf)
  simp only[Bool.false_eq_true,if_false]
  have e0:fzs []=[]:=rfl
  rw[e0,f384 _ rfl,b384]
  generalize x.v.f=Q at *
  obtain⟨code,outs,dim,par⟩:=t
  obtain⟨⟨q0,q1,q2⟩,qy,qp⟩:=Q
  obtain⟨⟨x0,x1,x2⟩,xy,xp⟩:=x
  dsimp only at *
  simp -implicitDefEqProofs[hn,hg,hm]
 | true=>
  simp only[if_true]
  by_cases hk:(runR (limN bits) x.v t.code []).2.1=0
  ·obtain⟨s',p',kd,hkd,hm⟩:=zt2 (T:=T) t x.v hs (limN bits) hl2 0 0 hP hf hk
   have e2:=(zj8 _ _ _ _ hk).1
   have el:(runR (limN bits) x.v t.code []).1.length=t.code.length:=by
    obtain⟨E,h1,h2⟩:=(zj8 _ _ _ _ hk).2
    rw[h1];simpa using h2
   rw[hk,e2]
   have hfl:(fzs (runR (limN bits) x.v t.code []).1).length=t.code.length:=by rw[zam,el]
   clear el e2 hk
   generalize fzs (runR (limN bits) x.v t.code []).1=D at *
   have ht:List.take t.code.length D=D:=List.take_of_length_le (by omega)
   rw[f384 _ rfl,b384]
   generalize x.v.f=Q at *
   obtain⟨code,outs,dim,par⟩:=t
   obtain⟨⟨q0,q1,q2⟩,qy,qp⟩:=Q
   obtain⟨⟨x0,x1,x2⟩,xy,xp⟩:=x
   dsimp only at *
   rcases hkd with rfl | rfl
   ·simp -implicitDefEqProofs[hn,hg,hm,hfl,ht]
   ·simp -implicitDefEqProofs[hn,hg,hm,hfl,ht]
  ·obtain⟨s',p',hm⟩:=zt3 (T:=T) t x.v hs (limN bits) hl2 0 0 hP hf hk
   have e1:=(zun _ _ _ _ hk).1
   have e0:fzs []=[]:=rfl
   rw[e1,e0]
   clear e1 hk
   generalize (((runR (limN bits) x.v t.code []).2.1:Nat):Int)=kk at *
   generalize (((runR (limN bits) x.v t.code []).2.2:Nat):Int)=aa at *
   rw[f384 _ rfl,b384]
   generalize x.v.f=Q at *
   obtain⟨code,outs,dim,par⟩:=t
   obtain⟨⟨q0,q1,q2⟩,qy,qp⟩:=Q
   obtain⟨⟨x0,x1,x2⟩,xy,xp⟩:=x
   dsimp only at *
   simp -implicitDefEqProofs[hn,hg,hm]
def stOu(D:List Fz)(outs:List Int)(E:List Fz)(i:Nat)(kd:Kind):St:=
 ⟨[(1,.sl (rowF D) .an),(5,.bs (.loc 5) 1 3 0 i),(20,.sl (ints outs) .an),(21,.i .i64 outs.length),(22,.i .i64 i)],[(.loc 5,⟨1,.own,3,rowF (E.take i)⟩)],3⟩
theorem zt5{lim:Nat}{P:Po}(hlim:lim≤4096):∀(l:List Ins) (D:List Rat),(∀q∈D,sz q≤129)→∀q∈(runR lim P l D).1,sz q≤129
 | [],D,h=>h
 | i::r,D,h=>by
  rw[zc7]
  split
  ·simp
  ·split
   ·simp
   ·rename_i hf
    refine zt5 hlim r _ fun q hq=>?_
    rcases List.mem_append.1 hq with hq | hq
    ·exact h q hq
    ·rw[List.mem_singleton.1 hq]
     have:=znc (q:=(valI P D i).1) (b:=lim) (by omega)
     omega
end
def zeroG(d p:Int):PoF:=⟨fz 0,List.replicate (cap300 d) (fz 0),List.replicate (cap300 p) (fz 0)⟩
section
variable{T:Tbl}[CLimb T][CNat T][CProd T][CTwos T][CQuot T][CQuotD T][CWhole T][CCommon T][CFrac T][CFrac3 T][CFrac5 T][CPow T][CDigits T][CText T][CJoin T][CRow T][CPull T]
theorem zll(d p:Int):callF T 395 [.i .i64 d,.i .i64 p]=some (ept (zeroG d p)):=by
 have c0:=zee (T:=T)
 have c1:=zgd (T:=T) d
 have c2:=zgd (T:=T) p
 have e:∀n,fzs (List.replicate n 0)=List.replicate n (fz 0):=fun n=>by simp[fzs]
 rw[e]at c1 c2
 unfold zeroG
 generalize fz 0=Z at *
 generalize List.replicate (cap300 d) Z=A at *
 generalize List.replicate (cap300 p) Z=B at *
 obtain⟨z0,z1,z2⟩:=Z
 rw[f395 _ rfl,b395]
 simp -implicitDefEqProofs[c0,c1,c2]
theorem zj1(d p:Int):callH T 2395 [.i .i64 d,.i .i64 p] []=some (.agg [.b (fz 0).1,.sl (u32s (fz 0).2.1) .an,.sl (u32s (fz 0).2.2) .an,.bs (.fld (.loc 7) 9) 1 3 0 (cap300 d),.bs (.fld (.loc 9) 9) 2 3 0 (cap300 p)],
  [(.fld (.loc 7) 9,⟨1,.own,3,rowF (List.replicate (cap300 d) (fz 0))⟩),(.fld (.loc 9) 9,⟨2,.own,3,rowF (List.replicate (cap300 p) (fz 0))⟩)]):=by
 have c0:=zee (T:=T)
 have c1:=zdq (T:=T) d
 have c2:=zdq (T:=T) p
 generalize fz 0=Z at *
 generalize hA:List.replicate (cap300 d) Z=A at *
 generalize hB:List.replicate (cap300 p) Z=B at *
 obtain⟨z0,z1,z2⟩:=Z
 rw[f2395 _ _ rfl,b2395]
 simp -implicitDefEqProofs[c0,c1,c2]
structure Bk where
 t:Tp
 done:List Fz
 co:List Fz
 g:PoF
abbrev bkH(b:Bk):Heap:=
 [(.bor 0,⟨0,.str,11,[[.sl (rowI b.t.code) .an,.sl (ints b.t.outs) .an,.i .i64 b.t.dim,.i .i64 b.t.par,.sl (rowF b.done) .an,.bs (.bor 1) 1 3 0 b.co.length,.b b.g.t.1,.sl (u32s b.g.t.2.1) .an,.sl (u32s b.g.t.2.2) .an,
   .bs (.bor 2) 2 3 0 b.g.y.length,.bs (.bor 3) 3 3 0 b.g.p.length]]⟩),
  (.bor 1,⟨1,.own,3,rowF b.co⟩),(.bor 2,⟨2,.own,3,rowF b.g.y⟩),(.bor 3,⟨3,.own,3,rowF b.g.p⟩)]
abbrev bkP:AV:=.ptr (.bor 0) 0 11 0 0
end
def bmp(l:List Rat)(i:Int)(x:Rat):List Rat:=l.set i.toNat (gI l i+x)
@[simp] theorem z1v(l:List Rat)(i:Int)(x:Rat):(bmp l i x).length=l.length:=by simp[bmp]
theorem zox(l:List Rat)(i:Int):bmp l i 0=l:=by
 unfold bmp gI
 rw[Rat.add_zero]
 refine List.ext_getElem? fun j=>?_
 rw[List.getElem?_set]
 split
 ·rename_i h
  subst h
  split
  ·rename_i h2
   rw[List.getD_eq_getElem?_getD,List.getElem?_eq_getElem h2]
   rfl
  ·rename_i h2
   rw[List.getElem?_eq_none (by omega)]
 ·rfl
def turnW(D:List Rat)(x:Ins)(r:Rat):Rat:=if 0<x.b then powZ (gI D x.a) (x.b-1) else if x.b<0 then r/gI D x.a else 0
def thrC(D:List Rat)(x:Ins)(r c:Rat)(co:List Rat):List Rat:=
 if x.op=6 then bmp co x.a (-c)
 else if x.op=7 then bmp (bmp co x.a c) x.b c
 else if x.op=8 then bmp (bmp co x.a c) x.b (-c)
 else if x.op=9 then bmp (bmp co x.a (c*gI D x.b)) x.b (c*gI D x.a)
 else if x.op=10 then bmp (bmp co x.a (c/gI D x.b)) x.b (-(c/gI D x.b*r))
 else if x.op=11 then bmp co x.a (c*(x.b*turnW D x r))
 else co
def thrG(x:Ins)(c:Rat)(g:Po):Po:=
 if x.op=2 then ⟨g.t+c,g.y,g.p⟩ else if x.op=3 then ⟨g.t,bmp g.y x.a c,g.p⟩ else if x.op=4 then ⟨g.t,g.y,bmp g.p x.a c⟩ else g
theorem zui(D:List Rat)(x:Ins)(r:Rat)(co:List Rat):thrC D x r 0 co=co:=by
 have h1:(-0:Rat)=0:=by grind
 have h2:∀v:Rat,0/v=0:=fun v=>by rw[Rat.div_def,Rat.zero_mul]
 unfold thrC
 repeat' split
 all_goals simp only[h1,h2,Rat.zero_mul,zox]
theorem zuj(x:Ins)(g:Po):thrG x 0 g=g:=by
 unfold thrG
 simp only[zox,Rat.add_zero]
 repeat' split
 all_goals rfl
def backR(lim:Nat)(code:List Ins)(D:List Rat):Nat→List Rat→Po→(List Rat×Po)×Option Nat
 | 0,co,g=>((co,g),none)
 | n+1,co,g=>
  match code[n]? with
  | none=>((co,g),none)
  | some x=>if lim<sizQ (gI co n) then ((co,g),some n) else backR lim code D n (thrC D x (gI D n) (gI co n) co) (thrG x (gI co n) g)
def backL(code:List Ins)(D:List Rat):Nat→List Rat→Po→List Rat×Po
 | 0,co,g=>(co,g)
 | n+1,co,g=>
  match code[n]? with
  | none=>(co,g)
  | some x=>backL code D n (thrC D x (gI D n) (gI co n) co) (thrG x (gI co n) g)
def sendQ:List Int→List Rat→List Rat→List Rat
 | o::os,w::ws,co=>sendQ os ws (bmp co o w)
 | _,_,co=>co
def firstL(lim:Nat):List Rat→Nat→Option Nat
 | [],_=>none
 | q::l,k=>if lim<sizQ q then some k else firstL lim l (k+1)
def zeroP(d p:Nat):Po:=⟨0,List.replicate d 0,List.replicate p 0⟩
def allP(g:Po):List Rat:=g.t::(g.y++g.p)
def backT(lim:Nat)(t:Tp)(P:Po)(w:List Rat):Po×Nat×Nat×Nat:=
 if w.length≠t.outs.length then (zeroP 0 0,2,0,0)
 else if (tapeR lim t P).2.1≠0 then (zeroP 0 0,(tapeR lim t P).2.1,0,(tapeR lim t P).2.2)
 else
  match backR lim t.code (tapeR lim t P).1 t.code.length (sendQ t.outs w (List.replicate t.code.length 0)) (zeroP t.dim.toNat t.par.toNat) with
  | (_,some i)=>(zeroP 0 0,6,2,i)
  | (s,none)=>match firstL lim (allP s.2) 0 with | some k=>(zeroP 0 0,6,3,k) | none=>(s.2,0,0,0)
def addQL(l m:List Rat):List Rat:=List.zipWith (· + ·) l m
def addPo(g h:Po):Po:=⟨g.t+h.t,addQL g.y h.y,addQL g.p h.p⟩
theorem zoy(x:Ins)(c:Rat)(g:Po):(thrG x c g).y.length=g.y.length∧(thrG x c g).p.length=g.p.length:=by
 unfold thrG
 repeat' split
 all_goals simp
abbrev blk:Fz:=(false,[],[])
def bmpF(co:List Fz)(k:Nat)(q:Rat):List Fz:=co.set k (fz (fv (co.getD k blk)+q))
@[simp] theorem zyt(co:List Fz)(k:Nat)(q:Rat):(bmpF co k q).length=co.length:=by simp[bmpF]
theorem zsh:fv blk=0:=by decide +kernel
theorem zw9(co:List Fz)(i:Int)(q:Rat):(bmpF co i.toNat q).map fv=bmp (co.map fv) i q:=by
 have e:fv (co.getD i.toNat blk)=gI (co.map fv) i:=by
  unfold gI
  rw[List.getD_eq_getElem?_getD,List.getD_eq_getElem?_getD,List.getElem?_map]
  cases co[i.toNat]? with
  | none=>exact zsh
  | some x=>rfl
 unfold bmpF bmp
 rw[List.map_set,zd5,e]
theorem zyu{co:List Fz}{K:Nat}(h:∀x∈co,fsz x≤K)(k:Nat):fsz (co.getD k blk)≤K:=by
 rw[List.getD_eq_getElem?_getD]
 cases hx:co[k]? with
 | none=>exact Nat.zero_le _
 | some x=>exact h x (List.mem_of_getElem? hx)
theorem zey{co:List Fz}{K S:Nat}(k:Nat){q:Rat}(h:∀x∈co,fsz x≤K)(h1:1≤K)(hq:sz q≤S):∀x∈bmpF co k q,fsz x≤K+S+1:=by
 intro x hx
 rcases List.mem_or_eq_of_mem_set hx with h2 | h2
 ·have:=h x h2;omega
 ·rw[h2,zbv]
  have h3:=zge (fv (co.getD k blk)) q
  have h4:=zbo (zyu h k) h1
  omega
abbrev bkN(n ny np:Nat)(b:Bk):Heap:=
 [(.bor 0,⟨0,.str,11,[[.sl (rowI b.t.code) .an,.sl (ints b.t.outs) .an,.i .i64 b.t.dim,.i .i64 b.t.par,.sl (rowF b.done) .an,.bs (.bor 1) 1 3 0 n,.b b.g.t.1,.sl (u32s b.g.t.2.1) .an,.sl (u32s b.g.t.2.2) .an,
   .bs (.bor 2) 2 3 0 ny,.bs (.bor 3) 3 3 0 np]]⟩),
  (.bor 1,⟨1,.own,3,rowF b.co⟩),(.bor 2,⟨2,.own,3,rowF b.g.y⟩),(.bor 3,⟨3,.own,3,rowF b.g.p⟩)]
section
variable{T:Tbl}[CLimb T][CNat T][CProd T][CTwos T][CQuot T][CQuotD T][CWhole T][CCommon T][CFrac T][CFrac3 T][CFrac5 T][CPow T][CDigits T][CText T][CJoin T][CRow T][CPull T]
theorem zcb(n ny np:Nat)(b:Bk)(k:Nat)(c:Fz)(hn:b.co.length=n)(hk:k<n)(hx:∀x∈b.co,fsz x≤30000)(hc:fsz c≤30000) :
  callH T 410 [bkP,.i .i64 k,efz c] (bkN n ny np b)=some (.tup [],bkN n ny np { b with co:=bmpF b.co k (fv c) }):=by
 have hk0:k<b.co.length:=by omega
 have hg:b.co[k]? = some (b.co[k]'hk0):=List.getElem?_eq_getElem hk0
 have e:b.co.getD k blk=b.co[k]'hk0:=by rw[List.getD_eq_getElem?_getD,hg];rfl
 have ca:=zdz (T:=T) (b.co[k]'hk0) c (hx _ (List.getElem_mem hk0)) hc
 unfold bmpF
 rw[e]
 generalize b.co[k]'hk0=x at *
 obtain⟨_,hge⟩:=List.getElem?_eq_some_iff.1 hg
 have hlt':(k:Int)<n:=by omega
 obtain⟨⟨code,outs,dim,par⟩,done,co,⟨⟨g0,g1,g2⟩,gy,gp⟩⟩:=b
 dsimp only at *
 generalize fz (fv x+fv c)=z at *
 have hp:wkL ((rowF co).set k [.b z.1,.sl (u32s z.2.1) .an,.sl (u32s z.2.2) .an])=rowF (co.set k z):=by
  have:(rowF co).set k (celF z)=rowF (co.set k z):=by simp[rowF,List.map_set]
  show wkL ((rowF co).set k (celF z))=_
  rw[this,zf3]
 rw[f410 _ _ rfl,b410]
 simp -implicitDefEqProofs[ca,hg,hk,hk0,hlt',hge,hp]
theorem zvd(n ny np:Nat)(b:Bk)(x:Ins)(c r dB:Fz)(kA kB:Nat)(ha:x.a=kA)(hb:x.b=kB)(hn:b.co.length=n)(hA:kA<n)(hB:kB<n)(hd:b.done[kB]? = some dB)(hx:∀y∈b.co,fsz y≤29000)(hc:fsz c≤129)(hr:fsz r≤129)(hdb:fsz dB≤129) :
  callH T 427 [bkP,.agg (celI x),efz c,efz r] (bkN n ny np b)=some (.tup [],bkN n ny np { b with co:=bmpF (bmpF b.co kA (fv c/fv dB)) kB (-(fv c/fv dB*fv r)) }):=by
 have cq:=zjw (T:=T) c dB (by omega) (by omega)
 have vc:=zbo hc (by decide)
 have vr:=zbo hr (by decide)
 have vd:=zbo hdb (by decide)
 have z1:=zl9 (fv c) (fv dB)
 have z2:=zdr (fv c/fv dB) (fv r)
 have cm:=zeg (T:=T) (fz (fv c/fv dB)) r (by rw[zbv];omega) (by omega)
 have cn:=zju (T:=T) (fz (fv c/fv dB*fv r)) (by rw[zbv];omega)
 have s1:=zcb (T:=T) n ny np b kA (fz (fv c/fv dB)) hn hA (fun y hy=>Nat.le_trans (hx y hy) (by decide)) (by rw[zbv];omega)
 have s2:=zcb (T:=T) n ny np { b with co:=bmpF b.co kA (fv c/fv dB) } kB (fz (-(fv c/fv dB*fv r))) (by simpa using hn) hB
  (fun y hy=>by have:=zey (K:=29001) (S:=258) kA (fun y hy=>Nat.le_trans (hx y hy) (by decide)) (by decide) (by omega) y hy;omega) (by rw[zbv,zja];omega)
 obtain⟨hlt,hge⟩:=List.getElem?_eq_some_iff.1 hd
 have hlt':(kB:Int)<b.done.length:=by omega
 rw[zd5]at cm cn s1 s2
 generalize decide (fv dB≠0)=bb at *
 generalize bmpF (bmpF b.co kA (fv c/fv dB)) kB (-(fv c/fv dB*fv r))=C2 at *
 generalize bmpF b.co kA (fv c/fv dB)=C1 at *
 generalize fz (-(fv c/fv dB*fv r))=z3 at *
 generalize fz (fv c/fv dB*fv r)=z4 at *
 generalize fz (fv c/fv dB)=z5 at *
 clear z1 z2 vc vr vd
 obtain⟨⟨code,outs,dim,par⟩,done,co,⟨⟨g0,g1,g2⟩,gy,gp⟩⟩:=b
 obtain⟨op,ia,ib,n⟩:=x
 dsimp only at *
 subst ha
 subst hb
 rw[f427 _ _ rfl,b427]
 simp -implicitDefEqProofs[cq,cm,cn,s1,s2,hd,hlt',hlt,hge]
theorem zsi{q:Rat}(hq:sz q≤129){e:Int}(h0:0<e)(h1:e≤8):sz (powZ q (e-1))≤904:=by
 obtain⟨n,hn⟩:∃n:Nat,e-1=n:=⟨(e-1).toNat,by omega⟩
 unfold powZ
 rw[hn,Rat.zpow_natCast]
 have:=zt0 q n
 have h3:n*sz q≤7*129:=Nat.mul_le_mul (by omega) hq
 omega
theorem zxa(e:Int)(h1:-8≤e)(h2:e≤8):sz (e:Rat)≤1:=by
 have h:e=-8∨e=-7∨e=-6∨e=-5∨e=-4∨e=-3∨e=-2∨e=-1∨e=0∨e=1∨e=2∨e=3∨e=4∨e=5∨e=6∨e=7∨e=8:=by omega
 unfold sz
 rw[Rat.num_intCast,Rat.den_intCast]
 refine Nat.max_le.2 ⟨?_,by decide +kernel⟩
 refine zao ?_
 rw[Nat.pow_one]
 omega
theorem zve(n ny np:Nat)(b:Bk)(x:Ins)(c r dA:Fz)(kA:Nat)(ha:x.a=kA)(h8:-8≤x.b)(h8':x.b≤8)(hn:b.co.length=n)(hA:kA<n)(hd:b.done[kA]? = some dA)(hx:∀y∈b.co,fsz y≤29000)(hc:fsz c≤129)(hr:fsz r≤129)(hda:fsz dA≤129) :
  callH T 428 [bkP,.agg (celI x),efz c,efz r] (bkN n ny np b)=some (.tup [],bkN n ny np { b with co:=bmpF b.co kA (fv c*(x.b*(if 0<x.b then powZ (fv dA) (x.b-1) else if x.b<0 then fv r/fv dA else 0))) }):=by
 have c0:=zee (T:=T)
 have ce:=zhn (T:=T) x.b (by omega) (by omega)
 have vc:=zbo hc (by decide)
 have vr:=zbo hr (by decide)
 have vd:=zbo hda (by decide)
 have ze:=zxa x.b h8 h8'
 obtain⟨hlt,hge⟩:=List.getElem?_eq_some_iff.1 hd
 have hlt':(kA:Int)<b.done.length:=by omega
 -- the last steps,whatever the turn is
 have fin:∀q:Rat,sz q≤904→callF T 217 [efz (fz (x.b:Rat)),efz (fz q)]=some (efz (fz (x.b*q)))∧callF T 217 [efz c,efz (fz (x.b*q))]=some (efz (fz (fv c*(x.b*q)))) ∧
   callH T 410 [bkP,.i .i64 kA,efz (fz (fv c*(x.b*q)))] (bkN n ny np b)=some (.tup [],bkN n ny np { b with co:=bmpF b.co kA (fv c*(x.b*q)) }):=by
  intro q hq
  have z1:=zdr (x.b:Rat) q
  have z2:=zdr (fv c) (x.b*q)
  have m1:=zeg (T:=T) (fz (x.b:Rat)) (fz q) (by rw[zbv];omega) (by rw[zbv];omega)
  have m2:=zeg (T:=T) c (fz (x.b*q)) (by omega) (by rw[zbv];omega)
  have s1:=zcb (T:=T) n ny np b kA (fz (fv c*(x.b*q))) hn hA (fun y hy=>Nat.le_trans (hx y hy) (by decide)) (by rw[zbv];omega)
  rw[zd5,zd5]at m1
  rw[zd5]at m2 s1
  exact⟨m1,m2,s1⟩
 by_cases h1:0<x.b
 ·have cp:=zoc (T:=T) dA (x.b-1) (by omega)
  have e2:=zty (q:=fv dA) (e:=x.b-1) (by omega) (by omega)
  rw[if_neg (by omega)]at e2
  rw[e2]at cp
  obtain⟨m1,m2,s1⟩:=fin _ (zsi vd h1 h8')
  rw[if_pos h1]
  have hw:IntKind.wrap .i64 (x.b-1)=x.b-1:=zad _ (by omega)
  generalize bmpF b.co kA (fv c*(x.b*powZ (fv dA) (x.b-1)))=C1 at *
  generalize fz (fv c*(x.b*powZ (fv dA) (x.b-1)))=z1 at *
  generalize fz (x.b*powZ (fv dA) (x.b-1))=z2 at *
  generalize fz (powZ (fv dA) (x.b-1))=z3 at *
  generalize fz (x.b:Rat)=z4 at *
  generalize fz 0=z5 at *
  clear e2 fin vc vr vd ze
  obtain⟨⟨code,outs,dim,par⟩,done,co,⟨⟨g0,g1,g2⟩,gy,gp⟩⟩:=b
  obtain⟨op,ia,ib,n⟩:=x
  dsimp only at *
  subst ha
  rw[f428 _ _ rfl,b428]
  simp -implicitDefEqProofs[c0,ce,cp,m1,m2,s1,hd,hlt',hlt,hge,h1,hw]
 ·by_cases h2:x.b<0
  ·have cq:=zjw (T:=T) r dA (by omega) (by omega)
   have z0:=zl9 (fv r) (fv dA)
   obtain⟨m1,m2,s1⟩:=fin (fv r/fv dA) (by omega)
   rw[if_neg h1,if_pos h2]
   generalize decide (fv dA≠0)=bb at *
   generalize bmpF b.co kA (fv c*(x.b*(fv r/fv dA)))=C1 at *
   generalize fz (fv c*(x.b*(fv r/fv dA)))=z1 at *
   generalize fz (x.b*(fv r/fv dA))=z2 at *
   generalize fz (fv r/fv dA)=z3 at *
   generalize fz (x.b:Rat)=z4 at *
   generalize fz 0=z5 at *
   clear fin vc vr vd ze z0
   obtain⟨⟨code,outs,dim,par⟩,done,co,⟨⟨g0,g1,g2⟩,gy,gp⟩⟩:=b
   obtain⟨op,ia,ib,n⟩:=x
   dsimp only at *
   subst ha
   rw[f428 _ _ rfl,b428]
   simp -implicitDefEqProofs[c0,ce,cq,m1,m2,s1,hd,hlt',hlt,hge,h1,h2]
  ·obtain⟨m1,m2,s1⟩:=fin 0 (by decide +kernel)
   rw[if_neg h1,if_neg h2]
   generalize bmpF b.co kA (fv c*(x.b*0))=C1 at *
   generalize fz (fv c*(x.b*0))=z1 at *
   generalize fz (x.b*0)=z2 at *
   generalize fz (x.b:Rat)=z4 at *
   generalize fz 0=z5 at *
   clear fin vc vr vd ze
   obtain⟨⟨code,outs,dim,par⟩,done,co,⟨⟨g0,g1,g2⟩,gy,gp⟩⟩:=b
   obtain⟨op,ia,ib,n⟩:=x
   dsimp only at *
   subst ha
   rw[f428 _ _ rfl,b428]
   simp -implicitDefEqProofs[c0,ce,m1,m2,s1,hd,hlt',hlt,hge,h1,h2]
end
def thrF(D:List Fz)(x:Ins)(r c:Rat)(co:List Fz):List Fz:=
 if c=0 then co
 else if x.op=6 then bmpF co x.a.toNat (-c)
 else if x.op=7 then bmpF (bmpF co x.a.toNat c) x.b.toNat c
 else if x.op=8 then bmpF (bmpF co x.a.toNat c) x.b.toNat (-c)
 else if x.op=9 then bmpF (bmpF co x.a.toNat (c*gI (D.map fv) x.b)) x.b.toNat (c*gI (D.map fv) x.a)
 else if x.op=10 then bmpF (bmpF co x.a.toNat (c/gI (D.map fv) x.b)) x.b.toNat (-(c/gI (D.map fv) x.b*r))
 else if x.op=11 then bmpF co x.a.toNat (c*(x.b*turnW (D.map fv) x r))
 else co
def thrH(x:Ins)(c:Rat)(g:PoF):PoF:=
 if c=0 then g
 else if x.op=2 then ⟨fz (fv g.t+c),g.y,g.p⟩ else if x.op=3 then ⟨g.t,bmpF g.y x.a.toNat c,g.p⟩ else if x.op=4 then ⟨g.t,g.y,bmpF g.p x.a.toNat c⟩ else g
theorem z34(D:List Fz)(x:Ins)(r c:Rat)(co:List Fz):(thrF D x r c co).map fv=thrC (D.map fv) x r c (co.map fv):=by
 unfold thrF
 by_cases h:c=0
 ·subst h
  rw[if_pos rfl,zui]
 ·rw[if_neg h]
  unfold thrC
  repeat' split
  all_goals simp only[zw9]
@[simp] theorem zyv(D:List Fz)(x:Ins)(r c:Rat)(co:List Fz):(thrF D x r c co).length=co.length:=by
 unfold thrF
 repeat' split
 all_goals simp
theorem zsj{D:List Fz}{i:Int}{k:Nat}{u:Fz}(h:i=k)(hu:D[k]? = some u):gI (D.map fv) i=fv u:=by
 subst h
 unfold gI
 rw[List.getD_eq_getElem?_getD,List.getElem?_map,Int.toNat_natCast,hu]
 rfl
theorem zyw{D:List Fz}{x:Ins}{r c:Rat}{co:List Fz}{K p:Nat}{dim par:Int}(hm:mayI dim par p x=true)(hD:∀u∈D,fsz u≤129)(hc:sz c≤129)(hr:sz r≤129)(h:∀u∈co,fsz u≤K)(h1:1≤K) :
  ∀u∈thrF D x r c co,fsz u≤K+1036:=by
 have hg:∀i,sz (gI (D.map fv) i)≤129:=fun i=>zlz (by decide) fun q hq=>by
  obtain⟨u,hu,rfl⟩:=List.mem_map.1 hq
  exact zbo (hD u hu) (by decide)
 have ga:=hg x.a
 have gb:=hg x.b
 have z0:=zja c
 have z1:=zdr c (gI (D.map fv) x.b)
 have z2:=zdr c (gI (D.map fv) x.a)
 have z3:=zl9 c (gI (D.map fv) x.b)
 have z4:=zdr (c/gI (D.map fv) x.b) r
 have z5:=zja (c/gI (D.map fv) x.b*r)
 have two:∀(S S':Nat) (k k':Nat) (q q':Rat),sz q≤S→sz q'≤S'→S+S'≤1000→∀u∈bmpF (bmpF co k q) k' q',fsz u≤K+1036:=by
  intro S S' k k' q q' hq hq' hS u hu
  have:=zey k' (zey k h h1 hq) (by omega) hq' u hu
  omega
 unfold thrF
 repeat' split
 ·intro u hu;have:=h u hu;omega
 ·intro u hu;have:=zey (S:=129) x.a.toNat h h1 (by omega) u hu;omega
 ·exact two 129 129 _ _ _ _ (by omega) (by omega) (by decide)
 ·exact two 129 129 _ _ _ _ (by omega) (by omega) (by decide)
 ·exact two 258 258 _ _ _ _ (by omega) (by omega) (by decide)
 ·exact two 258 387 _ _ _ _ (by omega) (by omega) (by decide)
 ·rename_i h11
  obtain⟨e1,e2⟩:=zwr hm h11
  have zt:sz (turnW (D.map fv) x r)≤904:=by
   unfold turnW
   split
   ·exact zsi ga (by omega) e2
   ·split
    ·have:=zl9 r (gI (D.map fv) x.a);omega
    ·exact(by decide +kernel:sz 0≤904)
  have z6:=zdr (x.b:Rat) (turnW (D.map fv) x r)
  have z7:=zxa x.b e1 e2
  have z8:=zdr c (x.b*turnW (D.map fv) x r)
  intro u hu
  have:=zey (S:=1034) x.a.toNat h h1 (by omega) u hu
  omega
 ·intro u hu;have:=h u hu;omega
section
variable{T:Tbl}[CLimb T][CNat T][CProd T][CTwos T][CQuot T][CQuotD T][CWhole T][CCommon T][CFrac T][CFrac3 T][CFrac5 T][CPow T][CDigits T][CText T][CJoin T][CRow T][CPull T]
theorem zvf(n ny np:Nat)(b:Bk)(x:Ins)(k:Nat)(c r:Fz)(hx:b.t.code[k]? = some x)(hm:mayI b.t.dim b.t.par k x=true)(hdl:b.done.length=n)(hcl:b.co.length=n)(hyl:b.g.y.length=ny)(hpl:b.g.p.length=np)(hy:(ny:Int)=b.t.dim)(hp:(np:Int)=b.t.par)
  (hc:b.co[k]? = some c) (hr:b.done[k]? = some r) (zc:fsz c≤129) (zd:∀u∈b.done,fsz u≤129) (zo:∀u∈b.co,fsz u≤29000) (zt:fsz b.g.t≤29000) (zy:∀u∈b.g.y,fsz u≤29000) (zp:∀u∈b.g.p,fsz u≤29000) :
  callH T 412 [bkP,.i .i64 k] (bkN n ny np b)=some (.tup [],bkN n ny np { b with co:=thrF b.done x (fv r) (fv c) b.co,g:=thrH x (fv c) b.g }):=by
 have csg:=zho (T:=T) c (by omega)
 obtain⟨kc1,kc2⟩:=List.getElem?_eq_some_iff.1 hc
 obtain⟨kx1,kx2⟩:=List.getElem?_eq_some_iff.1 hx
 obtain⟨kr1,kr2⟩:=List.getElem?_eq_some_iff.1 hr
 have kc1':(k:Int)<n:=by omega
 have kx1':(k:Int)<b.t.code.length:=by omega
 have kr1':(k:Int)<b.done.length:=by omega
 have zr:=zd r (List.mem_of_getElem? hr)
 have vc:=zbo zc (by decide)
 by_cases h0:fv c=0
 ·have h0':sgQ (fv c)=0:=zgo.2 h0
  unfold thrF thrH
  rw[if_pos h0,if_pos h0]
  rw[h0']at csg
  clear h0' h0 vc zr zd zo zt zy zp
  obtain⟨⟨code,outs,dim,par⟩,done,co,⟨⟨g0,g1,g2⟩,gy,gp⟩⟩:=b
  dsimp only at *
  rw[f412 _ _ rfl,b412]
  simp -implicitDefEqProofs[csg,hx,hc,kc1',kx1',kc2,kx2]
 have h0':¬ sgQ (fv c)=0:=fun h=>h0 (zgo.1 h)
 have op:=zum hm
 have sd:=fun(y:Fz) (i:Nat) (hi:i<n) (hy:fsz y≤29000)=>zcb (T:=T) n ny np b i y hcl hi (fun u hu=>Nat.le_trans (zo u hu) (by decide)) (by omega)
 have sd2:=fun(q:Rat) (j:Nat) (hq:sz q≤258) (y:Fz) (i:Nat) (hi:i<n) (hy:fsz y≤29000)=>zcb (T:=T) n ny np { b with co:=bmpF b.co j q } i y (by simpa using hcl) hi
  (fun u hu=>by have:=zey (K:=29000) (S:=258) j zo (by decide) hq u hu;omega) (by omega)
 have cn:=zju (T:=T) c (by omega)
 have zn:fsz (fz (-fv c))≤29000:=by rw[zbv,zja];omega
 have zc':fsz c≤29000:=by omega
 unfold thrF thrH
 rw[if_neg h0,if_neg h0]
 have sx:∀(l:List Fz) (j:Nat) (z:Fz),wkL ((rowF l).set j [.b z.1,.sl (u32s z.2.1) .an,.sl (u32s z.2.2) .an])=rowF (l.set j z):=by
  intro l j z
  have:(rowF l).set j (celF z)=rowF (l.set j z):=by simp[rowF,List.map_set]
  show wkL ((rowF l).set j (celF z))=_
  rw[this,zf3]
 have gq:∀{i:Int} {j:Nat} {u:Fz},i=j→b.done[j]? = some u→gI (b.done.map fv) i=fv u:=fun h1 h2=>zsj h1 h2
 generalize sgQ (fv c)=sg at csg h0'
 clear h0
 rcases op with h | h | h | h | h | h | h | h | h | h
 ·-- constant
  simp only[h,Int.reduceEq,if_false,if_true]
  obtain⟨⟨code,outs,dim,par⟩,done,co,⟨⟨g0,g1,g2⟩,gy,gp⟩⟩:=b
  obtain⟨xo,xa,xb,xn⟩:=x
  dsimp only at *
  subst h
  rw[f412 _ _ rfl,b412]
  simp -implicitDefEqProofs[csg,h0',hx,hc,kc1',kx1',kc2,kx2]
 ·-- moment
  simp only[h,Int.reduceEq,if_false,if_true]
  have ca:=zdz (T:=T) b.g.t c (by omega) (by omega)
  generalize fz (fv b.g.t+fv c)=z at *
  obtain⟨⟨code,outs,dim,par⟩,done,co,⟨⟨g0,g1,g2⟩,gy,gp⟩⟩:=b
  obtain⟨xo,xa,xb,xn⟩:=x
  dsimp only at *
  subst h
  rw[f412 _ _ rfl,b412]
  simp -implicitDefEqProofs[csg,h0',hx,hc,kc1',kx1',kc2,kx2,ca]
 ·-- state
  simp only[h,Int.reduceEq,if_false,if_true]
  obtain⟨ja,hja⟩:∃j:Nat,x.a=j:=⟨x.a.toNat,by have:=(z0d hm h).1;omega⟩
  have hA:ja<ny:=by have:=(z0d hm h).2;omega
  have hAl:ja<b.g.y.length:=by omega
  obtain⟨u,hu⟩:∃u,b.g.y[ja]? = some u:=⟨_,List.getElem?_eq_getElem hAl⟩
  obtain⟨_,hu2⟩:=List.getElem?_eq_some_iff.1 hu
  have hA':(ja:Int)<ny:=by omega
  have ca:=zdz (T:=T) u c (by have:=zy u (List.mem_of_getElem? hu);omega) (by omega)
  have eu:b.g.y.getD ja blk=u:=by rw[List.getD_eq_getElem?_getD,hu];rfl
  unfold bmpF
  rw[hja,Int.toNat_natCast,eu]
  generalize fz (fv u+fv c)=z at *
  have sx1:=sx b.g.y ja z
  obtain⟨⟨code,outs,dim,par⟩,done,co,⟨⟨g0,g1,g2⟩,gy,gp⟩⟩:=b
  obtain⟨xo,xa,xb,xn⟩:=x
  dsimp only at *
  subst h
  rw[f412 _ _ rfl,b412]
  simp -implicitDefEqProofs[csg,h0',hx,hc,kc1',kx1',kc2,kx2,ca,hu,hu2,hA,hA',hAl,sx1,hja]
 ·-- parameter
  simp only[h,Int.reduceEq,if_false,if_true]
  obtain⟨ja,hja⟩:∃j:Nat,x.a=j:=⟨x.a.toNat,by have:=(z0e hm h).1;omega⟩
  have hA:ja<np:=by have:=(z0e hm h).2;omega
  have hAl:ja<b.g.p.length:=by omega
  obtain⟨u,hu⟩:∃u,b.g.p[ja]? = some u:=⟨_,List.getElem?_eq_getElem hAl⟩
  obtain⟨_,hu2⟩:=List.getElem?_eq_some_iff.1 hu
  have hA':(ja:Int)<np:=by omega
  have ca:=zdz (T:=T) u c (by have:=zp u (List.mem_of_getElem? hu);omega) (by omega)
  have eu:b.g.p.getD ja blk=u:=by rw[List.getD_eq_getElem?_getD,hu];rfl
  unfold bmpF
  rw[hja,Int.toNat_natCast,eu]
  generalize fz (fv u+fv c)=z at *
  have sx1:=sx b.g.p ja z
  obtain⟨⟨code,outs,dim,par⟩,done,co,⟨⟨g0,g1,g2⟩,gy,gp⟩⟩:=b
  obtain⟨xo,xa,xb,xn⟩:=x
  dsimp only at *
  subst h
  rw[f412 _ _ rfl,b412]
  simp -implicitDefEqProofs[csg,h0',hx,hc,kc1',kx1',kc2,kx2,ca,hu,hu2,hA,hA',hAl,sx1,hja]
 ·-- other side
  simp only[h,Int.reduceEq,if_false,if_true]
  obtain⟨ja,hja⟩:∃j:Nat,x.a=j:=⟨x.a.toNat,by have:=(zf4 hm (by omega)).1;omega⟩
  have hA:ja<n:=by have:=(zf4 hm (by omega)).2;omega
  have s1:=sd (fz (-fv c)) ja hA zn
  rw[zd5]at s1
  rw[hja,Int.toNat_natCast]
  generalize bmpF b.co ja (-fv c)=C1 at *
  generalize fz (-fv c)=z1 at *
  obtain⟨⟨code,outs,dim,par⟩,done,co,⟨⟨g0,g1,g2⟩,gy,gp⟩⟩:=b
  obtain⟨xo,xa,xb,xn⟩:=x
  dsimp only at *
  subst h
  rw[f412 _ _ rfl,b412]
  simp -implicitDefEqProofs[csg,h0',hx,hc,kc1',kx1',kc2,kx2,cn,s1,hja]
 ·-- sum
  simp only[h,Int.reduceEq,if_false,if_true]
  obtain⟨ja,hja⟩:∃j:Nat,x.a=j:=⟨x.a.toNat,by have:=(zf4 hm (by omega)).1;omega⟩
  have hA:ja<n:=by have:=(zf4 hm (by omega)).2;omega
  obtain⟨jb,hjb⟩:∃j:Nat,x.b=j:=⟨x.b.toNat,by have:=(zj7 hm (by omega)).1;omega⟩
  have hB:jb<n:=by have:=(zj7 hm (by omega)).2;omega
  have s1:=sd c ja hA zc'
  have s2:=sd2 (fv c) ja (by omega) c jb hB zc'
  rw[hja,hjb,Int.toNat_natCast,Int.toNat_natCast]
  generalize bmpF (bmpF b.co ja (fv c)) jb (fv c)=C2 at *
  generalize bmpF b.co ja (fv c)=C1 at *
  obtain⟨⟨code,outs,dim,par⟩,done,co,⟨⟨g0,g1,g2⟩,gy,gp⟩⟩:=b
  obtain⟨xo,xa,xb,xn⟩:=x
  dsimp only at *
  subst h
  rw[f412 _ _ rfl,b412]
  simp -implicitDefEqProofs[csg,h0',hx,hc,kc1',kx1',kc2,kx2,s1,s2,hja,hjb]
 ·-- difference
  simp only[h,Int.reduceEq,if_false,if_true]
  obtain⟨ja,hja⟩:∃j:Nat,x.a=j:=⟨x.a.toNat,by have:=(zf4 hm (by omega)).1;omega⟩
  have hA:ja<n:=by have:=(zf4 hm (by omega)).2;omega
  obtain⟨jb,hjb⟩:∃j:Nat,x.b=j:=⟨x.b.toNat,by have:=(zj7 hm (by omega)).1;omega⟩
  have hB:jb<n:=by have:=(zj7 hm (by omega)).2;omega
  have s1:=sd c ja hA zc'
  have s2:=sd2 (fv c) ja (by omega) (fz (-fv c)) jb hB zn
  rw[zd5]at s2
  rw[hja,hjb,Int.toNat_natCast,Int.toNat_natCast]
  generalize bmpF (bmpF b.co ja (fv c)) jb (-fv c)=C2 at *
  generalize bmpF b.co ja (fv c)=C1 at *
  generalize fz (-fv c)=z1 at *
  obtain⟨⟨code,outs,dim,par⟩,done,co,⟨⟨g0,g1,g2⟩,gy,gp⟩⟩:=b
  obtain⟨xo,xa,xb,xn⟩:=x
  dsimp only at *
  subst h
  rw[f412 _ _ rfl,b412]
  simp -implicitDefEqProofs[csg,h0',hx,hc,kc1',kx1',kc2,kx2,cn,s1,s2,hja,hjb]
 ·-- product
  simp only[h,Int.reduceEq,if_false,if_true]
  obtain⟨ja,hja⟩:∃j:Nat,x.a=j:=⟨x.a.toNat,by have:=(zf4 hm (by omega)).1;omega⟩
  have hA:ja<n:=by have:=(zf4 hm (by omega)).2;omega
  obtain⟨jb,hjb⟩:∃j:Nat,x.b=j:=⟨x.b.toNat,by have:=(zj7 hm (by omega)).1;omega⟩
  have hB:jb<n:=by have:=(zj7 hm (by omega)).2;omega
  obtain⟨da,hda⟩:∃u,b.done[ja]? = some u:=⟨_,List.getElem?_eq_getElem (by omega)⟩
  obtain⟨hda1,hda2⟩:=List.getElem?_eq_some_iff.1 hda
  have hda3:(ja:Int)<b.done.length:=by omega
  have zda:=zd da (List.mem_of_getElem? hda)
  have vda:=zbo zda (by decide)
  obtain⟨db,hdb⟩:∃u,b.done[jb]? = some u:=⟨_,List.getElem?_eq_getElem (by omega)⟩
  obtain⟨hdb1,hdb2⟩:=List.getElem?_eq_some_iff.1 hdb
  have hdb3:(jb:Int)<b.done.length:=by omega
  have zdb:=zd db (List.mem_of_getElem? hdb)
  have vdb:=zbo zdb (by decide)
  have z1:=zdr (fv c) (fv db)
  have z2:=zdr (fv c) (fv da)
  have m1:=zeg (T:=T) c db (by omega) (by omega)
  have m2:=zeg (T:=T) c da (by omega) (by omega)
  have s1:=sd (fz (fv c*fv db)) ja hA (by rw[zbv];omega)
  have s2:=sd2 (fv c*fv db) ja (by omega) (fz (fv c*fv da)) jb hB (by rw[zbv];omega)
  rw[zd5]at s1 s2
  rw[gq hja hda,gq hjb hdb,hja,hjb,Int.toNat_natCast,Int.toNat_natCast]
  generalize bmpF (bmpF b.co ja (fv c*fv db)) jb (fv c*fv da)=C2 at *
  generalize bmpF b.co ja (fv c*fv db)=C1 at *
  generalize fz (fv c*fv db)=u1 at *
  generalize fz (fv c*fv da)=u2 at *
  clear sd sd2 z1 z2
  obtain⟨⟨code,outs,dim,par⟩,done,co,⟨⟨g0,g1,g2⟩,gy,gp⟩⟩:=b
  obtain⟨xo,xa,xb,xn⟩:=x
  dsimp only at *
  subst h
  rw[f412 _ _ rfl,b412]
  simp -implicitDefEqProofs[csg,h0',hx,hc,kc1',kx1',kc2,kx2,m1,m2,s1,s2,hja,hjb,hda,hdb,hda1,hdb1,hda2,hdb2,hda3,hdb3]
 ·-- quotient
  simp only[h,Int.reduceEq,if_false,if_true]
  obtain⟨ja,hja⟩:∃j:Nat,x.a=j:=⟨x.a.toNat,by have:=(zf4 hm (by omega)).1;omega⟩
  have hA:ja<n:=by have:=(zf4 hm (by omega)).2;omega
  obtain⟨jb,hjb⟩:∃j:Nat,x.b=j:=⟨x.b.toNat,by have:=(zj7 hm (by omega)).1;omega⟩
  have hB:jb<n:=by have:=(zj7 hm (by omega)).2;omega
  obtain⟨db,hdb⟩:∃u,b.done[jb]? = some u:=⟨_,List.getElem?_eq_getElem (by omega)⟩
  obtain⟨hdb1,hdb2⟩:=List.getElem?_eq_some_iff.1 hdb
  have hdb3:(jb:Int)<b.done.length:=by omega
  have zdb:=zd db (List.mem_of_getElem? hdb)
  have vdb:=zbo zdb (by decide)
  have q1:=zvd (T:=T) n ny np b x c r db ja jb hja hjb hcl hA hB hdb zo zc zr zdb
  rw[gq hjb hdb,hja,hjb,Int.toNat_natCast,Int.toNat_natCast]
  generalize bmpF (bmpF b.co ja (fv c/fv db)) jb (-(fv c/fv db*fv r))=C2 at *
  clear sd sd2
  obtain⟨⟨code,outs,dim,par⟩,done,co,⟨⟨g0,g1,g2⟩,gy,gp⟩⟩:=b
  obtain⟨xo,xa,xb,xn⟩:=x
  dsimp only at *
  subst h
  subst hja
  subst hjb
  rw[f412 _ _ rfl,b412]
  simp -implicitDefEqProofs[csg,h0',hx,hc,kc1',kx1',kc2,kx2,q1,hr,kr1,kr2,kr1']
 ·-- power
  simp only[h,Int.reduceEq,if_false,if_true]
  obtain⟨ja,hja⟩:∃j:Nat,x.a=j:=⟨x.a.toNat,by have:=(zf4 hm (by omega)).1;omega⟩
  have hA:ja<n:=by have:=(zf4 hm (by omega)).2;omega
  obtain⟨da,hda⟩:∃u,b.done[ja]? = some u:=⟨_,List.getElem?_eq_getElem (by omega)⟩
  obtain⟨hda1,hda2⟩:=List.getElem?_eq_some_iff.1 hda
  have hda3:(ja:Int)<b.done.length:=by omega
  have zda:=zd da (List.mem_of_getElem? hda)
  have vda:=zbo zda (by decide)
  obtain⟨e1,e2⟩:=zwr hm h
  have q1:=zve (T:=T) n ny np b x c r da ja hja e1 e2 hcl hA hda zo zc zr zda
  have et:turnW (b.done.map fv) x (fv r)=(if 0<x.b then powZ (fv da) (x.b-1) else if x.b<0 then fv r/fv da else 0):=by
   unfold turnW
   rw[gq hja hda]
  rw[et,hja,Int.toNat_natCast]
  generalize (if 0<x.b then powZ (fv da) (x.b-1) else if x.b<0 then fv r/fv da else 0)=tq at *
  generalize bmpF b.co ja (fv c*(x.b*tq))=C2 at *
  clear sd sd2
  obtain⟨⟨code,outs,dim,par⟩,done,co,⟨⟨g0,g1,g2⟩,gy,gp⟩⟩:=b
  obtain⟨xo,xa,xb,xn⟩:=x
  dsimp only at *
  subst h
  subst hja
  rw[f412 _ _ rfl,b412]
  simp -implicitDefEqProofs[csg,h0',hx,hc,kc1',kx1',kc2,kx2,q1,hr,kr1,kr2,kr1']
end
section
variable{T:Tbl}[CLimb T][CNat T][CProd T][CTwos T][CQuot T][CQuotD T][CWhole T][CCommon T][CFrac T][CFrac3 T][CFrac5 T][CPow T][CDigits T][CText T][CJoin T][CRow T][CTape T][CEval T][CGauge T][CPull T]
theorem zpo(x:Fz)(hx:fsz x≤30000):callF T 223 [efz x]=some (.i .i64 (sizF x)):=by
 have h1:=zdo x
 have h2:=zds x
 have c1:=zgm (T:=T) x.2.1 (by omega)
 have c2:=zgm (T:=T) x.2.2 (by omega)
 have b1:=zgn (x:=val x.2.1) (k:=30000) (Nat.le_trans (zac x.2.1) (by omega))
 have b2:=zgn (x:=val x.2.2) (k:=30000) (Nat.le_trans (zac x.2.2) (by omega))
 have w:IntKind.wrap .i64 ((blen (val x.2.1):Int)+(blen (val x.2.2):Int))=((sizF x:Nat):Int):=by
  have e:((sizF x:Nat):Int)=(blen (val x.2.1):Int)+(blen (val x.2.2):Int):=by unfold sizF;omega
  rw[e]
  exact zad _ (by omega)
 rw[f223 _ rfl,b223]
 generalize sizF x=S at *
 generalize blen (val x.2.1)=B1 at *
 generalize blen (val x.2.2)=B2 at *
 simp -implicitDefEqProofs[c1,c2,w]
theorem zdi(s p L:Int)(x:Fz)(hx:fsz x≤30000):callH T 411 [.ptr (.bor 0) 0 3 0 0,efz x] [(.bor 0,bxG 0 s p L)]=some (.b (decide ((sizF x:Int)≤L)),[(.bor 0,bxG 0 (cntS s) (cntP p x) L)]):=by
 have h1:=zpo (T:=T) x hx
 have h2:=zix (T:=T) s p L (sizF x)
 unfold cntP
 rw[f411 _ _ rfl,b411]
 generalize cntS s=s' at *
 generalize (if p<(sizF x:Int) then (sizF x:Int) else p)=p' at *
 generalize (sizF x:Int)=z at *
 simp -implicitDefEqProofs[h1,h2]
theorem zvg(g:PoF)(hy:g.y≠[])(hl:g.y.length≤1000)(hl2:g.p.length≤1000):callF T 414 [ept g]=some (.sl (rowF (g.t::(g.y++g.p))) .an):=by
 obtain⟨⟨g0,g1,g2⟩,gy,gp⟩:=g
 dsimp only
 dsimp only at hy hl hl2
 have hne:¬ rowF gy=[]:=fun h=>hy (by have:=congrArg List.length h;simpa using this)
 have h1:1+gy.length≤4294967296:=by omega
 have h2:1+gy.length+gp.length≤4294967296:=by omega
 have h3:1+gy.length≤gy.length+1:=by omega
 have h4:∀c:List AV,List.take (1+gy.length) (c::rowF gy)=c::rowF gy:=fun c=>List.take_of_length_le (by simp;omega)
 have h5:1+gy.length+gp.length≤gy.length+gp.length+1:=by omega
 have h6:∀c:List AV,List.take (1+gy.length+gp.length) (c::(rowF gy++rowF gp))=c::(rowF gy++rowF gp):=fun c=>List.take_of_length_le (by simp;omega)
 have h7:wkL (rowF gy++rowF gp)=rowF gy++rowF gp:=by
  have:rowF gy++rowF gp=rowF (gy++gp):=by simp[rowF]
  rw[this,zf3]
 have e:rowF ((g0,g1,g2)::(gy++gp))=[.b g0,.sl (u32s g1) .an,.sl (u32s g2) .an]::(rowF gy++rowF gp):=by simp[rowF]
 rw[e,f414 _ rfl,b414]
 simp -implicitDefEqProofs[hne,h1,h2,h3,h4,h5,h6,h7,ztb]
def stGw(F:List Fz)(L:Int)(i:Nat)(s p:Int):St:=⟨[(0,.ptr (.bor 0) 0 3 0 0),(1,.sl (rowF F) .an),(8,.sl (rowF F) .an),(9,.i .i64 F.length),(10,.i .i64 i)],[(.bor 0,bxG 0 s p L)],4⟩
theorem zabl(F:List Fz)(L:Int)(i:Nat)(s p:Int)(x:Fz)(hi:i<F.length)(hl:F.length≤1000)(hg:F[i]? = some x)(hx:fsz x≤30000)(hf:(sizF x:Int)≤L) :
  evX (orc T) T 1 l413_0 (stGw F L i s p)=some (.n,stGw F L (i+1) (cntS s) (cntP p x)):=by
 have ht:=zdi (T:=T) s p L x hx
 rw[decide_eq_true hf]at ht
 have hws:=zcy hi (by omega)
 have hge:=(List.getElem?_eq_some_iff.1 hg).2
 have hi':(i:Int)<F.length:=by omega
 generalize cntS s=s' at *
 generalize cntP p x=p' at *
 unfold stGw
 simp -implicitDefEqProofs[l413_0,hi,hi',hg,hge,hws,ht]
theorem z35(F:List Fz)(L:Int)(i:Nat)(s p:Int)(x:Fz)(hi:i<F.length)(hl:F.length≤1000)(hg:F[i]? = some x)(hx:fsz x≤30000)(hf:¬ (sizF x:Int)≤L) :
  evX (orc T) T 1 l413_0 (stGw F L i s p)=some (.r,⟨[(4,.i .i64 i),(5,.b false)],[(.bor 0,bxG 0 (cntS s) (cntP p x) L)],4⟩):=by
 have ht:=zdi (T:=T) s p L x hx
 rw[decide_eq_false hf]at ht
 have hge:=(List.getElem?_eq_some_iff.1 hg).2
 have hi':(i:Int)<F.length:=by omega
 generalize cntS s=s' at *
 generalize cntP p x=p' at *
 unfold stGw
 simp -implicitDefEqProofs[l413_0,hi,hi',hg,hge,ht]
theorem z36(F:List Fz)(L s p:Int):isEx (evX (orc T) T 1 l413_0 (stGw F L F.length s p))=true ∧
  finX 1 0 (.norm false [1]) (evX (orc T) T 1 l413_0 (stGw F L F.length s p))=some (.n,⟨[(1,.sl (rowF F) .an)],[(.bor 0,bxG 0 s p L)],4⟩):=by
 unfold stGw
 constructor<;>simp -implicitDefEqProofs[l413_0]
theorem z38(i s p L:Int):finX 1 0 (.norm false [1]) (some (.r,(⟨[(4,.i .i64 i),(5,.b false)],[(.bor 0,bxG 0 s p L)],4⟩:St)))=some (.r,⟨[(4,.i .i64 i),(5,.b false)],[(.bor 0,bxG 0 s p L)],4⟩):=by
 simp -implicitDefEqProofs
theorem zyx(qs:List Rat)(L:Nat)(hl:qs.length≤1000)(hw:∀q∈qs,sz q≤30000)(s p:Int) :
  ∃r,(∃s' p':Int,(firstL L qs 0=none∧r=(Ex.n,(⟨[(1,.sl (rowF (fzs qs)) .an)],[(.bor 0,bxG 0 s' p' L)],4⟩:St)))∨(∃k:Nat,firstL L qs 0=some k∧r=(.r,⟨[(4,.i .i64 k),(5,.b false)],[(.bor 0,bxG 0 s' p' L)],4⟩))) ∧
   loopN T 1 0 (.norm false [1]) l413_0 (stGw (fzs qs) L 0 s p)=some r:=by
 refine zap (fun x:Nat×Int×Int=>stGw (fzs qs) L x.1 x.2.1 x.2.2) (fun x=>x.1≤qs.length∧firstL L (qs.drop x.1) x.1=firstL L qs 0) (fun x=>qs.length-x.1) _ ?_ (0,s,p) ⟨Nat.zero_le _,rfl⟩
 rintro⟨i,s,p⟩ ⟨hi,hf⟩
 dsimp only at *
 have hfl:(fzs qs).length=qs.length:=zam _
 by_cases hlt:i<qs.length
 ·have hd:qs.drop i=qs[i]::qs.drop (i+1):=List.drop_eq_getElem_cons hlt
  have hg:(fzs qs)[i]? = some (fz qs[i]):=by simp[fzs,hlt]
  have hs:fsz (fz qs[i])≤30000:=hw _ (List.getElem_mem hlt)
  rw[hd,firstL]at hf
  by_cases hb:L<sizQ qs[i]
  ·right
   rw[if_pos hb]at hf
   have e:=z35 (T:=T) (fzs qs) L i s p _ (by omega) (by omega) hg hs (by unfold sizQ at hb;omega)
   refine⟨_,⟨cntS s,cntP p (fz qs[i]),.inr ⟨i,hf.symm,rfl⟩⟩,by rw[e];rfl,by rw[e,z38]⟩
  ·left
   rw[if_neg hb]at hf
   exact⟨(i+1,cntS s,cntP p (fz qs[i])),⟨by dsimp only;omega,hf⟩,by dsimp only;omega,zabl (T:=T) (fzs qs) L i s p _ (by omega) (by omega) hg hs (by unfold sizQ at hb;omega)⟩
 ·right
  have:i=qs.length:=by omega
  subst this
  rw[List.drop_length,firstL]at hf
  have e:=z36 (T:=T) (fzs qs) L s p
  rw[hfl]at e
  exact⟨_,⟨s,p,.inl ⟨hf.symm,rfl⟩⟩,e⟩
theorem zsk(qs:List Rat)(L:Nat)(hl:qs.length≤1000)(hw:∀q∈qs,sz q≤30000)(s p:Int) :
  ∃s' p':Int,callH T 413 [.ptr (.bor 0) 0 3 0 0,.sl (rowF (fzs qs)) .an] [(.bor 0,bxG 0 s p L)]=some (.tup [.i .i64 (match firstL L qs 0 with | some k=>(k:Int) | none=>(qs.length:Int)),.b (firstL L qs 0).isNone],[(.bor 0,bxG 0 s' p' L)]):=by
 obtain⟨r,⟨s',p',hr⟩,hloop⟩:=zyx (T:=T) qs L hl hw s p
 refine⟨s',p',?_⟩
 have hfl:(fzs qs).length=qs.length:=zam _
 rw[f413 _ _ rfl,b413]
 unfold stGw at hloop
 simp only[Int.natCast_zero]at hloop
 rcases hr with ⟨h,rfl⟩ | ⟨k,h,rfl⟩
 ·rw[h]
  rw[hfl]at hloop
  generalize fzs qs=F at *
  simp -implicitDefEqProofs[hloop,hfl]
 ·rw[h]
  rw[hfl]at hloop
  generalize fzs qs=F at *
  simp -implicitDefEqProofs[hloop,hfl]
end
abbrev fa1:BId:=.fld (.fld (.loc 20) 0) 8009
abbrev fa2:BId:=.fld (.fld (.loc 20) 0) 10009
abbrev fb1:BId:=.fld (.fld (.loc 50) 0) 8009
abbrev fb2:BId:=.fld (.fld (.loc 50) 0) 10009
abbrev z5:List AV:=[.b (fz 0).1,.sl (u32s (fz 0).2.1) .an,.sl (u32s (fz 0).2.2) .an,.bs fa1 4 3 0 0,.bs fa2 5 3 0 0]
abbrev bkX(n ny np:Nat)(b:Bk):Heap:=
 [(.loc 8,⟨1,.str,5,[[.b false,.sl [] .an,.sl [] .an,.sl [] .an,.sl [] .an]]⟩),(.loc 9,⟨2,.str,4,[[.i .i64 0,.i .i64 0,.i .i64 0,.i .i64 0]]⟩),
  (.loc 10,⟨3,.str,5,[z5]⟩),(fa1,⟨4,.own,3,[]⟩),(fa2,⟨5,.own,3,[]⟩),
  (.loc 52,⟨6,.str,11,[[.sl (rowI b.t.code) .an,.sl (ints b.t.outs) .an,.i .i64 b.t.dim,.i .i64 b.t.par,.sl (rowF b.done) .an,.bs (.loc 45) 7 3 0 n,.b b.g.t.1,.sl (u32s b.g.t.2.1) .an,.sl (u32s b.g.t.2.2) .an,
   .bs fb1 8 3 0 ny,.bs fb2 9 3 0 np]]⟩),
  (.loc 45,⟨7,.own,3,rowF b.co⟩),(fb1,⟨8,.own,3,rowF b.g.y⟩),(fb2,⟨9,.own,3,rowF b.g.p⟩)]
def stSd(n ny np:Nat)(W:List Fz)(bits:Int)(b:Bk)(i:Nat):St:=
 ⟨[(2,.sl (rowF W) .an),(3,.i .i64 bits),(8,.ptr (.loc 8) 1 5 0 0),(9,.ptr (.loc 9) 2 4 0 0),(10,.ptr (.loc 10) 3 5 0 0),(11,.sl (rowF b.done) .an),(13,.ptr (.loc 52) 6 11 0 0),
  (54,.sl (ints b.t.outs) .an),(55,.i .i64 b.t.outs.length),(56,.i .i64 i)],bkX n ny np b,11⟩
def stBk(n ny np:Nat)(L:Int)(b:Bk)(i s p:Int):St:=
 ⟨[(8,.ptr (.loc 8) 1 5 0 0),(9,.ptr (.loc 9) 2 4 0 0),(10,.ptr (.loc 10) 3 5 0 0),(13,.ptr (.loc 52) 6 11 0 0),(16,.ptr (.fld (.loc 70) 7) 10 3 0 0),(17,.i .i64 i)],bkX n ny np b++[(.fld (.loc 70) 7,bxG 10 s p L)],12⟩
def endSd(n ny np:Nat)(bits:Int)(b:Bk):Ex×St:=
 (.n,⟨[(3,.i .i64 bits),(8,.ptr (.loc 8) 1 5 0 0),(9,.ptr (.loc 9) 2 4 0 0),(10,.ptr (.loc 10) 3 5 0 0),(11,.sl (rowF b.done) .an),(13,.ptr (.loc 52) 6 11 0 0)],bkX n ny np b,11⟩)
def endBk(n ny np:Nat)(L:Int)(b:Bk)(s p:Int):Ex×St:=
 (.n,⟨[(8,.ptr (.loc 8) 1 5 0 0),(9,.ptr (.loc 9) 2 4 0 0),(10,.ptr (.loc 10) 3 5 0 0),(13,.ptr (.loc 52) 6 11 0 0),(16,.ptr (.fld (.loc 70) 7) 10 3 0 0)],bkX n ny np b++[(.fld (.loc 70) 7,bxG 10 s p L)],12⟩)
def endBad(i:Int):Ex×St:=
 (.r,⟨[(8,.ptr (.loc 8) 1 5 0 0),(9,.ptr (.loc 9) 4 4 0 0)],[(.loc 8,⟨1,.str,5,[[.b (fz 0).1,.sl (u32s (fz 0).2.1) .an,.sl (u32s (fz 0).2.2) .an,.bs fa1 2 3 0 0,.bs fa2 3 3 0 0]]⟩),(fa1,⟨2,.own,3,[]⟩),(fa2,⟨3,.own,3,[]⟩),
  (.loc 9,⟨4,.str,4,[[.i .i64 6,.i .i64 0,.i .i64 2,.i .i64 i]]⟩)],6⟩)
section
variable{T:Tbl}[CLimb T][CNat T][CProd T][CTwos T][CQuot T][CQuotD T][CWhole T][CCommon T][CFrac T][CFrac3 T][CFrac5 T][CPow T][CDigits T][CText T][CJoin T][CRow T][CTape T][CEval T][CGauge T][CPull T]
theorem zvh(n ny np:Nat)(W:List Fz)(bits:Int)(b:Bk)(i k:Nat)(w:Fz)(hi:i<b.t.outs.length)(hl:b.t.outs.length≤1000)(hg:b.t.outs[i]? = some (k:Int))(hw:W[i]? = some w)(hn:b.co.length=n)(hk:k<n)
  (hx:∀x∈b.co,fsz x≤30000) (hc:fsz w≤30000) :
  evX (orc T) T 0 l397_0 (stSd n ny np W bits b i)=some (.n,stSd n ny np W bits { b with co:=bmpF b.co k (fv w) } (i+1)):=by
 have hs:=zcb (T:=T) n ny np b k w hn hk hx hc
 have hws:=zcy hi (by omega)
 have hge:=(List.getElem?_eq_some_iff.1 hg).2
 obtain⟨hw1,hw2⟩:=List.getElem?_eq_some_iff.1 hw
 have hi':(i:Int)<b.t.outs.length:=by omega
 have hw1':(i:Int)<W.length:=by omega
 generalize bmpF b.co k (fv w)=C1 at *
 unfold stSd
 generalize fz 0=Z at *
 obtain⟨⟨code,outs,dim,par⟩,done,co,⟨⟨g0,g1,g2⟩,gy,gp⟩⟩:=b
 dsimp only at *
 simp -implicitDefEqProofs[l397_0,hi,hi',hg,hge,hw,hw1,hw1',hw2,hws,hs]
theorem zvi(n ny np:Nat)(L:Int)(b b':Bk)(i:Nat)(s p:Int)(c:Fz)(hc:b.co[i]? = some c)(zc:fsz c≤29000)(hf:(sizF (fz (fv c)):Int)≤L)
  (ht:callH T 412 [bkP,.i .i64 i] (bkN n ny np b)=some (.tup [],bkN n ny np b')) (hn:b.co.length=n) (hn2:n≤1000) (ht1:b'.t=b.t) (ht2:b'.done=b.done) :
  evX (orc T) T 0 l397_1 (stBk n ny np L b i s p)=some (.n,stBk n ny np L b' ((i:Int)-1) (cntS s) (cntP p (fz (fv c)))):=by
 have cn:=zef (T:=T) c (by omega)
 have zq:=zbo zc (by decide)
 have tk:=zdi (T:=T) s p L (fz (fv c)) (by rw[zbv];omega)
 rw[decide_eq_true hf]at tk
 obtain⟨kc1,kc2⟩:=List.getElem?_eq_some_iff.1 hc
 have kc1':(i:Int)<n:=by omega
 have hw:IntKind.wrap .i64 ((i:Int)-1)=(i:Int)-1:=zad _ (by omega)
 generalize cntS s=s' at *
 generalize cntP p (fz (fv c))=p' at *
 generalize fz (fv c)=q at *
 unfold stBk
 generalize fz 0=Z at *
 obtain⟨⟨code,outs,dim,par⟩,done,co,⟨⟨g0,g1,g2⟩,gy,gp⟩⟩:=b
 obtain⟨⟨code',outs',dim',par'⟩,done',co',⟨⟨g0',g1',g2'⟩,gy',gp'⟩⟩:=b'
 dsimp only at *
 cases ht1
 subst ht2
 simp -implicitDefEqProofs[l397_1,hc,kc1',kc2,cn,tk,ht,hw]
theorem zyy(n ny np:Nat)(L:Int)(b:Bk)(i:Nat)(s p:Int)(c:Fz)(hc:b.co[i]? = some c)(zc:fsz c≤29000)(hf:¬ (sizF (fz (fv c)):Int)≤L)(hn:b.co.length=n)(hn2:n≤1000) :
  evX (orc T) T 0 l397_1 (stBk n ny np L b i s p)=some (endBad i):=by
 have cn:=zef (T:=T) c (by omega)
 have zq:=zbo zc (by decide)
 have tk:=zdi (T:=T) s p L (fz (fv c)) (by rw[zbv];omega)
 rw[decide_eq_false hf]at tk
 obtain⟨kc1,kc2⟩:=List.getElem?_eq_some_iff.1 hc
 have kc1':(i:Int)<n:=by omega
 generalize cntS s=s' at *
 generalize cntP p (fz (fv c))=p' at *
 generalize fz (fv c)=q at *
 unfold stBk endBad
 obtain⟨⟨code,outs,dim,par⟩,done,co,⟨⟨g0,g1,g2⟩,gy,gp⟩⟩:=b
 dsimp only at *
 simp -implicitDefEqProofs[l397_1,hc,kc1',kc2,cn,tk]
theorem z39(i:Int):finX 0 2 (.norm false [8,9,10,13,16]) (some (endBad i))=some (endBad i):=by
 unfold endBad
 simp -implicitDefEqProofs
theorem z4a(n ny np:Nat)(L:Int)(b:Bk)(s p:Int):isEx (evX (orc T) T 0 l397_1 (stBk n ny np L b (-1) s p))=true ∧
  finX 0 2 (.norm false [8,9,10,13,16]) (evX (orc T) T 0 l397_1 (stBk n ny np L b (-1) s p))=some (endBk n ny np L b s p):=by
 unfold stBk endBk
 generalize fz 0=Z at *
 obtain⟨⟨code,outs,dim,par⟩,done,co,⟨⟨g0,g1,g2⟩,gy,gp⟩⟩:=b
 constructor<;>simp -implicitDefEqProofs[l397_1]
theorem z4b(n ny np:Nat)(W:List Fz)(bits:Int)(b:Bk):isEx (evX (orc T) T 0 l397_0 (stSd n ny np W bits b b.t.outs.length))=true ∧
  finX 0 0 (.norm false [3,8,9,10,11,13]) (evX (orc T) T 0 l397_0 (stSd n ny np W bits b b.t.outs.length))=some (endSd n ny np bits b):=by
 unfold stSd endSd
 generalize fz 0=Z at *
 obtain⟨⟨code,outs,dim,par⟩,done,co,⟨⟨g0,g1,g2⟩,gy,gp⟩⟩:=b
 constructor<;>simp -implicitDefEqProofs[l397_0]
end
def sendF:List Int→List Fz→List Fz→List Fz
 | o::os,w::ws,co=>sendF os ws (bmpF co o.toNat (fv w))
 | _,_,co=>co
theorem zsl:∀(os:List Int) (ws co:List Fz),(sendF os ws co).map fv=sendQ os (ws.map fv) (co.map fv)
 | [],_,_=>rfl
 | _::_,[],_=>rfl
 | o::os,w::ws,co=>by rw[sendF,zsl os ws,zw9];rfl
def nice(co:List Fz):Prop:=∀u∈co,u=blk∨u=fz (fv u)
theorem zgk{co:List Fz}(h:nice co)(k:Nat)(q:Rat):nice (bmpF co k q):=by
 intro u hu
 rcases List.mem_or_eq_of_mem_set hu with h2 | h2
 ·exact h u h2
 ·right;rw[h2,zd5]
theorem zvj{co:List Fz}(h:nice co)(D:List Fz)(x:Ins)(r c:Rat):nice (thrF D x r c co):=by
 unfold thrF
 repeat' split
 all_goals first
  | exact h
  | exact zgk h _ _
  | exact zgk (zgk h _ _) _ _
theorem zyz{co:List Fz}(h:nice co){k:Nat}{u:Fz}(hu:co[k]? = some u):fsz u≤sz (fv u):=by
 rcases h u (List.mem_of_getElem? hu) with h2 | h2
 ·rw[h2];exact Nat.zero_le _
 ·exact Nat.le_of_eq (by rw[←zbv,←h2])
theorem zy0(l:List Rat)(i:Int)(q:Rat):bmpF (fzs l) i.toNat q=fzs (bmp l i q):=by
 have e:fv ((fzs l).getD i.toNat blk)=gI l i:=by
  unfold gI fzs
  rw[List.getD_eq_getElem?_getD,List.getD_eq_getElem?_getD,List.getElem?_map]
  cases l[i.toNat]? with
  | none=>exact zsh
  | some x=>exact zd5 x
 unfold bmpF bmp
 rw[e]
 simp[fzs,List.map_set]
theorem z4c(x:Ins)(c:Rat)(g:Po):thrH x c g.f=(thrG x c g).f:=by
 unfold thrH
 by_cases h:c=0
 ·subst h
  rw[if_pos rfl,zuj]
 ·rw[if_neg h]
  unfold thrG Po.f
  repeat' split
  all_goals simp only[zy0,zd5]
theorem zsm{l:List Rat}{K S:Nat}(i:Int){q:Rat}(h:∀u∈l,sz u≤K)(h1:1≤K)(hq:sz q≤S):∀u∈bmp l i q,sz u≤K+S+1:=by
 intro u hu
 rcases List.mem_or_eq_of_mem_set hu with h2 | h2
 ·have:=h u h2;omega
 ·rw[h2]
  have h3:=zge (gI l i) q
  have h4:=zlz (a:=i) h1 h
  omega
theorem zy1{g:Po}{K:Nat}(h:PvS g K)(h1:1≤K)(x:Ins){c:Rat}(hc:sz c≤129):PvS (thrG x c g) (K+130):=by
 have up:PvS g (K+130):=⟨by have:=h.t;omega,fun q hq=>by have:=h.y q hq;omega,fun q hq=>by have:=h.p q hq;omega⟩
 unfold thrG
 repeat' split
 ·exact⟨by have:=zge g.t c;have:=h.t;dsimp only;omega,up.y,up.p⟩
 ·exact⟨up.t,fun q hq=>zsm x.a h.y h1 hc q hq,up.p⟩
 ·exact⟨up.t,up.y,fun q hq=>zsm x.a h.p h1 hc q hq⟩
 ·exact up
section
variable{T:Tbl}[CLimb T][CNat T][CProd T][CTwos T][CQuot T][CQuotD T][CWhole T][CCommon T][CFrac T][CFrac3 T][CFrac5 T][CPow T][CDigits T][CText T][CJoin T][CRow T][CTape T][CEval T][CGauge T][CPull T]
theorem zy2(n ny np:Nat)(W:List Fz)(bits:Int)(b:Bk)(hn:b.co.length=n)(ho:∀o∈b.t.outs,0≤o∧o<n)(hwl:W.length=b.t.outs.length)(hol:b.t.outs.length≤6)(hw:∀u∈W,fsz u≤1000)(hz:∀u∈b.co,fsz u≤1)(hni:nice b.co) :
  ∃co,co=sendF b.t.outs W b.co∧co.length=n∧nice co∧(∀u∈co,fsz u≤7000)∧loopN T 0 0 (.norm false [3,8,9,10,11,13]) l397_0 (stSd n ny np W bits b 0)=some (endSd n ny np bits { b with co:=co }):=by
 have:=zap (T:=T) (k:=0) (id:=0) (g2:=.norm false [3,8,9,10,11,13]) (c:=l397_0) (fun x:Nat×List Fz=>stSd n ny np W bits { b with co:=x.2 } x.1)
  (fun x=>x.1≤b.t.outs.length∧x.2.length=n∧nice x.2∧(∀u∈x.2,fsz u≤1+x.1*1002)∧sendF (b.t.outs.drop x.1) (W.drop x.1) x.2=sendF b.t.outs W b.co) (fun x=>b.t.outs.length-x.1)
  (fun r=>∃co,co=sendF b.t.outs W b.co∧co.length=n∧nice co∧(∀u∈co,fsz u≤7000)∧r=endSd n ny np bits { b with co:=co }) ?_ (0,b.co) ⟨Nat.zero_le _,hn,hni,fun u hu=>by have:=hz u hu;dsimp only;omega,rfl⟩
 ·obtain⟨r,⟨co,h1,h2,h3,h4,rfl⟩,h5⟩:=this
  exact⟨co,h1,h2,h3,h4,h5⟩
 rintro⟨i,co⟩ ⟨hi,hcl,hnc,hsz,hF⟩
 dsimp only at *
 by_cases hlt:i<b.t.outs.length
 ·left
  have hlw:i<W.length:=by omega
  obtain⟨o,hg⟩:∃o,b.t.outs[i]? = some o:=⟨_,List.getElem?_eq_getElem hlt⟩
  obtain⟨w,hgw⟩:∃w,W[i]? = some w:=⟨_,List.getElem?_eq_getElem hlw⟩
  have hd:b.t.outs.drop i=o::b.t.outs.drop (i+1):=by rw[List.drop_eq_getElem_cons hlt,(List.getElem?_eq_some_iff.1 hg).2]
  have hdw:W.drop i=w::W.drop (i+1):=by rw[List.drop_eq_getElem_cons hlw,(List.getElem?_eq_some_iff.1 hgw).2]
  obtain⟨o1,o2⟩:=ho _ (List.mem_of_getElem? hg)
  have zw:=hw _ (List.mem_of_getElem? hgw)
  rw[hd,hdw,sendF]at hF
  obtain⟨k,rfl⟩:∃k:Nat,o=k:=⟨o.toNat,by omega⟩
  rw[Int.toNat_natCast]at hF
  have hb:i*1002≤6*1002:=Nat.mul_le_mul_right _ (by omega)
  have e:=zvh (T:=T) n ny np W bits { b with co:=co } i k w hlt (by dsimp only;omega) hg hgw hcl (by omega) (fun u hu=>by have:=hsz u hu;omega) (by omega)
  refine⟨(i+1,bmpF co k (fv w)),⟨by dsimp only;omega,by simpa using hcl,zgk hnc _ _,fun u hu=>?_,hF⟩,by dsimp only;omega,e⟩
  have h9:=zey (S:=1000) k hsz (by omega) (zbo zw (by decide)) u hu
  show fsz u≤1+(i+1)*1002
  rw[Nat.succ_mul]
  exact Nat.le_trans h9 (by generalize i*1002=z;omega)
 ·right
  have:i=b.t.outs.length:=by omega
  subst this
  rw[List.drop_length,sendF]at hF
  ·have hb:b.t.outs.length*1002≤6*1002:=Nat.mul_le_mul_right _ (by omega)
   refine⟨_,⟨co,hF,hcl,hnc,fun u hu=>by have:=hsz u hu;omega,rfl⟩,z4b (T:=T) n ny np W bits { b with co:=co }⟩
  ·intro o os w ws h
   cases h
def BkEnd(n ny np L:Nat)(t:Tp)(D:List Fz)(R:(List Rat×Po)×Option Nat)(r:Ex×St):Prop:=
 (∃i,R.2=some i∧r=endBad (i:Nat))∨(R.2=none∧PvS R.1.2 3000∧R.1.2.y.length=ny∧R.1.2.p.length=np∧∃(co:List Fz) (s p:Int),r=endBk n ny np L ⟨t,D,co,R.1.2.f⟩ s p)
theorem zy3(n ny np L:Nat)(t:Tp)(D co0:List Fz)(g0:Po)(ht:OkTp t)(hn:t.code.length=n)(hn2:n≤20)(hL:L≤4096)(hD:D.length=n)(hy:(ny:Int)=t.dim)(hp:(np:Int)=t.par)(zD:∀u∈D,fsz u≤129)
  (h1:co0.length=n) (h2:nice co0) (h3:∀u∈co0,fsz u≤7000) (h4:PvS g0 1) (h5:g0.y.length=ny) (h6:g0.p.length=np) (s0 p0:Int) :
  ∃r,BkEnd n ny np L t D (backR L t.code (D.map fv) n (co0.map fv) g0) r∧loopN T 0 2 (.norm false [8,9,10,13,16]) l397_1 (stBk n ny np L ⟨t,D,co0,g0.f⟩ ((n:Int)-1) s0 p0)=some r:=by
 refine zap (T:=T) (k:=0) (id:=2) (g2:=.norm false [8,9,10,13,16]) (c:=l397_1) (fun x:Nat×List Fz×Po×Int×Int=>stBk n ny np L ⟨t,D,x.2.1,x.2.2.1.f⟩ ((x.1:Int)-1) x.2.2.2.1 x.2.2.2.2)
  (fun x=>x.1≤n∧x.2.1.length=n∧nice x.2.1∧(∀u∈x.2.1,fsz u≤7000+(n-x.1)*1036)∧PvS x.2.2.1 (1+(n-x.1)*130)∧x.2.2.1.y.length=ny∧x.2.2.1.p.length=np∧backR L t.code (D.map fv) x.1 (x.2.1.map fv) x.2.2.1=backR L t.code (D.map fv) n (co0.map fv) g0) (fun x=>x.1)
  _ ?_ (n,co0,g0,s0,p0) ⟨Nat.le_refl _,h1,h2,fun u hu=>by have:=h3 u hu;dsimp only;omega,by dsimp only;rw[Nat.sub_self,Nat.zero_mul];exact h4,h5,h6,rfl⟩
 rintro⟨m,co,g,s,p⟩ ⟨hm,hcl,hnc,hsz,hgs,hgy,hgp,hR⟩
 dsimp only at *
 cases m with
 | zero=>
  right
  have e:=z4a (T:=T) n ny np L ⟨t,D,co,g.f⟩ s p
  rw[backR]at hR
  have em:((0:Nat):Int)-1=-1:=rfl
  rw[em]
  refine⟨_,.inr ?_,e⟩
  rw[←hR]
  have hb:(n-0)*130≤20*130:=Nat.mul_le_mul_right _ (by omega)
  have hP:PvS g 3000:=⟨by have:=hgs.t;omega,fun q hq=>by have:=hgs.y q hq;omega,fun q hq=>by have:=hgs.p q hq;omega⟩
  exact⟨rfl,hP,hgy,hgp,co,s,p,rfl⟩
 | succ k=>
  have hk:k<n:=by omega
  have em:((k+1:Nat):Int)-1=k:=by omega
  obtain⟨c,hc⟩:∃c,co[k]? = some c:=⟨_,List.getElem?_eq_getElem (by omega)⟩
  obtain⟨r,hr⟩:∃r,D[k]? = some r:=⟨_,List.getElem?_eq_getElem (by omega)⟩
  obtain⟨x,hx⟩:∃x,t.code[k]? = some x:=⟨_,List.getElem?_eq_getElem (by omega)⟩
  have hmay:=ht.may k x hx
  have b1:(n-(k+1))*1036≤19*1036:=Nat.mul_le_mul_right _ (by omega)
  have b2:(n-(k+1))*130≤19*130:=Nat.mul_le_mul_right _ (by omega)
  have zc:=hsz c (List.mem_of_getElem? hc)
  have ec:gI (co.map fv) k=fv c:=zsj rfl hc
  have er:gI (D.map fv) k=fv r:=zsj rfl hr
  rw[em]
  rw[backR,hx]at hR
  dsimp only at hR
  rw[ec,er]at hR
  by_cases hf:L<sizQ (fv c)
  ·right
   rw[if_pos hf]at hR
   have e:=zyy (T:=T) n ny np L ⟨t,D,co,g.f⟩ k s p c hc (by omega) (by unfold sizQ at hf;omega) hcl (by omega)
   rw[e]
   refine⟨_,.inl ⟨k,?_,rfl⟩,rfl,z39 k⟩
   rw[←hR]
  ·left
   rw[if_neg hf]at hR
   have zq:=znc (q:=fv c) (b:=L) (by omega)
   have zc9:=zyz hnc hc
   have zr:=zD r (List.mem_of_getElem? hr)
   have th:=zvf (T:=T) n ny np ⟨t,D,co,g.f⟩ x k c r hx hmay hD hcl (by rw[←hgy];exact zam _) (by rw[←hgp];exact zam _) hy hp hc hr (by omega) zD (fun u hu=>by have:=hsz u hu;omega)
    (by show sz g.t≤_;have:=hgs.t;omega) (fun u hu=>by obtain⟨q,hq,rfl⟩:=List.mem_map.1 hu;have:=hgs.y q hq;rw[zbv];omega) (fun u hu=>by obtain⟨q,hq,rfl⟩:=List.mem_map.1 hu;have:=hgs.p q hq;rw[zbv];omega)
   dsimp only at th
   rw[z4c]at th
   have e:=zvi (T:=T) n ny np L ⟨t,D,co,g.f⟩ ⟨t,D,thrF D x (fv r) (fv c) co,(thrG x (fv c) g).f⟩ k s p c hc (by omega) (by unfold sizQ at hf;omega) th hcl (by omega) rfl rfl
   refine⟨(k,thrF D x (fv r) (fv c) co,thrG x (fv c) g,cntS s,cntP p (fz (fv c))),⟨by dsimp only;omega,by simpa using hcl,zvj hnc _ _ _ _,fun u hu=>?_,?_,?_,?_,?_⟩,by dsimp only;omega,e⟩
   ·have h9:=zyw hmay zD (by omega) (zbo zr (by decide)) hsz (by omega) u hu
    show fsz u≤7000+(n-k)*1036
    rw[show n-k=n-(k+1)+1 by omega,Nat.succ_mul]
    exact Nat.le_trans h9 (by generalize (n-(k+1))*1036=z;omega)
   ·have:=zy1 hgs (by omega) x (c:=fv c) (by omega)
    dsimp only
    rw[show n-k=n-(k+1)+1 by omega,Nat.add_mul,←Nat.add_assoc]
    exact this
   ·exact(zoy _ _ _).1.trans hgy
   ·exact(zoy _ _ _).2.trans hgp
   ·dsimp only
    rw[z34]
    exact hR
end
theorem z4d(n:Nat):wkL (List.replicate n [.b false,.sl [] .nl,.sl [] .nl])=rowF (List.replicate n blk):=by
 rw[zbs,List.map_replicate]
 simp[rowF,wkR,wkA]
section
variable{T:Tbl}[CLimb T][CNat T][CProd T][CTwos T][CQuot T][CQuotD T][CWhole T][CCommon T][CFrac T][CFrac3 T][CFrac5 T][CPow T][CDigits T][CText T][CJoin T][CRow T][CTape T][CEval T][CGauge T][CRun T][CIfc T][CPull T]
theorem zgl(d p:Int)(ny np:Nat)(h1:cap300 d=ny)(h2:cap300 p=np):callH T 2395 [.i .i64 d,.i .i64 p] []=some (.agg [.b (fz 0).1,.sl (u32s (fz 0).2.1) .an,.sl (u32s (fz 0).2.2) .an,.bs (.fld (.loc 7) 9) 1 3 0 ny,.bs (.fld (.loc 9) 9) 2 3 0 np],
  [(.fld (.loc 7) 9,⟨1,.own,3,rowF (List.replicate ny (fz 0))⟩),(.fld (.loc 9) 9,⟨2,.own,3,rowF (List.replicate np (fz 0))⟩)]):=by
 have:=zj1 (T:=T) d p
 rw[h1,h2]at this
 exact this
theorem zsn(t:Tp)(x:PoF)(w:List Fz)(bits:Int)(h:w.length≠t.outs.length):callF T 397 [etp t,ept x,.sl (rowF w) .an,.i .i64 bits]=some (.tup [ept (zeroP 0 0).f,fltA 2 0 0 0]):=by
 have hz:=zgl (T:=T) 0 0 0 0 rfl rfl
 have h':¬ (w.length:Int)=t.outs.length:=by omega
 have e:(zeroP 0 0).f=⟨fz 0,[],[]⟩:=rfl
 rw[e]
 generalize fz 0=Z at *
 obtain⟨code,outs,dim,par⟩:=t
 obtain⟨⟨x0,x1,x2⟩,xy,xp⟩:=x
 dsimp only at *
 rw[f397 _ rfl,b397]
 simp -implicitDefEqProofs[hz,h']
theorem zvk(t:Tp)(x:PoF)(w:List Fz)(bits:Int)(h:w.length=t.outs.length)(D:List Fz)(k a:Nat)(hk:k≠0)(hr:callF T 384 [etp t,ept x,.i .i64 bits]=some (.tup [.sl (rowF D) .an,fltA k 0 0 a])):callF T 397 [etp t,ept x,.sl (rowF w) .an,.i .i64 bits]=some (.tup [ept (zeroP 0 0).f,fltA k 0 0 a]):=by
 have hz:=zgl (T:=T) 0 0 0 0 rfl rfl
 have h':(w.length:Int)=t.outs.length:=by omega
 have hk':¬ (k:Int)=0:=by omega
 have e:(zeroP 0 0).f=⟨fz 0,[],[]⟩:=rfl
 rw[e]
 generalize fz 0=Z at *
 generalize (k:Int)=kk at *
 generalize (a:Int)=aa at *
 obtain⟨code,outs,dim,par⟩:=t
 obtain⟨⟨x0,x1,x2⟩,xy,xp⟩:=x
 dsimp only at *
 rw[f397 _ rfl,b397]
 simp -implicitDefEqProofs[hz,h,hr,hk']
def backE(lim:Nat)(R:(List Rat×Po)×Option Nat):AV:=
 match R with
 | (_,some i)=>.tup [ept (zeroP 0 0).f,fltA 6 0 2 i]
 | (s,none)=>match firstL lim (allP s.2) 0 with | some k=>.tup [ept (zeroP 0 0).f,fltA 6 0 3 k] | none=>.tup [ept s.2.f,fltA 0 0 0 0]
theorem zso(t:Tp)(x:PoF)(w:List Fz)(bits:Int)(D:List Rat)(hok:OkTp t)(hn2:t.code.length≤20)(hlen:w.length=t.outs.length)(hw:∀u∈w,fsz u≤1000)(hD:D.length=t.code.length)(zD:∀q∈D,sz q≤129)
  (hr:callF T 384 [etp t,ept x,.i .i64 bits]=some (.tup [.sl (rowF (fzs D)) .an,fltA 0 0 0 0])) :
  callF T 397 [etp t,ept x,.sl (rowF w) .an,.i .i64 bits]=some (backE (limN bits) (backR (limN bits) t.code D t.code.length (sendQ t.outs (w.map fv) (List.replicate t.code.length 0)) (zeroP t.dim.toNat t.par.toNat))):=by
 obtain⟨hl1,hl2⟩:=zt4 bits
 have hg:=zlf (T:=T) bits
 rw[hl1]at hg
 have d1:=hok.d1;have d2:=hok.d2;have p1:=hok.p1;have p2:=hok.p2;have ol:=hok.ol
 have hz:=zgl (T:=T) 0 0 0 0 rfl rfl
 have hz2:=zgl (T:=T) t.dim t.par t.dim.toNat t.par.toNat (by unfold cap300;omega) (by unfold cap300;omega)
 have hM:∀dd clk,callM (orc T) T 2395 [.i .i64 t.dim,.i .i64 t.par] dd clk=callMr (callH T 2395 [.i .i64 t.dim,.i .i64 t.par] []) dd clk:=fun dd clk=>zsd CPull.h2395 rfl
 have hyd:((t.dim.toNat:Nat):Int)=t.dim:=by omega
 have hpd:((t.par.toNat:Nat):Int)=t.par:=by omega
 have hZ:=z4d t.code.length
 have hFD:(fzs D).length=t.code.length:=by rw[zam,hD]
 have hcl:(t.code.length:Int)≤4294967296:=by omega
 have hw1:IntKind.wrap .i64 ((t.code.length:Int)-1)=(t.code.length:Int)-1:=zad _ (by omega)
 obtain⟨co,hco,hco1,hco2,hco3,hsd⟩:=zy2 (T:=T) t.code.length t.dim.toNat t.par.toNat w bits ⟨t,fzs D,List.replicate t.code.length blk,(zeroP t.dim.toNat t.par.toNat).f⟩ (by simp) hok.outs hlen (by show t.outs.length≤6;omega) hw
  (fun u hu=>by rw[List.eq_of_mem_replicate hu];exact Nat.zero_le _) (fun u hu=>.inl (List.eq_of_mem_replicate hu))
 have hnz:PvS (zeroP t.dim.toNat t.par.toNat) 1:=⟨Nat.le_of_eq zf2,fun q hq=>by rw[List.eq_of_mem_replicate hq];exact Nat.le_of_eq zf2,fun q hq=>by rw[List.eq_of_mem_replicate hq];exact Nat.le_of_eq zf2⟩
 obtain⟨r,hr1,hbk⟩:=zy3 (T:=T) t.code.length t.dim.toNat t.par.toNat (limN bits) t (fzs D) co (zeroP t.dim.toNat t.par.toNat) hok rfl hn2 hl2 hFD hyd hpd
  (fun u hu=>by obtain⟨q,hq,rfl⟩:=List.mem_map.1 hu;exact zD q hq) hco1 hco2 hco3 hnz (by simp[zeroP]) (by simp[zeroP]) 0 0
 have e1:(fzs D).map fv=D:=by simp[fzs,Function.comp_def]
 have e2:co.map fv=sendQ t.outs (w.map fv) (List.replicate t.code.length 0):=by
  rw[hco,zsl,List.map_replicate,zsh]
 rw[e1,e2]at hr1
 generalize backR (limN bits) t.code D t.code.length (sendQ t.outs (w.map fv) (List.replicate t.code.length 0)) (zeroP t.dim.toNat t.par.toNat)=R at *
 have ez:(zeroP t.dim.toNat t.par.toNat).f=⟨fz 0,List.replicate t.dim.toNat (fz 0),List.replicate t.par.toNat (fz 0)⟩:=by simp[zeroP,Po.f,fzs]
 have ez0:(zeroP 0 0).f=⟨fz 0,[],[]⟩:=rfl
 rw[ez]at hsd hbk
 unfold stSd endSd at hsd
 unfold stBk at hbk
 simp only[bkX,List.cons_append,List.nil_append]at hbk
 simp only[Int.natCast_zero]at hsd
 unfold backE
 rw[ez0]
 have hne:(zeroP t.dim.toNat t.par.toNat).y.length=t.dim.toNat:=by simp[zeroP]
 clear hnz hok hw hD zD hco hco1 hco2 hco3 e1 e2 hl1 hl2 ez ez0 hne
 generalize hny:t.dim.toNat=ny at *
 generalize hnp:t.par.toNat=np at *
 generalize hnn:t.code.length=n at *
 generalize fzs D=DD at *
 have hlen':(w.length:Int)=t.outs.length:=by omega
 rcases hr1 with ⟨i,hi,rfl⟩ | ⟨hi,hP,hy,hp,co',s',p',rfl⟩
 ·obtain⟨s,o⟩:=R
  dsimp only at hi
  subst hi
  dsimp only
  unfold endBad at hbk
  generalize (i:Int)=ii at *
  obtain⟨code,outs,dim,par⟩:=t
  obtain⟨⟨x0,x1,x2⟩,xy,xp⟩:=x
  dsimp only at *
  rw[f397 _ rfl,b397]
  simp -implicitDefEqProofs[hz,hz2,hM,hlen,hlen',hr,hFD,hZ,hcl,hg,hw1,hsd,hbk]
 ·obtain⟨⟨cq,g⟩,o⟩:=R
  dsimp only at hi hP hy hp hbk
  subst hi
  dsimp only
  have ca:=zvg (T:=T) g.f (by
   intro h
   have h9:(fzs g.y).length=0:=by rw[show fzs g.y=[] from h];rfl
   rw[zam]at h9
   omega) (by show (fzs g.y).length≤1000;rw[zam];omega) (by show (fzs g.p).length≤1000;rw[zam];omega)
  obtain⟨s2,p2',cr⟩:=zsk (T:=T) (allP g) (limN bits) (by unfold allP;simp;omega) (fun q hq=>by
   unfold allP at hq
   rcases List.mem_cons.1 hq with rfl | hq
   ·have:=hP.t;omega
   ·rcases List.mem_append.1 hq with hq | hq
    ·have:=hP.y q hq;omega
    ·have:=hP.p q hq;omega) s' p'
  have ef:fzs (allP g)=g.f.t::(g.f.y++g.f.p):=by unfold allP Po.f fzs;simp
  rw[ef]at cr
  generalize g.f.t::(g.f.y++g.f.p)=AL at *
  unfold endBk at hbk
  simp only[bkX,List.cons_append,List.nil_append]at hbk
  have hfy:g.f.y.length=ny:=by rw[←hy];exact zam _
  have hfp:g.f.p.length=np:=by rw[←hp];exact zam _
  clear hP hy hp ef
  generalize g.f=gf at *
  generalize ((allP g).length:Int)=al at *
  have hty:List.take ny gf.y=gf.y:=List.take_of_length_le (by omega)
  have htp:List.take np gf.p=gf.p:=List.take_of_length_le (by omega)
  cases hf:firstL (limN bits) (allP g) 0 with
  | some k=>
   rw[hf]at cr
   dsimp only[Option.isNone]at cr ⊢
   generalize (k:Int)=kk at *
   obtain⟨code,outs,dim,par⟩:=t
   obtain⟨⟨x0,x1,x2⟩,xy,xp⟩:=x
   obtain⟨⟨f0,f1,f2⟩,fy,fp⟩:=gf
   dsimp only at *
   rw[f397 _ rfl,b397]
   simp -implicitDefEqProofs[hz,hz2,hM,hlen,hlen',hr,hFD,hZ,hcl,hg,hw1,hsd,hbk,ca,cr,hfy,hfp,hty,htp]
  | none=>
   rw[hf]at cr
   dsimp only[Option.isNone]at cr ⊢
   obtain⟨code,outs,dim,par⟩:=t
   obtain⟨⟨x0,x1,x2⟩,xy,xp⟩:=x
   obtain⟨⟨f0,f1,f2⟩,fy,fp⟩:=gf
   dsimp only at *
   rw[f397 _ rfl,b397]
   simp -implicitDefEqProofs[hz,hz2,hM,hlen,hlen',hr,hFD,hZ,hcl,hg,hw1,hsd,hbk,ca,cr,hfy,hfp,hty,htp]
theorem zsp(t:Tp)(x:PoF)(w:List Fz)(bits:Int)(hs:TpS t)(hx:PoS x 1000)(hc:t.code.length≤20)(hw:∀u∈w,fsz u≤1000) :
  callF T 397 [etp t,ept x,.sl (rowF w) .an,.i .i64 bits]=some (.tup [ept (backT (limN bits) t x.v (w.map fv)).1.f,fltA (backT (limN bits) t x.v (w.map fv)).2.1 0 (backT (limN bits) t x.v (w.map fv)).2.2.1 (backT (limN bits) t x.v (w.map fv)).2.2.2]):=by
 have hr:=zwd (T:=T) t x bits hs hx
 have hlim:=(zt4 bits).2
 unfold backT
 rw[List.length_map]
 by_cases h1:w.length≠t.outs.length
 ·rw[if_pos h1]
  exact zsn (T:=T) t x w bits h1
 ·rw[if_neg h1]
  have h1':w.length=t.outs.length:=by omega
  by_cases hk:(tapeR (limN bits) t x.v).2.1≠0
  ·rw[if_pos hk]
   exact zvk (T:=T) t x w bits h1' _ _ _ hk hr
  ·rw[if_neg hk]
   have hk':(tapeR (limN bits) t x.v).2.1=0:=by omega
   have hf:fitT t x.v.y.length x.v.p.length=true:=by
    cases hf:fitT t x.v.y.length x.v.p.length with
    | true=>rfl
    | false=>unfold tapeR at hk';rw[hf]at hk';simp at hk'
   have e1:tapeR (limN bits) t x.v=runR (limN bits) x.v t.code []:=by unfold tapeR;rw[if_pos hf]
   rw[e1]at hr hk' ⊢
   obtain⟨e2,E,e3,e4⟩:=zj8 _ _ _ _ hk'
   rw[hk',e2]at hr
   have hg:=zso (T:=T) t x w bits _ (zhz hf).1 hc h1' hw (by rw[e3];simpa using e4) (zt5 hlim _ _ (by simp)) hr
   rw[hg]
   generalize backR (limN bits) t.code (runR (limN bits) x.v t.code []).1 t.code.length (sendQ t.outs (w.map fv) (List.replicate t.code.length 0)) (zeroP t.dim.toNat t.par.toNat)=R
   obtain⟨s,o⟩:=R
   unfold backE
   cases o with
   | some i=>rfl
   | none=>
    dsimp only
    cases firstL (limN bits) (allP s.2) 0 with
    | some k=>rfl
    | none=>rfl
end
class CLaw11b (T:Tbl):Prop where
class CFig (T:Tbl):Prop where
def prim344:List AV→Option AV
 | [.s s,.s [47,46]]=>if s.length≤1000000 then some (.i .i64 (Lib.indexAny s [47,46])) else none
 | _=>none
def prim194:List AV→Option AV
 | [.s s,.s [c]]=>some (.i .i64 (Lib.indexByte s c))
 | _=>none
def prim361:List AV→Option AV
 | [.s s,.s [c]]=>some (.i .i64 (Lib.countByte s c))
 | _=>none
def prim343:List AV→Option AV
 | [.s [48],.i .i64 n]=>if 0≤n∧n≤64 then some (.s (List.replicate n.toNat 48)) else none
 | _=>none
class CStr (T:Tbl):Prop where
class CSplit (T:Tbl):Prop where
def splitC(c:UInt8):List UInt8→List (List UInt8)
 | []=>[[]]
 | b::l=>if b=c then []::splitC c l else match splitC c l with
  | []=>[[b]]
  | p::r=>(b::p)::r
section
variable{T:Tbl}[CStr T][CSplit T]
def stSp(c:UInt8)(N:Nat)(ps:List (List UInt8))(s:List UInt8):St:=
 ⟨[(0,.s s),(1,.s [c]),(2,.i .i64 0),(3,.i .i64 ((N:Int)-1)),(9,.bs (.loc 31) 1 1 0 N),(10,.i .i64 ps.length)],[(.loc 31,⟨1,.own,1,rowsT ps++List.replicate (N-ps.length) [.s []]⟩)],3⟩
end
abbrev flt(k a:Int):AV:=.agg [.i .i64 k,.i .i64 0,.i .i64 0,.i .i64 a]
def isCut(c:UInt8):Bool:=c == 47 || c == 46
def cutN:List UInt8→Nat
 | []=>0
 | c::r=>if isCut c then 0 else cutN r+1
def figB(z:Int)(neg:Bool)(s:List UInt8)(c:UInt8)(at_:Nat):Rat×Int×Int:=
 let rest:=s.drop at_
 if 0≤wrongI rest then (0,1,wrongI rest+at_)
 else if c=47 then (if rd rest=0 then (0,2,at_) else (mkRat z (rd rest),0,0))
 else (mkRat (sg neg (z.natAbs*10^rest.length+rd rest)) (10^rest.length),0,0)
def figR(s:List UInt8):Rat×Int×Int:=
 let first:=s.take (cutN s)
 if 0≤wrongZ first then (0,1,wrongZ first+minus first)
 else if cutN s<s.length then figB (readZ first) (s.head? = some 45) s (s.getD (cutN s) 0) (cutN s+1)
 else (mkRat (readZ first) 1,0,0)
def readL:List (List UInt8)→Nat→List Rat→List Rat×Int×Int
 | [],_,acc=>(acc,0,0)
 | w::ws,k,acc=>if (figR w).2.1=0 then readL ws (k+w.length+1) (acc++[(figR w).1]) else ([],(figR w).2.1,(figR w).2.2+k)
def rowR(s:List UInt8):List Rat×Int×Int:=if s=[] then ([],0,0) else readL (splitC 44 s) 0 []
section
variable{T:Tbl}[CLimb T][CNat T][CProd T][CTwos T][CQuot T][CQuotD T][CDigits T][CText T][CWhole T][CCommon T][CFrac T][CFrac2 T][CStr T][CSplit T][CPow T][CFig T][CJoin T][CRow T][CRow2 T]
def stRR(ws:List (List UInt8))(y:Nat×Nat×List Rat):St:=
 ⟨[(3,.ptr (.loc 3) 1 4 0 0),(4,.bs (.loc 4) 2 3 0 y.2.2.length),(5,.i .i64 y.2.1),(14,.sl (rowsT ws) .an),(15,.i .i64 ws.length),(16,.i .i64 y.1)],
  [(.loc 3,⟨1,.str,4,[[.i .i64 0,.i .i64 0,.i .i64 0,.i .i64 0]]⟩),(.loc 4,⟨2,.own,3,rowF (fzs y.2.2)⟩)],4⟩
def resRR(r:List Rat×Int×Int):Option (Ex×St):=
 if r.2.1=0 then some (.n,⟨[(3,.ptr (.loc 3) 1 4 0 0),(4,.bs (.loc 4) 2 3 0 r.1.length)],[(.loc 3,⟨1,.str,4,[[.i .i64 0,.i .i64 0,.i .i64 0,.i .i64 0]]⟩),(.loc 4,⟨2,.own,3,rowF (fzs r.1)⟩)],4⟩)
 else some (.r,⟨[(2,.sl [] .an),(3,.ptr (.loc 3) 1 4 0 0)],[(.loc 3,⟨1,.str,4,[[.i .i64 r.2.1,.i .i64 0,.i .i64 0,.i .i64 r.2.2]]⟩)],3⟩)
end
end Go.Ab
section
namespace Go.Ab
end Go.Ab
end
namespace Go.Ab
def longT(t:Tp)(many words:Nat):Bool:=((t.code.take many).any fun i=>decide (words<fsz i.n)) || decide (many<t.code.length) || decide (many<t.outs.length)
def longP(x:PoF)(many words:Nat):Bool:=decide (words<fsz x.t) || longB x.y many words || longB x.p many words
section
variable{T:Tbl}[CRef02 T][CRef04 T][CRef05 T][CRef07 T][CRef06 T][CRef08 T][CRef09 T][CRef11 T][CLaw09 T][CLaw11 T][CLaw24 T]
def stLT(t:Tp)(many words i:Nat):St:=⟨[(1,.i .i64 many),(2,.i .i64 words),(3,.ptr (.loc 3) 1 4 0 0),(7,.i .i64 i)],[(.loc 3,bxT t)],3⟩
def enLT(t:Tp)(many:Nat):Ex×St:=(.n,⟨[(1,.i .i64 many),(3,.ptr (.loc 3) 1 4 0 0)],[(.loc 3,bxT t)],3⟩)
@[simp] theorem zabm(l:List Int):Option.all (fun r=>decide (r.length=1)) (ints l).head? = true:=by cases l<;>rfl
def fC:BId:=.fld (.loc 3) 0
def stTT(t:Tp)(i:Nat):St:=⟨[(1,.ptr (.loc 1) 1 4 0 0),(2,.ptr (.loc 2) 2 4 0 0),(3,.ptr (.loc 3) 3 4 0 0),(4,.i .i64 i)],
 [(.loc 1,bxT t),(.loc 2,⟨2,.str,4,[[.sl [] .an,.sl [] .an,.i .i64 0,.i .i64 0]]⟩),(.loc 3,⟨3,.str,4,[[.bs fC 4 6 0 i,.bs (.loc 13) 5 1 0 t.outs.length,.i .i64 t.dim,.i .i64 t.par]]⟩),(fC,⟨4,.own,6,rowI (t.code.take i)⟩),(.loc 13,⟨5,.own,1,ints t.outs⟩)],7⟩
end
section
variable{T:Tbl}[CLimb T][CNat T][CProd T][CTwos T][CQuot T][CQuotD T][CWhole T][CCommon T][CFrac T][CFrac3 T][CFrac5 T][CPow T][CTape T][CGauge T][CEval T][CRun T][CIfc T][CDigits T][CText T][CJoin T][CRow T][CPull T]
variable[CRef02 T][CRef04 T][CRef05 T][CRef07 T][CRef06 T][CRef08 T][CRef09 T][CRef11 T][CLaw09 T][CLaw11 T][CLaw24 T][CLaw28 T]
theorem zoh(x:PoF)(hy:x.y.length≤1000)(hp:x.p.length≤1000):callF T 392 [ept x]=some (ept x):=by
 have c1:=zod (T:=T) x.t
 have c2:=zof (T:=T) x.y (by omega)
 have c3:=zof (T:=T) x.p (by omega)
 obtain⟨⟨n,a,d⟩,y,p⟩:=x
 dsimp only at *
 rw[f392 _ rfl,b392]
 simp -implicitDefEqProofs[c1,c2,c3]
theorem zjy(x:PoF)(hy:x.y.length≤1000)(hp:x.p.length≤1000):callF T 394 [ept x]=some (ept x):=by
 have c1:=zoe (T:=T) x.t
 have c2:=zog (T:=T) x.y (by omega)
 have c3:=zog (T:=T) x.p (by omega)
 obtain⟨⟨n,a,d⟩,y,p⟩:=x
 dsimp only at *
 rw[f394 _ rfl,b394]
 simp -implicitDefEqProofs[c1,c2,c3]
theorem ziz(d p:Int):callF T 396 [.i .i64 d,.i .i64 p]=some (ept (zeroG d p)):=by
 have c0:=zi3 (T:=T)
 have c1:=zer (T:=T) d
 have c2:=zer (T:=T) p
 have e:∀n,fzs (List.replicate n 0)=List.replicate n (fz 0):=fun n=>by simp[fzs]
 rw[e]at c1 c2
 unfold zeroG
 generalize fz 0=Z at *
 generalize List.replicate (cap300 d) Z=A at *
 generalize List.replicate (cap300 p) Z=B at *
 obtain⟨z0,z1,z2⟩:=Z
 rw[f396 _ rfl,b396]
 simp -implicitDefEqProofs[c0,c1,c2]
theorem zfu(x:PoF)(ht:fsz x.t≤10000)(hy:x.y.length≤1000)(hp:x.p.length≤1000)(zy:∀u∈x.y,fsz u≤10000)(zp:∀u∈x.p,fsz u≤10000):callF T 393 [ept x,ept x]=some (.b true):=by
 have c1:=zi4 (T:=T) x.t x.t ht
 have c2:=zi6 (T:=T) x.y x.y hy zy
 have c3:=zi6 (T:=T) x.p x.p hp zp
 rw[decide_eq_true rfl]at c1 c2 c3
 obtain⟨⟨n,a,d⟩,y,p⟩:=x
 dsimp only at *
 rw[f393 _ rfl,b393]
 simp -implicitDefEqProofs[c1,c2,c3]
theorem zoi(a b:List Fz)(ha:a.length≤1000)(hb:b.length≤1000)(za:∀x∈a,fsz x≤400)(zb:∀x∈b,fsz x≤400) :
  callF T 267 [.sl [[.sl (rowF a) .an],[.sl (rowF b) .an]] .an]=some (if b.length=a.length then .tup [.sl (rowF (fzs (addP (a.map fv) b))) .an,.b true] else .tup [.sl [] .an,.b false]):=by
 by_cases h:b.length=a.length
 ·rw[if_pos h]
  exact zzu (T:=T) a [b] ha (by simp) (B:=400) za (fun r hr x hx=>by rw[List.mem_singleton.1 hr]at hx;exact zb x hx) (by decide) (by simp) (fun r hr=>by rw[List.mem_singleton.1 hr];exact h)
 ·rw[if_neg h]
  exact zly (T:=T) a b [] ha (fun x hx=>Nat.le_trans (za x hx) (by decide)) (by decide) h
def sumG(a b:PoF):PoF:=⟨fz (fv a.t+fv b.t),fzs (addP (a.y.map fv) b.y),fzs (addP (a.p.map fv) b.p)⟩
theorem zvp(a b:PoF)(ha:PoS a 400)(hb:PoS b 400):callF T 391 [ept a,ept b]=some (if b.y.length=a.y.length∧b.p.length=a.p.length then .tup [ept (sumG a b),.b true] else .tup [ept (zeroG 0 0),.b false]):=by
 have c1:=zoi (T:=T) a.y b.y ha.yl hb.yl ha.y hb.y
 have c2:=zoi (T:=T) a.p b.p ha.pl hb.pl ha.p hb.p
 have c3:=zjv (T:=T) a.t b.t (Nat.le_trans ha.t (by decide)) (Nat.le_trans hb.t (by decide))
 have c4:=zll (T:=T) 0 0
 unfold sumG
 generalize fz (fv a.t+fv b.t)=Z at *
 generalize fzs (addP (a.y.map fv) b.y)=Y at *
 generalize fzs (addP (a.p.map fv) b.p)=W at *
 generalize zeroG 0 0=O at *
 clear ha hb
 obtain⟨⟨x0,x1,x2⟩,xy,xp⟩:=a
 obtain⟨⟨y0,y1,y2⟩,yy,yp⟩:=b
 obtain⟨⟨o0,o1,o2⟩,oy,op⟩:=O
 obtain⟨z0,z1,z2⟩:=Z
 dsimp only at *
 rw[f391 _ rfl,b391]
 by_cases h1:yy.length=xy.length
 ·rw[if_pos h1]at c1
  by_cases h2:yp.length=xp.length
  ·rw[if_pos h2]at c2
   rw[if_pos ⟨h1,h2⟩]
   simp -implicitDefEqProofs[c1,c2,c3,c4]
  ·rw[if_neg h2]at c2
   rw[if_neg (fun h=>h2 h.2)]
   simp -implicitDefEqProofs[c1,c2,c3,c4]
 ·rw[if_neg h1]at c1
  rw[if_neg (fun h=>h1 h.1)]
  by_cases h2:yp.length=xp.length
  ·rw[if_pos h2]at c2
   simp -implicitDefEqProofs[c1,c2,c3,c4]
  ·rw[if_neg h2]at c2
   simp -implicitDefEqProofs[c1,c2,c3,c4]
def t28:Tp:=⟨[⟨3,0,0,(false,[],[])⟩,⟨4,0,0,(false,[],[])⟩,⟨9,0,1,(false,[],[])⟩],[2],1,1⟩
def p28:PoF:=⟨(false,[],[]),[fz 3],[fz 5]⟩
theorem zm5:callF T 390 []=some (.b true):=by
 have k2:=zhn (T:=T) 2 (by decide) (by decide)
 have k3:=zhn (T:=T) 3 (by decide) (by decide)
 have k5:=zhn (T:=T) 5 (by decide) (by decide)
 have q2:((2:Int):Rat)=2:=rfl
 have q3:((3:Int):Rat)=3:=rfl
 have q5:((5:Int):Rat)=5:=rfl
 rw[q2]at k2
 rw[q3]at k3
 rw[q5]at k5
 have hs:TpS t28:=⟨⟨by decide,by decide,fun i hi=>by
  simp only[t28,List.mem_cons,List.not_mem_nil,or_false]at hi
  rcases hi with rfl | rfl | rfl<;>decide,by decide,by decide⟩,fun i hi=>by
  simp only[t28,List.mem_cons,List.not_mem_nil,or_false]at hi
  rcases hi with rfl | rfl | rfl<;>decide⟩
 have f2:fsz (fz 2)≤1000:=by decide +kernel
 have f3:fsz (fz 3)≤1000:=by decide +kernel
 have f5:fsz (fz 5)≤1000:=by decide +kernel
 have a1:=zsp (T:=T) t28 p28 [fz 2] 100 hs ⟨by decide,fun u hu=>by rw[List.mem_singleton.1 hu];exact f3,fun u hu=>by rw[List.mem_singleton.1 hu];exact f5,by decide,by decide⟩ (by decide) (fun u hu=>by rw[List.mem_singleton.1 hu];exact f2)
 have e1:backT (limN 100) t28 p28.v ([fz 2].map fv)=(⟨0,[10],[6]⟩,0,0,0):=by
  obtain⟨v1,v2,v3,v4⟩:(backT (limN 100) t28 p28.v ([fz 2].map fv)).1.t=0∧(backT (limN 100) t28 p28.v ([fz 2].map fv)).1.y=[10]∧(backT (limN 100) t28 p28.v ([fz 2].map fv)).1.p=[6]∧(backT (limN 100) t28 p28.v ([fz 2].map fv)).2=(0,0,0):=by decide +kernel
  generalize backT (limN 100) t28 p28.v ([fz 2].map fv)=R at *
  obtain⟨⟨a,b,c⟩,d⟩:=R
  dsimp only at v1 v2 v3 v4
  rw[v1,v2,v3,v4]
 rw[e1]at a1
 have s1:∀q∈[(10:Rat)],sz q≤1:=by
  intro q hq
  rw[List.mem_singleton.1 hq]
  exact z4f (by decide) (by decide)
 have s2:∀q∈[(6:Rat)],sz q≤1:=by
  intro q hq
  rw[List.mem_singleton.1 hq]
  exact z4f (by decide) (by decide)
 have t1:=zoq (T:=T) (fzs [10]) (by decide) (fun x hx=>Nat.le_trans (zxb s1 x hx) (by decide))
 have t2:=zoq (T:=T) (fzs [6]) (by decide) (fun x hx=>Nat.le_trans (zxb s2 x hx) (by decide))
 have et1:List.intercalate [44] (txts (fzs [10]))=[49,48]:=by decide +kernel
 have et2:List.intercalate [44] (txts (fzs [6]))=[54]:=by decide +kernel
 rw[et1]at t1
 rw[et2]at t2
 have c0:=zho (T:=T) (fz 0) (by decide +kernel)
 have e0:sgQ (fv (fz 0))=0:=by decide +kernel
 rw[e0]at c0
 have ef:(⟨0,[10],[6]⟩:Po).f=⟨fz 0,fzs [10],fzs [6]⟩:=rfl
 rw[ef]at a1
 clear e1 s1 s2 et1 et2 hs f2 f3 f5 q2 q3 q5 e0 ef
 unfold p28 at a1
 generalize fzs [10]=A at *
 generalize fzs [6]=B at *
 generalize fz 0=F0 at *
 generalize fz 2=F2 at *
 generalize fz 3=F3 at *
 generalize fz 5=F5 at *
 replace a1:callF T 397 [.agg [.sl [[.i .i64 3,.i .i64 0,.i .i64 0,.b false,.sl [] .an,.sl [] .an],[.i .i64 4,.i .i64 0,.i .i64 0,.b false,.sl [] .an,.sl [] .an],[.i .i64 9,.i .i64 0,.i .i64 1,.b false,.sl [] .an,.sl [] .an]] .an,.sl [[.i .i64 2]] .an,.i .i64 1,.i .i64 1],
  .agg [.b false,.sl [] .an,.sl [] .an,.sl [[.b F3.1,.sl (u32s F3.2.1) .an,.sl (u32s F3.2.2) .an]] .an,.sl [[.b F5.1,.sl (u32s F5.2.1) .an,.sl (u32s F5.2.2) .an]] .an],.sl [[.b F2.1,.sl (u32s F2.2.1) .an,.sl (u32s F2.2.2) .an]] .an,.i .i64 100]=some (.tup [.agg [.b F0.1,.sl (u32s F0.2.1) .an,.sl (u32s F0.2.2) .an,.sl (rowF A) .an,.sl (rowF B) .an],fltA 0 0 0 0]):=a1
 rw[f390 _ rfl,b390]
 simp -implicitDefEqProofs[a1,t1,t2,k2,k3,k5,c0]
theorem zoj(p:List Rat)(l:List Fz):addP p (fzs (l.map fv))=addP p l:=by
 unfold addP fzs
 rw[List.map_map,List.zipWith_map_right]
 simp[Function.comp_def]
theorem zok{a b:List Fz}{B:Nat}(h1:1≤B)(ha:∀x∈a,fsz x≤B)(hb:∀x∈b,fsz x≤B):∀u∈fzs (addP (a.map fv) b),fsz u≤2*B+1:=by
 intro u hu
 obtain⟨q,hq,rfl⟩:=List.mem_map.1 hu
 unfold addP at hq
 rw[List.zipWith_map_left]at hq
 obtain⟨i,hi,e⟩:=List.getElem_of_mem hq
 rw[List.length_zipWith]at hi
 rw[List.getElem_zipWith]at e
 have z1:=zbo (ha _ (List.getElem_mem (show i<a.length by omega))) h1
 have z2:=zbo (hb _ (List.getElem_mem (show i<b.length by omega))) h1
 have:=zge (fv a[i]) (fv b[i])
 rw[zbv,←e]
 omega
theorem zol(d p:Int):fsz (zeroG d p).t≤1∧(zeroG d p).y.length≤300∧(zeroG d p).p.length≤300∧(∀u∈(zeroG d p).y,fsz u≤1)∧(∀u∈(zeroG d p).p,fsz u≤1):=by
 have z:fsz (fz 0)≤1:=Nat.le_of_eq zf2
 unfold zeroG
 refine⟨z,by simp[zd3],by simp[zd3],fun u hu=>?_,fun u hu=>?_⟩<;>rw[List.eq_of_mem_replicate hu]<;>exact z
theorem zpx(a b:PoF)(n0 n1:Int):callF T 374 [ept a,ept b,.agg [.i .i64 n0,.i .i64 n1]]=some (.b true):=by
 have cw:=zm5 (T:=T)
 have l1:callF T 247 [efz a.t,.i .i64 3]=some (.b (decide (3<fsz a.t))):=zei (T:=T) a.t 3
 have l2:callF T 247 [efz b.t,.i .i64 3]=some (.b (decide (3<fsz b.t))):=zei (T:=T) b.t 3
 have l3:callF T 286 [.sl (rowF a.y) .an,.i .i64 8,.i .i64 3]=some (.b (longB a.y 8 3)):=zdk (T:=T) a.y 8 3 (by decide)
 have l4:callF T 286 [.sl (rowF a.p) .an,.i .i64 8,.i .i64 3]=some (.b (longB a.p 8 3)):=zdk (T:=T) a.p 8 3 (by decide)
 have l5:callF T 286 [.sl (rowF b.y) .an,.i .i64 8,.i .i64 3]=some (.b (longB b.y 8 3)):=zdk (T:=T) b.y 8 3 (by decide)
 have l6:callF T 286 [.sl (rowF b.p) .an,.i .i64 8,.i .i64 3]=some (.b (longB b.p 8 3)):=zdk (T:=T) b.p 8 3 (by decide)
 by_cases hL:(decide (3<fsz a.t) || decide (3<fsz b.t) || longB a.y 8 3 || longB a.p 8 3 || longB b.y 8 3 || longB b.p 8 3)=true
 ·generalize decide (3<fsz a.t)=B1 at *
  generalize decide (3<fsz b.t)=B2 at *
  generalize longB a.y 8 3=B3 at *
  generalize longB a.p 8 3=B4 at *
  generalize longB b.y 8 3=B5 at *
  generalize longB b.p 8 3=B6 at *
  obtain⟨⟨x0,x1,x2⟩,xy,xp⟩:=a
  obtain⟨⟨y0,y1,y2⟩,yy,yp⟩:=b
  dsimp only at *
  rw[f374 _ rfl,b374]
  cases B1 with
  | true=>simp -implicitDefEqProofs[l1,cw]
  | false=>
   cases B2 with
   | true=>simp -implicitDefEqProofs[l1,l2,cw]
   | false=>
    cases B3 with
    | true=>simp -implicitDefEqProofs[l1,l2,l3,cw]
    | false=>
     cases B4 with
     | true=>simp -implicitDefEqProofs[l1,l2,l3,l4,cw]
     | false=>
      cases B5 with
      | true=>simp -implicitDefEqProofs[l1,l2,l3,l4,l5,cw]
      | false=>
       cases B6 with
       | true=>simp -implicitDefEqProofs[l1,l2,l3,l4,l5,l6,cw]
       | false=>simp at hL
 ·simp only[Bool.or_eq_true,not_or,Bool.not_eq_true,decide_eq_false_iff_not]at hL
  obtain⟨⟨⟨⟨⟨h1,h2⟩,h3⟩,h4⟩,h5⟩,h6⟩:=hL
  obtain⟨m3,w3⟩:=zdl h3
  obtain⟨m4,w4⟩:=zdl h4
  obtain⟨m5,w5⟩:=zdl h5
  obtain⟨m6,w6⟩:=zdl h6
  rw[h3]at l3
  rw[h4]at l4
  rw[h5]at l5
  rw[h6]at l6
  rw[decide_eq_false h1]at l1
  rw[decide_eq_false h2]at l2
  have up:∀(l:List Fz) (B:Nat),3≤B→(∀u∈l,fsz u≤3)→∀u∈l,fsz u≤B:=fun l B hB h u hu=>Nat.le_trans (h u hu) hB
  have pa:PoS a 400:=⟨by omega,up _ _ (by decide) w3,up _ _ (by decide) w4,by omega,by omega⟩
  have pb:PoS b 400:=⟨by omega,up _ _ (by decide) w5,up _ _ (by decide) w6,by omega,by omega⟩
  have t1:=zoh (T:=T) a pa.yl pa.pl
  have t2:=zoh (T:=T) b pb.yl pb.pl
  have ad:=zvp (T:=T) a b pa pb
  have pz:=zll (T:=T) n0 n1
  have rz:=ziz (T:=T) n0 n1
  have rz0:=ziz (T:=T) 0 0
  obtain⟨g1,g2,g3,g4,g5⟩:=zol n0 n1
  obtain⟨k1,k2,k3,k4,k5⟩:=zol 0 0
  have zo:=zjy (T:=T) (zeroG n0 n1) (by omega) (by omega)
  have zs:=zfu (T:=T) (zeroG n0 n1) (by omega) (by omega) (by omega) (fun u hu=>Nat.le_trans (g4 u hu) (by decide)) (fun u hu=>Nat.le_trans (g5 u hu) (by decide))
  have zo0:=zjy (T:=T) (zeroG 0 0) (by omega) (by omega)
  have zs0:=zfu (T:=T) (zeroG 0 0) (by omega) (by omega) (by omega) (fun u hu=>Nat.le_trans (k4 u hu) (by decide)) (fun u hu=>Nat.le_trans (k5 u hu) (by decide))
  clear g1 g2 g3 g4 g5 k1 k2 k3 k4 k5
  by_cases hf:b.y.length=a.y.length∧b.p.length=a.p.length
  ·rw[if_pos hf]at ad
   obtain⟨f1,f2⟩:=hf
   have f1':(a.y.length:Int)=b.y.length:=by omega
   have f2':(a.p.length:Int)=b.p.length:=by omega
   have r1:=zcc (T:=T) a.t (by omega)
   have r2:=zcc (T:=T) b.t (by omega)
   have s1:=zbo (show fsz a.t≤3 by omega) (by decide)
   have s2:=zbo (show fsz b.t≤3 by omega) (by decide)
   have r3:=zi5 (T:=T) (fv a.t) (fv b.t) (by omega) (by omega)
   have qz:∀l:List Fz,(∀u∈l,fsz u≤3)→∀q∈l.map fv,sz q≤1000:=fun l h q hq=>by
    obtain⟨u,hu,rfl⟩:=List.mem_map.1 hq
    exact Nat.le_trans (zbo (h u hu) (by decide)) (by decide)
   have n3:=zdj (T:=T) a.y (by omega) (up _ _ (by decide) w3)
   have n4:=zdj (T:=T) a.p (by omega) (up _ _ (by decide) w4)
   have n5:=zdj (T:=T) b.y (by omega) (up _ _ (by decide) w5)
   have n6:=zdj (T:=T) b.p (by omega) (up _ _ (by decide) w6)
   have a1:=zlv (T:=T) (a.y.map fv) (b.y.map fv) (by simp[f1]) (by simp;omega) (qz _ w3) (qz _ w5)
   have a2:=zlv (T:=T) (a.p.map fv) (b.p.map fv) (by simp[f2]) (by simp;omega) (qz _ w4) (qz _ w6)
   rw[←zdm,←zdm]at a1 a2
   rw[zdm b.y,zoj]at a1
   rw[zdm b.p,zoj]at a2
   rw[←zdm b.y]at a1
   rw[←zdm b.p]at a2
   have z3:=zge (fv a.t) (fv b.t)
   have ly:(fzs (addP (a.y.map fv) b.y)).length≤1000:=by rw[zam,zbw (by simp[f1])];simp;omega
   have lp:(fzs (addP (a.p.map fv) b.p)).length≤1000:=by rw[zam,zbw (by simp[f2])];simp;omega
   have so:=zjy (T:=T) (sumG a b) ly lp
   have ss:=zfu (T:=T) (sumG a b) (by show sz (fv a.t+fv b.t)≤_;omega) ly lp (fun u hu=>Nat.le_trans (zok (by decide) w3 w5 u hu) (by decide)) (fun u hu=>Nat.le_trans (zok (by decide) w4 w6 u hu) (by decide))
   unfold sumG at ad so ss
   generalize fz (fv a.t+fv b.t)=Z at *
   generalize fzs (addP (a.y.map fv) b.y)=Y at *
   generalize fzs (addP (a.p.map fv) b.p)=W at *
   generalize fz (fv a.t)=X1 at *
   generalize fz (fv b.t)=X2 at *
   generalize nrm a.y=X3 at *
   generalize nrm a.p=X4 at *
   generalize nrm b.y=X5 at *
   generalize nrm b.p=X6 at *
   generalize zeroG n0 n1=G at *
   generalize zeroG 0 0=G0 at *
   clear w3 w4 w5 w6 pa pb up qz h1 h2 h3 h4 h5 h6 s1 s2 z3 ly lp
   obtain⟨⟨x0,x1,x2⟩,xy,xp⟩:=a
   obtain⟨⟨y0,y1,y2⟩,yy,yp⟩:=b
   obtain⟨⟨o0,o1,o2⟩,oy,op⟩:=G
   obtain⟨⟨u0,u1,u2⟩,uy,up⟩:=G0
   obtain⟨z0,z1,z2⟩:=Z
   dsimp only at *
   rw[f374 _ rfl,b374]
   simp -implicitDefEqProofs[cw,l1,l2,l3,l4,l5,l6,t1,t2,ad,pz,rz,rz0,zo,zs,zo0,zs0,f1,f2,f1',f2',r1,r2,r3,n3,n4,n5,n6,a1,a2,so,ss]
  ·rw[if_neg hf]at ad
   generalize zeroG n0 n1=G at *
   generalize zeroG 0 0=G0 at *
   clear w3 w4 w5 w6 pa pb up h1 h2 h3 h4 h5 h6
   obtain⟨⟨x0,x1,x2⟩,xy,xp⟩:=a
   obtain⟨⟨y0,y1,y2⟩,yy,yp⟩:=b
   obtain⟨⟨o0,o1,o2⟩,oy,op⟩:=G
   obtain⟨⟨u0,u1,u2⟩,uy,up⟩:=G0
   dsimp only at *
   rw[f374 _ rfl,b374]
   by_cases f1:yy.length=xy.length
   ·have f2:¬ yp.length=xp.length:=fun h=>hf ⟨f1,h⟩
    have f1':(xy.length:Int)=yy.length:=by omega
    have f2':¬ (xp.length:Int)=yp.length:=by omega
    simp -implicitDefEqProofs[cw,l1,l2,l3,l4,l5,l6,t1,t2,ad,pz,rz,rz0,zo,zs,zo0,zs0,f1',f2']
   ·have f1':¬ (xy.length:Int)=yy.length:=by omega
    simp -implicitDefEqProofs[cw,l1,l2,l3,l4,l5,l6,t1,t2,ad,pz,rz,rz0,zo,zs,zo0,zs0,f1']
end
end Go.Ab