/-
  A calculus of values, boxes and code, and what functions of the program compute, proved in it.
  Conditions: none beyond those that the theorems state. (Part 5.)
-/
import Derived.Test.YthhddiiohgfamaaGreatDoorPart4

set_option linter.unusedSectionVars false
set_option linter.unusedVariables false
set_option linter.unusedSimpArgs false
set_option linter.unnecessarySimpa false
set_option linter.defProp false

namespace Go.Ab
section
def b248:AX:=
 (.seq
 (.reg [rg 1 (.xop (.box 3) [(.t 0)]),rg 2 (.alloc [(.b false),(.sl [] .nl),(.sl [] .nl)])])
 (.seq
 (.reg [rg 3 (.fad 0 (.t 1)),rg 4 (.load none (.t 3)),rg 5 (.fad 1 (.t 1)),rg 6 (.load none (.t 5)),rg 7 (.build [(.b false),(.sl [] .nl)] [(0,1,(.t 4)),(1,1,(.t 6))]),rg 8 (.fad 2 (.t 1)),rg 9 (.load none (.t 8)),rg 10 (.build [(.b false),(.sl [] .nl),(.sl [] .nl)] [(0,2,(.t 7)),(2,1,(.t 9))]),so (.store 3 (.t 2) (.t 10))])
 (.pre (.norm false [2]) .ret)))
abbrev row248:AFx:=⟨1,11,[.cell 2 (some 3)],b248,none,false⟩
class Zdm (T:Tbl):Prop where
 h248:Tr T 248=some row248
attribute [simp] Zdm.h248
end
section
def l287_0:AX:=
 (.note
 (.seq
 (.seq
 (.reg [mv 5 4,mv 6 0,rg 7 (.len (.t 6)),rg 8 (.bin .lss (.t 5) (.t 7))])
 (.cond (.t 8)
 .skip
 (.exit 0)))
 (.seq
 (.block 1
 (.reg [mv 11 3,mv 12 0,mv 13 4,rg 14 (.iad 3 (.t 12) (.t 13)),rg 15 (.load (some 3) (.t 14)),rg 16 (.call 248 [(.t 15)]),rg 17 (.bsl 3 [(.b false),(.sl [] .nl),(.sl [] .nl)] 1 [(0,(.t 16))]),rg 18 (.app 3 (.t 11) (.t 17)),mv 3 18]))
 (.reg [mv 9 4,rg 10 (.bin .add (.t 9) (.c (.i .i64 1))),mv 4 10])))
 (.norm false [0,3,4]))
def b287:AX:=
 (.seq
 (.reg [rg 2 (.mov (.c (.sl [] .nl)))])
 (.seq
 (.note (.reg [rg 3 (.mov (.c (.sl [] .nl)))]) (.nil 3 3))
 (.seq
 (.seq
 (.reg [rg 4 (.mov (.c (.i .i64 0)))])
 (.lp 0 (.norm false [0,3,4]) l287_0 (.norm false [3])))
 (.seq
 (.reg [mv 19 3,mv 2 19])
 (.pre (.norm false [2]) .ret)))))
abbrev row287:AFx:=⟨1,20,[.t 2],b287,none,false⟩
class Zdn (T:Tbl):Prop where
 h287:Tr T 287=some row287
attribute [simp] Zdn.h287
end
def zmi{m:List (List Fz)}{n:Nat}(h:m.length=n)(r:List Fz):wkL (Z4 (List.take n m)++[[.sl (Zc r) .an]])=Z4 (m++[r]):=by
 rw[Yb (by omega),zwj,zwi]
def zmj{α:Type}(l:List α){i:Nat}(h:i<l.length):l.take (i+1)=l.take i++[l[i]'h]:=Y5 h
section
variable{T:Tbl}[Za2 T][Za3 T][Zas T][Za4 T][Zbq T][Zbz T][Zbj T][Zbk T][Zdm T][Zdn T]
def zem(x:Fz):Zb T 248 [efz x]=some (efz x):=by
 rw[zaa Zdm.h248 rfl,b248];simp -implicitDefEqProofs
def Zg4(l:List Fz)(i:Nat):St:=⟨[(0,.sl (Zc l) .an),(3,.bs (.loc 3) 1 3 0 i),(4,.i .i64 i)],[((.loc 3),⟨1,.own,3,Zc (l.take i)⟩)],3⟩
def zu7(l:List Fz)(hl:l.length<=2513169434915) :
  Zu T 0 0 (.norm false [3]) l287_0 (Zg4 l 0)=some (.n,⟨[(3,.bs (.loc 3) 1 3 0 (l.length))],[((.loc 3),⟨1,.own,3,Zc (l.take (l.length))⟩)],3⟩):=by
 refine za3 (Zg4 l) (l.length) _ (fun i hi=>?_) ?_
 ·have hws:IntKind.wrap .i64 ((i:Int)+1)=((i+1:Nat):Int):=zab _ (by omega);have hb:i<=2513169434915:=by omega
  have hb1:i+1<=2513169434916:=by omega
  have hg:l[i]? = some (l[i]'hi):=Ya hi;have hn:=zem (T:=T) (l[i]'hi);have e:=zmj l hi;have hml:(l.take i).length=i:=by simp;omega
  have hp:=zc5 hml (l[i]'hi);unfold Zg4;rw[e];clear e;generalize l.take i=M at *
  simp -implicitDefEqProofs[l287_0,hi,hws,hb,hb1,hp,hml,hg,hn]
 ·unfold Zg4;rw[Yb (Yi _)];constructor<;>simp -implicitDefEqProofs[l287_0]
def zpw(l:List Fz)(hl:l.length<=2513169434915):Zb T 287 [.sl (Zc l) .an]=some (.sl (Zc l) .an):=by
 have h:=zu7 (T:=T) l hl;unfold Zg4 at h;rw[Ycf,Yb (Yi _)]at h;simp only[zeo,Y8]at h;have ht:List.take l.length l=l:=Yb (Yi _);rw[zaa Zdn.h287 rfl,b287];simp -implicitDefEqProofs[h,ht]
def Zni(l:List Fz)(i:Nat):St:=⟨[(0,.sl (Zc l) .an),(3,.bs (.loc 3) 1 3 0 i),(4,.i .i64 i)],[((.loc 3),⟨1,.own,3,Zc (l.take i)⟩)],3⟩
end
def Zly:List (List Fz)->Nat
 | []=>0
 | r::_=>r.length
def Zne(m:List (List Fz)):Bool:=m.all fun r=>decide (r.length=Zly m)
def Zmh(m:List (List Fz))(j:Nat):List Fz:=m.map fun r=>r.getD j (false,[],[])
def Zmi(m:List (List Fz))(k:Nat):List (List Fz):=(List.range k).map fun j=>nrm (Zmh m j)
def scM(r:List Fz)(m:List (List Fz)):List (List Fz):=List.zipWith (fun x row=>scl (fv x) row) r m
def Znf:List (List Fz)->List Rat
 | []=>[]
 | r::m=>m.foldl Zld (r.map fv)
def Zmj(r:List Fz)(m:List (List Fz)):List Rat:=Znf (scM r m)
def Zlz(m:List (List Fz))(c:List Fz):List Rat:=m.map fun r=>Zir r c
section
variable{T:Tbl}[Zn T][Zw T][Zz T][Zr T][Zv T][Zat T][Zg T][Zm T][Zy T][Za5 T][Zb3 T][Zhh T]
def Zod(m:List (List Fz))(i:Nat):St:=⟨[(0,.sl (Z4 m) .an),(5,.sl (Z4 m) .an),(6,.i .i64 m.length),(7,.i .i64 i)],[],2⟩
def Zoe(a b:List (List Fz))(i:Nat):St:=⟨[(1,.sl (Z4 b) .an),(12,.sl (Z4 a) .an),(13,.i .i64 a.length),(14,.i .i64 i)],[],2⟩
def idQ(k:Nat)(i:Nat):List (List Fz):=(List.range i).map fun j=>fzs ((List.replicate k 0).set j 1)
def Zof(k:Nat)(i:Nat):St:=⟨[(0,.i .i64 k),(3,.bs (.loc 3) 1 1 0 i),(8,.i .i64 k),(9,.i .i64 i)],[((.loc 3),⟨1,.own,1,Z4 (idQ k i)⟩)],3⟩
def Zog(m R:List (List Fz))(k j:Nat)(i:Nat):St:=⟨[(0,.sl (Z4 m) .an),(3,.bs (.loc 3) 1 1 0 j),(4,.i .i64 j),(5,.bs (.loc 5) 2 3 0 i),(12,.i .i64 k),(13,.i .i64 j),(16,.sl (Z4 m) .an),(17,.i .i64 m.length),(18,.i .i64 i)],[(.loc 3,⟨1,.own,1,Z4 R⟩),((.loc 5),⟨2,.own,3,Zc (nrm (Zmh (m.take i) j))⟩)],4⟩
def Zm6(m:List (List Fz))(k:Nat)(i:Nat):St:=⟨[(0,.sl (Z4 m) .an),(3,.bs (.loc 3) 1 1 0 i),(12,.i .i64 k),(13,.i .i64 i)],[((.loc 3),⟨1,.own,1,Z4 (Zmi m i)⟩)],3⟩
end
section
variable{T:Tbl}[Zn T][Zw T][Zz T][Zr T][Zv T][Zat T][Zg T][Zm T][Zy T][Za5 T][Zb3 T][Zhh T]
def Zoh(r:List Fz)(m:List (List Fz))(i:Nat):St:=⟨[(0,.sl (Zc r) .an),(6,.bs (.loc 6) 1 1 0 i),(19,.sl (Z4 m) .an),(20,.i .i64 m.length),(21,.i .i64 i)],[((.loc 6),⟨1,.own,1,Z4 (scM (r.take i) (m.take i))⟩)],3⟩
def Zoi(m:List (List Fz))(c:List Fz)(i:Nat):St:=⟨[(1,.sl (Zc c) .an),(6,.bs (.loc 6) 1 3 0 i),(21,.sl (Z4 m) .an),(22,.i .i64 m.length),(23,.i .i64 i)],[((.loc 6),⟨1,.own,3,Zc (fzs (Zlz (m.take i) c))⟩)],3⟩
def Zng(a b:List (List Fz)):List (List Fz):=a.map fun r=>fzs (Zmj r b)
def Zoj(a m:List (List Fz))(i:Nat):St:=⟨[(1,.sl (Z4 m) .an),(6,.bs (.loc 6) 1 1 0 i),(26,.sl (Z4 a) .an),(27,.i .i64 a.length),(28,.i .i64 i)],[((.loc 6),⟨1,.own,1,Z4 (Zng (a.take i) m)⟩)],3⟩
def Znh(a b:List (List Fz)):List (List Fz):=List.zipWith (fun r s=>fzs (Zld (r.map fv) s)) a b
def Zok(a m:List (List Fz))(i:Nat):St:=⟨[(1,.sl (Z4 m) .an),(6,.bs (.loc 6) 1 1 0 i),(33,.sl (Z4 a) .an),(34,.i .i64 a.length),(35,.i .i64 i)],[((.loc 6),⟨1,.own,1,Z4 (Znh (a.take i) (m.take i))⟩)],3⟩
end
def Zmu:List Rat->List Rat->Rat
 | x::a,y::b=>x*y+Zmu a b
 | _,_=>0
def Zn6(m:List (List Fz)):List (List Rat):=m.map fun r=>r.map fv
def fzM(L:List (List Rat)):List (List Fz):=L.map fzs
def Zkt:List (List Rat)->Nat
 | []=>0
 | r::_=>r.length
def Zn7(L:List (List Rat)):Bool:=L.all fun r=>decide (r.length=Zkt L)
def Zl3(L:List (List Rat))(j:Nat):List Rat:=L.map fun p=>p.getD j 0
def Zmv(L:List (List Rat)):List (List Rat):=(List.range (Zkt L)).map (Zl3 L)
def Zku(L:List (List Rat))(c:List Rat):List Rat:=L.map fun p=>Zmu p c
def Zpc(r:List Rat)(L:List (List Rat)):List Rat:=Zku (Zmv L) r
def Zme(q:Rat):Rat:=if q<0 then -q else q
def Zmm(p:List (Fz×List Fz))(acc:List Rat):List Rat:=p.foldl (fun a q=>Znx (fv q.1) a q.2) acc
section
variable{T:Tbl}[Zn T][Zw T][Zz T][Zr T][Zv T][Zat T][Zg T][Zm T][Zy T][Za5 T][Zb3 T]
def Zpo(C:List Fz)(k j n:Nat)(l:List (List Fz))(r:List Fz)(L acc:List Rat)(i:Nat):St:=
 ⟨[(0,.sl (Zc C) .an),(10,.bs (.fld (.loc 40) 9) 1 3 0 n),(11,.i .i64 k),(41,.sl (Z4 l) .an),(42,.i .i64 j),(43,.i .i64 k),(54,.sl (Zc r) .an),(55,.i .i64 n),(56,.i .i64 i)],
  [(.fld (.loc 40) 9,⟨1,.own,3,Zc (fzs (L.take i++acc.drop i))⟩)],3⟩
def Zpp(C:List Fz)(n:Nat)(l:List (List Fz))(acc:List Rat)(k:Nat):St:=
 ⟨[(0,.sl (Zc C) .an),(10,.bs (.fld (.loc 40) 9) 1 3 0 n),(41,.sl (Z4 l) .an),(42,.i .i64 l.length),(43,.i .i64 k)],[(.fld (.loc 40) 9,⟨1,.own,3,Zc (fzs (Zmm ((C.zip l).take k) acc))⟩)],3⟩
def Zpq(C:List Fz)(l:List (List Fz))(n i:Nat):St:=⟨[(0,.sl (Zc C) .an),(1,.sl (Z4 l) .an),(2,.i .i64 n),(28,.sl (Z4 l) .an),(29,.i .i64 l.length),(30,.i .i64 i)],[],2⟩
end
def Zmz(c:Rat)(l:List Rat):List Rat:=l.map fun x=>c*x
def Zn8(a b:List Rat):List Rat:=List.zipWith (· + ·) a b
def Zlf(b x:Rat):Rat:=if b<Zme x then Zme x else b
def Zlq(l:List Rat):Rat:=l.foldl Zlf 0
def Zn9:List (Rat×List Rat)->List Rat->List Rat
 | [],acc=>acc
 | p::l,acc=>Zn9 l (Zn8 acc (Zmz p.1 p.2))
def sqC:List UInt32->Nat
 | []=>0
 | x::r=>4294967296*(x.toNat*val r)+4294967296*4294967296*sqC r
def sqD:List UInt32->Nat
 | []=>0
 | x::r=>x.toNat*x.toNat+4294967296*4294967296*sqD r
theorem zzi:∀a:List UInt32,2*sqC a+sqD a=val a*val a
 | []=>rfl
 | x::r=>by
  have ih:=zzi r;simp only[sqC,sqD,zan]
  grind
def zmr(i:Nat):4294967296^(2*i+2)=4294967296^(2*i)*(4294967296*4294967296):=by
 rw[Yb2]
def zms{x L:Nat}(h:(ofN x).length<=L):(ofN (x*2^1)).length<=L+1:=by
 refine zaj ?_;have h1:=zay (ofN x);rw[zad]at h1;have h2:4294967296^(ofN x).length<=4294967296^L:=Yt (by decide) h;omega
section
variable{T:Tbl}[Zaf T][Zn T][Zw T][Zz T][Zcj T]
def zp3(a:List UInt32)(ha:a.length<=1000000):Zb T 356 [.sl (Za a) .an]=some (.i .i64 (Zab (val a))):=by
 have h1:=za7 (T:=T) a (by omega);have hl:=zac a;have hv:val (ofN (val a))=val a:=zad _;rw[zaa Zcj.h356 rfl,b356];by_cases h0:val a=0
 ·have e:ofN (val a)=[]:=za4.2 h0;have eb:Zab (val a)=0:=by rw[h0];rfl
  rw[e]at h1;rw[eb];simp -implicitDefEqProofs[h1]
 ·have hne:ofN (val a)≠[]:=fun h=>h0 (za4.1 h);obtain⟨B,x,hB⟩:∃B x,ofN (val a)=B++[x]:=⟨_,_,(Ycg hne).symm⟩;have hx0:x.toNat≠0:=by
   intro hx;have e1:val (ofN (val a))=val B:=by
    rw[hB,zai];simp[hx]
   have e2:ofN (val B)=ofN (val a):=by rw[<-e1,zad]
   have e3:=zac B;rw[e2,hB]at e3;simp at e3;omega
  have hlog:Zab (val a)=32*B.length+Zab x.toNat:=by
   have hdiv:val a/2^(32*B.length)=x.toNat:=by
    have e1:val a=val B+4294967296^B.length*x.toNat:=by
     rw[<-hv,hB,zai];simp
    have e2:2^(32*B.length)=4294967296^B.length:=by
     rw[Yc7]
    have e3:=zay B;rw[e2,e1,Ydi _ _ (by omega),Ybs e3,Yar]
   have:=zji (n:=val a) (s:=32*B.length) (by rw[hdiv];exact hx0);rw[hdiv]at this;exact this
  have hbl:B.length+1<=1000000:=by
   have:=congrArg List.length hB;simp at this;omega
  have hL:=zpz (T:=T) x;have hb32:Zab x.toNat<=32:=by
   have hx:=zal x;unfold Zab;split
   ·omega
   ·have:=(Yek (n:=x.toNat) (k:=32) (by assumption)).2 (by omega);omega
  rw[hB]at h1;rw[hlog];have w2:IntKind.wrap .i64 (32*(B.length:Int))=32*(B.length:Int):=zab _ (by omega);have w3:IntKind.wrap .i64 (32*(B.length:Int)+(Zab x.toNat:Int))=32*(B.length:Int)+(Zab x.toNat:Int):=zab _ (by omega);have w4:IntKind.wrap .i64 (B.length:Int)=B.length:=zab _ (by omega);have n1:¬ (B.length:Int)+1=0:=by omega
  have n2:(B.length:Int)<(B.length:Int)+1:=by omega
  simp -implicitDefEqProofs[h1,hL,w2,w3,w4,n1,n2]
def Zi8(a X:List UInt32)(i:Nat):St:=
 ⟨[(0,.sl (Za a) .an),(3,.bs (.loc 14) 1 1 0 (2*a.length+1)),(15,.sl (Za a) .an),(16,.i .i64 a.length),(17,.i .i64 i)],[(.loc 14,⟨1,.own,1,Za (X++List.replicate (a.length+1-i) 0)⟩)],3⟩
def zx8(a:List UInt32)(ha:a.length<=100000):∀y:Nat×List UInt32,
  (y.1<=a.length/\y.2.length=a.length+y.1/\val y.2+4294967296^(2*y.1)*sqC (a.drop y.1)=sqC a) ->
  ∃r,(∃out:List UInt32,r=(Ex.n,(⟨[(0,.sl (Za a) .an),(3,.bs (.loc 14) 1 1 0 (2*a.length+1))],[(.loc 14,⟨1,.own,1,Za out⟩)],3⟩:St))/\out.length=2*a.length+1/\val out=sqC a) /\
   Zu T 0 0 (.norm false [0,3]) l357_0 (Zi8 a y.2 y.1)=some r:=by
 refine za6 _ _ (fun y=>a.length-y.1) _ ?_
 rintro⟨i,X⟩ ⟨hi,hX,hv⟩
 simp only at hi hX hv;by_cases h0:i<a.length
 ·left;have hw:IntKind.wrap .i64 ((i:Int)+1)=((i+1:Nat):Int):=zab _ (by omega);have hw2:IntKind.wrap .i64 (2*(i:Int))=2*(i:Int):=zab _ (by omega);have hw3:IntKind.wrap .i64 (2*(i:Int)+1)=((2*i+1:Nat):Int):=zab _ (by omega);have hdl:(a.drop (i+1)).length=a.length-(i+1):=Ybp;obtain⟨m,hm1,hm2,hc⟩:=zkk (T:=T) (X.take (2*i+1)) (X.drop (2*i+1)++List.replicate (a.length+1-i) 0) (a.drop (i+1)) (a[i]'h0).toNat 0 (zal _) (by decide) (by simp;omega) (by simp;omega);have e1:X.take (2*i+1)++(X.drop (2*i+1)++List.replicate (a.length+1-i) 0)=X++List.replicate (a.length+1-i) 0:=by rw[<-Ybc,Yau]
  have e2:(X.take (2*i+1)).length=2*i+1:=by simp;omega
  have e3:(X.drop (2*i+1)++List.replicate (a.length+1-i) 0).length=2*a.length+1-(2*i+1):=by simp;omega
  have e4:2*i+1+(2*a.length+1-(2*i+1))=2*a.length+1:=by omega
  have e5:(X.drop (2*i+1)++List.replicate (a.length+1-i) 0).drop ((a.drop (i+1)).length+1)=List.replicate (a.length+1-(i+1)) 0:=by
   rw[Yd3,Ya9 (by simp;omega),List.drop_replicate];simp only[Ybn,Ybp];congr 1;omega
  have e6:(X.drop (2*i+1)++List.replicate (a.length+1-i) 0).take (a.drop (i+1)).length=X.drop (2*i+1):=by
   rw[Ybt (by simp;omega),Yb (by simp;omega)]
  rw[e1,e2,e3,e4,e5]at hc;refine⟨(i+1,X.take (2*i+1)++m),⟨h0,by simp only[Yq,e2,hm1];omega,?_⟩,by omega,?_⟩
  ·simp only;have e7:=zai (X.take (2*i+1)) (X.drop (2*i+1));rw[Yau,e2]at e7;rw[Yp h0]at hv;simp only[sqC]at hv;rw[zai,e2,hm2];have p1:4294967296^(2*i+1)=4294967296^(2*i)*4294967296:=Yac ..;have p2:4294967296^(2*(i+1))=4294967296^(2*i)*(4294967296*4294967296):=zmr i;rw[p1]at e7 ⊢;rw[p2,<-hv,e7];generalize 4294967296^(2*i)=q;generalize val (a.drop (i+1))=v;generalize sqC (a.drop (i+1))=w;generalize (4294967296:Nat)=p
   grind
  ·have hle:(i:Int)+1<=a.length:=by omega
   have hm3:((2*i+1:Nat):Int)=2*(i:Int)+1:=by omega
   rw[hm3]at hc hw3;simp -implicitDefEqProofs[l357_0,Zi8,h0,hw,hw2,hw3,hc,hle]
 ·right;have:i=a.length:=by omega
  subst this;refine⟨_,⟨X++List.replicate (a.length+1-a.length) 0,rfl,by simp;omega,by rw[zai,za8];simp[sqC]at hv;simp[hv]⟩,?_,?_⟩<;>simp -implicitDefEqProofs[l357_0,Zi8]
def Zi9(a X:List UInt32)(U:List (List AV))(i:Nat):St:=
 ⟨[(6,.sl U .an),(7,.bs (.loc 38) 1 1 0 (2*a.length)),(39,.sl (Za a) .an),(40,.i .i64 a.length),(41,.i .i64 i)],[(.loc 38,⟨1,.own,1,Za (X++List.replicate (2*a.length-2*i) 0)⟩)],3⟩
def zx9(a:List UInt32)(U:List (List AV))(hU:wkL U=U)(ha:a.length<=100000):∀y:Nat×List UInt32,
  (y.1<=a.length/\y.2.length=2*y.1/\val y.2+4294967296^(2*y.1)*sqD (a.drop y.1)=sqD a) ->
  ∃r,(∃out:List UInt32,r=(Ex.n,(⟨[(6,.sl U .an),(7,.bs (.loc 38) 1 1 0 (2*a.length))],[(.loc 38,⟨1,.own,1,Za out⟩)],3⟩:St))/\out.length=2*a.length/\val out=sqD a) /\
   Zu T 0 2 (.norm false [6,7]) l357_1 (Zi9 a y.2 U y.1)=some r:=by
 refine za6 _ _ (fun y=>a.length-y.1) _ ?_
 rintro⟨i,X⟩ ⟨hi,hX,hv⟩
 simp only at hi hX hv;by_cases h0:i<a.length
 ·left;have hm:=zpx (T:=T) (a[i]'h0) (a[i]'h0) 0 0;obtain⟨hi_,hhi⟩:∃h:UInt32,h=w32 (((a[i]'h0).toNat*(a[i]'h0).toNat+(0:UInt32).toNat+(0:UInt32).toNat)/4294967296):=⟨_,rfl⟩;obtain⟨lo_,hlo⟩:∃h:UInt32,h=w32 ((a[i]'h0).toNat*(a[i]'h0).toNat+(0:UInt32).toNat+(0:UInt32).toNat):=⟨_,rfl⟩;rw[<-hhi,<-hlo]at hm;have hx:=zal (a[i]'h0);have hval:lo_.toNat+4294967296*hi_.toNat=(a[i]'h0).toNat*(a[i]'h0).toNat:=by
   have hlt:=zh1 hx hx;have e0:(0:UInt32).toNat=0:=rfl;rw[hlo,hhi,za9,za9,e0];omega
  have hw:IntKind.wrap .i64 ((i:Int)+1)=((i+1:Nat):Int):=zab _ (by omega);have hw2:IntKind.wrap .i64 (2*(i:Int))=2*(i:Int):=zab _ (by omega);have hw3:IntKind.wrap .i64 (2*(i:Int)+1)=2*(i:Int)+1:=zab _ (by omega);have e1:(X++List.replicate (2*a.length-2*i) (0:UInt32))=X++0::0::List.replicate (2*a.length-2*(i+1)) 0:=by
   rw[show 2*a.length-2*i=(2*a.length-2*(i+1))+1+1 by omega,Yba,Yba]
  have e2:((X++0::0::List.replicate (2*a.length-2*(i+1)) (0:UInt32)).set (2*i+1) hi_).set (2*i) lo_=X++[lo_,hi_]++List.replicate (2*a.length-2*(i+1)) 0:=by
   rw[Yai _ _ (by omega),Yai _ _ (by omega),hX,Ybe,show 2*i+1-2*i=1 by omega];simp
  refine⟨(i+1,X++[lo_,hi_]),⟨h0,by simp;omega,?_⟩,by omega,?_⟩
  ·simp only;rw[Yp h0]at hv;simp only[sqD]at hv;rw[zai,hX];simp only[zan,zbx,Ya0,Yaa];have p2:4294967296^(2*(i+1))=4294967296^(2*i)*(4294967296*4294967296):=zmr i;rw[p2,<-hv,<-hval];generalize 4294967296^(2*i)=q;generalize sqD (a.drop (i+1))=w;generalize (4294967296:Nat)=p
   grind
  ·unfold Zi9;rw[e1,<-e2];have hl:(X++0::0::List.replicate (2*a.length-2*(i+1)) (0:UInt32)).length=2*a.length:=by simp;omega
   generalize (X++0::0::List.replicate (2*a.length-2*(i+1)) (0:UInt32))=B at *
   have s1:(Za B).set (2*i+1) [u32 hi_.toNat]=Za (B.set (2*i+1) hi_):=by simp[Za,Yec]
   have s2:(Za (B.set (2*i+1) hi_)).set (2*i) [u32 lo_.toNat]=Za ((B.set (2*i+1) hi_).set (2*i) lo_):=by simp[Za,Yec]
   have b1:2*i+1<2*a.length:=by omega
   have b2:2*i<2*a.length:=by omega
   have b3:2*(i:Int)+1<2*(a.length:Int):=by omega
   have b5:(0:Int)<=2*(i:Int)+1:=by omega
   have b6:(0:Int)<=2*(i:Int):=by omega
   have b7:(2*(i:Int)+1).toNat=2*i+1:=by omega
   have b8:(2*(i:Int)).toNat=2*i:=by omega
   have z0:(0:UInt32).toNat=0:=rfl;rw[z0]at hm;have hl2:((B.set (2*i+1) hi_)).length=2*a.length:=by simp[hl]
   simp -implicitDefEqProofs[l357_1,h0,hw,hw2,hw3,hm,hl,s1,s2,b1,b2,b3,b5,b6,b7,b8,hl2,hU]
 ·right;have:i=a.length:=by omega
  subst this;refine⟨_,⟨X++List.replicate (2*a.length-2*a.length) 0,rfl,by simp;omega,by simp[sqD]at hv;simp[hv]⟩,?_,?_⟩<;>simp -implicitDefEqProofs[l357_1,Zi9,hU]
def zoj(a:List UInt32)(ha:a.length<=4000):Zb T 357 [.sl (Za a) .an]=some (.sl (Za (ofN (val a*val a))) .an):=by
 obtain⟨_,⟨out,rfl,ho,hv⟩,hr⟩:=zx8 (T:=T) a (by omega) (0,List.replicate a.length 0) ⟨Y4 _,by simp,by simp[za8]⟩;unfold Zi8 at hr;have hup:=z1t (T:=T) out 1 (by decide) (by omega);rw[Yeg]at hup;have hupl:(ofN (val out*2^1)).length<=10000:=by
  have h1:=zac out;have h2:=zms (x:=val out) (L:=out.length) (by omega);omega
 obtain⟨_,⟨dg,rfl,hd,hdv⟩,hr2⟩:=zx9 (T:=T) a (Za (ofN (val out*2^1))) (by simp) (by omega) (0,[]) ⟨Y4 _,rfl,by simp⟩;unfold Zi9 at hr2;have hn:=zvj (T:=T) [ofN (val out*2^1),dg] (by simp) (by
  intro x hx;simp only[Yn,Yay,or_false]at hx;rcases hx with rfl | rfl<;>omega)
 have e1:lls [ofN (val out*2^1),dg]=[[.sl (Za (ofN (val out*2^1))) .an],[.sl (Za dg) .an]]:=rfl;have e2:Zdo [ofN (val out*2^1),dg]=val a*val a:=by
  simp only[Zdo,Yx,Ybl,zad,Yel,List.sum_nil,hv,hdv];have:=zzi a;omega
 rw[e1,e2]at hn;simp only[Y8,Ybn,Ydc,Ya0]at hr hr2;have e3:List.replicate a.length (0:UInt32)++List.replicate (a.length+1) 0=List.replicate (2*a.length+1) 0:=by
  rw[Ycc];congr 1;omega
 rw[e3]at hr;have w1:IntKind.wrap .i64 (2*(a.length:Int))=2*(a.length:Int):=zab _ (by omega);have w2:IntKind.wrap .i64 (2*(a.length:Int)+1)=2*(a.length:Int)+1:=zab _ (by omega);have n1:(0:Int)<=2*(a.length:Int)+1:=by omega
 have n2:2*(a.length:Int)+1<=4294967296:=by omega
 have n3:(0:Int)<=2*(a.length:Int):=by omega
 have n4:2*(a.length:Int)<=4294967296:=by omega
 have n5:(2*(a.length:Int)+1).toNat=2*a.length+1:=by omega
 have n6:(2*(a.length:Int)).toNat=2*a.length:=by omega
 have t1:List.take (2*a.length+1) out=out:=Yb (by omega);have t2:List.take (2*a.length) dg=dg:=Yb (by omega);rw[zaa Zcj.h357 rfl,b357];simp -implicitDefEqProofs[w1,w2,n1,n2,n3,n4,n5,n6,hr,ho,t1,hup,hr2,hd,t2,hn]
end
def z1l(e m:Nat)(hm:m<=63):Z5 .shr (.i .i64 (e:Int)) (.i .i64 (m:Int))=some (.i .i64 ((e/2^m:Nat):Int)):=by
 have h1:¬ (m:Int)<0:=by omega
 have h2:min m 64=m:=by omega
 simp only[Z5,IntKind.bits,h1,if_false,Yc6,h2];rw[Int.fdiv_eq_ediv_of_nonneg _ (Int.le_of_lt (Int.pow_pos (by decide)))]
 norm_cast
def z1m(k:Nat)(hk:k<9223372036854775808):Z5 .and (.i .i64 (k:Int)) (.i .i64 1)=some (.i .i64 ((k%2:Nat):Int)):=by
 show some (AV.i .i64 (IntKind.wrap .i64 ((BitVec.ofInt 64 (k:Int) &&& BitVec.ofInt 64 1).toNat:Int)))=_;have h1:(BitVec.ofInt 64 (k:Int)).toNat=k:=by
  rw[BitVec.ofInt_natCast,BitVec.toNat_ofNat];omega
 have h2:(BitVec.ofInt 64 1).toNat=1:=rfl;rw[BitVec.toNat_and,h1,h2,Nat.and_one_is_mod,zab _ (by omega)]
def zvr(e m:Nat):e/2^m=2*(e/2^(m+1))+e/2^m%2:=by
 rw[Yac,<-Yb3];omega
def zp4(x e:Nat)(h:e*Zab x<=65536):(ofN (x^e)).length<=2048:=by
 by_cases h1:x^e=0
 ·rw[h1];have:ofN 0=[]:=za4.2 rfl;rw[this]
  decide
 by_cases hx:x=0
 ·subst hx;cases e with
  | zero=>exact Yd (zaj (k:=1) (by decide)) (by decide)
  | succ e=>simp at h1
 ·refine zaj ?_;generalize hk:(2048:Nat)=k;have h2:x<2^Zab x:=by
   unfold Zab;rw[if_neg hx];exact Ycw
  have h5:∀m,(2:Nat)^(32*m)=4294967296^m:=fun m=>by rw[Yc7]
  cases e with
  | zero=>exact Nat.one_lt_pow (by omega) (by decide)
  | succ e=>
   have h3:x^(e+1)<(2^Zab x)^(e+1):=Nat.pow_lt_pow_left h2 (by omega);rw[<-Yc7,Yaf]at h3;refine Ym h3 ?_;rw[<-h5];exact Yt (by decide) (by omega)
def zvs{e:Nat}(h:e<9223372036854775808):Zab e<=63:=by
 unfold Zab;split
 ·omega
 ·next h0=>
  have:=(Yek (n:=e) (k:=63) h0).2 h;omega
def zya(e:Nat):e/2^Zab e=0:=by
 unfold Zab;split
 ·next h=>simp[h]
 ·exact Ybs Ycw
section
variable{T:Tbl}[Zaf T][Zn T][Zw T][Zz T][Zcj T]
def zyb(a:List UInt32)(e:Nat)(ha:a.length<=3000)(he:e<9223372036854775808)(hb:e*Zab (val a)<=65536):∀b:Nat,b<=63 ->
  Zu T 0 0 (.norm false [7]) l258_0 ⟨[(0,.sl (Za a) .an),(1,.i .i64 e),(7,.sl (Za (ofN (val a^(e/2^b)))) .an),(8,.i .i64 ((b:Int)-1))],[],2⟩ =
   some (.n,⟨[(7,.sl (Za (ofN (val a^e))) .an)],[],2⟩):=by
 refine za0 (fun b:Nat=>⟨[(0,.sl (Za a) .an),(1,.i .i64 e),(7,.sl (Za (ofN (val a^(e/2^b)))) .an),(8,.i .i64 ((b:Int)-1))],[],2⟩) (fun b=>b<=63) (fun b=>b) (fun _=>_) ?_;intro b hb63;cases b with
 | zero=>
  right;rw[Yef,Nat.div_one];constructor<;>simp -implicitDefEqProofs[l258_0]
 | succ m=>
  left;have hs:=zvr e m;have hmul:∀k,k<=e->k*Zab (val a)<=65536:=fun k hk=>Yd (Y2 _ hk) hb;have hd0:e/2^m<=e:=Yb1 _ _;have l1:=zp4 (val a) (e/2^(m+1)) (hmul _ (Yb1 _ _));have l2:=zp4 (val a) (2*(e/2^(m+1))) (hmul _ (by omega));have c1:=zoj (T:=T) (ofN (val a^(e/2^(m+1)))) (by omega);rw[zad,<-Yb2,<-Nat.two_mul]at c1;have c2:=zfm (T:=T) (ofN (val a^(2*(e/2^(m+1))))) a (by omega) (by omega);rw[zad,<-Nat.pow_add_one]at c2;have hsh:=z1l e m (by omega);have han:=z1m (e/2^m) (by omega);have w1:IntKind.wrap .i64 ((m:Int)-1)=(m:Int)-1:=zab _ (by omega);have p1:(0:Int)<=m:=by omega
  have e1:((m+1:Nat):Int)-1=m:=by omega
  refine⟨m,by omega,by simp,?_,rfl⟩;rcases Nat.mod_two_eq_zero_or_one (e/2^m) with h0 | h0
  ·rw[h0]at han hs;rw[Yaa]at hs;rw[<-hs]at c1;generalize e/2^m=q at *
   simp -implicitDefEqProofs[l258_0,p1,c1,hsh,han,w1]
  ·rw[h0]at han hs;rw[<-hs]at c2;generalize e/2^m=q at *
   simp -implicitDefEqProofs[l258_0,p1,c1,c2,hsh,han,w1]
def zyc(a:List UInt32)(e:Nat)(ha:a.length<=3000)(h2:2<=Zab (val a))(hb:e<=65536/Zab (val a)) :
  Zb T 258 [.sl (Za a) .an,.i .i64 e]=some (.tup [.sl (Za (ofN (val a^e))) .an,.b true]):=by
 have hmul:e*Zab (val a)<=65536:=Yd (Y2 _ hb) (Nat.div_mul_le_self _ _);have he:e<=65536:=Yd hb (Yb1 _ _);have c1:=zp3 (T:=T) a (by omega);have c2:=zd6 (T:=T) 1 (by decide);have c3:=zd6 (T:=T) e (by omega);have c4:=zp3 (T:=T) (ofN e) (by
  have:=zaj (n:=e) (k:=1) (by omega);omega)
 rw[zad]at c4;have hl:=zyb (T:=T) a e ha (by omega) hmul (Zab e) (zvs (by omega));rw[zya,Yef]at hl;have hbe:=zvs (e:=e) (by omega);have hq:((65536:Int)).tdiv (Zab (val a):Int)=((65536/Zab (val a):Nat):Int):=by
  rfl
 have hbl:65536/Zab (val a)<=65536:=Yb1 _ _;have w0:IntKind.wrap .i64 ((65536/Zab (val a):Nat):Int)=((65536/Zab (val a):Nat):Int):=zab _ (by omega);have w1:IntKind.wrap .i64 ((Zab e:Int)-1)=(Zab e:Int)-1:=zab _ (by omega);have q1:¬ (e:Int)<0:=by omega
 have q2:(1:Int)<(Zab (val a):Int):=by omega
 have q3:¬ ((65536/Zab (val a):Nat):Int)<(e:Int):=by omega
 have q4:¬ (Zab (val a):Int)<2:=by omega
 have q5':¬ Zab (val a)=0:=by omega
 have qm:((e:Int)%18446744073709551616).toNat=e:=by omega
 rw[zaa Zcj.h258 rfl,b258];generalize 65536/Zab (val a)=Q at *
 simp -implicitDefEqProofs[c1,c2,c3,c4,hl,hq,w0,w1,q1,q2,q3,q4,q5',qm]
end
class Zhx (T:Tbl):Prop where
class Zg2 (T:Tbl):Prop where
section
variable{T:Tbl}[Za2 T][Za3 T][Zas T][Za4 T][Zbq T][Zbz T][Zbj T][Zbk T][Zg2 T]
def Zov(m:List (List Fz))(i:Nat):St:=⟨[(0,.sl (Z4 m) .an),(3,.i .i64 i)],[],2⟩
def Zow(m:List (List Fz))(i:Nat):St:=⟨[(0,.sl (Z4 m) .an),(3,.bs (.loc 3) 1 1 0 i),(4,.i .i64 i)],[((.loc 3),⟨1,.own,1,Z4 (fzM (Zn6 (m.take i)))⟩)],3⟩
def Zox(a b:List (List Fz))(i:Nat):St:=⟨[(0,.sl (Z4 a) .an),(1,.sl (Z4 b) .an),(5,.i .i64 i)],[],2⟩
def Zoy(n:Int)(k:Nat)(i:Nat):St:=⟨[(0,.i .i64 n),(3,.bs (.loc 3) 1 1 0 i),(4,.i .i64 i)],[((.loc 3),⟨1,.own,1,Z4 (idQ k i)⟩)],3⟩
def Zns(L:List (List Rat))(R:List (List Fz))(j:Nat)(i:Nat):St:=⟨[(0,.sl (Z4 (fzM L)) .an),(3,.bs (.loc 3) 1 1 0 j),(4,.i .i64 j),(5,.bs (.loc 5) 2 3 0 i),(6,.i .i64 i)],[(.loc 3,⟨1,.own,1,Z4 R⟩),((.loc 5),⟨2,.own,3,Zc (fzs (Zl3 (L.take i) j))⟩)],4⟩
def Znt(L:List (List Rat))(i:Nat):St:=⟨[(0,.sl (Z4 (fzM L)) .an),(3,.bs (.loc 3) 1 1 0 i),(4,.i .i64 i)],[((.loc 3),⟨1,.own,1,Z4 (fzM ((List.range i).map (Zl3 L)))⟩)],3⟩
def Zoz(L:List (List Rat))(c:List Rat)(i:Nat):St:=⟨[(0,.sl (Z4 (fzM L)) .an),(1,.sl (Zc (fzs c)) .an),(5,.bs (.loc 5) 1 3 0 i),(6,.i .i64 i)],[((.loc 5),⟨1,.own,3,Zc (fzs (Zku (L.take i) c))⟩)],3⟩
def Zo0(m:List (List Fz))(many words:Nat):Bool:=decide (many<m.length) || m.any fun r=>Zbv r many words
def Zo1(m:List (List Fz))(many words:Nat)(i:Nat):St:=⟨[(0,.sl (Z4 m) .an),(1,.i .i64 many),(2,.i .i64 words),(7,.i .i64 i)],[],2⟩
end
section
variable{T:Tbl}[Zn T][Zw T][Zz T][Zr T][Zv T][Zat T][Zg T][Zm T][Zy T][Za5 T][Zb3 T][Zhh T][Za2 T][Za3 T][Zas T][Za4 T][Zbq T][Zbz T][Zbj T][Zbk T][Zg2 T][Zdm T][Zdn T][Zhx T]
def Znj(m:List (List Fz))(i:Nat):St:=⟨[(0,.sl (Z4 m) .an),(3,.bs (.loc 3) 1 1 0 i),(4,.i .i64 i)],[((.loc 3),⟨1,.own,1,Z4 (m.take i)⟩)],3⟩
def Znk(a b:List (List Fz))(i:Nat):St:=⟨[(0,.sl (Z4 a) .an),(1,.sl (Z4 b) .an),(5,.i .i64 i)],[],2⟩
end
class Zmc (T:Tbl):Prop where
def Zmn(l:List Rat):Nat->Nat
 | 0=>0
 | n+1=>if l.getD n 0=0 then Zmn l n else n+1
def Zor(l:List Rat):List Rat:=l.take (Zmn l l.length)
section
variable{T:Tbl}[Zn T][Zw T][Zz T][Zr T][Zv T][Zat T][Zg T][Zm T][Zy T][Za5 T][Zb3 T][Zmc T]
def Znn:List Rat->Rat->Rat
 | [],_=>0
 | a::l,x=>Znn l x*x+a
def dif(l:List Rat):List Rat:=(List.range (l.length-1)).map fun(i:Nat)=>(((i:Int)+1:Int):Rat)*l.getD (i+1) 0
def Zpr(l:List Fz)(i:Nat):St:=⟨[(0,.sl (Zc l) .an),(3,.bs (.loc 3) 1 3 0 i),(4,.i .i64 ((i:Int)+1))],[((.loc 3),⟨1,.own,3,Zc (fzs ((dif (l.map fv)).take i))⟩)],3⟩
end
def Zkn(x:Fz):Nat:=Zab (val x.2.1)+Zab (val x.2.2)
def Zmp(l:List Fz):Nat:=l.foldl (fun n x=>max n (Zkn x)) 0
section
variable{T:Tbl}[Zaf T][Zn T][Zw T][Zz T][Zr T][Zv T][Zat T][Zg T][Zm T][Zy T][Zcr T][Zbp T][Zcj T][Za5 T][Zb3 T][Zln T]
def Zmq(b c:Rat)(i:Nat):Rat:=if i=0 then 0 else if i=1 then b else (if b<c then c else b)
def Zqf(b c:Rat)(i:Nat):St:=⟨[(2,.ptr (.loc 2) 1 3 0 0),(3,.ptr (.loc 3) 2 3 0 0),(7,.sl [Zak (fz b),Zak (fz c)] .an),(8,.i .i64 2),(9,.i .i64 i)],
 [(.loc 2,⟨1,.str,3,[Zfa]⟩),(.loc 3,⟨2,.str,3,[Zak (fz (Zmq b c i))]⟩)],4⟩
def Zqg(l:List Fz)(i:Nat):St:=⟨[(2,.ptr (.loc 2) 1 3 0 0),(3,.ptr (.loc 3) 2 3 0 0),(7,.sl (Zc l) .an),(8,.i .i64 l.length),(9,.i .i64 i)],
 [(.loc 2,⟨1,.str,3,[Zfa]⟩),(.loc 3,⟨2,.str,3,[Zak (fz (Zlq ((l.map fv).take i)))]⟩)],4⟩
def Zqh(l:List Fz)(i:Nat):St:=⟨[(3,.i .i64 (Zmp (l.take i))),(6,.sl (Zc l) .an),(7,.i .i64 l.length),(8,.i .i64 i)],[],2⟩
end
section
variable{T:Tbl}[Za2 T][Za3 T][Zas T][Za4 T][Zbq T][Zbz T][Zbj T][Zbk T][Zi6 T]
def Zqi(c:Rat)(p:List Rat)(i:Nat):St:=⟨[(1,.sl (Zc (fzs p)) .an),(2,.ptr (.loc 2) 1 3 0 0),(5,.bs (.loc 5) 2 3 0 i),(6,.i .i64 i)],
 [(.loc 2,⟨1,.str,3,[Zak (fz c)]⟩),(.loc 5,⟨2,.own,3,Zc (fzs ((Zmz c p).take i))⟩)],4⟩
def Zqj(p:List Rat)(i:Nat):St:=⟨[(0,.sl (Zc (fzs p)) .an),(2,.ptr (.loc 2) 1 3 0 0),(3,.ptr (.loc 3) 2 3 0 0),(4,.i .i64 i)],
 [(.loc 2,⟨1,.str,3,[Zfa]⟩),(.loc 3,⟨2,.str,3,[Zak (fz (Zlq (p.take i)))]⟩)],4⟩
end
structure Ins where
 op:Int
 a:Int
 b:Int
 n:Fz
abbrev Zm1(i:Ins):List AV:=[.i .i64 i.op,.i .i64 i.a,.i .i64 i.b,.b i.n.1,.sl (Za i.n.2.1) .an,.sl (Za i.n.2.2) .an]
def Ziv(l:List Ins):List (List AV):=l.map Zm1
structure Tp where
 code:List Ins
 outs:List Int
 dim:Int
 par:Int
abbrev etp(t:Tp):AV:=.agg [.sl (Ziv t.code) .an,.sl (ints t.outs) .an,.i .i64 t.dim,.i .i64 t.par]
def Zct(x:Fz):Bool:=decide (x=fz (fv x))
def Zl7(x:Fz):Bool:=!x.1&&x.2.1.isEmpty&&x.2.2.isEmpty
def Zh1(i:Ins):List Int:=if i.op=6\/i.op=11 then [i.a] else if 7<=i.op/\i.op<=10 then [i.a,i.b] else []
def Zf5(i m:Int):Bool:=decide (0<=i)&&decide (i<m)
def Zm2(dim par p:Int)(i:Ins):Bool:=
 if i.op=1 then decide (i.a=0)&&decide (i.b=0)&&Zct i.n
 else Zl7 i.n&&(Zh1 i).all (fun r=>Zf5 r p) &&
  (if i.op=2 then decide (i.a=0)&&decide (i.b=0)
   else if i.op=3 then Zf5 i.a dim&&decide (i.b=0)
   else if i.op=4 then Zf5 i.a par&&decide (i.b=0)
   else if i.op=6 then decide (i.b=0)
   else if i.op=11 then decide (-8<=i.b)&&decide (i.b<=8)
   else decide ((Zh1 i).length=2))
def Ziw(dim par:Int):Nat->List Ins->Int
 | _,[]=>-1
 | p,i::r=>if Zm2 dim par p i then Ziw dim par (p+1) r else p
def Zl8(t:Tp):Bool:=Zf5 (t.dim-1) 6&&Zf5 t.par 7&&decide ((t.outs.length:Int)=t.dim)&&decide (t.code.length<=300)
def Zl9(t:Tp):Int:=
 if Zl8 t=false then -2 else if Ziw t.dim t.par 0 t.code≠-1 then Ziw t.dim t.par 0 t.code
 else if (t.outs.all fun o=>Zf5 o t.code.length)=false then t.code.length else -1
def okT(t:Tp):Bool:=decide (Zl9 t=-1)
structure OkTp (t:Tp):Prop where
 d1:1<=t.dim
 d2:t.dim<=6
 p1:0<=t.par
 p2:t.par<=6
 ol:(t.outs.length:Int)=t.dim
 cl:t.code.length<=300
 may:∀(k:Nat) (i:Ins),t.code[k]? = some i->Zm2 t.dim t.par k i=true
 outs:∀o∈t.outs,0<=o/\o<t.code.length
structure Po where
 t:Rat
 y:List Rat
 p:List Rat
structure PoF where
 t:Fz
 y:List Fz
 p:List Fz
def PoF.v(x:PoF):Po:=⟨fv x.t,x.y.map fv,x.p.map fv⟩
def Po.f(x:Po):PoF:=⟨fz x.t,fzs x.y,fzs x.p⟩
abbrev ept(x:PoF):AV:=.agg [.b x.t.1,.sl (Za x.t.2.1) .an,.sl (Za x.t.2.2) .an,.sl (Zc x.y) .an,.sl (Zc x.p) .an]
def gI(l:List Rat)(i:Int):Rat:=l.getD i.toNat 0
def Zm3(x:Rat)(e:Int):Rat:=x^e
def Zih(P:Po)(D:List Rat)(i:Ins):Rat×Bool:=
 if i.op=1 then (fv i.n,true)
 else if i.op=3 then (gI P.y i.a,true)
 else if i.op=4 then (gI P.p i.a,true)
 else if i.op=6 then (-gI D i.a,true)
 else if i.op=7 then (gI D i.a+gI D i.b,true)
 else if i.op=8 then (gI D i.a-gI D i.b,true)
 else if i.op=9 then (gI D i.a*gI D i.b,true)
 else if i.op=10 then (gI D i.a/gI D i.b,decide (gI D i.b≠0))
 else if i.op=11 then (if i.b<0/\gI D i.a=0 then (0,false) else (Zm3 (gI D i.a) i.b,true))
 else (P.t,true)
def Zm4(q:Rat):Nat:=Zkn (fz q)
def Zjp(lim:Nat)(P:Po):List Ins->List Rat->List Rat×Nat×Nat
 | [],D=>(D,0,0)
 | i::r,D=>if (Zih P D i).2=false then ([],3,D.length) else if lim<Zm4 (Zih P D i).1 then ([],6,D.length) else Zjp lim P r (D++[(Zih P D i).1])
@[simp] def zaan:Ziv []=[]:=rfl
structure Trr where
 t:Fz
 w:Fz
 h:Fz
 e:Fz
 y:List Fz
 ok:Bool
abbrev Zei(r:Trr):List AV:=[.b r.t.1,.sl (Za r.t.2.1) .an,.sl (Za r.t.2.2) .an,.b r.w.1,.sl (Za r.w.2.1) .an,.sl (Za r.w.2.2) .an,.b r.h.1,.sl (Za r.h.2.1) .an,.sl (Za r.h.2.2) .an,.b r.e.1,.sl (Za r.e.2.1) .an,.sl (Za r.e.2.2) .an,.sl (Zc r.y) .an,.b r.ok]
def Z2(l:List Trr):List (List AV):=l.map Zei
@[simp] def zeb(l:List Trr):(Z2 l).length=l.length:=by simp[Z2]
@[simp] def zqb(l:List Trr):wkL (Z2 l)=Z2 l:=by rw[zbw];simp[Z2,wkR,wkA]
@[simp] def rowTr_get?(l:List Trr)(i:Nat):(Z2 l)[i]? = (l[i]?).map Zei:=by simp[Z2]
@[simp] def z7e(l:List Trr)(i:Nat)(h:i<(Z2 l).length):(Z2 l)[i]=Zei (l[i]'(by simpa using h)):=by simp[Z2]
def zjq(l:List Trr)(x:Trr):Z2 l++[Zei x]=Z2 (l++[x]):=by simp[Z2]
@[simp] def z30(l:List Trr)(n:Nat):(Z2 l).take n=Z2 (l.take n):=by simp[Z2]
@[simp] def zm4:Z2 []=[]:=rfl
def zjr{m:List Trr}{n:Nat}(h:m.length=n)(x:Trr):wkL (Z2 (List.take n m)++[Zei x])=Z2 (m++[x]):=by
 rw[Yb (by omega),zjq,zqb]
structure Hs where
 l:List Trr
 t:Fz
 y:List Fz
abbrev ehs(h:Hs):AV:=.agg [.sl (Z2 h.l) .an,.b h.t.1,.sl (Za h.t.2.1) .an,.sl (Za h.t.2.2) .an,.sl (Zc h.y) .an]
def Zq(l:List Fz):Bool:=l.all Zct
def Trr.nums(r:Trr):List Fz:=[r.t,r.w,r.h,r.e]
def Zf3(h:Hs):Bool:=(h.l.all fun r=>Zq r.nums&&Zq r.y)&&(Zct h.t&&Zq h.y)
def Zjc(h:Hs):Bool:=(h.l.all fun r=>decide (r.y.length=h.y.length))&&(decide (1<=h.y.length)&&decide (h.y.length<=6))
def Zfp(r:Trr):Bool:=decide (0<fv r.w)&&decide (0<fv r.h)&&decide (fv r.h<=fv r.w)&&decide (0<=fv r.e)
def Zh0(h:Hs):Bool:=h.l.all Zfp
def Zfq(r:Trr)(at_:Fz)(y:List Fz):Bool:=if r.ok then decide (fv at_=fv r.t+fv r.h) else decide (fv at_=fv r.t)&&decide (y.map fv=r.y.map fv)
def Zeq(l:List Trr)(t:Fz)(y:List Fz):Fz×List Fz:=match l with | []=>(t,y) | r::_=>(r.t,r.y)
def Zc9:List Trr->Fz->List Fz->Bool
 | [],_,_=>true
 | r::l,t,y=>Zfq r (Zeq l t y).1 (Zeq l t y).2&&Zc9 l t y
def Zf4(h:Hs):Bool:=Zc9 h.l h.t h.y
def Zda(h:Hs):Int:=if !Zf3 h then 1 else if !Zjc h then 2 else if 200<h.l.length then 3 else if !Zh0 h then 4 else if !Zf4 h then 5 else 0
def Ziu(h:Hs):Bool:=decide (Zda h=0)
def Zbs(r:Trr):Trr:=⟨fz (fv r.t),fz (fv r.w),fz (fv r.h),fz (fv r.e),nrm r.y,r.ok⟩
def Zb6(l:List Trr):List Trr:=(l.filter (·.ok)).map Zbs
def Zjd(h:Hs):List Fz:=(Zb6 h.l).map (·.t)++[fz (fv h.t)]
def Zgf(h:Hs):List (List Fz):=(Zb6 h.l).map (·.y)++[nrm h.y]
def Zle(h:Hs):List Fz:=(Zb6 h.l).map (·.h)
structure HsS (h:Hs) (B:Nat):Prop where
 len:h.l.length<=1000
 t:fsz h.t<=B
 y:∀x∈h.y,fsz x<=B
 yl:h.y.length<=1000
 rt:∀r∈h.l,∀x∈r.nums,fsz x<=B
 ry:∀r∈h.l,∀x∈r.y,fsz x<=B
 rl:∀r∈h.l,r.y.length<=1000
theorem zoe:∀(a b:List UInt32),a.length=b.length->val a=val b->a=b
 | [],[],_,_=>rfl
 | x::a,y::b,hl,hv=>by
  simp only[zan]at hv;have hx:=zal x;have hy:=zal y;have h1:x.toNat=y.toNat:=by omega
  have h2:val a=val b:=by omega
  rw[UInt32.toNat_inj.1 h1,zoe a b (by simpa using hl) h2]
 | [],_::_,hl,_=>by simp at hl
 | _::_,[],hl,_=>by simp at hl
def zfi{x y:Nat}:Zex x y=0↔x=y:=by
 grind[Zex]
section
variable{T:Tbl}[Zaf T][Zn T][Zw T][Zz T][Zr T][Zv T][Zg T][Zm T][Zy T][Za1 T]
def zrk(x:Fz)(hx:fsz x<=10000):Zb T 208 [efz x]=some (.b (Zct x)):=by
 have hn:=zhx (T:=T) x hx;have hs:=zoo (x:=x) (L:=10000) hx (by decide);have l1:=zih (fv x);have l2:=zgc (fv x);unfold Zct;have e':fz (fv x)=(decide ((fv x).num<0),ofN (fv x).num.natAbs,ofN (fv x).den):=rfl;rw[e']at hn ⊢;obtain⟨n,a,d⟩:=x;have la:=zig (n,a,d);have ld:=zit (n,a,d);simp only at la ld;generalize decide ((fv (n,a,d)).num<0)=m at *
 generalize ofN (fv (n,a,d)).num.natAbs=b at *
 generalize ofN (fv (n,a,d)).den=e at *
 have c1:=zf0 (T:=T) a b (by omega) (by omega);have c2:=zf0 (T:=T) d e (by omega) (by omega);rw[zaa Za1.h208 rfl,b208];by_cases h1:n=m
 case neg=>
  have hd:decide ((n,a,d)=(m,b,e))=false:=by grind
  have hb:(n == m)=false:=by grind
  rw[hd];simp -implicitDefEqProofs[hn,hb]
 subst h1;by_cases h2:a.length=b.length
 case neg=>
  have hd:decide ((n,a,d)=(n,b,e))=false:=by
   grind
  have hb:((a.length:Int) == b.length)=false:=by grind
  rw[hd];simp -implicitDefEqProofs[hn,hb]
 by_cases h3:d.length=e.length
 case neg=>
  have hd:decide ((n,a,d)=(n,b,e))=false:=by
   grind
  have hb:((d.length:Int) == e.length)=false:=by grind
  rw[hd];simp -implicitDefEqProofs[hn,h2,hb]
 by_cases h4:val a=val b
 case neg=>
  have hd:decide ((n,a,d)=(n,b,e))=false:=by
   grind
  have hc:¬ Zex (val a) (val b)=0:=fun h=>h4 (zfi.1 h);rw[hd];simp -implicitDefEqProofs[hn,h2,h3,c1,hc]
 have hab:=zoe a b h2 h4;subst hab;have hk:Zex (val a) (val a)=0:=zfi.2 rfl;rw[hk]at c1;by_cases h5:val d=val e
 case neg=>
  have hd:decide ((n,a,d)=(n,a,e))=false:=by
   grind
  have hc:¬ Zex (val d) (val e)=0:=fun h=>h5 (zfi.1 h);rw[hd];simp -implicitDefEqProofs[hn,h3,c1,c2,hc]
 have hde:=zoe d e h3 h5;subst hde;have hk2:Zex (val d) (val d)=0:=zfi.2 rfl;rw[hk2]at c2;have hd:decide ((n,a,d)=(n,a,d))=true:=by simp
 simp -implicitDefEqProofs[hn,c1,c2]
def Zpf(a:List UInt32)(k i:Nat):St:=⟨[(0,.sl (Za a) .an),(5,.sl (Za (ofN (val a^i))) .an),(7,.i .i64 k),(8,.i .i64 i)],[],2⟩
def Zpg(q:Rat)(e:Int):Rat×Bool:=if -8<=e/\e<=8/\¬ (e<0/\q=0) then (Zm3 q e,true) else (0,false)
end
@[simp] def zaak:ints []=[]:=rfl
section
variable{T:Tbl}[Zaf T][Zn T][Zw T][Zz T][Zr T][Zv T][Zg T][Zm T][Zy T][Za1 T][Zcx T]
def Zqu(t:Tp)(p:Nat)(x:Ins)(i:Nat):St:=
 ⟨[(1,.i .i64 p),(2,.ptr (.loc 2) 1 4 0 0),(5,.ptr (.loc 5) 2 6 0 0),(30,.sl (ints (Zh1 x)) .an),(31,.i .i64 (Zh1 x).length),(32,.i .i64 i)],
  [(.loc 2,⟨1,.str,4,[[.sl (Ziv t.code) .an,.sl (ints t.outs) .an,.i .i64 t.dim,.i .i64 t.par]]⟩),(.loc 5,⟨2,.str,6,[Zm1 x]⟩)],4⟩
end
section
variable{T:Tbl}[Zaf T][Zn T][Zw T][Zz T][Zr T][Zv T][Zg T][Zm T][Zy T][Za1 T][Zcx T]
structure Small (t:Tp):Prop where
 code:t.code.length<=4294967296
 outs:t.outs.length<=4294967296
 ns:∀i∈t.code,fsz i.n<=10000
 d1:-9223372036854775808<=t.dim
 d2:t.dim<9223372036854775808
def bxT(t:Tp):Box:=⟨1,.str,4,[[.sl (Ziv t.code) .an,.sl (ints t.outs) .an,.i .i64 t.dim,.i .i64 t.par]]⟩
def Zqv(t:Tp)(i:Nat):St:=⟨[(1,.ptr (.loc 1) 1 4 0 0),(11,.i .i64 t.code.length),(12,.i .i64 i)],[(.loc 1,bxT t)],3⟩
def Zqw(t:Tp)(i:Nat):St:=⟨[(1,.ptr (.loc 1) 1 4 0 0),(22,.sl (ints t.outs) .an),(23,.i .i64 t.outs.length),(24,.i .i64 i)],[(.loc 1,bxT t)],3⟩
end
def Znd(n:Int):Int:=if n<0 then 0 else if 4096<n then 4096 else n
abbrev bxG(g:Nat)(s p L:Int):Box:=⟨g,.str,3,[[.i .i64 s,.i .i64 p,.i .i64 L]]⟩
def Zmf(s:Int):Int:=IntKind.wrap .i64 (s+1)
def Zmg(p:Int)(x:Fz):Int:=if p<(Zkn x:Int) then (Zkn x:Int) else p
section
variable{T:Tbl}[Zaf T][Zn T][Zw T][Zz T][Zr T][Zv T][Zg T][Zm T][Zy T][Za1 T][Zbp T][Zcj T][Zcx T][Zcc T][Zdj T]
def Zph(l:List Fz)(i:Nat):St:=⟨[(3,.bs (.loc 3) 1 3 0 i),(6,.sl (Zc l) .an),(7,.i .i64 l.length),(8,.i .i64 i)],[(.loc 3,⟨1,.own,3,Zc (nrm (l.take i))⟩)],3⟩
structure PoS (x:PoF) (B:Nat):Prop where
 t:fsz x.t<=B
 y:∀u∈x.y,fsz u<=B
 p:∀u∈x.p,fsz u<=B
 yl:x.y.length<=1000
 pl:x.p.length<=1000
end
abbrev mD:AV:=.agg [.dead]
structure PvS (P:Po) (B:Nat):Prop where
 t:sz P.t<=B
 y:∀q∈P.y,sz q<=B
 p:∀q∈P.p,sz q<=B
def Zko(lim:Nat)(P:Po):List Ins->List Rat->Int->Int->Int×Int
 | [],_,s,p=>(s,p)
 | i::r,D,s,p=>if (Zih P D i).2=false then (s,p) else if lim<Zm4 (Zih P D i).1 then (Zmf s,Zmg p (fz (Zih P D i).1)) else Zko lim P r (D++[(Zih P D i).1]) (Zmf s) (Zmg p (fz (Zih P D i).1))
abbrev bxM:Box:=⟨3,.str,1,[[.ptr (.bor 0) 0 3 0 0]]⟩
abbrev bxP(g:Nat)(x:PoF):Box:=⟨g,.str,5,[[.b x.t.1,.sl (Za x.t.2.1) .an,.sl (Za x.t.2.2) .an,.sl (Zc x.y) .an,.sl (Zc x.p) .an]]⟩
abbrev bxF(g:Nat)(a b c d:Int):Box:=⟨g,.str,4,[[.i .i64 a,.i .i64 b,.i .i64 c,.i .i64 d]]⟩
def Zo6(Q:PoF)(L:Int)(code:List Ins)(i:Nat)(D:List Fz)(s p:Int)(kd:Kind):St:=
 ⟨[(3,.ptr (.loc 3) 3 1 0 0),(5,.ptr (.loc 5) 4 5 0 0),(7,.ptr (.loc 7) 5 4 0 0),(8,.bs (.loc 8) 6 3 0 i),(34,.sl (Ziv code) .an),(35,.i .i64 code.length),(36,.i .i64 i)],
  [(.bor 0,bxG 0 s p L),(.loc 3,bxM),(.loc 5,bxP 4 Q),(.loc 7,bxF 5 0 0 0 0),(.loc 8,⟨6,kd,3,Zc D⟩)],8⟩
def Zny(n:Nat)(D:List Fz)(s p L:Int)(kd:Kind):Ex×St:=(.n,⟨[(7,.ptr (.loc 7) 3 4 0 0),(8,.bs (.loc 8) 4 3 0 n)],[(.bor 0,bxG 0 s p L),(.loc 7,bxF 3 0 0 0 0),(.loc 8,⟨4,kd,3,Zc D⟩)],6⟩)
def Znz(kind at_ s p L:Int):Ex×St:=(.r,⟨[(6,.sl [] .an),(7,.ptr (.loc 7) 3 4 0 0)],[(.bor 0,bxG 0 s p L),(.loc 7,bxF 3 kind 0 0 at_)],5⟩)
section
variable{T:Tbl}[Zaf T][Zn T][Zw T][Zz T][Zr T][Zv T][Zg T][Zm T][Zy T][Za1 T][Zbp T][Zcj T][Zcx T][Zcc T][Zdj T][Zf0 T][Zfx T]
def kdE(kd:Kind)(l:List Ins):Kind:=if l=[] then kd else .sh
def Zn0(lim:Nat)(P:Po)(code l:List Ins)(D:List Rat)(s p:Int)(kd:Kind):Ex×St:=
 if (Zjp lim P l D).2.1=0 then Zny code.length (fzs (Zjp lim P l D).1) (Zko lim P l D s p).1 (Zko lim P l D s p).2 lim (kdE kd l)
 else Znz (Zjp lim P l D).2.1 (Zjp lim P l D).2.2 (Zko lim P l D s p).1 (Zko lim P l D s p).2 lim
end
def Zn1(t:Tp)(y p:Nat):Bool:=okT t&&decide ((y:Int)=t.dim)&&decide ((p:Int)=t.par)
def Zkp(lim:Nat)(t:Tp)(P:Po):List Rat×Nat×Nat:=if Zn1 t P.y.length P.p.length=true then Zjp lim P t.code [] else ([],2,0)
def Zmr(t:Tp)(D:List Rat):List Rat:=t.outs.map (gI D)
def Zl2(lim:Nat)(t:Tp)(P:Po):List Rat×Nat×Nat:=if (Zkp lim t P).2.1=0 then (Zmr t (Zkp lim t P).1,0,0) else ([],(Zkp lim t P).2)
structure TpS (t:Tp):Prop where
 small:Small t
 ns:∀i∈t.code,fsz i.n<=1000
abbrev Zqk(k s g a:Int):AV:=.agg [.i .i64 k,.i .i64 s,.i .i64 g,.i .i64 a]
section
variable{T:Tbl}[Zaf T][Zn T][Zw T][Zz T][Zr T][Zv T][Zg T][Zm T][Zy T][Za1 T][Zbp T][Zcj T][Zcx T][Zcc T][Zdj T][Zf0 T][Zfx T]
def Zn2(n:Int):Nat:=(Znd n).toNat
def Zql(D:List Fz)(outs:List Int)(E:List Fz)(i:Nat)(kd:Kind):St:=
 ⟨[(1,.sl (Zc D) .an),(5,.bs (.loc 5) 1 3 0 i),(20,.sl (ints outs) .an),(21,.i .i64 outs.length),(22,.i .i64 i)],[(.loc 5,⟨1,.own,3,Zc (E.take i)⟩)],3⟩
end
structure Sm where
 nm:List UInt8
 c:List Fz
 a:List (List Fz)
 b:List Fz
 e:List Fz
abbrev esm(s:Sm):AV:=.agg [.s s.nm,.sl (Zc s.c) .an,.sl (Z4 s.a) .an,.sl (Zc s.b) .an,.sl (Zc s.e) .an]
def Zk1:List (List Fz)->Nat->Bool
 | [],_=>true
 | r::l,i=>decide (r.length=i)&&Zk1 l (i+1)
def Zl4(s:Sm):Bool:=decide (1<=s.b.length)&&decide (s.b.length<=8)&&decide (s.c.length=s.b.length)&&decide (s.a.length=s.b.length)&&(decide (s.e.length=s.b.length) || decide (s.e.length=0))&&Zk1 s.a 0
def Zoa(x:Fz):Bool:=Zct x&&decide (Zkn x<=190)
def Zm0(m:List (List Fz)):Bool:=m.all fun r=>r.all Zoa
def sumF(l:List Fz):Rat:=l.foldl (fun s x=>s+fv x) 0
def Zl5(a:List (List Fz))(c:List Fz):Bool:=(a.zip c).all fun p=>decide (sumF p.1=fv p.2)
def Zl6(s:Sm):Int:=
 if !Zl0 2 s.nm then 1 else if !Zl4 s then 2 else if !(Zm0 s.a&&Zm0 [s.b,s.c,s.e]) then 3
 else if !Zl5 s.a s.c then 4 else if sumF s.b≠1 then 5 else if s.e≠[]/\sumF s.e≠1 then 6 else 0
def okS(s:Sm):Bool:=decide (Zl6 s=0)
structure SmS (s:Sm):Prop where
 nm:s.nm.length<=1000
 cl:s.c.length<=1000
 al:s.a.length<=1000
 bl:s.b.length<=1000
 el:s.e.length<=1000
 c:∀x∈s.c,fsz x<=300
 a:∀r∈s.a,r.length<=1000/\∀x∈r,fsz x<=300
 b:∀x∈s.b,fsz x<=300
 e:∀x∈s.e,fsz x<=300
structure Pb where
 t:Tp
 s:Sm
 p:List Fz
 bits:Int
abbrev epb(p:Pb):AV:=.agg [.sl (Ziv p.t.code) .an,.sl (ints p.t.outs) .an,.i .i64 p.t.dim,.i .i64 p.t.par,.s p.s.nm,.sl (Zc p.s.c) .an,.sl (Z4 p.s.a) .an,.sl (Zc p.s.b) .an,.sl (Zc p.s.e) .an,.sl (Zc p.p) .an,.i .i64 p.bits]
def okP(p:Pb):Bool:=okT p.t&&okS p.s&&decide ((p.p.length:Int)=p.t.par)
section
variable{T:Tbl}[Zaf T][Zn T][Zw T][Zz T][Zr T][Zv T][Zg T][Zm T][Zy T][Za1 T][Zbp T][Zcj T][Zcx T][Zcc T][Zdj T][Zf0 T][Zfx T][Zi7 T]
def Zqm(l:List Fz)(i:Nat):St:=⟨[(2,.ptr (.loc 2) 1 3 0 0),(3,.ptr (.loc 3) 2 3 0 0),(7,.sl (Zc l) .an),(8,.i .i64 l.length),(9,.i .i64 i)],
 [(.loc 2,⟨1,.str,3,[Zfa]⟩),(.loc 3,⟨2,.str,3,[Zak (fz (sumF (l.take i)))]⟩)],4⟩
def Zo7(m:List (List Fz))(r:List Fz)(j i:Nat):St:=⟨[(7,.sl (Z4 m) .an),(8,.i .i64 m.length),(9,.i .i64 j),(13,.sl (Zc r) .an),(14,.i .i64 r.length),(15,.i .i64 i)],[],2⟩
def Zo8(m:List (List Fz))(i:Nat):St:=⟨[(7,.sl (Z4 m) .an),(8,.i .i64 m.length),(9,.i .i64 i)],[],2⟩
def Zo9(a:List (List Fz))(i:Nat):St:=⟨[(43,.sl (Z4 a) .an),(44,.i .i64 a.length),(45,.i .i64 i)],[],2⟩
def bxS(s:Sm):Box:=⟨1,.str,5,[[.s s.nm,.sl (Zc s.c) .an,.sl (Z4 s.a) .an,.sl (Zc s.b) .an,.sl (Zc s.e) .an]]⟩
def Zqn(s:Sm)(i:Nat):St:=⟨[(1,.ptr (.loc 1) 1 5 0 0),(6,.sl (Z4 s.a) .an),(7,.i .i64 s.a.length),(8,.i .i64 i)],[(.loc 1,bxS s)],3⟩
end
structure PbS (q:Pb):Prop where
 t:TpS q.t
 s:SmS q.s
 p:∀x∈q.p,fsz x<=1000
 pl:q.p.length<=1000
def Zn5(p:Pb)(t:Fz)(y:List Fz):List Rat×Nat×Nat:=Zl2 (Zn2 p.bits) p.t ⟨fv t,y.map fv,p.p.map fv⟩
def z1k(l:List Fz):scl 1 l=nrm l:=by
 grind[scl,nrm]
section
variable{T:Tbl}[Zaf T][Zn T][Zw T][Zz T][Zr T][Zv T][Zg T][Zm T][Zy T][Za1 T][Zbp T][Zcj T][Zcx T][Zcc T][Zdj T][Zf0 T][Zfx T][Zp T][Zat T][Za5 T][Zb3 T][Zar T]
def zez(l:List Fz)(hl:l.length<=1000)(hw:∀x∈l,fsz x<=1000):Zb T 533 [.sl (Zc l) .an]=some (.sl (Zc (nrm l)) .an):=by
 have h0:=zxq (T:=T);have h:=zvy (T:=T) (fz 1) (by decide +kernel) l hl hw;rw[zf6,z1k]at h;rw[zaa Zar.h533 rfl,b533]
 simp_all
def zc9(r:Trr):Zb T 549 [.agg (Zei r)]=some (.sl (Zc r.nums) .an):=by
 have e:Zc r.nums=[Zak r.t,Zak r.w,Zak r.h,Zak r.e]:=rfl;rw[zaa Zar.h549 rfl,b549,e];simp -implicitDefEqProofs[]
def Zhj(m:List (List Fz))(r:List Fz)(j i:Nat):St:=⟨[(7,.sl (Z4 m) .an),(8,.i .i64 m.length),(9,.i .i64 j),(13,.sl (Zc r) .an),(14,.i .i64 r.length),(15,.i .i64 i)],[],2⟩
def zmp(m:List (List Fz))(r:List Fz)(j:Nat)(hl:r.length<=1000)(hw:∀x∈r,fsz x<=1000) :
  Zu T 0 2 (.norm false [7,8,9]) l584_0 (Zhj m r j 0)=if Zq (r.drop 0)=true then some (.n,⟨[(7,.sl (Z4 m) .an),(8,.i .i64 m.length),(9,.i .i64 j)],[],2⟩) else some (.r,⟨[(2,.b false)],[],2⟩):=by
 refine zat (Zhj m r j) r.length (fun i=>if Zq (r.drop i)=true then some (.n,⟨[(7,.sl (Z4 m) .an),(8,.i .i64 m.length),(9,.i .i64 j)],[],2⟩) else some (.r,⟨[(2,.b false)],[],2⟩)) (fun i hi=>?_) ?_
 ·have hws:=zc2 hi (by omega);have hx:=hw _ (Y0 hi);have c1:=zrk (T:=T) (r[i]'hi) (by omega);have key:Zq (r.drop i)=(Zct (r[i]'hi)&&Zq (r.drop (i+1))):=by grind[Zq,List.drop_eq_getElem_cons]
  by_cases h1:Zct (r[i]'hi)=true
  ·left;refine⟨?_,by grind⟩;unfold Zhj;simp -implicitDefEqProofs[l584_0,hi,hws,c1,h1]
  ·right;have h1':Zct (r[i]'hi)=false:=by grind
   rw[if_neg (by grind)];unfold Zhj;constructor<;>simp -implicitDefEqProofs[l584_0,hi,c1,h1']
 ·have e:Zq []=true:=rfl;simp only[Yah,e,if_true];unfold Zhj;constructor<;>simp -implicitDefEqProofs[l584_0]
def Zhk(m:List (List Fz))(i:Nat):St:=⟨[(7,.sl (Z4 m) .an),(8,.i .i64 m.length),(9,.i .i64 i)],[],2⟩
def zh3(m:List (List Fz))(hl:m.length<=1000)(hw:∀r∈m,r.length<=1000/\∀x∈r,fsz x<=1000):Zb T 584 [.sl (Z4 m) .an]=some (.b (m.all Zq)):=by
 have h:Zu T 0 0 (.norm false []) l584_1 (Zhk m 0)=if (m.drop 0).all Zq=true then some (.n,⟨[],[],2⟩) else some (.r,⟨[(2,.b false)],[],2⟩):=by
  refine zat (Zhk m) m.length (fun i=>if (m.drop i).all Zq=true then some (.n,⟨[],[],2⟩) else some (.r,⟨[(2,.b false)],[],2⟩)) (fun i hi=>?_) ?_
  ·have hws:=zc2 hi (by omega);obtain⟨h1,h2⟩:=hw _ (Y0 hi);have h:=zmp (T:=T) m (m[i]'hi) i h1 h2;have key:(m.drop i).all Zq=(Zq (m[i]'hi)&&(m.drop (i+1)).all Zq):=by rw[Yp hi,Ybk]
   unfold Zhj at h;rw[Yat]at h;simp only[Y8]at h;by_cases hr:Zq (m[i]'hi)=true
   ·left;rw[if_pos hr]at h;refine⟨?_,by grind⟩;unfold Zhk;simp -implicitDefEqProofs[l584_1,hi,hws,h]
   ·right;rw[if_neg hr]at h;rw[if_neg (by grind)];unfold Zhk;constructor<;>simp -implicitDefEqProofs[l584_1,hi,h]
  ·simp only[Yah,Ycd,if_true];unfold Zhk;constructor<;>simp -implicitDefEqProofs[l584_1]
 unfold Zhk at h;rw[Yat]at h;rw[zaa Zar.h584 rfl,b584];cases hn:m.all Zq<;>rw[hn]at h<;>simp at h<;>simp -implicitDefEqProofs[h]
def bxH(h:Hs):Box:=⟨1,.str,5,[[.sl (Z2 h.l) .an,.b h.t.1,.sl (Za h.t.2.1) .an,.sl (Za h.t.2.2) .an,.sl (Zc h.y) .an]]⟩
def Zee(h:Hs)(i:Nat):St:=⟨[(1,.ptr (.loc 1) 1 5 0 0),(6,.sl (Z2 h.l) .an),(7,.i .i64 h.l.length),(8,.i .i64 i)],[(.loc 1,bxH h)],3⟩
def zrx(h:Hs)(hs:HsS h 1000):Zb T 580 [ehs h]=some (.b (Zf3 h)):=by
 have hlen:=hs.len;have hlp:Zu T 0 0 (.norm false [1]) l580_0 (Zee h 0)=if ((h.l.drop 0).all fun r=>Zq r.nums&&Zq r.y)=true then some (.n,⟨[(1,.ptr (.loc 1) 1 5 0 0)],[(.loc 1,bxH h)],3⟩) else some (.r,⟨[(2,.b false)],[],2⟩):=by
  refine zat (Zee h) h.l.length (fun i=>if ((h.l.drop i).all fun r=>Zq r.nums&&Zq r.y)=true then some (.n,⟨[(1,.ptr (.loc 1) 1 5 0 0)],[(.loc 1,bxH h)],3⟩) else some (.r,⟨[(2,.b false)],[],2⟩)) (fun i hi=>?_) ?_
  ·have hws:=zc2 hi (by omega);have hm:=Y0 hi;have c1:=zc9 (T:=T) (h.l[i]'hi);have c2:=zh3 (T:=T) [(h.l[i]'hi).nums,(h.l[i]'hi).y] (by simp) (fun r hr=>by
    simp only[Yn,Yay,or_false]at hr;rcases hr with rfl | rfl
    ·exact⟨by simp[Trr.nums],hs.rt _ hm⟩
    ·exact⟨hs.rl _ hm,hs.ry _ hm⟩)
   have e2:([(h.l[i]'hi).nums,(h.l[i]'hi).y].all Zq)=(Zq (h.l[i]'hi).nums&&Zq (h.l[i]'hi).y):=by simp
   rw[e2]at c2;have key:((h.l.drop i).all fun r=>Zq r.nums&&Zq r.y)=((Zq (h.l[i]'hi).nums&&Zq (h.l[i]'hi).y)&&((h.l.drop (i+1)).all fun r=>Zq r.nums&&Zq r.y)):=by rw[Yp hi,Ybk]
   generalize hB:(Zq (h.l[i]'hi).nums&&Zq (h.l[i]'hi).y)=B at *
   generalize hq:h.l[i]'hi=q at *
   replace c2:Zb T 584 [.sl [[.sl (Zc q.nums) .an],[.sl (Zc q.y) .an]] .an]=some (.b B):=c2;have hnn:wkL (Zc q.nums)=Zc q.nums:=zea _;obtain⟨q1,q2,q3,q4,q5,q6⟩:=q;cases B with
   | true=>
    left;refine⟨?_,by grind⟩;unfold Zee bxH;simp -implicitDefEqProofs[l580_0,hi,hq,hws,c1,c2,hnn]
   | false=>
    right;rw[if_neg (by grind)];unfold Zee bxH;constructor<;>simp -implicitDefEqProofs[l580_0,hi,hq,c1,c2,hnn]
  ·simp only[Yah,Ycd,if_true];unfold Zee bxH;constructor<;>simp -implicitDefEqProofs[l580_0]
 have c3:=zh3 (T:=T) [[h.t],h.y] (by simp) (fun r hr=>by
  simp only[Yn,Yay,or_false]at hr;rcases hr with rfl | rfl
  ·exact⟨by simp,fun x hx=>by rw[Yab.1 hx];exact hs.t⟩
  ·exact⟨hs.yl,hs.y⟩)
 have e3:([[h.t],h.y].all Zq)=(Zct h.t&&Zq h.y):=by simp[Zq]
 rw[e3]at c3;unfold Zee bxH at hlp;rw[Yat]at hlp;unfold Zf3;generalize (Zct h.t&&Zq h.y)=R at *
 generalize (h.l.all fun r=>Zq r.nums&&Zq r.y)=A at *
 replace c3:Zb T 584 [.sl [[.sl [Zak h.t] .an],[.sl (Zc h.y) .an]] .an]=some (.b R):=c3;rw[zaa Zar.h580 rfl,b580];obtain⟨L,⟨t1,t2,t3⟩,y⟩:=h;cases A<;>simp at hlp<;>simp -implicitDefEqProofs[hlp,c3]
def zmq(h:Hs)(hl:h.l.length<=1000):Zb T 581 [ehs h]=some (.b (Zjc h)):=by
 have hlp:Zu T 0 0 (.norm false [1]) l581_0 (Zee h 0)=if ((h.l.drop 0).all fun r=>decide (r.y.length=h.y.length))=true then some (.n,⟨[(1,.ptr (.loc 1) 1 5 0 0)],[(.loc 1,bxH h)],3⟩) else some (.r,⟨[(2,.b false)],[],2⟩):=by
  refine zat (Zee h) h.l.length (fun i=>if ((h.l.drop i).all fun r=>decide (r.y.length=h.y.length))=true then some (.n,⟨[(1,.ptr (.loc 1) 1 5 0 0)],[(.loc 1,bxH h)],3⟩) else some (.r,⟨[(2,.b false)],[],2⟩)) (fun i hi=>?_) ?_
  ·have hga:h.l[i]? = some (h.l[i]'hi):=Ya hi;have hws:=zc2 hi (by omega);have key:((h.l.drop i).all fun r=>decide (r.y.length=h.y.length))=(decide ((h.l[i]'hi).y.length=h.y.length)&&((h.l.drop (i+1)).all fun r=>decide (r.y.length=h.y.length))):=by rw[Yp hi,Ybk]
   generalize hq:h.l[i]'hi=q at *
   obtain⟨L,t,y⟩:=h;obtain⟨q1,q2,q3,q4,q5,q6⟩:=q;dsimp only at *
   by_cases he:q5.length=y.length
   ·left;have he':(q5.length:Int)=y.length:=by omega
    refine⟨?_,by grind⟩;unfold Zee bxH;simp -implicitDefEqProofs[l581_0,hi,hq,hws,he]
   ·right;have he':¬ (q5.length:Int)=y.length:=by omega
    rw[if_neg (by grind)];unfold Zee bxH;constructor<;>simp -implicitDefEqProofs[l581_0,hi,hq,he']
  ·simp only[Yah,Ycd,if_true];unfold Zee bxH;constructor<;>simp -implicitDefEqProofs[l581_0]
 unfold Zee bxH at hlp;rw[Yat]at hlp;simp only[Y8]at hlp;unfold Zjc;generalize (h.l.all fun r=>decide (r.y.length=h.y.length))=A at *
 rw[zaa Zar.h581 rfl,b581];obtain⟨L,t,y⟩:=h;dsimp only at *
 cases A with
 | false=>simp at hlp;simp -implicitDefEqProofs[hlp]
 | true=>
  simp at hlp;by_cases h1:1<=y.length
  ·have h1':(1:Int)<=y.length:=by omega
   by_cases h2:y.length<=6
   ·have h2':(y.length:Int)<=6:=by omega
    simp -implicitDefEqProofs[hlp,h1,h1',h2,h2']
   ·have h2':¬ (y.length:Int)<=6:=by omega
    simp -implicitDefEqProofs[hlp,h1,h1',h2,h2']
  ·have h1':¬ (1:Int)<=y.length:=by omega
   simp -implicitDefEqProofs[hlp,h1,h1']
def Zhz(l:List Trr)(i:Nat):St:=⟨[(6,.sl (Z2 l) .an),(7,.i .i64 l.length),(8,.i .i64 i)],[],2⟩
def zry(h:Hs)(hs:HsS h 1000):Zb T 582 [ehs h]=some (.b (Zh0 h)):=by
 have hlen:=hs.len;have hlp:Zu T 0 0 (.norm false []) l582_0 (Zhz h.l 0)=if (h.l.drop 0).all Zfp=true then some (.n,⟨[],[],2⟩) else some (.r,⟨[(2,.b false)],[],2⟩):=by
  refine zat (Zhz h.l) h.l.length (fun i=>if (h.l.drop i).all Zfp=true then some (.n,⟨[],[],2⟩) else some (.r,⟨[(2,.b false)],[],2⟩)) (fun i hi=>?_) ?_
  ·have hws:=zc2 hi (by omega);have hm:=Y0 hi;have key:(h.l.drop i).all Zfp=(Zfp (h.l[i]'hi)&&(h.l.drop (i+1)).all Zfp):=by rw[Yp hi,Ybk]
   have hr:=hs.rt _ hm;have w1:=hr (h.l[i]'hi).w (by simp[Trr.nums]);have w2:=hr (h.l[i]'hi).h (by simp[Trr.nums]);have w3:=hr (h.l[i]'hi).e (by simp[Trr.nums]);generalize hq:h.l[i]'hi=q at *
   have c1:=zhy (T:=T) q.w (by omega);have c2:=zhy (T:=T) q.h (by omega);have c3:=zxr (T:=T) q.h q.w w2 w1;have c4:=zhy (T:=T) q.e (by omega);have e1:(0<fv q.w)↔¬ sgQ (fv q.w)<=0:=by rw[<-zop];omega
   have e2:(0<fv q.h)↔¬ sgQ (fv q.h)<=0:=by rw[<-zop];omega
   have e3:(fv q.h<=fv q.w)↔¬ 0<sgQ (fv q.h-fv q.w):=by rw[zop];grind
   have e4:(0<=fv q.e)↔¬ sgQ (fv q.e)<0:=by rw[z12];grind
   have hz:Zfp q=(!decide (sgQ (fv q.w)<=0)&&!decide (sgQ (fv q.h)<=0)&&!decide (0<sgQ (fv q.h-fv q.w))&&!decide (sgQ (fv q.e)<0)):=by
    grind[Zfp]
   rw[hz]at key;obtain⟨q1,q2,q3,q4,q5,q6⟩:=q;generalize sgQ (fv q2)=g1 at *
   generalize sgQ (fv q3-fv q2)=g3 at *
   generalize sgQ (fv q3)=g2 at *
   generalize sgQ (fv q4)=g4 at *
   by_cases h1:g1<=0
   ·right;rw[if_neg (by grind)];unfold Zhz;constructor<;>simp -implicitDefEqProofs[l582_0,hi,hq,c1,h1]
   by_cases h2:g2<=0
   ·right;rw[if_neg (by grind)];unfold Zhz;constructor<;>simp -implicitDefEqProofs[l582_0,hi,hq,c1,c2,h1,h2]
   by_cases h3:0<g3
   ·right;rw[if_neg (by grind)];unfold Zhz;constructor<;>simp -implicitDefEqProofs[l582_0,hi,hq,c1,c2,c3,h1,h2,h3]
   by_cases h4:g4<0
   ·right;rw[if_neg (by grind)];unfold Zhz;constructor<;>simp -implicitDefEqProofs[l582_0,hi,hq,c1,c2,c3,c4,h1,h2,h3,h4]
   ·left;refine⟨?_,by grind⟩;unfold Zhz;simp -implicitDefEqProofs[l582_0,hi,hq,hws,c1,c2,c3,c4,h1,h2,h3,h4]
  ·simp only[Yah,Ycd,if_true];unfold Zhz;constructor<;>simp -implicitDefEqProofs[l582_0]
 unfold Zhz at hlp;rw[Yat]at hlp;unfold Zh0;rw[zaa Zar.h582 rfl,b582];obtain⟨L,t,y⟩:=h;cases hA:L.all Zfp<;>rw[hA]at hlp<;>simp at hlp<;>simp -implicitDefEqProofs[hlp]
def zga(r:Trr)(t:Fz)(y:List Fz)(h1:∀x∈r.nums,fsz x<=400)(h2:fsz t<=400)(h3:∀x∈y,fsz x<=1000)(h4:∀x∈r.y,fsz x<=1000)(hl:y.length<=1000):Zb T 585 [.agg (Zei r),efz t,.sl (Zc y) .an]=some (.b (Zfq r t y)):=by
 have w1:=h1 r.t (by simp[Trr.nums]);have w2:=h1 r.h (by simp[Trr.nums]);have c1:=zpv (T:=T) r.t r.h (by omega) (by omega);have z1:=z7b (fv r.t) (fv r.h);have z2:=zoo (L:=400) w1 (by decide);have z3:=zoo (L:=400) w2 (by decide);have c2:=zd4 (T:=T) t (fz (fv r.t+fv r.h)) (by omega) (by rw[zm3];omega);rw[zf6]at c2;have c3:=zd4 (T:=T) t r.t (by omega) (by omega);have c4:=zgm (T:=T) y r.y hl h3 h4;unfold Zfq;rw[zaa Zar.h585 rfl,b585];obtain⟨q1,q2,q3,q4,q5,q6⟩:=r;cases q6 with
 | true=>simp -implicitDefEqProofs[c1,c2]
 | false=>
  by_cases he:fv t=fv q1
  ·simp -implicitDefEqProofs[c3,c4,he]
  ·simp -implicitDefEqProofs[c3,he]
def Zic(h:Hs)(i:Nat):St:=⟨[(1,.ptr (.loc 1) 1 5 0 0),(8,.sl (Z2 h.l) .an),(9,.i .i64 h.l.length),(10,.i .i64 i)],[(.loc 1,bxH h)],3⟩
def zrz(h:Hs)(hs:HsS h 400):Zb T 583 [ehs h]=some (.b (Zf4 h)):=by
 have hlen:=hs.len;have hlp:Zu T 0 0 (.norm false []) l583_0 (Zic h 0)=if Zc9 (h.l.drop 0) h.t h.y=true then some (.n,⟨[],[],2⟩) else some (.r,⟨[(2,.b false)],[],2⟩):=by
  refine zat (Zic h) h.l.length (fun i=>if Zc9 (h.l.drop i) h.t h.y=true then some (.n,⟨[],[],2⟩) else some (.r,⟨[(2,.b false)],[],2⟩)) (fun i hi=>?_) ?_
  ·have hws:=zc2 hi (by omega);have hm:=Y0 hi;have key:Zc9 (h.l.drop i) h.t h.y=(Zfq (h.l[i]'hi) (Zeq (h.l.drop (i+1)) h.t h.y).1 (Zeq (h.l.drop (i+1)) h.t h.y).2&&Zc9 (h.l.drop (i+1)) h.t h.y):=by rw[Yp hi,Zc9]
   have f1:=hs.rt _ hm;have f2:=hs.ry _ hm;generalize hq:h.l[i]'hi=q at *
   by_cases hn:i+1<h.l.length
   ·have hn':(i:Int)+1<h.l.length:=by omega
    have hm2:=Y0 hn;have en:Zeq (h.l.drop (i+1)) h.t h.y=((h.l[i+1]'hn).t,(h.l[i+1]'hn).y):=by rw[Yp hn];rfl
    rw[en]at key;have c:=zga (T:=T) q (h.l[i+1]'hn).t (h.l[i+1]'hn).y f1 (hs.rt _ hm2 _ (by simp[Trr.nums])) (fun x hx=>Yd (hs.ry _ hm2 x hx) (by decide)) (fun x hx=>Yd (f2 x hx) (by decide)) (hs.rl _ hm2);generalize hq2:h.l[i+1]'hn=p at *
    generalize hB:Zfq q p.t p.y=B at *
    obtain⟨p1,p2,p3,p4,p5,p6⟩:=p;have hci:((i:Int)+1).toNat=i+1:=by omega
    cases B with
    | true=>
     left;refine⟨?_,by grind⟩;unfold Zic bxH;simp -implicitDefEqProofs[l583_0,hi,hq,hq2,hws,hn,hn',c,hci]
    | false=>
     right;rw[if_neg (by grind)];unfold Zic bxH;constructor<;>simp -implicitDefEqProofs[l583_0,hi,hq,hq2,hws,hn,hn',c,hci]
   ·have hn':¬ (i:Int)+1<h.l.length:=by omega
    have en:Zeq (h.l.drop (i+1)) h.t h.y=(h.t,h.y):=by rw[Yc5 (by omega)];rfl
    rw[en]at key;have c:=zga (T:=T) q h.t h.y f1 hs.t (fun x hx=>Yd (hs.y x hx) (by decide)) (fun x hx=>Yd (f2 x hx) (by decide)) hs.yl;generalize hB:Zfq q h.t h.y=B at *
    obtain⟨q1,q2,q3,q4,q5,q6⟩:=q;cases B with
    | true=>
     left;refine⟨?_,by grind⟩;unfold Zic bxH;simp -implicitDefEqProofs[l583_0,hi,hq,hws,hn',c]
    | false=>
     right;rw[if_neg (by grind)];unfold Zic bxH;constructor<;>simp -implicitDefEqProofs[l583_0,hi,hq,hws,hn',c]
  ·have e:Zc9 [] h.t h.y=true:=rfl;simp only[Yah,e,if_true];unfold Zic bxH;constructor<;>simp -implicitDefEqProofs[l583_0]
 unfold Zic bxH at hlp;rw[Yat]at hlp;unfold Zf4;rw[zaa Zar.h583 rfl,b583];obtain⟨L,t,y⟩:=h;cases hA:Zc9 L t y<;>rw[hA]at hlp<;>simp at hlp<;>simp -implicitDefEqProofs[hlp]
def HsS.mono{h:Hs}{A B:Nat}(hs:HsS h A)(hAB:A<=B):HsS h B:=
 ⟨hs.len,Yd hs.t hAB,fun x hx=>Yd (hs.y x hx) hAB,hs.yl,fun r hr x hx=>Yd (hs.rt r hr x hx) hAB,fun r hr x hx=>Yd (hs.ry r hr x hx) hAB,hs.rl⟩
def zjj(h:Hs)(hs:HsS h 400):Zb T 579 [ehs h]=some (.i .i64 (Zda h)):=by
 have hs2:HsS h 1000:=hs.mono (by decide);have c1:=zrx (T:=T) h hs2;have c2:=zmq (T:=T) h hs.len;have c3:=zry (T:=T) h hs2;have c4:=zrz (T:=T) h hs;unfold Zda;rw[zaa Zar.h579 rfl,b579];generalize Zf3 h=P at *
 generalize Zjc h=Ln at *
 generalize Zh0 h=Sz at *
 generalize Zf4 h=Ch at *
 obtain⟨L,t,y⟩:=h;cases P with
 | false=>simp -implicitDefEqProofs[c1]
 | true=>
 cases Ln with
 | false=>simp -implicitDefEqProofs[c1,c2]
 | true=>
 by_cases hl:200<L.length
 ·have hl':(200:Int)<L.length:=by omega
  simp -implicitDefEqProofs[c1,c2,hl,hl']
 have hl':¬ (200:Int)<L.length:=by omega
 cases Sz with
 | false=>simp -implicitDefEqProofs[c1,c2,hl,hl',c3]
 | true=>
 cases Ch<;>simp -implicitDefEqProofs[c1,c2,hl,hl',c3,c4]
def zr0(h:Hs)(hs:HsS h 400):Zb T 576 [ehs h]=some (.b (Ziu h)):=by
 have c:=zjj (T:=T) h hs;unfold Ziu;rw[zaa Zar.h576 rfl,b576];generalize Zda h=w at *
 by_cases hw:w=0
 ·subst hw;simp -implicitDefEqProofs[c]
 ·simp -implicitDefEqProofs[c,hw]
def zvl(l:List Trr)(r:Trr):Zb6 (l++[r])=if r.ok then Zb6 l++[Zbs r] else Zb6 l:=by
 grind[Zb6]
def Zke(l:List Trr)(i n:Nat):St:=⟨[(3,.bs (.loc 3) 1 14 0 n),(8,.sl (Z2 l) .an),(9,.i .i64 l.length),(10,.i .i64 i)],[(.loc 3,⟨1,.own,14,Z2 (Zb6 (l.take i))⟩)],3⟩
def zfl(h:Hs)(hs:HsS h 1000):Zb T 532 [ehs h]=some (.sl (Z2 (Zb6 h.l)) .an):=by
 have hlen:=hs.len;have al:∀i,(Zb6 (h.l.take i)).length<=i:=by
  grind[Zb6]
 have hlp:Zu T 0 0 (.norm false [3]) l532_0 (Zke h.l 0 (Zb6 (h.l.take 0)).length)=some (.n,⟨[(3,.bs (.loc 3) 1 14 0 (Zb6 h.l).length)],[(.loc 3,⟨1,.own,14,Z2 (Zb6 h.l)⟩)],3⟩):=by
  refine za3 (fun i=>Zke h.l i (Zb6 (h.l.take i)).length) h.l.length _ (fun i hi=>?_) ?_
  ·have hga:h.l[i]? = some (h.l[i]'hi):=Ya hi;have hws:=zc2 hi (by omega);have hm:=Y0 hi;have key:Zb6 (h.l.take (i+1))=if (h.l[i]'hi).ok then Zb6 (h.l.take i)++[Zbs (h.l[i]'hi)] else Zb6 (h.l.take i):=by
    rw[Y5 hi,zvl]
   have hai:=al i;have c1:=zc9 (T:=T) (h.l[i]'hi);have c2:=zez (T:=T) (h.l[i]'hi).nums (by simp[Trr.nums]) (hs.rt _ hm);have c3:=zez (T:=T) (h.l[i]'hi).y (hs.rl _ hm) (hs.ry _ hm);generalize hq:h.l[i]'hi=q at *
   have hA1:(Zb6 (h.l.take i)).length+1<=4294967296:=by omega
   clear hs hm al;unfold Zke;simp only[key];generalize hA:Zb6 (h.l.take i)=A at *
   clear hA key;have hnn:wkL (Zc q.nums)=Zc q.nums:=zea _;replace c2:Zb T 533 [.sl (Zc q.nums) .an]=some (.sl [Zak (fz (fv q.t)),Zak (fz (fv q.w)),Zak (fz (fv q.h)),Zak (fz (fv q.e))] .an):=c2;generalize hN:Zc q.nums=NN at *
   clear hN;have hpush:wkL (Z2 A++[Zei (Zbs q)])=Z2 (A++[Zbs q]):=by rw[zjq,zqb]
   unfold Zbs at *
   obtain⟨q1,q2,q3,q4,q5,q6⟩:=q;dsimp only at *
   generalize fz (fv q1)=z1 at *
   generalize fz (fv q2)=z2 at *
   generalize fz (fv q3)=z3 at *
   generalize fz (fv q4)=z4 at *
   generalize nrm q5=z5 at *
   obtain⟨L,t,y⟩:=h;dsimp only at *
   cases q6 with
   | true=>
    simp -implicitDefEqProofs[l532_0,hi,hq,hws,c1,c2,c3,hnn,hA1,hpush]
   | false=>
    simp -implicitDefEqProofs[l532_0,hi,hq,hws]
  ·simp only[Ya5];unfold Zke;simp only[Ya5];constructor<;>simp -implicitDefEqProofs[l532_0]
 have e0:Zb6 (h.l.take 0)=[]:=rfl;unfold Zke at hlp;rw[e0]at hlp;simp only[Y8,Yam,zm4]at hlp;have ht:List.take (Zb6 h.l).length (Zb6 h.l)=Zb6 h.l:=Ya5 ..;rw[zaa Zar.h532 rfl,b532];obtain⟨L,t,y⟩:=h;simp -implicitDefEqProofs[hlp,ht]
end
section
variable{T:Tbl}[Zaf T][Zn T][Zw T][Zz T][Zr T][Zv T][Zg T][Zm T][Zy T][Za1 T][Zbp T][Zcj T][Zcx T][Zcc T][Zdj T][Zf0 T][Zfx T][Zp T][Zat T][Za5 T][Zb3 T][Zar T][Zfy T]
def zp1(l:List Trr):(Zb6 l).length<=l.length:=by
 unfold Zb6;rw[Yw];exact Yda ..
def Zkf(A:List Trr)(i:Nat):St:=⟨[(3,.bs (.loc 3) 1 3 0 i),(7,.sl (Z2 A) .an),(8,.i .i64 A.length),(9,.i .i64 i)],[(.loc 3,⟨1,.own,3,Zc ((A.take i).map (·.h))⟩)],3⟩
def zx5(h:Hs)(hs:HsS h 1000):Zb T 519 [ehs h]=some (.sl (Zc (Zle h)) .an):=by
 have c:=zfl (T:=T) h hs;have hl:=Yd (zp1 h.l) hs.len;unfold Zle;generalize Zb6 h.l=A at *
 have hlp:Zu T 0 0 (.norm false [3]) l519_0 (Zkf A 0)=some (.n,⟨[(3,.bs (.loc 3) 1 3 0 A.length)],[(.loc 3,⟨1,.own,3,Zc (A.map (·.h))⟩)],3⟩):=by
  refine za3 (Zkf A) A.length _ (fun i hi=>?_) ?_
  ·have hga:A[i]? = some (A[i]'hi):=Ya hi;have hws:=zc2 hi (by omega);have key:(A.take (i+1)).map (·.h)=(A.take i).map (·.h)++[(A[i]'hi).h]:=by rw[Y5 hi,Yax];rfl
   have hml:((A.take i).map (·.h)).length=i:=by simp;omega
   have hi4:i+1<=4294967296:=by omega
   generalize hq:A[i]'hi=q at *
   unfold Zkf;simp only[key];generalize (A.take i).map (·.h)=M at *
   have hpush:=zc5 hml q.h;obtain⟨q1,q2,q3,q4,q5,q6⟩:=q;dsimp only at *
   simp -implicitDefEqProofs[l519_0,hi,hga,hq,hws,hml,hi4,hpush]
  ·unfold Zkf;rw[Yb (Yi _)];constructor<;>simp -implicitDefEqProofs[l519_0]
 unfold Zkf at hlp;simp only[Y8,Ycf,Ybl,zeo]at hlp;have hml:(A.map (·.h)).length=A.length:=by simp
 have ht:List.take A.length (A.map (·.h))=A.map (·.h):=Yb (by simp);rw[zaa Zfy.h519 rfl,b519];clear hs;generalize A.map (·.h)=M at *
 obtain⟨L,t,y⟩:=h;simp -implicitDefEqProofs[c,hlp,ht,hml]
def Zkg(h:Hs)(A:List Trr)(i:Nat):St:=⟨[(1,.ptr (.loc 1) 1 5 0 0),(4,.bs (.loc 4) 2 3 0 i),(5,.bs (.loc 5) 3 1 0 i),(9,.sl (Z2 A) .an),(10,.i .i64 A.length),(11,.i .i64 i)],
 [(.loc 1,bxH h),(.loc 4,⟨2,.own,3,Zc ((A.take i).map (·.t))⟩),(.loc 5,⟨3,.own,1,Z4 ((A.take i).map (·.y))⟩)],5⟩
def zr1(h:Hs)(A:List Trr)(hl:A.length<=1000):Zu T 0 0 (.norm false [1,4,5]) l513_0 (Zkg h A 0) =
  some (.n,⟨[(1,.ptr (.loc 1) 1 5 0 0),(4,.bs (.loc 4) 2 3 0 A.length),(5,.bs (.loc 5) 3 1 0 A.length)],[(.loc 1,bxH h),(.loc 4,⟨2,.own,3,Zc (A.map (·.t))⟩),(.loc 5,⟨3,.own,1,Z4 (A.map (·.y))⟩)],5⟩):=by
 refine za3 (Zkg h A) A.length _ (fun i hi=>?_) ?_
 ·have hga:A[i]? = some (A[i]'hi):=Ya hi;have hws:=zc2 hi (by omega);have key:(A.take (i+1)).map (·.t)=(A.take i).map (·.t)++[(A[i]'hi).t]:=by rw[Y5 hi,Yax];rfl
  have key2:(A.take (i+1)).map (·.y)=(A.take i).map (·.y)++[(A[i]'hi).y]:=by rw[Y5 hi,Yax];rfl
  have hml:((A.take i).map (·.t)).length=i:=by simp;omega
  have hml2:((A.take i).map (·.y)).length=i:=by simp;omega
  have hi4:i+1<=4294967296:=by omega
  generalize hq:A[i]'hi=q at *
  unfold Zkg bxH;simp only[key,key2];generalize (A.take i).map (·.t)=M at *
  generalize (A.take i).map (·.y)=N at *
  have hpush:=zc5 hml q.t;have hpush2:=zmi hml2 q.y;obtain⟨q1,q2,q3,q4,q5,q6⟩:=q;dsimp only at *
  simp -implicitDefEqProofs[l513_0,hi,hga,hq,hws,hml,hml2,hi4,hpush,hpush2]
 ·unfold Zkg bxH;rw[Yb (Yi _)];constructor<;>simp -implicitDefEqProofs[l513_0]
def zr2(h:Hs)(hs:HsS h 1000):Zb T 513 [ehs h]=some (.tup [.sl (Zc (Zjd h)) .an,.sl (Z4 (Zgf h)) .an]):=by
 have c:=zfl (T:=T) h hs;have hl:=Yd (zp1 h.l) hs.len;have c2:=zhx (T:=T) h.t (Yd hs.t (by decide));have c3:=zez (T:=T) h.y hs.yl hs.y;unfold Zjd Zgf;generalize Zb6 h.l=A at *
 have hlp:=zr1 (T:=T) h A hl;unfold Zkg bxH at hlp;simp only[Y8,Ycf,Ybl,zeo,zyr]at hlp;have hml:(A.map (·.t)).length=A.length:=by simp
 have hml2:(A.map (·.y)).length=A.length:=by simp
 have hi4:A.length+1<=4294967296:=by omega
 rw[zaa Zar.h513 rfl,b513];clear hs;generalize A.map (·.t)=M at *
 generalize A.map (·.y)=N at *
 generalize hn:A.length=n at *
 have hpush:=zc5 hml (fz (fv h.t));have hpush2:=zmi hml2 (nrm h.y);generalize fz (fv h.t)=z at *
 generalize nrm h.y=Y at *
 have ht1:List.take (n+1) (M++[z])=M++[z]:=Yb (by simp;omega);have ht2:List.take (n+1) (N++[Y])=N++[Y]:=Yb (by simp;omega);obtain⟨L,⟨t1,t2,t3⟩,y⟩:=h;dsimp only at *
 simp -implicitDefEqProofs[c,c2,c3,hlp,hml,hml2,hi4,hpush,hpush2,hn,ht1,ht2]
end
class Zlo (T:Tbl):Prop where
abbrev agS(t h:Fz)(y0 y1 f0 f1:List Fz):AV:=
 .agg [.b t.1,.sl (Za t.2.1) .an,.sl (Za t.2.2) .an,.b h.1,.sl (Za h.2.1) .an,.sl (Za h.2.2) .an,.sl (Zc y0) .an,.sl (Zc y1) .an,.sl (Zc f0) .an,.sl (Zc f1) .an]
def Zms(l:List Fz):Rat:=l.foldl (fun p x=>p*fv x) 1
section
variable{T:Tbl}[Zn T][Zw T][Zz T][Zr T][Zv T][Zat T][Zg T][Zm T][Zy T][Za5 T][Zb3 T][Zlo T]
def Zqo(l:List Fz)(i:Nat):St:=⟨[(2,.ptr (.loc 2) 1 3 0 0),(3,.ptr (.loc 3) 2 3 0 0),(7,.sl (Zc l) .an),(8,.i .i64 l.length),(9,.i .i64 i)],[(.loc 2,⟨1,.str,3,[Zfa]⟩),(.loc 3,⟨2,.str,3,[Zak (fz (Zms (l.take i)))]⟩)],4⟩
def Zn3(h:Fz)(y0 y1 f0 f1:List Fz):Bool:=decide (0<fv h)&&decide (y0.length<=300)&&decide (y1.length=y0.length)&&decide (f0.length=y0.length)&&decide (f1.length=y0.length)
end
def Zqp(t h s:Rat):Rat:=(s-t)/h
def Zqq(h x y:Rat):List Rat:=[y*y*(1+2*x),x*x*(3 + -2*x),h*x*y*y,h*x*x * -y]
def Zqr(h x y:Rat):List Rat:=[-(6*x*y/h),6*x*y/h,y*(1 + -3*x),x*(-2+3*x)]
def Zqs(c:List Rat)(y0 y1 f0 f1:List Fz):List Rat:=Zmm ((fzs c).zip [y0,y1,f0,f1]) (List.replicate y0.length 0)
def Zmt(s:Rat):List Fz->Nat->Option Nat
 | [],_=>none
 | t::l,i=>if s<=fv t then some i else Zmt s l (i+1)
def Zqt(s:Rat):List Fz->Option Nat
 | []=>none
 | t::l=>if s<fv t then none else Zmt s l 0
def Zn4:Option Nat->AV
 | some i=>.tup [.i .i64 i,.b true]
 | none=>.tup [.i .i64 (-1),.b false]
section
variable{T:Tbl}[Zaf T][Zn T][Zw T][Zz T][Zr T][Zv T][Zg T][Zm T][Zy T][Za1 T][Zbp T][Zcj T][Zcx T][Zcc T][Zdj T][Zf0 T][Zfx T][Zp T][Zat T][Za5 T][Zb3 T][Zar T][Zfy T][Zmb T][Zi7 T][Zmd T][Zlo T][Zlx T]
def Zpa(s:Fz)(l:List Fz)(i:Nat):St:=⟨[(3,.ptr (.loc 3) 1 3 0 0),(25,.sl (Zc l) .an),(26,.i .i64 l.length),(27,.i .i64 i)],[(.loc 3,⟨1,.str,3,[Zak s]⟩)],3⟩
def Zpb:Option Nat->Ex×St
 | some i=>(.r,⟨[(4,.i .i64 i),(5,.b true)],[],2⟩)
 | none=>(.n,⟨[],[],2⟩)
end
class Zhy (T:Tbl):Prop where
class Zk6 (T:Tbl):Prop where
def Zt(c:UInt8):List UInt8->List (List UInt8)
 | []=>[[]]
 | b::l=>if b=c then []::Zt c l else match Zt c l with
  | []=>[[b]]
  | p::r=>(b::p)::r
theorem zgb(c:UInt8):∀l:List UInt8,(l.count c=0/\Lib.indexByte l c=-1/\Zt c l=[l]) \/
  ∃m:Nat,m<l.length/\Lib.indexByte l c=m/\Zt c l=l.take m::Zt c (l.drop (m+1))
 | []=>.inl ⟨rfl,rfl,rfl⟩
 | b::l=>by
  by_cases h:b=c
  ·right;subst h;refine⟨0,by simp,?_,?_⟩
   ·simp[Lib.indexByte]
   ·simp[Zt]
  ·have hb:(b == c)=false:=by simpa using h
   rcases zgb c l with ⟨h1,h2,h3⟩ | ⟨m,h1,h2,h3⟩
   ·left;refine⟨by rw[List.count_cons_of_ne h,h1],by simp[Lib.indexByte,hb,h2],by simp[Zt,h,h3]⟩
   ·right;have hm:((m:Int) == -1)=false:=by simp
    refine⟨m+1,by simpa using h1,by simp[Lib.indexByte,hb,h2,hm],by simp[Zt,h,h3]⟩
theorem zbo(c:UInt8):∀l:List UInt8,(Zt c l).length=l.count c+1
 | []=>rfl
 | b::l=>by
  have ih:=zbo c l;by_cases h:b=c
  ·subst h;simp[Zt,ih]
  ·rw[List.count_cons_of_ne h,<-ih];cases hs:Zt c l with
   | nil=>rw[hs]at ih;simp at ih
   | cons p r=>simp[Zt,h,hs]
def z1s{T:Tbl}[Zdg T](s:List UInt8)(c:UInt8):Zb T 194 [.s s,.s [c]]=some (.i .i64 (Lib.indexByte s c)):=by rw[p194];rfl
def zkn{T:Tbl}[Zdg T](s:List UInt8)(c:UInt8):Zb T 361 [.s s,.s [c]]=some (.i .i64 ((s.count c:Nat):Int)):=by rw[p361];rfl
section
variable{T:Tbl}[Zdg T][Zap T]
def zv1(s:List UInt8)(c:UInt8):Zb T 362 [.s s,.s [c]]=some (.i .i64 (Lib.indexByte s c)):=by
 have h:=z1s (T:=T) s c;rw[zaa Zap.h362 rfl,b362];simp -implicitDefEqProofs[h]
def Zkq(c:UInt8)(N:Nat)(ps:List (List UInt8))(s:List UInt8):St:=
 ⟨[(0,.s s),(1,.s [c]),(2,.i .i64 0),(3,.i .i64 ((N:Int)-1)),(9,.bs (.loc 31) 1 1 0 N),(10,.i .i64 ps.length)],[(.loc 31,⟨1,.own,1,Zf ps++List.replicate (N-ps.length) [.s []]⟩)],3⟩
def zjl(c:UInt8)(all:List (List UInt8))(hN:all.length<=1000001):∀y:List (List UInt8)×List UInt8,(y.1++Zt c y.2=all/\y.2.length<=1000000) ->
  Zu T 0 0 (.norm false [0,9,10]) l354_0 (Zkq c all.length y.1 y.2)=some (.n,⟨[(0,.s (all.getLastD [])),(9,.bs (.loc 31) 1 1 0 all.length),(10,.i .i64 ((all.length:Int)-1))],[(.loc 31,⟨1,.own,1,Zf all.dropLast++[[.s []]]⟩)],3⟩):=by
 refine za0 (fun y:List (List UInt8)×List UInt8=>Zkq c all.length y.1 y.2) (fun y=>y.1++Zt c y.2=all/\y.2.length<=1000000) (fun y=>y.2.length) (fun _=>_) ?_
 rintro⟨ps,s⟩ ⟨hall,hs⟩
 simp only at hall hs;have hi:=zv1 (T:=T) s c;have hlen:=congrArg List.length hall;rw[Yq,zbo]at hlen;unfold Zkq;rcases zgb c s with ⟨h1,h2,h3⟩ | ⟨m,h1,h2,h3⟩
 ·right;rw[h3]at hall;have e1:all.getLastD []=s:=by rw[<-hall];simp
  have e2:all.dropLast=ps:=by rw[<-hall];simp
  have e3:all.length-ps.length=1:=by omega
  have e4:¬ (ps.length:Int)<(all.length:Int)-1:=by omega
  have e5:(ps.length:Int)=(all.length:Int)-1:=by omega
  rw[e1,e2,e3,e5];have e6:List.replicate 1 [AV.s []]=[[AV.s []]]:=rfl;rw[e6];have hw:wkL (Zf ps++[[AV.s []]])=Zf ps++[[AV.s []]]:=by
   rw[zbw,Yax,<-zbw,zbs]
   rfl
  have hl2:(Zf ps++[[AV.s []]]).length=all.length:=by simp;omega
  clear hall e1 e2 h3;generalize Zf ps++[[AV.s []]]=B at *
  constructor<;>simp -implicitDefEqProofs[l354_0,hw,hl2]
 ·left;rw[h2]at hi;have hpos:0<(Zt c (s.drop (m+1))).length:=by rw[zbo];omega
  have hlen2:=congrArg List.length hall;rw[h3,Yq,Yg]at hlen2;refine⟨(ps++[s.take m],s.drop (m+1)),⟨by rw[<-hall,h3];simp,by simp;omega⟩,by simp;omega,?_,rfl⟩;have q1:(ps.length:Int)<(all.length:Int)-1:=by omega
  have q2:¬ (m:Int)<0:=by omega
  have q3:IntKind.wrap .i64 ((m:Int)+0)=m:=by rw[Int.add_zero];exact zab _ (by omega)
  have q3':IntKind.wrap .i64 (m:Int)=m:=zab _ (by omega);have q4:IntKind.wrap .i64 ((m:Int)+1)=((m+1:Nat):Int):=zab _ (by omega);have q5:IntKind.wrap .i64 ((ps.length:Int)+1)=((ps.length+1:Nat):Int):=zab _ (by omega);have q6:(m:Int)<=s.length:=by omega
  have q7:((m+1:Nat):Int)<=s.length:=by omega
  have q7':m+1<=s.length:=by omega
  have q8:(m:Int)+1<=s.length:=by omega
  have e:(Zf ps++List.replicate (all.length-ps.length) [AV.s []]).set ps.length [AV.s (s.take m)]=Zf (ps++[s.take m])++List.replicate (all.length-(ps.length+1)) [AV.s []]:=by
   rw[Yai _ _ (by simp),zaz,Ybe,show all.length-ps.length=(all.length-(ps.length+1))+1 by omega,Yba (n:=all.length-(ps.length+1)),Yb7,
    show Zf (ps++[s.take m])=Zf ps++[[AV.s (s.take m)]] by simp[Zf],Ybc]
   rfl
  have hl:(Zf ps++List.replicate (all.length-ps.length) [AV.s []]).length=all.length:=by simp;omega
  have hk:wkL ((Zf ps++List.replicate (all.length-ps.length) [AV.s []]).set ps.length [AV.s (s.take m)])=(Zf ps++List.replicate (all.length-ps.length) [AV.s []]).set ps.length [AV.s (s.take m)]:=by
   rw[e,zbw,Yax,<-zbw,zbs];simp[wkR,wkA]
  have hg:(Zf ps++List.replicate (all.length-ps.length) [AV.s []])[ps.length]? = some [AV.s []]:=by
   rw[Ye (by simp),zaz,Ybe,Ycy,if_pos (by omega)]
  simp only[Yq,Yg,Yam];rw[<-e];have hnl:ps.length<all.length:=by omega
  have hnl':(ps.length:Int)<all.length:=by omega
  clear e hall h3 hpos hlen hlen2;generalize Zf ps++List.replicate (all.length-ps.length) [AV.s []]=B at *
  obtain⟨hb,hgE⟩:=Yr.1 hg;simp -implicitDefEqProofs[l354_0,hi,q1,q2,q3,q3',q4,q5,q6,q7,q7',q8,hl,hk,hg,hgE,hnl,hnl',h1]
def zmz(s:List UInt8)(c:UInt8)(hs:s.length<=1000000):Zb T 346 [.s s,.s [c]]=some (.sl (Zf (Zt c s)) .an):=by
 have hc:=zkn (T:=T) s c;have hcl:s.count c<=s.length:=Ydh;have hlen:=zbo c s;have h:=zjl (T:=T) c (Zt c s) (by omega) ([],s) ⟨by simp,hs⟩;unfold Zkq at h;simp only[Yam,Ydc,Y8]at h;have e0:Zf []=[]:=rfl;rw[e0,Ybn,hlen]at h;have w1:IntKind.wrap .i64 ((s.count c:Int)+1)=((s.count c+1:Nat):Int):=zab _ (by omega);have w2:IntKind.wrap .i64 ((s.length:Int)+1)=((s.length+1:Nat):Int):=zab _ (by omega);have w3:IntKind.wrap .i64 (((s.count c+1:Nat):Int)-1)=((s.count c+1:Nat):Int)-1:=zab _ (by omega);have w4:IntKind.wrap .i64 (((s.count c+1:Nat):Int)-1+1)=((s.count c+1:Nat):Int):=by
  rw[Int.sub_add_cancel];exact zab _ (by omega)
 have mm:min ((s.count c+1:Nat):Int) ((s.length+1:Nat):Int)=((s.count c+1:Nat):Int):=by omega
 have hz:wkL (List.replicate (s.count c+1) [AV.s []])=List.replicate (s.count c+1) [AV.s []]:=by rw[zbw,List.map_replicate];rfl
 obtain⟨L,hL⟩:∃L,L=Zt c s:=⟨_,rfl⟩;rw[<-hL]at h ⊢ hlen;have hne:L≠[]:=by intro e;rw[e]at hlen;simp at hlen
 have hset:(Zf L.dropLast++[[AV.s []]]).set (s.count c) [AV.s (L.getLastD [])]=Zf L:=by
  have h1:L.dropLast.length=s.count c:=by rw[Ya8];omega
  rw[Yai _ _ (by simp;omega),zaz,h1,Ybe,Yb7];have h2:L=L.dropLast++[L.getLastD []]:=by
   rw[Ydw,Ydf hne,Yb5,Ycg]
  conv=>rhs;rw[h2]
  simp[Zf]
 have hl2:(Zf L.dropLast++[[AV.s []]]).length=s.count c+1:=by simp[Ya8];omega
 have hg:(Zf L.dropLast++[[AV.s []]])[s.count c]? = some [AV.s []]:=by
  rw[Ye (by simp[Ya8];omega)];simp[Ya8,hlen]
 have hr:(Zf L).length=s.count c+1:=by simp[hlen]
 have n1:¬ ((s.count c:Int)+1<0):=by omega
 have n2:(s.count c:Int)+1<=4294967296:=by omega
 have hwR:wkL (Zf L)=Zf L:=zbs L;generalize s.count c=k at *
 generalize Zf L.dropLast++[[AV.s []]]=B at *
 obtain⟨hb,hgE⟩:=Yr.1 hg;generalize L.getLastD []=last at *
 generalize Zf L=R at *
 clear hL hne;have hk:(((k+1:Nat):Int)-1)=k:=by omega
 rw[hk]at h w3 w4;have tk:List.take (k+1) R=R:=Yb (by omega);have hnlt:¬ s.length<k:=by omega
 have nn:(0:Int)<=(k:Int)+1:=by omega
 have nt:((k:Int)+1).toNat=k+1:=by omega
 have nk:(k:Int)<(k:Int)+1:=by omega
 have nle:(k:Int)+1<=(R.length:Int):=by omega
 have nle2:(k:Int)<=(B.length:Int):=by omega
 have hg354:Zb T 354 [.s s,.s [c],.i .i64 0,.i .i64 (-1)]=some (.sl R .an):=by
  rw[zaa Zap.h354 rfl,b354];simp -implicitDefEqProofs[hc,w1,w2,w3,w4,mm,hz,h,hset,hl2,hg,hgE,hr,n1,n2,tk,hnlt,nn,nt,nk,nle,nle2,hwR,hr]
 rw[zaa Zap.h346 rfl,b346];simp -implicitDefEqProofs[hg354,hwR]
end
abbrev flt(k a:Int):AV:=.agg [.i .i64 k,.i .i64 0,.i .i64 0,.i .i64 a]
def Zfm(c:UInt8):Bool:=c == 47 || c == 46
def Z3:List UInt8->Nat
 | []=>0
 | c::r=>if Zfm c then 0 else Z3 r+1
theorem zkd:∀s,Z3 s<=s.length
 | []=>Yi _
 | c::r=>by
  have:=zkd r;simp only[Z3];split
  ·omega
  ·simp only[Yg];omega
theorem zps:∀s:List UInt8,Lib.indexAny s [47,46]=if Z3 s<s.length then (Z3 s:Int) else -1
 | []=>rfl
 | c::r=>by
  have ih:=zps r;have hc:([47,46]:List UInt8).contains c=Zfm c:=by
   rw[Yb0];simp only[List.contains_iff_mem,Yn,Yay,or_false,Zfm,Yck,beq_iff_eq]
  have hle:=zkd r;simp only[Lib.indexAny,hc,Z3];by_cases hcut:Zfm c=true
  ·simp[hcut]
  ·simp only[hcut,if_false,Yg,Ydy,Yad];rw[ih];by_cases h:Z3 r<r.length
   ·have e:((Z3 r:Int) == -1)=false:=by simp
    simp[h,e]
   ·simp[h]
theorem zpt:∀(s:List UInt8),Z3 s<s.length->∃c,s[Z3 s]? = some c/\(c=47\/c=46)
 | [],h=>by simp at h
 | c::r,h=>by
  simp only[Z3]at h ⊢;cases hc:Zfm c with
  | true=>
   refine⟨c,by simp,?_⟩;simpa[Zfm]using hc
  | false=>
   rw[hc]at h;simp only[Yad,if_false,Yg,Ydy]at h ⊢;obtain⟨d,h1,h2⟩:=zpt r h;exact⟨d,by simpa using h1,h2⟩
def zzc{l:List UInt8}(h0:¬ 0<=Z1 l):l.length<=60/\(ofN (rd l)).length<=60:=by
 have h1:Zcn 0 l<0:=by
  unfold Z1 at h0;split at h0
  ·omega
  ·omega
 obtain⟨h2,h3⟩:=zgo 0 l (Y4 _) h1;refine⟨by omega,zaj (k:=60) ?_⟩;have h4:=zwc h3;have h5:10^l.length<=10^60:=Yt (by decide) (by omega);exact Ym h4 (Yd h5 (by decide))
def Zfn(z:Int)(neg:Bool)(s:List UInt8)(c:UInt8)(at_:Nat):Rat×Int×Int:=
 let rest:=s.drop at_
 if 0<=Z1 rest then (0,1,Z1 rest+at_)
 else if c=47 then (if rd rest=0 then (0,2,at_) else (mkRat z (rd rest),0,0))
 else (mkRat (sg neg (z.natAbs*10^rest.length+rd rest)) (10^rest.length),0,0)
def Za8(s:List UInt8):Rat×Int×Int:=
 let first:=s.take (Z3 s)
 if 0<=Zbr first then (0,1,Zbr first+Zcy first)
 else if Z3 s<s.length then Zfn (Zav first) (s.head? = some 45) s (s.getD (Z3 s) 0) (Z3 s+1)
 else (mkRat (Zav first) 1,0,0)
def z1d{n:Nat}(h:n<=60):(ofN (10^n)).length<=60:=by
 refine zaj (k:=60) ?_;have h5:10^n<=10^60:=Yt (by decide) h;exact Yc1 h5 (by decide)
def zu1(l:List UInt8):-1<=Zbr l/\Zbr l<=60/\0<=Zcy l/\Zcy l<=1:=by
 have key:∀l',-1<=Z1 l'/\Z1 l'<=60:=by
  intro l';unfold Z1;split
  ·omega
  ·exact⟨zol 0 l',zib 0 l' (by decide)⟩
 unfold Zbr Zcy;refine⟨(key _).1,(key _).2,?_,?_⟩<;>split<;>omega
section
variable{T:Tbl}[Zn T][Zw T][Zz T][Zr T][Zv T][Zp T][Zg T][Zm T][Zy T][Zcr T][Zdg T][Zap T][Zd7 T]
def zke(n:Bool)(a d:List UInt32)(ha:a.length<=10000)(hd:d.length<=10000) :
  Zb T 204 [wh n a,.sl (Za d) .an]=some (.tup (if val d=0 then [efz (fz 0),.b false] else [efz (fz (mkRat (wv n a) (val d))),.b true])):=by
 have c0:=zgl (T:=T);have c1:=zen (T:=T) d (by omega);rw[zaa Zcr.h204 rfl,b204];by_cases h:val d=0
 ·rw[if_pos h];rw[decide_eq_true h]at c1;generalize fz 0=Z at *
  simp -implicitDefEqProofs[c0,c1]
 ·rw[if_neg h];rw[decide_eq_false h]at c1;have c2:=zod (T:=T) n a d ha hd h;generalize fz (mkRat (wv n a) (val d))=R at *
  simp -implicitDefEqProofs[c1,c2]
def zrd(l:List UInt8):Zb T 345 [.s l,.s [45]]=some (.b (l.head? = some 45)):=by
 have h1:Zb T 123 [.s l,.s [45]]=some (.b (l.head? = some 45)):=by
  rw[zaa Zp.h123 rfl,b123];cases l with
  | nil=>simp -implicitDefEqProofs
  | cons c r=>
   have h2:(1:Int)<=(r.length:Int)+1:=by omega
   by_cases hc:c=45<;>simp -implicitDefEqProofs[h2,hc]
 rw[zaa Zap.h345 rfl,b345];simp -implicitDefEqProofs[h1]
def zjh(s:List UInt8)(k:Nat)(hk:k<=s.length)(hs:s.length<=1000000):Zb T 253 [.s s,.i .i64 k] =
  some (.tup (if 0<=Z1 (s.drop k) then [.sl [] .an,flt 1 (Z1 (s.drop k)+k)] else [.sl (Za (ofN (rd (s.drop k)))) .an,flt 0 0])):=by
 have h1:=zhw (T:=T) (s.drop k) (by rw[Ybp];omega);have hk':(k:Int)<=s.length:=by omega
 rw[zaa Zd7.h253 rfl,b253];by_cases h0:0<=Z1 (s.drop k)
 ·rw[if_pos h0]at h1 ⊢;have hw:Z1 (s.drop k)<=60:=by
   unfold Z1;split
   ·omega
   ·exact zib 0 _ (by decide)
  have w1:IntKind.wrap .i64 (Z1 (s.drop k)+(k:Int))=Z1 (s.drop k)+(k:Int):=zab _ (by omega);generalize Z1 (s.drop k)=W at *
  simp -implicitDefEqProofs[hk,hk',h1,w1]
 ·rw[if_neg h0]at h1 ⊢;generalize ofN (rd (s.drop k))=R at *
  simp -implicitDefEqProofs[hk,hk',h1]
def zxm(n:Bool)(a:List UInt32)(s:List UInt8)(k:Nat)(ha:a.length<=10000)(hk:k<=s.length)(hs:s.length<=1000000):Zb T 254 [wh n a,.s s,.i .i64 k] =
  some (.tup (if 0<=Z1 (s.drop k) then [efz (fz 0),flt 1 (Z1 (s.drop k)+k)] else if rd (s.drop k)=0 then [efz (fz 0),flt 2 k] else [efz (fz (mkRat (wv n a) (rd (s.drop k)))),flt 0 0])):=by
 have h1:=zjh (T:=T) s k hk hs;have c0:=zgl (T:=T);rw[zaa Zd7.h254 rfl,b254];by_cases h0:0<=Z1 (s.drop k)
 ·rw[if_pos h0]at h1 ⊢;generalize fz 0=Z at *
  generalize Z1 (s.drop k)+(k:Int)=W at *
  simp -implicitDefEqProofs[h1,c0]
 ·rw[if_neg h0]at h1 ⊢;have hl:=(zzc h0).2;have h2:=zke (T:=T) n a (ofN (rd (s.drop k))) ha (by omega);rw[zad]at h2;by_cases hz:rd (s.drop k)=0
  ·rw[if_pos hz]at h2 ⊢;clear hl h0;generalize fz 0=Z at *
   generalize ofN (rd (s.drop k))=R at *
   simp -implicitDefEqProofs[h1,h2]
  ·rw[if_neg hz]at h2 ⊢;clear hl h0;generalize fz (mkRat (wv n a) (rd (s.drop k)))=Z at *
   generalize ofN (rd (s.drop k))=R at *
   simp -implicitDefEqProofs[h1,h2]
def zre(ht:∀n:Nat,n<=60->Zb T 252 [.i .i64 n]=some (.sl (Za (ofN (10^n))) .an))(n neg:Bool)(a:List UInt32)(s:List UInt8)(k:Nat)(ha:a.length<=1000)(hk:k<=s.length)(hs:s.length<=1000000) :
  Zb T 255 [wh n a,.b neg,.s s,.i .i64 k] =
  some (.tup (if 0<=Z1 (s.drop k) then [efz (fz 0),flt 1 (Z1 (s.drop k)+k)] else [efz (fz (mkRat (sg neg (val a*10^(s.drop k).length+rd (s.drop k))) (10^(s.drop k).length))),flt 0 0])):=by
 have h1:=zjh (T:=T) s k hk hs;have c0:=zgl (T:=T);rw[zaa Zd7.h255 rfl,b255];by_cases h0:0<=Z1 (s.drop k)
 ·rw[if_pos h0]at h1 ⊢;generalize fz 0=Z at *
  generalize Z1 (s.drop k)+(k:Int)=W at *
  simp -implicitDefEqProofs[h1,c0]
 ·rw[if_neg h0]at h1 ⊢;obtain⟨hl60,hl⟩:=zzc h0;have h2:=ht (s.drop k).length hl60;have ht60:=z1d hl60;have h3:=zfm (T:=T) a (ofN (10^(s.drop k).length)) (by omega) (by omega);rw[zad]at h3;have hm:(ofN (val a*10^(s.drop k).length)).length<=1060:=by
   have e1:=zac a;have e2:=zdv (x:=val a) (y:=10^(s.drop k).length) (L:=1000) (M:=60) (by omega) ht60;omega
  have h4:=zvj (T:=T) [ofN (val a*10^(s.drop k).length),ofN (rd (s.drop k))] (by simp) (by
   intro x hx;simp only[Yn,Yay,or_false]at hx;rcases hx with rfl | rfl<;>omega)
  have e1:lls [ofN (val a*10^(s.drop k).length),ofN (rd (s.drop k))]=[[.sl (Za (ofN (val a*10^(s.drop k).length))) .an],[.sl (Za (ofN (rd (s.drop k)))) .an]]:=rfl;have e2:Zdo [ofN (val a*10^(s.drop k).length),ofN (rd (s.drop k))]=val a*10^(s.drop k).length+rd (s.drop k):=by simp[Zdo,zad]
  rw[e1,e2]at h4;have hsum:(ofN (val a*10^(s.drop k).length+rd (s.drop k))).length<=10000:=by
   have e3:=zdu (x:=((val a*10^(s.drop k).length:Nat):Int)) (y:=((rd (s.drop k):Nat):Int)) (L:=1060) (by rw[Yc2];exact hm) (by rw[Yc2];omega);rw[<-Yeb,Yc2]at e3;omega
  have h5:=zke (T:=T) neg (ofN (val a*10^(s.drop k).length+rd (s.drop k))) (ofN (10^(s.drop k).length)) hsum (by omega);have hne:¬ 10^(s.drop k).length=0:=Nat.ne_of_gt (Ybr (by decide));rw[zad,if_neg hne]at h5;unfold wv at h5;rw[zad]at h5;have hd:(s.drop k).length=s.length-k:=Ybp;have w1:IntKind.wrap .i64 ((s.length:Int)-(k:Int))=(((s.drop k).length:Nat):Int):=by
   rw[hd];have:((s.length-k:Nat):Int)=(s.length:Int)-k:=by omega
   rw[this];exact zab _ (by omega)
  clear hl hl60 ht60 hm e1 e2 hsum hne h0 hd ht;generalize 10^(s.drop k).length=TN at *
  generalize (s.drop k).length=dl at *
  generalize fz (mkRat (sg neg (val a*TN+rd (s.drop k))) TN)=R at *
  generalize ofN (val a*TN+rd (s.drop k))=R1 at *
  generalize ofN (val a*TN)=R2 at *
  generalize ofN (rd (s.drop k))=R3 at *
  generalize ofN TN=R4 at *
  simp -implicitDefEqProofs[h1,h2,h3,h4,h5,w1]
def zxn(ht:∀n:Nat,n<=60->Zb T 252 [.i .i64 n]=some (.sl (Za (ofN (10^n))) .an))(s:List UInt8)(hs:s.length<=100000) :
  Zb T 256 [.s s]=some (.tup [efz (fz (Za8 s).1),flt (Za8 s).2.1 (Za8 s).2.2]):=by
 have hi:Zb T 344 [.s s,.s [47,46]]=some (.i .i64 (if Z3 s<s.length then (Z3 s:Int) else -1)):=by
  rw[p344,<-zps];simp only[prim344];rw[if_pos (by omega)]
 have hr:=zsh (T:=T) (s.take (Z3 s)) (by rw[Ya3];omega);have hle:=zkd s;have c0:=zgl (T:=T);rw[zaa Zd7.h256 rfl,b256];by_cases hc:Z3 s<s.length
 ·rw[if_pos hc]at hi;have q1:(0:Int)<=(Z3 s:Int):=by omega
  have q2:(Z3 s:Int)<=s.length:=by omega
  have q3:¬ (Z3 s:Int)<0:=by omega
  by_cases h0:0<=Zbr (s.take (Z3 s))
  ·have eR:Za8 s=(0,1,Zbr (s.take (Z3 s))+Zcy (s.take (Z3 s))):=by simp only[Za8,if_pos h0]
   rw[eR];rw[if_pos h0]at hr;clear eR;simp only;generalize fz 0=Z at *
   generalize Zbr (s.take (Z3 s))+Zcy (s.take (Z3 s))=W at *
   simp -implicitDefEqProofs[hi,hr,c0,q1,q2,q3,hle]
  ·rw[if_neg h0]at hr;have hrl:=zqa h0;obtain⟨c,hg,hcc⟩:=zpt s hc;obtain⟨_,hgE⟩:=Yr.1 hg;have hd:s.getD (Z3 s) 0=c:=by rw[Ycq,hg];rfl
   have eR:Za8 s=Zfn (Zav (s.take (Z3 s))) (decide (s.head? = some 45)) s c (Z3 s+1):=by simp only[Za8,if_neg h0,if_pos hc,hd]
   rw[eR];have w1:IntKind.wrap .i64 ((Z3 s:Int)+1)=((Z3 s+1:Nat):Int):=zab _ (by omega);have q4:(Z3 s:Int)<s.length:=by omega
   have px:=zrd (T:=T) s;rcases hcc with rfl | rfl
   ·have ho:=zxm (T:=T) (decide (Zav (s.take (Z3 s))<0)) (ofN (Zav (s.take (Z3 s))).natAbs) s (Z3 s+1) (by omega) (by omega) (by omega);rw[zis]at ho;have ho2:Zb T 254 [ez (Zav (s.take (Z3 s))),.s s,.i .i64 ((Z3 s+1:Nat):Int)]=some (.tup [efz (fz (Zfn (Zav (s.take (Z3 s))) (decide (s.head? = some 45)) s 47 (Z3 s+1)).1),
      flt (Zfn (Zav (s.take (Z3 s))) (decide (s.head? = some 45)) s 47 (Z3 s+1)).2.1 (Zfn (Zav (s.take (Z3 s))) (decide (s.head? = some 45)) s 47 (Z3 s+1)).2.2]):=by
     rw[ho];simp only[Zfn,if_true];split
     ·rfl
     ·split<;>rfl
    clear ho eR hd;generalize Zfn (Zav (s.take (Z3 s))) (decide (s.head? = some 45)) s 47 (Z3 s+1)=R at *
    generalize fz R.1=Z at *
    have ec:((Z3 s+1:Nat):Int)=(Z3 s:Int)+1:=by omega
    rw[ec]at ho2 w1;clear hrl h0 c0 ht;generalize Zav (s.take (Z3 s))=RZ at *
    simp -implicitDefEqProofs[hi,hr,q1,q2,q3,q4,hle,hc,hg,hgE,w1,ho2]
   ·have ho:=zre (T:=T) ht (decide (Zav (s.take (Z3 s))<0)) (decide (s.head? = some 45)) (ofN (Zav (s.take (Z3 s))).natAbs) s (Z3 s+1) (by omega) (by omega) (by omega);rw[zad]at ho;have ho2:Zb T 255 [ez (Zav (s.take (Z3 s))),.b (decide (s.head? = some 45)),.s s,.i .i64 ((Z3 s+1:Nat):Int)]=some (.tup [efz (fz (Zfn (Zav (s.take (Z3 s))) (decide (s.head? = some 45)) s 46 (Z3 s+1)).1),
      flt (Zfn (Zav (s.take (Z3 s))) (decide (s.head? = some 45)) s 46 (Z3 s+1)).2.1 (Zfn (Zav (s.take (Z3 s))) (decide (s.head? = some 45)) s 46 (Z3 s+1)).2.2]):=by
     rw[ho];simp only[Zfn,show ¬ ((46:UInt8)=47) by decide,if_false];split<;>rfl
    clear ho eR hd;generalize Zfn (Zav (s.take (Z3 s))) (decide (s.head? = some 45)) s 46 (Z3 s+1)=R at *
    generalize fz R.1=Z at *
    have ec:((Z3 s+1:Nat):Int)=(Z3 s:Int)+1:=by omega
    rw[ec]at ho2 w1;clear hrl h0 c0 ht;generalize Zav (s.take (Z3 s))=RZ at *
    generalize decide (s.head? = some 45)=hd45 at *
    simp -implicitDefEqProofs[hi,hr,q1,q2,q3,q4,hle,hc,hg,hgE,w1,px,ho2]
 ·rw[if_neg hc]at hi;have hcl:Z3 s=s.length:=by omega
  have htk:s.take (Z3 s)=s:=by rw[hcl];exact Ya5
  rw[htk]at hr;by_cases h0:0<=Zbr s
  ·have eR:Za8 s=(0,1,Zbr s+Zcy s):=by simp only[Za8,htk,if_pos h0]
   rw[eR];rw[if_pos h0]at hr;clear eR;simp only;generalize fz 0=Z at *
   generalize Zbr s+Zcy s=W at *
   simp -implicitDefEqProofs[hi,hr,c0]
  ·have eR:Za8 s=(mkRat (Zav s) 1,0,0):=by simp only[Za8,htk,if_neg h0,if_neg hc]
   rw[eR];rw[if_neg h0]at hr;have hrl:=zqa h0;have h1:=zd6 (T:=T) 1 (by decide);have h2:=zke (T:=T) (decide (Zav s<0)) (ofN (Zav s).natAbs) (ofN 1) (by omega) (by rw[zkr];decide);rw[zad,if_neg (by decide),zis]at h2;clear hrl h0 c0 ht eR;simp only;generalize fz (mkRat (Zav s) 1)=Z at *
   generalize Zav s=RZ at *
   generalize ofN 1=O at *
   simp -implicitDefEqProofs[hi,hr,h1,h2]
end
def Zb8:List (List UInt8)->Nat->List Rat->List Rat×Int×Int
 | [],_,acc=>(acc,0,0)
 | w::ws,k,acc=>if (Za8 w).2.1=0 then Zb8 ws (k+w.length+1) (acc++[(Za8 w).1]) else ([],(Za8 w).2.1,(Za8 w).2.2+k)
def Zjk(s:List UInt8):List Rat×Int×Int:=if s=[] then ([],0,0) else Zb8 (Zt 44 s) 0 []
def zrf(w:List UInt8):((Za8 w).2.1=0/\(Za8 w).2.2=0)\/(((Za8 w).2.1=1\/(Za8 w).2.1=2)/\0<=(Za8 w).2.2/\(Za8 w).2.2<=w.length+62):=by
 have hle:=zkd w;obtain⟨z1,z2,z3,z4⟩:=zu1 (w.take (Z3 w));unfold Za8;simp only;split
 ·next h=>refine .inr ⟨.inl rfl,?_,?_⟩<;>simp only<;>omega
 ·split
  ·next h h2=>
   unfold Zfn;simp only;split
   ·next h3=>
    have:Z1 (w.drop (Z3 w+1))<=60:=by
     unfold Z1;split
     ·omega
     ·exact zib 0 _ (by decide)
    refine .inr ⟨.inl rfl,?_,?_⟩<;>simp only<;>omega
   ·split
    ·split
     ·refine .inr ⟨.inr rfl,?_,?_⟩<;>simp only<;>omega
     ·left;simp
    ·left;simp
  ·left;simp
section
variable{T:Tbl}[Zaf T][Zn T][Zw T][Zz T][Zr T][Zv T][Zp T][Zat T][Zg T][Zm T][Zy T][Zcr T][Zdg T][Zap T][Zcj T][Zd7 T][Za5 T][Zb3 T][Ze3 T]
def zxo(n:Nat)(hn:n<=60):Zb T 252 [.i .i64 n]=some (.sl (Za (ofN (10^n))) .an):=by
 have c1:=zd6 (T:=T) 10 (by decide);have hb:Zab 10=4:=by decide +kernel
 have c2:=zyc (T:=T) (ofN 10) n (by
  have:=zaj (n:=10) (k:=1) (by decide);omega) (by rw[zad,hb];decide) (by rw[zad,hb];omega)
 rw[zad]at c2;rw[zaa Zd7.h252 rfl,b252];generalize ofN (10^n)=R at *
 generalize ofN 10=N at *
 simp -implicitDefEqProofs[c1,c2]
def zmf(s:List UInt8)(hs:s.length<=100000):Zb T 256 [.s s]=some (.tup [efz (fz (Za8 s).1),flt (Za8 s).2.1 (Za8 s).2.2]):=
 zxn (T:=T) zxo s hs
def Zjl(ws:List (List UInt8))(y:Nat×Nat×List Rat):St:=
 ⟨[(3,.ptr (.loc 3) 1 4 0 0),(4,.bs (.loc 4) 2 3 0 y.2.2.length),(5,.i .i64 y.2.1),(14,.sl (Zf ws) .an),(15,.i .i64 ws.length),(16,.i .i64 y.1)],
  [(.loc 3,⟨1,.str,4,[[.i .i64 0,.i .i64 0,.i .i64 0,.i .i64 0]]⟩),(.loc 4,⟨2,.own,3,Zc (fzs y.2.2)⟩)],4⟩
def Zh8(r:List Rat×Int×Int):Option (Ex×St):=
 if r.2.1=0 then some (.n,⟨[(3,.ptr (.loc 3) 1 4 0 0),(4,.bs (.loc 4) 2 3 0 r.1.length)],[(.loc 3,⟨1,.str,4,[[.i .i64 0,.i .i64 0,.i .i64 0,.i .i64 0]]⟩),(.loc 4,⟨2,.own,3,Zc (fzs r.1)⟩)],4⟩)
 else some (.r,⟨[(2,.sl [] .an),(3,.ptr (.loc 3) 1 4 0 0)],[(.loc 3,⟨1,.str,4,[[.i .i64 r.2.1,.i .i64 0,.i .i64 0,.i .i64 r.2.2]]⟩)],3⟩)
def z1e(ws:List (List UInt8))(hl:ws.length<=1000000)(hw:∀w∈ws,w.length<=100000):∀y:Nat×Nat×List Rat,(y.1<=ws.length/\y.2.1<=y.1*100001/\y.2.2.length=y.1) ->
  Zu T 0 0 (.norm false [3,4]) l275_0 (Zjl ws y)=Zh8 (Zb8 (ws.drop y.1) y.2.1 y.2.2):=by
 refine za0 (Zjl ws) (fun y=>y.1<=ws.length/\y.2.1<=y.1*100001/\y.2.2.length=y.1) (fun y=>ws.length-y.1) (fun y=>Zh8 (Zb8 (ws.drop y.1) y.2.1 y.2.2)) ?_
 rintro⟨i,k,acc⟩ ⟨hi,hk,ha⟩
 simp only at hi hk ha ⊢;by_cases h0:i<ws.length
 ·have hm:=Y0 h0;have hwl:=hw _ hm;have hg:(Zf ws)[i]? = some [.s (ws[i]'h0)]:=by simp[Zf,h0]
  have hil:i<(Zf ws).length:=by simpa using h0
  have hil':(i:Int)<ws.length:=by omega
  obtain⟨_,hgE⟩:=Yr.1 hg;have hwR:=zbs ws;have c:=zmf (T:=T) (ws[i]'h0) hwl;have hf:=zrf (ws[i]'h0);have hdr:ws.drop i=ws[i]'h0::ws.drop (i+1):=Yp h0;have hws:=zc2 h0 (by omega);generalize ws[i]'h0=w at *
  have hml:(fzs acc).length=i:=by rw[zjk,ha]
  have hb4:i<=4294967295:=by omega
  rcases hf with ⟨f1,f2⟩ | ⟨f1,f2,f3⟩
  ·left;have hp:=zc5 hml (fz (Za8 w).1);have ef:fzs (acc++[(Za8 w).1])=fzs acc++[fz (Za8 w).1]:=by simp[fzs]
   have w1:IntKind.wrap .i64 ((w.length:Int)+1)=(w.length:Int)+1:=zab _ (by omega);have w2:IntKind.wrap .i64 ((k:Int)+((w.length:Int)+1))=((k+w.length+1:Nat):Int):=by
    have:((k+w.length+1:Nat):Int)=(k:Int)+((w.length:Int)+1):=by omega
    rw[this];exact zab _ (by omega)
   refine⟨(i+1,k+w.length+1,acc++[(Za8 w).1]),⟨by omega,by simp only;omega,by simp[ha]⟩,by simp only;omega,?_,?_⟩
   ·unfold Zjl;simp only[Yq,Yg,Yam,ha];rw[ef];rw[f1,f2]at c;clear hdr ef hw f1 f2;generalize fz (Za8 w).1=X at *
    generalize fzs acc=M at *
    generalize Zf ws=R at *
    simp -implicitDefEqProofs[l275_0,h0,hil,hil',hg,hgE,c,hws,w1,w2,hml,hb4,hp,hwR]
   ·simp only;rw[hdr,Zb8,if_pos f1]
  ·right;have hne:¬ (Za8 w).2.1=0:=by omega
   have er:Zb8 (ws.drop i) k acc=([],(Za8 w).2.1,(Za8 w).2.2+k):=by rw[hdr,Zb8,if_neg hne]
   rw[er];unfold Zh8 Zjl;simp only[ha];rw[if_neg hne];have w1:IntKind.wrap .i64 ((Za8 w).2.2+(k:Int))=(Za8 w).2.2+(k:Int):=zab _ (by omega);clear hdr er hw;generalize fz (Za8 w).1=X at *
   generalize (Za8 w).2.1=K at *
   generalize (Za8 w).2.2=A at *
   generalize fzs acc=M at *
   generalize Zf ws=R at *
   rcases f1 with rfl | rfl<;>(constructor<;>simp -implicitDefEqProofs[l275_0,h0,hil,hil',hg,hgE,c,w1])
 ·right;have hi2:i=ws.length:=by omega
  subst hi2;rw[Yah,Zb8];unfold Zh8 Zjl;simp only[if_true,ha];have hn:¬ ws.length<(Zf ws).length:=by simp
  generalize fzs acc=M at *
  generalize Zf ws=R at *
  generalize ws.length=n at *
  constructor<;>simp -implicitDefEqProofs[l275_0]
theorem zmg:∀(ws:List (List UInt8)) (k:Nat) (acc:List Rat),(Zb8 ws k acc).2.1≠0->(Zb8 ws k acc).1=[]
 | [],_,_,h=>by simp[Zb8]at h
 | w::ws,k,acc,h=>by
  unfold Zb8 at h ⊢;split at h
  ·next h1=>rw[if_pos h1];exact zmg ws _ _ h
  ·next h1=>rw[if_neg h1]
theorem zpu:∀(ws:List (List UInt8)) (k:Nat) (acc:List Rat),(Zb8 ws k acc).2.1=0->(Zb8 ws k acc).2.2=0
 | [],_,_,h=>rfl
 | w::ws,k,acc,h=>by
  unfold Zb8 at h ⊢;split at h
  ·next h1=>rw[if_pos h1];exact zpu ws _ _ h
  ·next h1=>exact absurd h h1
def zxp(s:List UInt8)(hs:s.length<=100000) :
  Zb T 275 [.s s]=some (.tup [.sl (Zc (fzs (Zjk s).1)) .an,flt (Zjk s).2.1 (Zjk s).2.2]):=by
 rw[zaa Ze3.h275 rfl,b275];unfold Zjk;by_cases h0:s=[]
 ·subst h0;have e0:fzs []=[]:=rfl;simp only[if_true,e0,zeo];simp -implicitDefEqProofs
 ·rw[if_neg h0];have hpl:∀(l:List UInt8) (w:List UInt8),w∈Zt 44 l->w.length<=l.length:=by
   intro l
   induction l with
   | nil=>intro w hw;simp[Zt]at hw;simp[hw]
   | cons b l ih=>
    intro w hw;unfold Zt at hw;split at hw
    ·rcases Yn.1 hw with rfl | hw
     ·simp
     ·have:=ih w hw;simp;omega
    ·cases hsp:Zt 44 l with
     | nil=>rw[hsp]at hw;simp at hw;simp[hw]
     | cons p r=>
      rw[hsp]at hw ih;rcases Yn.1 hw with rfl | hw
      ·have:=ih p Yj;simp;omega
      ·have:=ih w (Yh _ hw);simp;omega
  have hcl:(Zt 44 s).length<=s.length+1:=by
   rw[zbo];have:s.count 44<=s.length:=Ydh;omega
  have c:=zmz (T:=T) s 44 (by omega);have h:=z1e (T:=T) (Zt 44 s) (by omega) (fun w hw=>by have:=hpl s w hw;omega) (0,0,[]) ⟨Y4 _,Y4 _,rfl⟩;have hnil:=zmg (Zt 44 s) 0 [];have hat:=zpu (Zt 44 s) 0 [];simp only[Yat]at h;unfold Zjl at h;have e0:fzs []=[]:=rfl;simp only[e0,zeo,Y8,Yam]at h;generalize Zb8 (Zt 44 s) 0 []=r at *
  unfold Zh8 at h;have hsl:=zaz (Zt 44 s);have hwR:=zbs (Zt 44 s);generalize Zf (Zt 44 s)=R at *
  generalize (Zt 44 s).length=n at *
  by_cases hr:r.2.1=0
  ·rw[if_pos hr]at h;have ha:=hat hr;rw[hr,ha];have hml:(fzs r.1).length=r.1.length:=zjk r.1;generalize fzs r.1=M at *
   generalize r.1.length=m at *
   have ht:List.take m M=M:=Yb (by omega);simp -implicitDefEqProofs[h0,c,hsl,h,ht,hml,hwR]
  ·rw[if_neg hr]at h;rw[hnil hr];simp only[e0,zeo];simp -implicitDefEqProofs[h0,c,hsl,h,hwR]
end
end Go.Ab
section
namespace Go.Ab
end Go.Ab
end
namespace Go.Ab
def Zmk(t:Tp)(many words:Nat):Bool:=((t.code.take many).any fun i=>decide (words<fsz i.n)) || decide (many<t.code.length) || decide (many<t.outs.length)
def Zom(x:PoF)(many words:Nat):Bool:=decide (words<fsz x.t) || Zbv x.y many words || Zbv x.p many words
section
variable{T:Tbl}[Za2 T][Za3 T][Zas T][Za4 T][Zbq T][Zbz T][Zbj T][Zbk T][Zdm T][Zdn T][Zhy T]
def Zpi(t:Tp)(many words i:Nat):St:=⟨[(1,.i .i64 many),(2,.i .i64 words),(3,.ptr (.loc 3) 1 4 0 0),(7,.i .i64 i)],[(.loc 3,bxT t)],3⟩
def Zpj(t:Tp)(many:Nat):Ex×St:=(.n,⟨[(1,.i .i64 many),(3,.ptr (.loc 3) 1 4 0 0)],[(.loc 3,bxT t)],3⟩)
@[simp] def zafg(l:List Int):Option.all (fun r=>decide (r.length=1)) (ints l).head? = true:=by cases l<;>rfl
def fC:BId:=.fld (.loc 3) 0
def Zpk(t:Tp)(i:Nat):St:=⟨[(1,.ptr (.loc 1) 1 4 0 0),(2,.ptr (.loc 2) 2 4 0 0),(3,.ptr (.loc 3) 3 4 0 0),(4,.i .i64 i)],
 [(.loc 1,bxT t),(.loc 2,⟨2,.str,4,[[.sl [] .an,.sl [] .an,.i .i64 0,.i .i64 0]]⟩),(.loc 3,⟨3,.str,4,[[.bs fC 4 6 0 i,.bs (.loc 13) 5 1 0 t.outs.length,.i .i64 t.dim,.i .i64 t.par]]⟩),(fC,⟨4,.own,6,Ziv (t.code.take i)⟩),(.loc 13,⟨5,.own,1,ints t.outs⟩)],7⟩
end
def Zl1(s:Sm)(many words:Nat):Bool:=decide (50<s.nm.length) || decide (many<s.a.length) || Zbv s.b many words || Zbv s.c many words || Zbv s.e many words || s.a.any fun r=>Zbv r many words
def Znl(p:Pb)(many stages words:Nat):Bool:=Zmk p.t many words || Zl1 p.s stages 4 || Zbv p.p 6 words
def Zfo(r:Trr)(words:Nat):Bool:=Zbv r.nums 4 words || Zbv r.y 8 words
def Zia(h:Hs)(many words:Nat):Bool:=decide (many<h.l.length) || decide (words<fsz h.t) || Zbv h.y 8 words || h.l.any fun r=>Zfo r words
def zog{h:Hs}{many words:Nat}(e:Zia h many words=false)(hm:many<=1000):HsS h words/\h.l.length<=many/\h.y.length<=8/\∀r∈h.l,r.y.length<=8:=by
 unfold Zia Zfo at e;simp only[Bool.or_eq_false_iff,decide_eq_false_iff_not,List.any_eq_false]at e;obtain⟨⟨⟨h1,h2⟩,h3⟩,h4⟩:=e;obtain⟨y1,y2⟩:=zc4 h3;have hr:∀r∈h.l,(Zbv r.nums 4 words=false)/\Zbv r.y 8 words=false:=fun r hr=>by
  grind
 exact⟨⟨by omega,by omega,y2,by omega,fun r hx=>(zc4 (hr r hx).1).2,fun r hx=>(zc4 (hr r hx).2).2,fun r hx=>Yd (zc4 (hr r hx).2).1 (by decide)⟩,by omega,y1,fun r hx=>(zc4 (hr r hx).2).1⟩
section
variable{T:Tbl}[Zaf T][Zn T][Zw T][Zz T][Zr T][Zv T][Zg T][Zm T][Zy T][Za1 T][Zbp T][Zcj T][Zcx T][Zcc T][Zdj T][Zf0 T][Zfx T][Zp T][Zat T][Za5 T][Zb3 T]
variable[Za2 T][Za3 T][Zas T][Za4 T][Zbq T][Zbz T][Zbj T][Zbk T][Zg2 T][Zdm T][Zdn T][Zhx T][Zhh T][Zhy T][Zck T][Zh7 T]
def zki(r:Trr):Zb T 516 [.agg (Zei r)]=some (.sl (Zc r.nums) .an):=by
 have e:Zc r.nums=[Zak r.t,Zak r.w,Zak r.h,Zak r.e]:=rfl;rw[zaa Zck.h516 rfl,b516,e];simp -implicitDefEqProofs[]
def Znm(s:Sm):Box:=⟨1,.str,5,[[.s s.nm,.sl (Zc s.c) .an,.sl (Z4 s.a) .an,.sl (Zc s.b) .an,.sl (Zc s.e) .an]]⟩
def Zoq(s:Sm)(many words i:Nat):St:=⟨[(1,.i .i64 many),(2,.i .i64 words),(3,.ptr (.loc 3) 1 5 0 0),(7,.i .i64 i)],[(.loc 3,Znm s)],3⟩
def Zjn(h:Hs):Box:=⟨1,.str,5,[[.sl (Z2 h.l) .an,.b h.t.1,.sl (Za h.t.2.1) .an,.sl (Za h.t.2.2) .an,.sl (Zc h.y) .an]]⟩
def Zg6(h:Hs)(words i:Nat):St:=⟨[(2,.i .i64 words),(3,.ptr (.loc 3) 1 5 0 0),(7,.i .i64 i)],[(.loc 3,Zjn h)],3⟩
def zrt(h:Hs)(many words:Nat)(hm:many<=1000):Zb T 497 [ehs h,.i .i64 many,.i .i64 words]=some (.b (Zia h many words)):=by
 have c1:=zf3 (T:=T) h.t words;have c2:=ze0 (T:=T) h.y 8 words (by decide);replace c2:Zb T 286 [.sl (Zc h.y) .an,.i .i64 8,.i .i64 words]=_:=c2;have hlp:h.l.length<=many->Zu T 0 0 (.norm false []) l497_0 (Zg6 h words 0)=if (h.l.drop 0).any (fun r=>Zfo r words)=true then some (.r,⟨[(6,.b true)],[],2⟩) else some (.n,⟨[],[],2⟩):=by
  intro hl;refine zat (Zg6 h words) h.l.length (fun i=>if (h.l.drop i).any (fun r=>Zfo r words)=true then some (.r,⟨[(6,.b true)],[],2⟩) else some (.n,⟨[],[],2⟩)) (fun i hi=>?_) ?_
  ·have hi':(i:Int)<h.l.length:=by omega
   have hws:=zc2 hi (by omega);have d1:=zki (T:=T) (h.l[i]'hi);have d2:=ze0 (T:=T) (h.l[i]'hi).nums 4 words (by decide);have d3:=ze0 (T:=T) (h.l[i]'hi).y 8 words (by decide);replace d2:Zb T 286 [.sl (Zc (h.l[i]'hi).nums) .an,.i .i64 4,.i .i64 words]=_:=d2;replace d3:Zb T 286 [.sl (Zc (h.l[i]'hi).y) .an,.i .i64 8,.i .i64 words]=_:=d3;have key:(h.l.drop i).any (fun r=>Zfo r words)=(Zfo (h.l[i]'hi) words || (h.l.drop (i+1)).any fun r=>Zfo r words):=by rw[Yp hi,List.any_cons]
   generalize hq:h.l[i]'hi=q at *
   have hR:Zfo q words=(Zbv q.nums 4 words || Zbv q.y 8 words):=rfl;generalize Zbv q.nums 4 words=A at *
   generalize Zbv q.y 8 words=B at *
   have hnn:wkL (Zc q.nums)=Zc q.nums:=zea _;obtain⟨q1,q2,q3,q4,q5,q6⟩:=q;cases A with
   | true=>
    right;rw[if_pos (by grind)];unfold Zg6 Zjn;constructor<;>simp -implicitDefEqProofs[l497_0,hi,hi',hq,d1,d2,hnn]
   | false=>
   cases B with
   | true=>
    right;rw[if_pos (by grind)];unfold Zg6 Zjn;constructor<;>simp -implicitDefEqProofs[l497_0,hi,hi',hq,d1,d2,d3,hnn]
   | false=>
    left;refine⟨?_,by grind⟩;unfold Zg6 Zjn;simp -implicitDefEqProofs[l497_0,hi,hi',hq,hws,d1,d2,d3,hnn]
  ·simp only[Yah,List.any_nil,Yad,if_false];unfold Zg6 Zjn;constructor<;>simp -implicitDefEqProofs[l497_0]
 rw[Yat]at hlp;unfold Zg6 Zjn at hlp;unfold Zia;rw[zaa Zck.h497 rfl,b497];generalize Zbv h.y 8 words=B2 at *
 generalize (h.l.any fun r=>Zfo r words)=B4 at *
 generalize hft:fsz h.t=ft at *
 obtain⟨L,t,y⟩:=h;dsimp only at *
 by_cases h1:many<L.length
 ·have h1':(many:Int)<L.length:=by omega
  simp -implicitDefEqProofs[h1,h1']
 have h1':¬ (many:Int)<L.length:=by omega
 have hl:=hlp (by omega);by_cases h2:words<ft
 ·simp -implicitDefEqProofs[h1,h1',c1,h2]
 cases B2 with
 | true=>simp -implicitDefEqProofs[h1,h1',c1,h2,c2]
 | false=>
  cases B4<;>simp at hl<;>simp -implicitDefEqProofs[h1,h1',c1,h2,c2,hl]
def Zip(h:Hs)(i:Nat):St:=⟨[(1,.ptr (.loc 1) 1 5 0 0),(2,.ptr (.loc 2) 2 5 0 0),(3,.ptr (.loc 3) 3 5 0 0),(4,.i .i64 i)],
 [(.loc 1,bxH h),(.loc 2,⟨2,.str,5,[[.sl [] .an,.b false,.sl [] .an,.sl [] .an,.sl [] .an]]⟩),(.loc 3,⟨3,.str,5,[[.bs fC 4 14 0 i,.b h.t.1,.sl (Za h.t.2.1) .an,.sl (Za h.t.2.2) .an,.sl (Zc h.y) .an]]⟩),(fC,⟨4,.own,14,Z2 (h.l.take i)⟩)],6⟩
def zru(h:Hs)(i:Nat)(hi:i<h.l.length)(hl:h.l.length<=1000)(hy:∀r∈h.l,r.y.length<=1000):evX (orc T) T 0 l500_0 (Zip h i)=some (.n,Zip h (i+1)):=by
 have hws:=zc2 hi (by omega);have hb:i<=4294967295:=by omega
 have c1:=zem (T:=T) (h.l[i]'hi).t;have c2:=zem (T:=T) (h.l[i]'hi).w;have c3:=zem (T:=T) (h.l[i]'hi).h;have c4:=zem (T:=T) (h.l[i]'hi).e;have c5:=zpw (T:=T) (h.l[i]'hi).y (by grind);have hi':(i:Int)<h.l.length:=by omega
 have hml:(h.l.take i).length=i:=by grind
 have ht:List.take i (h.l.take i)=h.l.take i:=Yb (by omega);have e:=zmj h.l hi;have hp:=zjr hml (h.l[i]'hi);rw[ht]at hp;unfold Zip bxH fC;rw[e];generalize hq:h.l[i]'hi=q at *
 obtain⟨L,t,y⟩:=h;simp -implicitDefEqProofs[l500_0,hi,hi',hws,hb,hq,c1,c2,c3,c4,c5,hml,ht,hp]
def zxy(h:Hs)(hl:h.l.length<=1000)(hy:∀r∈h.l,r.y.length<=1000)(hyl:h.y.length<=1000):Zb T 500 [ehs h]=some (ehs h):=by
 have hlp:Zu T 0 0 (.norm false [2,3]) l500_0 (Zip h 0)=some (.n,⟨[(2,.ptr (.loc 2) 1 5 0 0),(3,.ptr (.loc 3) 2 5 0 0)],[(.loc 2,⟨1,.str,5,[[.sl [] .an,.b false,.sl [] .an,.sl [] .an,.sl [] .an]]⟩),(.loc 3,⟨2,.str,5,[[.bs fC 3 14 0 h.l.length,.b h.t.1,.sl (Za h.t.2.1) .an,.sl (Za h.t.2.2) .an,.sl (Zc h.y) .an]]⟩),(fC,⟨3,.own,14,Z2 h.l⟩)],5⟩):=by
  refine za3 (Zip h) h.l.length _ (fun i hi=>zru h i hi hl hy) ?_;unfold Zip bxH fC;constructor<;>simp -implicitDefEqProofs[l500_0]
 have ht:List.take h.l.length h.l=h.l:=Yb (by omega);have c1:=zem (T:=T) h.t;have c2:=zpw (T:=T) h.y (by omega);unfold Zip bxH fC at hlp;simp only[Y8,Ycf,zm4]at hlp;rw[zaa Zh7.h500 rfl,b500];obtain⟨L,t,y⟩:=h;simp -implicitDefEqProofs[ht,c1,c2,hlp]
end
def Zp6(h:Hs):List Fz:=(h.l.filter (·.ok)).map (·.t)++[h.t]
def Zp7(h:Hs):List (List Fz):=(h.l.filter (·.ok)).map (·.y)++[h.y]
section
variable{T:Tbl}[Za2 T][Za3 T][Zas T][Za4 T][Zbq T][Zbz T][Zbj T][Zbk T][Zi6 T][Zck T][Zj9 T]
def Zo2(h:Hs)(i:Nat)(M:List Fz)(N:List (List Fz)):St:=⟨[(1,.ptr (.loc 1) 1 5 0 0),(4,.bs (.loc 4) 2 3 0 M.length),(5,.bs (.loc 5) 3 1 0 N.length),(6,.i .i64 i)],
 [(.loc 1,bxH h),(.loc 4,⟨2,.own,3,Zc M⟩),(.loc 5,⟨3,.own,1,Z4 N⟩)],5⟩
end
def Zid(h:Hs):Hs:=⟨h.l.map Zbs,fz (fv h.t),nrm h.y⟩
abbrev Zmo(h:Hs):List AV:=[.sl (Z2 h.l) .an,.b h.t.1,.sl (Za h.t.2.1) .an,.sl (Za h.t.2.2) .an,.sl (Zc h.y) .an]
def Znu(h:Hs)(i:Nat):St:=⟨[(1,.ptr (.loc 1) 1 5 0 0),(2,.ptr (.loc 2) 2 5 0 0),(3,.ptr (.loc 3) 3 5 0 0),(4,.i .i64 i)],
 [(.loc 1,⟨1,.str,5,[Zmo h]⟩),(.loc 2,⟨2,.str,5,[[.sl [] .an,.b false,.sl [] .an,.sl [] .an,.sl [] .an]]⟩),(.loc 3,⟨3,.str,5,[[.bs fC 4 14 0 i,.b (fz (fv h.t)).1,.sl (Za (fz (fv h.t)).2.1) .an,.sl (Za (fz (fv h.t)).2.2) .an,.sl (Zc (nrm h.y)) .an]]⟩),(fC,⟨4,.own,14,Z2 ((h.l.map Zbs).take i)⟩)],6⟩
def Znv(h:Hs)(M:List Fz)(i:Nat):St:=⟨[(1,.ptr (.loc 1) 1 5 0 0),(3,.bs (.loc 3) 2 3 0 M.length),(4,.i .i64 i)],[(.loc 1,⟨1,.str,5,[Zmo h]⟩),(.loc 3,⟨2,.own,3,Zc M⟩)],4⟩
deriving instance DecidableEq for Trr
deriving instance DecidableEq for Hs
theorem zoh:∀a b:List Fz,nrm a=nrm b↔a.map fv=b.map fv
 | [],[]=>by simp[nrm]
 | [],_::_=>by simp[nrm]
 | _::_,[]=>by simp[nrm]
 | x::a,y::b=>by
  have:=zoh a b;unfold nrm at this ⊢;simp only[Yx,List.cons.injEq,zwf,this]
def zx6(a b:Trr):decide (Zbs a=Zbs b)=(decide (a.ok=b.ok)&&(decide (a.nums.map fv=b.nums.map fv)&&decide (a.y.map fv=b.y.map fv))):=by
 rw[Yb0];simp only[Zbs,Trr.nums,Trr.mk.injEq,zwf,zoh,decide_eq_true_eq,Yk,Yx,Ybl,List.cons.injEq,and_true]
 grind
section
variable{T:Tbl}[Zaf T][Zn T][Zw T][Zz T][Zr T][Zv T][Zg T][Zm T][Zy T][Za1 T][Zbp T][Zcj T][Zcx T][Zcc T][Zdj T][Zf0 T][Zfx T][Zp T][Zat T][Za5 T][Zb3 T][Zar T][Ze9 T]
def zr3(a b:Trr)(ha:∀x∈a.nums,fsz x<=1000)(hb:∀x∈b.nums,fsz x<=1000)(hl:a.y.length<=1000)(hay:∀x∈a.y,fsz x<=1000)(hby:∀x∈b.y,fsz x<=1000) :
  Zb T 694 [.agg (Zei a),.agg (Zei b)]=some (.b (decide (Zbs a=Zbs b))):=by
 have c1:=zc9 (T:=T) a;have c2:=zc9 (T:=T) b;have c3:=zgm (T:=T) a.nums b.nums (by simp[Trr.nums]) ha hb;have c4:=zgm (T:=T) a.y b.y hl hay hby;rw[zx6];generalize decide (a.nums.map fv=b.nums.map fv)=B at *
 generalize decide (a.y.map fv=b.y.map fv)=C at *
 have hna:wkL (Zc a.nums)=Zc a.nums:=zea _;have hnb:wkL (Zc b.nums)=Zc b.nums:=zea _;generalize Zc a.nums=ra at *
 generalize Zc b.nums=rb at *
 rw[zaa Ze9.h694 rfl,b694];obtain⟨a1,a2,a3,a4,a5,a6⟩:=a;obtain⟨b1,b2,b3,b4,b5,b6⟩:=b;dsimp only at *
 by_cases h:a6=b6
 ·subst h;cases B<;>cases C<;>simp -implicitDefEqProofs[c1,c2,c3,c4,hna,hnb]
 ·have h':(a6 == b6)=false:=by simpa using h
  simp -implicitDefEqProofs[h,h']
def Zf2(a b:Hs)(i:Nat):St:=⟨[(3,.ptr (.loc 3) 1 5 0 0),(31,.sl (Z2 a.l) .an),(32,.i .i64 a.l.length),(33,.i .i64 i)],[(.loc 3,bxH b)],3⟩
def zvm(a b:Hs)(ha:HsS a 1000)(hb:HsS b 1000):Zb T 687 [ehs a,ehs b]=some (.b (decide (Zid a=Zid b))):=by
 have hal:=ha.len;have hlp:a.l.length=b.l.length->Zu T 0 0 (.norm false []) l687_0 (Zf2 a b 0)=if (a.l.drop 0).map Zbs=(b.l.drop 0).map Zbs then some (.n,⟨[],[],2⟩) else some (.r,⟨[(4,.b false)],[],2⟩):=by
  intro hab;refine zat (Zf2 a b) a.l.length (fun i=>if (a.l.drop i).map Zbs=(b.l.drop i).map Zbs then some (.n,⟨[],[],2⟩) else some (.r,⟨[(4,.b false)],[],2⟩)) (fun i hi=>?_) ?_
  ·have hws:=zc2 hi (by omega);have hib:i<b.l.length:=by omega
   have hm:=Y0 hi;have hmb:=Y0 hib;have c1:=zr3 (T:=T) (a.l[i]'hi) (b.l[i]'hib) (ha.rt _ hm) (hb.rt _ hmb) (ha.rl _ hm) (ha.ry _ hm) (hb.ry _ hmb);have hga:b.l[i]? = some (b.l[i]'hib):=Ya hib;have key:((a.l.drop i).map Zbs=(b.l.drop i).map Zbs)↔(Zbs (a.l[i]'hi)=Zbs (b.l[i]'hib)/\(a.l.drop (i+1)).map Zbs=(b.l.drop (i+1)).map Zbs):=by
    rw[Yp hi,Yp hib,Yx,Yx,List.cons.injEq]
   have hib':(i:Int)<b.l.length:=by omega
   generalize hq:a.l[i]'hi=q at *
   generalize hr:b.l[i]'hib=r at *
   obtain⟨L,t,y⟩:=b;dsimp only at *
   by_cases h1:Zbs q=Zbs r
   ·left;refine⟨?_,by simp only[key,h1,true_and]⟩;rw[decide_eq_true h1]at c1;obtain⟨q1,q2,q3,q4,q5,q6⟩:=q;obtain⟨r1,r2,r3,r4,r5,r6⟩:=r;unfold Zf2 bxH;simp -implicitDefEqProofs[l687_0,hi,hq,hws,hib,hib',hr,c1]
   ·right;rw[if_neg (by rw[key];exact fun h=>h1 h.1)];rw[decide_eq_false h1]at c1;obtain⟨q1,q2,q3,q4,q5,q6⟩:=q;obtain⟨r1,r2,r3,r4,r5,r6⟩:=r;unfold Zf2 bxH;constructor<;>simp -implicitDefEqProofs[l687_0,hi,hq,hib,hib',hr,c1]
  ·have e:b.l.drop a.l.length=[]:=Yc5 (by omega);simp only[Yah,e,if_true,Ybl];unfold Zf2 bxH;constructor<;>simp -implicitDefEqProofs[l687_0]
 have c2:=zd4 (T:=T) a.t b.t ha.t hb.t;have c3:=zgm (T:=T) a.y b.y ha.yl ha.y hb.y;have key:decide (Zid a=Zid b)=(decide (a.l.map Zbs=b.l.map Zbs)&&(decide (fv a.t=fv b.t)&&decide (a.y.map fv=b.y.map fv))):=by
  rw[Yb0];simp only[Zid,Hs.mk.injEq,zwf,zoh,decide_eq_true_eq,Yk]
 rw[key];rw[zaa Ze9.h687 rfl,b687];unfold Zf2 bxH at hlp;simp only[Yat,Y8]at hlp;have hne:¬ a.l.length=b.l.length->decide (a.l.map Zbs=b.l.map Zbs)=false:=fun h=>decide_eq_false fun e=>h (by simpa using congrArg List.length e);have hM:(if a.l.map Zbs=b.l.map Zbs then some (Ex.n,(⟨[],[],2⟩:St)) else some (.r,⟨[(4,.b false)],[],2⟩))=if decide (a.l.map Zbs=b.l.map Zbs)=true then some (Ex.n,(⟨[],[],2⟩:St)) else some (.r,⟨[(4,.b false)],[],2⟩):=by simp
 rw[hM]at hlp;generalize decide (fv a.t=fv b.t)=B at *
 generalize decide (a.y.map fv=b.y.map fv)=C at *
 generalize decide (a.l.map Zbs=b.l.map Zbs)=D at *
 clear hM key;obtain⟨L,⟨t1,t2,t3⟩,y⟩:=a;obtain⟨L',⟨u1,u2,u3⟩,z⟩:=b;dsimp only at *
 by_cases hL:L.length=L'.length
 ·have hL':(L.length:Int)=L'.length:=by omega
  have h:=hlp hL;cases B
  ·simp -implicitDefEqProofs[hL,hL',c2]
  ·cases C
   ·simp -implicitDefEqProofs[hL,hL',c2,c3]
   ·cases D<;>simp at h<;>rw[hL]at h<;>simp -implicitDefEqProofs[hL,hL',c2,c3,h]
 ·have hL':¬ (L.length:Int)=L'.length:=by omega
  rw[hne hL];simp -implicitDefEqProofs[hL,hL']
end
class Zj8 (T:Tbl):Prop where
end Go.Ab
section
namespace Go.Ab
end Go.Ab
end
namespace Go.Ab
class Zi5 (T:Tbl):Prop where
class Zk7 (T:Tbl):Prop where
def Dig(l:List UInt8):Prop:=∀c∈l,48<=c.toNat/\c.toNat<=57
def zgp{n:Nat}(h:n<10):(UInt8.ofNat (48+n)).toNat=48+n:=by
 rw[UInt8.toNat_ofNat'];omega
def zb5(n:Nat):Dig (Zs n):=by
 induction n using Nat.strongRecOn with
 | _ n ih=>
  by_cases h:n<10
  ·rw[zcb h];intro c hc;rw[Yab]at hc;rw[hc,zgp h];omega
  ·rw[zd8 h];intro c hc;rcases Yaj.1 hc with hc | hc
   ·exact ih (n/10) (by omega) c hc
   ·rw[Yab]at hc;rw[hc,zgp (by omega)];omega
def zgq(n:Nat):Zs n≠[]:=by
 by_cases h:n<10
 ·rw[zcb h];simp
 ·rw[zd8 h];simp
def zkx(n:Nat):rd (Zs n)=n:=by
 induction n using Nat.strongRecOn with
 | _ n ih=>
  by_cases h:n<10
  ·rw[zcb h];show 0*10+((UInt8.ofNat (48+n)).toNat-48)=n;rw[zgp h];omega
  ·rw[zd8 h,zwb,ih (n/10) (by omega),zgp (by omega)];omega
theorem zqg:∀(l:List UInt8) (k:Nat),Dig l->k+l.length<=60->Zcn k l=-1
 | [],_,_,_=>rfl
 | c::r,k,h,hk=>by
  have hc:=h c Yj;simp only[Yg]at hk;rw[Zcn,if_neg (by omega)];exact zqg r (k+1) (fun d hd=>h d (Yh _ hd)) (by omega)
def zf7{l:List UInt8}(h:Dig l)(h0:l≠[])(hl:l.length<=60):Z1 l=-1:=by
 unfold Z1;rw[if_neg h0];exact zqg l 0 h (by omega)
def zyu{l:List UInt8}(h:Dig l):¬ l.head? = some 45:=by
 cases l with
 | nil=>simp
 | cons c r=>
  intro e;simp only[List.head?_cons,Option.some.injEq]at e;have:=h c Yj;rw[e]at this;have e2:(45:UInt8).toNat=45:=rfl;omega
def zjx(z:Int):((Z7 z).head? = some 45)↔z<0:=by
 unfold Z7;split
 ·next h=>simp[h]
 ·next h=>exact⟨fun e=>absurd e (zyu (zb5 _)),fun e=>absurd e h⟩
def zsq{z:Int}(hl:(Zs z.natAbs).length<=60):Zbr (Z7 z)=-1/\Zav (Z7 z)=z:=by
 unfold Zbr Zav;by_cases hz:z<0
 ·have h1:=(zjx z).2 hz;have h2:(Z7 z).tail=Zs z.natAbs:=by unfold Z7;rw[if_pos hz];rfl
  simp only[h1,if_true,h2,zkx,decide_true];refine⟨zf7 (zb5 _) (zgq _) hl,?_⟩;simp[sg];omega
 ·have h1:¬ (Z7 z).head? = some 45:=fun e=>hz ((zjx z).1 e);have h2:Z7 z=Zs z.natAbs:=by unfold Z7;rw[if_neg hz]
  simp only[h1,if_false,decide_false];rw[h2,zkx];refine⟨zf7 (zb5 _) (zgq _) hl,?_⟩;simp[sg];omega
def Zjf(l:List UInt8):Prop:=∀c∈l,Zfm c=false
def zm9{l:List UInt8}(h:Dig l):Zjf l:=by
 intro c hc;have:=h c hc;have e1:¬ c=47:=fun e=>by rw[e]at this;have e2:(47:UInt8).toNat=47:=rfl;omega
 have e2:¬ c=46:=fun e=>by rw[e]at this;have e2:(46:UInt8).toNat=46:=rfl;omega
 simp[Zfm,e1,e2]
def zij(z:Int):Zjf (Z7 z):=by
 unfold Z7;split
 ·intro c hc;rcases Yn.1 hc with rfl | hc
  ·rfl
  ·exact zm9 (zb5 _) c hc
 ·exact zm9 (zb5 _)
theorem zna:∀{l:List UInt8},Zjf l->Z3 l=l.length
 | [],_=>rfl
 | c::r,h=>by
  have h1:=h c Yj;have h2:=zna (l:=r) fun d hd=>h d (Yh _ hd);simp[Z3,h1,h2]
theorem zwo:∀{l:List UInt8} (c:UInt8) (r:List UInt8),Zjf l->Zfm c=true->Z3 (l++c::r)=l.length
 | [],c,r,_,hc=>by simp[Z3,hc]
 | d::l,c,r,h,hc=>by
  have h1:=h d Yj;have h2:=zwo (l:=l) c r (fun d hd=>h d (Yh _ hd)) hc;simp[Z3,h1,h2]
def znb{q:Rat}(h1:(Zs q.num.natAbs).length<=60)(h2:(Zs q.den).length<=60):Za8 (Zk q)=(q,0,0):=by
 obtain⟨w1,w2⟩:=zsq h1;unfold Zk;split
 ·next hd=>
  have hc:=zna (zij q.num);have ht:(Z7 q.num).take (Z3 (Z7 q.num))=Z7 q.num:=by rw[hc];exact Ya5
  unfold Za8;simp only[hc,Ya5,w1,w2,Ya6,if_false,show ¬ ((0:Int)<=-1) by decide];have e:mkRat q.num 1=q:=by
   have:=Yej q
   rwa [hd]at this
  rw[e]
 ·next hd=>
  have hc:=zwo (l:=Z7 q.num) 47 (Zs q.den) (zij q.num) rfl;have ht:(Z7 q.num++47::Zs q.den).take (Z3 (Z7 q.num++47::Zs q.den))=Z7 q.num:=by rw[hc];exact List.take_left
  have hlt:Z3 (Z7 q.num++47::Zs q.den)<(Z7 q.num++47::Zs q.den).length:=by rw[hc];simp
  have hg:(Z7 q.num++47::Zs q.den).getD (Z3 (Z7 q.num++47::Zs q.den)) 0=47:=by rw[hc];simp
  have hdr:(Z7 q.num++47::Zs q.den).drop (Z3 (Z7 q.num++47::Zs q.den)+1)=Zs q.den:=by
   rw[hc,Yd3];simp
  unfold Za8;simp only[ht,w1,w2,hg,if_pos hlt,show ¬ ((0:Int)<=-1) by decide,if_false];unfold Zfn;simp only[hdr,zf7 (zb5 q.den) (zgq _) h2,show ¬ ((0:Int)<=-1) by decide,if_false,if_true,zkx];rw[if_neg q.den_nz,Yej]
def zos(q:Rat):∀c∈Zk q,c≠44:=by
 have hz:∀z:Int,∀c∈Z7 z,c≠44:=by
  intro z;unfold Z7;have hd:∀n,∀c∈Zs n,c≠44:=fun n c hc e=>by
   have:=zb5 n c hc;rw[e]at this;have e2:(44:UInt8).toNat=44:=rfl;omega
  split
  ·intro c hc;rcases Yn.1 hc with rfl | hc
   ·decide
   ·exact hd _ c hc
  ·exact hd _
 unfold Zk;split
 ·exact hz _
 ·intro c hc;rcases Yaj.1 hc with hc | hc
  ·exact hz _ c hc
  ·rcases Yn.1 hc with rfl | hc
   ·decide
   ·intro e;have:=zb5 _ c hc;rw[e]at this;have e2:(44:UInt8).toNat=44:=rfl;omega
theorem zed{c:UInt8}:∀{l:List UInt8},(∀b∈l,b≠c)->Zt c l=[l]
 | [],_=>rfl
 | b::l,h=>by
  have h1:=h b Yj;have h2:=zed (l:=l) fun d hd=>h d (Yh _ hd);simp[Zt,h1,h2]
theorem zb0{c:UInt8}:∀{l:List UInt8} (r:List UInt8),(∀b∈l,b≠c)->Zt c (l++c::r)=l::Zt c r
 | [],r,_=>by simp[Zt]
 | b::l,r,h=>by
  have h1:=h b Yj;have h2:=zb0 (l:=l) r fun d hd=>h d (Yh _ hd);simp[Zt,h1,h2]
theorem zgd{c:UInt8}:∀(t:List UInt8) (ts:List (List UInt8)),(∀t'∈t::ts,∀b∈t',b≠c)->Zt c (List.intercalate [c] (t::ts))=t::ts
 | t,[],h=>by
  have e:List.intercalate [c] [t]=t:=by simp[List.intercalate]
  rw[e,zed (h t Yj)]
 | t,t2::ts,h=>by
  have e:List.intercalate [c] (t::t2::ts)=t++c::List.intercalate [c] (t2::ts):=by simp[List.intercalate]
  rw[e,zb0 _ (h t Yj),zgd t2 ts fun t' ht=>h t' (Yh _ ht)]
theorem zik:∀(l:List Rat) (k:Nat) (acc:List Rat),(∀q∈l,(Zs q.num.natAbs).length<=60/\(Zs q.den).length<=60)->Zb8 (l.map Zk) k acc=(acc++l,0,0)
 | [],k,acc,_=>by simp[Zb8]
 | q::l,k,acc,h=>by
  obtain⟨h1,h2⟩:=h q Yj;rw[Yx,Zb8,znb h1 h2,if_pos rfl];have:=zik l (k+(Zk q).length+1) (acc++[q]) fun p hp=>h p (Yh _ hp);rw[this];simp
def zyv(q:Rat):Zk q≠[]:=by
 unfold Zk;have hz:Z7 q.num≠[]:=by
  unfold Z7;split
  ·simp
  ·exact zgq _
 split
 ·exact hz
 ·simp
def zsr(l:List Rat)(h:∀q∈l,(Zs q.num.natAbs).length<=60/\(Zs q.den).length<=60):Zjk (List.intercalate [44] (l.map Zk))=(l,0,0):=by
 cases l with
 | nil=>rfl
 | cons q l=>
  have hne:List.intercalate [44] ((q::l).map Zk)≠[]:=by
   have:=zyv q;cases l with
   | nil=>simpa[List.intercalate]using this
   | cons p l=>simp[List.intercalate]
  unfold Zjk;rw[if_neg hne,Yx,zgd _ _ (fun t ht=>by
   rw[<-Yx]at ht;obtain⟨p,_,rfl⟩:=Yy.1 ht;exact zos p),<-Yx,zik _ _ _ h]
  simp
def zil{n k d:Nat}(h:(ofN n).length<=k)(hk:4294967296^k<10^(d+1)):(Zs n).length<=d+1:=by
 refine zie ?_;have h1:=zay (ofN n);rw[zad]at h1;have h2:4294967296^(ofN n).length<=4294967296^k:=Yt (by decide) h;omega
section
variable{T:Tbl}[Zaf T][Zn T][Zw T][Zz T][Zr T][Zv T][Zp T][Zat T][Zg T][Zm T][Zy T][Zcr T][Zbp T][Zdg T][Zap T][Zcj T][Zd7 T][Za5 T][Zb3 T][Ze3 T][Zln T][Za2 T][Za3 T][Zas T][Za4 T][Zbq T][Zbz T][Zbj T][Zbk T][Zi6 T][Zdm T][Zdn T][Zk6 T][Zk7 T]
def Zol(l:List Fz)(i:Nat):St:=⟨[(0,.sl (Zc l) .an),(3,.i .i64 (Zmp (l.take i))),(4,.i .i64 i)],[],2⟩
end
section
variable{T:Tbl}[Za2 T][Za3 T][Zas T][Za4 T][Zbq T][Zbz T][Zbj T][Zj8 T][Zbk T][Zi5 T]
def Zou(s:List UInt8)(y:Nat×Nat×List Rat):St:=
 ⟨[(0,.s s),(5,.bs (.loc 5) 1 3 0 y.2.2.length),(6,.i .i64 y.2.1),(7,.i .i64 y.1)],[(.loc 5,⟨1,.own,3,Zc (fzs y.2.2)⟩)],3⟩
def Znr(r:List Rat×Int×Int):Option (Ex×St):=
 if r.2.1=0 then some (.n,⟨[(5,.bs (.loc 5) 1 3 0 r.1.length)],[(.loc 5,⟨1,.own,3,Zc (fzs r.1)⟩)],3⟩)
 else some (.r,⟨[(2,.sl [] .an),(3,.i .i64 r.2.1),(4,.i .i64 r.2.2)],[],2⟩)
def Zm8(s:List UInt8)(y:Nat×Nat×List Rat):List Rat×Int×Int:=
 if y.1<=s.length then Zb8 (Zt 44 (s.drop y.2.1)) y.2.1 y.2.2 else (y.2.2,0,0)
def piece(s:List UInt8)(i from_:Nat):List UInt8:=(s.drop from_).take (i-from_)
end
def Zef(r:Trr):List UInt8:=(if r.ok then 43 else 45)::32::(Zk (fv r.t)++32::(Zk (fv r.w)++32::(Zk (fv r.h)++32::(Zk (fv r.e)++32::(List.intercalate [44] (Zba r.y)++[10])))))
def Za9(h:Hs):List UInt8:=(h.l.map Zef).flatten++(61::32::(Zk (fv h.t)++32::List.intercalate [44] (Zba h.y)))
def txF(x:Fz):Prop:=x=fz (fv x)/\sz (fv x)<=20
structure TxH (h:Hs):Prop where
 len:h.l.length<=1000
 t:txF h.t
 y:∀x∈h.y,txF x
 yl:h.y.length<=8
 rt:∀r∈h.l,∀x∈r.nums,txF x
 ry:∀r∈h.l,∀x∈r.y,txF x
 rl:∀r∈h.l,r.y.length<=8
theorem zd7{K:Nat}(c:UInt8):∀(ts:List (List UInt8)),(∀t∈ts,t.length<=K)->(List.intercalate [c] ts).length<=ts.length*(K+1)
 | [],_=>by simp[List.intercalate]
 | [t],h=>by
  have:=h t Yj;simp[List.intercalate];omega
 | t::t2::ts,h=>by
  have h1:=h t Yj;have h2:=zd7 c (t2::ts) fun t ht=>h t (Yh _ ht);have e:List.intercalate [c] (t::t2::ts)=t++c::List.intercalate [c] (t2::ts):=by simp[List.intercalate]
  rw[e,Yq,Yg];simp only[Yg]at h2 ⊢;rw[Nat.succ_mul];omega
theorem zp5:∀(l:List (List UInt8)),(∀t∈l,t.length<=5000)->l.flatten.length<=l.length*5000
 | [],_=>by simp
 | t::l,h=>by
  have h1:=h t Yj;have h2:=zp5 l fun t ht=>h t (Yh _ ht);simp only[Ycp,Yq,Yg];omega
section
variable{T:Tbl}[Za2 T][Za3 T][Zas T][Zbq T][Za4 T][Zbz T][Zbj T][Zj8 T][Zbk T][Zi5 T][Zdg T][Zap T][Zck T][Zk8 T]
def Zm9(a b:Hs)(i:Nat):St:=⟨[(2,.ptr (.loc 2) 1 5 0 0),(3,.ptr (.loc 3) 2 5 0 0),(5,.i .i64 i)],[(.loc 2,bxH a),(.loc 3,⟨2,.str,5,[[.sl (Z2 b.l) .an,.b b.t.1,.sl (Za b.t.2.1) .an,.sl (Za b.t.2.2) .an,.sl (Zc b.y) .an]]⟩)],4⟩
def Zd8(h:Hs)(i:Nat):List UInt8:=((h.l.take i).map Zef).flatten
def Znw(h:Hs)(i:Nat):St:=⟨[(1,.ptr (.loc 1) 1 5 0 0),(3,.s (Zd8 h i)),(4,.i .i64 i)],[(.loc 1,bxH h)],3⟩
end
theorem zm5:∀(els:List (List AV)) (l:List UInt32),els.mapM Zdp=some l->els=Za l
 | [],l,h=>by cases h;rfl
 | r::els,l,h=>by
  rw[Ya4]at h;obtain⟨x,hx,h1⟩:=bind_some h;obtain⟨y,hy,h2⟩:=bind_some h1;cases h2;rw[zm5 els y hy];unfold Zdp at hx;split at hx
  ·split at hx
   ·cases hx;rename_i n hn;have:(w32 n.toNat).toNat=n.toNat:=zaf (by omega);simp only[Za,Yx,this,u32];rw[Ydo hn.1]
   ·cases hx
  ·cases hx
def Zkx:AV->Option (List UInt32)
 | .sl els .an=>els.mapM Zdp
 | _=>none
def Zg8:List AV->Option Fz
 | [.b s,x,y]=>(Zkx x).bind fun a=>(Zkx y).map fun b=>(s,a,b)
 | _=>none
def Zky:AV->Option (List Fz)
 | .sl els .an=>els.mapM Zg8
 | _=>none
def Zkz:List AV->Option Trr
 | [a,b,c,d,e,f,g,h,i,j,k,l,y,.b ok]=>(Zg8 [a,b,c]).bind fun t=>(Zg8 [d,e,f]).bind fun w=>(Zg8 [g,h,i]).bind fun z=>(Zg8 [j,k,l]).bind fun e=>(Zky y).map fun y=>⟨t,w,z,e,y,ok⟩
 | _=>none
def Zk0:AV->Option Hs
 | .agg [.sl els .an,a,b,c,y]=>(els.mapM Zkz).bind fun l=>(Zg8 [a,b,c]).bind fun t=>(Zky y).map fun y=>⟨l,t,y⟩
 | _=>none
def zm6{x:AV}{l:List UInt32}(h:Zkx x=some l):x=.sl (Za l) .an:=by
 unfold Zkx at h;split at h
 ·rw[zm5 _ _ h]
 ·cases h
def zdh{r:List AV}{f:Fz}(h:Zg8 r=some f):r=Zak f:=by
 unfold Zg8 at h;split at h
 ·obtain⟨a,ha,h1⟩:=bind_some h;obtain⟨b,hb,rfl⟩:=Y9.1 h1;rw[zm6 ha,zm6 hb]
 ·cases h
theorem zkv{α:Type}{g:List AV->Option α}{c:α->List AV}(hg:∀r f,g r=some f->r=c f):∀(els:List (List AV)) (l:List α),els.mapM g=some l->els=l.map c
 | [],l,h=>by cases h;rfl
 | r::els,l,h=>by
  rw[Ya4]at h;obtain⟨x,hx,h1⟩:=bind_some h;obtain⟨y,hy,h2⟩:=bind_some h1;cases h2;rw[zkv hg els y hy,hg _ _ hx]
  rfl
def zm7{x:AV}{l:List Fz}(h:Zky x=some l):x=.sl (Zc l) .an:=by
 unfold Zky at h;split at h
 ·rw[zkv (fun _ _=>zdh) _ _ h]
  rfl
 ·cases h
def zwm{r:List AV}{t:Trr}(h:Zkz r=some t):r=Zei t:=by
 unfold Zkz at h;split at h
 ·obtain⟨t1,h1,h⟩:=bind_some h;obtain⟨t2,h2,h⟩:=bind_some h;obtain⟨t3,h3,h⟩:=bind_some h;obtain⟨t4,h4,h⟩:=bind_some h;obtain⟨y,h5,rfl⟩:=Y9.1 h;have e1:=zdh h1;have e2:=zdh h2;have e3:=zdh h3;have e4:=zdh h4;simp only[Zak,List.cons.injEq,and_true]at e1 e2 e3 e4;obtain⟨rfl,rfl,rfl⟩:=e1;obtain⟨rfl,rfl,rfl⟩:=e2;obtain⟨rfl,rfl,rfl⟩:=e3;obtain⟨rfl,rfl,rfl⟩:=e4;rw[zm7 h5]
 ·cases h
def zwn{x:AV}{h:Hs}(q:Zk0 x=some h):x=ehs h:=by
 unfold Zk0 at q;split at q
 ·obtain⟨l,h1,q⟩:=bind_some q;obtain⟨t,h2,q⟩:=bind_some q;obtain⟨y,h3,rfl⟩:=Y9.1 q;have e:=zdh h2;simp only[Zak,List.cons.injEq,and_true]at e;obtain⟨rfl,rfl,rfl⟩:=e;rw[zm7 h3,zkv (fun _ _=>zwm) _ _ h1]
  rfl
 ·cases q
theorem zkw{α:Type}{g:List AV->Option α}{c:α->List AV}(hg:∀f,g (c f)=some f):∀l:List α,(l.map c).mapM g=some l
 | []=>rfl
 | x::l=>by rw[Yx,Ya4,hg,zkw hg l];rfl
def zep(f:Fz):Zg8 (Zak f)=some f:=by
 obtain⟨s,a,b⟩:=f;simp only[Zak,Zg8,Zkx,zjo,Y7,Ya1]
def zqf(l:List Fz):Zky (.sl (Zc l) .an)=some l:=zkw zep l
def zys(t:Trr):Zkz (Zei t)=some t:=by
 obtain⟨t,w,h,e,y,ok⟩:=t;have h1:=zep t;have h2:=zep w;have h3:=zep h;have h4:=zep e;simp only[Zak]at h1 h2 h3 h4;simp only[Zkz,h1,h2,h3,h4,zqf,Y7,Ya1]
def zyt(h:Hs):Zk0 (ehs h)=some h:=by
 obtain⟨l,t,y⟩:=h;have h1:=zep t;have h2:=zkw zys l;simp only[Zak]at h1;simp only[Zk0,Z2,h1,h2,zqf,Y7,Ya1]
def Zea(l:List Fz):Bool:=decide (l.length<=100)&&l.all fun x=>decide (fsz x<=100)
def Zc0(h:Hs):Bool:=decide (h.l.length<=100)&&(Zea [h.t]&&Zea h.y)&&h.l.all fun r=>Zea r.nums&&Zea r.y
def prim689:List AV->Option AV
 | [x]=>(Zk0 x).bind fun h=>if Zc0 h then some (.s (Za9 h)) else none
 | _=>none
def zjw(h:Hs)(hs:Zc0 h=true):prim689 [ehs h]=some (.s (Za9 h)):=by
 simp only[prim689,zyt,Y7,hs,if_true]
def zm8{xs:List AV}{r:AV}(q:prim689 xs=some r):∃h,xs=[ehs h]/\Zc0 h=true/\r=.s (Za9 h):=by
 unfold prim689 at q;split at q
 ·obtain⟨h,h1,q⟩:=bind_some q;split at q
  ·next h2=>
   cases q;exact⟨h,by rw[zwn h1],h2,rfl⟩
  ·cases q
 ·cases q
section
abbrev row689:AFx:=⟨0,0,[],.prim prim689,none,false⟩
class Zfz (T:Tbl):Prop where
 h689:Tr T 689=some row689
attribute [simp] Zfz.h689
section
variable{T:Tbl}[Zfz T]{d:Option Nat}{st:St}{xs:List AV}{ps:List Opd}{e:Env}{h:Heap}{ol:List Heap}
def p689(xs:List AV):Zb T 689 xs=prim689 xs:=zcr Zfz.h689
end
end
section
def l685_0:AX:=
 (.note
 (.seq
 (.seq
 (.reg [mv 45 8,mv 46 6,rg 47 (.len (.t 46)),rg 48 (.bin .lss (.t 45) (.t 47))])
 (.cond (.t 48)
 .skip
 (.exit 0)))
 (.seq
 (.block 1
 (.seq
 (.drawT [rg 51 (.load (some 3) (.t 7)),mv 52 6,mv 53 8,rg 54 (.iad 3 (.t 52) (.t 53)),rg 55 (.load (some 3) (.t 54))]
 [rg 56 (.call 215 [(.t 51),(.t 55)]),so (.store 3 (.t 7) (.t 56))])
 (.seq
 (.drawT [rg 57 (.load (some 3) (.t 7)),mv 58 4,mv 59 8,rg 60 (.bin .add (.t 59) (.c (.i .i64 1))),rg 61 (.iad 3 (.t 58) (.t 60)),rg 62 (.load (some 3) (.t 61))]
 [rg 63 (.call 212 [(.t 57),(.t 62)]),rg 64 (.un .not (.t 63))])
 (.cond (.t 64)
 (.seq
 (.reg [rg 2 (.mov (.c (.b false)))])
 (.pre (.norm false [2]) .ret))
 .skip))))
 (.reg [mv 49 8,rg 50 (.bin .add (.t 49) (.c (.i .i64 1))),mv 8 50])))
 (.norm false [3,4,6,7,8]))
def l685_1:AX:=
 (.note
 (.seq
 (.seq
 (.reg [mv 67 10,rg 68 (.fad 0 (.t 3)),rg 69 (.load none (.t 68)),rg 70 (.len (.t 69)),rg 71 (.bin .lss (.t 67) (.t 70))])
 (.cond (.t 71)
 .skip
 (.exit 2)))
 (.seq
 (.block 3
 (.drawT [mv 74 9,mv 75 74,gd 76 75 true (.fad 0 (.t 3)),gd 77 75 true (.load none (.t 76)),gd 78 75 true (.mov (.t 10)),gd 79 75 true (.iad 14 (.t 77) (.t 78)),gd 80 75 true (.fad 12 (.t 79)),gd 81 75 true (.load none (.t 80)),gd 82 75 true (.call 692 [(.t 81)]),rg 83 (.pick (.t 75) (.t 82) (.c (.b false))),mv 84 83,gd 85 84 true (.fad 0 (.t 3)),gd 86 84 true (.load none (.t 85)),gd 87 84 true (.mov (.t 10)),gd 88 84 true (.iad 14 (.t 86) (.t 87)),gd 89 84 true (.fad 0 (.t 88)),gd 90 84 true (.load (some 3) (.t 89)),gd 91 84 true (.fad 0 (.t 3)),gd 92 84 true (.load none (.t 91)),gd 93 84 true (.mov (.t 10)),gd 94 84 true (.iad 14 (.t 92) (.t 93)),gd 95 84 true (.fad 6 (.t 94)),gd 96 84 true (.load (some 3) (.t 95)),gd 97 84 true (.fad 0 (.t 3)),gd 98 84 true (.load none (.t 97)),gd 99 84 true (.mov (.t 10)),gd 100 84 true (.iad 14 (.t 98) (.t 99)),gd 101 84 true (.fad 3 (.t 100)),gd 102 84 true (.load (some 3) (.t 101)),gd 103 84 true (.fad 0 (.t 3)),gd 104 84 true (.load none (.t 103)),gd 105 84 true (.mov (.t 10)),gd 106 84 true (.iad 14 (.t 104) (.t 105)),gd 107 84 true (.fad 9 (.t 106)),gd 108 84 true (.load (some 3) (.t 107))]
 [gd 109 84 true (.bsl 3 [(.b false),(.sl [] .nl),(.sl [] .nl)] 4 [(0,(.t 90)),(1,(.t 96)),(2,(.t 102)),(3,(.t 108))]),gd 110 84 true (.call 692 [(.t 109)]),rg 111 (.pick (.t 84) (.t 110) (.c (.b false))),mv 9 111]))
 (.reg [mv 72 10,rg 73 (.bin .add (.t 72) (.c (.i .i64 1))),mv 10 73])))
 (.norm false [3,9,10]))
def b685:AX:=
 (.seq
 (.reg [rg 1 (.xop (.box 5) [(.t 0)]),rg 2 (.mov (.c (.b false)))])
 (.seq
 (.seq
 (.reg [rg 13 (.load (some 5) (.t 1)),rg 14 (.call 497 [(.t 13),(.c (.i .i64 8)),(.c (.i .i64 5))])])
 (.cond (.t 14)
 (.seq
 (.reg [rg 15 (.call 686 []),mv 2 15])
 (.pre (.norm false [2]) .ret))
 .skip))
 (.seq
 (.reg [rg 16 (.load (some 5) (.t 1)),rg 17 (.call 500 [(.t 16)]),rg 3 (.alloc [(.sl [] .nl),(.b false),(.sl [] .nl),(.sl [] .nl),(.sl [] .nl)]),so (.store 5 (.t 3) (.t 17))])
 (.seq
 (.seq
 (.reg [rg 18 (.load (some 5) (.t 3)),rg 19 (.call 576 [(.t 18)]),rg 20 (.un .not (.t 19))])
 (.cond (.t 20)
 (.seq
 (.reg [rg 21 (.call 686 []),mv 2 21])
 (.pre (.norm false [2]) .ret))
 .skip))
 (.seq
 (.reg [rg 23 (.load (some 5) (.t 3)),rg 24 (.call 513 [(.t 23)]),mv 22 24,rg 25 (.ext (.t 22) 0),rg 26 (.ext (.t 22) 1),mv 4 25,mv 5 26])
 (.seq
 (.reg [rg 27 (.load (some 5) (.t 3)),rg 28 (.call 519 [(.t 27)]),mv 6 28])
 (.seq
 (.seq
 (.reg [mv 29 4,rg 30 (.len (.t 29)),mv 31 6,rg 32 (.len (.t 31)),rg 33 (.bin .add (.t 32) (.c (.i .i64 1))),rg 34 (.bin .neq (.t 30) (.t 33)),mv 35 34,gd 36 35 false (.mov (.t 5)),gd 37 35 false (.len (.t 36)),gd 38 35 false (.mov (.t 4)),gd 39 35 false (.len (.t 38)),gd 40 35 false (.bin .neq (.t 37) (.t 39)),rg 41 (.pick (.t 35) (.c (.b true)) (.t 40))])
 (.cond (.t 41)
 (.seq
 (.reg [rg 2 (.mov (.c (.b false)))])
 (.pre (.norm false [2]) .ret))
 .skip))
 (.seq
 (.reg [mv 42 4,rg 43 (.iad 3 (.t 42) (.c (.i .i64 0))),rg 44 (.load (some 3) (.t 43)),rg 7 (.alloc [(.b false),(.sl [] .nl),(.sl [] .nl)]),so (.store 3 (.t 7) (.t 44))])
 (.seq
 (.seq
 (.reg [rg 8 (.mov (.c (.i .i64 0)))])
 (.lp 0 (.norm false [3,4,6,7,8]) l685_0 (.norm false [3,4])))
 (.seq
 (.reg [mv 65 4,rg 66 (.call 692 [(.t 65)]),mv 9 66])
 (.seq
 (.seq
 (.reg [rg 10 (.mov (.c (.i .i64 0)))])
 (.lp 2 (.norm false [3,9,10]) l685_1 (.norm false [3,9])))
 (.seq
 (.seq
 (.reg [mv 112 9,rg 113 (.un .not (.t 112)),mv 114 113,gd 115 114 false (.fad 4 (.t 3)),gd 116 114 false (.load none (.t 115)),gd 117 114 false (.call 692 [(.t 116)]),gd 118 114 false (.un .not (.t 117)),rg 119 (.pick (.t 114) (.c (.b true)) (.t 118))])
 (.cond (.t 119)
 (.seq
 (.reg [rg 120 (.call 686 []),mv 2 120])
 (.pre (.norm false [2]) .ret))
 .skip))
 (.seq
 (.reg [rg 122 (.load (some 5) (.t 3)),rg 123 (.call 689 [(.t 122)]),rg 124 (.call 693 [(.t 123)]),mv 121 124,rg 125 (.ext (.t 121) 0),rg 126 (.ext (.t 121) 1),rg 11 (.alloc [(.sl [] .nl),(.b false),(.sl [] .nl),(.sl [] .nl),(.sl [] .nl)]),rg 12 (.alloc [(.i .i64 0),(.i .i64 0),(.i .i64 0),(.i .i64 0)]),so (.store 5 (.t 11) (.t 125)),so (.store 4 (.t 12) (.t 126))])
 (.seq
 (.reg [rg 127 (.load (some 4) (.t 12)),rg 128 (.build [(.i .i64 0),(.i .i64 0),(.i .i64 0),(.i .i64 0)] []),rg 129 (.eqs false [(0,.int),(1,.int),(2,.int),(3,.int)] (.t 127) (.t 128)),mv 130 129,gd 131 130 true (.load (some 5) (.t 3)),gd 132 130 true (.load (some 5) (.t 11)),gd 133 130 true (.call 687 [(.t 131),(.t 132)]),rg 134 (.pick (.t 130) (.t 133) (.c (.b false))),mv 135 134,gd 136 135 true (.call 686 []),rg 137 (.pick (.t 135) (.t 136) (.c (.b false))),mv 2 137])
 (.pre (.norm false [2]) .ret)))))))))))))))
def b686:AX:=
 (.seq
 (.reg [rg 0 (.mov (.c (.b false)))])
 (.seq
 (.reg [rg 6 (.call 693 [(.c (.s [43,32,48,32,49,47,50,32,49,47,50,32,48,32,49,10,61,32,49,47,50,32,51,47,50]))]),mv 5 6,rg 7 (.ext (.t 5) 0),rg 8 (.ext (.t 5) 1),rg 1 (.alloc [(.sl [] .nl),(.b false),(.sl [] .nl),(.sl [] .nl),(.sl [] .nl)]),rg 2 (.alloc [(.i .i64 0),(.i .i64 0),(.i .i64 0),(.i .i64 0)]),so (.store 5 (.t 1) (.t 7)),so (.store 4 (.t 2) (.t 8))])
 (.seq
 (.reg [rg 10 (.call 693 [(.c (.s [43,32,48,32,49,47,50,32,49,47,50,32,48,32,49,10,61,32,49,47,51,32,51,47,50]))]),mv 9 10,rg 11 (.ext (.t 9) 0),rg 12 (.ext (.t 9) 1),rg 3 (.alloc [(.sl [] .nl),(.b false),(.sl [] .nl),(.sl [] .nl),(.sl [] .nl)]),rg 4 (.alloc [(.i .i64 0),(.i .i64 0),(.i .i64 0),(.i .i64 0)]),so (.store 5 (.t 3) (.t 11)),so (.store 4 (.t 4) (.t 12))])
 (.seq
 (.reg [rg 13 (.load (some 4) (.t 2)),rg 14 (.build [(.i .i64 0),(.i .i64 0),(.i .i64 0),(.i .i64 0)] []),rg 15 (.eqs false [(0,.int),(1,.int),(2,.int),(3,.int)] (.t 13) (.t 14)),mv 16 15,gd 17 16 true (.fad 0 (.t 1)),gd 18 16 true (.load none (.t 17)),gd 19 16 true (.len (.t 18)),gd 20 16 true (.bin .eql (.t 19) (.c (.i .i64 1))),rg 21 (.pick (.t 16) (.t 20) (.c (.b false))),mv 22 21,gd 23 22 true (.load (some 5) (.t 1)),gd 24 22 true (.call 689 [(.t 23)]),gd 25 22 true (.bin .eql (.t 24) (.c (.s [43,32,48,32,49,47,50,32,49,47,50,32,48,32,49,10,61,32,49,47,50,32,51,47,50]))),rg 26 (.pick (.t 22) (.t 25) (.c (.b false))),mv 27 26,gd 28 27 true (.load (some 4) (.t 4)),gd 29 27 true (.build [(.i .i64 0),(.i .i64 0),(.i .i64 0),(.i .i64 0)] [(0,1,(.c (.i .i64 2))),(3,1,(.c (.i .i64 5)))]),gd 30 27 true (.eqs false [(0,.int),(1,.int),(2,.int),(3,.int)] (.t 28) (.t 29)),rg 31 (.pick (.t 27) (.t 30) (.c (.b false))),mv 0 31])
 (.pre (.norm false [0]) .ret)))))
def l692_0:AX:=
 (.note
 (.seq
 (.seq
 (.reg [mv 4 3,mv 5 0,rg 6 (.len (.t 5)),rg 7 (.bin .lss (.t 4) (.t 6))])
 (.cond (.t 7)
 .skip
 (.exit 0)))
 (.seq
 (.block 1
 (.seq
 (.reg [mv 10 0,mv 11 3,rg 12 (.iad 3 (.t 10) (.t 11)),rg 13 (.fad 0 (.t 12)),rg 14 (.fad 1 (.t 13)),rg 15 (.load none (.t 14)),rg 16 (.call 129 [(.t 15)]),rg 17 (.bin .gtr (.t 16) (.c (.i .i64 60))),mv 18 17,gd 19 18 false (.mov (.t 0)),gd 20 18 false (.mov (.t 3)),gd 21 18 false (.iad 3 (.t 19) (.t 20)),gd 22 18 false (.fad 2 (.t 21)),gd 23 18 false (.load none (.t 22)),gd 24 18 false (.call 129 [(.t 23)]),gd 25 18 false (.bin .gtr (.t 24) (.c (.i .i64 60))),rg 26 (.pick (.t 18) (.c (.b true)) (.t 25))])
 (.cond (.t 26)
 (.seq
 (.reg [rg 2 (.mov (.c (.b false)))])
 (.pre (.norm false [2]) .ret))
 .skip)))
 (.reg [mv 8 3,rg 9 (.bin .add (.t 8) (.c (.i .i64 1))),mv 3 9])))
 (.norm false [0,3]))
def b692:AX:=
 (.seq
 (.reg [rg 2 (.mov (.c (.b false)))])
 (.seq
 (.seq
 (.reg [rg 3 (.mov (.c (.i .i64 0)))])
 (.lp 0 (.norm false [0,3]) l692_0 (.norm false [])))
 (.seq
 (.reg [rg 2 (.mov (.c (.b true)))])
 (.pre (.norm false [2]) .ret))))
abbrev row685:AFx:=⟨1,138,[.t 2],b685,none,false⟩
abbrev row686:AFx:=⟨0,32,[.t 0],b686,none,false⟩
abbrev row692:AFx:=⟨1,27,[.t 2],b692,none,false⟩
class Zcd (T:Tbl):Prop where
 h685:Tr T 685=some row685
 h686:Tr T 686=some row686
 h692:Tr T 692=some row692
attribute [simp] Zcd.h685 Zcd.h686 Zcd.h692
end
section
def b129:AX:=
 (.seq
 (.reg [rg 2 (.mov (.c (.i .i64 0)))])
 (.seq
 (.reg [mv 3 0,rg 4 (.call 68 [(.t 3)]),rg 5 (.lens (.t 4)),mv 2 5])
 (.pre (.norm false [2]) .ret)))
abbrev row129:AFx:=⟨1,6,[.t 2],b129,none,false⟩
class Zg1 (T:Tbl):Prop where
 h129:Tr T 129=some row129
attribute [simp] Zg1.h129
end
section
open Go.RowKit
def opU:AOp->List Nat
 | .call u _=>[u]
 | .ifc k _=>[1000000+k]
 | .inv _ k u _ _=>[1000000+k,u]
 | .xop (.mkf k) _ | .xop (.mkv k) _=>[1000000+k]
 | _=>[]
def cXs:AX->List Nat
 | .reg l=>l.flatMap fun o=>opU o.op
 | .draw l=>l.flatMap fun o=>opU o.ao.op
 | .drawT hd tl=>(hd.flatMap fun o=>opU o.op)++tl.flatMap fun o=>opU o.op
 | .drawM hd tl=>(hd.flatMap fun o=>opU o.op)++tl.flatMap fun o=>opU o.op
 | .drawC l1 o l2 tl=>(l1.flatMap fun o=>opU o.op)++(opU o.op++((l2.flatMap fun o=>opU o.op)++tl.flatMap fun o=>opU o.op))
 | .drawN l1 o l2=>(l1.flatMap fun o=>opU o.ao.op)++(opU o.op++l2.flatMap fun o=>opU o.ao.op)
 | .drawR hd tl=>(hd.flatMap fun o=>opU o.op)++tl.flatMap fun o=>opU o.op
 | .drawP l1 o l2 _ _ _ _ _=>(l1.flatMap fun o=>opU o.ao.op)++(opU o.op++l2.flatMap fun o=>opU o.ao.op)
 | .seq a b=>cXs a++cXs b
 | .cond _ x y=>cXs x++cXs y
 | .block _ c | .loop c | .note c _ | .pre _ c | .scope c | .lp _ _ c _=>cXs c
 | .gsc _ c r=>cXs c++cXs r
 | _=>[]
structure Agr (R:Nat->Bool) (T T':Tbl) (O O':Orc):Prop where
 tbl:∀u,R u=true->T u=T' u
 call:∀u xs hb,R u=true->O.call u xs hb=O'.call u xs hb
 loop:∀k c st,(∀u∈cXs c,R u=true)->O.loop k c st=O'.loop k c st
section
variable{R:Nat->Bool}{T T':Tbl}{O O':Orc}
theorem zhe(h:Agr R T T' O O'){u:Nat}(hu:R u=true){xs:List AV}{d:Option Nat}{st:St}:Zah O T u xs d st=Zah O' T' u xs d st:=by
 unfold Zah;rw[h.tbl u hu];simp only[h.call u _ _ hu]
def zz3(h:Agr R T T' O O'){op:AOp}(hu:∀u∈opU op,R u=true){d:Option Nat}{st:St}:opX O T op d st=opX O' T' op d st:=by
 cases op<;>simp only[opX]
 case call u args=>exact zhe h (hu _ (by simp[opU]))
 case ifc k x=>unfold Zd;rw[h.tbl _ (hu _ (by simp[opU]))]
 case inv nm k u r args=>
  have e1:Zd T k=Zd T' k:=by unfold Zd;rw[h.tbl _ (hu _ (by simp[opU]))]
  have e2:Zb5 T k=Zb5 T' k:=by unfold Zb5;rw[h.tbl _ (hu _ (by simp[opU]))]
  have e3:Zgh T k=Zgh T' k:=by unfold Zgh;rw[h.tbl _ (hu _ (by simp[opU]))]
  grind[zhe,opU]
 case xop k xs=>
  cases k<;>simp only
  all_goals rename_i k
  all_goals
   have e1:Zd T k=Zd T' k:=by unfold Zd;rw[h.tbl _ (hu _ (by simp[opU]))]
   rw[e1]
def zt7(h:Agr R T T' O O'){o:AO}(hu:∀u∈opU o.op,R u=true){st:St}:Zga O T o st=Zga O' T' o st:=by
 unfold Zga gX;simp only[zz3 h hu]
theorem zeh(h:Agr R T T' O O'):∀(l:List AO),(∀o∈l,∀u∈opU o.op,R u=true)->∀st,Zdf O T l st=Zdf O' T' l st
 | [],_,st=>rfl
 | o::l,hu,st=>by
  simp only[Zdf];rw[zt7 h (hu o Yj)];congr 1
  funext s
  exact zeh h l (fun o ho=>hu o (Yh _ ho)) s
def zz4(h:Agr R T T' O O'){op:AOp}(hu:∀u∈opU op,R u=true){e:Env}{hp:Heap}{older:List Heap}:opD O T op e hp older=opD O' T' op e hp older:=by
 by_cases hap:∃z x0 y,op=.app z x0 y
 ·obtain⟨z,x0,y,rfl⟩:=hap;by_cases hc:x0=.c (.sl [] .nl)
  ·subst hc;rfl
  ·rw[zn0 hc,zn0 hc]
 cases op<;>(try exact absurd ⟨_,_,_,rfl⟩ hap)<;>simp only[opD]
 case call u args=>
  rw[h.tbl _ (hu _ (by simp[opU]))];simp only[h.call _ _ _ (hu _ (show u∈_ by simp[opU]))]
 case ifc k x=>unfold Zd;rw[h.tbl _ (hu _ (by simp[opU]))]
 case inv nm k u r args=>
  have e1:Zd T k=Zd T' k:=by unfold Zd;rw[h.tbl _ (hu _ (by simp[opU]))]
  have e2:Zb5 T k=Zb5 T' k:=by unfold Zb5;rw[h.tbl _ (hu _ (by simp[opU]))]
  rw[e1,e2,h.tbl u (hu u (by simp[opU]))];simp only[h.call u _ _ (hu u (by simp[opU]))]
def zhf(h:Agr R T T' O O'){o:AO}(hu:∀u∈opU o.op,R u=true){e:Env}{hp:Heap}{older:List Heap}:qX O T o e hp older=qX O' T' o e hp older:=by
 unfold qX;simp only[zz4 h hu]
def zlu(h:Agr R T T' O O'){u:Nat}(hu:R u=true){ys:List AV}:Zdy O T u ys=Zdy O' T' u ys:=by
 unfold Zdy;rw[h.tbl u hu];simp only[h.call u _ _ hu]
theorem zhg(h:Agr R T T' O O'):∀(l:List DO),(∀o∈l,∀u∈opU o.ao.op,R u=true)->∀e hp clk older pend,Zbl O T l e hp clk older pend=Zbl O' T' l e hp clk older pend
 | [],_,e,hp,clk,older,pend=>rfl
 | o::l,hu,e,hp,clk,older,pend=>by
  have ih:=zhg h l (fun o ho=>hu o (Yh _ ho));simp only[Zbl];rw[zhf h (hu o Yj)];simp only[ih];cases o.ao.op.writes with
  | true=>rfl
  | false=>
   cases hrow:Ze7 o.ao.guard o.ao.op.callN e hp (older.take (older.length-o.lo)) with
   | none=>rfl
   | some p=>
    obtain⟨_,args,hop,_⟩:=zfd hrow;have hp:R p.1=true:=hu o Yj _ (by rw[hop];simp[opU]);simp only[zlu h hp]
theorem zlv(h:Agr R T T' O O')(tl:List AO)(ht:∀o∈tl,∀u∈opU o.op,R u=true):∀(l:List AO),(∀o∈l,∀u∈opU o.op,R u=true)->∀e hp clk,Zce O T tl l e hp clk=Zce O' T' tl l e hp clk
 | [],_,e,hp,clk=>zeh h tl ht _
 | o::l,hu,e,hp,clk=>by
  have ih:=zlv h tl ht l (fun o ho=>hu o (Yh _ ho));simp only[Zce];rw[zhf h (hu o Yj)];simp only[ih];cases hrow:Ze7 o.guard o.op.callN e hp []with
  | none=>rfl
  | some p=>
   obtain⟨_,args,hop,_⟩:=zfd hrow;have hp:R p.1=true:=hu o Yj _ (by rw[hop];simp[opU]);simp only[zlu h hp]
theorem zlw(h:Agr R T T' O O')(tl:List AO)(ht:∀o∈tl,∀u∈opU o.op,R u=true):∀(l:List AO),(∀o∈l,∀u∈opU o.op,R u=true)->∀e hp clk,Zdz O T tl l e hp clk=Zdz O' T' tl l e hp clk
 | [],_,e,hp,clk=>zeh h tl ht _
 | o::l,hu,e,hp,clk=>by
  have ih:=zlw h tl ht l (fun o ho=>hu o (Yh _ ho));simp only[Zdz];rw[zhf h (hu o Yj)];simp only[ih]
def zt8(h:Agr R T T' O O'){u:Nat}(hu:R u=true){xs:List AV}{d clk:Nat}:Ze1 O T u xs d clk=Ze1 O' T' u xs d clk:=by
 unfold Ze1;rw[h.tbl u hu];simp only[h.call u _ _ hu]
theorem zlx(h:Agr R T T' O O')(tl:List AO)(ht:∀o∈tl,∀u∈opU o.op,R u=true)(h0:Heap)(c0:Nat)(X:Heap):∀(l:List AO),(∀o∈l,∀u∈opU o.op,R u=true)->∀e hp clk,Zau O T tl h0 c0 X l e hp clk=Zau O' T' tl h0 c0 X l e hp clk
 | [],_,e,hp,clk=>zeh h tl ht _
 | o::l,hu,e,hp,clk=>by
  have ih:=zlx h tl ht h0 c0 X l (fun o ho=>hu o (Yh _ ho));simp only[Zau];rw[zhf h (hu o Yj)];simp only[ih];cases hm:o.op.maker with
  | true=>rfl
  | false=>
   cases hst:o.op.isStore with
   | true=>rfl
   | false=>
   cases hl:o.op.lentN with
   | none=>rfl
   | some ua=>
    have hua:R ua.1=true:=hu o Yj _ (by rw[zja hl];simp[opU]);simp only[zt8 h hua]
theorem zgi(h:Agr R T T' O O'){K K':Env->Zae->Option St}(hK:∀e pend,K e pend=K' e pend)(hp:Heap):∀(l:List DO),(∀o∈l,∀u∈opU o.ao.op,R u=true)->∀e pend,Zc6 O T K hp l e pend=Zc6 O' T' K' hp l e pend
 | [],_,e,pend=>hK e pend
 | o::l,hu,e,pend=>by
  have ih:=zgi h hK hp l (fun o ho=>hu o (Yh _ ho));simp only[Zc6];rw[zhf h (hu o Yj)];simp only[ih]
theorem zly(h:Agr R T T' O O'){K K':Env->Option St}(hK:∀e,K e=K' e)(h0 h1:Heap):∀(l:List AO),(∀o∈l,∀u∈opU o.op,R u=true)->∀e,Zc7 O T K h0 h1 l e=Zc7 O' T' K' h0 h1 l e
 | [],_,e=>hK e
 | o::l,hu,e=>by
  have ih:=zly h hK h0 h1 l (fun o ho=>hu o (Yh _ ho));simp only[Zc7];rw[zhf h (hu o Yj)];simp only[ih]
def zhh(h:Agr R T T' O O'){o:AO}(hu:∀u∈opU o.op,R u=true){st:St}:Zed O T o st=Zed O' T' o st:=by
 obtain⟨d,g,op⟩:=o;cases op
 case call u args=>
  cases g<;>cases d<;>simp only[Zed];exact zhe h (hu u (by simp[opU]))
 all_goals cases g<;>cases d<;>rfl
def zt9(h:Agr R T T' O O')(l1:List AO)(o:AO)(l2 tl:List AO)(hu:∀u∈cXs (.drawC l1 o l2 tl),R u=true)(st:St):Zgc O T l1 o l2 tl st=Zgc O' T' l1 o l2 tl st:=by
 have u1:∀o∈l1,∀u∈opU o.op,R u=true:=fun o ho u hou=>hu u (Y3 _ (Y6.2 ⟨o,ho,hou⟩));have u2:∀u∈opU o.op,R u=true:=fun u hou=>hu u (Ys _ (Y3 _ hou));have u3:∀o∈l2,∀u∈opU o.op,R u=true:=fun o ho u hou=>hu u (Ys _ (Ys _ (Y3 _ (Y6.2 ⟨o,ho,hou⟩))));have u4:∀o∈tl,∀u∈opU o.op,R u=true:=fun o ho u hou=>hu u (Ys _ (Ys _ (Ys _ (Y6.2 ⟨o,ho,hou⟩))));unfold Zgc;refine zgi h (fun e pend=>?_) _ _ (fun o ho=>?_) _ _
 ·rw[zhh h u2];congr 1
  funext s
  rw[zly h (fun e=>zeh h tl u4 _) _ _ l2 u3]
 ·obtain⟨o',ho',rfl⟩:=Yy.1 ho;exact u1 o' ho'
def zua(h:Agr R T T' O O')(l1:List DO)(o:AO)(l2:List DO)(hu:∀u∈cXs (.drawN l1 o l2),R u=true)(st:St):Zgd O T l1 o l2 st=Zgd O' T' l1 o l2 st:=by
 have u1:∀o∈l1,∀u∈opU o.ao.op,R u=true:=fun o ho u hou=>hu u (Y3 _ (Y6.2 ⟨o,ho,hou⟩));have u2:∀u∈opU o.op,R u=true:=fun u hou=>hu u (Ys _ (Y3 _ hou));have u3:∀o∈l2,∀u∈opU o.ao.op,R u=true:=fun o ho u hou=>hu u (Ys _ (Ys _ (Y6.2 ⟨o,ho,hou⟩)));unfold Zgd;congr 1;refine zgi h (fun e pend=>?_) _ _ (fun o ho=>?_) _ _
 ·rw[zhh h u2];congr 1
  funext s
  rw[zhg h _ fun o ho=>?_];obtain⟨o',ho',rfl⟩:=Yy.1 ho;exact u3 o' ho'
 ·obtain⟨o',ho',rfl⟩:=Yy.1 ho;exact u1 o' ho'
theorem zlz(h:Agr R T T' O O'){K K':Env->Option St}(hK:∀e,K e=K' e)(hs:List Heap)(h1:Heap):∀(l:List AO),(∀o∈l,∀u∈opU o.op,R u=true)->∀e,Zc8 O T K hs h1 l e=Zc8 O' T' K' hs h1 l e
 | [],_,e=>hK e
 | o::l,hu,e=>by
  have ih:=zlz h hK hs h1 l (fun o ho=>hu o (Yh _ ho));simp only[Zc8];rw[zhf h (hu o Yj)];simp only[ih]
def zub(h:Agr R T T' O O')(l1:List DO)(o:AO)(l2:List DO)(da:Nat)(cs:List AV)(n:Nat)(xs vs:Opd)(hu:∀u∈cXs (.drawP l1 o l2 da cs n xs vs),R u=true)(st:St):Ze2 O T l1 o l2 da cs n xs vs st=Ze2 O' T' l1 o l2 da cs n xs vs st:=by
 have u1:∀o∈l1,∀u∈opU o.ao.op,R u=true:=fun o ho u hou=>hu u (Y3 _ (Y6.2 ⟨o,ho,hou⟩));have u2:∀u∈opU o.op,R u=true:=fun u hou=>hu u (Ys _ (Y3 _ hou));have u3:∀o∈l2,∀u∈opU o.ao.op,R u=true:=fun o ho u hou=>hu u (Ys _ (Ys _ (Y6.2 ⟨o,ho,hou⟩)));unfold Ze2;congr 1;refine zgi h (fun e pend=>?_) _ _ (fun o ho=>?_) _ _
 ·simp only[zhh h u2];congr 1
  funext s1
  congr 1
  funext s2
  rw[zlz h (fun e=>rfl) _ _ _ fun o ho=>?_];obtain⟨o',ho',rfl⟩:=Yy.1 ho;exact u3 o' ho'
 ·obtain⟨o',ho',rfl⟩:=Yy.1 ho;exact u1 o' ho'
theorem zb7(h:Agr R T T' O O')(k:Nat):∀(c:AX),(∀u∈cXs c,R u=true)->∀st,evX O T k c st=evX O' T' k c st
 | .skip,_,st=>rfl
 | .reg l,hu,st=>by
  simp only[evX];rw[zeh h l fun o ho u hou=>hu u (Y6.2 ⟨o,ho,hou⟩)]
 | .draw l,hu,st=>by
  simp only[evX];rw[zhg h l fun o ho u hou=>hu u (Y6.2 ⟨o,ho,hou⟩)]
 | .drawT hd tl,hu,st=>by
  simp only[evX];rw[zlw h tl (fun o ho u hou=>hu u (Ys _ (Y6.2 ⟨o,ho,hou⟩))) hd (fun o ho u hou=>hu u (Y3 _ (Y6.2 ⟨o,ho,hou⟩)))]
 | .drawM hd tl,hu,st=>by
  simp only[evX];rw[zlx h tl (fun o ho u hou=>hu u (Ys _ (Y6.2 ⟨o,ho,hou⟩))) _ _ _ hd (fun o ho u hou=>hu u (Y3 _ (Y6.2 ⟨o,ho,hou⟩)))]
 | .drawC l1 o l2 tl,hu,st=>by
  simp only[evX];rw[zt9 h l1 o l2 tl hu]
 | .drawN l1 o l2,hu,st=>by
  simp only[evX];rw[zua h l1 o l2 hu]
 | .drawR hd tl,hu,st=>by
  simp only[evX];rw[zlv h tl (fun o ho u hou=>hu u (Ys _ (Y6.2 ⟨o,ho,hou⟩))) hd (fun o ho u hou=>hu u (Y3 _ (Y6.2 ⟨o,ho,hou⟩)))]
 | .drawP l1 o l2 da cs n xs vs,hu,st=>by
  simp only[evX];rw[zub h l1 o l2 da cs n xs vs hu]
 | .bad,_,st=>rfl
 | .prim f,_,st=>rfl
 | .seq a b,hu,st=>by
  simp only[evX];rw[zb7 h k a fun u hm=>hu u (Y3 _ hm)];congr 1
  funext r
  rw[zb7 h k b fun u hm=>hu u (Ys _ hm)]
 | .cond c x y,hu,st=>by
  simp only[evX];rw[zb7 h k x fun u hm=>hu u (Y3 _ hm),zb7 h k y fun u hm=>hu u (Ys _ hm)]
 | .block id c,hu,st=>by
  simp only[evX];rw[zb7 h k c hu]
 | .loop c,hu,st=>h.loop k c st hu
 | .exit id,_,st=>rfl
 | .ret,_,st=>rfl
 | .note c g,hu,st=>by
  simp only[evX];rw[zb7 h k c hu]
 | .pre g c,hu,st=>by
  simp only[evX];congr 1
  funext s
  exact zb7 h k c hu s
 | .scope c,hu,st=>by
  simp only[evX];rw[zb7 h k c hu]
 | .label _,_,st=>rfl
 | .goto _,_,st=>rfl
 | .gsc l c r,hu,st=>by
  simp only[evX];rw[zb7 h k c fun u hm=>hu u (Y3 _ hm)];congr 1
  funext s
  exact zb7 h k r (fun u hm=>hu u (Ys _ hm)) s
 | .lp id g c g2,hu,st=>by
  simp only[evX,h.loop k c _ hu]
def zuc(hc:∀u af,R u=true->T u=some af->∀v∈cXs af.body,R v=true)(h:Agr R T T' O O'):Agr R T T' (Zcv T O) (Zcv T' O') where
 tbl:=h.tbl
 call u xs hb hu:=by
  simp only[Zcv];rw[<-h.tbl u hu];cases ht:T u with
  | none=>rfl
  | some af=>
   grind[zb7]
 loop k c st hu:=by
  simp only[Zcv];rw[zb7 h k c hu];congr 1
  funext r
  rw[h.loop k c _ hu]
theorem zj8(ht:∀u,R u=true->T u=T' u)(hc:∀u af,R u=true->T u=some af->∀v∈cXs af.body,R v=true):∀n,Agr R T T' (orcN T n) (orcN T' n)
 | 0=>⟨ht,fun _ _ _ _=>rfl,fun _ _ _ _=>rfl⟩
 | n+1=>zuc hc (zj8 ht hc n)
def zz5(ht:∀u,R u=true->T u=T' u)(hc:∀u af,R u=true->T u=some af->∀v∈cXs af.body,R v=true):Agr R T T' (orc T) (orc T'):=by
 refine⟨ht,fun u xs hb hu=>?_,fun k c st hu=>?_⟩
 ·simp only[orc];congr 1
  funext n
  exact(zj8 ht hc n).call u xs hb hu
 ·simp only[orc];congr 1
  funext n
  exact(zj8 ht hc n).loop k c st hu
end
def zdm{l:List (Nat×AFx)}{u:Nat}{af:AFx}(h:l.lookup u=some af):(u,af)∈l:=by
 induction l with
 | nil=>cases h
 | cons q l ih=>
  grind
structure Part (l l':List (Nat×AFx)):Prop where
 sub:∀p∈l',l.lookup p.1=some p.2
 clo:(l'.all fun p=>(cXs p.2.body).all fun v=>(l'.lookup v).isSome || (l.lookup v).isNone)=true
def Part.agr{l l':List (Nat×AFx)}(h:Part l l'):Agr (fun u=>(l'.lookup u).isSome || (l.lookup u).isNone) (fun u=>l.lookup u) (fun u=>l'.lookup u) (orc fun u=>l.lookup u) (orc fun u=>l'.lookup u):=by
 refine zz5 (fun v hv=>?_) (fun v a hv hva w hw=>?_)
 ·cases hv2:l'.lookup v with
  | none=>
   cases hv3:l.lookup v with
   | none=>rfl
   | some a=>grind
  | some a=>exact h.sub _ (zdm hv2)
 ·cases hv2:l'.lookup v with
  | none=>grind
  | some b=>
   have hb:=zdm hv2;have h1:=h.sub _ hb;rw[hva]at h1;cases h1;exact Yl.1 (Yl.1 h.clo _ hb) w hw
def Part.ev{l l':List (Nat×AFx)}(h:Part l l'){c:AX}(hc:((cXs c).all fun v=>(l'.lookup v).isSome)=true){st:St}{r:Option (Ex×St)}
  (he:evX (orc fun u=>l.lookup u) (fun u=>l.lookup u) 0 c st=r):evX (orc fun u=>l'.lookup u) (fun u=>l'.lookup u) 0 c st=r:=by
 rw[<-zb7 h.agr 0 c (fun v hv=>by grind) st];omega
def Part.call{l l':List (Nat×AFx)}(h:Part l l'){u:Nat}(hu:(l'.lookup u).isSome=true){xs:List AV}{r:Option AV}(he:Zb (fun u=>l.lookup u) u xs=r):Zb (fun u=>l'.lookup u) u xs=r:=by
 rw[<-he];unfold Zb;rw[h.agr.call u xs [] (by grind)]
end
end Go.Ab