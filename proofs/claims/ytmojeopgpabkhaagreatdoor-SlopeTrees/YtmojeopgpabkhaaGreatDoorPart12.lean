/-
  A calculus of values, boxes and code, and what functions of the program compute, proved in it.
  Conditions: none beyond those that the theorems state. (Part 12.)
-/
import Derived.Test.YtmojeopgpabkhaaGreatDoorPart11
import Derived.Lib.IndexAny
import Derived.Lib.Bytealg

set_option linter.unusedSectionVars false
set_option linter.unusedVariables false
set_option linter.unusedSimpArgs false
set_option linter.unnecessarySimpa false
set_option linter.defProp false

namespace Go.Ab
def zz0{dim pars lets:Int}{x:Nd}(h:okN dim pars lets x=true):(x.op=6->x.i=0)/\(x.op=11->-8<=x.i/\x.i<=8):=by
 unfold okN at h;constructor
 ·intro h6;rw[h6]at h;rw[if_neg (by decide)]at h;split at h
  ·cases h
  ·simpa using h
 ·intro h11;rw[h11]at h;rw[if_neg (by decide)]at h;split at h
  ·cases h
  ·simpa using h
def zm7(p m r:List Nd)(x:Nd)(i j:Nat)(hi:i=p.length+m.length)(hj:j=m.length):(((p++m)++x::r).take (i+1)).drop (i-j)=m++[x]:=by
 subst hi hj;rw[List.take_append,Yp,Yc (by rw[Yp];omega),show p.length+m.length+1-(p.length+m.length)=1 by omega,show p.length+m.length-m.length=p.length by omega,Yz,List.drop_left]
 rfl
def zm8{w:Nat}{p m r:List Nd}(h:thin w (p++m++r)):thin w m:=fun x hx=>h x (by simp[hx])
def zm9{p m r code:List Nd}(h:p++m++r=code):m.length<=code.length:=by rw[<-h,Yp,Yp];omega
def zkg(u:Nd)(t:Tre)(h:t.flat.length<=300):(t.der u).length<=900000:=by
 have h1:=zqj u t;have h2:t.flat.length*t.flat.length<=300*300:=Yby h h;omega
section
variable{T:Tbl}[Za4 T][Zax T]
def z8i(u:Nd)(code:List Nd)(t0:Tre)(hok:∀x∈code,okN 6 6 0 x=true)(hthin:thin 1000 code)(hl:code.length<=300) :
  ∀p:List Tre×List Nd,(Zbj p.1.reverse++p.2=code/\(∀t∈p.1,t.ok)/\p.2.foldl Zcn p.1=[t0]/\(∃i,Zah i p.1.length p.2=-1)) ->
  Zx T 0 0 (.norm true [5]) l47_1 (Zhx u code (pcs u p.1) (code.length-p.2.length)) =
   some (.n,⟨[(5,.bs (.loc 5) 1 2 0 1)],[(.loc 5,⟨1,.own,2,Zdm [(t0.flat,t0.der u)]⟩)],3⟩):=by
 refine zbg (fun p:List Tre×List Nd=>Zhx u code (pcs u p.1) (code.length-p.2.length)) _ (fun p=>p.2.length) _ ?_
 rintro⟨s,rest⟩ ⟨hc,hs,hf,j,hw⟩
 dsimp only at *
 cases rest with
 | nil=>
  right;have e:s=[t0]:=hf;subst e;rw[Yab,Yep];have e2:pcs u [t0]=[(t0.flat,t0.der u)]:=rfl;rw[e2];unfold Zhx;constructor<;>simp -implicitDefEqProofs[l47_1]
 | cons x r=>
  left;have hlen:(Zbj s.reverse).length+(r.length+1)=code.length:=by rw[<-hc];simp
  have hi:code.length-(x::r).length=(Zbj s.reverse).length:=by rw[Yg];omega
  have hi2:code.length-r.length=(Zbj s.reverse).length+1:=by omega
  rw[hi];have hx:code[(Zbj s.reverse).length]? = some x:=by rw[<-hc];simp
  have hxm:x∈code:=by rw[<-hc];simp
  have hun:=zz0 (hok x hxm);have hL:Zc9 (pcs u s)=(Zbj s.reverse).length:=z44 u s;have hsl:s.length<=(Zbj s.reverse).length:=by
   have:s.reverse.length<=(Zbj s.reverse).length:=by
    generalize s.reverse=q
    induction q with
    | nil=>exact Yx _
    | cons t q ih=>
     have:=t.flat_pos;show q.length+1<=(t.flat++Zbj q).length;rw[Yp];omega
   simpa using this
  have hpl:=zw6 u s;have h1:¬ (arN x.op<0\/(s.length:Int)<arN x.op):=by
   intro hh;unfold Zah at hw;rw[if_pos hh]at hw;omega
  have hw2:Zah (j+1) (s.length+1-arN x.op) r=-1:=by
   unfold Zah at hw
   rwa [if_neg h1]at hw
  rcases zax x.op with ⟨e,_⟩ | ⟨e,hop⟩ | ⟨e,_⟩ | ⟨e,_⟩
  ·have hp:Zcn s x=.leaf x::s:=by simp[Zcn,e]
   refine⟨(.leaf x::s,r),⟨?_,?_,?_,j+1,?_⟩,by simp,?_,rfl⟩
   ·rw[Ya2,zby,Yz];exact hc
   ·intro t ht;rcases Yw.1 ht with rfl | ht
    ·exact e
    ·exact hs t ht
   ·rw[Ybg,hp]at hf;exact hf
   ·rw[e]at hw2;rw[<-hw2];congr 1
   ·dsimp only;rw[hi2,zfv,z3l u x code (pcs u s) _ hx e (by omega) (by omega)];have:=zm7 (Zbj s.reverse) [] r x (Zbj s.reverse).length 0 (by simp) rfl;rw[Yau,hc,Yep]at this;rw[this]
    rfl
  ·cases s with
   | nil=>exfalso;apply h1;right;rw[e];decide
   | cons a s1=>
    have hp:Zcn (a::s1) x=.un x a::s1:=by simp[Zcn,e]
    have hc':Zbj s1.reverse++a.flat++x::r=code:=by
     rw[<-hc,Ya2,zby]
    have ta:thin 1000 a.flat:=by rw[<-hc']at hthin;exact zm8 hthin
    have la:=zm9 hc';have tda:=zep (w:=1000) (by decide) u a ta;have lda:=zkg u a (by omega);have hii:(Zbj (a::s1).reverse).length=(Zbj s1.reverse).length+a.flat.length:=by rw[Ya2,zby,Yp]
    have c1:=z3k (T:=T) x a.flat (a.der u) hop (by
     rcases hop with h | h
     ·have:=hun.1 h;omega
     ·exact hun.2 h) hun.1 (by omega) ta tda
    refine⟨(.un x a::s1,r),⟨?_,?_,?_,j+1,?_⟩,by simp,?_,rfl⟩
    ·rw[Ya2,zby,Tre.flat,<-hc'];simp
    ·intro t ht;rcases Yw.1 ht with rfl | ht
     ·exact⟨e,hs a (by simp)⟩
     ·exact hs t (by simp[ht])
    ·rw[Ybg,hp]at hf;exact hf
    ·rw[e]at hw2;rw[<-hw2];congr 1;dsimp only;rw[Yg,Yg];omega
    ·dsimp only;have hstep:=z3m (T:=T) u x code (pcs u (a::s1)) (pcs u s1) a.flat (a.der u) _ hx e (zfv u a s1) (by omega) (by omega) (by omega) c1;rw[hstep,hi2,zfv];have:=zm7 (Zbj s1.reverse) a.flat r x _ a.flat.length hii rfl;rw[hc']at this;rw[this]
     rfl
  ·cases s with
   | nil=>exfalso;apply h1;right;rw[e];decide
   | cons b s0=>
   cases s0 with
   | nil=>exfalso;apply h1;right;rw[e];simp
   | cons a s1=>
    have hp:Zcn (b::a::s1) x=.bin x a b::s1:=by simp[Zcn,e]
    have hc':Zbj s1.reverse++(a.flat++b.flat)++x::r=code:=by
     rw[<-hc,Ya2,zby,Ya2,zby];simp
    have hca:Zbj s1.reverse++a.flat++(b.flat++x::r)=code:=by rw[<-hc'];simp
    have hcb:(Zbj s1.reverse++a.flat)++b.flat++(x::r)=code:=by rw[<-hc'];simp
    have ta:thin 1000 a.flat:=by rw[<-hca]at hthin;exact zm8 hthin
    have tb:thin 1000 b.flat:=by rw[<-hcb]at hthin;exact zm8 hthin
    have la:=zm9 hca;have lb:=zm9 hcb;have tda:=zep (w:=1000) (by decide) u a ta;have tdb:=zep (w:=1000) (by decide) u b tb;have lda:=zkg u a (by omega);have ldb:=zkg u b (by omega);have hii:(Zbj (b::a::s1).reverse).length=(Zbj s1.reverse).length+(a.flat++b.flat).length:=by
     rw[Ya2,zby,Ya2,zby];simp[Yav]
    have c1:=z3j (T:=T) x.op a.flat (a.der u) b.flat (b.der u) (by omega) ta tda tb tdb;refine⟨(.bin x a b::s1,r),⟨?_,?_,?_,j+1,?_⟩,by simp,?_,rfl⟩
    ·rw[Ya2,zby,Tre.flat,<-hc'];simp
    ·intro t ht;rcases Yw.1 ht with rfl | ht
     ·exact⟨e,hs a (by simp),hs b (by simp)⟩
     ·exact hs t (by simp[ht])
    ·rw[Ybg,hp]at hf;exact hf
    ·rw[e]at hw2;rw[<-hw2];congr 1;dsimp only;rw[Yg,Yg,Yg];omega
    ·dsimp only;have hstep:=z3n (T:=T) u x code (pcs u (b::a::s1)) (pcs u s1) a.flat (a.der u) b.flat (b.der u) _ hx e (by rw[zfv,zfv];simp) (by omega) (by omega) (by omega) c1;rw[hstep,hi2,zfv];have:=zm7 (Zbj s1.reverse) (a.flat++b.flat) r x _ (a.flat.length+b.flat.length) hii (by simp);rw[hc']at this;rw[this];simp only[Tre.flat,Tre.der,Yz]
  ·exfalso;apply h1;left;omega
def z8j(u:Nd)(t:Tre)(ht:t.ok)(hok:∀x∈t.flat,okN 6 6 0 x=true)(hthin:thin 1000 t.flat)(hl:t.flat.length<=300) :
  Za T 47 [.sl (Zl t.flat) .an,.agg (Zdb u)]=some (dv (t.der u)):=by
 have hlo:=z8i (T:=T) u t.flat t hok hthin hl ([],t.flat) ⟨rfl,by simp,by
  have:=zg9 t ht [] []
  rwa [Yau]at this,0,zet ht⟩
 dsimp only at hlo;rw[Yb0]at hlo;unfold Zhx at hlo;have e:pcs u []=[]:=rfl;rw[e]at hlo;simp only[Yab,Ym,zpk]at hlo;have hel:Zdm [(t.flat,t.der u)]=[[.sl (Zl t.flat) .an,.sl (Zl (t.der u)) (flg (t.der u))]]:=by simp only[Zdm,Y9,Yb5,Zct,zhp]
 rw[hel]at hlo;rw[zhp];generalize flg (t.der u)=f at *
 generalize t.der u=D at *
 generalize t.flat=code at *
 obtain⟨uop,ui,un⟩:=u;rw[zaa Za4.h47 rfl,b47];simp -implicitDefEqProofs[hlo]
end
def Zs5(f s:List Nd)(j:Int)(da db:List Nd):List Nd:=
 if da≠[]/\db≠[] then Zkh f s j 0 else if da≠[] then f else if db≠[]/\j=8 then Zkh s [] 6 0 else if db≠[] then s else []
end Go.Ab
section
namespace Go.Ab
end Go.Ab
end
namespace Go.Ab
section
variable{T:Tbl}[Ze9 T]
def z3q(l:List Nd)(hl:l.length<=4294967295):Za T 13 [.sl (Zl l) .an]=some (.sl (Zl l) .an):=by
 have hlo:Zx T 0 0 (.norm false [3]) l13_0 ⟨[(0,.sl (Zl l) .an),(3,.bs (.loc 3) 1 3 0 0),(4,.i .i64 0)],[(.loc 3,⟨1,.own,3,[]⟩)],3⟩ =
   some (.n,⟨[(3,.bs (.loc 3) 1 3 0 l.length)],[(.loc 3,⟨1,.own,3,Zl l⟩)],3⟩):=by
  have:=zao (T:=T) (k:=0) (id:=0) (g2:=.norm false [3]) (c:=l13_0) (fun i=>⟨[(0,.sl (Zl l) .an),(3,.bs (.loc 3) 1 3 0 i),(4,.i .i64 (i:Int))],[(.loc 3,⟨1,.own,3,Zl (l.take i)⟩)],3⟩) l.length
   (some (.n,⟨[(3,.bs (.loc 3) 1 3 0 l.length)],[(.loc 3,⟨1,.own,3,Zl l⟩)],3⟩)) (fun i hi=>?_) ?_
  ·simpa using this
  ·have hg:l[i]? = some (l[i]'hi):=Ya hi;have hi':(i:Int)<l.length:=by omega
   have hws:=zbc hi (by omega);have hs:l.take (i+1)=l.take i++[l[i]'hi]:=by rw[Ya4 hi]
   have hp:=z18 (n:=i) (show (l.take i).length=i by rw[Yae];omega) (l[i]'hi);have hle:i<=(l.take i).length:=by rw[Yae];omega
   have h32:i+1<=4294967296:=by omega
   rw[hs];generalize hx:l[i]'hi=x at *
   generalize l.take i=m at *
   obtain⟨op,j,n⟩:=x;clear hs;simp -implicitDefEqProofs[l13_0,hi,hi',hg,hx,hws,hp,hle,h32]
  ·constructor<;>simp -implicitDefEqProofs[l13_0]
 rw[zaa Ze9.h13 rfl,b13];simp -implicitDefEqProofs[hlo]
end
def Zlw(u:Nd):Bool:=decide (2<=u.op)&&decide (u.op<=4)&&okN 6 6 0 u
def Zdx(u:Nd)(t:Tre):List Nd:=if t.der u=[] then kNd 0 else t.der u
def Zq0(u:Nd)(l:List Nd):Bool:=!(l.any fun x=>decide (x.op=u.op)&&decide (x.i=u.i))
def z0d{u:Nd}{t:Tre}(h:thin 1000 t.flat):thin 1000 (Zdx u t):=by
 unfold Zdx;split
 ·exact zif (by decide) _
 ·exact zep (by decide) u t h
section
variable{T:Tbl}[Z2 T][Zr T][Z9 T][Zcs T][Zax T][Za4 T]
def zl8(u:Nd)(hn:u.n.length<=1000):Za T 45 [.agg (Zdb u)]=some (.b (Zlw u)):=by
 have c:=zmc (T:=T) u 6 6 0 hn;rw[zaa Za4.h45 rfl,b45];unfold Zlw;generalize okN 6 6 0 u=K at *
 obtain⟨op,i,n⟩:=u;dsimp only;by_cases h2:op=2
 ·subst h2;simp -implicitDefEqProofs[c]
 by_cases h3:op=3
 ·subst h3;simp -implicitDefEqProofs[c]
 by_cases h4:op=4
 ·subst h4;simp -implicitDefEqProofs[c]
 have e:(decide (2<=op)&&decide (op<=4))=false:=by
  rw[Ydd,decide_eq_false_iff_not,decide_eq_false_iff_not];omega
 rw[e];simp -implicitDefEqProofs[h2,h3,h4]
def zwc(u:Nd)(l:List Nd)(hl:l.length<=4294967290)(hn:thin 1000 l)(hu:u.n.length<=1000)(h:Zlw u=false\/300<l.length\/0<=Za9 6 6 0 l):Za T 12 [.sl (Zl l) .an,.agg (Zdb u)]=some (.tup [.sl [] .an,.b false]):=by
 have c1:=zl8 (T:=T) u hu;have c2:=zdv (T:=T) l 6 6 0 (by omega) hn;rw[zaa Za4.h12 rfl,b12];generalize Za9 6 6 0 l=P at *
 obtain⟨op,i,n⟩:=u;generalize hU:Zlw ⟨op,i,n⟩=U at *
 cases U with
 | false=>simp -implicitDefEqProofs[c1]
 | true=>
  by_cases h3:300<l.length
  ·have h3':(300:Int)<l.length:=by omega
   simp -implicitDefEqProofs[c1,h3,h3']
  ·have h3':¬ (300:Int)<l.length:=by omega
   have h4:0<=P:=by
    rcases h with h | h | h
    ·cases h
    ·exact absurd h h3
    ·exact h
   simp -implicitDefEqProofs[c1,c2,h3,h3',h4]
def zl9(u:Nd)(t:Tre)(ht:t.ok)(hok:∀x∈t.flat,okN 6 6 0 x=true)(hl:t.flat.length<=300)(hn:thin 1000 t.flat)(hu:u.n.length<=1000)(h:Zlw u=true):Za T 12 [.sl (Zl t.flat) .an,.agg (Zdb u)]=some (.tup [.sl (Zl (Zdx u t)) .an,.b true]):=by
 have c1:=zl8 (T:=T) u hu;have c2:=zdv (T:=T) t.flat 6 6 0 (by omega) hn;rw[zk8 ht hok]at c2;rw[h]at c1;have c3:=z8j (T:=T) u t ht hok hn hl;have c4:Za T 48 [.i .i64 0]=some (.sl (Zl (kNd 0)) .an):=zfm (T:=T) 0 (by decide);have h3:¬ (300:Int)<t.flat.length:=by omega
 rw[zaa Za4.h12 rfl,b12];unfold Zdx;generalize kNd 0=K at *
 generalize t.flat=code at *
 obtain⟨op,i,n⟩:=u;by_cases hz:t.der ⟨op,i,n⟩=[]
 ·rw[if_pos hz];rw[hz,zkc]at c3;simp -implicitDefEqProofs[c1,c2,c3,c4,h3]
 ·rw[if_neg hz];have e:=ze4 hz;rw[zgx hz]at c3;generalize t.der ⟨op,i,n⟩=D at *
  simp -implicitDefEqProofs[-Za0,e,c1,c2,c3,c4,h3]
variable[Zmv T][Zd9 T][Zb1 T][Zb2 T][Zbm T][Zb3 T]
end
def Zkt(op:Int)(many:Nat)(c:List Nd)(F:Nat->List Nd)(j:Nat):St:=
 ⟨[(1,.i .i64 op),(2,.i .i64 many),(8,.bs (.loc 8) 1 1 0 0),(10,.sl (Zl c) .an),(13,.bs (.loc 13) 2 1 0 j),(31,.sl [[.sl (Zl c) .an]] .an),(32,.i .i64 1),(33,.i .i64 0),(45,.i .i64 many),(46,.i .i64 (j:Int))],
  [(.loc 8,⟨1,.own,1,[]⟩),(.loc 13,⟨2,.own,1,Za3 ((List.range j).map F)⟩)],4⟩
def Zgg(op:Int)(many:Nat)(c:List Nd)(R:List (List AV))(i:Nat):St:=
 ⟨[(1,.i .i64 op),(2,.i .i64 many),(8,.bs (.loc 8) 1 1 0 R.length),(31,.sl [[.sl (Zl c) .an]] .an),(32,.i .i64 1),(33,.i .i64 (i:Int))],
  [(.loc 8,⟨1,.own,1,R⟩)],3⟩
section
variable{T:Tbl}[Z2 T][Zr T][Z9 T][Zcs T][Zax T][Za4 T][Zde T]
def zz1(op:Int)(many:Nat)(c:List Nd)(F:Nat->List Nd)(hm:many<=1000)(hc:∀k:Nat,k<many->Za T 12 [.sl (Zl c) .an,.agg [.i .i64 op,.i .i64 (k:Int),.sl [] .an]]=some (.tup [.sl (Zl (F k)) .an,.b true])) :
  Zx T 0 2 (.norm false [1,2,8,13,31,32,33]) l700_0 (Zkt op many c F 0) =
  some (.n,⟨[(1,.i .i64 op),(2,.i .i64 many),(8,.bs (.loc 8) 1 1 0 0),(13,.bs (.loc 13) 2 1 0 many),(31,.sl [[.sl (Zl c) .an]] .an),(32,.i .i64 1),(33,.i .i64 0)],
   [(.loc 8,⟨1,.own,1,[]⟩),(.loc 13,⟨2,.own,1,Za3 ((List.range many).map F)⟩)],4⟩):=by
 refine zao (T:=T) (k:=0) (id:=2) (g2:=.norm false [1,2,8,13,31,32,33]) (c:=l700_0) (fun j=>Zkt op many c F j) many _ (fun j hj=>?_) ?_
 ·have cj:=hc j hj;have hj':(j:Int)<many:=by omega
  have hws:=zbc hj (by omega);have hs:Za3 ((List.range j).map F)++[[.sl (Zl (F j)) .an]]=Za3 ((List.range (j+1)).map F):=by rw[List.range_succ];simp[Za3]
  have hl:(Za3 ((List.range j).map F)).length=j:=by simp
  have ht:(Za3 ((List.range j).map F)).take j=Za3 ((List.range j).map F):=Yc (by omega);have hwk:wkL (Za3 ((List.range (j+1)).map F))=Za3 ((List.range (j+1)).map F):=by simp
  have h32:j+1<=4294967296:=by omega
  unfold Zkt;generalize Za3 ((List.range j).map F)=Q at *
  generalize Za3 ((List.range (j+1)).map F)=Q1 at *
  generalize F j=X at *
  simp -implicitDefEqProofs[l700_0,hj,hj',hws,cj,hs,hl,ht,hwk,h32,Zae]
 ·unfold Zkt;constructor<;>simp -implicitDefEqProofs[l700_0,Zae]
def zru(c:List Nd)(op:Int)(many:Nat)(ho:op=3\/op=4)(hm:many<=6)(hl:c.length<=1000)(hn:thin 1000 c)(h:300<c.length\/0<=Za9 6 6 0 c) :
  Za T 700 [.sl [[.sl (Zl c) .an]] .an,.i .i64 op,.i .i64 many]=some (.tup [.sl [] .an,.b false]):=by
 have cb:Za T 12 [.sl (Zl c) .an,.agg [.i .i64 2,.i .i64 0,.sl [] .an]]=_:=zwc (T:=T) ⟨2,0,[]⟩ c (by omega) hn (by decide) (.inr h);have h1:¬ (many:Int)<0:=by omega
 have h2:¬ (6:Int)<many:=by omega
 have lo:Zx T 0 0 (.norm false [8]) l700_1 (Zgg op many c [] 0)=some (.r,⟨[(6,.sl [] .an),(7,.b false)],[],2⟩):=by
  refine zbb (T:=T) (k:=0) (id:=0) (g2:=.norm false [8]) (c:=l700_1) (fun i=>Zgg op many c [] i) 1 (fun i=>if i=0 then some (.r,⟨[(6,.sl [] .an),(7,.b false)],[],2⟩) else Zdw 0 0 (.norm false [8]) (evX (orc T) T 0 l700_1 (Zgg op many c [] 1))) (fun i hi=>.inr ?_) ?_
  ·obtain rfl:i=0:=by omega
   unfold Zgg;rw[if_pos rfl];constructor<;>simp -implicitDefEqProofs[l700_1,cb,Zae]
  ·refine⟨?_,by rw[if_neg (by decide)]⟩;unfold Zgg;simp -implicitDefEqProofs[l700_1,Zae]
 unfold Zgg at lo;simp only[Yab,Ym]at lo;rw[zaa Zde.h700 rfl,b700];rcases ho with rfl | rfl
 ·simp -implicitDefEqProofs[h1,h2,lo,Zae]
 ·simp -implicitDefEqProofs[h1,h2,lo,Zae]
def zga(t:Tre)(op:Int)(many:Nat)(ho:op=3\/op=4)(hm:many<=6)(ht:t.ok)(hok:∀x∈t.flat,okN 6 6 0 x=true)(hl:t.flat.length<=300)(hn:thin 1000 t.flat) :
  Za T 700 [.sl [[.sl (Zl t.flat) .an]] .an,.i .i64 op,.i .i64 many]=some (.tup [.sl [[.sl (Za3 ((List.range many).map fun k=>Zdx ⟨op,(k:Nat),[]⟩ t)) .an]] .an,.b true]):=by
 have cb:Za T 12 [.sl (Zl t.flat) .an,.agg [.i .i64 2,.i .i64 0,.sl [] .an]]=_:=zl9 (T:=T) ⟨2,0,[]⟩ t ht hok hl hn (by decide) (by decide);have cj:∀k:Nat,k<many->Za T 12 [.sl (Zl t.flat) .an,.agg [.i .i64 op,.i .i64 (k:Int),.sl [] .an]]=some (.tup [.sl (Zl (Zdx ⟨op,(k:Nat),[]⟩ t)) .an,.b true]):=fun k hk=>
  zl9 (T:=T) ⟨op,(k:Nat),[]⟩ t ht hok hl hn (by simp) (by
   unfold Zlw okN;rcases ho with rfl | rfl<;>simp[Zgl]<;>omega)
 have h1:¬ (many:Int)<0:=by omega
 have h2:¬ (6:Int)<many:=by omega
 generalize Zdx ⟨2,0,[]⟩ t=D0 at *
 have li:=zz1 (T:=T) op many t.flat (fun k=>Zdx ⟨op,(k:Nat),[]⟩ t) (by omega) cj;have lo:Zx T 0 0 (.norm false [8]) l700_1 (Zgg op many t.flat [] 0)=some (.n,⟨[(8,.bs (.loc 8) 1 1 0 1)],[(.loc 8,⟨1,.own,1,[[.sl (Za3 ((List.range many).map fun k=>Zdx ⟨op,(k:Nat),[]⟩ t)) .an]]⟩)],3⟩):=by
  have hlQ:(Za3 ((List.range many).map fun k=>Zdx ⟨op,(k:Nat),[]⟩ t)).length=many:=by simp
  have htQ:(Za3 ((List.range many).map fun k=>Zdx ⟨op,(k:Nat),[]⟩ t)).take many=Za3 ((List.range many).map fun k=>Zdx ⟨op,(k:Nat),[]⟩ t):=Yc (by omega);have hwk:wkL (Za3 ((List.range many).map fun k=>Zdx ⟨op,(k:Nat),[]⟩ t))=Za3 ((List.range many).map fun k=>Zdx ⟨op,(k:Nat),[]⟩ t):=by simp
  unfold Zkt at li;rw[List.range_zero,Yb5,show Za3 []=[] from rfl,show (((0:Nat):Int))=0 from rfl]at li;clear cj;generalize Za3 ((List.range many).map fun k=>Zdx ⟨op,(k:Nat),[]⟩ t)=Q at *
  refine zao (T:=T) (k:=0) (id:=0) (g2:=.norm false [8]) (c:=l700_1) (fun i=>Zgg op many t.flat (if i=0 then [] else [[.sl Q .an]]) i) 1 _ (fun i hi=>?_) ?_
  ·obtain rfl:i=0:=by omega
   unfold Zgg;simp -implicitDefEqProofs[l700_1,cb,li,hlQ,htQ,hwk,Zae]
  ·unfold Zgg;constructor<;>simp -implicitDefEqProofs[l700_1,hwk,Zae]
 unfold Zgg at lo;simp only[Yab,Ym]at lo;have hwk:wkL (Za3 ((List.range many).map fun k=>Zdx ⟨op,(k:Nat),[]⟩ t))=Za3 ((List.range many).map fun k=>Zdx ⟨op,(k:Nat),[]⟩ t):=by simp
 clear li cj;generalize Za3 ((List.range many).map fun k=>Zdx ⟨op,(k:Nat),[]⟩ t)=Q at *
 rw[zaa Zde.h700 rfl,b700];rcases ho with rfl | rfl
 ·simp -implicitDefEqProofs[h1,h2,lo,hwk,Zae]
 ·simp -implicitDefEqProofs[h1,h2,lo,hwk,Zae]
end
theorem zr1:∀(a b:List UInt32),a.length=b.length->val a=val b->a=b
 | [],[],_,_=>rfl
 | x::a,y::b,hl,hv=>by
  simp only[zaq]at hv;have hx:=zam x;have hy:=zam y;have h1:x.toNat=y.toNat:=by omega
  have h2:val a=val b:=by omega
  rw[UInt32.toNat_inj.1 h1,zr1 a b (by simpa using hl) h2]
 | [],_::_,hl,_=>by simp at hl
 | _::_,[],hl,_=>by simp at hl
def zg0{x y:Nat}:Zgu x y=0↔x=y:=by
 grind[Zgu]
theorem zz6(z:Int):∀t:Nat,sg (decide (z<0)&&decide (t%2=1)) (z.natAbs^t)=z^t
 | 0=>by simp[sg]
 | t+1=>by
  have ih:=zz6 z t;have hz:sg (decide (z<0)) z.natAbs=z:=by
   unfold sg;by_cases h:z<0
   ·simp only[h,decide_true,if_true];omega
   ·simp only[h,decide_false,Yah,if_false];omega
  have hm:=z56 (decide (z<0)&&decide (t%2=1)) (decide (z<0)) (z.natAbs^t) z.natAbs;rw[ih,hz]at hm;rw[Int.pow_succ,<-hm,Yap];rcases Nat.mod_two_eq_zero_or_one t with h | h
  ·have h2:(t+1)%2=1:=by omega
   rw[h,h2];cases decide (z<0)<;>rfl
  ·have h2:(t+1)%2=0:=by omega
   rw[h,h2];cases decide (z<0)<;>rfl
theorem zht{x L:Nat}(h:(ofN x).length<=L):∀t:Nat,(ofN (x^t)).length<=t*L+1
 | 0=>by rw[Yeq,zgh];simp
 | t+1=>by
  have ih:=zht h t;have:=zb9 ih h
  grind
section
variable{T:Tbl}[Z2 T][Zr T][Zv T][Zw T][Zq T][Zo T][Ze T][Zh T][Zs T][Z0 T]
def zv4(x:Fz)(hx:fsz x<=10000):Za T 208 [efz x]=some (.b (Zki x)):=by
 have hn:=zcz (T:=T) x hx;have hs:=zbd (x:=x) (L:=10000) hx (by decide);have l1:=zhb (fv x);have l2:=zhc (fv x);unfold Zki;have e':fz (fv x)=(decide ((fv x).num<0),ofN (fv x).num.natAbs,ofN (fv x).den):=rfl;rw[e']at hn ⊢;obtain⟨n,a,d⟩:=x;have la:=zfc (n,a,d);have ld:=zfy (n,a,d);simp only at la ld;generalize decide ((fv (n,a,d)).num<0)=m at *
 generalize ofN (fv (n,a,d)).num.natAbs=b at *
 generalize ofN (fv (n,a,d)).den=e at *
 have c1:=zhw (T:=T) a b (by omega) (by omega);have c2:=zhw (T:=T) d e (by omega) (by omega);rw[zaa Z0.h208 rfl,b208];by_cases h1:n=m
 case neg=>
  have hd:decide ((n,a,d)=(m,b,e))=false:=by grind
  have hb:(n == m)=false:=by grind
  rw[hd];simp -implicitDefEqProofs[hn,hb]
 subst h1;by_cases h2:a.length=b.length
 case neg=>
  have hd:decide ((n,a,d)=(n,b,e))=false:=by
   grind
  have hb:((a.length:Int) == b.length)=false:=by grind
  rw[hd];simp -implicitDefEqProofs[hn,hb]
 by_cases h3:d.length=e.length
 case neg=>
  have hd:decide ((n,a,d)=(n,b,e))=false:=by
   grind
  have hb:((d.length:Int) == e.length)=false:=by grind
  rw[hd];simp -implicitDefEqProofs[hn,h2,hb]
 by_cases h4:val a=val b
 case neg=>
  have hd:decide ((n,a,d)=(n,b,e))=false:=by
   grind
  have hc:¬ Zgu (val a) (val b)=0:=fun h=>h4 (zg0.1 h);rw[hd];simp -implicitDefEqProofs[hn,h2,h3,c1,hc]
 have hab:=zr1 a b h2 h4;subst hab;have hk:Zgu (val a) (val a)=0:=zg0.2 rfl;rw[hk]at c1;by_cases h5:val d=val e
 case neg=>
  have hd:decide ((n,a,d)=(n,a,e))=false:=by
   grind
  have hc:¬ Zgu (val d) (val e)=0:=fun h=>h5 (zg0.1 h);rw[hd];simp -implicitDefEqProofs[hn,h3,c1,c2,hc]
 have hde:=zr1 d e h3 h5;subst hde;have hk2:Zgu (val d) (val d)=0:=zg0.2 rfl;rw[hk2]at c2;have hd:decide ((n,a,d)=(n,a,d))=true:=by simp
 simp -implicitDefEqProofs[hn,c1,c2]
def Zm3(a:List UInt32)(k i:Nat):St:=⟨[(0,.sl (Zb a) .an),(5,.sl (Zb (ofN (val a^i))) .an),(7,.i .i64 k),(8,.i .i64 i)],[],2⟩
theorem zl5(a:List UInt32)(k:Nat)(hk:k<=8)(ha:a.length<=1100):Za T 219 [.sl (Zb a) .an,.i .i64 k]=some (.sl (Zb (ofN (val a^k))) .an):=by
 have h:Zx T 0 0 (.norm false [5]) l219_0 (Zm3 a k 0)=some (.n,⟨[(5,.sl (Zb (ofN (val a^k))) .an)],[],2⟩):=by
  refine zao (Zm3 a k) k _ (fun i hi=>?_) ?_
  ·have hl:=zht (L:=1100) (Ye (zac a) ha) i;have c:=zfs (T:=T) (ofN (val a^i)) a (by omega) (by omega);rw[zae,<-Yap]at c;have hw:=zbc hi (by omega);unfold Zm3;simp -implicitDefEqProofs[l219_0,hi,hw,c]
  ·unfold Zm3;constructor<;>simp -implicitDefEqProofs[l219_0]
 have ho:=zic (T:=T) 1 (by decide);unfold Zm3 at h;rw[Yeq]at h;simp only[Ym]at h;rw[zaa Z0.h219 rfl,b219];simp -implicitDefEqProofs[ho,h]
def Zeh(q:Rat)(e:Int):Rat×Bool:=if -8<=e/\e<=8/\¬ (e<0/\q=0) then (Zbp q e,true) else (0,false)
def zae5(q:Rat)(t:Nat):fz (q^t)=(decide (q.num<0)&&decide (t%2=1)&&decide (q.num.natAbs^t≠0),ofN (q.num.natAbs^t),ofN (q.den^t)):=by
 grind[zz6,fz,Rat.num_pow,Rat.den_pow,zud,zue]
def z8m(q:Rat)(t:Nat)(hq:q≠0):fz (q^t)⁻¹=(decide (q.num<0)&&decide (t%2=1)&&decide (q.den^t≠0),ofN (q.den^t),ofN (q.num.natAbs^t)):=by
 have h:=zz6 q.num t;have hn:q.num≠0:=fun h=>hq (Rat.num_eq_zero.1 h);have hz:q.num^t≠0:=Int.pow_ne_zero hn;have hd:q.den^t≠0:=Nat.pos_iff_ne_zero.1 (Ybs q.den_pos);have ha:q.num.natAbs^t≠0:=Nat.pos_iff_ne_zero.1 (Ybs (Int.natAbs_pos.2 hn));have e1:(q^t)⁻¹.num=(q.num^t).sign*((q.den^t:Nat):Int):=by simp_all
 have e2:(q^t)⁻¹.den=q.num.natAbs^t:=by simp_all
 grind[Int.sign_eq_neg_one_of_neg,zud,fz]
def zg1(x:Fz)(e:Int)(hx:fsz x<=1000):Za T 220 [efz x,.i .i64 e]=some (.tup [efz (fz (Zeh (fv x) e).1),.b (Zeh (fv x) e).2]):=by
 have h0:=zc8 (T:=T);have hsg:=zpo (T:=T) x (by omega);have hn:=zcz (T:=T) x (by omega);have hs:=zbd (x:=x) (L:=1000) hx (by decide);have l1:=zhb (fv x);have l2:=zhc (fv x);unfold Zeh;rw[zaa Z0.h220 rfl,b220];by_cases h1:e < -8
 ·rw[if_neg (by omega)];simp -implicitDefEqProofs[h0,h1]
 by_cases h2:8<e
 ·rw[if_neg (by omega)];simp -implicitDefEqProofs[h0,h1,h2]
 obtain⟨q,hq⟩:∃q,q=fv x:=⟨_,rfl⟩;rw[<-hq]at hsg hn hs l1 l2 ⊢;clear hq;have e':fz q=(decide (q.num<0),ofN q.num.natAbs,ofN q.den):=rfl;rw[e']at hn;have hA:(ofN q.num.natAbs).length<=1100:=by omega
 have hD:(ofN q.den).length<=1100:=by omega
 have pA:∀k:Nat,k<=8->Za T 219 [.sl (Zb (ofN q.num.natAbs)) .an,.i .i64 k]=some (.sl (Zb (ofN (q.num.natAbs^k))) .an):=fun k hk=>by
  grind[zl5,zae]
 have pD:∀k:Nat,k<=8->Za T 219 [.sl (Zb (ofN q.den)) .an,.i .i64 k]=some (.sl (Zb (ofN (q.den^k))) .an):=fun k hk=>by
  grind[zl5,zae]
 have lA:∀k:Nat,k<=8->(ofN (q.num.natAbs^k)).length<=1000000:=fun k hk=>by
  have:=zht hA k;omega
 have lD:∀k:Nat,k<=8->(ofN (q.den^k)).length<=1000000:=fun k hk=>by
  have:=zht hD k;omega
 have hodd:∀k:Nat,k<=8->(((k:Int).tmod 2) == 1)=decide (k%2=1):=fun k hk=>by
  have e:(k:Int).tmod 2=((k%2:Nat):Int):=by rw[show (2:Int)=((2:Nat):Int) from rfl,<-Int.ofNat_tmod]
  rw[e,Ycf];simp;omega
 by_cases h3:e<0
 case neg=>
  obtain⟨n,rfl⟩:∃n:Nat,e=n:=⟨e.toNat,by omega⟩;have hn8:n<=8:=by omega
  rw[if_pos (by omega)];have hw:IntKind.wrap .i64 (-(n:Int))=-(n:Int):=zab _ (by omega);have cA:=pA n hn8;have cD:=pD n hn8;have ho:=hodd n hn8;have hnorm:=zh5 (T:=T) (decide (q.num<0)&&decide (n%2=1)) (ofN (q.num.natAbs^n)) (lA n hn8);rw[show wv (decide (q.num<0)&&decide (n%2=1)) (ofN (q.num.natAbs^n))=sg (decide (q.num<0)&&decide (n%2=1)) (q.num.natAbs^n) by unfold wv;rw[zae],z4z]at hnorm;have hf:=zae5 q n;have hz:Zbp q (n:Int)=q^n:=Yc0 q n;simp only[hz];rw[hf];have h4:¬ (8:Int)<n:=by omega
  have h5:¬ ((n:Int) < -(n:Int)):=by omega
  have h6:¬ (n:Int)<0:=by omega
  have h1':¬ (n:Int) < -8:=by omega
  generalize decide (q.num<0)=NG at *
  generalize decide (n%2=1)=OD at *
  cases NG with
  | false=>
   simp only[Yev]at hnorm ⊢;simp -implicitDefEqProofs[hn,h4,h5,h6,h1',hw,mm2,cA,cD,hnorm]
  | true=>
   simp only[Yct]at hnorm ⊢;cases OD with
   | false=>simp -implicitDefEqProofs[hn,h4,h5,h6,h1',hw,mm2,cA,cD,ho,hnorm]
   | true=>simp -implicitDefEqProofs[hn,h4,h5,h6,h1',hw,mm2,cA,cD,ho,hnorm]
 by_cases h7:q=0
 ·rw[if_neg (by grind)];have hs0:sgQ q=0:=zhd.2 h7;rw[hs0]at hsg;generalize fz 0=Z at *
  have h4:¬ (8:Int)<e:=by omega
  simp -implicitDefEqProofs[h0,h1,h4,h3,hsg]
 rw[if_pos (by grind)];obtain⟨n,rfl⟩:∃n:Nat,e=-(n:Int):=⟨(-e).toNat,by omega⟩;have hn8:n<=8:=by omega
 have hsz:¬ sgQ q=0:=fun h=>h7 (zhd.1 h);have hw:IntKind.wrap .i64 (n:Int)=(n:Int):=zab _ (by omega);have cA:=pA n hn8;have cD:=pD n hn8;have ho:=hodd n hn8;have hnorm:=zh5 (T:=T) (decide (q.num<0)&&decide (n%2=1)) (ofN (q.den^n)) (lD n hn8);rw[show wv (decide (q.num<0)&&decide (n%2=1)) (ofN (q.den^n))=sg (decide (q.num<0)&&decide (n%2=1)) (q.den^n) by unfold wv;rw[zae],z4z]at hnorm;have hf:=z8m q n h7;have hz:Zbp q (-(n:Int))=(q^n)⁻¹:=by unfold Zbp;rw[Rat.zpow_neg,Yc0]
 simp only[hz];rw[hf];clear hf hz pA pD lA lD hodd e';have h4:¬ (8:Int) < -(n:Int):=by omega
 have h5:(-(n:Int)<(n:Int)):=by omega
 have h1':¬ -(n:Int) < -8:=by omega
 have h6:(n:Int)≠0:=by omega
 have h6':0<(n:Int):=by omega
 have h6'':0<n:=by omega
 have h1'':¬ 8<n:=by omega
 generalize ofN (q.num.natAbs^n)=AP at *
 generalize ofN (q.den^n)=DP at *
 generalize decide (q.den^n≠0)=NZ at *
 generalize ofN q.num.natAbs=A at *
 generalize ofN q.den=D at *
 generalize decide (q.num<0)=NG at *
 generalize decide (n%2=1)=OD at *
 generalize sgQ q=SG at *
 cases NG with
 | false=>
  simp only[Yev]at hnorm ⊢;simp -implicitDefEqProofs[hn,h4,h5,h6'',h1',hw,mm2,cA,cD,hnorm,hsg,hsz]
 | true=>
  simp only[Yct]at hnorm ⊢;cases OD with
  | false=>simp -implicitDefEqProofs[hn,h4,h5,h6'',h1',hw,mm2,cA,cD,ho,hnorm,hsg,hsz]
  | true=>simp -implicitDefEqProofs[hn,h4,h5,h6'',h1',hw,mm2,cA,cD,ho,hnorm,hsg,hsz]
end
@[simp] def z9a(l:List Int):(ints l).length=l.length:=by simp[ints]
@[simp] def zaow(l:List Int):wkL (ints l)=ints l:=by rw[zav];simp[ints,wkR,wkA]
@[simp] def zajm(l:List Int)(i:Nat)(h:i<(ints l).length):(ints l)[i]=[.i .i64 (l[i]'(by simpa using h))]:=by simp[ints]
@[simp] def zajn:ints []=[]:=rfl
section
variable{T:Tbl}[Z2 T][Zr T][Zv T][Zw T][Zq T][Zo T][Ze T][Zh T][Zs T][Z0 T][Z7 T]
def zdi(i m:Int):Za T 435 [.i .i64 i,.i .i64 m]=some (.b (Zag i m)):=by
 rw[zaa Z7.h435 rfl,b435];unfold Zag;by_cases h:0<=i
 ·by_cases h2:i<m<;>simp -implicitDefEqProofs[h,h2]
 ·simp -implicitDefEqProofs[h]
def z9b(i:Ins):Za T 437 [.agg (Zdn i)]=some (.agg [.i .i64 i.op,.i .i64 i.a,.i .i64 i.b]):=by
 rw[zaa Z7.h437 rfl,b437];simp -implicitDefEqProofs
def zwv(x:Fz)(hx:fsz x<=10000):Za T 438 [efz x]=some (.b (Zkj x)):=by
 obtain⟨n,a,d⟩:=x;rw[zaa Z7.h438 rfl,b438];unfold Zkj;cases n with
 | true=>simp -implicitDefEqProofs
 | false=>
  by_cases h:a=[]
  ·subst h;by_cases h2:d=[]
   ·subst h2;simp -implicitDefEqProofs
   ·have e2:d.isEmpty=false:=by cases d<;>simp_all
    simp -implicitDefEqProofs[h2,e2]
  ·have e2:a.isEmpty=false:=by cases a<;>simp_all
   simp -implicitDefEqProofs[h,e2]
def zww(i:Ins):Za T 439 [.agg (Zdn i)]=some (.sl (ints (Zap i)) .an):=by
 obtain⟨op,a,b,n⟩:=i;rw[zaa Z7.h439 rfl,b439];unfold Zap;simp only;by_cases h6:op=6
 ·subst h6;simp -implicitDefEqProofs[ints]
 by_cases h11:op=11
 ·subst h11;simp -implicitDefEqProofs[ints]
 rw[if_neg (by omega)];by_cases h7:op=7
 ·subst h7;simp -implicitDefEqProofs[ints]
 by_cases h8:op=8
 ·subst h8;simp -implicitDefEqProofs[ints]
 by_cases h9:op=9
 ·subst h9;simp -implicitDefEqProofs[ints]
 by_cases h10:op=10
 ·subst h10;simp -implicitDefEqProofs[ints]
 rw[if_neg (by omega)];simp -implicitDefEqProofs[h6,h7,h8,h9,h10,h11]
def z1g(i:Ins):(Zap i).length<=2:=by
 unfold Zap;split
 ·simp
 ·split<;>simp
def Zl5(t:Tp)(p:Nat)(x:Ins)(i:Nat):St:=
 ⟨[(1,.i .i64 p),(2,.ptr (.loc 2) 1 4 0 0),(5,.ptr (.loc 5) 2 6 0 0),(30,.sl (ints (Zap x)) .an),(31,.i .i64 (Zap x).length),(32,.i .i64 i)],
  [(.loc 2,⟨1,.str,4,[[.sl (Zcw t.code) .an,.sl (ints t.outs) .an,.i .i64 t.dim,.i .i64 t.par]]⟩),(.loc 5,⟨2,.str,6,[Zdn x]⟩)],4⟩
def z4n(t:Tp)(p:Nat)(x:Ins):Zx T 0 0 (.norm false [2,5]) l434_0 (Zl5 t p x 0) =
  if ((Zap x).all fun r=>Zag r p)=true then some (.n,⟨[(2,.ptr (.loc 2) 1 4 0 0),(5,.ptr (.loc 5) 2 6 0 0)],
   [(.loc 2,⟨1,.str,4,[[.sl (Zcw t.code) .an,.sl (ints t.outs) .an,.i .i64 t.dim,.i .i64 t.par]]⟩),(.loc 5,⟨2,.str,6,[Zdn x]⟩)],4⟩)
  else some (.r,⟨[(4,.b false)],[],2⟩):=by
 have hlen:=z1g x;refine zbb (Zl5 t p x) (Zap x).length (fun i=>if (((Zap x).drop i).all fun r=>Zag r p)=true then some (.n,_) else some (.r,_)) (fun i hi=>?_) ?_
 ·have hg:(Zap x)[i]? = some ((Zap x)[i]'hi):=Ya hi;have hws:=zbc hi (by omega);have hd:(Zap x).drop i=(Zap x)[i]'hi::(Zap x).drop (i+1):=Yo hi;have cb:=zdi (T:=T) ((Zap x)[i]'hi) p;have hi':(i:Int)<(Zap x).length:=by omega
  by_cases hb:Zag ((Zap x)[i]'hi) p=true
  ·left;rw[hb]at cb;refine⟨?_,by rw[hd];simp only[Ybv,hb,Yct]⟩;unfold Zl5;generalize Zap x=R at *
   simp -implicitDefEqProofs[l434_0,hi,hi',hg,hws,cb]
  ·right;have hb':Zag ((Zap x)[i]'hi) p=false:=by simpa using hb
   rw[hb']at cb;have hall:(((Zap x).drop i).all fun r=>Zag r p)=false:=by rw[hd,Ybv,hb'];rfl
   simp only[hall,Yah,if_false];unfold Zl5;clear hall hd;generalize Zap x=R at *
   constructor<;>simp -implicitDefEqProofs[l434_0,hi,hi',hg,cb]
 ·simp only[Yaf,Yen,if_true];unfold Zl5;generalize Zap x=R at *
  constructor<;>simp -implicitDefEqProofs[l434_0]
def z4o(t:Tp)(p:Nat)(x:Ins)(hx:t.code[p]? = some x)(hf:fsz x.n<=10000)(hl:t.code.length<=4294967296):Za T 434 [etp t,.i .i64 p]=some (.b (Zcj t.dim t.par p x)):=by
 have hp:=zca hx;have hp2:(p:Int)<t.code.length:=by omega
 have ho:=z9b (T:=T) x;have hbl:=zwv (T:=T) x.n hf;have hrd:=zww (T:=T) x;have hlo:=z4n (T:=T) t p x;have hrt:=zv4 (T:=T) x.n hf;unfold Zcj;unfold Zl5 at hlo;simp only[Ym]at hlo;have cy:=zdi (T:=T) x.a t.dim;have cp:=zdi (T:=T) x.a t.par;have hr2:(((Zap x).length:Int) == 2)=decide ((Zap x).length=2):=by
  rw[Ycf];simp;omega
 rw[zaa Z7.h434 rfl,b434];generalize Zap x=R at *
 generalize Zki x.n=RT at *
 generalize Zkj x.n=BL at *
 generalize Zag x.a t.dim=B1 at *
 generalize Zag x.a t.par=B2 at *
 generalize (R.all fun r=>Zag r p)=AL at *
 obtain⟨code,outs,dim,par⟩:=t;obtain⟨op,a,b,n⟩:=x;dsimp only at hx hp hp2 ho hbl hrd hlo hrt cy cp ⊢;have hxe:=(Yb.1 hx).2;clear hf hl;by_cases h1:op=1
 ·subst h1;by_cases ha:a=0
  ·subst ha;by_cases hb:b=0
   ·subst hb;simp -implicitDefEqProofs[hp,hp2,hx,hxe,ho,hrt]
   ·simp -implicitDefEqProofs[hp,hp2,hx,hxe,ho,hrt,hb]
  ·simp -implicitDefEqProofs[hp,hp2,hx,hxe,ho,hrt,ha]
 rw[if_neg h1];cases BL with
 | false=>simp -implicitDefEqProofs[hp,hp2,hx,hxe,h1,hbl]
 | true=>
 cases AL with
 | false=>
  simp only[Yah,if_false]at hlo;simp -implicitDefEqProofs[hp,hp2,hx,hxe,h1,hbl,hrd,hlo]
 | true=>
 simp only[if_true]at hlo;by_cases h2:op=2
 ·subst h2;by_cases ha:a=0
  ·subst ha;by_cases hb:b=0
   ·subst hb;simp -implicitDefEqProofs[hp,hp2,hx,hxe,ho,hbl,hrd,hlo]
   ·simp -implicitDefEqProofs[hp,hp2,hx,hxe,ho,hbl,hrd,hlo,hb]
  ·simp -implicitDefEqProofs[hp,hp2,hx,hxe,ho,hbl,hrd,hlo,ha]
 by_cases h3:op=3
 ·subst h3;cases B1 with
  | false=>simp -implicitDefEqProofs[hp,hp2,hx,hxe,hbl,hrd,hlo,cy]
  | true=>
   by_cases hb:b=0
   ·subst hb;simp -implicitDefEqProofs[hp,hp2,hx,hxe,hbl,hrd,hlo,cy]
   ·simp -implicitDefEqProofs[hp,hp2,hx,hxe,hbl,hrd,hlo,cy,hb]
 by_cases h4:op=4
 ·subst h4;cases B2 with
  | false=>simp -implicitDefEqProofs[hp,hp2,hx,hxe,hbl,hrd,hlo,cp]
  | true=>
   by_cases hb:b=0
   ·subst hb;simp -implicitDefEqProofs[hp,hp2,hx,hxe,hbl,hrd,hlo,cp]
   ·simp -implicitDefEqProofs[hp,hp2,hx,hxe,hbl,hrd,hlo,cp,hb]
 by_cases h6:op=6
 ·subst h6;by_cases hb:b=0
  ·subst hb;simp -implicitDefEqProofs[hp,hp2,hx,hxe,hbl,hrd,hlo]
  ·simp -implicitDefEqProofs[hp,hp2,hx,hxe,hbl,hrd,hlo,hb]
 by_cases h11:op=11
 ·subst h11;by_cases hb:-8<=b
  ·by_cases hb2:b<=8
   ·simp -implicitDefEqProofs[hp,hp2,hx,hxe,hbl,hrd,hlo,hb,hb2]
   ·simp -implicitDefEqProofs[hp,hp2,hx,hxe,hbl,hrd,hlo,hb,hb2]
  ·simp -implicitDefEqProofs[hp,hp2,hx,hxe,hbl,hrd,hlo,hb]
 simp -implicitDefEqProofs[hp,hp2,hx,hxe,h1,h2,h3,h4,h6,h11,hbl,hrd,hlo,hr2]
end
section
variable{T:Tbl}[Z2 T][Zr T][Zv T][Zw T][Zq T][Zo T][Ze T][Zh T][Zs T][Z0 T][Z7 T]
structure Small (t:Tp):Prop where
 code:t.code.length<=4294967296
 outs:t.outs.length<=4294967296
 ns:∀i∈t.code,fsz i.n<=10000
 d1:-9223372036854775808<=t.dim
 d2:t.dim<9223372036854775808
def zwx(t:Tp)(hs:Small t):Za T 433 [etp t]=some (.b (Zfv t)):=by
 obtain⟨h1,h2,_,d1,d2⟩:=hs;have c0:Za T 435 [.i .i64 (IntKind.wrap .i64 (t.dim-1)),.i .i64 6]=some (.b (Zag (t.dim-1) 6)):=by
  rw[zdi];congr 2;by_cases hm:t.dim=-9223372036854775808
  ·rw[hm]
   decide
  ·rw[zab _ (by omega)]
 have c1:=zdi (T:=T) t.par 7;unfold Zfv;obtain⟨code,outs,dim,par⟩:=t;dsimp only at *
 have e1:((outs.length:Int) == dim)=decide ((outs.length:Int)=dim):=rfl;rw[zaa Z7.h433 rfl,b433];generalize Zag (dim-1) 6=B1 at *
 generalize Zag par 7=B2 at *
 cases B1 with
 | false=>simp -implicitDefEqProofs[c0]
 | true=>
 cases B2 with
 | false=>simp -implicitDefEqProofs[c0,c1]
 | true=>
 by_cases ho:(outs.length:Int)=dim
 ·by_cases hc:code.length<=300
  ·have hc':(code.length:Int)<=300:=by omega
   simp -implicitDefEqProofs[c0,c1,ho,hc,hc']
  ·have hc':300<(code.length:Int):=by omega
   simp -implicitDefEqProofs[c0,c1,ho,hc,hc']
 ·simp -implicitDefEqProofs[c0,c1,ho]
def bxT(t:Tp):Box:=⟨1,.str,4,[[.sl (Zcw t.code) .an,.sl (ints t.outs) .an,.i .i64 t.dim,.i .i64 t.par]]⟩
def Zl6(t:Tp)(i:Nat):St:=⟨[(1,.ptr (.loc 1) 1 4 0 0),(11,.i .i64 t.code.length),(12,.i .i64 i)],[(.loc 1,bxT t)],3⟩
def zsf(t:Tp)(hs:Small t):Zx T 0 0 (.norm false [1]) l430_0 (Zl6 t 0) =
  if Zda t.dim t.par 0 t.code=-1 then some (.n,⟨[(1,.ptr (.loc 1) 1 4 0 0)],[(.loc 1,bxT t)],3⟩) else some (.r,⟨[(2,.i .i64 (Zda t.dim t.par 0 t.code))],[],2⟩):=by
 have hc:=hs.code;have e0:t.code.drop 0=t.code:=rfl;rw[<-e0];refine zbb (Zl6 t) t.code.length (fun i=>if Zda t.dim t.par i (t.code.drop i)=-1 then some (.n,_) else some (.r,⟨[(2,.i .i64 (Zda t.dim t.par i (t.code.drop i)))],[],2⟩)) (fun i hi=>?_) ?_
 ·have hg:t.code[i]? = some (t.code[i]'hi):=Ya hi;have hws:=zbc hi (by omega);have hd:t.code.drop i=t.code[i]'hi::t.code.drop (i+1):=Yo hi;have cm:=z4o (T:=T) t i _ hg (hs.ns _ (Y7 hi)) hc;have hi':(i:Int)<t.code.length:=by omega
  have hf:Zda t.dim t.par i (t.code.drop i)=if Zcj t.dim t.par i (t.code[i]'hi) then Zda t.dim t.par (i+1) (t.code.drop (i+1)) else i:=by rw[hd];rfl
  by_cases hb:Zcj t.dim t.par i (t.code[i]'hi)=true
  ·left;rw[hb]at cm;rw[if_pos hb]at hf;refine⟨?_,by simp only[hf]⟩;unfold Zl6 bxT;clear hf hd;simp -implicitDefEqProofs[l430_0,hi,hi',hws,cm]
  ·right;have hb':Zcj t.dim t.par i (t.code[i]'hi)=false:=by simpa using hb
   rw[hb']at cm;rw[if_neg hb]at hf;have hne:¬ (i:Int)=-1:=by omega
   simp only[hf,if_neg hne];unfold Zl6 bxT;clear hf hd;constructor<;>simp -implicitDefEqProofs[l430_0,hi,hi',cm]
 ·have hf:Zda t.dim t.par t.code.length (t.code.drop t.code.length)=-1:=by rw[Yaf];rfl
  simp only[hf,if_true];unfold Zl6 bxT;constructor<;>simp -implicitDefEqProofs[l430_0]
def Zl7(t:Tp)(i:Nat):St:=⟨[(1,.ptr (.loc 1) 1 4 0 0),(22,.sl (ints t.outs) .an),(23,.i .i64 t.outs.length),(24,.i .i64 i)],[(.loc 1,bxT t)],3⟩
def zsg(t:Tp)(hs:Small t):Zx T 0 2 (.norm false []) l430_1 (Zl7 t 0) =
  if (t.outs.all fun o=>Zag o t.code.length)=true then some (.n,⟨[],[],2⟩) else some (.r,⟨[(2,.i .i64 t.code.length)],[],2⟩):=by
 have hc:=hs.outs;refine zbb (Zl7 t) t.outs.length (fun i=>if ((t.outs.drop i).all fun o=>Zag o t.code.length)=true then some (.n,_) else some (.r,_)) (fun i hi=>?_) ?_
 ·have hg:t.outs[i]? = some (t.outs[i]'hi):=Ya hi;have hws:=zbc hi (by omega);have hd:t.outs.drop i=t.outs[i]'hi::t.outs.drop (i+1):=Yo hi;have cm:=zdi (T:=T) (t.outs[i]'hi) t.code.length;have hi':(i:Int)<t.outs.length:=by omega
  by_cases hb:Zag (t.outs[i]'hi) t.code.length=true
  ·left;rw[hb]at cm;refine⟨?_,by rw[hd];simp only[Ybv,hb,Yct]⟩;unfold Zl7 bxT;clear hd;simp -implicitDefEqProofs[l430_1,hi,hi',hg,hws,cm]
  ·right;have hb':Zag (t.outs[i]'hi) t.code.length=false:=by simpa using hb
   rw[hb']at cm;have hall:((t.outs.drop i).all fun o=>Zag o t.code.length)=false:=by rw[hd,Ybv,hb'];rfl
   simp only[hall,Yah,if_false];unfold Zl7 bxT;clear hall hd;constructor<;>simp -implicitDefEqProofs[l430_1,hi,hi',hg,cm]
 ·simp only[Yaf,Yen,if_true];unfold Zl7 bxT;constructor<;>simp -implicitDefEqProofs[l430_1]
def zwy(t:Tp)(hs:Small t):Za T 430 [etp t]=some (.i .i64 (Zh3 t)):=by
 have cw:=zwx (T:=T) t hs;have h1:=zsf (T:=T) t hs;have h2:=zsg (T:=T) t hs;unfold Zh3;unfold Zl6 bxT at h1;unfold Zl7 bxT at h2;simp only[Ym]at h1 h2;generalize hfi:Zda t.dim t.par 0 t.code=F at *
 generalize hal:(t.outs.all fun o=>Zag o t.code.length)=AL at *
 generalize hwt:Zfv t=W at *
 obtain⟨code,outs,dim,par⟩:=t;dsimp only at *
 rw[zaa Z7.h430 rfl,b430];cases W with
 | false=>simp -implicitDefEqProofs[cw]
 | true=>
 by_cases hf:F=-1
 ·subst hf;cases AL with
  | false=>
   simp only[Yah,if_false]at h2;simp -implicitDefEqProofs[cw,h1,h2]
  | true=>
   simp only[if_true]at h1 h2;simp -implicitDefEqProofs[cw,h1,h2]
 ·rw[if_neg hf]at h1;simp -implicitDefEqProofs[cw,h1,hf]
def zdj(t:Tp)(hs:Small t):Za T 421 [etp t]=some (.b (okT t)):=by
 have cw:=zwy (T:=T) t hs;have e:(Zh3 t == -1)=okT t:=rfl;rw[zaa Z7.h421 rfl,b421,<-e];generalize Zh3 t=W at *
 obtain⟨code,outs,dim,par⟩:=t;simp -implicitDefEqProofs[cw]
end
def Zgs(n:Int):Int:=if n<0 then 0 else if 4096<n then 4096 else n
abbrev bxG(g:Nat)(s p L:Int):Box:=⟨g,.str,3,[[.i .i64 s,.i .i64 p,.i .i64 L]]⟩
def Zbg(s:Int):Int:=IntKind.wrap .i64 (s+1)
def Zbn(p:Int)(x:Fz):Int:=if p<(Zby x:Int) then (Zby x:Int) else p
section
variable{T:Tbl}[Z2 T][Zr T][Zv T][Zw T][Zq T][Zo T][Ze T][Zh T][Zs T][Z0 T][Z5 T][Zbk T][Z7 T][Z3 T][Zak T]
def zv5(x:Fz)(hx:fsz x<=10000):Za T 223 [efz x]=some (.i .i64 (Zby x)):=by
 have h1:=zfc x;have h2:=zfy x;have c1:=ziz (T:=T) x.2.1 (by omega);have c2:=ziz (T:=T) x.2.2 (by omega);have b1:=zi0 (x:=val x.2.1) (k:=10000) (Ye (zac x.2.1) (by omega));have b2:=zi0 (x:=val x.2.2) (k:=10000) (Ye (zac x.2.2) (by omega));have w:IntKind.wrap .i64 ((Zbh (val x.2.1):Int)+(Zbh (val x.2.2):Int))=((Zby x:Nat):Int):=by
  have e:((Zby x:Nat):Int)=(Zbh (val x.2.1):Int)+(Zbh (val x.2.2):Int):=by unfold Zby;omega
  rw[e];exact zab _ (by omega)
 rw[zaa Z5.h223 rfl,b223];generalize Zby x=S at *
 generalize Zbh (val x.2.1)=B1 at *
 generalize Zbh (val x.2.2)=B2 at *
 simp -implicitDefEqProofs[c1,c2,w]
def zg2(n:Int):Z1 T 406 [.i .i64 n] []=some (.ptr (.loc 7) 1 3 0 0,[(.loc 7,bxG 1 0 0 (Zgs n))]):=by
 unfold Zgs;rw[zad Z3.h406 rfl,b406];by_cases h1:n<0
 ·simp -implicitDefEqProofs[h1,mm2]
 ·by_cases h2:4096<n
  ·simp -implicitDefEqProofs[h1,h2,mm2]
  ·simp -implicitDefEqProofs[h1,h2,mm2]
def zl6(s p L k:Int):Z1 T 426 [.ptr (.bor 0) 0 3 0 0,.i .i64 k] [(.bor 0,bxG 0 s p L)]=some (.tup [],[(.bor 0,bxG 0 (Zbg s) (if p<k then k else p) L)]):=by
 unfold Zbg;rw[zad Z3.h426 rfl,b426];by_cases h1:p<k
 ·simp -implicitDefEqProofs[h1,mm2]
 ·simp -implicitDefEqProofs[h1,mm2]
def zd8(s p L:Int)(x:Fz)(hx:fsz x<=10000):Z1 T 411 [.ptr (.bor 0) 0 3 0 0,efz x] [(.bor 0,bxG 0 s p L)]=some (.b (decide ((Zby x:Int)<=L)),[(.bor 0,bxG 0 (Zbg s) (Zbn p x) L)]):=by
 have h1:=zv5 (T:=T) x hx;have h2:=zl6 (T:=T) s p L (Zby x);unfold Zbn;rw[zad Z3.h411 rfl,b411];generalize Zbg s=s' at *
 generalize (if p<(Zby x:Int) then (Zby x:Int) else p)=p' at *
 generalize (Zby x:Int)=z at *
 simp -implicitDefEqProofs[h1,h2]
def Zm4(l:List Fz)(i:Nat):St:=⟨[(3,.bs (.loc 3) 1 3 0 i),(6,.sl (Zc l) .an),(7,.i .i64 l.length),(8,.i .i64 i)],[(.loc 3,⟨1,.own,3,Zc (nrm (l.take i))⟩)],3⟩
def zhu(l:List Fz)(hl:l.length<=1000)(hw:∀x∈l,fsz x<=1000):Za T 420 [.sl (Zc l) .an]=some (.sl (Zc (nrm l)) .an):=by
 have h:Zx T 0 0 (.norm false [3]) l420_0 (Zm4 l 0)=some (.n,⟨[(3,.bs (.loc 3) 1 3 0 l.length)],[(.loc 3,⟨1,.own,3,Zc (nrm l)⟩)],3⟩):=by
  refine zao (Zm4 l) l.length _ (fun i hi=>?_) ?_
  ·have hg:l[i]? = some (l[i]'hi):=Ya hi;have hws:=zbc hi (by omega);have hn:=zcz (T:=T) (l[i]'hi) (Ye (hw _ (Y7 hi)) (by decide));have e:nrm (l.take (i+1))=nrm (l.take i)++[fz (fv (l[i]'hi))]:=zck l _ hi;have hp:=zd9 (m:=nrm (l.take i)) (n:=i) (by simp[nrm];omega) (fz (fv (l[i]'hi)));have hml:(nrm (l.take i)).length=i:=by simp[nrm];omega
   unfold Zm4;rw[e];clear e;generalize nrm (l.take i)=M at *
   generalize fz (fv (l[i]'hi))=z at *
   have hb:i<=4294967295:=by omega
   simp -implicitDefEqProofs[l420_0,hi,hg,hws,hn,hp,hml,hb]
  ·unfold Zm4;rw[Yc (Yh _)];generalize nrm l=M;constructor<;>simp -implicitDefEqProofs[l420_0]
 unfold Zm4 at h;simp[nrm]at h;have ht:List.take l.length (List.map (fun x=>fz (fv x)) l)=List.map (fun x=>fz (fv x)) l:=Yc (by simp);rw[zaa Zak.h420 rfl,b420];simp -implicitDefEqProofs[h,nrm,ht]
structure PoS (x:PoF) (B:Nat):Prop where
 t:fsz x.t<=B
 y:∀u∈x.y,fsz u<=B
 p:∀u∈x.p,fsz u<=B
 yl:x.y.length<=1000
 pl:x.p.length<=1000
def z8n(x:PoF):x.v.f=⟨fz (fv x.t),nrm x.y,nrm x.p⟩:=by
 unfold PoF.v Po.f;rw[z02,z02]
def zg3(x:PoF)(h:PoS x 1000):Za T 405 [ept x]=some (ept x.v.f):=by
 have h1:=zcz (T:=T) x.t (Ye h.t (by decide));have h2:=zhu (T:=T) x.y h.yl h.y;have h3:=zhu (T:=T) x.p h.pl h.p;rw[z8n];obtain⟨t,y,p⟩:=x;dsimp only at *
 rw[zaa Zak.h405 rfl,b405];generalize fz (fv t)=t' at *
 generalize nrm y=y' at *
 generalize nrm p=p' at *
 simp -implicitDefEqProofs[h1,h2,h3]
end
def zni{q:Rat}{e:Int}(h1:-8<=e)(h2:e<=8):Zeh q e=if e<0/\q=0 then (0,false) else (Zbp q e,true):=by
 unfold Zeh;by_cases h:e<0/\q=0
 ·rw[if_pos h,if_neg (by intro hh;exact hh.2.2 h)]
 ·rw[if_neg h,if_pos ⟨h1,h2,h⟩]
abbrev mD:AV:=.agg [.dead]
section
variable{T:Tbl}[Z2 T][Zr T][Zv T][Zw T][Zq T][Zo T][Ze T][Zh T][Zs T][Z0 T][Z5 T][Zbk T][Z7 T][Z3 T][Zak T][Zbf T][Zgd T]
def zaov(x:Fz)(hx:fsz x<=1000):Za T 445 [mD,efz x]=some (efz (fz (fv x))):=by
 have h:=zcz (T:=T) x (by omega);rw[zaa Zbf.h445 rfl,b445];generalize fz (fv x)=z at *
 simp -implicitDefEqProofs[h]
def zafl(x:Fz)(hx:fsz x<=1000):Za T 444 [mD,efz x]=some (efz (fz (-fv x))):=by
 have h:=zfp (T:=T) x (by omega);rw[zaa Zbf.h444 rfl,b444];generalize fz (-fv x)=z at *
 simp -implicitDefEqProofs[h]
def zafm(x y:Fz)(hx:fsz x<=1000)(hy:fsz y<=1000):Za T 441 [mD,efz x,efz y]=some (efz (fz (fv x+fv y))):=by
 have h:=zgy (T:=T) x y hx hy;rw[zaa Zbf.h441 rfl,b441];generalize fz (fv x+fv y)=z at *
 simp -implicitDefEqProofs[h]
def zafn(x y:Fz)(hx:fsz x<=1000)(hy:fsz y<=1000):Za T 448 [mD,efz x,efz y]=some (efz (fz (fv x-fv y))):=by
 have h:=zgz (T:=T) x y hx hy;rw[zaa Zbf.h448 rfl,b448];generalize fz (fv x-fv y)=z at *
 simp -implicitDefEqProofs[h]
def zafo(x y:Fz)(hx:fsz x<=1000)(hy:fsz y<=1000):Za T 443 [mD,efz x,efz y]=some (efz (fz (fv x*fv y))):=by
 have h:=zcj (T:=T) x y hx hy;rw[zaa Zbf.h443 rfl,b443];generalize fz (fv x*fv y)=z at *
 simp -implicitDefEqProofs[h]
def zafp(x y:Fz)(hx:fsz x<=1000)(hy:fsz y<=1000):Za T 447 [mD,efz x,efz y]=some (.tup [efz (fz (fv x/fv y)),.b (decide (fv y≠0))]):=by
 have h:=zfq (T:=T) x y hx hy;rw[zaa Zbf.h447 rfl,b447];generalize fz (fv x/fv y)=z at *
 generalize decide (fv y≠0)=ok at *
 simp -implicitDefEqProofs[h]
def zafq(x:Fz)(e:Int)(hx:fsz x<=1000):Za T 446 [mD,efz x,.i .i64 e]=some (.tup [efz (fz (Zeh (fv x) e).1),.b (Zeh (fv x) e).2]):=by
 have h:=zg1 (T:=T) x e hx;rw[zaa Zbf.h446 rfl,b446];generalize fz (Zeh (fv x) e).1=z at *
 generalize (Zeh (fv x) e).2=ok at *
 simp -implicitDefEqProofs[h]
def z03(s p L:Int)(x:Fz)(hx:fsz x<=10000):Z1 T 442 [.agg [.ptr (.bor 0) 0 3 0 0],efz x] [(.bor 0,bxG 0 s p L)]=some (.b (decide ((Zby x:Int)<=L)),[(.bor 0,bxG 0 (Zbg s) (Zbn p x) L)]):=by
 have h:=zd8 (T:=T) s p L x hx;rw[zad Zbf.h442 rfl,b442];generalize Zbg s=s' at *
 generalize Zbn p x=p' at *
 simp -implicitDefEqProofs[h]
def z4e(i:Ins)(P:Po)(hop:i.op=1\/i.op=2\/i.op=3\/i.op=4)(hn:fsz i.n<=1000)(hy:i.op=3->0<=i.a/\i.a<P.y.length)(hp:i.op=4->0<=i.a/\i.a<P.p.length) :
  Za T 431 [mD,.agg (Zdn i),ept P.f]=some (efz (fz (Zg P [] i).1)):=by
 have h1:=zaov (T:=T) i.n hn;obtain⟨op,a,b,n⟩:=i;obtain⟨t,y,p⟩:=P;dsimp only at *
 unfold Zg Po.f;dsimp only;rw[zaa Zbf.h431 rfl,b431];rcases hop with rfl | rfl | rfl | rfl
 ·show _=some (efz (fz (fv n)));generalize fz (fv n)=z at *
  generalize fzs y=Y at *
  generalize fzs p=PP at *
  generalize fz t=tt at *
  simp -implicitDefEqProofs[h1]
 ·show _=some (efz (fz t));generalize fzs y=Y at *
  generalize fzs p=PP at *
  generalize fz t=tt at *
  simp -implicitDefEqProofs
 ·obtain⟨k,rfl⟩:∃k:Nat,a=k:=⟨a.toNat,by have:=(hy rfl).1;omega⟩;have hk:k<y.length:=by have:=(hy rfl).2;omega
  have hk':(k:Int)<y.length:=by omega
  have hg:(fzs y)[k]? = some (fz (y[k]'hk)):=zh0 (Ya hk);have hge:=(Yb.1 hg).2;have hl:(fzs y).length=y.length:=zaf y;have e:gI y (k:Int)=y[k]'hk:=by simp[gI,List.getD,Ya hk]
  show _=some (efz (fz (gI _ _)));rw[e];generalize fzs y=Y at *
  generalize fzs p=PP at *
  generalize fz t=tt at *
  generalize fz (y[k]'hk)=z at *
  simp -implicitDefEqProofs[hk,hk',hg,hge,hl]
 ·obtain⟨k,rfl⟩:∃k:Nat,a=k:=⟨a.toNat,by have:=(hp rfl).1;omega⟩;have hk:k<p.length:=by have:=(hp rfl).2;omega
  have hk':(k:Int)<p.length:=by omega
  have hg:(fzs p)[k]? = some (fz (p[k]'hk)):=zh0 (Ya hk);have hge:=(Yb.1 hg).2;have hl:(fzs p).length=p.length:=zaf p;have e:gI p (k:Int)=p[k]'hk:=by simp[gI,List.getD,Ya hk]
  show _=some (efz (fz (gI _ _)));rw[e];generalize fzs y=Y at *
  generalize fzs p=PP at *
  generalize fz t=tt at *
  generalize fz (p[k]'hk)=z at *
  simp -implicitDefEqProofs[hk,hk',hg,hge,hl]
def zp9{D:List Rat}{a:Int}(h:0<=a/\a<D.length):∃k:Nat,a=k/\(k:Int)<D.length/\k<D.length/\(fzs D)[k]? = some (fz (gI D a)):=by
 obtain⟨k,rfl⟩:∃k:Nat,a=k:=⟨a.toNat,by omega⟩;have hk:k<D.length:=by omega
 refine⟨k,rfl,by omega,hk,?_⟩;have e:gI D (k:Int)=D[k]'hk:=by simp[gI,List.getD,Ya hk]
 rw[e];exact zh0 (Ya hk)
def zc4{D:List Rat}{a:Int}{B:Nat}(hB:1<=B)(h:∀q∈D,sz q<=B):sz (gI D a)<=B:=by
 unfold gI List.getD;cases hx:D[a.toNat]? with
 | none=>exact Ye (Ycp zd6) hB
 | some q=>exact h q (Yd hx)
def z4f(i:Ins)(P:Po)(D:List Rat)(dim par:Int)(hm:Zcj dim par D.length i=true)(hd:(P.y.length:Int)=dim)(hp:(P.p.length:Int)=par)(hn:fsz i.n<=1000)(hD:∀q∈D,sz q<=1000) :
  Za T 422 [mD,.agg (Zdn i),ept P.f,.sl (Zc (fzs D)) .an]=some (.tup [efz (fz (Zg P D i).1),.b (Zg P D i).2]):=by
 have hop:=zii hm;by_cases hleaf:i.op=1\/i.op=2\/i.op=3\/i.op=4
 ·have h1:=z4e (T:=T) i P hleaf hn (fun h=>by have:=z14 hm h;omega) (fun h=>by have:=z15 hm h;omega);have e:Zg P D i=((Zg P [] i).1,true):=by
   unfold Zg;rcases hleaf with h | h | h | h<;>simp[h]
  rw[e];generalize fz (Zg P [] i).1=z at *
  generalize fzs D=DD at *
  obtain⟨op,a,b,n⟩:=i;generalize P.f=Q at *
  obtain⟨⟨t0,t1,t2⟩,y,p⟩:=Q;dsimp only at *
  rw[zaa Zbf.h422 rfl,b422];rcases hleaf with rfl | rfl | rfl | rfl<;>simp -implicitDefEqProofs[h1]
 have ha:=zfz hm (by omega);obtain⟨k,hk1,hk2,hk3,hka⟩:=zp9 ha;have sa:fsz (fz (gI D i.a))<=1000:=zc4 (by decide) hD;have hkae:=(Yb.1 hka).2;have hl:(fzs D).length=D.length:=zaf D;have c6:=zafl (T:=T) (fz (gI D i.a)) sa;have c11:=zafq (T:=T) (fz (gI D i.a)) i.b sa;rw[zbi]at c6 c11;by_cases h6:i.op=6
 ·have e:Zg P D i=(-gI D i.a,true):=by simp[Zg,h6]
  rw[e];generalize fz (-gI D i.a)=z at *
  generalize fz (gI D i.a)=u at *
  generalize fzs D=DD at *
  obtain⟨op,a,b,n⟩:=i;generalize P.f=Q at *
  obtain⟨⟨t0,t1,t2⟩,y,p⟩:=Q;dsimp only at *
  subst h6 hk1;rw[zaa Zbf.h422 rfl,b422];simp -implicitDefEqProofs[hk2,hk3,hka,hkae,hl,c6]
 by_cases h11:i.op=11
 ·have hb:=zsv hm h11;have e:Zg P D i=Zeh (gI D i.a) i.b:=by simp[Zg,h11,zni hb.1 hb.2]
  rw[e];generalize fz (Zeh (gI D i.a) i.b).1=z at *
  generalize (Zeh (gI D i.a) i.b).2=ok at *
  generalize fz (gI D i.a)=u at *
  generalize fzs D=DD at *
  obtain⟨op,a,b,n⟩:=i;generalize P.f=Q at *
  obtain⟨⟨t0,t1,t2⟩,y,p⟩:=Q;dsimp only at *
  subst h11 hk1;rw[zaa Zbf.h422 rfl,b422];simp -implicitDefEqProofs[hk2,hk3,hka,hkae,hl,c11]
 have hb:=zil hm (by omega);obtain⟨j,hj1,hj2,hj3,hjb⟩:=zp9 hb;have sb:fsz (fz (gI D i.b))<=1000:=zc4 (by decide) hD;have hjbe:=(Yb.1 hjb).2;have c7:=zafm (T:=T) (fz (gI D i.a)) (fz (gI D i.b)) sa sb;have c8:=zafn (T:=T) (fz (gI D i.a)) (fz (gI D i.b)) sa sb;have c9:=zafo (T:=T) (fz (gI D i.a)) (fz (gI D i.b)) sa sb;have c10:=zafp (T:=T) (fz (gI D i.a)) (fz (gI D i.b)) sa sb;rw[zbi,zbi]at c7 c8 c9 c10;have e7:i.op=7->Zg P D i=(gI D i.a+gI D i.b,true):=fun h=>by simp[Zg,h]
 have e8:i.op=8->Zg P D i=(gI D i.a-gI D i.b,true):=fun h=>by simp[Zg,h]
 have e9:i.op=9->Zg P D i=(gI D i.a*gI D i.b,true):=fun h=>by simp[Zg,h]
 have e10:i.op=10->Zg P D i=(gI D i.a/gI D i.b,decide (gI D i.b≠0)):=fun h=>by simp[Zg,h]
 generalize gI D i.a=A at *
 generalize gI D i.b=B at *
 generalize fz A=u at *
 generalize fz B=v at *
 generalize Zg P D i=V at *
 generalize fzs D=DD at *
 obtain⟨op,a,b,n⟩:=i;generalize P.f=Q at *
 obtain⟨⟨t0,t1,t2⟩,y,p⟩:=Q;dsimp only at *
 subst hk1 hj1;rw[zaa Zbf.h422 rfl,b422];rcases(show op=7\/op=8\/op=9\/op=10 by omega) with rfl | rfl | rfl | rfl
 ·rw[e7 rfl];generalize fz (A+B)=z at *
  simp -implicitDefEqProofs[hk2,hk3,hka,hkae,hj2,hj3,hjb,hjbe,hl,c7]
 ·rw[e8 rfl];generalize fz (A-B)=z at *
  simp -implicitDefEqProofs[hk2,hk3,hka,hkae,hj2,hj3,hjb,hjbe,hl,c8]
 ·rw[e9 rfl];generalize fz (A*B)=z at *
  simp -implicitDefEqProofs[hk2,hk3,hka,hkae,hj2,hj3,hjb,hjbe,hl,c9]
 ·rw[e10 rfl];generalize fz (A/B)=z at *
  generalize decide (B≠0)=ok at *
  simp -implicitDefEqProofs[hk2,hk3,hka,hkae,hj2,hj3,hjb,hjbe,hl,c10]
end
def zt5{n b:Nat}(h:Zbh n<=b):(ofN n).length<=b/32+1:=by
 refine zap ?_;unfold Zbh at h;split at h
 ·grind
 ·rename_i h0;have h1:n<2^(n.log2+1):=(Yed h0).1 (Y2 _);have h3:(4294967296:Nat)^(b/32+1)=2^(32*(b/32+1)):=by rw[Ydb]
  have h2:2^(n.log2+1)<=2^(32*(b/32+1)):=Yag (by decide) (by omega);omega
def ze8{q:Rat}{b:Nat}(h:Zbl q<=b):sz q<=b/32+1:=by
 unfold Zbl Zby fz at h;rw[zae,zae]at h;exact Yd9.2 ⟨zt5 (Ye (Nat.le_add_right _ _) h),zt5 (Ye (Nat.le_add_left _ _) h)⟩
def z04(q:Rat)(n:Nat):sz (q^n)<=n*sz q+1:=by
 unfold sz;rw[Rat.num_pow,Rat.den_pow,Int.natAbs_pow];exact Yd9.2 ⟨zht (Yet _ _) n,zht (Yeh _ _) n⟩
def zh1{q:Rat}{e:Int}{B:Nat}(hq:sz q<=B)(h1:-8<=e)(h2:e<=8):sz (Zbp q e)<=8*B+1:=by
 unfold Zbp;rcases Int.le_total 0 e with h | h
 ·obtain⟨n,rfl⟩:∃n:Nat,e=n:=⟨e.toNat,by omega⟩;rw[Yc0];have:=z04 q n;have h3:n*sz q<=8*B:=Yby (by omega) hq;omega
 ·obtain⟨n,rfl⟩:∃n:Nat,e=-(n:Int):=⟨(-e).toNat,by omega⟩;rw[Rat.zpow_neg,Yc0];have:=z04 q n;have h3:n*sz q<=8*B:=Yby (by omega) hq;have:=z6g (q^n);omega
structure PvS (P:Po) (B:Nat):Prop where
 t:sz P.t<=B
 y:∀q∈P.y,sz q<=B
 p:∀q∈P.p,sz q<=B
def z05{P:Po}{D:List Rat}{i:Ins}{dim par:Int}{p:Nat}(hm:Zcj dim par p i=true)(hP:PvS P 1000)(hn:fsz i.n<=1000)(hD:∀q∈D,sz q<=129):sz (Zg P D i).1<=2000:=by
 have ga:=zc4 (D:=D) (a:=i.a) (B:=129) (by decide) hD;have gb:=zc4 (D:=D) (a:=i.b) (B:=129) (by decide) hD;have gy:=zc4 (D:=P.y) (a:=i.a) (B:=1000) (by decide) hP.y;have gp:=zc4 (D:=P.p) (a:=i.a) (B:=1000) (by decide) hP.p;have gn:=zbd (x:=i.n) (L:=1000) hn (by decide);have gt:=hP.t;rcases zii hm with h | h | h | h | h | h | h | h | h | h
 ·simp[Zg,h];omega
 ·simp[Zg,h];omega
 ·simp[Zg,h];omega
 ·simp[Zg,h];omega
 ·simp[Zg,h,zih];omega
 ·grind[zig,Zg]
 ·grind[zqn,Zg]
 ·grind[zbz,Zg]
 ·grind[zfd,Zg]
 ·obtain⟨e1,e2⟩:=zsv hm h;have h1:=zh1 ga e1 e2
  grind[Zg]
def Zik(lim:Nat)(P:Po):List Ins->List Rat->Int->Int->Int×Int
 | [],_,s,p=>(s,p)
 | i::r,D,s,p=>if (Zg P D i).2=false then (s,p) else if lim<Zbl (Zg P D i).1 then (Zbg s,Zbn p (fz (Zg P D i).1)) else Zik lim P r (D++[(Zg P D i).1]) (Zbg s) (Zbn p (fz (Zg P D i).1))
theorem zkp(lim:Nat)(P:Po)(i:Ins)(r:List Ins)(D:List Rat)(s p:Int):Zik lim P (i::r) D s p=if (Zg P D i).2=false then (s,p) else if lim<Zbl (Zg P D i).1 then (Zbg s,Zbn p (fz (Zg P D i).1)) else Zik lim P r (D++[(Zg P D i).1]) (Zbg s) (Zbn p (fz (Zg P D i).1)):=rfl
abbrev bxM:Box:=⟨3,.str,1,[[.ptr (.bor 0) 0 3 0 0]]⟩
abbrev bxP(g:Nat)(x:PoF):Box:=⟨g,.str,5,[[.b x.t.1,.sl (Zb x.t.2.1) .an,.sl (Zb x.t.2.2) .an,.sl (Zc x.y) .an,.sl (Zc x.p) .an]]⟩
abbrev bxF(g:Nat)(a b c d:Int):Box:=⟨g,.str,4,[[.i .i64 a,.i .i64 b,.i .i64 c,.i .i64 d]]⟩
def Ze3(Q:PoF)(L:Int)(code:List Ins)(i:Nat)(D:List Fz)(s p:Int)(kd:Kind):St:=
 ⟨[(3,.ptr (.loc 3) 3 1 0 0),(5,.ptr (.loc 5) 4 5 0 0),(7,.ptr (.loc 7) 5 4 0 0),(8,.bs (.loc 8) 6 3 0 i),(34,.sl (Zcw code) .an),(35,.i .i64 code.length),(36,.i .i64 i)],
  [(.bor 0,bxG 0 s p L),(.loc 3,bxM),(.loc 5,bxP 4 Q),(.loc 7,bxF 5 0 0 0 0),(.loc 8,⟨6,kd,3,Zc D⟩)],8⟩
def Znr(n:Nat)(D:List Fz)(s p L:Int)(kd:Kind):Ex×St:=(.n,⟨[(7,.ptr (.loc 7) 3 4 0 0),(8,.bs (.loc 8) 4 3 0 n)],[(.bor 0,bxG 0 s p L),(.loc 7,bxF 3 0 0 0 0),(.loc 8,⟨4,kd,3,Zc D⟩)],6⟩)
def Zkg(kind at_ s p L:Int):Ex×St:=(.r,⟨[(6,.sl [] .an),(7,.ptr (.loc 7) 3 4 0 0)],[(.bor 0,bxG 0 s p L),(.loc 7,bxF 3 kind 0 0 at_)],5⟩)
section
variable{T:Tbl}[Z2 T][Zr T][Zv T][Zw T][Zq T][Zo T][Ze T][Zh T][Zs T][Z0 T][Z5 T][Zbk T][Z7 T][Z3 T][Zak T][Zbf T][Zgd T]
def z4g{kd:Kind}(hk:kd=.own\/kd=.sh)(x:Ins)(Q:PoF)(L:Int)(code:List Ins)(i:Nat)(D:List Fz)(s p:Int)(v:Fz)(hi:i<code.length)(hc:code.length<=1000)(hg:code[i]? = some x)(hdl:D.length=i)(hv:fsz v<=10000)
  (c:Za T 422 [mD,.agg (Zdn x),ept Q,.sl (Zc D) .an]=some (.tup [efz v,.b true])) (hf:(Zby v:Int)<=L) :
  evX (orc T) T 1 l407_0 (Ze3 Q L code i D s p kd)=some (.n,Ze3 Q L code (i+1) (D++[v]) (Zbg s) (Zbn p v) .sh):=by
 have hf2:=z03 (T:=T) s p L v hv;rw[decide_eq_true hf]at hf2;have hws:=zbc hi (by omega);have hge:=(Yb.1 hg).2;have ht:List.take i D=D:=Yc (by omega);have hp:wkL (Zc D++[Zci v])=Zc (D++[v]):=by rw[zhe,zgi]
 have hi':(i:Int)<code.length:=by omega
 have hb:i<=4294967295:=by omega
 unfold Ze3;rcases hk with rfl | rfl<;>simp -implicitDefEqProofs[l407_0,hi,hi',hge,hws,c,hf2,hp,hdl,hb,ht]
def z83{kd:Kind}(hk:kd=.own\/kd=.sh)(x:Ins)(Q:PoF)(L:Int)(code:List Ins)(i:Nat)(D:List Fz)(s p:Int)(v:Fz)(hi:i<code.length)(hc:code.length<=1000)(hg:code[i]? = some x)(hdl:D.length=i)
  (c:Za T 422 [mD,.agg (Zdn x),ept Q,.sl (Zc D) .an]=some (.tup [efz v,.b false])) :
  evX (orc T) T 1 l407_0 (Ze3 Q L code i D s p kd)=some (Zkg 3 i s p L):=by
 have hge:=(Yb.1 hg).2;have ht:List.take i D=D:=Yc (by omega);have hi':(i:Int)<code.length:=by omega
 unfold Ze3 Zkg;rcases hk with rfl | rfl<;>simp -implicitDefEqProofs[l407_0,hi,hi',hge,c,hdl,ht]
def z84{kd:Kind}(hk:kd=.own\/kd=.sh)(x:Ins)(Q:PoF)(L:Int)(code:List Ins)(i:Nat)(D:List Fz)(s p:Int)(v:Fz)(hi:i<code.length)(hc:code.length<=1000)(hg:code[i]? = some x)(hdl:D.length=i)(hv:fsz v<=10000)
  (c:Za T 422 [mD,.agg (Zdn x),ept Q,.sl (Zc D) .an]=some (.tup [efz v,.b true])) (hf:¬ (Zby v:Int)<=L) :
  evX (orc T) T 1 l407_0 (Ze3 Q L code i D s p kd)=some (Zkg 6 i (Zbg s) (Zbn p v) L):=by
 have hf2:=z03 (T:=T) s p L v hv;rw[decide_eq_false hf]at hf2;have hge:=(Yb.1 hg).2;have ht:List.take i D=D:=Yc (by omega);have hi':(i:Int)<code.length:=by omega
 unfold Ze3 Zkg;rcases hk with rfl | rfl<;>simp -implicitDefEqProofs[l407_0,hi,hi',hge,c,hf2,hdl,ht]
theorem zafr{kd:Kind}(hk:kd=.own\/kd=.sh)(Q:PoF)(L:Int)(code:List Ins)(D:List Fz)(s p:Int):Ze6 (evX (orc T) T 1 l407_0 (Ze3 Q L code code.length D s p kd))=true /\
  Zdw 1 0 (.norm false [7,8]) (evX (orc T) T 1 l407_0 (Ze3 Q L code code.length D s p kd))=some (Znr code.length D s p L kd):=by
 unfold Ze3 Znr;obtain⟨⟨q0,q1,q2⟩,qy,qp⟩:=Q;rcases hk with rfl | rfl<;>constructor<;>simp -implicitDefEqProofs[l407_0]
def z06(kind at_ s p L:Int):Zdw 1 0 (.norm false [7,8]) (some (Zkg kind at_ s p L))=some (Zkg kind at_ s p L):=by
 unfold Zkg
 simp_all
def kdE(kd:Kind)(l:List Ins):Kind:=if l=[] then kd else .sh
def Zfa(lim:Nat)(P:Po)(code l:List Ins)(D:List Rat)(s p:Int)(kd:Kind):Ex×St:=
 if (Zbb lim P l D).2.1=0 then Znr code.length (fzs (Zbb lim P l D).1) (Zik lim P l D s p).1 (Zik lim P l D s p).2 lim (kdE kd l)
 else Zkg (Zbb lim P l D).2.1 (Zbb lim P l D).2.2 (Zik lim P l D s p).1 (Zik lim P l D s p).2 lim
def zt6(P:Po)(lim:Nat)(hlim:lim<=4096)(t:Tp)(ht:OkTp t)(hn:∀i∈t.code,fsz i.n<=1000)(hd:(P.y.length:Int)=t.dim)(hp:(P.p.length:Int)=t.par)(hP:PvS P 1000)(s p:Int) :
  Zx T 1 0 (.norm false [7,8]) l407_0 (Ze3 P.f lim t.code 0 [] s p .own)=some (Zfa lim P t.code t.code [] s p .own):=by
 have hc:=ht.cl;have key:=zbg (T:=T) (k:=1) (id:=0) (g2:=.norm false [7,8]) (c:=l407_0) (fun x:Nat×List Rat×(Int×Int)×Kind=>Ze3 P.f lim t.code x.1 (fzs x.2.1) x.2.2.1.1 x.2.2.1.2 x.2.2.2)
  (fun x=>x.1<=t.code.length/\x.2.1.length=x.1/\(∀q∈x.2.1,sz q<=129)/\(x.2.2.2=.own\/x.2.2.2=.sh)) (fun x=>t.code.length-x.1)
  (fun x=>some (Zfa lim P t.code (t.code.drop x.1) x.2.1 x.2.2.1.1 x.2.2.1.2 x.2.2.2)) ?_ (0,[],(s,p),.own) ⟨Yx _,rfl,by simp,.inl rfl⟩
 ·exact key
 rintro⟨i,D,⟨s,p⟩,kd⟩ ⟨hi,hdl,hD,hk⟩
 by_cases hlt:i<t.code.length
 ·have hg:t.code[i]? = some (t.code[i]'hlt):=Ya hlt;have hmem:=Y7 hlt;have hm:=ht.may i _ hg;have hdr:t.code.drop i=t.code[i]'hlt::t.code.drop (i+1):=Yo hlt;generalize hx:t.code[i]'hlt=x at *
  have hm':Zcj t.dim t.par D.length x=true:=by grind
  have c:=z4f (T:=T) x P D t.dim t.par hm' hd hp (hn x hmem) (fun q hq=>Ye (hD q hq) (by decide));have hvs:fsz (fz (Zg P D x).1)<=10000:=Ye (z05 hm' hP (hn x hmem) hD) (by decide);have hfl:(fzs D).length=i:=by simp_all
  have hout:Zfa lim P t.code (t.code.drop i) D s p kd=Zfa lim P t.code (x::t.code.drop (i+1)) D s p kd:=by grind
  cases hok:(Zg P D x).2 with
  | false=>
   right;rw[hok]at c;have e:=z83 (T:=T) hk x P.f lim t.code i (fzs D) s p _ hlt (by omega) hg hfl c;rw[e,z06];refine⟨rfl,?_⟩
   grind[zb3,zkp,Zfa]
  | true=>
   rw[hok]at c;by_cases hfit:Zbl (Zg P D x).1<=lim
   ·left;have e:=z4g (T:=T) hk x P.f lim t.code i (fzs D) s p _ hlt (by omega) hg hfl hvs c (by unfold Zbl at hfit;omega);refine⟨(i+1,D++[(Zg P D x).1],(Zbg s,Zbn p (fz (Zg P D x).1)),.sh),⟨by omega,by grind,fun q hq=>?_,.inr rfl⟩,by omega,?_,?_⟩
    ·rcases Y6.1 hq with h | h
     ·grind
     ·rw[Yr.1 h];have:=ze8 hfit;omega
    ·rw[e];simp[fzs]
    ·congr 1;have hR:Zbb lim P (x::t.code.drop (i+1)) D=Zbb lim P (t.code.drop (i+1)) (D++[(Zg P D x).1]):=by grind[zb3]
     grind[zkp,Zfa,kdE]
   ·right;have e:=z84 (T:=T) hk x P.f lim t.code i (fzs D) s p _ hlt (by omega) hg hfl hvs c (by unfold Zbl at hfit;omega);rw[e,z06];refine⟨rfl,?_⟩
    grind[zb3,zkp,Zfa]
 grind[zafr,Zfa,Zbb,Zik,kdE]
end
def Zfu(t:Tp)(y p:Nat):Bool:=okT t&&decide ((y:Int)=t.dim)&&decide ((p:Int)=t.par)
def Za8(lim:Nat)(t:Tp)(P:Po):List Rat×Nat×Nat:=if Zfu t P.y.length P.p.length=true then Zbb lim P t.code [] else ([],2,0)
def Zjd(t:Tp)(D:List Rat):List Rat:=t.outs.map (gI D)
def Zqc(lim:Nat)(t:Tp)(P:Po):List Rat×Nat×Nat:=if (Za8 lim t P).2.1=0 then (Zjd t (Za8 lim t P).1,0,0) else ([],(Za8 lim t P).2)
structure TpS (t:Tp):Prop where
 small:Small t
 ns:∀i∈t.code,fsz i.n<=1000
abbrev Zdg(k s g a:Int):AV:=.agg [.i .i64 k,.i .i64 s,.i .i64 g,.i .i64 a]
def zc0{t:Tp}{y p:Nat}(h:Zfu t y p=true):OkTp t/\(y:Int)=t.dim/\(p:Int)=t.par:=by
 grind[Zfu,zk3]
section
variable{T:Tbl}[Z2 T][Zr T][Zv T][Zw T][Zq T][Zo T][Ze T][Zh T][Zs T][Z0 T][Z5 T][Zbk T][Z7 T][Z3 T][Zak T][Zbf T][Zgd T]
def z85(t:Tp)(Q:PoF)(hs:TpS t)(s p L:Int)(h:Zfu t Q.y.length Q.p.length=false) :
  Z1 T 407 [.agg [.ptr (.bor 0) 0 3 0 0],etp t,ept Q] [(.bor 0,bxG 0 s p L)]=some (.tup [.sl [] .an,Zdg 2 0 0 0],[(.bor 0,bxG 0 s p L)]):=by
 have hr:=zdj (T:=T) t hs.small;unfold Zfu at h;rw[zad Zbf.h407 rfl,b407];obtain⟨⟨q0,q1,q2⟩,qy,qp⟩:=Q;cases hok:okT t with
 | false=>
  rw[hok]at hr;simp -implicitDefEqProofs[hr]
 | true=>
  rw[hok]at hr h;obtain⟨code,outs,dim,par⟩:=t;by_cases h1:(qy.length:Int)=dim
  ·by_cases h2:(qp.length:Int)=par
   ·grind
   ·simp -implicitDefEqProofs[hr,h1,h2]
  ·simp -implicitDefEqProofs[hr,h1]
def z07(t:Tp)(P:Po)(hs:TpS t)(lim:Nat)(hlim:lim<=4096)(s p:Int)(hP:PvS P 1000)(h:Zfu t P.y.length P.p.length=true)(hk:(Zbb lim P t.code []).2.1=0) :
  ∃(s' p':Int) (kd:Kind),(kd=.own\/kd=.sh)/\Z1 T 407 [.agg [.ptr (.bor 0) 0 3 0 0],etp t,ept P.f] [(.bor 0,bxG 0 s p lim)] =
   some (.tup [.bs (.loc 8) 3 3 0 t.code.length,Zdg 0 0 0 0],[(.bor 0,bxG 0 s' p' lim),(.loc 8,⟨3,kd,3,Zc (fzs (Zbb lim P t.code []).1)⟩)]):=by
 obtain⟨hok,h1,h2⟩:=zc0 h;have hr:=zdj (T:=T) t hs.small;have hl:=zt6 (T:=T) P lim hlim t hok hs.ns h1 h2 hP s p;rw[(zk3 t).2 hok]at hr;unfold Zfa at hl;rw[if_pos hk]at hl;unfold Ze3 Znr at hl;simp only[Ym,zdd]at hl;have hkd:∃kd:Kind,kdE .own t.code=kd/\(kd=.own\/kd=.sh):=by
  grind[kdE]
 obtain⟨kd,hkd1,hkd2⟩:=hkd;rw[hkd1]at hl;have hy:(fzs P.y).length=P.y.length:=zaf _;have hp':(fzs P.p).length=P.p.length:=zaf _;unfold Po.f at *
 generalize (Zik lim P t.code [] s p).1=s' at *
 generalize (Zik lim P t.code [] s p).2=p' at *
 obtain⟨code,outs,dim,par⟩:=t;rw[zad Zbf.h407 rfl,b407];rcases hkd2 with rfl | rfl
 ·simp -implicitDefEqProofs[hr,h1,h2,hy,hp',hl]
 ·simp -implicitDefEqProofs[hr,h1,h2,hy,hp',hl]
def z08(t:Tp)(P:Po)(hs:TpS t)(lim:Nat)(hlim:lim<=4096)(s p:Int)(hP:PvS P 1000)(h:Zfu t P.y.length P.p.length=true)(hk:¬ (Zbb lim P t.code []).2.1=0) :
  ∃(s' p':Int),Z1 T 407 [.agg [.ptr (.bor 0) 0 3 0 0],etp t,ept P.f] [(.bor 0,bxG 0 s p lim)] =
   some (.tup [.sl [] .an,Zdg (Zbb lim P t.code []).2.1 0 0 (Zbb lim P t.code []).2.2],[(.bor 0,bxG 0 s' p' lim)]):=by
 obtain⟨hok,h1,h2⟩:=zc0 h;have hr:=zdj (T:=T) t hs.small;have hl:=zt6 (T:=T) P lim hlim t hok hs.ns h1 h2 hP s p;rw[(zk3 t).2 hok]at hr;unfold Zfa at hl;rw[if_neg hk]at hl;unfold Ze3 Zkg at hl;simp only[Ym,zdd]at hl;have hy:(fzs P.y).length=P.y.length:=zaf _;have hp':(fzs P.p).length=P.p.length:=zaf _;unfold Po.f at *
 generalize (Zik lim P t.code [] s p).1=s' at *
 generalize (Zik lim P t.code [] s p).2=p' at *
 obtain⟨code,outs,dim,par⟩:=t;rw[zad Zbf.h407 rfl,b407];simp -implicitDefEqProofs[hr,h1,h2,hy,hp',hl]
def z86{x:PoF}(h:PoS x 1000):PvS x.v 1000:=by
 refine⟨zbd h.t (by decide),fun q hq=>?_,fun q hq=>?_⟩
 ·obtain⟨u,hu,rfl⟩:=Yu.1 hq;exact zbd (h.y u hu) (by decide)
 ·obtain⟨u,hu,rfl⟩:=Yu.1 hq;exact zbd (h.p u hu) (by decide)
def Zj(n:Int):Nat:=(Zgs n).toNat
def zt7(n:Int):Zgs n=(Zj n:Int)/\Zj n<=4096:=by
 grind[Zj,Zgs]
def z4h(t:Tp)(x:PoF)(bits:Int)(hs:TpS t)(hx:PoS x 1000) :
  Za T 384 [etp t,ept x,.i .i64 bits]=some (.tup [.sl (Zc (fzs (Za8 (Zj bits) t x.v).1)) .an,Zdg (Za8 (Zj bits) t x.v).2.1 0 0 (Za8 (Zj bits) t x.v).2.2]):=by
 have hn:=zg3 (T:=T) x hx;have hg:=zg2 (T:=T) bits;obtain⟨hl1,hl2⟩:=zt7 bits;rw[hl1]at hg;have hP:=z86 hx;have hlen:x.v.f.y.length=x.v.y.length/\x.v.f.p.length=x.v.p.length:=⟨zaf _,zaf _⟩;unfold Za8;cases hf:Zfu t x.v.y.length x.v.p.length with
 | false=>
  have hm:=z85 (T:=T) t x.v.f hs 0 0 (Zj bits) (by grind);simp only[Yah,if_false];have e0:fzs []=[]:=rfl;rw[e0,zaa Zbf.h384 rfl,b384];generalize x.v.f=Q at *
  obtain⟨⟨q0,q1,q2⟩,qy,qp⟩:=Q;simp -implicitDefEqProofs[hn,hg,hm]
 | true=>
  simp only[if_true];by_cases hk:(Zbb (Zj bits) x.v t.code []).2.1=0
  ·obtain⟨s',p',kd,hkd,hm⟩:=z07 (T:=T) t x.v hs (Zj bits) hl2 0 0 hP hf hk;have e2:=(zh9 _ _ _ _ hk).1;have el:(Zbb (Zj bits) x.v t.code []).1.length=t.code.length:=by
    grind[zh9]
   rw[hk,e2];have hfl:(fzs (Zbb (Zj bits) x.v t.code []).1).length=t.code.length:=by simp_all
   generalize fzs (Zbb (Zj bits) x.v t.code []).1=D at *
   have ht:List.take t.code.length D=D:=Yc (by omega);rw[zaa Zbf.h384 rfl,b384];generalize x.v.f=Q at *
   obtain⟨⟨q0,q1,q2⟩,qy,qp⟩:=Q;rcases hkd with rfl | rfl
   ·simp -implicitDefEqProofs[hn,hg,hm,hfl,ht]
   ·simp -implicitDefEqProofs[hn,hg,hm,hfl,ht]
  ·obtain⟨s',p',hm⟩:=z08 (T:=T) t x.v hs (Zj bits) hl2 0 0 hP hf hk;have e1:=(z16 _ _ _ _ hk).1;have e0:fzs []=[]:=rfl;rw[e1,e0];rw[zaa Zbf.h384 rfl,b384];generalize x.v.f=Q at *
   obtain⟨⟨q0,q1,q2⟩,qy,qp⟩:=Q;simp -implicitDefEqProofs[hn,hg,hm]
def Ztg(D:List Fz)(outs:List Int)(E:List Fz)(i:Nat)(kd:Kind):St:=
 ⟨[(1,.sl (Zc D) .an),(5,.bs (.loc 5) 1 3 0 i),(20,.sl (ints outs) .an),(21,.i .i64 outs.length),(22,.i .i64 i)],[(.loc 5,⟨1,.own,3,Zc (E.take i)⟩)],3⟩
theorem z09{lim:Nat}{P:Po}(hlim:lim<=4096):∀(l:List Ins) (D:List Rat),(∀q∈D,sz q<=129)->∀q∈(Zbb lim P l D).1,sz q<=129
 | [],D,h=>h
 | i::r,D,h=>by
  rw[zb3];split
  ·simp
  ·split
   ·simp
   ·refine z09 hlim r _ fun q hq=>?_;rcases Y6.1 hq with hq | hq
    ·exact h q hq
    ·rw[Yr.1 hq];have:=ze8 (q:=(Zg P D i).1) (b:=lim) (by omega);omega
end
def Zra(d p:Int):PoF:=⟨fz 0,List.replicate (Za2 d) (fz 0),List.replicate (Za2 p) (fz 0)⟩
section
variable{T:Tbl}[Z2 T][Zr T][Zv T][Zw T][Zq T][Zo T][Ze T][Zh T][Zs T][Z0 T][Z5 T][Zbk T][Zaj T][Z9 T][Za5 T][Zb8 T][Zai T]
def zne(d p:Int):Z1 T 2395 [.i .i64 d,.i .i64 p] []=some (.agg [.b (fz 0).1,.sl (Zb (fz 0).2.1) .an,.sl (Zb (fz 0).2.2) .an,.bs (.fld (.loc 7) 9) 1 3 0 (Za2 d),.bs (.fld (.loc 9) 9) 2 3 0 (Za2 p)],
  [(.fld (.loc 7) 9,⟨1,.own,3,Zc (List.replicate (Za2 d) (fz 0))⟩),(.fld (.loc 9) 9,⟨2,.own,3,Zc (List.replicate (Za2 p) (fz 0))⟩)]):=by
 have c0:=zc8 (T:=T);have c1:=zc3 (T:=T) d;have c2:=zc3 (T:=T) p;generalize fz 0=Z at *
 generalize hA:List.replicate (Za2 d) Z=A at *
 generalize hB:List.replicate (Za2 p) Z=B at *
 obtain⟨z0,z1,z2⟩:=Z;rw[zad Zai.h2395 rfl,b2395];simp -implicitDefEqProofs[c0,c1,c2]
structure Bk where
 t:Tp
 done:List Fz
 co:List Fz
 g:PoF
abbrev bkH(b:Bk):Heap:=
 [(.bor 0,⟨0,.str,11,[[.sl (Zcw b.t.code) .an,.sl (ints b.t.outs) .an,.i .i64 b.t.dim,.i .i64 b.t.par,.sl (Zc b.done) .an,.bs (.bor 1) 1 3 0 b.co.length,.b b.g.t.1,.sl (Zb b.g.t.2.1) .an,.sl (Zb b.g.t.2.2) .an,
   .bs (.bor 2) 2 3 0 b.g.y.length,.bs (.bor 3) 3 3 0 b.g.p.length]]⟩),
  (.bor 1,⟨1,.own,3,Zc b.co⟩),(.bor 2,⟨2,.own,3,Zc b.g.y⟩),(.bor 3,⟨3,.own,3,Zc b.g.p⟩)]
abbrev bkP:AV:=.ptr (.bor 0) 0 11 0 0
end
def bmp(l:List Rat)(i:Int)(x:Rat):List Rat:=l.set i.toNat (gI l i+x)
@[simp] def zw5(l:List Rat)(i:Int)(x:Rat):(bmp l i x).length=l.length:=by simp[bmp]
def zuf(l:List Rat)(i:Int):bmp l i 0=l:=by
 unfold bmp gI;rw[Yes];refine Yda fun j=>?_;rw[Yce];split
 ·rename_i h;subst h;split
  ·rename_i h2;rw[Yq,Ya h2]
   rfl
  ·rename_i h2;rw[Yde (by omega)]
 ·rfl
def Zd0(D:List Rat)(x:Ins)(r:Rat):Rat:=if 0<x.b then Zbp (gI D x.a) (x.b-1) else if x.b<0 then r/gI D x.a else 0
def Zfn(D:List Rat)(x:Ins)(r c:Rat)(co:List Rat):List Rat:=
 if x.op=6 then bmp co x.a (-c)
 else if x.op=7 then bmp (bmp co x.a c) x.b c
 else if x.op=8 then bmp (bmp co x.a c) x.b (-c)
 else if x.op=9 then bmp (bmp co x.a (c*gI D x.b)) x.b (c*gI D x.a)
 else if x.op=10 then bmp (bmp co x.a (c/gI D x.b)) x.b (-(c/gI D x.b*r))
 else if x.op=11 then bmp co x.a (c*(x.b*Zd0 D x r))
 else co
def Zeb(x:Ins)(c:Rat)(g:Po):Po:=
 if x.op=2 then ⟨g.t+c,g.y,g.p⟩ else if x.op=3 then ⟨g.t,bmp g.y x.a c,g.p⟩ else if x.op=4 then ⟨g.t,g.y,bmp g.p x.a c⟩ else g
@[simp] def z9m(D:List Rat)(x:Ins)(r c:Rat)(co:List Rat):(Zfn D x r c co).length=co.length:=by
 unfold Zfn
 repeat' split
 all_goals simp
def z1r(D:List Rat)(x:Ins)(r:Rat)(co:List Rat):Zfn D x r 0 co=co:=by
 have h1:(-0:Rat)=0:=by grind
 have h2:∀v:Rat,0/v=0:=fun v=>by rw[Ycj,Ydf]
 unfold Zfn
 repeat' split
 all_goals simp only[h1,h2,Ydf,zuf]
def z1s(x:Ins)(g:Po):Zeb x 0 g=g:=by
 unfold Zeb;simp only[zuf,Yes]
 repeat' split
 all_goals rfl
def Zet(lim:Nat)(code:List Ins)(D:List Rat):Nat->List Rat->Po->(List Rat×Po)×Option Nat
 | 0,co,g=>((co,g),none)
 | n+1,co,g=>
  match code[n]? with
  | none=>((co,g),none)
  | some x=>if lim<Zbl (gI co n) then ((co,g),some n) else Zet lim code D n (Zfn D x (gI D n) (gI co n) co) (Zeb x (gI co n) g)
def Zg1(code:List Ins)(D:List Rat):Nat->List Rat->Po->List Rat×Po
 | 0,co,g=>(co,g)
 | n+1,co,g=>
  match code[n]? with
  | none=>(co,g)
  | some x=>Zg1 code D n (Zfn D x (gI D n) (gI co n) co) (Zeb x (gI co n) g)
theorem zsj(lim:Nat)(code:List Ins)(D:List Rat):∀(n:Nat) (co:List Rat) (g:Po),(Zet lim code D n co g).2=none->(Zet lim code D n co g).1=Zg1 code D n co g
 | 0,co,g,_=>rfl
 | n+1,co,g,h=>by
  unfold Zet at h ⊢;unfold Zg1;cases hx:code[n]? with
  | none=>rfl
  | some x=>
   rw[hx]at h;dsimp only at h ⊢;by_cases hl:lim<Zbl (gI co n)
   ·rw[if_pos hl]at h;cases h
   ·rw[if_neg hl]at h ⊢;exact zsj lim code D n _ _ h
def Zds:List Int->List Rat->List Rat->List Rat
 | o::os,w::ws,co=>Zds os ws (bmp co o w)
 | _,_,co=>co
@[simp] theorem zqh:∀(os:List Int) (ws co:List Rat),(Zds os ws co).length=co.length
 | [],_,_=>rfl
 | _::_,[],_=>rfl
 | o::os,w::ws,co=>by rw[Zds,zqh os ws,zw5]
def Zc2(lim:Nat):List Rat->Nat->Option Nat
 | [],_=>none
 | q::l,k=>if lim<Zbl q then some k else Zc2 lim l (k+1)
def Za7(d p:Nat):Po:=⟨0,List.replicate d 0,List.replicate p 0⟩
def Zh2(g:Po):List Rat:=g.t::(g.y++g.p)
def Zb4(lim:Nat)(t:Tp)(P:Po)(w:List Rat):Po×Nat×Nat×Nat:=
 if w.length≠t.outs.length then (Za7 0 0,2,0,0)
 else if (Za8 lim t P).2.1≠0 then (Za7 0 0,(Za8 lim t P).2.1,0,(Za8 lim t P).2.2)
 else
  match Zet lim t.code (Za8 lim t P).1 t.code.length (Zds t.outs w (List.replicate t.code.length 0)) (Za7 t.dim.toNat t.par.toNat) with
  | (_,some i)=>(Za7 0 0,6,2,i)
  | (s,none)=>match Zc2 lim (Zh2 s.2) 0 with | some k=>(Za7 0 0,6,3,k) | none=>(s.2,0,0,0)
def Zn5(l m:List Rat):List Rat:=List.zipWith (· + ·) l m
def Zro(g h:Po):Po:=⟨g.t+h.t,Zn5 g.y h.y,Zn5 g.p h.p⟩
def zfu(x:Ins)(c:Rat)(g:Po):(Zeb x c g).y.length=g.y.length/\(Zeb x c g).p.length=g.p.length:=by
 unfold Zeb
 repeat' split
 all_goals simp
abbrev Zii:Fz:=(false,[],[])
def Za1(co:List Fz)(k:Nat)(q:Rat):List Fz:=co.set k (fz (fv (co.getD k Zii)+q))
@[simp] def z73(co:List Fz)(k:Nat)(q:Rat):(Za1 co k q).length=co.length:=by simp[Za1]
def zzi:fv Zii=0:=by decide +kernel
def z5w(co:List Fz)(i:Int)(q:Rat):(Za1 co i.toNat q).map fv=bmp (co.map fv) i q:=by
 have e:fv (co.getD i.toNat Zii)=gI (co.map fv) i:=by
  unfold gI;rw[Yq,Yq,Yan];cases co[i.toNat]? with
  | none=>exact zzi
  | some x=>rfl
 unfold Za1 bmp;rw[Yco,zbi,e]
def z74{co:List Fz}{K:Nat}(h:∀x∈co,fsz x<=K)(k:Nat):fsz (co.getD k Zii)<=K:=by
 rw[Yq];cases hx:co[k]? with
 | none=>exact Yx _
 | some x=>exact h x (Yd hx)
def zf9{co:List Fz}{K S:Nat}(k:Nat){q:Rat}(h:∀x∈co,fsz x<=K)(h1:1<=K)(hq:sz q<=S):∀x∈Za1 co k q,fsz x<=K+S+1:=by
 intro x hx;rcases Yca hx with h2 | h2
 ·have:=h x h2;omega
 ·rw[h2,zar];have h3:=zig (fv (co.getD k Zii)) q;have h4:=zbd (z74 h k) h1;omega
abbrev bkN(n ny np:Nat)(b:Bk):Heap:=
 [(.bor 0,⟨0,.str,11,[[.sl (Zcw b.t.code) .an,.sl (ints b.t.outs) .an,.i .i64 b.t.dim,.i .i64 b.t.par,.sl (Zc b.done) .an,.bs (.bor 1) 1 3 0 n,.b b.g.t.1,.sl (Zb b.g.t.2.1) .an,.sl (Zb b.g.t.2.2) .an,
   .bs (.bor 2) 2 3 0 ny,.bs (.bor 3) 3 3 0 np]]⟩),
  (.bor 1,⟨1,.own,3,Zc b.co⟩),(.bor 2,⟨2,.own,3,Zc b.g.y⟩),(.bor 3,⟨3,.own,3,Zc b.g.p⟩)]
section
variable{T:Tbl}[Z2 T][Zr T][Zv T][Zw T][Zq T][Zo T][Ze T][Zh T][Zs T][Z0 T][Z5 T][Zbk T][Zaj T][Z9 T][Za5 T][Zb8 T][Zai T]
def zdh(n ny np:Nat)(b:Bk)(k:Nat)(c:Fz)(hn:b.co.length=n)(hk:k<n)(hx:∀x∈b.co,fsz x<=30000)(hc:fsz c<=30000) :
  Z1 T 410 [bkP,.i .i64 k,efz c] (bkN n ny np b)=some (.tup [],bkN n ny np { b with co:=Za1 b.co k (fv c) }):=by
 have hk0:k<b.co.length:=by omega
 have hg:b.co[k]? = some (b.co[k]'hk0):=Ya hk0;have e:b.co.getD k Zii=b.co[k]'hk0:=by rw[Yq,hg];rfl
 have ca:=ze5 (T:=T) (b.co[k]'hk0) c (hx _ (Y7 hk0)) hc;unfold Za1;rw[e];generalize b.co[k]'hk0=x at *
 obtain⟨_,hge⟩:=Yb.1 hg;have hlt':(k:Int)<n:=by omega
 obtain⟨⟨code,outs,dim,par⟩,done,co,⟨⟨g0,g1,g2⟩,gy,gp⟩⟩:=b;dsimp only at *
 generalize fz (fv x+fv c)=z at *
 have hp:wkL ((Zc co).set k [.b z.1,.sl (Zb z.2.1) .an,.sl (Zb z.2.2) .an])=Zc (co.set k z):=by
  have:(Zc co).set k (Zci z)=Zc (co.set k z):=by simp[Zc,Yco]
  show wkL ((Zc co).set k (Zci z))=_;rw[this,zgi]
 rw[zad Zai.h410 rfl,b410];simp -implicitDefEqProofs[ca,hg,hk,hk0,hlt',hge,hp]
def z28(n ny np:Nat)(b:Bk)(x:Ins)(c r dB:Fz)(kA kB:Nat)(ha:x.a=kA)(hb:x.b=kB)(hn:b.co.length=n)(hA:kA<n)(hB:kB<n)(hd:b.done[kB]? = some dB)(hx:∀y∈b.co,fsz y<=29000)(hc:fsz c<=129)(hr:fsz r<=129)(hdb:fsz dB<=129) :
  Z1 T 427 [bkP,.agg (Zdn x),efz c,efz r] (bkN n ny np b)=some (.tup [],bkN n ny np { b with co:=Za1 (Za1 b.co kA (fv c/fv dB)) kB (-(fv c/fv dB*fv r)) }):=by
 have cq:=zfq (T:=T) c dB (by omega) (by omega);have vc:=zbd hc (by decide);have vr:=zbd hr (by decide);have vd:=zbd hdb (by decide);have z1:=zfd (fv c) (fv dB);have z2:=zbz (fv c/fv dB) (fv r);have cm:=zcj (T:=T) (fz (fv c/fv dB)) r (by rw[zar];omega) (by omega);have cn:=zfp (T:=T) (fz (fv c/fv dB*fv r)) (by rw[zar];omega);have s1:=zdh (T:=T) n ny np b kA (fz (fv c/fv dB)) hn hA (fun y hy=>Ye (hx y hy) (by decide)) (by rw[zar];omega);have s2:=zdh (T:=T) n ny np { b with co:=Za1 b.co kA (fv c/fv dB) } kB (fz (-(fv c/fv dB*fv r))) (by simpa using hn) hB
  (fun y hy=>by have:=zf9 (K:=29001) (S:=258) kA (fun y hy=>Ye (hx y hy) (by decide)) (by decide) (by omega) y hy;omega) (by rw[zar,zih];omega)
 obtain⟨hlt,hge⟩:=Yb.1 hd;have hlt':(kB:Int)<b.done.length:=by omega
 rw[zbi]at cm cn s1 s2;generalize decide (fv dB≠0)=bb at *
 generalize Za1 (Za1 b.co kA (fv c/fv dB)) kB (-(fv c/fv dB*fv r))=C2 at *
 generalize Za1 b.co kA (fv c/fv dB)=C1 at *
 generalize fz (-(fv c/fv dB*fv r))=z3 at *
 generalize fz (fv c/fv dB*fv r)=z4 at *
 generalize fz (fv c/fv dB)=z5 at *
 clear z1 z2 vc vr vd;obtain⟨⟨code,outs,dim,par⟩,done,co,⟨⟨g0,g1,g2⟩,gy,gp⟩⟩:=b;obtain⟨op,ia,ib,n⟩:=x;dsimp only at *
 subst ha;subst hb;rw[zad Zai.h427 rfl,b427];simp -implicitDefEqProofs[cq,cm,cn,s1,s2,hd,hlt',hlt,hge]
def zzj{q:Rat}(hq:sz q<=129){e:Int}(h0:0<e)(h1:e<=8):sz (Zbp q (e-1))<=904:=by
 obtain⟨n,hn⟩:∃n:Nat,e-1=n:=⟨(e-1).toNat,by omega⟩;unfold Zbp;rw[hn,Yc0];have:=z04 q n;have h3:n*sz q<=7*129:=Yby (by omega) hq;omega
def ztv(e:Int)(h1:-8<=e)(h2:e<=8):sz (e:Rat)<=1:=by
 have h:e=-8\/e=-7\/e=-6\/e=-5\/e=-4\/e=-3\/e=-2\/e=-1\/e=0\/e=1\/e=2\/e=3\/e=4\/e=5\/e=6\/e=7\/e=8:=by omega
 unfold sz;rw[Rat.num_intCast,Rat.den_intCast];refine Yd9.2 ⟨?_,by decide +kernel⟩;refine zap ?_;rw[Nat.pow_one];omega
def z29(n ny np:Nat)(b:Bk)(x:Ins)(c r dA:Fz)(kA:Nat)(ha:x.a=kA)(h8:-8<=x.b)(h8':x.b<=8)(hn:b.co.length=n)(hA:kA<n)(hd:b.done[kA]? = some dA)(hx:∀y∈b.co,fsz y<=29000)(hc:fsz c<=129)(hr:fsz r<=129)(hda:fsz dA<=129) :
  Z1 T 428 [bkP,.agg (Zdn x),efz c,efz r] (bkN n ny np b)=some (.tup [],bkN n ny np { b with co:=Za1 b.co kA (fv c*(x.b*(if 0<x.b then Zbp (fv dA) (x.b-1) else if x.b<0 then fv r/fv dA else 0))) }):=by
 have c0:=zc8 (T:=T);have ce:=zhs (T:=T) x.b (by omega) (by omega);have vc:=zbd hc (by decide);have vr:=zbd hr (by decide);have vd:=zbd hda (by decide);have ze:=ztv x.b h8 h8';obtain⟨hlt,hge⟩:=Yb.1 hd;have hlt':(kA:Int)<b.done.length:=by omega
 -- the last steps,whatever the turn is
 have fin:∀q:Rat,sz q<=904->Za T 217 [efz (fz (x.b:Rat)),efz (fz q)]=some (efz (fz (x.b*q)))/\Za T 217 [efz c,efz (fz (x.b*q))]=some (efz (fz (fv c*(x.b*q)))) /\
   Z1 T 410 [bkP,.i .i64 kA,efz (fz (fv c*(x.b*q)))] (bkN n ny np b)=some (.tup [],bkN n ny np { b with co:=Za1 b.co kA (fv c*(x.b*q)) }):=by
  intro q hq;have z1:=zbz (x.b:Rat) q;have z2:=zbz (fv c) (x.b*q);have m1:=zcj (T:=T) (fz (x.b:Rat)) (fz q) (by rw[zar];omega) (by rw[zar];omega);have m2:=zcj (T:=T) c (fz (x.b*q)) (by omega) (by rw[zar];omega);have s1:=zdh (T:=T) n ny np b kA (fz (fv c*(x.b*q))) hn hA (fun y hy=>Ye (hx y hy) (by decide)) (by rw[zar];omega);rw[zbi,zbi]at m1;rw[zbi]at m2 s1;exact⟨m1,m2,s1⟩
 by_cases h1:0<x.b
 ·have cp:=zg1 (T:=T) dA (x.b-1) (by omega);have e2:=zni (q:=fv dA) (e:=x.b-1) (by omega) (by omega);rw[if_neg (by omega)]at e2;rw[e2]at cp;obtain⟨m1,m2,s1⟩:=fin _ (zzj vd h1 h8');rw[if_pos h1];have hw:IntKind.wrap .i64 (x.b-1)=x.b-1:=zab _ (by omega);generalize Za1 b.co kA (fv c*(x.b*Zbp (fv dA) (x.b-1)))=C1 at *
  generalize fz (fv c*(x.b*Zbp (fv dA) (x.b-1)))=z1 at *
  generalize fz (x.b*Zbp (fv dA) (x.b-1))=z2 at *
  generalize fz (Zbp (fv dA) (x.b-1))=z3 at *
  generalize fz (x.b:Rat)=z4 at *
  generalize fz 0=z5 at *
  clear e2 fin vc vr vd ze;obtain⟨⟨code,outs,dim,par⟩,done,co,⟨⟨g0,g1,g2⟩,gy,gp⟩⟩:=b;obtain⟨op,ia,ib,n⟩:=x;dsimp only at *
  subst ha;rw[zad Zai.h428 rfl,b428];simp -implicitDefEqProofs[c0,ce,cp,m1,m2,s1,hd,hlt',hlt,hge,h1,hw]
 ·by_cases h2:x.b<0
  ·have cq:=zfq (T:=T) r dA (by omega) (by omega);have z0:=zfd (fv r) (fv dA);obtain⟨m1,m2,s1⟩:=fin (fv r/fv dA) (by omega);rw[if_neg h1,if_pos h2];generalize decide (fv dA≠0)=bb at *
   generalize Za1 b.co kA (fv c*(x.b*(fv r/fv dA)))=C1 at *
   generalize fz (fv c*(x.b*(fv r/fv dA)))=z1 at *
   generalize fz (x.b*(fv r/fv dA))=z2 at *
   generalize fz (fv r/fv dA)=z3 at *
   generalize fz (x.b:Rat)=z4 at *
   generalize fz 0=z5 at *
   clear fin vc vr vd ze z0;obtain⟨⟨code,outs,dim,par⟩,done,co,⟨⟨g0,g1,g2⟩,gy,gp⟩⟩:=b;obtain⟨op,ia,ib,n⟩:=x;dsimp only at *
   subst ha;rw[zad Zai.h428 rfl,b428];simp -implicitDefEqProofs[c0,ce,cq,m1,m2,s1,hd,hlt',hlt,hge,h1,h2]
  ·obtain⟨m1,m2,s1⟩:=fin 0 (by decide +kernel);rw[if_neg h1,if_neg h2];generalize Za1 b.co kA (fv c*(x.b*0))=C1 at *
   generalize fz (fv c*(x.b*0))=z1 at *
   generalize fz (x.b*0)=z2 at *
   generalize fz (x.b:Rat)=z4 at *
   generalize fz 0=z5 at *
   clear fin vc vr vd ze;obtain⟨⟨code,outs,dim,par⟩,done,co,⟨⟨g0,g1,g2⟩,gy,gp⟩⟩:=b;obtain⟨op,ia,ib,n⟩:=x;dsimp only at *
   subst ha;rw[zad Zai.h428 rfl,b428];simp -implicitDefEqProofs[c0,ce,m1,m2,s1,hd,hlt',hlt,hge,h1,h2]
end
def Zhw(D:List Fz)(x:Ins)(r c:Rat)(co:List Fz):List Fz:=
 if c=0 then co
 else if x.op=6 then Za1 co x.a.toNat (-c)
 else if x.op=7 then Za1 (Za1 co x.a.toNat c) x.b.toNat c
 else if x.op=8 then Za1 (Za1 co x.a.toNat c) x.b.toNat (-c)
 else if x.op=9 then Za1 (Za1 co x.a.toNat (c*gI (D.map fv) x.b)) x.b.toNat (c*gI (D.map fv) x.a)
 else if x.op=10 then Za1 (Za1 co x.a.toNat (c/gI (D.map fv) x.b)) x.b.toNat (-(c/gI (D.map fv) x.b*r))
 else if x.op=11 then Za1 co x.a.toNat (c*(x.b*Zd0 (D.map fv) x r))
 else co
def Zmx(x:Ins)(c:Rat)(g:PoF):PoF:=
 if c=0 then g
 else if x.op=2 then ⟨fz (fv g.t+c),g.y,g.p⟩ else if x.op=3 then ⟨g.t,Za1 g.y x.a.toNat c,g.p⟩ else if x.op=4 then ⟨g.t,g.y,Za1 g.p x.a.toNat c⟩ else g
def zaeq(D:List Fz)(x:Ins)(r c:Rat)(co:List Fz):(Zhw D x r c co).map fv=Zfn (D.map fv) x r c (co.map fv):=by
 unfold Zhw;by_cases h:c=0
 ·subst h;rw[if_pos rfl,z1r]
 ·rw[if_neg h];unfold Zfn
  repeat' split
  all_goals simp only[z5w]
@[simp] def z77(D:List Fz)(x:Ins)(r c:Rat)(co:List Fz):(Zhw D x r c co).length=co.length:=by
 unfold Zhw
 repeat' split
 all_goals simp
def zzk{D:List Fz}{i:Int}{k:Nat}{u:Fz}(h:i=k)(hu:D[k]? = some u):gI (D.map fv) i=fv u:=by
 subst h;unfold gI;rw[Yq,Yan,Y0,hu]
 rfl
def z78{D:List Fz}{x:Ins}{r c:Rat}{co:List Fz}{K p:Nat}{dim par:Int}(hm:Zcj dim par p x=true)(hD:∀u∈D,fsz u<=129)(hc:sz c<=129)(hr:sz r<=129)(h:∀u∈co,fsz u<=K)(h1:1<=K) :
  ∀u∈Zhw D x r c co,fsz u<=K+1036:=by
 have hg:∀i,sz (gI (D.map fv) i)<=129:=fun i=>zc4 (by decide) fun q hq=>by
  obtain⟨u,hu,rfl⟩:=Yu.1 hq;exact zbd (hD u hu) (by decide)
 have ga:=hg x.a;have gb:=hg x.b;have z0:=zih c;have z1:=zbz c (gI (D.map fv) x.b);have z2:=zbz c (gI (D.map fv) x.a);have z3:=zfd c (gI (D.map fv) x.b);have z4:=zbz (c/gI (D.map fv) x.b) r;have z5:=zih (c/gI (D.map fv) x.b*r);have two:∀(S S':Nat) (k k':Nat) (q q':Rat),sz q<=S->sz q'<=S'->S+S'<=1000->∀u∈Za1 (Za1 co k q) k' q',fsz u<=K+1036:=by
  intro S S' k k' q q' hq hq' hS u hu;have:=zf9 k' (zf9 k h h1 hq) (by omega) hq' u hu;omega
 unfold Zhw
 repeat' split
 ·intro u hu;have:=h u hu;omega
 ·intro u hu;have:=zf9 (S:=129) x.a.toNat h h1 (by omega) u hu;omega
 ·exact two 129 129 _ _ _ _ (by omega) (by omega) (by decide)
 ·exact two 129 129 _ _ _ _ (by omega) (by omega) (by decide)
 ·exact two 258 258 _ _ _ _ (by omega) (by omega) (by decide)
 ·exact two 258 387 _ _ _ _ (by omega) (by omega) (by decide)
 ·rename_i h11;obtain⟨e1,e2⟩:=zsv hm h11;have zt:sz (Zd0 (D.map fv) x r)<=904:=by
   unfold Zd0;split
   ·exact zzj ga (by omega) e2
   ·split
    ·have:=zfd r (gI (D.map fv) x.a);omega
    ·exact(by decide +kernel:sz 0<=904)
  have z6:=zbz (x.b:Rat) (Zd0 (D.map fv) x r);have z7:=ztv x.b e1 e2;have z8:=zbz c (x.b*Zd0 (D.map fv) x r);intro u hu;have:=zf9 (S:=1034) x.a.toNat h h1 (by omega) u hu;omega
 ·intro u hu;have:=h u hu;omega
section
variable{T:Tbl}[Z2 T][Zr T][Zv T][Zw T][Zq T][Zo T][Ze T][Zh T][Zs T][Z0 T][Z5 T][Zbk T][Zaj T][Z9 T][Za5 T][Zb8 T][Zai T]
def z3a(n ny np:Nat)(b:Bk)(x:Ins)(k:Nat)(c r:Fz)(hx:b.t.code[k]? = some x)(hm:Zcj b.t.dim b.t.par k x=true)(hdl:b.done.length=n)(hcl:b.co.length=n)(hyl:b.g.y.length=ny)(hpl:b.g.p.length=np)(hy:(ny:Int)=b.t.dim)(hp:(np:Int)=b.t.par)
  (hc:b.co[k]? = some c) (hr:b.done[k]? = some r) (zc:fsz c<=129) (zd:∀u∈b.done,fsz u<=129) (zo:∀u∈b.co,fsz u<=29000) (zt:fsz b.g.t<=29000) (zy:∀u∈b.g.y,fsz u<=29000) (zp:∀u∈b.g.p,fsz u<=29000) :
  Z1 T 412 [bkP,.i .i64 k] (bkN n ny np b)=some (.tup [],bkN n ny np { b with co:=Zhw b.done x (fv r) (fv c) b.co,g:=Zmx x (fv c) b.g }):=by
 have csg:=zpo (T:=T) c (by omega);obtain⟨kc1,kc2⟩:=Yb.1 hc;obtain⟨kx1,kx2⟩:=Yb.1 hx;obtain⟨kr1,kr2⟩:=Yb.1 hr;have kc1':(k:Int)<n:=by omega
 have kx1':(k:Int)<b.t.code.length:=by omega
 have kr1':(k:Int)<b.done.length:=by omega
 have zr:=zd r (Yd hr);have vc:=zbd zc (by decide);by_cases h0:fv c=0
 ·have h0':sgQ (fv c)=0:=zhd.2 h0;unfold Zhw Zmx;rw[if_pos h0,if_pos h0];rw[h0']at csg;clear h0' h0 vc zr zd zo zt zy zp;obtain⟨⟨code,outs,dim,par⟩,done,co,⟨⟨g0,g1,g2⟩,gy,gp⟩⟩:=b;dsimp only at *
  rw[zad Zai.h412 rfl,b412];simp -implicitDefEqProofs[csg,hx,hc,kc1',kx1',kc2,kx2]
 have h0':¬ sgQ (fv c)=0:=fun h=>h0 (zhd.1 h);have op:=zii hm;have sd:=fun(y:Fz) (i:Nat) (hi:i<n) (hy:fsz y<=29000)=>zdh (T:=T) n ny np b i y hcl hi (fun u hu=>Ye (zo u hu) (by decide)) (by omega);have sd2:=fun(q:Rat) (j:Nat) (hq:sz q<=258) (y:Fz) (i:Nat) (hi:i<n) (hy:fsz y<=29000)=>zdh (T:=T) n ny np { b with co:=Za1 b.co j q } i y (by simpa using hcl) hi
  (fun u hu=>by have:=zf9 (K:=29000) (S:=258) j zo (by decide) hq u hu;omega) (by omega)
 have cn:=zfp (T:=T) c (by omega);have zn:fsz (fz (-fv c))<=29000:=by rw[zar,zih];omega
 have zc':fsz c<=29000:=by omega
 unfold Zhw Zmx;rw[if_neg h0,if_neg h0];have sx:∀(l:List Fz) (j:Nat) (z:Fz),wkL ((Zc l).set j [.b z.1,.sl (Zb z.2.1) .an,.sl (Zb z.2.2) .an])=Zc (l.set j z):=by
  intro l j z;have:(Zc l).set j (Zci z)=Zc (l.set j z):=by simp[Zc,Yco]
  show wkL ((Zc l).set j (Zci z))=_;rw[this,zgi]
 have gq:∀{i:Int} {j:Nat} {u:Fz},i=j->b.done[j]? = some u->gI (b.done.map fv) i=fv u:=fun h1 h2=>zzk h1 h2;generalize sgQ (fv c)=sg at csg h0';clear h0;rcases op with h | h | h | h | h | h | h | h | h | h
 ·-- constant
  simp only[h,Int.reduceEq,if_false,if_true];obtain⟨⟨code,outs,dim,par⟩,done,co,⟨⟨g0,g1,g2⟩,gy,gp⟩⟩:=b;obtain⟨xo,xa,xb,xn⟩:=x;dsimp only at *
  subst h;rw[zad Zai.h412 rfl,b412];simp -implicitDefEqProofs[csg,h0',hx,hc,kc1',kx1',kc2,kx2]
 ·-- moment
  simp only[h,Int.reduceEq,if_false,if_true];have ca:=ze5 (T:=T) b.g.t c (by omega) (by omega);generalize fz (fv b.g.t+fv c)=z at *
  obtain⟨⟨code,outs,dim,par⟩,done,co,⟨⟨g0,g1,g2⟩,gy,gp⟩⟩:=b;obtain⟨xo,xa,xb,xn⟩:=x;dsimp only at *
  subst h;rw[zad Zai.h412 rfl,b412];simp -implicitDefEqProofs[csg,h0',hx,hc,kc1',kx1',kc2,kx2,ca]
 ·-- state
  simp only[h,Int.reduceEq,if_false,if_true];obtain⟨ja,hja⟩:∃j:Nat,x.a=j:=⟨x.a.toNat,by have:=(z14 hm h).1;omega⟩;have hA:ja<ny:=by have:=(z14 hm h).2;omega
  have hAl:ja<b.g.y.length:=by omega
  obtain⟨u,hu⟩:∃u,b.g.y[ja]? = some u:=⟨_,Ya hAl⟩;obtain⟨_,hu2⟩:=Yb.1 hu;have hA':(ja:Int)<ny:=by omega
  have ca:=ze5 (T:=T) u c (by have:=zy u (Yd hu);omega) (by omega);have eu:b.g.y.getD ja Zii=u:=by rw[Yq,hu];rfl
  unfold Za1;rw[hja,Y0,eu];generalize fz (fv u+fv c)=z at *
  have sx1:=sx b.g.y ja z;obtain⟨⟨code,outs,dim,par⟩,done,co,⟨⟨g0,g1,g2⟩,gy,gp⟩⟩:=b;obtain⟨xo,xa,xb,xn⟩:=x;dsimp only at *
  subst h;rw[zad Zai.h412 rfl,b412];simp -implicitDefEqProofs[csg,h0',hx,hc,kc1',kx1',kc2,kx2,ca,hu,hu2,hA,hA',hAl,sx1,hja]
 ·-- parameter
  simp only[h,Int.reduceEq,if_false,if_true];obtain⟨ja,hja⟩:∃j:Nat,x.a=j:=⟨x.a.toNat,by have:=(z15 hm h).1;omega⟩;have hA:ja<np:=by have:=(z15 hm h).2;omega
  have hAl:ja<b.g.p.length:=by omega
  obtain⟨u,hu⟩:∃u,b.g.p[ja]? = some u:=⟨_,Ya hAl⟩;obtain⟨_,hu2⟩:=Yb.1 hu;have hA':(ja:Int)<np:=by omega
  have ca:=ze5 (T:=T) u c (by have:=zp u (Yd hu);omega) (by omega);have eu:b.g.p.getD ja Zii=u:=by rw[Yq,hu];rfl
  unfold Za1;rw[hja,Y0,eu];generalize fz (fv u+fv c)=z at *
  have sx1:=sx b.g.p ja z;obtain⟨⟨code,outs,dim,par⟩,done,co,⟨⟨g0,g1,g2⟩,gy,gp⟩⟩:=b;obtain⟨xo,xa,xb,xn⟩:=x;dsimp only at *
  subst h;rw[zad Zai.h412 rfl,b412];simp -implicitDefEqProofs[csg,h0',hx,hc,kc1',kx1',kc2,kx2,ca,hu,hu2,hA,hA',hAl,sx1,hja]
 ·-- other side
  simp only[h,Int.reduceEq,if_false,if_true];obtain⟨ja,hja⟩:∃j:Nat,x.a=j:=⟨x.a.toNat,by have:=(zfz hm (by omega)).1;omega⟩;have hA:ja<n:=by have:=(zfz hm (by omega)).2;omega
  have s1:=sd (fz (-fv c)) ja hA zn;rw[zbi]at s1;rw[hja,Y0];generalize Za1 b.co ja (-fv c)=C1 at *
  generalize fz (-fv c)=z1 at *
  obtain⟨⟨code,outs,dim,par⟩,done,co,⟨⟨g0,g1,g2⟩,gy,gp⟩⟩:=b;obtain⟨xo,xa,xb,xn⟩:=x;dsimp only at *
  subst h;rw[zad Zai.h412 rfl,b412];simp -implicitDefEqProofs[csg,h0',hx,hc,kc1',kx1',kc2,kx2,cn,s1,hja]
 ·-- sum
  simp only[h,Int.reduceEq,if_false,if_true];obtain⟨ja,hja⟩:∃j:Nat,x.a=j:=⟨x.a.toNat,by have:=(zfz hm (by omega)).1;omega⟩;have hA:ja<n:=by have:=(zfz hm (by omega)).2;omega
  obtain⟨jb,hjb⟩:∃j:Nat,x.b=j:=⟨x.b.toNat,by have:=(zil hm (by omega)).1;omega⟩;have hB:jb<n:=by have:=(zil hm (by omega)).2;omega
  have s1:=sd c ja hA zc';have s2:=sd2 (fv c) ja (by omega) c jb hB zc';rw[hja,hjb,Y0,Y0];generalize Za1 (Za1 b.co ja (fv c)) jb (fv c)=C2 at *
  generalize Za1 b.co ja (fv c)=C1 at *
  obtain⟨⟨code,outs,dim,par⟩,done,co,⟨⟨g0,g1,g2⟩,gy,gp⟩⟩:=b;obtain⟨xo,xa,xb,xn⟩:=x;dsimp only at *
  subst h;rw[zad Zai.h412 rfl,b412];simp -implicitDefEqProofs[csg,h0',hx,hc,kc1',kx1',kc2,kx2,s1,s2,hja,hjb]
 ·-- difference
  simp only[h,Int.reduceEq,if_false,if_true];obtain⟨ja,hja⟩:∃j:Nat,x.a=j:=⟨x.a.toNat,by have:=(zfz hm (by omega)).1;omega⟩;have hA:ja<n:=by have:=(zfz hm (by omega)).2;omega
  obtain⟨jb,hjb⟩:∃j:Nat,x.b=j:=⟨x.b.toNat,by have:=(zil hm (by omega)).1;omega⟩;have hB:jb<n:=by have:=(zil hm (by omega)).2;omega
  have s1:=sd c ja hA zc';have s2:=sd2 (fv c) ja (by omega) (fz (-fv c)) jb hB zn;rw[zbi]at s2;rw[hja,hjb,Y0,Y0];generalize Za1 (Za1 b.co ja (fv c)) jb (-fv c)=C2 at *
  generalize Za1 b.co ja (fv c)=C1 at *
  generalize fz (-fv c)=z1 at *
  obtain⟨⟨code,outs,dim,par⟩,done,co,⟨⟨g0,g1,g2⟩,gy,gp⟩⟩:=b;obtain⟨xo,xa,xb,xn⟩:=x;dsimp only at *
  subst h;rw[zad Zai.h412 rfl,b412];simp -implicitDefEqProofs[csg,h0',hx,hc,kc1',kx1',kc2,kx2,cn,s1,s2,hja,hjb]
 ·-- product
  simp only[h,Int.reduceEq,if_false,if_true];obtain⟨ja,hja⟩:∃j:Nat,x.a=j:=⟨x.a.toNat,by have:=(zfz hm (by omega)).1;omega⟩;have hA:ja<n:=by have:=(zfz hm (by omega)).2;omega
  obtain⟨jb,hjb⟩:∃j:Nat,x.b=j:=⟨x.b.toNat,by have:=(zil hm (by omega)).1;omega⟩;have hB:jb<n:=by have:=(zil hm (by omega)).2;omega
  obtain⟨da,hda⟩:∃u,b.done[ja]? = some u:=⟨_,Ya (by omega)⟩;obtain⟨hda1,hda2⟩:=Yb.1 hda;have hda3:(ja:Int)<b.done.length:=by omega
  have zda:=zd da (Yd hda);have vda:=zbd zda (by decide);obtain⟨db,hdb⟩:∃u,b.done[jb]? = some u:=⟨_,Ya (by omega)⟩;obtain⟨hdb1,hdb2⟩:=Yb.1 hdb;have hdb3:(jb:Int)<b.done.length:=by omega
  have zdb:=zd db (Yd hdb);have vdb:=zbd zdb (by decide);have z1:=zbz (fv c) (fv db);have z2:=zbz (fv c) (fv da);have m1:=zcj (T:=T) c db (by omega) (by omega);have m2:=zcj (T:=T) c da (by omega) (by omega);have s1:=sd (fz (fv c*fv db)) ja hA (by rw[zar];omega);have s2:=sd2 (fv c*fv db) ja (by omega) (fz (fv c*fv da)) jb hB (by rw[zar];omega);rw[zbi]at s1 s2;rw[gq hja hda,gq hjb hdb,hja,hjb,Y0,Y0];generalize Za1 (Za1 b.co ja (fv c*fv db)) jb (fv c*fv da)=C2 at *
  generalize Za1 b.co ja (fv c*fv db)=C1 at *
  generalize fz (fv c*fv db)=u1 at *
  generalize fz (fv c*fv da)=u2 at *
  clear sd sd2 z1 z2;obtain⟨⟨code,outs,dim,par⟩,done,co,⟨⟨g0,g1,g2⟩,gy,gp⟩⟩:=b;obtain⟨xo,xa,xb,xn⟩:=x;dsimp only at *
  subst h;rw[zad Zai.h412 rfl,b412];simp -implicitDefEqProofs[csg,h0',hx,hc,kc1',kx1',kc2,kx2,m1,m2,s1,s2,hja,hjb,hda,hdb,hda1,hdb1,hda2,hdb2,hda3,hdb3]
 ·-- quotient
  simp only[h,Int.reduceEq,if_false,if_true];obtain⟨ja,hja⟩:∃j:Nat,x.a=j:=⟨x.a.toNat,by have:=(zfz hm (by omega)).1;omega⟩;have hA:ja<n:=by have:=(zfz hm (by omega)).2;omega
  obtain⟨jb,hjb⟩:∃j:Nat,x.b=j:=⟨x.b.toNat,by have:=(zil hm (by omega)).1;omega⟩;have hB:jb<n:=by have:=(zil hm (by omega)).2;omega
  obtain⟨db,hdb⟩:∃u,b.done[jb]? = some u:=⟨_,Ya (by omega)⟩;obtain⟨hdb1,hdb2⟩:=Yb.1 hdb;have hdb3:(jb:Int)<b.done.length:=by omega
  have zdb:=zd db (Yd hdb);have vdb:=zbd zdb (by decide);have q1:=z28 (T:=T) n ny np b x c r db ja jb hja hjb hcl hA hB hdb zo zc zr zdb;rw[gq hjb hdb,hja,hjb,Y0,Y0];generalize Za1 (Za1 b.co ja (fv c/fv db)) jb (-(fv c/fv db*fv r))=C2 at *
  clear sd sd2;obtain⟨⟨code,outs,dim,par⟩,done,co,⟨⟨g0,g1,g2⟩,gy,gp⟩⟩:=b;obtain⟨xo,xa,xb,xn⟩:=x;dsimp only at *
  subst h;subst hja;subst hjb;rw[zad Zai.h412 rfl,b412];simp -implicitDefEqProofs[csg,h0',hx,hc,kc1',kx1',kc2,kx2,q1,hr,kr1,kr2,kr1']
 ·-- power
  simp only[h,Int.reduceEq,if_false,if_true];obtain⟨ja,hja⟩:∃j:Nat,x.a=j:=⟨x.a.toNat,by have:=(zfz hm (by omega)).1;omega⟩;have hA:ja<n:=by have:=(zfz hm (by omega)).2;omega
  obtain⟨da,hda⟩:∃u,b.done[ja]? = some u:=⟨_,Ya (by omega)⟩;obtain⟨hda1,hda2⟩:=Yb.1 hda;have hda3:(ja:Int)<b.done.length:=by omega
  have zda:=zd da (Yd hda);have vda:=zbd zda (by decide);obtain⟨e1,e2⟩:=zsv hm h;have q1:=z29 (T:=T) n ny np b x c r da ja hja e1 e2 hcl hA hda zo zc zr zda;have et:Zd0 (b.done.map fv) x (fv r)=(if 0<x.b then Zbp (fv da) (x.b-1) else if x.b<0 then fv r/fv da else 0):=by
   unfold Zd0;rw[gq hja hda]
  rw[et,hja,Y0];generalize (if 0<x.b then Zbp (fv da) (x.b-1) else if x.b<0 then fv r/fv da else 0)=tq at *
  generalize Za1 b.co ja (fv c*(x.b*tq))=C2 at *
  clear sd sd2;obtain⟨⟨code,outs,dim,par⟩,done,co,⟨⟨g0,g1,g2⟩,gy,gp⟩⟩:=b;obtain⟨xo,xa,xb,xn⟩:=x;dsimp only at *
  subst h;subst hja;rw[zad Zai.h412 rfl,b412];simp -implicitDefEqProofs[csg,h0',hx,hc,kc1',kx1',kc2,kx2,q1,hr,kr1,kr2,kr1']
end
section
variable{T:Tbl}[Z2 T][Zr T][Zv T][Zw T][Zq T][Zo T][Ze T][Zh T][Zs T][Z0 T][Z5 T][Zbk T][Zaj T][Z9 T][Za5 T][Zb8 T][Z7 T][Zak T][Z3 T][Zai T]
def zvr(x:Fz)(hx:fsz x<=30000):Za T 223 [efz x]=some (.i .i64 (Zby x)):=by
 have h1:=zfc x;have h2:=zfy x;have c1:=ziz (T:=T) x.2.1 (by omega);have c2:=ziz (T:=T) x.2.2 (by omega);have b1:=zi0 (x:=val x.2.1) (k:=30000) (Ye (zac x.2.1) (by omega));have b2:=zi0 (x:=val x.2.2) (k:=30000) (Ye (zac x.2.2) (by omega));have w:IntKind.wrap .i64 ((Zbh (val x.2.1):Int)+(Zbh (val x.2.2):Int))=((Zby x:Nat):Int):=by
  have e:((Zby x:Nat):Int)=(Zbh (val x.2.1):Int)+(Zbh (val x.2.2):Int):=by unfold Zby;omega
  rw[e];exact zab _ (by omega)
 rw[zaa Z5.h223 rfl,b223];generalize Zby x=S at *
 generalize Zbh (val x.2.1)=B1 at *
 generalize Zbh (val x.2.2)=B2 at *
 simp -implicitDefEqProofs[c1,c2,w]
def zei(s p L:Int)(x:Fz)(hx:fsz x<=30000):Z1 T 411 [.ptr (.bor 0) 0 3 0 0,efz x] [(.bor 0,bxG 0 s p L)]=some (.b (decide ((Zby x:Int)<=L)),[(.bor 0,bxG 0 (Zbg s) (Zbn p x) L)]):=by
 have h1:=zvr (T:=T) x hx;have h2:=zl6 (T:=T) s p L (Zby x);unfold Zbn;rw[zad Z3.h411 rfl,b411];generalize Zbg s=s' at *
 generalize (if p<(Zby x:Int) then (Zby x:Int) else p)=p' at *
 generalize (Zby x:Int)=z at *
 simp -implicitDefEqProofs[h1,h2]
def z3b(g:PoF)(hy:g.y≠[])(hl:g.y.length<=1000)(hl2:g.p.length<=1000):Za T 414 [ept g]=some (.sl (Zc (g.t::(g.y++g.p))) .an):=by
 obtain⟨⟨g0,g1,g2⟩,gy,gp⟩:=g;dsimp only;dsimp only at hy hl hl2;have hne:¬ Zc gy=[]:=fun h=>hy (by have:=congrArg List.length h;simpa using this);have h1:1+gy.length<=4294967296:=by omega
 have h2:1+gy.length+gp.length<=4294967296:=by omega
 have h3:1+gy.length<=gy.length+1:=by omega
 have h4:∀c:List AV,List.take (1+gy.length) (c::Zc gy)=c::Zc gy:=fun c=>Yc (by simp;omega);have h5:1+gy.length+gp.length<=gy.length+gp.length+1:=by omega
 have h6:∀c:List AV,List.take (1+gy.length+gp.length) (c::(Zc gy++Zc gp))=c::(Zc gy++Zc gp):=fun c=>Yc (by simp;omega);have h7:wkL (Zc gy++Zc gp)=Zc gy++Zc gp:=by
  have:Zc gy++Zc gp=Zc (gy++gp):=by simp[Zc]
  rw[this,zgi]
 have e:Zc ((g0,g1,g2)::(gy++gp))=[.b g0,.sl (Zb g1) .an,.sl (Zb g2) .an]::(Zc gy++Zc gp):=by simp[Zc]
 rw[e,zaa Zai.h414 rfl,b414];simp -implicitDefEqProofs[hne,h1,h2,h3,h4,h5,h6,h7,z0o]
def Zi7(F:List Fz)(L:Int)(i:Nat)(s p:Int):St:=⟨[(0,.ptr (.bor 0) 0 3 0 0),(1,.sl (Zc F) .an),(8,.sl (Zc F) .an),(9,.i .i64 F.length),(10,.i .i64 i)],[(.bor 0,bxG 0 s p L)],4⟩
def zaor(F:List Fz)(L:Int)(i:Nat)(s p:Int)(x:Fz)(hi:i<F.length)(hl:F.length<=1000)(hg:F[i]? = some x)(hx:fsz x<=30000)(hf:(Zby x:Int)<=L) :
  evX (orc T) T 1 l413_0 (Zi7 F L i s p)=some (.n,Zi7 F L (i+1) (Zbg s) (Zbn p x)):=by
 have ht:=zei (T:=T) s p L x hx;rw[decide_eq_true hf]at ht;have hws:=zbc hi (by omega);have hge:=(Yb.1 hg).2;have hi':(i:Int)<F.length:=by omega
 generalize Zbg s=s' at *
 generalize Zbn p x=p' at *
 unfold Zi7;simp -implicitDefEqProofs[l413_0,hi,hi',hg,hge,hws,ht]
def zaer(F:List Fz)(L:Int)(i:Nat)(s p:Int)(x:Fz)(hi:i<F.length)(hl:F.length<=1000)(hg:F[i]? = some x)(hx:fsz x<=30000)(hf:¬ (Zby x:Int)<=L) :
  evX (orc T) T 1 l413_0 (Zi7 F L i s p)=some (.r,⟨[(4,.i .i64 i),(5,.b false)],[(.bor 0,bxG 0 (Zbg s) (Zbn p x) L)],4⟩):=by
 have ht:=zei (T:=T) s p L x hx;rw[decide_eq_false hf]at ht;have hge:=(Yb.1 hg).2;have hi':(i:Int)<F.length:=by omega
 generalize Zbg s=s' at *
 generalize Zbn p x=p' at *
 unfold Zi7;simp -implicitDefEqProofs[l413_0,hi,hi',hg,hge,ht]
def zaes(F:List Fz)(L s p:Int):Ze6 (evX (orc T) T 1 l413_0 (Zi7 F L F.length s p))=true /\
  Zdw 1 0 (.norm false [1]) (evX (orc T) T 1 l413_0 (Zi7 F L F.length s p))=some (.n,⟨[(1,.sl (Zc F) .an)],[(.bor 0,bxG 0 s p L)],4⟩):=by
 unfold Zi7;constructor<;>simp -implicitDefEqProofs[l413_0]
def zaet(i s p L:Int):Zdw 1 0 (.norm false [1]) (some (.r,(⟨[(4,.i .i64 i),(5,.b false)],[(.bor 0,bxG 0 s p L)],4⟩:St)))=some (.r,⟨[(4,.i .i64 i),(5,.b false)],[(.bor 0,bxG 0 s p L)],4⟩):=by
 simp -implicitDefEqProofs
def z79(qs:List Rat)(L:Nat)(hl:qs.length<=1000)(hw:∀q∈qs,sz q<=30000)(s p:Int) :
  ∃r,(∃s' p':Int,(Zc2 L qs 0=none/\r=(Ex.n,(⟨[(1,.sl (Zc (fzs qs)) .an)],[(.bor 0,bxG 0 s' p' L)],4⟩:St)))\/(∃k:Nat,Zc2 L qs 0=some k/\r=(.r,⟨[(4,.i .i64 k),(5,.b false)],[(.bor 0,bxG 0 s' p' L)],4⟩))) /\
   Zx T 1 0 (.norm false [1]) l413_0 (Zi7 (fzs qs) L 0 s p)=some r:=by
 refine zay (fun x:Nat×Int×Int=>Zi7 (fzs qs) L x.1 x.2.1 x.2.2) (fun x=>x.1<=qs.length/\Zc2 L (qs.drop x.1) x.1=Zc2 L qs 0) (fun x=>qs.length-x.1) _ ?_ (0,s,p) ⟨Yx _,rfl⟩
 rintro⟨i,s,p⟩ ⟨hi,hf⟩
 dsimp only at *
 have hfl:(fzs qs).length=qs.length:=zaf _;by_cases hlt:i<qs.length
 ·have hd:qs.drop i=qs[i]::qs.drop (i+1):=Yo hlt;have hg:(fzs qs)[i]? = some (fz qs[i]):=by simp[fzs,hlt]
  have hs:fsz (fz qs[i])<=30000:=hw _ (Y7 hlt);rw[hd,Zc2]at hf;by_cases hb:L<Zbl qs[i]
  ·right;rw[if_pos hb]at hf;have e:=zaer (T:=T) (fzs qs) L i s p _ (by omega) (by omega) hg hs (by unfold Zbl at hb;omega);refine⟨_,⟨Zbg s,Zbn p (fz qs[i]),.inr ⟨i,hf.symm,rfl⟩⟩,by rw[e];rfl,by rw[e,zaet]⟩
  ·left;rw[if_neg hb]at hf;exact⟨(i+1,Zbg s,Zbn p (fz qs[i])),⟨by dsimp only;omega,hf⟩,by dsimp only;omega,zaor (T:=T) (fzs qs) L i s p _ (by omega) (by omega) hg hs (by unfold Zbl at hb;omega)⟩
 ·right;have:i=qs.length:=by omega
  subst this;rw[Yaf,Zc2]at hf;have e:=zaes (T:=T) (fzs qs) L s p;rw[hfl]at e;exact⟨_,⟨s,p,.inl ⟨hf.symm,rfl⟩⟩,e⟩
def zzl(qs:List Rat)(L:Nat)(hl:qs.length<=1000)(hw:∀q∈qs,sz q<=30000)(s p:Int) :
  ∃s' p':Int,Z1 T 413 [.ptr (.bor 0) 0 3 0 0,.sl (Zc (fzs qs)) .an] [(.bor 0,bxG 0 s p L)]=some (.tup [.i .i64 (match Zc2 L qs 0 with | some k=>(k:Int) | none=>(qs.length:Int)),.b (Zc2 L qs 0).isNone],[(.bor 0,bxG 0 s' p' L)]):=by
 obtain⟨r,⟨s',p',hr⟩,hloop⟩:=z79 (T:=T) qs L hl hw s p;refine⟨s',p',?_⟩;have hfl:(fzs qs).length=qs.length:=zaf _;rw[zad Z3.h413 rfl,b413];unfold Zi7 at hloop;simp only[Ym]at hloop;rcases hr with ⟨h,rfl⟩ | ⟨k,h,rfl⟩
 ·rw[h];rw[hfl]at hloop;generalize fzs qs=F at *
  simp -implicitDefEqProofs[hloop,hfl]
 ·rw[h];rw[hfl]at hloop;generalize fzs qs=F at *
  simp -implicitDefEqProofs[hloop,hfl]
end
abbrev fa1:BId:=.fld (.fld (.loc 20) 0) 8009
abbrev fa2:BId:=.fld (.fld (.loc 20) 0) 10009
abbrev fb1:BId:=.fld (.fld (.loc 50) 0) 8009
abbrev fb2:BId:=.fld (.fld (.loc 50) 0) 10009
abbrev z5:List AV:=[.b (fz 0).1,.sl (Zb (fz 0).2.1) .an,.sl (Zb (fz 0).2.2) .an,.bs fa1 4 3 0 0,.bs fa2 5 3 0 0]
abbrev bkX(n ny np:Nat)(b:Bk):Heap:=
 [(.loc 8,⟨1,.str,5,[[.b false,.sl [] .an,.sl [] .an,.sl [] .an,.sl [] .an]]⟩),(.loc 9,⟨2,.str,4,[[.i .i64 0,.i .i64 0,.i .i64 0,.i .i64 0]]⟩),
  (.loc 10,⟨3,.str,5,[z5]⟩),(fa1,⟨4,.own,3,[]⟩),(fa2,⟨5,.own,3,[]⟩),
  (.loc 52,⟨6,.str,11,[[.sl (Zcw b.t.code) .an,.sl (ints b.t.outs) .an,.i .i64 b.t.dim,.i .i64 b.t.par,.sl (Zc b.done) .an,.bs (.loc 45) 7 3 0 n,.b b.g.t.1,.sl (Zb b.g.t.2.1) .an,.sl (Zb b.g.t.2.2) .an,
   .bs fb1 8 3 0 ny,.bs fb2 9 3 0 np]]⟩),
  (.loc 45,⟨7,.own,3,Zc b.co⟩),(fb1,⟨8,.own,3,Zc b.g.y⟩),(fb2,⟨9,.own,3,Zc b.g.p⟩)]
def Zkb(n ny np:Nat)(W:List Fz)(bits:Int)(b:Bk)(i:Nat):St:=
 ⟨[(2,.sl (Zc W) .an),(3,.i .i64 bits),(8,.ptr (.loc 8) 1 5 0 0),(9,.ptr (.loc 9) 2 4 0 0),(10,.ptr (.loc 10) 3 5 0 0),(11,.sl (Zc b.done) .an),(13,.ptr (.loc 52) 6 11 0 0),
  (54,.sl (ints b.t.outs) .an),(55,.i .i64 b.t.outs.length),(56,.i .i64 i)],bkX n ny np b,11⟩
def Zi8(n ny np:Nat)(L:Int)(b:Bk)(i s p:Int):St:=
 ⟨[(8,.ptr (.loc 8) 1 5 0 0),(9,.ptr (.loc 9) 2 4 0 0),(10,.ptr (.loc 10) 3 5 0 0),(13,.ptr (.loc 52) 6 11 0 0),(16,.ptr (.fld (.loc 70) 7) 10 3 0 0),(17,.i .i64 i)],bkX n ny np b++[(.fld (.loc 70) 7,bxG 10 s p L)],12⟩
def Zkr(n ny np:Nat)(bits:Int)(b:Bk):Ex×St:=
 (.n,⟨[(3,.i .i64 bits),(8,.ptr (.loc 8) 1 5 0 0),(9,.ptr (.loc 9) 2 4 0 0),(10,.ptr (.loc 10) 3 5 0 0),(11,.sl (Zc b.done) .an),(13,.ptr (.loc 52) 6 11 0 0)],bkX n ny np b,11⟩)
def Zlm(n ny np:Nat)(L:Int)(b:Bk)(s p:Int):Ex×St:=
 (.n,⟨[(8,.ptr (.loc 8) 1 5 0 0),(9,.ptr (.loc 9) 2 4 0 0),(10,.ptr (.loc 10) 3 5 0 0),(13,.ptr (.loc 52) 6 11 0 0),(16,.ptr (.fld (.loc 70) 7) 10 3 0 0)],bkX n ny np b++[(.fld (.loc 70) 7,bxG 10 s p L)],12⟩)
def Zg7(i:Int):Ex×St:=
 (.r,⟨[(8,.ptr (.loc 8) 1 5 0 0),(9,.ptr (.loc 9) 4 4 0 0)],[(.loc 8,⟨1,.str,5,[[.b (fz 0).1,.sl (Zb (fz 0).2.1) .an,.sl (Zb (fz 0).2.2) .an,.bs fa1 2 3 0 0,.bs fa2 3 3 0 0]]⟩),(fa1,⟨2,.own,3,[]⟩),(fa2,⟨3,.own,3,[]⟩),
  (.loc 9,⟨4,.str,4,[[.i .i64 6,.i .i64 0,.i .i64 2,.i .i64 i]]⟩)],6⟩)
section
variable{T:Tbl}[Z2 T][Zr T][Zv T][Zw T][Zq T][Zo T][Ze T][Zh T][Zs T][Z0 T][Z5 T][Zbk T][Zaj T][Z9 T][Za5 T][Zb8 T][Z7 T][Zak T][Z3 T][Zai T]
def z3c(n ny np:Nat)(W:List Fz)(bits:Int)(b:Bk)(i k:Nat)(w:Fz)(hi:i<b.t.outs.length)(hl:b.t.outs.length<=1000)(hg:b.t.outs[i]? = some (k:Int))(hw:W[i]? = some w)(hn:b.co.length=n)(hk:k<n)
  (hx:∀x∈b.co,fsz x<=30000) (hc:fsz w<=30000) :
  evX (orc T) T 0 l397_0 (Zkb n ny np W bits b i)=some (.n,Zkb n ny np W bits { b with co:=Za1 b.co k (fv w) } (i+1)):=by
 have hs:=zdh (T:=T) n ny np b k w hn hk hx hc;have hws:=zbc hi (by omega);have hge:=(Yb.1 hg).2;obtain⟨hw1,hw2⟩:=Yb.1 hw;have hi':(i:Int)<b.t.outs.length:=by omega
 have hw1':(i:Int)<W.length:=by omega
 generalize Za1 b.co k (fv w)=C1 at *
 unfold Zkb;generalize fz 0=Z at *
 obtain⟨⟨code,outs,dim,par⟩,done,co,⟨⟨g0,g1,g2⟩,gy,gp⟩⟩:=b;dsimp only at *
 simp -implicitDefEqProofs[l397_0,hi,hi',hg,hge,hw,hw1,hw1',hw2,hws,hs]
def z3d(n ny np:Nat)(L:Int)(b b':Bk)(i:Nat)(s p:Int)(c:Fz)(hc:b.co[i]? = some c)(zc:fsz c<=29000)(hf:(Zby (fz (fv c)):Int)<=L)
  (ht:Z1 T 412 [bkP,.i .i64 i] (bkN n ny np b)=some (.tup [],bkN n ny np b')) (hn:b.co.length=n) (hn2:n<=1000) (ht1:b'.t=b.t) (ht2:b'.done=b.done) :
  evX (orc T) T 0 l397_1 (Zi8 n ny np L b i s p)=some (.n,Zi8 n ny np L b' ((i:Int)-1) (Zbg s) (Zbn p (fz (fv c)))):=by
 have cn:=zfo (T:=T) c (by omega);have zq:=zbd zc (by decide);have tk:=zei (T:=T) s p L (fz (fv c)) (by rw[zar];omega);rw[decide_eq_true hf]at tk;obtain⟨kc1,kc2⟩:=Yb.1 hc;have kc1':(i:Int)<n:=by omega
 have hw:IntKind.wrap .i64 ((i:Int)-1)=(i:Int)-1:=zab _ (by omega);generalize Zbg s=s' at *
 generalize Zbn p (fz (fv c))=p' at *
 generalize fz (fv c)=q at *
 unfold Zi8;generalize fz 0=Z at *
 obtain⟨⟨code,outs,dim,par⟩,done,co,⟨⟨g0,g1,g2⟩,gy,gp⟩⟩:=b;obtain⟨⟨code',outs',dim',par'⟩,done',co',⟨⟨g0',g1',g2'⟩,gy',gp'⟩⟩:=b';dsimp only at *
 cases ht1;subst ht2;simp -implicitDefEqProofs[l397_1,hc,kc1',kc2,cn,tk,ht,hw]
def z8a(n ny np:Nat)(L:Int)(b:Bk)(i:Nat)(s p:Int)(c:Fz)(hc:b.co[i]? = some c)(zc:fsz c<=29000)(hf:¬ (Zby (fz (fv c)):Int)<=L)(hn:b.co.length=n)(hn2:n<=1000) :
  evX (orc T) T 0 l397_1 (Zi8 n ny np L b i s p)=some (Zg7 i):=by
 have cn:=zfo (T:=T) c (by omega);have zq:=zbd zc (by decide);have tk:=zei (T:=T) s p L (fz (fv c)) (by rw[zar];omega);rw[decide_eq_false hf]at tk;obtain⟨kc1,kc2⟩:=Yb.1 hc;have kc1':(i:Int)<n:=by omega
 generalize Zbg s=s' at *
 generalize Zbn p (fz (fv c))=p' at *
 generalize fz (fv c)=q at *
 unfold Zi8 Zg7;obtain⟨⟨code,outs,dim,par⟩,done,co,⟨⟨g0,g1,g2⟩,gy,gp⟩⟩:=b;dsimp only at *
 simp -implicitDefEqProofs[l397_1,hc,kc1',kc2,cn,tk]
def zaeu(i:Int):Zdw 0 2 (.norm false [8,9,10,13,16]) (some (Zg7 i))=some (Zg7 i):=by
 unfold Zg7;simp -implicitDefEqProofs
def zaev(n ny np:Nat)(L:Int)(b:Bk)(s p:Int):Ze6 (evX (orc T) T 0 l397_1 (Zi8 n ny np L b (-1) s p))=true /\
  Zdw 0 2 (.norm false [8,9,10,13,16]) (evX (orc T) T 0 l397_1 (Zi8 n ny np L b (-1) s p))=some (Zlm n ny np L b s p):=by
 unfold Zi8 Zlm;generalize fz 0=Z at *
 obtain⟨⟨code,outs,dim,par⟩,done,co,⟨⟨g0,g1,g2⟩,gy,gp⟩⟩:=b;constructor<;>simp -implicitDefEqProofs[l397_1]
def zaew(n ny np:Nat)(W:List Fz)(bits:Int)(b:Bk):Ze6 (evX (orc T) T 0 l397_0 (Zkb n ny np W bits b b.t.outs.length))=true /\
  Zdw 0 0 (.norm false [3,8,9,10,11,13]) (evX (orc T) T 0 l397_0 (Zkb n ny np W bits b b.t.outs.length))=some (Zkr n ny np bits b):=by
 unfold Zkb Zkr;generalize fz 0=Z at *
 obtain⟨⟨code,outs,dim,par⟩,done,co,⟨⟨g0,g1,g2⟩,gy,gp⟩⟩:=b;constructor<;>simp -implicitDefEqProofs[l397_0]
end
def Zhl:List Int->List Fz->List Fz->List Fz
 | o::os,w::ws,co=>Zhl os ws (Za1 co o.toNat (fv w))
 | _,_,co=>co
theorem zzm:∀(os:List Int) (ws co:List Fz),(Zhl os ws co).map fv=Zds os (ws.map fv) (co.map fv)
 | [],_,_=>rfl
 | _::_,[],_=>rfl
 | o::os,w::ws,co=>by rw[Zhl,zzm os ws,z5w];rfl
def Zi9(co:List Fz):Prop:=∀u∈co,u=Zii\/u=fz (fv u)
def ziw{co:List Fz}(h:Zi9 co)(k:Nat)(q:Rat):Zi9 (Za1 co k q):=by
 intro u hu;rcases Yca hu with h2 | h2
 ·exact h u h2
 ·right;rw[h2,zbi]
def z3e{co:List Fz}(h:Zi9 co)(D:List Fz)(x:Ins)(r c:Rat):Zi9 (Zhw D x r c co):=by
 unfold Zhw
 repeat' split
 all_goals first
  | exact h
  | exact ziw h _ _
  | exact ziw (ziw h _ _) _ _
def z8b{co:List Fz}(h:Zi9 co){k:Nat}{u:Fz}(hu:co[k]? = some u):fsz u<=sz (fv u):=by
 rcases h u (Yd hu) with h2 | h2
 ·rw[h2];exact Yx _
 ·exact Ycp (by rw[<-zar,<-h2])
def z8c(l:List Rat)(i:Int)(q:Rat):Za1 (fzs l) i.toNat q=fzs (bmp l i q):=by
 have e:fv ((fzs l).getD i.toNat Zii)=gI l i:=by
  unfold gI fzs;rw[Yq,Yq,Yan];cases l[i.toNat]? with
  | none=>exact zzi
  | some x=>exact zbi x
 unfold Za1 bmp;rw[e];simp[fzs,Yco]
def zaex(x:Ins)(c:Rat)(g:Po):Zmx x c g.f=(Zeb x c g).f:=by
 unfold Zmx;by_cases h:c=0
 ·subst h;rw[if_pos rfl,z1s]
 ·rw[if_neg h];unfold Zeb Po.f
  repeat' split
  all_goals simp only[z8c,zbi]
def zzn{l:List Rat}{K S:Nat}(i:Int){q:Rat}(h:∀u∈l,sz u<=K)(h1:1<=K)(hq:sz q<=S):∀u∈bmp l i q,sz u<=K+S+1:=by
 intro u hu;rcases Yca hu with h2 | h2
 ·have:=h u h2;omega
 ·rw[h2];have h3:=zig (gI l i) q;have h4:=zc4 (a:=i) h1 h;omega
def z8d{g:Po}{K:Nat}(h:PvS g K)(h1:1<=K)(x:Ins){c:Rat}(hc:sz c<=129):PvS (Zeb x c g) (K+130):=by
 have up:PvS g (K+130):=⟨by have:=h.t;omega,fun q hq=>by have:=h.y q hq;omega,fun q hq=>by have:=h.p q hq;omega⟩;unfold Zeb
 repeat' split
 ·exact⟨by have:=zig g.t c;have:=h.t;dsimp only;omega,up.y,up.p⟩
 ·exact⟨up.t,fun q hq=>zzn x.a h.y h1 hc q hq,up.p⟩
 ·exact⟨up.t,up.y,fun q hq=>zzn x.a h.p h1 hc q hq⟩
 ·exact up
section
variable{T:Tbl}[Z2 T][Zr T][Zv T][Zw T][Zq T][Zo T][Ze T][Zh T][Zs T][Z0 T][Z5 T][Zbk T][Zaj T][Z9 T][Za5 T][Zb8 T][Z7 T][Zak T][Z3 T][Zai T]
def z8e(n ny np:Nat)(W:List Fz)(bits:Int)(b:Bk)(hn:b.co.length=n)(ho:∀o∈b.t.outs,0<=o/\o<n)(hwl:W.length=b.t.outs.length)(hol:b.t.outs.length<=6)(hw:∀u∈W,fsz u<=1000)(hz:∀u∈b.co,fsz u<=1)(hni:Zi9 b.co) :
  ∃co,co=Zhl b.t.outs W b.co/\co.length=n/\Zi9 co/\(∀u∈co,fsz u<=7000)/\Zx T 0 0 (.norm false [3,8,9,10,11,13]) l397_0 (Zkb n ny np W bits b 0)=some (Zkr n ny np bits { b with co:=co }):=by
 have:=zay (T:=T) (k:=0) (id:=0) (g2:=.norm false [3,8,9,10,11,13]) (c:=l397_0) (fun x:Nat×List Fz=>Zkb n ny np W bits { b with co:=x.2 } x.1)
  (fun x=>x.1<=b.t.outs.length/\x.2.length=n/\Zi9 x.2/\(∀u∈x.2,fsz u<=1+x.1*1002)/\Zhl (b.t.outs.drop x.1) (W.drop x.1) x.2=Zhl b.t.outs W b.co) (fun x=>b.t.outs.length-x.1)
  (fun r=>∃co,co=Zhl b.t.outs W b.co/\co.length=n/\Zi9 co/\(∀u∈co,fsz u<=7000)/\r=Zkr n ny np bits { b with co:=co }) ?_ (0,b.co) ⟨Yx _,hn,hni,fun u hu=>by have:=hz u hu;dsimp only;omega,rfl⟩
 ·obtain⟨r,⟨co,h1,h2,h3,h4,rfl⟩,h5⟩:=this;exact⟨co,h1,h2,h3,h4,h5⟩
 rintro⟨i,co⟩ ⟨hi,hcl,hnc,hsz,hF⟩
 dsimp only at *
 by_cases hlt:i<b.t.outs.length
 ·left;have hlw:i<W.length:=by omega
  obtain⟨o,hg⟩:∃o,b.t.outs[i]? = some o:=⟨_,Ya hlt⟩;obtain⟨w,hgw⟩:∃w,W[i]? = some w:=⟨_,Ya hlw⟩;have hd:b.t.outs.drop i=o::b.t.outs.drop (i+1):=by rw[Yo hlt,(Yb.1 hg).2]
  have hdw:W.drop i=w::W.drop (i+1):=by rw[Yo hlw,(Yb.1 hgw).2]
  obtain⟨o1,o2⟩:=ho _ (Yd hg);have zw:=hw _ (Yd hgw);rw[hd,hdw,Zhl]at hF;obtain⟨k,rfl⟩:∃k:Nat,o=k:=⟨o.toNat,by omega⟩;rw[Y0]at hF;have hb:i*1002<=6*1002:=Yaa _ (by omega);have e:=z3c (T:=T) n ny np W bits { b with co:=co } i k w hlt (by dsimp only;omega) hg hgw hcl (by omega) (fun u hu=>by have:=hsz u hu;omega) (by omega);refine⟨(i+1,Za1 co k (fv w)),⟨by dsimp only;omega,by simpa using hcl,ziw hnc _ _,fun u hu=>?_,hF⟩,by dsimp only;omega,e⟩;have h9:=zf9 (S:=1000) k hsz (by omega) (zbd zw (by decide)) u hu;show fsz u<=1+(i+1)*1002;rw[Nat.succ_mul];exact Ye h9 (by generalize i*1002=z;omega)
 ·right;have:i=b.t.outs.length:=by omega
  subst this;rw[Yaf,Zhl]at hF
  ·have hb:b.t.outs.length*1002<=6*1002:=Yaa _ (by omega);refine⟨_,⟨co,hF,hcl,hnc,fun u hu=>by have:=hsz u hu;omega,rfl⟩,zaew (T:=T) n ny np W bits { b with co:=co }⟩
  ·intro o os w ws h;cases h
def Zoo(n ny np L:Nat)(t:Tp)(D:List Fz)(R:(List Rat×Po)×Option Nat)(r:Ex×St):Prop:=
 (∃i,R.2=some i/\r=Zg7 (i:Nat))\/(R.2=none/\PvS R.1.2 3000/\R.1.2.y.length=ny/\R.1.2.p.length=np/\∃(co:List Fz) (s p:Int),r=Zlm n ny np L ⟨t,D,co,R.1.2.f⟩ s p)
def z8f(n ny np L:Nat)(t:Tp)(D co0:List Fz)(g0:Po)(ht:OkTp t)(hn:t.code.length=n)(hn2:n<=20)(hL:L<=4096)(hD:D.length=n)(hy:(ny:Int)=t.dim)(hp:(np:Int)=t.par)(zD:∀u∈D,fsz u<=129)
  (h1:co0.length=n) (h2:Zi9 co0) (h3:∀u∈co0,fsz u<=7000) (h4:PvS g0 1) (h5:g0.y.length=ny) (h6:g0.p.length=np) (s0 p0:Int) :
  ∃r,Zoo n ny np L t D (Zet L t.code (D.map fv) n (co0.map fv) g0) r/\Zx T 0 2 (.norm false [8,9,10,13,16]) l397_1 (Zi8 n ny np L ⟨t,D,co0,g0.f⟩ ((n:Int)-1) s0 p0)=some r:=by
 refine zay (T:=T) (k:=0) (id:=2) (g2:=.norm false [8,9,10,13,16]) (c:=l397_1) (fun x:Nat×List Fz×Po×Int×Int=>Zi8 n ny np L ⟨t,D,x.2.1,x.2.2.1.f⟩ ((x.1:Int)-1) x.2.2.2.1 x.2.2.2.2)
  (fun x=>x.1<=n/\x.2.1.length=n/\Zi9 x.2.1/\(∀u∈x.2.1,fsz u<=7000+(n-x.1)*1036)/\PvS x.2.2.1 (1+(n-x.1)*130)/\x.2.2.1.y.length=ny/\x.2.2.1.p.length=np/\Zet L t.code (D.map fv) x.1 (x.2.1.map fv) x.2.2.1=Zet L t.code (D.map fv) n (co0.map fv) g0) (fun x=>x.1)
  _ ?_ (n,co0,g0,s0,p0) ⟨Yh _,h1,h2,fun u hu=>by have:=h3 u hu;dsimp only;omega,by dsimp only;rw[Yb0,Yc2];exact h4,h5,h6,rfl⟩
 rintro⟨m,co,g,s,p⟩ ⟨hm,hcl,hnc,hsz,hgs,hgy,hgp,hR⟩
 dsimp only at *
 cases m with
 | zero=>
  right;have e:=zaev (T:=T) n ny np L ⟨t,D,co,g.f⟩ s p;rw[Zet]at hR;have em:((0:Nat):Int)-1=-1:=rfl;rw[em];refine⟨_,.inr ?_,e⟩;rw[<-hR];have hb:(n-0)*130<=20*130:=Yaa _ (by omega);have hP:PvS g 3000:=⟨by have:=hgs.t;omega,fun q hq=>by have:=hgs.y q hq;omega,fun q hq=>by have:=hgs.p q hq;omega⟩;exact⟨rfl,hP,hgy,hgp,co,s,p,rfl⟩
 | succ k=>
  have hk:k<n:=by omega
  have em:((k+1:Nat):Int)-1=k:=by omega
  obtain⟨c,hc⟩:∃c,co[k]? = some c:=⟨_,Ya (by omega)⟩;obtain⟨r,hr⟩:∃r,D[k]? = some r:=⟨_,Ya (by omega)⟩;obtain⟨x,hx⟩:∃x,t.code[k]? = some x:=⟨_,Ya (by omega)⟩;have hmay:=ht.may k x hx;have b1:(n-(k+1))*1036<=19*1036:=Yaa _ (by omega);have b2:(n-(k+1))*130<=19*130:=Yaa _ (by omega);have zc:=hsz c (Yd hc);have ec:gI (co.map fv) k=fv c:=zzk rfl hc;have er:gI (D.map fv) k=fv r:=zzk rfl hr;rw[em];rw[Zet,hx]at hR;dsimp only at hR;rw[ec,er]at hR;by_cases hf:L<Zbl (fv c)
  ·right;rw[if_pos hf]at hR;have e:=z8a (T:=T) n ny np L ⟨t,D,co,g.f⟩ k s p c hc (by omega) (by unfold Zbl at hf;omega) hcl (by omega);rw[e];refine⟨_,.inl ⟨k,?_,rfl⟩,rfl,zaeu k⟩;rw[<-hR]
  ·left;rw[if_neg hf]at hR;have zq:=ze8 (q:=fv c) (b:=L) (by omega);have zc9:=z8b hnc hc;have zr:=zD r (Yd hr);have th:=z3a (T:=T) n ny np ⟨t,D,co,g.f⟩ x k c r hx hmay hD hcl (by rw[<-hgy];exact zaf _) (by rw[<-hgp];exact zaf _) hy hp hc hr (by omega) zD (fun u hu=>by have:=hsz u hu;omega)
    (by show sz g.t<=_;have:=hgs.t;omega) (fun u hu=>by obtain⟨q,hq,rfl⟩:=Yu.1 hu;have:=hgs.y q hq;rw[zar];omega) (fun u hu=>by obtain⟨q,hq,rfl⟩:=Yu.1 hu;have:=hgs.p q hq;rw[zar];omega)
   dsimp only at th;rw[zaex]at th;have e:=z3d (T:=T) n ny np L ⟨t,D,co,g.f⟩ ⟨t,D,Zhw D x (fv r) (fv c) co,(Zeb x (fv c) g).f⟩ k s p c hc (by omega) (by unfold Zbl at hf;omega) th hcl (by omega) rfl rfl;refine⟨(k,Zhw D x (fv r) (fv c) co,Zeb x (fv c) g,Zbg s,Zbn p (fz (fv c))),⟨by dsimp only;omega,by simpa using hcl,z3e hnc _ _ _ _,fun u hu=>?_,?_,?_,?_,?_⟩,by dsimp only;omega,e⟩
   ·have h9:=z78 hmay zD (by omega) (zbd zr (by decide)) hsz (by omega) u hu;show fsz u<=7000+(n-k)*1036;rw[show n-k=n-(k+1)+1 by omega,Nat.succ_mul];exact Ye h9 (by generalize (n-(k+1))*1036=z;omega)
   ·have:=z8d hgs (by omega) x (c:=fv c) (by omega);dsimp only;rw[show n-k=n-(k+1)+1 by omega,Ybb,<-Yav];exact this
   ·exact(zfu _ _ _).1.trans hgy
   ·exact(zfu _ _ _).2.trans hgp
   ·dsimp only;rw[zaeq];exact hR
end
def zaey(n:Nat):wkL (List.replicate n [.b false,.sl [] .nl,.sl [] .nl])=Zc (List.replicate n Zii):=by
 rw[zav,Ya9];simp[Zc,wkR,wkA]
section
variable{T:Tbl}[Z2 T][Zr T][Zv T][Zw T][Zq T][Zo T][Ze T][Zh T][Zs T][Z0 T][Z5 T][Zbk T][Zaj T][Z9 T][Za5 T][Zb8 T][Z7 T][Zak T][Z3 T][Zbf T][Zgd T][Zai T]
def zix(d p:Int)(ny np:Nat)(h1:Za2 d=ny)(h2:Za2 p=np):Z1 T 2395 [.i .i64 d,.i .i64 p] []=some (.agg [.b (fz 0).1,.sl (Zb (fz 0).2.1) .an,.sl (Zb (fz 0).2.2) .an,.bs (.fld (.loc 7) 9) 1 3 0 ny,.bs (.fld (.loc 9) 9) 2 3 0 np],
  [(.fld (.loc 7) 9,⟨1,.own,3,Zc (List.replicate ny (fz 0))⟩),(.fld (.loc 9) 9,⟨2,.own,3,Zc (List.replicate np (fz 0))⟩)]):=by
 have:=zne (T:=T) d p;rw[h1,h2]at this;exact this
def zzo(t:Tp)(x:PoF)(w:List Fz)(bits:Int)(h:w.length≠t.outs.length):Za T 397 [etp t,ept x,.sl (Zc w) .an,.i .i64 bits]=some (.tup [ept (Za7 0 0).f,Zdg 2 0 0 0]):=by
 have hz:=zix (T:=T) 0 0 0 0 rfl rfl;have h':¬ (w.length:Int)=t.outs.length:=by omega
 have e:(Za7 0 0).f=⟨fz 0,[],[]⟩:=rfl;rw[e];generalize fz 0=Z at *
 obtain⟨code,outs,dim,par⟩:=t;obtain⟨⟨x0,x1,x2⟩,xy,xp⟩:=x;dsimp only at *
 rw[zaa Zai.h397 rfl,b397];simp -implicitDefEqProofs[hz,h']
def z3f(t:Tp)(x:PoF)(w:List Fz)(bits:Int)(h:w.length=t.outs.length)(D:List Fz)(k a:Nat)(hk:k≠0)(hr:Za T 384 [etp t,ept x,.i .i64 bits]=some (.tup [.sl (Zc D) .an,Zdg k 0 0 a])):Za T 397 [etp t,ept x,.sl (Zc w) .an,.i .i64 bits]=some (.tup [ept (Za7 0 0).f,Zdg k 0 0 a]):=by
 have hz:=zix (T:=T) 0 0 0 0 rfl rfl;have h':(w.length:Int)=t.outs.length:=by omega
 have hk':¬ (k:Int)=0:=by omega
 have e:(Za7 0 0).f=⟨fz 0,[],[]⟩:=rfl;rw[e];generalize fz 0=Z at *
 generalize (k:Int)=kk at *
 generalize (a:Int)=aa at *
 obtain⟨code,outs,dim,par⟩:=t;obtain⟨⟨x0,x1,x2⟩,xy,xp⟩:=x;dsimp only at *
 rw[zaa Zai.h397 rfl,b397];simp -implicitDefEqProofs[hz,h,hr,hk']
def Zmy(lim:Nat)(R:(List Rat×Po)×Option Nat):AV:=
 match R with
 | (_,some i)=>.tup [ept (Za7 0 0).f,Zdg 6 0 2 i]
 | (s,none)=>match Zc2 lim (Zh2 s.2) 0 with | some k=>.tup [ept (Za7 0 0).f,Zdg 6 0 3 k] | none=>.tup [ept s.2.f,Zdg 0 0 0 0]
def zzp(t:Tp)(x:PoF)(w:List Fz)(bits:Int)(D:List Rat)(hok:OkTp t)(hn2:t.code.length<=20)(hlen:w.length=t.outs.length)(hw:∀u∈w,fsz u<=1000)(hD:D.length=t.code.length)(zD:∀q∈D,sz q<=129)
  (hr:Za T 384 [etp t,ept x,.i .i64 bits]=some (.tup [.sl (Zc (fzs D)) .an,Zdg 0 0 0 0])) :
  Za T 397 [etp t,ept x,.sl (Zc w) .an,.i .i64 bits]=some (Zmy (Zj bits) (Zet (Zj bits) t.code D t.code.length (Zds t.outs (w.map fv) (List.replicate t.code.length 0)) (Za7 t.dim.toNat t.par.toNat))):=by
 obtain⟨hl1,hl2⟩:=zt7 bits;have hg:=zg2 (T:=T) bits;rw[hl1]at hg;have d1:=hok.d1;have d2:=hok.d2;have p1:=hok.p1;have p2:=hok.p2;have ol:=hok.ol;have hz:=zix (T:=T) 0 0 0 0 rfl rfl;have hz2:=zix (T:=T) t.dim t.par t.dim.toNat t.par.toNat (by unfold Za2;omega) (by unfold Za2;omega);have hM:∀dd clk,Zfl (orc T) T 2395 [.i .i64 t.dim,.i .i64 t.par] dd clk=Zhv (Z1 T 2395 [.i .i64 t.dim,.i .i64 t.par] []) dd clk:=fun dd clk=>zzd Zai.h2395 rfl;have hyd:((t.dim.toNat:Nat):Int)=t.dim:=by omega
 have hpd:((t.par.toNat:Nat):Int)=t.par:=by omega
 have hZ:=zaey t.code.length;have hFD:(fzs D).length=t.code.length:=by rw[zaf,hD]
 have hcl:(t.code.length:Int)<=4294967296:=by omega
 have hw1:IntKind.wrap .i64 ((t.code.length:Int)-1)=(t.code.length:Int)-1:=zab _ (by omega);obtain⟨co,hco,hco1,hco2,hco3,hsd⟩:=z8e (T:=T) t.code.length t.dim.toNat t.par.toNat w bits ⟨t,fzs D,List.replicate t.code.length Zii,(Za7 t.dim.toNat t.par.toNat).f⟩ (by simp) hok.outs hlen (by show t.outs.length<=6;omega) hw
  (fun u hu=>by rw[Yaz hu];exact Yx _) (fun u hu=>.inl (Yaz hu))
 have hnz:PvS (Za7 t.dim.toNat t.par.toNat) 1:=⟨Ycp zd6,fun q hq=>by rw[Yaz hq];exact Ycp zd6,fun q hq=>by rw[Yaz hq];exact Ycp zd6⟩;obtain⟨r,hr1,hbk⟩:=z8f (T:=T) t.code.length t.dim.toNat t.par.toNat (Zj bits) t (fzs D) co (Za7 t.dim.toNat t.par.toNat) hok rfl hn2 hl2 hFD hyd hpd
  (fun u hu=>by obtain⟨q,hq,rfl⟩:=Yu.1 hu;exact zD q hq) hco1 hco2 hco3 hnz (by simp[Za7]) (by simp[Za7]) 0 0
 have e1:(fzs D).map fv=D:=by simp[fzs,Function.comp_def]
 have e2:co.map fv=Zds t.outs (w.map fv) (List.replicate t.code.length 0):=by
  rw[hco,zzm,Ya9,zzi]
 rw[e1,e2]at hr1;generalize Zet (Zj bits) t.code D t.code.length (Zds t.outs (w.map fv) (List.replicate t.code.length 0)) (Za7 t.dim.toNat t.par.toNat)=R at *
 have ez:(Za7 t.dim.toNat t.par.toNat).f=⟨fz 0,List.replicate t.dim.toNat (fz 0),List.replicate t.par.toNat (fz 0)⟩:=by simp[Za7,Po.f,fzs]
 have ez0:(Za7 0 0).f=⟨fz 0,[],[]⟩:=rfl;rw[ez]at hsd hbk;unfold Zkb Zkr at hsd;unfold Zi8 at hbk;simp only[bkX,Ybj,Yal]at hbk;simp only[Ym]at hsd;unfold Zmy;rw[ez0];have hne:(Za7 t.dim.toNat t.par.toNat).y.length=t.dim.toNat:=by simp[Za7]
 clear hnz hok hw hD zD hco hco1 hco2 hco3 e1 e2 hl1 hl2 ez ez0 hne;generalize hny:t.dim.toNat=ny at *
 generalize hnp:t.par.toNat=np at *
 generalize hnn:t.code.length=n at *
 generalize fzs D=DD at *
 have hlen':(w.length:Int)=t.outs.length:=by omega
 rcases hr1 with ⟨i,hi,rfl⟩ | ⟨hi,hP,hy,hp,co',s',p',rfl⟩
 ·obtain⟨s,o⟩:=R;dsimp only at hi;subst hi;dsimp only;unfold Zg7 at hbk;generalize (i:Int)=ii at *
  obtain⟨code,outs,dim,par⟩:=t;obtain⟨⟨x0,x1,x2⟩,xy,xp⟩:=x;dsimp only at *
  rw[zaa Zai.h397 rfl,b397];simp -implicitDefEqProofs[hz,hz2,hM,hlen,hlen',hr,hFD,hZ,hcl,hg,hw1,hsd,hbk]
 ·obtain⟨⟨cq,g⟩,o⟩:=R;dsimp only at hi hP hy hp hbk;subst hi;dsimp only;have ca:=z3b (T:=T) g.f (by
   intro h;have h9:(fzs g.y).length=0:=by rw[show fzs g.y=[] from h];rfl
   rw[zaf]at h9;omega) (by show (fzs g.y).length<=1000;rw[zaf];omega) (by show (fzs g.p).length<=1000;rw[zaf];omega)
  obtain⟨s2,p2',cr⟩:=zzl (T:=T) (Zh2 g) (Zj bits) (by unfold Zh2;simp;omega) (fun q hq=>by
   unfold Zh2 at hq;rcases Yw.1 hq with rfl | hq
   ·have:=hP.t;omega
   ·rcases Y6.1 hq with hq | hq
    ·have:=hP.y q hq;omega
    ·have:=hP.p q hq;omega) s' p'
  have ef:fzs (Zh2 g)=g.f.t::(g.f.y++g.f.p):=by unfold Zh2 Po.f fzs;simp
  rw[ef]at cr;generalize g.f.t::(g.f.y++g.f.p)=AL at *
  unfold Zlm at hbk;simp only[bkX,Ybj,Yal]at hbk;have hfy:g.f.y.length=ny:=by rw[<-hy];exact zaf _
  have hfp:g.f.p.length=np:=by rw[<-hp];exact zaf _
  clear hP hy hp ef;generalize g.f=gf at *
  generalize ((Zh2 g).length:Int)=al at *
  have hty:List.take ny gf.y=gf.y:=Yc (by omega);have htp:List.take np gf.p=gf.p:=Yc (by omega);cases hf:Zc2 (Zj bits) (Zh2 g) 0 with
  | some k=>
   rw[hf]at cr;dsimp only[Option.isNone]at cr ⊢;generalize (k:Int)=kk at *
   obtain⟨code,outs,dim,par⟩:=t;obtain⟨⟨x0,x1,x2⟩,xy,xp⟩:=x;obtain⟨⟨f0,f1,f2⟩,fy,fp⟩:=gf;dsimp only at *
   rw[zaa Zai.h397 rfl,b397];simp -implicitDefEqProofs[hz,hz2,hM,hlen,hlen',hr,hFD,hZ,hcl,hg,hw1,hsd,hbk,ca,cr,hfy,hfp,hty,htp]
  | none=>
   rw[hf]at cr;dsimp only[Option.isNone]at cr ⊢;obtain⟨code,outs,dim,par⟩:=t;obtain⟨⟨x0,x1,x2⟩,xy,xp⟩:=x;obtain⟨⟨f0,f1,f2⟩,fy,fp⟩:=gf;dsimp only at *
   rw[zaa Zai.h397 rfl,b397];simp -implicitDefEqProofs[hz,hz2,hM,hlen,hlen',hr,hFD,hZ,hcl,hg,hw1,hsd,hbk,ca,cr,hfy,hfp,hty,htp]
def zzq(t:Tp)(x:PoF)(w:List Fz)(bits:Int)(hs:TpS t)(hx:PoS x 1000)(hc:t.code.length<=20)(hw:∀u∈w,fsz u<=1000) :
  Za T 397 [etp t,ept x,.sl (Zc w) .an,.i .i64 bits]=some (.tup [ept (Zb4 (Zj bits) t x.v (w.map fv)).1.f,Zdg (Zb4 (Zj bits) t x.v (w.map fv)).2.1 0 (Zb4 (Zj bits) t x.v (w.map fv)).2.2.1 (Zb4 (Zj bits) t x.v (w.map fv)).2.2.2]):=by
 have hr:=z4h (T:=T) t x bits hs hx;have hlim:=(zt7 bits).2;unfold Zb4;rw[Y3];by_cases h1:w.length≠t.outs.length
 ·rw[if_pos h1];exact zzo (T:=T) t x w bits h1
 ·rw[if_neg h1];have h1':w.length=t.outs.length:=by omega
  by_cases hk:(Za8 (Zj bits) t x.v).2.1≠0
  ·rw[if_pos hk];exact z3f (T:=T) t x w bits h1' _ _ _ hk hr
  ·rw[if_neg hk];have hk':(Za8 (Zj bits) t x.v).2.1=0:=by omega
   have hf:Zfu t x.v.y.length x.v.p.length=true:=by
    cases hf:Zfu t x.v.y.length x.v.p.length with
    | true=>rfl
    | false=>unfold Za8 at hk';rw[hf]at hk';simp at hk'
   have e1:Za8 (Zj bits) t x.v=Zbb (Zj bits) x.v t.code []:=by unfold Za8;rw[if_pos hf]
   rw[e1]at hr hk' ⊢;obtain⟨e2,E,e3,e4⟩:=zh9 _ _ _ _ hk';rw[hk',e2]at hr;have hg:=zzp (T:=T) t x w bits _ (zc0 hf).1 hc h1' hw (by rw[e3];simpa using e4) (z09 hlim _ _ (by simp)) hr;rw[hg];generalize Zet (Zj bits) t.code (Zbb (Zj bits) x.v t.code []).1 t.code.length (Zds t.outs (w.map fv) (List.replicate t.code.length 0)) (Za7 t.dim.toNat t.par.toNat)=R;obtain⟨s,o⟩:=R;unfold Zmy;cases o with
   | some i=>rfl
   | none=>
    dsimp only;cases Zc2 (Zj bits) (Zh2 s.2) 0 with
    | some k=>rfl
    | none=>rfl
end
structure JcF where
 t:List Fz
 y:List (List Fz)
 p:List (List Fz)
abbrev Zla(j:JcF):AV:=.agg [.sl (Zc j.t) .an,.sl (Z4 j.y) .an,.sl (Z4 j.p) .an]
abbrev Zl1(x:PoF):List AV:=[.b x.t.1,.sl (Zb x.t.2.1) .an,.sl (Zb x.t.2.2) .an,.sl (Zc x.y) .an,.sl (Zc x.p) .an]
def rowP(l:List PoF):List (List AV):=l.map Zl1
@[simp] def zafs{f:Nat}{x:AV}{h:Heap}{clk:Nat}:Zmk f x h clk=if noRef x=true then some (.fnv f x,h,clk) else none:=rfl
@[simp] def z87(l:List PoF):(rowP l).length=l.length:=by simp[rowP]
@[simp] def z88(l:List PoF):wkL (rowP l)=rowP l:=by rw[zav];simp[rowP,wkR,wkA]
@[simp] def zajl(l:List PoF)(i:Nat)(h:i<(rowP l).length):(rowP l)[i]=Zl1 (l[i]'(by simpa using h)):=by simp[rowP]
def z1a(l:List PoF)(x:PoF):rowP l++[Zl1 x]=rowP (l++[x]):=by simp[rowP]
@[simp] def zaft(l:List PoF)(n:Nat):(rowP l).take n=rowP (l.take n):=by simp[rowP]
@[simp] def z4i:rowP []=[]:=rfl
def z1b{m:List PoF}{n:Nat}(h:m.length=n)(x:PoF):wkL (rowP (List.take n m)++[Zl1 x])=rowP (m++[x]):=by
 rw[Yc (by omega),z1a,z88]
abbrev epl(t:Tp)(x:PoF)(bits:Int):AV:=.agg [.sl (Zcw t.code) .an,.sl (ints t.outs) .an,.i .i64 t.dim,.i .i64 t.par,.b x.t.1,.sl (Zb x.t.2.1) .an,.sl (Zb x.t.2.2) .an,.sl (Zc x.y) .an,.sl (Zc x.p) .an,.i .i64 bits]
def Zb5{α:Type}(F:Nat->α×Nat×Nat×Nat):Nat->Nat->List α->List α×Nat×Nat×Nat
 | 0,_,acc=>(acc,0,0,0)
 | n+1,i,acc=>if (F i).2.1=0 then Zb5 F n (i+1) (acc++[(F i).1]) else ([],(F i).2)
theorem zgc{α:Type}(F:Nat->α×Nat×Nat×Nat):∀(n i:Nat) (acc:List α),(Zb5 F n i acc).2.1=0->(Zb5 F n i acc).1=acc++(List.range n).map (fun k=>(F (i+k)).1)/\(Zb5 F n i acc).2.2=(0,0)/\∀k,k<n->(F (i+k)).2.1=0
 | 0,i,acc,_=>⟨by simp[Zb5],rfl,fun k hk=>by omega⟩
 | n+1,i,acc,h=>by
  rw[Zb5]at h ⊢;by_cases hk:(F i).2.1=0
  ·rw[if_pos hk]at h ⊢;obtain⟨h1,h2,h3⟩:=zgc F n (i+1) _ h;refine⟨?_,h2,fun k hkn=>?_⟩
   ·rw[h1,Yej,Y9,Ybo,Yz,List.singleton_append];congr 2;refine Yds fun k _=>?_;show (F (i+1+k)).1=(F (i+(k+1))).1;rw[show i+1+k=i+(k+1) by omega]
   ·cases k with
    | zero=>exact hk
    | succ k=>rw[show i+(k+1)=i+1+k by omega];exact h3 k (by omega)
  ·rw[if_neg hk]at h;exact absurd h hk
theorem znj{α:Type}(F:Nat->α×Nat×Nat×Nat):∀(n i:Nat) (acc:List α),¬ (Zb5 F n i acc).2.1=0->(Zb5 F n i acc).1=[]
 | 0,i,acc,h=>absurd rfl h
 | n+1,i,acc,h=>by
  rw[Zb5]at h ⊢;by_cases hk:(F i).2.1=0
  ·rw[if_pos hk]at h ⊢;exact znj F n (i+1) _ h
  ·rw[if_neg hk]
def Zl2(T:Tbl)(X:AV)(n i:Nat)(acc:List PoF):St:=
 ⟨[(1,.fnv (Zf T 500416) X),(5,.ptr (.loc 5) 1 4 0 0),(6,.bs (.loc 6) 2 5 0 i),(10,.i .i64 n),(11,.i .i64 i)],[(.loc 5,bxF 1 0 0 0 0),(.loc 6,⟨2,.own,5,rowP acc⟩)],4⟩
def Zk0(R:List PoF×Nat×Nat×Nat)(n:Nat):Ex×St:=
 if R.2.1=0 then (.n,⟨[(5,.ptr (.loc 5) 1 4 0 0),(6,.bs (.loc 6) 2 5 0 n)],[(.loc 5,bxF 1 0 0 0 0),(.loc 6,⟨2,.own,5,rowP R.1⟩)],4⟩)
 else (.r,⟨[(4,.sl [] .an),(5,.ptr (.loc 5) 1 4 0 0)],[(.loc 5,bxF 1 R.2.1 0 R.2.2.1 R.2.2.2)],3⟩)
section
variable{T:Tbl}[Z2 T][Zr T][Zv T][Zw T][Zq T][Zo T][Ze T][Zh T][Zs T][Z0 T][Z5 T][Zbk T][Z7 T][Z3 T][Zak T][Zbf T][Zgd T][Zaj T][Z9 T][Za5 T][Zb8 T][Zai T][Zal T][Ze7 T][Ze8 T]
def zsc(t:Tp)(q:PoF)(bits:Int)(n:Nat)(hn:n<=1000)(F:Nat->PoF×Nat×Nat×Nat)(c:∀i:Nat,i<n->Za T 416 [epl t q bits,.i .i64 i]=some (.tup [ept (F i).1,Zdg (F i).2.1 0 (F i).2.2.1 (F i).2.2.2]))
  (h0:∀i:Nat,i<n->(F i).2.1=0->(F i).2.2=(0,0)) :
  Zx T 0 0 (.norm false [5,6]) l415_0 (Zl2 T (epl t q bits) n 0 [])=some (Zk0 (Zb5 F n 0 []) n):=by
 have key:=zbg (T:=T) (k:=0) (id:=0) (g2:=.norm false [5,6]) (c:=l415_0) (fun x:Nat×List PoF=>Zl2 T (epl t q bits) n x.1 x.2)
  (fun x=>x.1<=n/\x.2.length=x.1) (fun x=>n-x.1)
  (fun x=>some (Zk0 (Zb5 F (n-x.1) x.1 x.2) n)) ?_ (0,[]) ⟨Yx _,rfl⟩
 ·exact key
 rintro⟨i,acc⟩ ⟨hi,hal⟩
 obtain⟨code,outs,dim,par⟩:=t;obtain⟨⟨q0,q1,q2⟩,qy,qp⟩:=q;dsimp only at *
 by_cases hlt:i<n
 ·have ci:=c i hlt;have hi':(i:Int)<n:=by omega
  have hws:=zbc hlt (by omega);have hb:i<=4294967295:=by omega
  have ht:List.take i acc=acc:=Yc (by omega);obtain⟨m,hm⟩:∃m,n-i=m+1:=⟨n-i-1,by omega⟩;rw[hm,Zb5];by_cases hk:(F i).2.1=0
  ·left;have h00:=h0 i hlt hk;refine⟨(i+1,acc++[(F i).1]),⟨by omega,by simp[hal]⟩,by dsimp only;omega,?_,?_⟩
   ·rw[hk,h00]at ci;have hp:=z1b hal (F i).1;rw[ht]at hp;generalize (F i).1=G at *
    obtain⟨⟨g0,g1,g2⟩,gy,gp⟩:=G;unfold Zl2;simp -implicitDefEqProofs[l415_0,hi',hlt,hws,ci,hp,ht,hal,hb]
   ·rw[if_pos hk,show n-(i+1)=m by omega]
  ·right;have hk':¬ (((F i).2.1:Nat):Int)=0:=by omega
   rw[if_neg hk];unfold Zl2 Zk0;dsimp only;rw[if_neg hk];generalize (((F i).2.1:Nat):Int)=kk at *
   generalize (((F i).2.2.1:Nat):Int)=ss at *
   generalize (((F i).2.2.2:Nat):Int)=aa at *
   generalize (F i).1=G at *
   obtain⟨⟨g0,g1,g2⟩,gy,gp⟩:=G;constructor<;>simp -implicitDefEqProofs[l415_0,hi',hlt,ci,hk']
 ·right;have e:i=n:=by omega
  subst e;have ht:List.take i acc=acc:=Yc (by omega);rw[Yb0,Zb5];unfold Zl2 Zk0;rw[if_pos rfl];constructor<;>simp -implicitDefEqProofs[l415_0]
end
class Zoe (T:Tbl):Prop where
class Zpg (T:Tbl):Prop where
class Zpl (T:Tbl):Prop where
def prim344:List AV->Option AV
 | [.s s,.s [47,46]]=>if s.length<=1000000 then some (.i .i64 (Lib.indexAny s [47,46])) else none
 | _=>none
def prim194:List AV->Option AV
 | [.s s,.s [c]]=>some (.i .i64 (Lib.indexByte s c))
 | _=>none
def prim361:List AV->Option AV
 | [.s s,.s [c]]=>some (.i .i64 (Lib.countByte s c))
 | _=>none
def prim343:List AV->Option AV
 | [.s [48],.i .i64 n]=>if 0<=n/\n<=64 then some (.s (List.replicate n.toNat 48)) else none
 | _=>none
class Zon (T:Tbl):Prop where
class Zmw (T:Tbl):Prop where
def Zlc(c:UInt8):List UInt8->List (List UInt8)
 | []=>[[]]
 | b::l=>if b=c then []::Zlc c l else match Zlc c l with
  | []=>[[b]]
  | p::r=>(b::p)::r
section
variable{T:Tbl}[Zon T][Zmw T]
def Ztk(c:UInt8)(N:Nat)(ps:List (List UInt8))(s:List UInt8):St:=
 ⟨[(0,.s s),(1,.s [c]),(2,.i .i64 0),(3,.i .i64 ((N:Int)-1)),(9,.bs (.loc 31) 1 1 0 N),(10,.i .i64 ps.length)],[(.loc 31,⟨1,.own,1,Zcu ps++List.replicate (N-ps.length) [.s []]⟩)],3⟩
end
abbrev flt(k a:Int):AV:=.agg [.i .i64 k,.i .i64 0,.i .i64 0,.i .i64 a]
def Zn1(c:UInt8):Bool:=c == 47 || c == 46
def Zm2:List UInt8->Nat
 | []=>0
 | c::r=>if Zn1 c then 0 else Zm2 r+1
def Zpt(z:Int)(neg:Bool)(s:List UInt8)(c:UInt8)(at_:Nat):Rat×Int×Int:=
 let rest:=s.drop at_
 if 0<=Zlf rest then (0,1,Zlf rest+at_)
 else if c=47 then (if rd rest=0 then (0,2,at_) else (mkRat z (rd rest),0,0))
 else (mkRat (sg neg (z.natAbs*10^rest.length+rd rest)) (10^rest.length),0,0)
def Znn(s:List UInt8):Rat×Int×Int:=
 let first:=s.take (Zm2 s)
 if 0<=Znb first then (0,1,Znb first+Zo3 first)
 else if Zm2 s<s.length then Zpt (Zn4 first) (s.head? = some 45) s (s.getD (Zm2 s) 0) (Zm2 s+1)
 else (mkRat (Zn4 first) 1,0,0)
def Zn2:List (List UInt8)->Nat->List Rat->List Rat×Int×Int
 | [],_,acc=>(acc,0,0)
 | w::ws,k,acc=>if (Znn w).2.1=0 then Zn2 ws (k+w.length+1) (acc++[(Znn w).1]) else ([],(Znn w).2.1,(Znn w).2.2+k)
def Zr9(s:List UInt8):List Rat×Int×Int:=if s=[] then ([],0,0) else Zn2 (Zlc 44 s) 0 []
section
variable{T:Tbl}[Z2 T][Zr T][Zv T][Zw T][Zq T][Zo T][Zaj T][Z9 T][Ze T][Zh T][Zs T][Zbv T][Zon T][Zmw T][Zbk T][Zpl T][Za5 T][Zb8 T][Zny T]
def Zsa(ws:List (List UInt8))(y:Nat×Nat×List Rat):St:=
 ⟨[(3,.ptr (.loc 3) 1 4 0 0),(4,.bs (.loc 4) 2 3 0 y.2.2.length),(5,.i .i64 y.2.1),(14,.sl (Zcu ws) .an),(15,.i .i64 ws.length),(16,.i .i64 y.1)],
  [(.loc 3,⟨1,.str,4,[[.i .i64 0,.i .i64 0,.i .i64 0,.i .i64 0]]⟩),(.loc 4,⟨2,.own,3,Zc (fzs y.2.2)⟩)],4⟩
def Zqu(r:List Rat×Int×Int):Option (Ex×St):=
 if r.2.1=0 then some (.n,⟨[(3,.ptr (.loc 3) 1 4 0 0),(4,.bs (.loc 4) 2 3 0 r.1.length)],[(.loc 3,⟨1,.str,4,[[.i .i64 0,.i .i64 0,.i .i64 0,.i .i64 0]]⟩),(.loc 4,⟨2,.own,3,Zc (fzs r.1)⟩)],4⟩)
 else some (.r,⟨[(2,.sl [] .an),(3,.ptr (.loc 3) 1 4 0 0)],[(.loc 3,⟨1,.str,4,[[.i .i64 r.2.1,.i .i64 0,.i .i64 0,.i .i64 r.2.2]]⟩)],3⟩)
end
end Go.Ab
section
namespace Go.Ab
end Go.Ab
end
namespace Go.Ab
def Zq1(t:Tp)(many words:Nat):Bool:=((t.code.take many).any fun i=>decide (words<fsz i.n)) || decide (many<t.code.length) || decide (many<t.outs.length)
def Zie(x:PoF)(many words:Nat):Bool:=decide (words<fsz x.t) || Zgj x.y many words || Zgj x.p many words
def zr4{x:PoF}{many words:Nat}(h:Zie x many words=false)(hm:many<=1000):PoS x words:=by
 unfold Zie at h;simp only[Ycx,decide_eq_false_iff_not]at h;obtain⟨⟨h1,h2⟩,h3⟩:=h;obtain⟨a1,a2⟩:=zek h2;obtain⟨b1,b2⟩:=zek h3;exact⟨by omega,a2,b2,by omega,by omega⟩
section
variable{T:Tbl}[Zb1 T][Zb2 T][Zbm T][Zb3 T][Zc7 T][Zdf T][Zc0 T][Zc1 T][Zd6 T][Zd7 T][Zd8 T]
def Zsb(t:Tp)(many words i:Nat):St:=⟨[(1,.i .i64 many),(2,.i .i64 words),(3,.ptr (.loc 3) 1 4 0 0),(7,.i .i64 i)],[(.loc 3,bxT t)],3⟩
def Zsc(t:Tp)(many:Nat):Ex×St:=(.n,⟨[(1,.i .i64 many),(3,.ptr (.loc 3) 1 4 0 0)],[(.loc 3,bxT t)],3⟩)
def zwd(x:PoF)(many words:Nat)(hm:many<=1000):Za T 380 [ept x,.i .i64 many,.i .i64 words]=some (.b (Zie x many words)):=by
 have c1:=zhz (T:=T) x.t words;have c2:=zko (T:=T) x.y many words hm;have c3:=zko (T:=T) x.p many words hm;unfold Zie;generalize decide (words<fsz x.t)=B1 at *
 generalize Zgj x.y many words=B2 at *
 generalize Zgj x.p many words=B3 at *
 obtain⟨⟨n,a,d⟩,y,p⟩:=x;dsimp only at *
 rw[zaa Zd8.h380 rfl,b380];cases B1<;>cases B2<;>simp -implicitDefEqProofs[c1,c2,c3]
def z3r(x:PoF)(hy:x.y.length<=1000)(hp:x.p.length<=1000):Za T 383 [ept x]=some (ept x):=by
 have c1:=zty (T:=T) x.t;have c2:=ztz (T:=T) x.y (by omega);have c3:=ztz (T:=T) x.p (by omega);obtain⟨⟨n,a,d⟩,y,p⟩:=x;dsimp only at *
 rw[zaa Zd8.h383 rfl,b383];simp -implicitDefEqProofs[c1,c2,c3]
@[simp] def zaos(l:List Int):Option.all (fun r=>decide (r.length=1)) (ints l).head? = true:=by cases l<;>rfl
def fC:BId:=.fld (.loc 3) 0
def Zsd(t:Tp)(i:Nat):St:=⟨[(1,.ptr (.loc 1) 1 4 0 0),(2,.ptr (.loc 2) 2 4 0 0),(3,.ptr (.loc 3) 3 4 0 0),(4,.i .i64 i)],
 [(.loc 1,bxT t),(.loc 2,⟨2,.str,4,[[.sl [] .an,.sl [] .an,.i .i64 0,.i .i64 0]]⟩),(.loc 3,⟨3,.str,4,[[.bs fC 4 6 0 i,.bs (.loc 13) 5 1 0 t.outs.length,.i .i64 t.dim,.i .i64 t.par]]⟩),(fC,⟨4,.own,6,Zcw (t.code.take i)⟩),(.loc 13,⟨5,.own,1,ints t.outs⟩)],7⟩
end
class Zod (T:Tbl):Prop where
def Zq2(t:Tp)(n:Nat):Tp:=⟨t.code.take n,List.replicate t.outs.length 0,t.dim,t.par⟩
def t62:Tp:=⟨[⟨3,0,0,(false,[],[])⟩,⟨2,0,0,(false,[],[])⟩,⟨10,0,1,(false,[],[])⟩],[2],1,0⟩
def p62:PoF:=⟨fz 2,[fz 6],[]⟩
def p60:PoF:=⟨(false,[],[]),[fz 6],[]⟩
section
variable{T:Tbl}[Z2 T][Zr T][Zv T][Zw T][Zq T][Zo T][Ze T][Zh T][Zs T][Z0 T][Z5 T][Zbk T][Z7 T][Z3 T][Zak T][Zbf T][Zgd T][Zaj T][Z9 T][Za5 T][Zb8 T]
variable[Zb1 T][Zb2 T][Zbm T][Zb3 T][Zc7 T][Zdf T][Zc0 T][Zc1 T][Zd6 T][Zd7 T][Zd8 T][Zin T]
abbrev Zse(x y:PoF)(bits:Int):AV:=.agg [.b x.t.1,.sl (Zb x.t.2.1) .an,.sl (Zb x.t.2.2) .an,.sl (Zc x.y) .an,.sl (Zc x.p) .an,.b y.t.1,.sl (Zb y.t.2.1) .an,.sl (Zb y.t.2.2) .an,.sl (Zc y.y) .an,.sl (Zc y.p) .an,.i .i64 bits]
def Zq3(x y:PoF)(bits:Int):Bool:=Zie x 6 2 || Zie y 6 2 || decide (500<bits)
end
section
variable{T:Tbl}[Z2 T][Zr T][Zv T][Zw T][Zq T][Zo T][Ze T][Zh T][Zs T][Z0 T][Z5 T][Zbk T][Z7 T][Z3 T][Zak T][Zbf T][Zgd T][Zaj T][Z9 T][Za5 T][Zb8 T][Zai T]
variable[Zb1 T][Zb2 T][Zbm T][Zb3 T][Zc7 T][Zdf T][Zc0 T][Zc1 T][Zd6 T][Zd7 T][Zd8 T][Zoe T]
def Zsf(a b:PoF):PoF:=⟨fz (fv a.t+fv b.t),fzs (Zl0 (a.y.map fv) b.y),fzs (Zl0 (a.p.map fv) b.p)⟩
def t28:Tp:=⟨[⟨3,0,0,(false,[],[])⟩,⟨4,0,0,(false,[],[])⟩,⟨9,0,1,(false,[],[])⟩],[2],1,1⟩
def p28:PoF:=⟨(false,[],[]),[fz 3],[fz 5]⟩
end
theorem zkj{lim:Nat}:∀{l:List Rat} {k:Nat},Zc2 lim l k=none->∀q∈l,Zbl q<=lim
 | [],_,_=>fun q hq=>by cases hq
 | a::l,k,h=>by
  unfold Zc2 at h;by_cases ha:lim<Zbl a
  ·rw[if_pos ha]at h;cases h
  ·rw[if_neg ha]at h;intro q hq;rcases Yw.1 hq with rfl | hq
   ·omega
   ·exact zkj h q hq
theorem zpu(code:List Ins)(D:List Rat):∀(n:Nat) (co:List Rat) (g:Po),(Zg1 code D n co g).2.y.length=g.y.length/\(Zg1 code D n co g).2.p.length=g.p.length
 | 0,co,g=>⟨rfl,rfl⟩
 | n+1,co,g=>by
  unfold Zg1;cases hx:code[n]? with
  | none=>exact⟨rfl,rfl⟩
  | some x=>
   dsimp only;obtain⟨h1,h2⟩:=zpu code D n (Zfn D x (gI D n) (gI co n) co) (Zeb x (gI co n) g);exact⟨h1.trans (zfu _ _ _).1,h2.trans (zfu _ _ _).2⟩
def zt0{lim:Nat}{t:Tp}{P:Po}{w:List Rat}(hw:(Zb4 lim t P w).2.1=0):(Zb4 lim t P w).2.2=(0,0)/\(Zb4 lim t P w).1.y.length=t.dim.toNat/\(Zb4 lim t P w).1.p.length=t.par.toNat/\∀q∈Zh2 (Zb4 lim t P w).1,Zbl q<=lim:=by
 unfold Zb4 at hw ⊢;by_cases h1:w.length≠t.outs.length
 ·rw[if_pos h1]at hw;cases hw
 ·rw[if_neg h1]at hw ⊢;by_cases h2:(Za8 lim t P).2.1≠0
  ·rw[if_pos h2]at hw;exact absurd hw h2
  ·rw[if_neg h2]at hw ⊢;have hb:=zsj lim t.code (Za8 lim t P).1 t.code.length (Zds t.outs w (List.replicate t.code.length 0)) (Za7 t.dim.toNat t.par.toNat);obtain⟨l1,l2⟩:=zpu t.code (Za8 lim t P).1 t.code.length (Zds t.outs w (List.replicate t.code.length 0)) (Za7 t.dim.toNat t.par.toNat);generalize Zet lim t.code (Za8 lim t P).1 t.code.length (Zds t.outs w (List.replicate t.code.length 0)) (Za7 t.dim.toNat t.par.toNat)=R at *
   obtain⟨s,o⟩:=R;cases o with
   | some i=>cases hw
   | none=>
    dsimp only at hw hb ⊢;rw[<-hb rfl]at l1 l2;cases hf:Zc2 lim (Zh2 s.2) 0 with
    | some k=>rw[hf]at hw;cases hw
    | none=>
     refine⟨rfl,?_,?_,zkj hf⟩
     ·rw[l1];simp[Za7]
     ·rw[l2];simp[Za7]
def z1c{n i:Int}{q:Rat}(h:q∈Zbo n i):q=0\/q=1:=by
 unfold Zbo at h;split at h
 ·rcases Yca h with h | h
  ·exact .inl (Yaz h)
  ·exact .inr h
 ·exact .inl (Yaz h)
def zt8{n i:Int}{q:Rat}(h:q∈Zbo n i):sz q<=1:=by
 rcases z1c h with rfl | rfl
 ·exact Ycp zd6
 ·exact zae7 (by decide) (by decide)
def Zfb(lim:Nat)(t:Tp)(P:Po)(i:Nat):PoF×Nat×Nat×Nat:=((Zb4 lim t P (Zbo t.outs.length i)).1.f,(Zb4 lim t P (Zbo t.outs.length i)).2)
def zh2{m:List (List Fz)}{n:Nat}(h:m.length=n)(x:List Fz):wkL (Z4 (List.take n m)++[[.sl (Zc x) .an]])=Z4 (m++[x]):=by
 rw[Yc (by omega),zqo];simp
def Zjl(L:List PoF):JcF:=⟨L.map PoF.t,L.map PoF.y,L.map PoF.p⟩
abbrev fJ(k:Nat):BId:=.fld (.loc 10) k
abbrev bxJ(g:Nat):Box:=⟨g,.str,3,[[.sl [] .an,.sl [] .an,.sl [] .an]]⟩
def Zlb(L:List PoF)(i:Nat):St:=
 ⟨[(6,.ptr (.loc 6) 1 3 0 0),(7,.ptr (.loc 7) 2 4 0 0),(9,.ptr (.loc 9) 3 4 0 0),(10,.ptr (.loc 10) 4 3 0 0),(31,.sl (rowP L) .an),(32,.i .i64 L.length),(33,.i .i64 i)],
  [(.loc 6,bxJ 1),(.loc 7,bxF 2 0 0 0 0),(.loc 9,bxF 3 0 0 0 0),(.loc 10,⟨4,.str,3,[[.bs (fJ 0) 5 3 0 i,.bs (fJ 1) 6 1 0 i,.bs (fJ 2) 7 1 0 i]]⟩),
   (fJ 0,⟨5,.own,3,Zc ((L.take i).map PoF.t)⟩),(fJ 1,⟨6,.own,1,Z4 ((L.take i).map PoF.y)⟩),(fJ 2,⟨7,.own,1,Z4 ((L.take i).map PoF.p)⟩)],9⟩
section
variable{T:Tbl}[Z2 T][Zr T][Zv T][Zw T][Zq T][Zo T][Ze T][Zh T][Zs T][Z0 T][Z5 T][Zbk T][Z7 T][Z3 T][Zak T][Zbf T][Zgd T][Zaj T][Z9 T][Za5 T][Zb8 T][Zai T][Zal T][Ze7 T][Ze8 T]
def z1d(t:Tp)(x:PoF)(bits:Int)(i:Nat)(hs:TpS t)(hx:PoS x 1000)(hl:t.code.length<=20) :
  Za T 416 [epl t x bits,.i .i64 i]=some (.tup [ept (Zfb (Zj bits) t x.v i).1,Zdg (Zfb (Zj bits) t x.v i).2.1 0 (Zfb (Zj bits) t x.v i).2.2.1 (Zfb (Zj bits) t x.v i).2.2.2]):=by
 have u:=ze7 (T:=T) t.outs.length i;have b:=zzq (T:=T) t x (fzs (Zbo t.outs.length i)) bits hs hx hl (fun v hv=>by
  obtain⟨q,hq,rfl⟩:=Yu.1 hv;rw[zar];exact Ye (zt8 hq) (by decide))
 rw[zp7]at b;unfold Zfb;dsimp only;generalize (((Zb4 (Zj bits) t x.v (Zbo t.outs.length i)).2.1:Nat):Int)=kk at *
 generalize (((Zb4 (Zj bits) t x.v (Zbo t.outs.length i)).2.2.1:Nat):Int)=ss at *
 generalize (((Zb4 (Zj bits) t x.v (Zbo t.outs.length i)).2.2.2:Nat):Int)=aa at *
 generalize (Zb4 (Zj bits) t x.v (Zbo t.outs.length i)).1.f=G at *
 generalize fzs (Zbo t.outs.length i)=U at *
 obtain⟨code,outs,dim,par⟩:=t;obtain⟨⟨x0,x1,x2⟩,xy,xp⟩:=x;obtain⟨⟨g0,g1,g2⟩,gy,gp⟩:=G;dsimp only at *
 rw[zaa Zal.h416 rfl,b416];simp -implicitDefEqProofs[u,b]
def zwr(t:Tp)(x:PoF)(bits:Int)(n:Nat)(hn:n<=1000)(hs:TpS t)(hx:PoS x 1000)(hl:t.code.length<=20) :
  Za T 415 [.i .i64 n,.fnv (Zf T 500416) (epl t x bits)]=some (.tup [.sl (rowP (Zb5 (Zfb (Zj bits) t x.v) n 0 []).1) .an,
   Zdg (Zb5 (Zfb (Zj bits) t x.v) n 0 []).2.1 0 (Zb5 (Zfb (Zj bits) t x.v) n 0 []).2.2.1 (Zb5 (Zfb (Zj bits) t x.v) n 0 []).2.2.2]):=by
 have h:=zsc (T:=T) t x bits n hn (Zfb (Zj bits) t x.v) (fun i _=>z1d t x bits i hs hx hl) (fun i _ hk=>(zt0 hk).1);unfold Zl2 Zk0 at h;simp only[Ym,z4i]at h;by_cases hk:(Zb5 (Zfb (Zj bits) t x.v) n 0 []).2.1=0
 ·obtain⟨e1,e2,_⟩:=zgc _ _ _ _ hk;rw[if_pos hk]at h;have hl2:(Zb5 (Zfb (Zj bits) t x.v) n 0 []).1.length=n:=by rw[e1];simp
  rw[hk,e2];clear e1 e2 hk hs hx;generalize (Zb5 (Zfb (Zj bits) t x.v) n 0 []).1=L at *
  have ht:List.take n L=L:=Yc (by omega);obtain⟨code,outs,dim,par⟩:=t;obtain⟨⟨x0,x1,x2⟩,xy,xp⟩:=x;rw[zaa Zal.h415 rfl,b415];simp -implicitDefEqProofs[h,hl2,ht]
 ·rw[if_neg hk]at h;rw[znj _ _ _ _ hk];generalize (((Zb5 (Zfb (Zj bits) t x.v) n 0 []).2.1:Nat):Int)=kk at *
  generalize (((Zb5 (Zfb (Zj bits) t x.v) n 0 []).2.2.1:Nat):Int)=ss at *
  generalize (((Zb5 (Zfb (Zj bits) t x.v) n 0 []).2.2.2:Nat):Int)=aa at *
  obtain⟨code,outs,dim,par⟩:=t;obtain⟨⟨x0,x1,x2⟩,xy,xp⟩:=x;rw[zaa Zal.h415 rfl,b415];simp -implicitDefEqProofs[h]
def z1e(L:List PoF)(hn:L.length<=1000):Zx T 0 0 (.norm false [6,7,9,10]) l403_0 (Zlb L 0) =
  some (.n,⟨[(6,.ptr (.loc 6) 1 3 0 0),(7,.ptr (.loc 7) 2 4 0 0),(9,.ptr (.loc 9) 3 4 0 0),(10,.ptr (.loc 10) 4 3 0 0)],
   [(.loc 6,bxJ 1),(.loc 7,bxF 2 0 0 0 0),(.loc 9,bxF 3 0 0 0 0),(.loc 10,⟨4,.str,3,[[.bs (fJ 0) 5 3 0 L.length,.bs (fJ 1) 6 1 0 L.length,.bs (fJ 2) 7 1 0 L.length]]⟩),
   (fJ 0,⟨5,.own,3,Zc (Zjl L).t⟩),(fJ 1,⟨6,.own,1,Z4 (Zjl L).y⟩),(fJ 2,⟨7,.own,1,Z4 (Zjl L).p⟩)],9⟩):=by
 refine zao (Zlb L) L.length _ (fun i hi=>?_) ?_
 ·have hg:L[i]? = some (L[i]'hi):=Ya hi;have hge:=(Yb.1 hg).2;have hws:=zbc hi (by omega);have hi':(i:Int)<L.length:=by omega
  have hb:i<=4294967295:=by omega
  have e1:=zck L PoF.t hi;have e2:=zck L PoF.y hi;have e3:=zck L PoF.p hi;have m1:((L.take i).map PoF.t).length=i:=by simp;omega
  have m2:((L.take i).map PoF.y).length=i:=by simp;omega
  have m3:((L.take i).map PoF.p).length=i:=by simp;omega
  have p1:=zd9 m1 (L[i]'hi).t;have p2:=zh2 m2 (L[i]'hi).y;have p3:=zh2 m3 (L[i]'hi).p;show evX (orc T) T 0 l403_0 (Zlb L i)=some (.n,Zlb L (i+1));unfold Zlb;rw[e1,e2,e3];clear e1 e2 e3;generalize (L.take i).map PoF.t=M1 at *
  generalize (L.take i).map PoF.y=M2 at *
  generalize (L.take i).map PoF.p=M3 at *
  have t1:List.take i M1=M1:=Yc (by omega);have t2:List.take i M2=M2:=Yc (by omega);have t3:List.take i M3=M3:=Yc (by omega);rw[t1]at p1;rw[t2]at p2;rw[t3]at p3;generalize L[i]'hi=G at *
  obtain⟨⟨g0,g1,g2⟩,gy,gp⟩:=G;dsimp only at *
  simp -implicitDefEqProofs[l403_0,hi,hi',hg,hge,hws,hb,m1,m2,m3,p1,p2,p3,t1,t2,t3]
 ·unfold Zlb Zjl;rw[Yc (Yh _)];generalize L.map PoF.t=M1 at *
  generalize L.map PoF.y=M2 at *
  generalize L.map PoF.p=M3 at *
  constructor<;>simp -implicitDefEqProofs[l403_0]
end
def Zd(B:Po)(V S:List Rat)(x:Ins)(v:Rat):Rat:=
 if x.op=1 then 0
 else if x.op=3 then gI B.y x.a
 else if x.op=4 then gI B.p x.a
 else if x.op=6 then -gI S x.a
 else if x.op=7 then gI S x.a+gI S x.b
 else if x.op=8 then gI S x.a-gI S x.b
 else if x.op=9 then gI S x.a*gI V x.b+gI V x.a*gI S x.b
 else if x.op=10 then (gI S x.a-v*gI S x.b)/gI V x.b
 else if x.op=11 then x.b*Zd0 V x v*gI S x.a
 else B.t
def Zdd(lim:Nat)(P B:Po):List Ins->List Rat->List Rat->List Rat×List Rat×Nat×Nat×Nat
 | [],V,S=>(V,S,0,0,0)
 | i::r,V,S=>
  if (Zg P V i).2=false then ([],[],3,0,V.length)
  else if lim<Zbl (Zg P V i).1 then ([],[],6,0,V.length)
  else if lim<Zbl (Zd B V S i (Zg P V i).1) then ([],[],6,1,V.length)
  else Zdd lim P B r (V++[(Zg P V i).1]) (S++[Zd B V S i (Zg P V i).1])
def zfe(lim:Nat)(P B:Po)(i:Ins)(r:List Ins)(V S:List Rat):Zdd lim P B (i::r) V S =
  if (Zg P V i).2=false then ([],[],3,0,V.length)
  else if lim<Zbl (Zg P V i).1 then ([],[],6,0,V.length)
  else if lim<Zbl (Zd B V S i (Zg P V i).1) then ([],[],6,1,V.length)
  else Zdd lim P B r (V++[(Zg P V i).1]) (S++[Zd B V S i (Zg P V i).1]):=rfl
def Zio(B:Po)(V:List Rat):List Ins->List Rat->List Rat
 | [],S=>S
 | i::r,S=>Zio B V r (S++[Zd B V S i (gI V S.length)])
def zqp{A C:List Rat}{i:Int}(h0:0<=i)(h:i<A.length):gI (A++C) i=gI A i:=by
 unfold gI;rw[Yq,Yq,Yl (by omega)]
def z12{dim par:Int}{p:Nat}{x:Ins}(hm:Zcj dim par p x=true){A C:List Rat}(hA:A.length=p) :
  ((x.op=6\/x.op=11\/(7<=x.op/\x.op<=10))->gI (A++C) x.a=gI A x.a)/\((7<=x.op/\x.op<=10)->gI (A++C) x.b=gI A x.b):=
 ⟨fun h=>by have:=zfz hm h;exact zqp this.1 (by omega),fun h=>by have:=zil hm h;exact zqp this.1 (by omega)⟩
def z49{dim par:Int}{p:Nat}{x:Ins}(hm:Zcj dim par p x=true)(P:Po){A C:List Rat}(hA:A.length=p):Zg P (A++C) x=Zg P A x:=by
 obtain⟨ga,gb⟩:=z12 hm hA (C:=C);rcases zii hm with h | h | h | h | h | h | h | h | h | h
 ·simp[Zg,h]
 ·simp[Zg,h]
 ·simp[Zg,h]
 ·simp[Zg,h]
 ·simp[Zg,h,ga (by omega)]
 ·simp[Zg,h,ga (by omega),gb (by omega)]
 ·simp[Zg,h,ga (by omega),gb (by omega)]
 ·simp[Zg,h,ga (by omega),gb (by omega)]
 ·simp[Zg,h,ga (by omega),gb (by omega)]
 ·simp[Zg,h,ga (by omega)]
def zh8{dim par:Int}{p:Nat}{x:Ins}(hm:Zcj dim par p x=true)(B:Po){A C S E:List Rat}(hA:A.length=p)(hS:S.length=p)(v:Rat):Zd B (A++C) (S++E) x v=Zd B A S x v:=by
 obtain⟨ga,gb⟩:=z12 hm hA (C:=C);obtain⟨sa,sb⟩:=z12 hm hS (C:=E);rcases zii hm with h | h | h | h | h | h | h | h | h | h
 ·simp[Zd,h]
 ·simp[Zd,h]
 ·simp[Zd,h]
 ·simp[Zd,h]
 ·simp[Zd,h,sa (by omega)]
 ·simp[Zd,h,sa (by omega),sb (by omega)]
 ·simp[Zd,h,sa (by omega),sb (by omega)]
 ·simp[Zd,h,ga (by omega),gb (by omega),sa (by omega),sb (by omega)]
 ·simp[Zd,h,gb (by omega),sa (by omega),sb (by omega)]
 ·simp[Zd,h,Zd0,ga (by omega),sa (by omega)]
def zsr(A:List Rat)(x:Rat):gI (A++[x]) (A.length:Nat)=x:=by
 unfold gI;rw[Yq,Y0,Yi (Yh _),Yb0]
 rfl
theorem zss(lim:Nat)(P B:Po)(dim par:Int):∀(l:List Ins) (V S:List Rat),V.length=S.length->(∀(k:Nat) (x:Ins),l[k]? = some x->Zcj dim par (V.length+k:Nat) x=true)->(Zdd lim P B l V S).2.2.1=0 ->
  ∃V' S',Zdd lim P B l V S=(V++V',S++S',0,0,0)/\V'.length=l.length/\S'.length=l.length/\Zbb lim P l V=(V++V',0,0)/\(∀q∈S',Zbl q<=lim) /\
   ∀(k:Nat) (x:Ins),l[k]? = some x->gI (S++S') (V.length+k:Nat)=Zd B (V++V') (S++S') x (gI (V++V') (V.length+k:Nat))
 | [],V,S,_,_,_=>⟨[],[],by simp[Zdd],rfl,rfl,by simp[Zbb],by simp,fun k x hx=>by simp at hx⟩
 | i::r,V,S,hl,hm,h=>by
  rw[zfe]at h;by_cases h1:(Zg P V i).2=false
  ·rw[if_pos h1]at h;cases h
  rw[if_neg h1]at h;by_cases h2:lim<Zbl (Zg P V i).1
  ·rw[if_pos h2]at h;cases h
  rw[if_neg h2]at h;by_cases h3:lim<Zbl (Zd B V S i (Zg P V i).1)
  ·rw[if_pos h3]at h;cases h
  rw[if_neg h3]at h;obtain⟨V',S',e1,e2,e3,e4,e5,e6⟩:=zss lim P B dim par r (V++[(Zg P V i).1]) (S++[Zd B V S i (Zg P V i).1]) (by simp[hl]) (fun k x hx=>by
   have:=hm (k+1) x (by simpa using hx);rw[Yp,Yg,Yab]
   rwa [show V.length+(0+1)+k=V.length+(k+1) by omega]) h
  have hm0:=hm 0 i rfl;rw[Yaj]at hm0;refine⟨(Zg P V i).1::V',Zd B V S i (Zg P V i).1::S',?_,by simp[e2],by simp[e3],?_,?_,?_⟩
  ·rw[zfe,if_neg h1,if_neg h2,if_neg h3,e1];simp
  ·rw[zb3,if_neg h1,if_neg h2,e4];simp
  ·intro q hq;rcases Yw.1 hq with rfl | hq
   ·omega
   ·exact e5 q hq
  ·intro k x hx;have a1:V++(Zg P V i).1::V'=(V++[(Zg P V i).1])++V':=by simp
   have a2:S++Zd B V S i (Zg P V i).1::S'=(S++[Zd B V S i (Zg P V i).1])++S':=by simp
   cases k with
   | zero=>
    have hx':i=x:=by simpa using hx
    subst hx';rw[zh8 hm0 B rfl hl.symm,Yaj,a1,a2];generalize Zd B V S i=sl;have g2:gI (V++[(Zg P V i).1]++V') (V.length:Nat)=(Zg P V i).1:=by rw[zqp (by omega) (by simp;omega),zsr]
    have g1:∀z,gI (S++[z]++S') (V.length:Nat)=z:=fun z=>by rw[hl,zqp (by omega) (by simp;omega),zsr]
    rw[g2,g1]
   | succ k=>
    have:=e6 k x (by simpa using hx);rw[Yp,Yg,Yab,show V.length+(0+1)+k=V.length+(k+1) by omega]at this;rw[a1,a2];exact this
def sumT(S:List Rat):Nat->List Rat->Rat
 | 0,_=>0
 | n+1,co=>sumT S n co+gI co n*gI S n
def zaf8(l:List Rat)(i:Int)(x:Rat)(k:Nat)(h0:0<=i)(hi:i<l.length):gI (bmp l i x) k=if (k:Int)=i then gI l k+x else gI l k:=by
 obtain⟨j,rfl⟩:∃j:Nat,i=j:=⟨i.toNat,by omega⟩;unfold bmp gI;rw[Y0,Y0,Yq,Yq,Yq,Yce];by_cases h:j=k
 ·subst h;rw[if_pos rfl,if_pos (by omega),if_pos rfl]
  rfl
 ·rw[if_neg h,if_neg (by omega)]
theorem znu(S:List Rat):∀(n:Nat) (co:List Rat) (i:Int) (x:Rat),0<=i->i<co.length->sumT S n (bmp co i x)=sumT S n co+if i<n then x*gI S i else 0
 | 0,co,i,x,h0,hi=>by
  rw[if_neg (by omega)];simp[sumT,Yes]
 | n+1,co,i,x,h0,hi=>by
  rw[sumT,sumT,znu S n co i x h0 hi,zaf8 co i x n h0 hi];by_cases h:(n:Int)=i
  ·subst h;rw[if_neg (by omega),if_pos rfl,if_pos (by omega)]
   grind
  ·rw[if_neg h];by_cases h2:i<n
   ·rw[if_pos h2,if_pos (by omega)]
    grind
   ·rw[if_neg h2,if_neg (by omega)]
    grind
def dotW:List Rat->List Rat->Rat
 | a::l,b::m=>a*b+dotW l m
 | _,_=>0
theorem zun:∀(l m:List Rat) (k:Nat) (x:Rat),k<l.length->l.length=m.length->dotW (l.set k (l.getD k 0+x)) m=dotW l m+x*m.getD k 0
 | [],_,k,x,h,_=>by simp at h
 | _::_,[],_,_,_,h=>by simp at h
 | a::l,b::m,0,x,_,_=>by
  simp only[Yb7,dotW,List.getD_cons_zero]
  grind
 | a::l,b::m,k+1,x,h,hl=>by
  have:=zun l m k x (by simpa using h) (by simpa using hl);simp only[List.set_cons_succ,dotW,List.getD_cons_succ];rw[this]
  grind
def zuo(l m:List Rat)(i:Int)(x:Rat)(h0:0<=i)(hi:i<l.length)(hl:l.length=m.length):dotW (bmp l i x) m=dotW l m+x*gI m i:=by
 unfold bmp gI;exact zun l m i.toNat x (by omega) hl
def meet(g B:Po):Rat:=g.t*B.t+(dotW g.y B.y+dotW g.p B.p)
def zqq{dim par:Int}{n:Nat}{x:Ins}(hm:Zcj dim par n x=true)(V S:List Rat)(B g:Po)(co:List Rat)(hn:n<co.length)(hy:g.y.length=B.y.length)(hp:g.p.length=B.p.length)(hd:(B.y.length:Int)=dim)(hr:(B.p.length:Int)=par)
  (hs:gI S n=Zd B V S x (gI V n)):sumT S n (Zfn V x (gI V n) (gI co n) co)+meet (Zeb x (gI co n) g) B=sumT S (n+1) co+meet g B:=by
 have ia:(x.op=6\/x.op=11\/(7<=x.op/\x.op<=10))->0<=x.a/\x.a<n:=fun h=>zfz hm h;have ib:(7<=x.op/\x.op<=10)->0<=x.b/\x.b<n:=fun h=>zil hm h;have one:∀(l:List Rat) (i:Int) (q:Rat),l.length=co.length->0<=i/\i<n->sumT S n (bmp l i q)=sumT S n l+q*gI S i:=fun l i q hl h=>by
  rw[znu S n l i q h.1 (by omega),if_pos h.2]
 rw[sumT,hs];generalize gI co n=c;generalize gI V n=v;clear hs;rcases zii hm with h | h | h | h | h | h | h | h | h | h
 ·simp only[Zfn,Zeb,Zd,h,Int.reduceEq,if_false,if_true];grind
 ·simp only[Zfn,Zeb,Zd,h,Int.reduceEq,if_false,if_true,meet];grind
 ·have:=z14 hm h;simp only[Zfn,Zeb,Zd,h,Int.reduceEq,if_false,if_true,meet];rw[zuo g.y B.y x.a c this.1 (by omega) hy];grind
 ·have:=z15 hm h;simp only[Zfn,Zeb,Zd,h,Int.reduceEq,if_false,if_true,meet];rw[zuo g.p B.p x.a c this.1 (by omega) hp];grind
 ·simp only[Zfn,Zeb,Zd,h,Int.reduceEq,if_false,if_true];rw[one co x.a _ rfl (ia (by omega))];grind
 ·simp only[Zfn,Zeb,Zd,h,Int.reduceEq,if_false,if_true];rw[one _ x.b _ (by simp) (ib (by omega)),one co x.a _ rfl (ia (by omega))];grind
 ·simp only[Zfn,Zeb,Zd,h,Int.reduceEq,if_false,if_true];rw[one _ x.b _ (by simp) (ib (by omega)),one co x.a _ rfl (ia (by omega))];grind
 ·simp only[Zfn,Zeb,Zd,h,Int.reduceEq,if_false,if_true];rw[one _ x.b _ (by simp) (ib (by omega)),one co x.a _ rfl (ia (by omega))];grind
 ·simp only[Zfn,Zeb,Zd,h,Int.reduceEq,if_false,if_true];rw[one _ x.b _ (by simp) (ib (by omega)),one co x.a _ rfl (ia (by omega)),Ycj,Ycj];grind
 ·simp only[Zfn,Zeb,Zd,h,Int.reduceEq,if_false,if_true];rw[one co x.a _ rfl (ia (by omega))];grind
theorem zqr{dim par:Int}(code:List Ins)(V S:List Rat)(B:Po)(hd:(B.y.length:Int)=dim)(hr:(B.p.length:Int)=par)(hm:∀(k:Nat) (x:Ins),code[k]? = some x->Zcj dim par (k:Nat) x=true)
  (hs:∀(k:Nat) (x:Ins),code[k]? = some x->gI S (k:Nat)=Zd B V S x (gI V (k:Nat))):∀(n:Nat) (co:List Rat) (g:Po),n<=code.length->co.length=code.length->g.y.length=B.y.length->g.p.length=B.p.length ->
   meet (Zg1 code V n co g).2 B=sumT S n co+meet g B
 | 0,co,g,_,_,_,_=>by simp only[Zg1,sumT];grind
 | n+1,co,g,hn,hc,hy,hp=>by
  obtain⟨x,hx⟩:∃x,code[n]? = some x:=⟨_,Ya (by omega)⟩;rw[Zg1,hx];dsimp only;rw[zqr code V S B hd hr hm hs n _ _ (by omega) (by simpa using hc) ((zfu _ _ _).1.trans hy) ((zfu _ _ _).2.trans hp)];exact zqq (hm n x hx) V S B g co (by omega) hy hp hd hr (hs n x hx)
theorem zqs(S:List Rat)(m:Nat):∀n,sumT S n (List.replicate m 0)=0
 | 0=>rfl
 | n+1=>by
  have:gI (List.replicate m (0:Rat)) n=0:=by
   unfold gI;rw[Yq,Yax];split<;>rfl
  rw[sumT,zqs S m n,this]
  grind
theorem zqt(S:List Rat)(n:Nat):∀(os:List Int) (ws co:List Rat),co.length=n->os.length=ws.length->(∀o∈os,0<=o/\o<n)->sumT S n (Zds os ws co)=sumT S n co+dotW ws (os.map (gI S))
 | [],[],co,_,_,_=>by simp only[Zds,Yb5,dotW];grind
 | [],_::_,_,_,h,_=>by simp at h
 | _::_,[],_,_,h,_=>by simp at h
 | o::os,w::ws,co,hc,hl,ho=>by
  have h1:=ho o Yv;rw[Zds,zqt S n os ws _ (by simpa using hc) (by simpa using hl) (fun q hq=>ho q (Yk _ hq)),znu S n co o w h1.1 (by omega),if_pos h1.2];simp only[Y9,dotW]
  grind
structure Comb (c:Rat) (a b B:Po):Prop where
 t:B.t=c*a.t+b.t
 y:∀i,gI B.y i=c*gI a.y i+gI b.y i
 p:∀i,gI B.p i=c*gI a.p i+gI b.p i
def Zac(lim:Nat)(t:Tp)(P B:Po):List Rat×List Rat×Nat×Nat×Nat:=
 if P.y.length=B.y.length/\P.p.length=B.p.length/\Zfu t P.y.length P.p.length=true then Zdd lim P B t.code [] [] else ([],[],2,0,0)
def z5a{lim:Nat}{t:Tp}{P B:Po}(h:(Zac lim t P B).2.2.1=0):OkTp t/\(P.y.length:Int)=t.dim/\(P.p.length:Int)=t.par/\B.y.length=P.y.length/\B.p.length=P.p.length /\
  (Zac lim t P B).2.2=(0,0,0)/\Za8 lim t P=((Zac lim t P B).1,0,0)/\(Zac lim t P B).1.length=t.code.length/\(Zac lim t P B).2.1.length=t.code.length/\(∀q∈(Zac lim t P B).2.1,Zbl q<=lim) /\
  ∀(k:Nat) (x:Ins),t.code[k]? = some x->gI (Zac lim t P B).2.1 (k:Nat)=Zd B (Zac lim t P B).1 (Zac lim t P B).2.1 x (gI (Zac lim t P B).1 (k:Nat)):=by
 unfold Zac at h ⊢;by_cases hc:P.y.length=B.y.length/\P.p.length=B.p.length/\Zfu t P.y.length P.p.length=true
 ·rw[if_pos hc]at h ⊢;obtain⟨hok,hd,hp⟩:=zc0 hc.2.2;obtain⟨V',S',e1,e2,e3,e4,e5,e6⟩:=zss lim P B t.dim t.par t.code [] [] rfl (fun k x hx=>by
   have:=hok.may k x hx
   rwa [Yab,Yad]) h
  rw[Yal,Yal]at e1;rw[Yal]at e4;have e7:Za8 lim t P=(V',0,0):=by unfold Za8;rw[if_pos hc.2.2,e4]
  rw[e1];refine⟨hok,hd,hp,hc.1.symm,hc.2.1.symm,rfl,e7,e2,e3,e5,fun k x hx=>?_⟩;have:=e6 k x hx;rw[Yal,Yal,Yab,Yad]at this;exact this
 ·rw[if_neg hc]at h;cases h
abbrev Du:=Fz×Fz
abbrev Zl8(x:Du):List AV:=[.b x.1.1,.sl (Zb x.1.2.1) .an,.sl (Zb x.1.2.2) .an,.b x.2.1,.sl (Zb x.2.2.1) .an,.sl (Zb x.2.2.2) .an]
abbrev edu(x:Du):AV:=.agg (Zl8 x)
def Zcv(l:List Du):List (List AV):=l.map Zl8
@[simp] def z9t(l:List Du):(Zcv l).length=l.length:=by simp[Zcv]
@[simp] def z1w(l:List Du):wkL (Zcv l)=Zcv l:=by rw[zav];simp[Zcv,wkR,wkA]
@[simp] def zajp(l:List Du)(i:Nat)(h:i<(Zcv l).length):(Zcv l)[i]=Zl8 (l[i]'(by simpa using h)):=by simp[Zcv]
def zql(l:List Du)(x:Du):Zcv l++[Zl8 x]=Zcv (l++[x]):=by simp[Zcv]
@[simp] def zaf0(l:List Du)(n:Nat):(Zcv l).take n=Zcv (l.take n):=by simp[Zcv]
@[simp] def zns:Zcv []=[]:=rfl
def z1x{m:List Du}{n:Nat}(h:m.length=n)(x:Du):wkL (Zcv (List.take n m)++[Zl8 x])=Zcv (m++[x]):=by
 rw[Yc (by omega),zql,z1w]
def Zab:List Rat->List Rat->List Du
 | v::V,s::S=>(fz v,fz s)::Zab V S
 | _,_=>[]
theorem zau:∀{V S:List Rat},V.length=S.length->(Zab V S).length=V.length
 | [],[],_=>rfl
 | [],_::_,h=>by simp at h
 | _::_,[],h=>by simp at h
 | _::_,_::_,h=>by simp[Zab,zau (Nat.succ.inj h)]
theorem zum:∀{V S:List Rat} {k:Nat},V.length=S.length->k<V.length->(Zab V S)[k]? = some (fz (gI V (k:Nat)),fz (gI S (k:Nat)))
 | [],_,_,_,h=>by simp at h
 | _::_,[],_,h,_=>by simp at h
 | _::_,_::_,0,_,_=>rfl
 | _::V,_::S,k+1,hl,h=>by
  have:=zum (V:=V) (S:=S) (k:=k) (Nat.succ.inj hl) (by simpa using h);simpa[Zab,gI]using this
theorem zqm:∀{V S:List Rat} (v s:Rat),V.length=S.length->Zab (V++[v]) (S++[s])=Zab V S++[(fz v,fz s)]
 | [],[],_,_,_=>rfl
 | [],_::_,_,_,h=>by simp at h
 | _::_,[],_,_,h=>by simp at h
 | _::_,_::_,v,s,h=>by simp[Zab,zqm v s (Nat.succ.inj h)]
structure PoD where
 t:Du
 y:List Du
 p:List Du
def dua(P B:Po):PoD:=⟨(fz P.t,fz B.t),Zab P.y B.y,Zab P.p B.p⟩
abbrev epd(x:PoD):AV:=.agg [.b x.t.1.1,.sl (Zb x.t.1.2.1) .an,.sl (Zb x.t.1.2.2) .an,.b x.t.2.1,.sl (Zb x.t.2.2.1) .an,.sl (Zb x.t.2.2.2) .an,.sl (Zcv x.y) .an,.sl (Zcv x.p) .an]
def zky{V S:List Rat}{a:Int}(h:0<=a/\a<V.length)(hl:V.length=S.length):∃k:Nat,a=k/\(k:Int)<V.length/\k<V.length/\(Zab V S)[k]? = some (fz (gI V a),fz (gI S a)):=by
 obtain⟨k,rfl⟩:∃k:Nat,a=k:=⟨a.toNat,by omega⟩;exact⟨k,rfl,h.2,by omega,zum hl (by omega)⟩
def z1y{B:Po}{V S:List Rat}{x:Ins}{dim par:Int}{p:Nat}(hm:Zcj dim par p x=true)(hB:PvS B 1000)(hV:∀q∈V,sz q<=129)(hS:∀q∈S,sz q<=129)(v:Rat)(hv:x.op=10\/x.op=11->sz v<=1100):sz (Zd B V S x v)<=2000:=by
 have ga:=zc4 (D:=V) (a:=x.a) (B:=129) (by decide) hV;have gb:=zc4 (D:=V) (a:=x.b) (B:=129) (by decide) hV;have sa:=zc4 (D:=S) (a:=x.a) (B:=129) (by decide) hS;have sb:=zc4 (D:=S) (a:=x.b) (B:=129) (by decide) hS;have gy:=zc4 (D:=B.y) (a:=x.a) (B:=1000) (by decide) hB.y;have gp:=zc4 (D:=B.p) (a:=x.a) (B:=1000) (by decide) hB.p;have gt:=hB.t;rcases zii hm with h | h | h | h | h | h | h | h | h | h
 ·simp[Zd,h,zd6]
 ·simp[Zd,h];omega
 ·simp[Zd,h];omega
 ·simp[Zd,h];omega
 ·simp[Zd,h,zih];omega
 ·have:=zig (gI S x.a) (gI S x.b);simp[Zd,h];omega
 ·have:=zqn (gI S x.a) (gI S x.b);simp[Zd,h];omega
 ·have a1:=zbz (gI S x.a) (gI V x.b);have a2:=zbz (gI V x.a) (gI S x.b);have:=zig (gI S x.a*gI V x.b) (gI V x.a*gI S x.b);simp[Zd,h];omega
 ·have hv:=hv (.inl h);have a1:=zbz v (gI S x.b);have a2:=zqn (gI S x.a) (v*gI S x.b);have:=zfd (gI S x.a-v*gI S x.b) (gI V x.b);simp[Zd,h];omega
 ·obtain⟨e1,e2⟩:=zsv hm h;have hv:=hv (.inr h);have ht:sz (Zd0 V x v)<=1229:=by
   unfold Zd0;split
   ·exact Ye (zh1 ga (by omega) (by omega)) (by decide)
   ·split
    ·have:=zfd v (gI V x.a);omega
    ·rw[zd6];decide
  have hb:sz (x.b:Rat)<=1:=ztv x.b e1 e2;have a1:=zbz (x.b:Rat) (Zd0 V x v);have:=zbz ((x.b:Rat)*Zd0 V x v) (gI S x.a);simp[Zd,h];omega
abbrev mD2:AV:=.agg [.dead,.dead]
abbrev noD:Du:=((false,[],[]),(false,[],[]))
section
variable{T:Tbl}[Z2 T][Zr T][Zv T][Zw T][Zq T][Zo T][Ze T][Zh T][Zs T][Z0 T][Z5 T][Zbk T][Z7 T][Z3 T][Zak T][Z6 T][Zfm T]
def zaou(x:Fz)(hx:fsz x<=1000):Za T 453 [mD2,efz x]=some (edu (fz (fv x),fz 0)):=by
 have h:=zcz (T:=T) x (by omega);have h0:=zc8 (T:=T);rw[zaa Z6.h453 rfl,b453];generalize fz (fv x)=z at *
 generalize fz 0=z0 at *
 simp -implicitDefEqProofs[h,h0]
def zafa(x:Du)(hx:fsz x.1<=1000)(hy:fsz x.2<=1000):Za T 452 [mD2,edu x]=some (edu (fz (-fv x.1),fz (-fv x.2))):=by
 have h:=zfp (T:=T) x.1 (by omega);have h2:=zfp (T:=T) x.2 (by omega);rw[zaa Z6.h452 rfl,b452];generalize fz (-fv x.1)=z at *
 generalize fz (-fv x.2)=z0 at *
 simp -implicitDefEqProofs[h,h2]
def zafb(x y:Du)(h1:fsz x.1<=1000)(h2:fsz x.2<=1000)(h3:fsz y.1<=1000)(h4:fsz y.2<=1000):Za T 449 [mD2,edu x,edu y]=some (edu (fz (fv x.1+fv y.1),fz (fv x.2+fv y.2))):=by
 have h:=zgy (T:=T) x.1 y.1 h1 h3;have h':=zgy (T:=T) x.2 y.2 h2 h4;rw[zaa Z6.h449 rfl,b449];generalize fz (fv x.1+fv y.1)=z at *
 generalize fz (fv x.2+fv y.2)=z0 at *
 simp -implicitDefEqProofs[h,h']
def zafc(x y:Du)(h1:fsz x.1<=1000)(h2:fsz x.2<=1000)(h3:fsz y.1<=1000)(h4:fsz y.2<=1000):Za T 456 [mD2,edu x,edu y]=some (edu (fz (fv x.1-fv y.1),fz (fv x.2-fv y.2))):=by
 have h:=zgz (T:=T) x.1 y.1 h1 h3;have h':=zgz (T:=T) x.2 y.2 h2 h4;rw[zaa Z6.h456 rfl,b456];generalize fz (fv x.1-fv y.1)=z at *
 generalize fz (fv x.2-fv y.2)=z0 at *
 simp -implicitDefEqProofs[h,h']
def zafd(x y:Du)(h1:fsz x.1<=400)(h2:fsz x.2<=400)(h3:fsz y.1<=400)(h4:fsz y.2<=400):Za T 451 [mD2,edu x,edu y]=some (edu (fz (fv x.1*fv y.1),fz (fv x.2*fv y.1+fv x.1*fv y.2))):=by
 have m1:=zcj (T:=T) x.1 y.1 (by omega) (by omega);have m2:=zcj (T:=T) x.2 y.1 (by omega) (by omega);have m3:=zcj (T:=T) x.1 y.2 (by omega) (by omega);have s1:=zbz (fv x.2) (fv y.1);have s2:=zbz (fv x.1) (fv y.2);have v1:=zbd h1 (by decide);have v2:=zbd h2 (by decide);have v3:=zbd h3 (by decide);have v4:=zbd h4 (by decide);have ad:=zgy (T:=T) (fz (fv x.2*fv y.1)) (fz (fv x.1*fv y.2)) (by rw[zar];omega) (by rw[zar];omega);rw[zbi,zbi]at ad;clear s1 s2 v1 v2 v3 v4;rw[zaa Z6.h451 rfl,b451];generalize fz (fv x.2*fv y.1+fv x.1*fv y.2)=z at *
 generalize fz (fv x.1*fv y.1)=z0 at *
 generalize fz (fv x.2*fv y.1)=z1 at *
 generalize fz (fv x.1*fv y.2)=z2 at *
 simp -implicitDefEqProofs[m1,m2,m3,ad]
def zafe(x y:Du)(h1:fsz x.1<=129)(h2:fsz x.2<=129)(h3:fsz y.1<=129)(h4:fsz y.2<=129):Za T 455 [mD2,edu x,edu y] =
  some (if fv y.1≠0 then .tup [edu (fz (fv x.1/fv y.1),fz ((fv x.2-fv x.1/fv y.1*fv y.2)/fv y.1)),.b true] else .tup [edu noD,.b false]):=by
 have q1:=zfq (T:=T) x.1 y.1 (by omega) (by omega);have v1:=zbd h1 (by decide);have v2:=zbd h2 (by decide);have v3:=zbd h3 (by decide);have v4:=zbd h4 (by decide);have s1:=zfd (fv x.1) (fv y.1);have s2:=zbz (fv x.1/fv y.1) (fv y.2);have s3:=zqn (fv x.2) (fv x.1/fv y.1*fv y.2);have m1:=zcj (T:=T) (fz (fv x.1/fv y.1)) y.2 (by rw[zar];omega) (by omega);rw[zbi]at m1;have u1:=zgz (T:=T) x.2 (fz (fv x.1/fv y.1*fv y.2)) (by omega) (by rw[zar];omega);rw[zbi]at u1;have q2:=zfq (T:=T) (fz (fv x.2-fv x.1/fv y.1*fv y.2)) y.1 (by rw[zar];omega) (by omega);rw[zbi]at q2;clear s1 s2 s3 v1 v2 v3 v4;rw[zaa Z6.h455 rfl,b455];generalize fz ((fv x.2-fv x.1/fv y.1*fv y.2)/fv y.1)=z1 at *
 generalize fz (fv x.2-fv x.1/fv y.1*fv y.2)=z2 at *
 generalize fz (fv x.1/fv y.1*fv y.2)=z3 at *
 generalize fz (fv x.1/fv y.1)=z4 at *
 by_cases hz:fv y.1=0
 ·rw[if_neg (by simp[hz])];rw[hz]at q1;simp -implicitDefEqProofs[q1]
 ·rw[if_pos hz];rw[decide_eq_true hz]at q1 q2;simp -implicitDefEqProofs[q1,m1,u1,q2]
def Zkz(q:Rat)(e:Int)(v:Rat):Rat:=if 0<e then Zbp q (e-1) else if e<0 then v/q else 0
def zaff(x:Du)(e:Int)(he:-8<=e)(he':e<=8)(h1:fsz x.1<=129)(h2:fsz x.2<=129):Za T 454 [mD2,edu x,.i .i64 e] =
  some (if e<0/\fv x.1=0 then .tup [edu noD,.b false] else .tup [edu (fz (Zbp (fv x.1) e),fz ((e:Rat)*Zkz (fv x.1) e (Zbp (fv x.1) e)*fv x.2)),.b true]):=by
 have c0:=zc8 (T:=T);have ce:=zhs (T:=T) e (by omega) (by omega);have cp:=zg1 (T:=T) x.1 e (by omega);rw[zni he he']at cp;have v1:=zbd h1 (by decide);have v2:=zbd h2 (by decide);have ze:=ztv e he he';by_cases hz:e<0/\fv x.1=0
 ·rw[if_pos hz]at cp ⊢;rw[zaa Z6.h454 rfl,b454];generalize fz 0=z0 at *
  simp -implicitDefEqProofs[cp]
 rw[if_neg hz]at cp ⊢;have zp:sz (Zbp (fv x.1) e)<=1033:=zh1 v1 he he';have fin:∀q:Rat,sz q<=1162->Za T 217 [efz (fz (e:Rat)),efz (fz q)]=some (efz (fz (e*q)))/\Za T 217 [efz (fz (e*q)),efz x.2]=some (efz (fz (e*q*fv x.2))):=by
  intro q hq;have z1:=zbz (e:Rat) q;have m1:=zkh (T:=T) (fz (e:Rat)) (fz q) (by rw[zar];omega) (by rw[zar];omega);have m2:=zkh (T:=T) (fz (e*q)) x.2 (by rw[zar];omega) (by omega);rw[zbi,zbi]at m1;rw[zbi]at m2;exact⟨m1,m2⟩
 unfold Zkz;by_cases h0:0<e
 ·have cp2:=zg1 (T:=T) x.1 (e-1) (by omega);rw[zni (q:=fv x.1) (e:=e-1) (by omega) (by omega),if_neg (by omega)]at cp2;have z2:sz (Zbp (fv x.1) (e-1))<=1162:=Ye (zh1 v1 (by omega) (by omega)) (by decide);obtain⟨m1,m2⟩:=fin _ z2;rw[if_pos h0];have hw:IntKind.wrap .i64 (e-1)=e-1:=zab _ (by omega);have hn:¬ e<0:=by omega
  clear fin v1 v2 ze zp z2 hz;generalize fz (e*Zbp (fv x.1) (e-1)*fv x.2)=y1 at *
  generalize fz (e*Zbp (fv x.1) (e-1))=y2 at *
  generalize fz (Zbp (fv x.1) (e-1))=y3 at *
  generalize fz (Zbp (fv x.1) e)=y4 at *
  generalize fz (e:Rat)=y5 at *
  generalize fz 0=z0 at *
  rw[zaa Z6.h454 rfl,b454];simp -implicitDefEqProofs[c0,ce,cp,cp2,m1,m2,h0,hw,hn]
 ·rw[if_neg h0];by_cases hn:e<0
  ·have z3:=zfd (Zbp (fv x.1) e) (fv x.1);have cq:=zpq (T:=T) (fz (Zbp (fv x.1) e)) x.1 (by rw[zar];omega) (by omega);rw[zbi]at cq;obtain⟨m1,m2⟩:=fin (Zbp (fv x.1) e/fv x.1) (by omega);rw[if_pos hn];clear fin v1 v2 ze zp z3 hz;generalize decide (fv x.1≠0)=bb at *
   generalize fz (e*(Zbp (fv x.1) e/fv x.1)*fv x.2)=y1 at *
   generalize fz (e*(Zbp (fv x.1) e/fv x.1))=y2 at *
   generalize fz (Zbp (fv x.1) e/fv x.1)=y3 at *
   generalize fz (Zbp (fv x.1) e)=y4 at *
   generalize fz (e:Rat)=y5 at *
   generalize fz 0=z0 at *
   rw[zaa Z6.h454 rfl,b454];simp -implicitDefEqProofs[c0,ce,cp,cq,m1,m2,h0,hn]
  ·obtain⟨m1,m2⟩:=fin 0 (by decide +kernel);rw[if_neg hn];clear fin v1 v2 ze zp hz;generalize fz (e*0*fv x.2)=y1 at *
   generalize fz (e*0)=y2 at *
   generalize fz (Zbp (fv x.1) e)=y4 at *
   generalize fz (e:Rat)=y5 at *
   generalize fz 0=z0 at *
   rw[zaa Z6.h454 rfl,b454];simp -implicitDefEqProofs[c0,ce,cp,m1,m2,h0,hn]
def z8t(i:Ins)(P B:Po)(hop:i.op=1\/i.op=2\/i.op=3\/i.op=4)(hn:fsz i.n<=1000)(hy:i.op=3->0<=i.a/\i.a<P.y.length)(hp:i.op=4->0<=i.a/\i.a<P.p.length)(ly:P.y.length=B.y.length)(lp:P.p.length=B.p.length) :
  Za T 436 [mD2,.agg (Zdn i),epd (dua P B)]=some (edu (fz (Zg P [] i).1,fz (Zd B [] [] i 0))):=by
 have h1:=zaou (T:=T) i.n hn;obtain⟨op,a,b,n⟩:=i;obtain⟨t,y,p⟩:=P;obtain⟨t',y',p'⟩:=B;dsimp only at *
 unfold Zg Zd dua;dsimp only;rw[zaa Z6.h436 rfl,b436];rcases hop with rfl | rfl | rfl | rfl
 ·show _=some (edu (fz (fv n),fz 0));generalize fz (fv n)=z at *
  generalize fz 0=z0 at *
  generalize Zab y y'=Y at *
  generalize Zab p p'=PP at *
  generalize fz t=tt at *
  generalize fz t'=tt' at *
  simp -implicitDefEqProofs[h1]
 ·show _=some (edu (fz t,fz t'));generalize Zab y y'=Y at *
  generalize Zab p p'=PP at *
  generalize fz t=tt at *
  generalize fz t'=tt' at *
  simp -implicitDefEqProofs
 ·obtain⟨k,e,hk',hk,hg⟩:=zky (hy rfl) ly;subst e;have hge:=(Yb.1 hg).2;have hl:(Zab y y').length=y.length:=zau ly;show _=some (edu (fz (gI y k),fz (gI y' k)));generalize Zab y y'=Y at *
  generalize Zab p p'=PP at *
  generalize fz t=tt at *
  generalize fz t'=tt' at *
  generalize fz (gI y k)=z at *
  generalize fz (gI y' k)=z' at *
  simp -implicitDefEqProofs[hk,hk',hg,hge,hl]
 ·obtain⟨k,e,hk',hk,hg⟩:=zky (hp rfl) lp;subst e;have hge:=(Yb.1 hg).2;have hl:(Zab p p').length=p.length:=zau lp;show _=some (edu (fz (gI p k),fz (gI p' k)));generalize Zab y y'=Y at *
  generalize Zab p p'=PP at *
  generalize fz t=tt at *
  generalize fz t'=tt' at *
  generalize fz (gI p k)=z at *
  generalize fz (gI p' k)=z' at *
  simp -implicitDefEqProofs[hk,hk',hg,hge,hl]
def z8u(i:Ins)(P B:Po)(V S:List Rat)(dim par:Int)(hm:Zcj dim par V.length i=true)(hd:(P.y.length:Int)=dim)(hp:(P.p.length:Int)=par)(ly:P.y.length=B.y.length)(lp:P.p.length=B.p.length)(lS:V.length=S.length)(hn:fsz i.n<=1000)(hV:∀q∈V,sz q<=129)(hS:∀q∈S,sz q<=129) :
  ∃w:Du,Za T 432 [mD2,.agg (Zdn i),epd (dua P B),.sl (Zcv (Zab V S)) .an]=some (.tup [edu w,.b (Zg P V i).2])/\((Zg P V i).2=true->w=(fz (Zg P V i).1,fz (Zd B V S i (Zg P V i).1))):=by
 have hop:=zii hm;by_cases hleaf:i.op=1\/i.op=2\/i.op=3\/i.op=4
 ·have h1:=z8t (T:=T) i P B hleaf hn (fun h=>by have:=z14 hm h;omega) (fun h=>by have:=z15 hm h;omega) ly lp;have e:Zg P V i=((Zg P [] i).1,true):=by
   unfold Zg;rcases hleaf with h | h | h | h<;>simp[h]
  have e2:∀v,Zd B V S i v=Zd B [] [] i 0:=by
   intro v;unfold Zd;rcases hleaf with h | h | h | h<;>simp[h]
  rw[e,e2];refine⟨_,?_,fun _=>rfl⟩;generalize fz (Zg P [] i).1=z at *
  generalize fz (Zd B [] [] i 0)=z' at *
  generalize Zab V S=DD at *
  obtain⟨op,a,b,n⟩:=i;generalize dua P B=Q at *
  obtain⟨⟨⟨t0,t1,t2⟩,⟨t3,t4,t5⟩⟩,y,p⟩:=Q;clear e e2 hm hop hd hp ly lp lS hV hS;dsimp only at *
  rw[zaa Z6.h432 rfl,b432];rcases hleaf with rfl | rfl | rfl | rfl<;>simp -implicitDefEqProofs[h1]
 have ha:=zfz hm (by omega);obtain⟨k,hk1,hk2,hk3,hka⟩:=zky ha lS;have sa:fsz (fz (gI V i.a))<=129:=zc4 (by decide) hV;have sa':fsz (fz (gI S i.a))<=129:=zc4 (by decide) hS;have hkae:=(Yb.1 hka).2;have hl:(Zab V S).length=V.length:=zau lS;have c6:=zafa (T:=T) (fz (gI V i.a),fz (gI S i.a)) (by dsimp only;omega) (by dsimp only;omega);dsimp only at c6;rw[zbi,zbi]at c6;by_cases h6:i.op=6
 ·have e:Zg P V i=(-gI V i.a,true):=by simp[Zg,h6]
  have e2:∀v,Zd B V S i v=-gI S i.a:=by intro v;simp[Zd,h6]
  rw[e,e2];refine⟨_,?_,fun _=>rfl⟩;generalize fz (-gI V i.a)=z at *
  generalize fz (-gI S i.a)=z' at *
  generalize fz (gI V i.a)=u at *
  generalize fz (gI S i.a)=u' at *
  generalize Zab V S=DD at *
  obtain⟨op,a,b,n⟩:=i;generalize dua P B=Q at *
  obtain⟨⟨⟨t0,t1,t2⟩,⟨t3,t4,t5⟩⟩,y,p⟩:=Q;clear e e2 hm hop hd hp ly lp hV hS hleaf;dsimp only at *
  subst h6 hk1;rw[zaa Z6.h432 rfl,b432];simp -implicitDefEqProofs[hk2,hk3,hka,hkae,hl,c6]
 by_cases h11:i.op=11
 ·have hb:=zsv hm h11;have c11:=zaff (T:=T) (fz (gI V i.a),fz (gI S i.a)) i.b hb.1 hb.2 sa sa';dsimp only at c11;rw[zbi,zbi]at c11;have e:Zg P V i=if i.b<0/\gI V i.a=0 then (0,false) else (Zbp (gI V i.a) i.b,true):=by simp[Zg,h11]
  have e2:∀v,Zd B V S i v=i.b*Zkz (gI V i.a) i.b v*gI S i.a:=by intro v;simp[Zd,h11,Zd0,Zkz]
  by_cases hz:i.b<0/\gI V i.a=0
  ·rw[if_pos hz]at e c11;rw[e];refine⟨noD,?_,fun h=>by cases h⟩;generalize fz (gI V i.a)=u at *
   generalize fz (gI S i.a)=u' at *
   generalize Zab V S=DD at *
   obtain⟨op,a,b,n⟩:=i;generalize dua P B=Q at *
   obtain⟨⟨⟨t0,t1,t2⟩,⟨t3,t4,t5⟩⟩,y,p⟩:=Q;clear e e2 hm hop hd hp ly lp hV hS hleaf;dsimp only at *
   subst h11 hk1;rw[zaa Z6.h432 rfl,b432];simp -implicitDefEqProofs[hk2,hk3,hka,hkae,hl,c11]
  ·rw[if_neg hz]at e c11;rw[e,e2];dsimp only;refine⟨_,?_,fun _=>rfl⟩;generalize fz (i.b*Zkz (gI V i.a) i.b (Zbp (gI V i.a) i.b)*gI S i.a)=z' at *
   generalize fz (Zbp (gI V i.a) i.b)=z at *
   generalize fz (gI V i.a)=u at *
   generalize fz (gI S i.a)=u' at *
   generalize Zab V S=DD at *
   obtain⟨op,a,b,n⟩:=i;generalize dua P B=Q at *
   obtain⟨⟨⟨t0,t1,t2⟩,⟨t3,t4,t5⟩⟩,y,p⟩:=Q;clear e e2 hm hop hd hp ly lp hV hS hleaf;dsimp only at *
   subst h11 hk1;rw[zaa Z6.h432 rfl,b432];simp -implicitDefEqProofs[hk2,hk3,hka,hkae,hl,c11]
 have hb:=zil hm (by omega);obtain⟨j,hj1,hj2,hj3,hjb⟩:=zky hb lS;have sb:fsz (fz (gI V i.b))<=129:=zc4 (by decide) hV;have sb':fsz (fz (gI S i.b))<=129:=zc4 (by decide) hS;have hjbe:=(Yb.1 hjb).2;have c7:=zafb (T:=T) (fz (gI V i.a),fz (gI S i.a)) (fz (gI V i.b),fz (gI S i.b)) (by dsimp only;omega) (by dsimp only;omega) (by dsimp only;omega) (by dsimp only;omega);have c8:=zafc (T:=T) (fz (gI V i.a),fz (gI S i.a)) (fz (gI V i.b),fz (gI S i.b)) (by dsimp only;omega) (by dsimp only;omega) (by dsimp only;omega) (by dsimp only;omega);have c9:=zafd (T:=T) (fz (gI V i.a),fz (gI S i.a)) (fz (gI V i.b),fz (gI S i.b)) (by dsimp only;omega) (by dsimp only;omega) (by dsimp only;omega) (by dsimp only;omega);have c10:=zafe (T:=T) (fz (gI V i.a),fz (gI S i.a)) (fz (gI V i.b),fz (gI S i.b)) sa sa' sb sb';dsimp only at c7 c8 c9 c10;rw[zbi,zbi,zbi,zbi]at c7 c8 c9 c10;have e7:i.op=7->Zg P V i=(gI V i.a+gI V i.b,true)/\∀v,Zd B V S i v=gI S i.a+gI S i.b:=fun h=>by simp[Zg,Zd,h]
 have e8:i.op=8->Zg P V i=(gI V i.a-gI V i.b,true)/\∀v,Zd B V S i v=gI S i.a-gI S i.b:=fun h=>by simp[Zg,Zd,h]
 have e9:i.op=9->Zg P V i=(gI V i.a*gI V i.b,true)/\∀v,Zd B V S i v=gI S i.a*gI V i.b+gI V i.a*gI S i.b:=fun h=>by simp[Zg,Zd,h]
 have e10:i.op=10->Zg P V i=(gI V i.a/gI V i.b,decide (gI V i.b≠0))/\∀v,Zd B V S i v=(gI S i.a-v*gI S i.b)/gI V i.b:=fun h=>by simp[Zg,Zd,h]
 clear hm hd hp ly lp hV hS sa sa' sb sb' c6;generalize gI V i.a=A at *
 generalize gI V i.b=C at *
 generalize gI S i.a=A' at *
 generalize gI S i.b=C' at *
 generalize fz A=u at *
 generalize fz C=v at *
 generalize fz A'=u' at *
 generalize fz C'=v' at *
 generalize Zg P V i=W at *
 generalize Zd B V S i=sl at *
 generalize Zab V S=DD at *
 obtain⟨op,a,b,n⟩:=i;generalize dua P B=Q at *
 obtain⟨⟨⟨t0,t1,t2⟩,⟨t3,t4,t5⟩⟩,y,p⟩:=Q;dsimp only at *
 subst hk1 hj1;rw[zaa Z6.h432 rfl,b432];rcases(show op=7\/op=8\/op=9\/op=10 by omega) with rfl | rfl | rfl | rfl
 ·rw[(e7 rfl).1,(e7 rfl).2];refine⟨_,?_,fun _=>rfl⟩;clear e7 e8 e9 e10 c8 c9 c10;generalize fz (A+C)=z at *
  generalize fz (A'+C')=z' at *
  simp -implicitDefEqProofs[hk2,hk3,hka,hkae,hj2,hj3,hjb,hjbe,hl,c7]
 ·rw[(e8 rfl).1,(e8 rfl).2];refine⟨_,?_,fun _=>rfl⟩;clear e7 e8 e9 e10 c7 c9 c10;generalize fz (A-C)=z at *
  generalize fz (A'-C')=z' at *
  simp -implicitDefEqProofs[hk2,hk3,hka,hkae,hj2,hj3,hjb,hjbe,hl,c8]
 ·rw[(e9 rfl).1,(e9 rfl).2];refine⟨_,?_,fun _=>rfl⟩;clear e7 e8 e9 e10 c7 c8 c10;generalize fz (A*C)=z at *
  generalize fz (A'*C+A*C')=z' at *
  simp -implicitDefEqProofs[hk2,hk3,hka,hkae,hj2,hj3,hjb,hjbe,hl,c9]
 ·rw[(e10 rfl).1,(e10 rfl).2];clear e7 e8 e9 e10 c7 c8 c9;by_cases hz:C=0
  ·refine⟨noD,?_,fun h=>by simp[hz]at h⟩;rw[if_neg (by simp[hz])]at c10;have hd:decide (C≠0)=false:=by simp[hz]
   rw[hd];simp -implicitDefEqProofs[hk2,hk3,hka,hkae,hj2,hj3,hjb,hjbe,hl,c10]
  ·refine⟨_,?_,fun _=>rfl⟩;rw[if_pos hz]at c10;have hd:decide (C≠0)=true:=by simp[hz]
   rw[hd];generalize fz (A/C)=z at *
   generalize fz ((A'-A/C*C')/C)=z' at *
   simp -implicitDefEqProofs[hk2,hk3,hka,hkae,hj2,hj3,hjb,hjbe,hl,c10]
end
abbrev Zgh(g:Nat)(st:Int):Box:=⟨g,.str,1,[[.i .i64 st]]⟩
abbrev duM(T:Tbl):AV:=.agg [.ptr (.bor 0) 0 3 0 0,.fnp (Zf T 500424) (.bor 1) 1 1 0 0]
def Zhz(x:Du)(L:Int):Bool:=decide ((Zby x.1:Int)<=L)&&decide ((Zby x.2:Int)<=L)
def Zh0(x:Du)(L st:Int):Int:=if (Zby x.1:Int)<=L/\¬ (Zby x.2:Int)<=L then 1 else st
def Zjk(x:Du)(L s:Int):Int:=if (Zby x.1:Int)<=L then Zbg (Zbg s) else Zbg s
def pkD(x:Du)(L p:Int):Int:=if (Zby x.1:Int)<=L then Zbn (Zbn p x.1) x.2 else Zbn p x.1
section
variable{T:Tbl}[Z2 T][Zr T][Zv T][Zw T][Zq T][Zo T][Ze T][Zh T][Zs T][Z0 T][Z5 T][Zbk T][Z7 T][Z3 T][Zak T][Z6 T][Zfm T][Zdl T]
def z0p(st:Int):Z1 T 424 [.ptr (.bor 0) 0 1 0 0] [(.bor 0,Zgh 0 st)]=some (.tup [],[(.bor 0,Zgh 0 1)]):=by
 rw[zad Z6.h424 rfl,b424];simp -implicitDefEqProofs
def z8v(s p L st:Int)(x:Du)(h1:fsz x.1<=10000)(h2:fsz x.2<=10000) :
  Z1 T 450 [duM T,edu x] [(.bor 0,bxG 0 s p L),(.bor 1,Zgh 1 st)]=some (.b (Zhz x L),[(.bor 0,bxG 0 (Zjk x L s) (pkD x L p) L),(.bor 1,Zgh 1 (Zh0 x L st))]):=by
 have g1:=zd8 (T:=T) s p L x.1 h1;have g2:=zd8 (T:=T) (Zbg s) (Zbn p x.1) L x.2 h2;have sl:=z0p (T:=T) st;by_cases k1:(Zby x.1:Int)<=L
 ·by_cases k2:(Zby x.2:Int)<=L
  ·have f1:Zhz x L=true:=by simp[Zhz,k1,k2]
   have f2:Zh0 x L st=st:=by simp only[Zh0,k1,k2];rfl
   have f3:Zjk x L s=Zbg (Zbg s):=by simp only[Zjk,k1,if_true]
   have f4:pkD x L p=Zbn (Zbn p x.1) x.2:=by simp only[pkD,k1,if_true]
   rw[decide_eq_true k1]at g1;rw[decide_eq_true k2]at g2;rw[f1,f2,f3,f4];clear f1 f2 f3 f4 k1 k2;generalize Zbg (Zbg s)=s2 at *
   generalize Zbg s=s1 at *
   generalize Zbn (Zbn p x.1) x.2=p2 at *
   generalize Zbn p x.1=p1 at *
   rw[zad Z6.h450 rfl,b450];simp -implicitDefEqProofs[g1,g2]
  ·have f1:Zhz x L=false:=by simp[Zhz,k2]
   have f2:Zh0 x L st=1:=by unfold Zh0;rw[if_pos ⟨k1,k2⟩]
   have f3:Zjk x L s=Zbg (Zbg s):=by simp only[Zjk,k1,if_true]
   have f4:pkD x L p=Zbn (Zbn p x.1) x.2:=by simp only[pkD,k1,if_true]
   rw[decide_eq_true k1]at g1;rw[decide_eq_false k2]at g2;rw[f1,f2,f3,f4];clear f1 f2 f3 f4 k1 k2;generalize Zbg (Zbg s)=s2 at *
   generalize Zbg s=s1 at *
   generalize Zbn (Zbn p x.1) x.2=p2 at *
   generalize Zbn p x.1=p1 at *
   rw[zad Z6.h450 rfl,b450];simp -implicitDefEqProofs[g1,g2,sl]
 ·have f1:Zhz x L=false:=by simp[Zhz,k1]
  have f2:Zh0 x L st=st:=by unfold Zh0;rw[if_neg (fun h=>k1 h.1)]
  have f3:Zjk x L s=Zbg s:=by unfold Zjk;rw[if_neg k1]
  have f4:pkD x L p=Zbn p x.1:=by unfold pkD;rw[if_neg k1]
  rw[decide_eq_false k1]at g1;rw[f1,f2,f3,f4];clear f1 f2 f3 f4 k1 g2;generalize Zbg s=s1 at *
  generalize Zbn p x.1=p1 at *
  rw[zad Z6.h450 rfl,b450];simp -implicitDefEqProofs[g1]
end
abbrev Zp3(T:Tbl)(g:Nat):Box:=⟨g,.str,2,[[.ptr (.bor 0) 0 3 0 0,.fnp (Zf T 500424) (.bor 1) 1 1 0 0]]⟩
abbrev Zp4(g:Nat)(x:PoD):Box:=⟨g,.str,8,[[.b x.t.1.1,.sl (Zb x.t.1.2.1) .an,.sl (Zb x.t.1.2.2) .an,.b x.t.2.1,.sl (Zb x.t.2.2.1) .an,.sl (Zb x.t.2.2.2) .an,.sl (Zcv x.y) .an,.sl (Zcv x.p) .an]]⟩
def Zhn(T:Tbl)(Q:PoD)(L:Int)(code:List Ins)(i:Nat)(D:List Du)(s p:Int)(kd:Kind):St:=
 ⟨[(3,.ptr (.loc 3) 5 2 0 0),(5,.ptr (.loc 5) 6 8 0 0),(7,.ptr (.loc 7) 7 4 0 0),(8,.bs (.loc 8) 8 6 0 i),(34,.sl (Zcw code) .an),(35,.i .i64 code.length),(36,.i .i64 i)],
  [(.bor 0,bxG 0 s p L),(.bor 1,Zgh 1 0),(.loc 3,Zp3 T 5),(.loc 5,Zp4 6 Q),(.loc 7,bxF 7 0 0 0 0),(.loc 8,⟨8,kd,6,Zcv D⟩)],10⟩
def Zlp(n:Nat)(D:List Du)(s p L:Int)(kd:Kind):Ex×St:=(.n,⟨[(7,.ptr (.loc 7) 5 4 0 0),(8,.bs (.loc 8) 6 6 0 n)],[(.bor 0,bxG 0 s p L),(.bor 1,Zgh 1 0),(.loc 7,bxF 5 0 0 0 0),(.loc 8,⟨6,kd,6,Zcv D⟩)],8⟩)
def Zgi(kind at_ st s p L:Int):Ex×St:=(.r,⟨[(6,.sl [] .an),(7,.ptr (.loc 7) 5 4 0 0)],[(.bor 0,bxG 0 s p L),(.bor 1,Zgh 1 st),(.loc 7,bxF 5 kind 0 0 at_)],7⟩)
section
variable{T:Tbl}[Z2 T][Zr T][Zv T][Zw T][Zq T][Zo T][Ze T][Zh T][Zs T][Z0 T][Z5 T][Zbk T][Z7 T][Z3 T][Zak T][Z6 T][Zfm T][Zdl T]
def z4a{kd:Kind}(hk:kd=.own\/kd=.sh)(x:Ins)(Q:PoD)(L:Int)(code:List Ins)(i:Nat)(D:List Du)(s p s' p':Int)(v:Du)(hi:i<code.length)(hc:code.length<=1000)(hg:code[i]? = some x)(hdl:D.length=i)
  (c:Za T 432 [mD2,.agg (Zdn x),epd Q,.sl (Zcv D) .an]=some (.tup [edu v,.b true]))
  (hf:Z1 T 450 [duM T,edu v] [(.bor 0,bxG 0 s p L),(.bor 1,Zgh 1 0)]=some (.b true,[(.bor 0,bxG 0 s' p' L),(.bor 1,Zgh 1 0)])) :
  evX (orc T) T 2 l425_0 (Zhn T Q L code i D s p kd)=some (.n,Zhn T Q L code (i+1) (D++[v]) s' p' .sh):=by
 have hws:=zbc hi (by omega);have hge:=(Yb.1 hg).2;have ht:List.take i D=D:=Yc (by omega);have hp:wkL (Zcv D++[Zl8 v])=Zcv (D++[v]):=by rw[zql,z1w]
 have hi':(i:Int)<code.length:=by omega
 have hb:i<=4294967295:=by omega
 unfold Zhn;obtain⟨⟨⟨q0,q1,q2⟩,⟨q3,q4,q5⟩⟩,qy,qp⟩:=Q;rcases hk with rfl | rfl<;>simp -implicitDefEqProofs[l425_0,hi,hi',hg,hge,hws,c,hf,hp,hdl,hb,ht]
def z8w{kd:Kind}(hk:kd=.own\/kd=.sh)(x:Ins)(Q:PoD)(L:Int)(code:List Ins)(i:Nat)(D:List Du)(s p:Int)(v:Du)(hi:i<code.length)(hc:code.length<=1000)(hg:code[i]? = some x)(hdl:D.length=i)
  (c:Za T 432 [mD2,.agg (Zdn x),epd Q,.sl (Zcv D) .an]=some (.tup [edu v,.b false])) :
  evX (orc T) T 2 l425_0 (Zhn T Q L code i D s p kd)=some (Zgi 3 i 0 s p L):=by
 have hge:=(Yb.1 hg).2;have ht:List.take i D=D:=Yc (by omega);have hi':(i:Int)<code.length:=by omega
 unfold Zhn Zgi;obtain⟨⟨⟨q0,q1,q2⟩,⟨q3,q4,q5⟩⟩,qy,qp⟩:=Q;rcases hk with rfl | rfl<;>simp -implicitDefEqProofs[l425_0,hi,hi',hg,hge,c,hdl,ht]
def z0q{kd:Kind}(hk:kd=.own\/kd=.sh)(x:Ins)(Q:PoD)(L:Int)(code:List Ins)(i:Nat)(D:List Du)(s p s' p' st:Int)(v:Du)(hi:i<code.length)(hc:code.length<=1000)(hg:code[i]? = some x)(hdl:D.length=i)
  (c:Za T 432 [mD2,.agg (Zdn x),epd Q,.sl (Zcv D) .an]=some (.tup [edu v,.b true]))
  (hf:Z1 T 450 [duM T,edu v] [(.bor 0,bxG 0 s p L),(.bor 1,Zgh 1 0)]=some (.b false,[(.bor 0,bxG 0 s' p' L),(.bor 1,Zgh 1 st)])) :
  evX (orc T) T 2 l425_0 (Zhn T Q L code i D s p kd)=some (Zgi 6 i st s' p' L):=by
 have hge:=(Yb.1 hg).2;have ht:List.take i D=D:=Yc (by omega);have hi':(i:Int)<code.length:=by omega
 unfold Zhn Zgi;obtain⟨⟨⟨q0,q1,q2⟩,⟨q3,q4,q5⟩⟩,qy,qp⟩:=Q;rcases hk with rfl | rfl<;>simp -implicitDefEqProofs[l425_0,hi,hi',hg,hge,c,hf,hdl,ht]
def zafg{kd:Kind}(hk:kd=.own\/kd=.sh)(Q:PoD)(L:Int)(code:List Ins)(D:List Du)(s p:Int):Ze6 (evX (orc T) T 2 l425_0 (Zhn T Q L code code.length D s p kd))=true /\
  Zdw 2 0 (.norm false [7,8]) (evX (orc T) T 2 l425_0 (Zhn T Q L code code.length D s p kd))=some (Zlp code.length D s p L kd):=by
 unfold Zhn Zlp;obtain⟨⟨⟨q0,q1,q2⟩,⟨q3,q4,q5⟩⟩,qy,qp⟩:=Q;rcases hk with rfl | rfl<;>constructor<;>simp -implicitDefEqProofs[l425_0]
def zr9(kind at_ st s p L:Int):Zdw 2 0 (.norm false [7,8]) (some (Zgi kind at_ st s p L))=some (Zgi kind at_ st s p L):=by
 unfold Zgi;simp -implicitDefEqProofs
def Zn3(R:List Rat×List Rat×Nat×Nat×Nat)(n:Nat)(lim:Nat)(r:Ex×St):Prop:=
 ∃s p:Int,(R.2.2.1=0/\∃kd:Kind,(kd=.own\/kd=.sh)/\r=Zlp n (Zab R.1 R.2.1) s p lim kd)\/(R.2.2.1≠0/\r=Zgi R.2.2.1 R.2.2.2.2 R.2.2.2.1 s p lim)
def z0r(P B:Po)(lim:Nat)(hlim:lim<=4096)(t:Tp)(ht:OkTp t)(hn:∀i∈t.code,fsz i.n<=1000)(hd:(P.y.length:Int)=t.dim)(hp:(P.p.length:Int)=t.par)(ly:P.y.length=B.y.length)(lp:P.p.length=B.p.length)(hP:PvS P 1000)(hB:PvS B 1000)(s p:Int) :
  ∃r,Zn3 (Zdd lim P B t.code [] []) t.code.length lim r/\Zx T 2 0 (.norm false [7,8]) l425_0 (Zhn T (dua P B) lim t.code 0 [] s p .own)=some r:=by
 have hc:=ht.cl;generalize hR:Zdd lim P B t.code [] []=R;have key:=zay (T:=T) (k:=2) (id:=0) (g2:=.norm false [7,8]) (c:=l425_0) (fun x:Nat×List Rat×List Rat×(Int×Int)×Kind=>Zhn T (dua P B) lim t.code x.1 (Zab x.2.1 x.2.2.1) x.2.2.2.1.1 x.2.2.2.1.2 x.2.2.2.2)
  (fun x=>x.1<=t.code.length/\x.2.1.length=x.1/\x.2.2.1.length=x.1/\(∀q∈x.2.1,sz q<=129)/\(∀q∈x.2.2.1,sz q<=129)/\(x.2.2.2.2=.own\/x.2.2.2.2=.sh)/\Zdd lim P B (t.code.drop x.1) x.2.1 x.2.2.1=R) (fun x=>t.code.length-x.1)
  (Zn3 R t.code.length lim) ?_ (0,[],[],(s,p),.own) ⟨Yx _,rfl,rfl,by simp,by simp,.inl rfl,hR⟩
 ·exact key
 rintro⟨i,V,S,⟨s,p⟩,kd⟩ ⟨hi,hVl,hSl,hV,hS,hk,hr⟩
 dsimp only at *
 by_cases hlt:i<t.code.length
 ·have hg:t.code[i]? = some (t.code[i]'hlt):=Ya hlt;have hmem:=Y7 hlt;have hm:=ht.may i _ hg;have hdr:t.code.drop i=t.code[i]'hlt::t.code.drop (i+1):=Yo hlt;generalize hx:t.code[i]'hlt=x at *
  rw[hdr,zfe]at hr;have hm':Zcj t.dim t.par V.length x=true:=by rw[hVl];exact hm
  obtain⟨w,c,hw⟩:=z8u (T:=T) x P B V S t.dim t.par hm' hd hp ly lp (hVl.trans hSl.symm) (hn x hmem) hV hS;have hfl:(Zab V S).length=i:=by rw[zau (hVl.trans hSl.symm),hVl]
  cases hok:(Zg P V x).2 with
  | false=>
   right;rw[hok]at c;rw[if_pos hok]at hr;have e:=z8w (T:=T) hk x (dua P B) lim t.code i (Zab V S) s p w hlt (by omega) hg hfl c;refine⟨_,⟨s,p,.inr ⟨?_,rfl⟩⟩,?_,?_⟩
   ·rw[<-hr];simp
   ·rw[e];rfl
   ·rw[e,zr9,<-hr,hVl];rfl
  | true=>
   rw[hok]at c;rw[hw hok]at c;rw[if_neg (by rw[hok];decide)]at hr;have hvs:sz (Zg P V x).1<=2000:=z05 hm' hP (hn x hmem) hV;have hv2:x.op=10\/x.op=11->sz (Zg P V x).1<=1100:=by
    intro h;have ga:=zc4 (D:=V) (a:=x.a) (B:=129) (by decide) hV;have gb:=zc4 (D:=V) (a:=x.b) (B:=129) (by decide) hV;rcases h with h | h
    ·have:=zfd (gI V x.a) (gI V x.b);simp[Zg,h];omega
    ·obtain⟨e1,e2⟩:=zsv hm' h;have h1:=zh1 ga e1 e2;by_cases hz:x.b<0/\gI V x.a=0
     ·simp[Zg,h,hz,zd6]
     ·simp only[Zg,h];simp only[hz];simp;omega
   have hss:sz (Zd B V S x (Zg P V x).1)<=2000:=z1y hm' hB hV hS _ hv2;have hf:=z8v (T:=T) s p lim 0 (fz (Zg P V x).1,fz (Zd B V S x (Zg P V x).1)) (by show fsz (fz _)<=_;rw[zar];omega) (by show fsz (fz _)<=_;rw[zar];omega);have q1:Zby (fz (Zg P V x).1)=Zbl (Zg P V x).1:=rfl;have q2:Zby (fz (Zd B V S x (Zg P V x).1))=Zbl (Zd B V S x (Zg P V x).1):=rfl;by_cases hfit:Zbl (Zg P V x).1<=lim
   ·rw[if_neg (by omega)]at hr;by_cases hfi2:Zbl (Zd B V S x (Zg P V x).1)<=lim
    ·left;rw[if_neg (by omega)]at hr;have f1:Zhz (fz (Zg P V x).1,fz (Zd B V S x (Zg P V x).1)) lim=true:=by unfold Zhz;dsimp only;rw[q1,q2];simp;omega
     have f2:Zh0 (fz (Zg P V x).1,fz (Zd B V S x (Zg P V x).1)) lim 0=0:=by unfold Zh0;rw[if_neg (fun h=>h.2 (by dsimp only;rw[q2];omega))]
     rw[f1,f2]at hf;have e:=z4a (T:=T) hk x (dua P B) lim t.code i (Zab V S) s p _ _ _ hlt (by omega) hg hfl c hf;refine⟨(i+1,V++[(Zg P V x).1],S++[Zd B V S x (Zg P V x).1],(Zjk (fz (Zg P V x).1,fz (Zd B V S x (Zg P V x).1)) lim s,pkD (fz (Zg P V x).1,fz (Zd B V S x (Zg P V x).1)) lim p),.sh),⟨by omega,by simp[hVl],by simp[hSl],fun q hq=>?_,fun q hq=>?_,.inr rfl,hr⟩,by show t.code.length-(i+1)<t.code.length-i;omega,?_⟩
     ·rcases Y6.1 hq with h | h
      ·exact hV q h
      ·rw[Yr.1 h];have:=ze8 hfit;have:lim/32<=128:=by omega
       omega
     ·rcases Y6.1 hq with h | h
      ·exact hS q h
      ·rw[Yr.1 h];have:=ze8 hfi2;have:lim/32<=128:=by omega
       omega
     ·rw[e,zqm _ _ (hVl.trans hSl.symm)]
    ·right;rw[if_pos (by omega)]at hr;have f1:Zhz (fz (Zg P V x).1,fz (Zd B V S x (Zg P V x).1)) lim=false:=by unfold Zhz;dsimp only;rw[q1,q2];simp;omega
     have f2:Zh0 (fz (Zg P V x).1,fz (Zd B V S x (Zg P V x).1)) lim 0=1:=by unfold Zh0;rw[if_pos ⟨by dsimp only;rw[q1];omega,by dsimp only;rw[q2];omega⟩]
     rw[f1,f2]at hf;generalize Zjk (fz (Zg P V x).1,fz (Zd B V S x (Zg P V x).1)) (lim:Int) s=c' at hf;generalize pkD (fz (Zg P V x).1,fz (Zd B V S x (Zg P V x).1)) (lim:Int) p=p' at hf;have e:=z0q (T:=T) hk x (dua P B) lim t.code i (Zab V S) s p _ _ _ _ hlt (by omega) hg hfl c hf;exact⟨Zgi 6 (i:Nat) 1 c' p' lim,⟨c',p',.inr ⟨by rw[<-hr];simp,by rw[<-hr,hVl];rfl⟩⟩,by rw[e];rfl,by rw[e,zr9]⟩
   ·right;rw[if_pos (by omega)]at hr;have f1:Zhz (fz (Zg P V x).1,fz (Zd B V S x (Zg P V x).1)) lim=false:=by unfold Zhz;dsimp only;rw[q1,q2];simp;omega
    have f2:Zh0 (fz (Zg P V x).1,fz (Zd B V S x (Zg P V x).1)) lim 0=0:=by unfold Zh0;rw[if_neg (fun h=>hfit (by have:=h.1;dsimp only at this;rw[q1]at this;omega))]
    rw[f1,f2]at hf;generalize Zjk (fz (Zg P V x).1,fz (Zd B V S x (Zg P V x).1)) (lim:Int) s=c' at hf;generalize pkD (fz (Zg P V x).1,fz (Zd B V S x (Zg P V x).1)) (lim:Int) p=p' at hf;have e:=z0q (T:=T) hk x (dua P B) lim t.code i (Zab V S) s p _ _ _ _ hlt (by omega) hg hfl c hf;exact⟨Zgi 6 (i:Nat) 0 c' p' lim,⟨c',p',.inr ⟨by rw[<-hr];simp,by rw[<-hr,hVl];rfl⟩⟩,by rw[e];rfl,by rw[e,zr9]⟩
 ·right;have hi2:i=t.code.length:=by omega
  subst hi2;rw[Yaf]at hr;have e:=zafg (T:=T) hk (dua P B) lim t.code (Zab V S) s p;have hr':R=(V,S,0,0,0):=hr.symm;rw[hr'];exact⟨_,⟨s,p,.inl ⟨rfl,kd,hk,rfl⟩⟩,e.1,e.2⟩
end
theorem znf:∀(V S:List Rat),(fzs V).zip (fzs S)=Zab V S
 | [],[]=>rfl
 | [],_::_=>rfl
 | _::_,[]=>rfl
 | v::V,s::S=>by
  have:=znf V S;show (fz v,fz s)::(fzs V).zip (fzs S)=_;rw[this]
  rfl
def Zc8(lim:Nat)(t:Tp)(P B:Po):List Rat×List Rat×Nat×Nat×Nat:=
 if (Zac lim t P B).2.2.1=0 then (Zjd t (Zac lim t P B).1,Zjd t (Zac lim t P B).2.1,0,0,0) else ([],[],(Zac lim t P B).2.2)
theorem z0s{lim:Nat}{P B:Po}{K:Nat}(hlim:lim/32+1<=K):∀(l:List Ins) (V S:List Rat),(∀q∈V,sz q<=K)->(∀q∈S,sz q<=K)->(∀q∈(Zdd lim P B l V S).1,sz q<=K)/\∀q∈(Zdd lim P B l V S).2.1,sz q<=K
 | [],V,S,h1,h2=>⟨h1,h2⟩
 | i::r,V,S,h1,h2=>by
  rw[zfe];split
  ·simp
  ·split
   ·simp
   ·split
    ·simp
    ·rename_i f1 f2 f3;refine z0s hlim r _ _ (fun q hq=>?_) (fun q hq=>?_)
     ·rcases Y6.1 hq with hq | hq
      ·exact h1 q hq
      ·rw[Yr.1 hq];have:=ze8 (q:=(Zg P V i).1) (b:=lim) (by omega);omega
     ·rcases Y6.1 hq with hq | hq
      ·exact h2 q hq
      ·rw[Yr.1 hq];have:=ze8 (q:=Zd B V S i (Zg P V i).1) (b:=lim) (by omega);omega
def z0t{lim:Nat}{t:Tp}{P B:Po}(hlim:lim/32+1<=48):(∀q∈(Zc8 lim t P B).1,sz q<=48)/\∀q∈(Zc8 lim t P B).2.1,sz q<=48:=by
 have hp:(∀q∈(Zac lim t P B).1,sz q<=48)/\∀q∈(Zac lim t P B).2.1,sz q<=48:=by
  unfold Zac;split
  ·exact z0s hlim _ _ _ (by simp) (by simp)
  ·simp
 unfold Zc8;split
 ·constructor
  ·intro q hq;obtain⟨o,_,rfl⟩:=Yu.1 hq;exact zc4 (by decide) hp.1
  ·intro q hq;obtain⟨o,_,rfl⟩:=Yu.1 hq;exact zc4 (by decide) hp.2
 ·simp
def Zkd(V S:List Fz)(i:Nat):St:=
 ⟨[(1,.sl (Zc S) .an),(6,.bs (.loc 6) 1 6 0 i),(14,.sl (Zc V) .an),(15,.i .i64 V.length),(16,.i .i64 i)],[(.loc 6,⟨1,.own,6,Zcv ((V.zip S).take i)⟩)],3⟩
section
variable{T:Tbl}[Z2 T][Zr T][Zv T][Zw T][Zq T][Zo T][Ze T][Zh T][Zs T][Z0 T][Z5 T][Zbk T][Z7 T][Z3 T][Zak T][Z6 T][Zfm T][Zdl T]
def z0u(V S:List Fz)(hl:V.length=S.length)(hb:V.length<=1000) :
  Zx T 0 0 (.norm false [6]) l423_0 (Zkd V S 0)=some (.n,⟨[(6,.bs (.loc 6) 1 6 0 V.length)],[(.loc 6,⟨1,.own,6,Zcv (V.zip S)⟩)],3⟩):=by
 have zl:(V.zip S).length=V.length:=by rw[List.length_zip];omega
 refine zao (fun i=>Zkd V S i) V.length _ (fun i hi=>?_) ?_
 ·have hg:V[i]? = some (V[i]'hi):=Ya hi;have hge:=(Yb.1 hg).2;have hs:i<S.length:=by omega
  have hg2:S[i]? = some (S[i]'hs):=Ya hs;have hge2:=(Yb.1 hg2).2;have hws:=zbc hi (by omega);have hx:(V.zip S)[i]? = some (V[i]'hi,S[i]'hs):=by rw[Ya (by omega),List.getElem_zip]
  have e:(V.zip S).take (i+1)=(V.zip S).take i++[(V[i]'hi,S[i]'hs)]:=by
   rw[Ycd,hx]
   rfl
  have hml:((V.zip S).take i).length=i:=by rw[Yae];omega
  have hp:=z1x (m:=(V.zip S).take i) hml (V[i]'hi,S[i]'hs);have hi':(i:Int)<V.length:=by omega
  have hs':(i:Int)<S.length:=by omega
  have hb':i<=4294967295:=by omega
  show evX (orc T) T 0 l423_0 (Zkd _ _ i)=some (.n,Zkd _ _ (i+1));unfold Zkd;rw[e];clear e hx;generalize (V.zip S).take i=M at *
  generalize V[i]'hi=v at *
  generalize S[i]'hs=s at *
  simp -implicitDefEqProofs[l423_0,hi,hi',hs,hs',hg,hge,hg2,hge2,hws,hp,hml,hb']
 ·have e:(V.zip S).take V.length=V.zip S:=Yc (by omega);show Ze6 (evX (orc T) T 0 l423_0 (Zkd _ _ V.length))=true/\Zdw 0 0 _ (evX (orc T) T 0 l423_0 (Zkd _ _ V.length))=_;unfold Zkd;rw[e];generalize V.zip S=M at *
  constructor<;>simp -implicitDefEqProofs[l423_0]
def zpz(V S:List Fz)(hb:V.length<=1000) :
  Za T 423 [.sl (Zc V) .an,.sl (Zc S) .an]=some (if V.length=S.length then .tup [.sl (Zcv (V.zip S)) .an,.b true] else .tup [.sl [] .an,.b false]):=by
 by_cases hl:V.length=S.length
 ·rw[if_pos hl];have h:=z0u (T:=T) V S hl hb;unfold Zkd at h;simp only[Ym,Yb9,zns]at h;have zl:(V.zip S).length=V.length:=by rw[List.length_zip];omega
  have hl':(V.length:Int)=S.length:=by omega
  have ht:(V.zip S).take V.length=V.zip S:=Yc (by omega);generalize V.zip S=M at *
  rw[zaa Z6.h423 rfl,b423];simp -implicitDefEqProofs[h,hl.symm,zl,ht]
 ·rw[if_neg hl];have hl':¬ (V.length:Int)=S.length:=by omega
  rw[zaa Z6.h423 rfl,b423];simp -implicitDefEqProofs[hl,hl']
def zafh(t:Tp)(Q:PoD)(hs:TpS t)(s p L:Int)(h:Zfu t Q.y.length Q.p.length=false) :
  Z1 T 425 [duM T,etp t,epd Q] [(.bor 0,bxG 0 s p L),(.bor 1,Zgh 1 0)]=some (.tup [.sl [] .an,Zdg 2 0 0 0],[(.bor 0,bxG 0 s p L),(.bor 1,Zgh 1 0)]):=by
 have hr:=zdj (T:=T) t hs.small;unfold Zfu at h;rw[zad Z6.h425 rfl,b425];obtain⟨⟨⟨q0,q1,q2⟩,⟨q3,q4,q5⟩⟩,qy,qp⟩:=Q;dsimp only at h;cases hok:okT t with
 | false=>
  rw[hok]at hr;obtain⟨code,outs,dim,par⟩:=t;simp -implicitDefEqProofs[hr]
 | true=>
  rw[hok]at hr h;obtain⟨code,outs,dim,par⟩:=t;dsimp only at *
  by_cases h1:(qy.length:Int)=dim
  ·by_cases h2:(qp.length:Int)=par
   ·simp[h1,h2]at h
   ·simp -implicitDefEqProofs[hr,h1,h2]
  ·simp -implicitDefEqProofs[hr,h1]
def z4b(t:Tp)(P B:Po)(hs:TpS t)(lim:Nat)(hlim:lim<=4096)(s p:Int)(hP:PvS P 1000)(hB:PvS B 1000)(ly:P.y.length=B.y.length)(lp:P.p.length=B.p.length)(h:Zfu t P.y.length P.p.length=true)(hk:(Zdd lim P B t.code [] []).2.2.1=0) :
  ∃(s' p':Int) (kd:Kind),(kd=.own\/kd=.sh)/\Z1 T 425 [duM T,etp t,epd (dua P B)] [(.bor 0,bxG 0 s p lim),(.bor 1,Zgh 1 0)] =
   some (.tup [.bs (.loc 8) 5 6 0 t.code.length,Zdg 0 0 0 0],[(.bor 0,bxG 0 s' p' lim),(.bor 1,Zgh 1 0),(.loc 8,⟨5,kd,6,Zcv (Zab (Zdd lim P B t.code [] []).1 (Zdd lim P B t.code [] []).2.1)⟩)]):=by
 obtain⟨hok,h1,h2⟩:=zc0 h;have hr:=zdj (T:=T) t hs.small;obtain⟨r,⟨s',p',hend⟩,hl⟩:=z0r (T:=T) P B lim hlim t hok hs.ns h1 h2 ly lp hP hB s p;rw[(zk3 t).2 hok]at hr;rcases hend with ⟨_,kd,hkd,rfl⟩ | ⟨hne,_⟩
 ·unfold Zhn Zlp at hl;have e0:Zab [] []=[]:=rfl;simp only[Ym,e0,zns]at hl;have hy:(Zab P.y B.y).length=P.y.length:=zau ly;have hp':(Zab P.p B.p).length=P.p.length:=zau lp;unfold dua at *
  generalize Zab (Zdd lim P B t.code [] []).1 (Zdd lim P B t.code [] []).2.1=D at *
  generalize Zab P.y B.y=Y at *
  generalize Zab P.p B.p=PP at *
  generalize fz P.t=tt at *
  generalize fz B.t=tt' at *
  obtain⟨code,outs,dim,par⟩:=t;dsimp only at *
  refine⟨s',p',kd,hkd,?_⟩;rw[zad Z6.h425 rfl,b425];rcases hkd with rfl | rfl
  ·simp -implicitDefEqProofs[hr,h1,h2,hy,hp',hl]
  ·simp -implicitDefEqProofs[hr,h1,h2,hy,hp',hl]
 ·exact absurd hk hne
def z4c(t:Tp)(P B:Po)(hs:TpS t)(lim:Nat)(hlim:lim<=4096)(s p:Int)(hP:PvS P 1000)(hB:PvS B 1000)(ly:P.y.length=B.y.length)(lp:P.p.length=B.p.length)(h:Zfu t P.y.length P.p.length=true)(hk:¬ (Zdd lim P B t.code [] []).2.2.1=0) :
  ∃(s' p':Int),Z1 T 425 [duM T,etp t,epd (dua P B)] [(.bor 0,bxG 0 s p lim),(.bor 1,Zgh 1 0)] =
   some (.tup [.sl [] .an,Zdg (Zdd lim P B t.code [] []).2.2.1 0 0 (Zdd lim P B t.code [] []).2.2.2.2],[(.bor 0,bxG 0 s' p' lim),(.bor 1,Zgh 1 (Zdd lim P B t.code [] []).2.2.2.1)]):=by
 obtain⟨hok,h1,h2⟩:=zc0 h;have hr:=zdj (T:=T) t hs.small;obtain⟨r,⟨s',p',hend⟩,hl⟩:=z0r (T:=T) P B lim hlim t hok hs.ns h1 h2 ly lp hP hB s p;rw[(zk3 t).2 hok]at hr;rcases hend with ⟨h0,_⟩ | ⟨_,rfl⟩
 ·exact absurd h0 hk
 ·unfold Zhn Zgi at hl;have e0:Zab [] []=[]:=rfl;simp only[Ym,e0,zns]at hl;have hy:(Zab P.y B.y).length=P.y.length:=zau ly;have hp':(Zab P.p B.p).length=P.p.length:=zau lp;unfold dua at *
  generalize (((Zdd lim P B t.code [] []).2.2.1:Nat):Int)=kk at *
  generalize (((Zdd lim P B t.code [] []).2.2.2.1:Nat):Int)=st at *
  generalize (((Zdd lim P B t.code [] []).2.2.2.2:Nat):Int)=aa at *
  generalize Zab P.y B.y=Y at *
  generalize Zab P.p B.p=PP at *
  generalize fz P.t=tt at *
  generalize fz B.t=tt' at *
  obtain⟨code,outs,dim,par⟩:=t;dsimp only at *
  refine⟨s',p',?_⟩;rw[zad Z6.h425 rfl,b425];simp -implicitDefEqProofs[hr,h1,h2,hy,hp',hl]
end
section
variable{T:Tbl}[Z2 T][Zr T][Zv T][Zw T][Zq T][Zo T][Ze T][Zh T][Zs T][Z0 T][Z5 T][Zbk T][Z7 T][Z3 T][Zak T][Z6 T][Zfm T][Zdl T]
def z0v(t:Tp)(x y:PoF)(bits:Int)(hs:TpS t)(hx:PoS x 1000)(hy:PoS y 1000) :
  Za T 408 [etp t,ept x,ept y,.i .i64 bits]=some (.tup [.sl (Zcv (Zab (Zac (Zj bits) t x.v y.v).1 (Zac (Zj bits) t x.v y.v).2.1)) .an,
   Zdg (Zac (Zj bits) t x.v y.v).2.2.1 0 (Zac (Zj bits) t x.v y.v).2.2.2.1 (Zac (Zj bits) t x.v y.v).2.2.2.2]):=by
 have hn:=zg3 (T:=T) x hx;have hn2:=zg3 (T:=T) y hy;have hg:=zg2 (T:=T) bits;obtain⟨hl1,hl2⟩:=zt7 bits;rw[hl1]at hg;have hP:=z86 hx;have hB:=z86 hy;have xl:x.v.y.length=x.y.length:=Y3 _;have xp:x.v.p.length=x.p.length:=Y3 _;have p1:=zpz (T:=T) x.v.f.y y.v.f.y (by show (fzs _).length<=_;rw[zaf,xl];exact hx.yl);have p2:=zpz (T:=T) x.v.f.p y.v.f.p (by show (fzs _).length<=_;rw[zaf,xp];exact hx.pl);have z1:x.v.f.y.zip y.v.f.y=Zab x.v.y y.v.y:=znf _ _;have z2:x.v.f.p.zip y.v.f.p=Zab x.v.p y.v.p:=znf _ _;have l1:x.v.f.y.length=x.v.y.length/\y.v.f.y.length=y.v.y.length:=⟨zaf _,zaf _⟩;have l2:x.v.f.p.length=x.v.p.length/\y.v.f.p.length=y.v.p.length:=⟨zaf _,zaf _⟩;rw[z1,l1.1,l1.2]at p1;rw[z2,l2.1,l2.2]at p2;have ed:dua x.v y.v=⟨(x.v.f.t,y.v.f.t),Zab x.v.y y.v.y,Zab x.v.p y.v.p⟩:=rfl;by_cases a1:x.v.y.length=y.v.y.length
 ·rw[if_pos a1]at p1;by_cases a2:x.v.p.length=y.v.p.length
  ·rw[if_pos a2]at p2;cases hf:Zfu t x.v.y.length x.v.p.length with
   | false=>
    have e:Zac (Zj bits) t x.v y.v=([],[],2,0,0):=by unfold Zac;rw[if_neg (fun h=>by rw[hf]at h;exact absurd h.2.2 (by decide))]
    have hm:=zafh (T:=T) t (dua x.v y.v) hs 0 0 (Zj bits) (by rw[ed];dsimp only;rw[zau a1,zau a2];exact hf);rw[e];have e0:Zab [] []=[]:=rfl;dsimp only;rw[ed]at hm;rw[e0,zaa Z6.h408 rfl,b408];clear e ed z1 z2 l1 l2 hP hB xl xp hf hl1 hl2 hx hy hs a1 a2;generalize Zab x.v.y y.v.y=Zy at *
    generalize Zab x.v.p y.v.p=Zp at *
    generalize x.v.f=X at *
    generalize y.v.f=Y at *
    obtain⟨code,outs,dim,par⟩:=t;obtain⟨⟨q0,q1,q2⟩,qy,qp⟩:=X;obtain⟨⟨r0,r1,r2⟩,ry,rp⟩:=Y;obtain⟨⟨x0,x1,x2⟩,xy,xp⟩:=x;obtain⟨⟨y0,y1,y2⟩,yy,yp⟩:=y;dsimp only at *
    simp -implicitDefEqProofs[hn,hn2,hg,hm,p1,p2]
   | true=>
    have e:Zac (Zj bits) t x.v y.v=Zdd (Zj bits) x.v y.v t.code [] []:=by unfold Zac;rw[if_pos ⟨a1,a2,hf⟩]
    rw[e];by_cases hk:(Zdd (Zj bits) x.v y.v t.code [] []).2.2.1=0
    ·obtain⟨s',p',kd,hkd,hm⟩:=z4b (T:=T) t x.v y.v hs (Zj bits) hl2 0 0 hP hB a1 a2 hf hk;obtain⟨V',S',e1,e2,e3,_⟩:=zss (Zj bits) x.v y.v t.dim t.par t.code [] [] rfl (fun k i hi=>by
      have:=(zc0 hf).1.may k i hi
      rwa [Yab,Yad]) hk
     rw[Yal,Yal]at e1;rw[e1]at hm ⊢;dsimp only at hm ⊢;have hfl:(Zab V' S').length=t.code.length:=by rw[zau (e2.trans e3.symm),e2]
     have ht:List.take t.code.length (Zab V' S')=Zab V' S':=Yc (by omega);rw[ed]at hm;rw[zaa Z6.h408 rfl,b408];clear e e1 e2 e3 hk ed z1 z2 l1 l2 hP hB xl xp hf hl1 hl2 hx hy hs a1 a2;generalize Zab V' S'=D at *
     generalize Zab x.v.y y.v.y=Zy at *
     generalize Zab x.v.p y.v.p=Zp at *
     generalize x.v.f=X at *
     generalize y.v.f=Y at *
     obtain⟨code,outs,dim,par⟩:=t;obtain⟨⟨q0,q1,q2⟩,qy,qp⟩:=X;obtain⟨⟨r0,r1,r2⟩,ry,rp⟩:=Y;obtain⟨⟨x0,x1,x2⟩,xy,xp⟩:=x;obtain⟨⟨y0,y1,y2⟩,yy,yp⟩:=y;dsimp only at *
     rcases hkd with rfl | rfl
     ·simp -implicitDefEqProofs[hn,hn2,hg,hm,p1,p2,hfl,ht]
     ·simp -implicitDefEqProofs[hn,hn2,hg,hm,p1,p2,hfl,ht]
    ·obtain⟨s',p',hm⟩:=z4c (T:=T) t x.v y.v hs (Zj bits) hl2 0 0 hP hB a1 a2 hf hk;have en:∀(l:List Ins) (V S:List Rat),¬ (Zdd (Zj bits) x.v y.v l V S).2.2.1=0->Zab (Zdd (Zj bits) x.v y.v l V S).1 (Zdd (Zj bits) x.v y.v l V S).2.1=[]:=by
      intro l
      induction l with
      | nil=>intro V S h;exact absurd rfl h
      | cons i r ih=>
       intro V S h;rw[zfe]at h ⊢;split
       ·rfl
       ·rename_i h1;rw[if_neg h1]at h;split
        ·rfl
        ·rename_i h2;rw[if_neg h2]at h;split
         ·rfl
         ·rename_i h3;rw[if_neg h3]at h;exact ih _ _ h
     rw[en _ _ _ hk];rw[ed]at hm;rw[zaa Z6.h408 rfl,b408];clear en e hk ed z1 z2 l1 l2 hP hB xl xp hf hl1 hl2 hx hy hs a1 a2;generalize (((Zdd (Zj bits) x.v y.v t.code [] []).2.2.1:Nat):Int)=kk at *
     generalize (((Zdd (Zj bits) x.v y.v t.code [] []).2.2.2.1:Nat):Int)=st at *
     generalize (((Zdd (Zj bits) x.v y.v t.code [] []).2.2.2.2:Nat):Int)=aa at *
     generalize Zab x.v.y y.v.y=Zy at *
     generalize Zab x.v.p y.v.p=Zp at *
     generalize x.v.f=X at *
     generalize y.v.f=Y at *
     obtain⟨code,outs,dim,par⟩:=t;obtain⟨⟨q0,q1,q2⟩,qy,qp⟩:=X;obtain⟨⟨r0,r1,r2⟩,ry,rp⟩:=Y;obtain⟨⟨x0,x1,x2⟩,xy,xp⟩:=x;obtain⟨⟨y0,y1,y2⟩,yy,yp⟩:=y;dsimp only at *
     simp -implicitDefEqProofs[hn,hn2,hg,hm,p1,p2]
  ·rw[if_neg a2]at p2;have e:Zac (Zj bits) t x.v y.v=([],[],2,0,0):=by unfold Zac;rw[if_neg (fun h=>a2 h.2.1)]
   rw[e];have e0:Zab [] []=[]:=rfl;dsimp only;rw[e0,zaa Z6.h408 rfl,b408];clear e ed z1 z2 l1 l2 hP hB xl xp hl1 hl2 hx hy hs a1 a2;generalize Zab x.v.y y.v.y=Zy at *
   generalize x.v.f=X at *
   generalize y.v.f=Y at *
   obtain⟨code,outs,dim,par⟩:=t;obtain⟨⟨q0,q1,q2⟩,qy,qp⟩:=X;obtain⟨⟨r0,r1,r2⟩,ry,rp⟩:=Y;obtain⟨⟨x0,x1,x2⟩,xy,xp⟩:=x;obtain⟨⟨y0,y1,y2⟩,yy,yp⟩:=y;dsimp only at *
   simp -implicitDefEqProofs[hn,hn2,p1,p2]
 ·rw[if_neg a1]at p1;have e:Zac (Zj bits) t x.v y.v=([],[],2,0,0):=by unfold Zac;rw[if_neg (fun h=>a1 h.1)]
  rw[e];have e0:Zab [] []=[]:=rfl;dsimp only;have p2':∃(Z:List Du) (b:Bool),Za T 423 [.sl (Zc x.v.f.p) .an,.sl (Zc y.v.f.p) .an]=some (.tup [.sl (Zcv Z) .an,.b b]):=by
   by_cases a2:x.v.p.length=y.v.p.length
   ·rw[if_pos a2]at p2;exact⟨_,_,p2⟩
   ·rw[if_neg a2]at p2;exact⟨[],_,p2⟩
  obtain⟨Z,b,p2'⟩:=p2';rw[e0,zaa Z6.h408 rfl,b408];clear e ed z1 z2 l1 l2 hP hB xl xp hl1 hl2 hx hy hs a1 p2;generalize x.v.f=X at *
  generalize y.v.f=Y at *
  obtain⟨code,outs,dim,par⟩:=t;obtain⟨⟨q0,q1,q2⟩,qy,qp⟩:=X;obtain⟨⟨r0,r1,r2⟩,ry,rp⟩:=Y;obtain⟨⟨x0,x1,x2⟩,xy,xp⟩:=x;obtain⟨⟨y0,y1,y2⟩,yy,yp⟩:=y;dsimp only at *
  cases b<;>simp -implicitDefEqProofs[hn,hn2,p1,p2']
end
section
variable{T:Tbl}[Z2 T][Zr T][Zv T][Zw T][Zq T][Zo T][Ze T][Zh T][Zs T][Z0 T][Z5 T][Zbk T][Z7 T][Z3 T][Zak T][Z6 T][Zfm T][Zdl T]
def Zke(D:List Du)(outs:List Int)(A C:List Fz)(i:Nat):St:=
 ⟨[(8,.bs (.loc 8) 1 3 0 i),(9,.bs (.loc 9) 2 3 0 i),(10,.ptr (.loc 10) 3 4 0 0),(11,.sl (Zcv D) .an),(27,.sl (ints outs) .an),(28,.i .i64 outs.length),(29,.i .i64 i)],
  [(.loc 8,⟨1,.own,3,Zc (A.take i)⟩),(.loc 9,⟨2,.own,3,Zc (C.take i)⟩),(.loc 10,bxF 3 0 0 0 0)],5⟩
def zwl(V S:List Rat)(outs:List Int)(hl:V.length=S.length)(ho:outs.length<=1000)(hr:∀o∈outs,0<=o/\o<V.length) :
  Zx T 0 0 (.norm false [8,9,10]) l388_0 (Zke (Zab V S) outs (fzs (outs.map (gI V))) (fzs (outs.map (gI S))) 0) =
   some (.n,⟨[(8,.bs (.loc 8) 1 3 0 outs.length),(9,.bs (.loc 9) 2 3 0 outs.length),(10,.ptr (.loc 10) 3 4 0 0)],
    [(.loc 8,⟨1,.own,3,Zc (fzs (outs.map (gI V)))⟩),(.loc 9,⟨2,.own,3,Zc (fzs (outs.map (gI S)))⟩),(.loc 10,bxF 3 0 0 0 0)],5⟩):=by
 have el:∀V:List Rat,(fzs (outs.map (gI V))).length=outs.length:=fun V=>by rw[zaf,Y3]
 refine zao (fun i=>Zke (Zab V S) outs (fzs (outs.map (gI V))) (fzs (outs.map (gI S))) i) outs.length _ (fun i hi=>?_) ?_
 ·have hg:outs[i]? = some (outs[i]'hi):=Ya hi;have hge:=(Yb.1 hg).2;have hws:=zbc hi (by omega);have hmem:=Y7 hi;obtain⟨k,hk1,hk2,hk3,hka⟩:=zky (hr _ hmem) hl;have hkae:=(Yb.1 hka).2;have step:∀V:List Rat,(fzs (outs.map (gI V))).take (i+1)=(fzs (outs.map (gI V))).take i++[fz (gI V (outs[i]'hi))]:=fun V=>by
   have hx:(fzs (outs.map (gI V)))[i]? = some (fz (gI V (outs[i]'hi))):=zh0 (by simp[hg]);rw[Ycd,hx]
   rfl
  have hml:∀V:List Rat,((fzs (outs.map (gI V))).take i).length=i:=fun V=>by rw[Yae,el];omega
  have hp1:=zd9 (hml V) (fz (gI V (outs[i]'hi)));have hp2:=zd9 (hml S) (fz (gI S (outs[i]'hi)));have m1:=hml V;have m2:=hml S;have hfl:(Zab V S).length=V.length:=zau hl;have hi':(i:Int)<outs.length:=by omega
  have hb:i<=4294967295:=by omega
  show evX (orc T) T 0 l388_0 (Zke _ _ _ _ i)=some (.n,Zke _ _ _ _ (i+1));unfold Zke;rw[step V,step S];clear step hml el;generalize (fzs (outs.map (gI V))).take i=M at *
  generalize (fzs (outs.map (gI S))).take i=N at *
  generalize fz (gI V (outs[i]'hi))=z at *
  generalize fz (gI S (outs[i]'hi))=z' at *
  generalize Zab V S=DD at *
  generalize outs[i]'hi=o at *
  subst hk1;simp -implicitDefEqProofs[l388_0,hi,hi',hg,hge,hws,hk2,hk3,hka,hkae,hfl,hp1,hp2,m1,m2,hb]
 ·have e:∀V:List Rat,(fzs (outs.map (gI V))).take outs.length=fzs (outs.map (gI V)):=fun V=>Yc (by rw[el];omega);show Ze6 (evX (orc T) T 0 l388_0 (Zke _ _ _ _ outs.length))=true/\Zdw 0 0 _ (evX (orc T) T 0 l388_0 (Zke _ _ _ _ outs.length))=_;unfold Zke;rw[e V,e S];generalize fzs (outs.map (gI V))=M at *
  generalize fzs (outs.map (gI S))=N at *
  generalize Zab V S=DD at *
  constructor<;>simp -implicitDefEqProofs[l388_0]
def zwm(t:Tp)(x y:PoF)(bits:Int)(hs:TpS t)(hx:PoS x 1000)(hy:PoS y 1000) :
  Za T 388 [etp t,ept x,ept y,.i .i64 bits]=some (.tup [.sl (Zc (fzs (Zc8 (Zj bits) t x.v y.v).1)) .an,.sl (Zc (fzs (Zc8 (Zj bits) t x.v y.v).2.1)) .an,
   Zdg (Zc8 (Zj bits) t x.v y.v).2.2.1 0 (Zc8 (Zj bits) t x.v y.v).2.2.2.1 (Zc8 (Zj bits) t x.v y.v).2.2.2.2]):=by
 have h:=z0v (T:=T) t x y bits hs hx hy;have e0:fzs []=[]:=rfl;unfold Zc8;by_cases hk:(Zac (Zj bits) t x.v y.v).2.2.1=0
 ·obtain⟨hok,_,_,_,_,e1,_,n1,n2,_,_⟩:=z5a hk;rw[if_pos hk];rw[e1]at h;have hl:=zwl (T:=T) (Zac (Zj bits) t x.v y.v).1 (Zac (Zj bits) t x.v y.v).2.1 t.outs (n1.trans n2.symm) (by have:=hok.ol;have:=hok.d2;omega) (fun o ho=>by rw[n1];exact hok.outs o ho);unfold Zke at hl;simp only[Ym,Yb9,zdd]at hl;have el:∀V:List Rat,(fzs (t.outs.map (gI V))).length=t.outs.length:=fun V=>by rw[zaf,Y3]
  have f1:=el (Zac (Zj bits) t x.v y.v).1;have f2:=el (Zac (Zj bits) t x.v y.v).2.1;unfold Zjd;dsimp only at h ⊢;clear e1 n1 n2 hk hok el hs hx hy;generalize fzs (t.outs.map (gI (Zac (Zj bits) t x.v y.v).1))=A at *
  generalize fzs (t.outs.map (gI (Zac (Zj bits) t x.v y.v).2.1))=C at *
  generalize Zab (Zac (Zj bits) t x.v y.v).1 (Zac (Zj bits) t x.v y.v).2.1=D at *
  have t1:List.take t.outs.length A=A:=Yc (by omega);have t2:List.take t.outs.length C=C:=Yc (by omega);obtain⟨code,outs,dim,par⟩:=t;obtain⟨⟨x0,x1,x2⟩,xy,xp⟩:=x;obtain⟨⟨y0,y1,y2⟩,yy,yp⟩:=y;dsimp only at *
  rw[zaa Z6.h388 rfl,b388];simp -implicitDefEqProofs[h,hl,f1,f2,t1,t2]
 ·rw[if_neg hk,e0];have hk':¬ (((Zac (Zj bits) t x.v y.v).2.2.1:Nat):Int)=0:=by omega
  clear hk;generalize (((Zac (Zj bits) t x.v y.v).2.2.1:Nat):Int)=kk at *
  generalize (((Zac (Zj bits) t x.v y.v).2.2.2.1:Nat):Int)=st at *
  generalize (((Zac (Zj bits) t x.v y.v).2.2.2.2:Nat):Int)=aa at *
  generalize Zab (Zac (Zj bits) t x.v y.v).1 (Zac (Zj bits) t x.v y.v).2.1=D at *
  obtain⟨code,outs,dim,par⟩:=t;obtain⟨⟨x0,x1,x2⟩,xy,xp⟩:=x;obtain⟨⟨y0,y1,y2⟩,yy,yp⟩:=y;rw[zaa Z6.h388 rfl,b388];simp -implicitDefEqProofs[h,hk']
end
def noJ:JcF:=⟨[],[],[]⟩
def Zes(t:Tp):Nat:=max t.outs.length 1
def Zbz(lim:Nat)(t:Tp)(P:Po):List PoF×Nat×Nat×Nat:=Zb5 (Zfb lim t P) (Zes t) 0 []
def Zfz(lim:Nat)(t:Tp)(P:Po):JcF:=if (Zbz lim t P).2.1=0 then Zjl (Zbz lim t P).1 else noJ
section
variable{T:Tbl}[Z2 T][Zr T][Zv T][Zw T][Zq T][Zo T][Ze T][Zh T][Zs T][Z0 T][Z5 T][Zbk T][Z7 T][Z3 T][Zak T][Zbf T][Zgd T][Zaj T][Z9 T][Za5 T][Zb8 T][Zai T][Zal T][Ze7 T][Ze8 T]
def zh3(t:Tp)(x:PoF)(bits:Int)(hs:TpS t)(hx:PoS x 1000)(hl:t.code.length<=20)(ho:t.outs.length<=1000) :
  Za T 403 [etp t,ept x,.i .i64 bits]=some (.tup [Zla (Zfz (Zj bits) t x.v),Zdg (Zbz (Zj bits) t x.v).2.1 0 (Zbz (Zj bits) t x.v).2.2.1 (Zbz (Zj bits) t x.v).2.2.2]):=by
 have hn:Zes t<=1000:=by unfold Zes;omega
 have g:=zwr (T:=T) t x bits (Zes t) hn hs hx hl;have hmm:(if (t.outs.length:Int)<1 then 1 else (t.outs.length:Int))=(Zes t:Int):=by unfold Zes;split<;>omega
 unfold Zfz;have hR:Zbz (Zj bits) t x.v=Zb5 (Zfb (Zj bits) t x.v) (Zes t) 0 []:=rfl;rw[<-hR]at g;by_cases hk:(Zbz (Zj bits) t x.v).2.1=0
 ·rw[if_pos hk];have hgk:=hk;rw[hR]at hgk;obtain⟨e1,e2,_⟩:=zgc _ _ _ _ hgk;rw[<-hR]at e1 e2;have hl2:(Zbz (Zj bits) t x.v).1.length=Zes t:=by rw[e1];simp
  have lp:=z1e (T:=T) (Zbz (Zj bits) t x.v).1 (by omega);unfold Zlb at lp;simp only[Ym,Yb9,Yb5,zdd,znt]at lp;rw[hk,e2]at g ⊢;clear e1 e2 hk hgk hR hs hx;have j1:(Zjl (Zbz (Zj bits) t x.v).1).t.length=(Zbz (Zj bits) t x.v).1.length:=Y3 _;have j2:(Zjl (Zbz (Zj bits) t x.v).1).y.length=(Zbz (Zj bits) t x.v).1.length:=Y3 _;have j3:(Zjl (Zbz (Zj bits) t x.v).1).p.length=(Zbz (Zj bits) t x.v).1.length:=Y3 _;generalize Zjl (Zbz (Zj bits) t x.v).1=J at *
  generalize (Zbz (Zj bits) t x.v).1=L at *
  generalize Zes t=n at *
  obtain⟨code,outs,dim,par⟩:=t;obtain⟨⟨x0,x1,x2⟩,xy,xp⟩:=x;obtain⟨jt,jy,jp⟩:=J;dsimp only at *
  have t1:List.take L.length jt=jt:=Yc (by omega);have t2:List.take L.length jy=jy:=Yc (by omega);have t3:List.take L.length jp=jp:=Yc (by omega);rw[zaa Zal.h403 rfl,b403];simp -implicitDefEqProofs[mm2,hmm,g,lp,j1,j2,j3,t1,t2,t3]
 ·rw[if_neg hk];have hk':¬ (((Zbz (Zj bits) t x.v).2.1:Nat):Int)=0:=by omega
  clear hk hs hx;generalize (((Zbz (Zj bits) t x.v).2.1:Nat):Int)=kk at *
  generalize (((Zbz (Zj bits) t x.v).2.2.1:Nat):Int)=ss at *
  generalize (((Zbz (Zj bits) t x.v).2.2.2:Nat):Int)=aa at *
  generalize (Zbz (Zj bits) t x.v).1=L at *
  generalize Zes t=n at *
  unfold noJ;obtain⟨code,outs,dim,par⟩:=t;obtain⟨⟨x0,x1,x2⟩,xy,xp⟩:=x;dsimp only at *
  rw[zaa Zal.h403 rfl,b403];simp -implicitDefEqProofs[mm2,hmm,g,hk']
end
def Zea(n m i:Nat):PoF:=
 if i=0 then ⟨fz 1,List.replicate n (fz 0),List.replicate m (fz 0)⟩
 else if i<=n then ⟨(false,[],[]),fzs (Zbo n ((i:Int)-1)),List.replicate m (fz 0)⟩
 else ⟨(false,[],[]),List.replicate n (fz 0),fzs (Zbo m ((i:Int)-1-n))⟩
def znk{n:Nat}:∀u∈List.replicate n (fz 0),fsz u<=1:=fun u hu=>by
 rw[Yaz hu,zar];exact Ycp zd6
def zt9{n i:Int}:∀u∈fzs (Zbo n i),fsz u<=1:=fun u hu=>by
 obtain⟨q,hq,rfl⟩:=Yu.1 hu;rw[zar];exact zt8 hq
def zid(n i:Int):(Zbo n i).length=Za2 n:=by
 unfold Zbo;split
 ·rw[List.length_set,Yak]
 ·rw[Yak]
def zh4{n:Nat}(h:n<=300):Za2 n=n:=by unfold Za2;omega
def znl{n m:Nat}(i:Nat)(hn:n<=300)(hm:m<=300):(Zea n m i).y.length=n/\(Zea n m i).p.length=m:=by
 unfold Zea;split
 ·simp
 ·split
  ·dsimp only;rw[zaf,zid,zh4 hn,Yak];exact⟨rfl,rfl⟩
  ·dsimp only;rw[zaf,zid,zh4 hm,Yak];exact⟨rfl,rfl⟩
def zafu{n m:Nat}(i:Nat)(hn:n<=300)(hm:m<=300):PoS (Zea n m i) 1:=by
 obtain⟨l1,l2⟩:=znl i hn hm;have key:fsz (Zea n m i).t<=1/\(∀u∈(Zea n m i).y,fsz u<=1)/\∀u∈(Zea n m i).p,fsz u<=1:=by
  unfold Zea;split
  ·exact⟨by dsimp only;rw[zar];exact zae7 (by decide) (by decide),znk,znk⟩
  ·split
   ·exact⟨by show fsz ((false,[],[]):Fz)<=1;decide,zt9,znk⟩
   ·exact⟨by show fsz ((false,[],[]):Fz)<=1;decide,znk,zt9⟩
 exact⟨key.1,key.2.1,key.2.2,by omega,by omega⟩
def Zez(lim:Nat)(t:Tp)(x:PoF)(i:Nat):List Fz×Nat×Nat×Nat:=(fzs (Zc8 lim t x.v (Zea x.y.length x.p.length i).v).2.1,(Zc8 lim t x.v (Zea x.y.length x.p.length i).v).2.2)
def zsd{lim:Nat}{t:Tp}{P B:Po}(h:(Zc8 lim t P B).2.2.1=0):(Zac lim t P B).2.2.1=0/\Zc8 lim t P B=(Zjd t (Zac lim t P B).1,Zjd t (Zac lim t P B).2.1,0,0,0):=by
 unfold Zc8 at h ⊢;by_cases hk:(Zac lim t P B).2.2.1=0
 ·rw[if_pos hk];exact⟨hk,rfl⟩
 ·rw[if_neg hk]at h;exact absurd h hk
def Zl3(T:Tbl)(X:AV)(n i:Nat)(acc:List (List Fz)):St:=
 ⟨[(1,.fnv (Zf T 500418) X),(5,.ptr (.loc 5) 1 4 0 0),(6,.bs (.loc 6) 2 1 0 i),(10,.i .i64 n),(11,.i .i64 i)],[(.loc 5,bxF 1 0 0 0 0),(.loc 6,⟨2,.own,1,Z4 acc⟩)],4⟩
def Zk1(R:List (List Fz)×Nat×Nat×Nat)(n:Nat):Ex×St:=
 if R.2.1=0 then (.n,⟨[(5,.ptr (.loc 5) 1 4 0 0),(6,.bs (.loc 6) 2 1 0 n)],[(.loc 5,bxF 1 0 0 0 0),(.loc 6,⟨2,.own,1,Z4 R.1⟩)],4⟩)
 else (.r,⟨[(4,.sl [] .an),(5,.ptr (.loc 5) 1 4 0 0)],[(.loc 5,bxF 1 R.2.1 0 R.2.2.1 R.2.2.2)],3⟩)
section
variable{T:Tbl}[Z2 T][Zr T][Zv T][Zw T][Zq T][Zo T][Ze T][Zh T][Zs T][Z0 T][Z5 T][Zbk T][Z7 T][Z3 T][Zak T][Zbf T][Zgd T][Zaj T][Z9 T][Za5 T][Zb8 T][Zai T][Z6 T][Zfm T][Zdl T][Zal T][Ze7 T][Ze8 T]
def zse(t:Tp)(x:PoF)(bits:Int)(hy:x.y.length<=300)(hp:x.p.length<=300) :
  Za T 429 [epl t x bits]=some (ept ⟨(false,[],[]),List.replicate x.y.length (fz 0),List.replicate x.p.length (fz 0)⟩):=by
 have z1:=zt3 (T:=T) x.y.length hy;have z2:=zt3 (T:=T) x.p.length hp;obtain⟨code,outs,dim,par⟩:=t;obtain⟨⟨x0,x1,x2⟩,xy,xp⟩:=x;dsimp only at *
 generalize List.replicate xy.length (fz 0)=R1 at *
 generalize List.replicate xp.length (fz 0)=R2 at *
 rw[zaa Zal.h429 rfl,b429];simp -implicitDefEqProofs[z1,z2]
def z1f(t:Tp)(x:PoF)(bits:Int)(i:Nat)(hi:i<=1000)(hs:TpS t)(hx:PoS x 1000)(hy:x.y.length<=300)(hp:x.p.length<=300) :
  Za T 418 [epl t x bits,.i .i64 i]=some (.tup [.sl (Zc (Zez (Zj bits) t x i).1) .an,Zdg (Zez (Zj bits) t x i).2.1 0 (Zez (Zj bits) t x i).2.2.1 (Zez (Zj bits) t x i).2.2.2]):=by
 have st:=zse (T:=T) t x bits hy hp;have o1:=ztx (T:=T);have hd:=zafu i hy hp;have b:=zwm (T:=T) t x (Zea x.y.length x.p.length i) bits hs hx ⟨Ye hd.t (by decide),fun u hu=>Ye (hd.y u hu) (by decide),fun u hu=>Ye (hd.p u hu) (by decide),hd.yl,hd.pl⟩;have u1:=ze7 (T:=T) x.y.length ((i:Int)-1);have u2:=ze7 (T:=T) x.p.length ((i:Int)-1-x.y.length);have w1:IntKind.wrap .i64 ((i:Int)-1)=(i:Int)-1:=zab _ (by omega);have w2:IntKind.wrap .i64 ((i:Int)-1-x.y.length)=(i:Int)-1-x.y.length:=zab _ (by omega);unfold Zez;dsimp only;generalize Zc8 (Zj bits) t x.v (Zea x.y.length x.p.length i).v=D at *
 obtain⟨D1,D2,k,s,a⟩:=D;dsimp only at *
 generalize ((k:Nat):Int)=kk at *
 generalize ((s:Nat):Int)=ss at *
 generalize ((a:Nat):Int)=aa at *
 generalize fzs D1=E1 at *
 generalize fzs D2=E2 at *
 unfold Zea at b;by_cases h0:i=0
 ·rw[if_pos h0]at b;subst h0;clear u1 u2 w1 w2 hd hx hs;obtain⟨code,outs,dim,par⟩:=t;obtain⟨⟨x0,x1,x2⟩,xy,xp⟩:=x;dsimp only at *
  generalize List.replicate xy.length (fz 0)=R1 at *
  generalize List.replicate xp.length (fz 0)=R2 at *
  generalize fz 1=O at *
  rw[zaa Zal.h418 rfl,b418];simp -implicitDefEqProofs[st,o1,b]
 ·rw[if_neg h0]at b;have h0':¬ (i:Int)=0:=by omega
  by_cases h1:i<=x.y.length
  ·rw[if_pos h1]at b;have h1':(i:Int)<=x.y.length:=by omega
   clear u2 w2 hd hx hs;obtain⟨code,outs,dim,par⟩:=t;obtain⟨⟨x0,x1,x2⟩,xy,xp⟩:=x;dsimp only at *
   generalize List.replicate xy.length (fz 0)=R1 at *
   generalize List.replicate xp.length (fz 0)=R2 at *
   generalize fzs (Zbo xy.length ((i:Int)-1))=U at *
   replace b:Za T 388 [.agg [.sl (Zcw code) .an,.sl (ints outs) .an,.i .i64 dim,.i .i64 par],.agg [.b x0,.sl (Zb x1) .an,.sl (Zb x2) .an,.sl (Zc xy) .an,.sl (Zc xp) .an],.agg [.b false,.sl [] .an,.sl [] .an,.sl (Zc U) .an,.sl (Zc R2) .an],.i .i64 bits]=some (.tup [.sl (Zc E1) .an,.sl (Zc E2) .an,Zdg kk 0 ss aa]):=b;rw[zaa Zal.h418 rfl,b418];simp -implicitDefEqProofs[st,u1,w1,b,h0,h0',h1,h1']
  ·rw[if_neg h1]at b;have h1':¬ (i:Int)<=x.y.length:=by omega
   clear u1 hd hx hs;obtain⟨code,outs,dim,par⟩:=t;obtain⟨⟨x0,x1,x2⟩,xy,xp⟩:=x;dsimp only at *
   generalize List.replicate xy.length (fz 0)=R1 at *
   generalize List.replicate xp.length (fz 0)=R2 at *
   generalize fzs (Zbo xp.length ((i:Int)-1-xy.length))=U at *
   replace b:Za T 388 [.agg [.sl (Zcw code) .an,.sl (ints outs) .an,.i .i64 dim,.i .i64 par],.agg [.b x0,.sl (Zb x1) .an,.sl (Zb x2) .an,.sl (Zc xy) .an,.sl (Zc xp) .an],.agg [.b false,.sl [] .an,.sl [] .an,.sl (Zc R1) .an,.sl (Zc U) .an],.i .i64 bits]=some (.tup [.sl (Zc E1) .an,.sl (Zc E2) .an,Zdg kk 0 ss aa]):=b;rw[zaa Zal.h418 rfl,b418];simp -implicitDefEqProofs[st,u2,w1,w2,b,h0,h0',h1,h1']
def zqa(t:Tp)(q:PoF)(bits:Int)(n:Nat)(hn:n<=1000)(F:Nat->List Fz×Nat×Nat×Nat)(c:∀i:Nat,i<n->Za T 418 [epl t q bits,.i .i64 i]=some (.tup [.sl (Zc (F i).1) .an,Zdg (F i).2.1 0 (F i).2.2.1 (F i).2.2.2]))
  (h0:∀i:Nat,i<n->(F i).2.1=0->(F i).2.2=(0,0)) :
  Zx T 0 0 (.norm false [5,6]) l417_0 (Zl3 T (epl t q bits) n 0 [])=some (Zk1 (Zb5 F n 0 []) n):=by
 have key:=zbg (T:=T) (k:=0) (id:=0) (g2:=.norm false [5,6]) (c:=l417_0) (fun x:Nat×List (List Fz)=>Zl3 T (epl t q bits) n x.1 x.2)
  (fun x=>x.1<=n/\x.2.length=x.1) (fun x=>n-x.1)
  (fun x=>some (Zk1 (Zb5 F (n-x.1) x.1 x.2) n)) ?_ (0,[]) ⟨Yx _,rfl⟩
 ·exact key
 rintro⟨i,acc⟩ ⟨hi,hal⟩
 obtain⟨code,outs,dim,par⟩:=t;obtain⟨⟨q0,q1,q2⟩,qy,qp⟩:=q;dsimp only at *
 by_cases hlt:i<n
 ·have ci:=c i hlt;have hi':(i:Int)<n:=by omega
  have hws:=zbc hlt (by omega);have hb:i<=4294967295:=by omega
  have ht:List.take i acc=acc:=Yc (by omega);obtain⟨m,hm⟩:∃m,n-i=m+1:=⟨n-i-1,by omega⟩;rw[hm,Zb5];by_cases hk:(F i).2.1=0
  ·left;have h00:=h0 i hlt hk;refine⟨(i+1,acc++[(F i).1]),⟨by omega,by simp[hal]⟩,by dsimp only;omega,?_,?_⟩
   ·rw[hk,h00]at ci;have hp:=zh2 hal (F i).1;rw[ht]at hp;generalize (F i).1=G at *
    unfold Zl3;simp -implicitDefEqProofs[l417_0,hi',hlt,hws,ci,hp,ht,hal,hb]
   ·rw[if_pos hk,show n-(i+1)=m by omega]
  ·right;have hk':¬ (((F i).2.1:Nat):Int)=0:=by omega
   rw[if_neg hk];unfold Zl3 Zk1;dsimp only;rw[if_neg hk];generalize (((F i).2.1:Nat):Int)=kk at *
   generalize (((F i).2.2.1:Nat):Int)=ss at *
   generalize (((F i).2.2.2:Nat):Int)=aa at *
   generalize (F i).1=G at *
   constructor<;>simp -implicitDefEqProofs[l417_0,hi',hlt,ci,hk']
 ·right;have e:i=n:=by omega
  subst e;have ht:List.take i acc=acc:=Yc (by omega);rw[Yb0,Zb5];unfold Zl3 Zk1;rw[if_pos rfl];constructor<;>simp -implicitDefEqProofs[l417_0]
def zws(t:Tp)(x:PoF)(bits:Int)(n:Nat)(hn:n<=1000)(hs:TpS t)(hx:PoS x 1000)(hy:x.y.length<=300)(hp:x.p.length<=300) :
  Za T 417 [.i .i64 n,.fnv (Zf T 500418) (epl t x bits)]=some (.tup [.sl (Z4 (Zb5 (Zez (Zj bits) t x) n 0 []).1) .an,
   Zdg (Zb5 (Zez (Zj bits) t x) n 0 []).2.1 0 (Zb5 (Zez (Zj bits) t x) n 0 []).2.2.1 (Zb5 (Zez (Zj bits) t x) n 0 []).2.2.2]):=by
 have h:=zqa (T:=T) t x bits n hn (Zez (Zj bits) t x) (fun i hi=>z1f t x bits i (by omega) hs hx hy hp) (fun i _ hk=>by
  unfold Zez at hk ⊢;rw[(zsd hk).2])
 unfold Zl3 Zk1 at h;simp only[Ym,znt]at h;by_cases hk:(Zb5 (Zez (Zj bits) t x) n 0 []).2.1=0
 ·obtain⟨e1,e2,_⟩:=zgc _ _ _ _ hk;rw[if_pos hk]at h;have hl2:(Zb5 (Zez (Zj bits) t x) n 0 []).1.length=n:=by rw[e1];simp
  rw[hk,e2];clear e1 e2 hk hs hx;generalize (Zb5 (Zez (Zj bits) t x) n 0 []).1=L at *
  have ht:List.take n L=L:=Yc (by omega);obtain⟨code,outs,dim,par⟩:=t;obtain⟨⟨x0,x1,x2⟩,xy,xp⟩:=x;rw[zaa Zal.h417 rfl,b417];simp -implicitDefEqProofs[h,hl2,ht]
 ·rw[if_neg hk]at h;rw[znj _ _ _ _ hk];generalize (((Zb5 (Zez (Zj bits) t x) n 0 []).2.1:Nat):Int)=kk at *
  generalize (((Zb5 (Zez (Zj bits) t x) n 0 []).2.2.1:Nat):Int)=ss at *
  generalize (((Zb5 (Zez (Zj bits) t x) n 0 []).2.2.2:Nat):Int)=aa at *
  obtain⟨code,outs,dim,par⟩:=t;obtain⟨⟨x0,x1,x2⟩,xy,xp⟩:=x;rw[zaa Zal.h417 rfl,b417];simp -implicitDefEqProofs[h]
end
def Zl4(l:List (List Fz))(many:Nat):List (List Fz):=if l=[] then List.replicate many [] else if Zg8 l then Zdr l (Zaz l) else []
def Zef(lim:Nat)(t:Tp)(x:PoF):List (List Fz)×Nat×Nat×Nat:=Zb5 (Zez lim t x) (1+x.y.length+x.p.length) 0 []
def Zoz(L:List (List Fz))(n many:Nat):JcF:=⟨L.getD 0 [],Zl4 ((L.take (1+n)).tail) many,Zl4 (L.drop (1+n)) many⟩
def Zje(lim:Nat)(t:Tp)(x:PoF):JcF:=if (Zef lim t x).2.1=0 then Zoz (Zef lim t x).1 x.y.length t.outs.length else noJ
def z4j(n:Nat):List.replicate n [AV.sl [] .an]=Z4 (List.replicate n []):=by simp[Z4]
def zafv(l:List (List Fz)):Option.all (fun r=>decide (r.length=1)) (Z4 l).head? = true:=by cases l<;>rfl
def z89{lim:Nat}{t:Tp}{x:PoF}(hlim:lim/32+1<=48)(i:Nat):∀u∈(Zez lim t x i).1,fsz u<=48:=zae6 (z0t hlim).2
def z4k{lim:Nat}{t:Tp}{x:PoF}(i:Nat)(ho:t.outs.length<=1000):(Zez lim t x i).1.length<=1000:=by
 unfold Zez Zc8;split
 ·dsimp only;rw[zaf];unfold Zjd;rw[Y3];exact ho
 ·exact Yx _
section
variable{T:Tbl}[Z2 T][Zr T][Zv T][Zw T][Zq T][Zo T][Ze T][Zh T][Zs T][Z0 T][Z5 T][Zbk T][Z7 T][Z3 T][Zak T][Zbf T][Zgd T][Zaj T][Z9 T][Za5 T][Zb8 T][Zer T][Zai T][Z6 T][Zfm T][Zdl T][Zal T][Ze7 T][Ze8 T]
def zie(l:List (List Fz))(many:Nat)(hm:many<=1000)(hl:l.length<=1000)(hk:Zaz l<=1000)(hs:∀r∈l,∀x∈r,fsz x<=1000) :
  Za T 419 [.sl (Z4 l) .an,.i .i64 many]=some (.sl (Z4 (Zl4 l many)) .an):=by
 have tn:=zz8 (T:=T) l hl hk hs;unfold Zl4;rw[zaa Zal.h419 rfl,b419];by_cases h:l=[]
 ·rw[if_pos h];subst h;have m1:(many:Int)<=4294967296:=by omega
  have e:=z4j many;have e2:wkL (List.replicate many [AV.sl [] .nl])=Z4 (List.replicate many []):=by rw[zav,Ya9,<-e];simp[wkR,wkA]
  simp -implicitDefEqProofs[m1,e,e2]
 ·rw[if_neg h];have h1:¬ l.length=0:=by simpa using h
  have h2:¬ (l.length:Int)=0:=by omega
  generalize (if Zg8 l then Zdr l (Zaz l) else [])=R at *
  simp -implicitDefEqProofs[tn,h1,h2]
def zwt(t:Tp)(x:PoF)(bits:Int)(hb:Zj bits/32+1<=48)(hs:TpS t)(hx:PoS x 1000)(hy:x.y.length<=300)(hp:x.p.length<=300)(ho:t.outs.length<=1000) :
  Za T 404 [etp t,ept x,.i .i64 bits]=some (.tup [Zla (Zje (Zj bits) t x),Zdg (Zef (Zj bits) t x).2.1 0 (Zef (Zj bits) t x).2.2.1 (Zef (Zj bits) t x).2.2.2]):=by
 have g:=zws (T:=T) t x bits (1+x.y.length+x.p.length) (by omega) hs hx hy hp;have ec:((1+x.y.length+x.p.length:Nat):Int)=1+(x.y.length:Int)+(x.p.length:Int):=by omega
 rw[ec]at g;unfold Zje;have hR:Zef (Zj bits) t x=Zb5 (Zez (Zj bits) t x) (1+x.y.length+x.p.length) 0 []:=rfl;rw[<-hR]at g;have w1:IntKind.wrap .i64 (1+(x.y.length:Int))=1+(x.y.length:Int):=zab _ (by omega);have w2:IntKind.wrap .i64 (1+(x.y.length:Int)+(x.p.length:Int))=1+(x.y.length:Int)+(x.p.length:Int):=zab _ (by omega);by_cases hk:(Zef (Zj bits) t x).2.1=0
 ·rw[if_pos hk];have hgk:=hk;rw[hR]at hgk;obtain⟨e1,e2,_⟩:=zgc _ _ _ _ hgk;rw[<-hR,Yal]at e1;rw[<-hR]at e2;have hl2:(Zef (Zj bits) t x).1.length=1+x.y.length+x.p.length:=by rw[e1];simp
  have hsz:∀r∈(Zef (Zj bits) t x).1,(∀u∈r,fsz u<=1000)/\r.length<=1000:=by
   intro r hr;rw[e1]at hr;obtain⟨k,_,rfl⟩:=Yu.1 hr;exact⟨fun u hu=>Ye (z89 hb _ u hu) (by decide),z4k _ ho⟩
  rw[hk,e2]at g ⊢;clear e1 e2 hk hgk hR hs hx hb;generalize (Zef (Zj bits) t x).1=L at *
  have wid:∀l:List (List Fz),(∀r∈l,r∈L)->Zaz l<=1000:=by
   intro l hl;cases l with
   | nil=>exact Yx _
   | cons r l=>exact(hsz r (hl r Yv)).2
  have m1:∀r∈(L.take (1+x.y.length)).tail,r∈L:=fun r hr=>Ybu (List.mem_of_mem_tail hr);have m2:∀r∈L.drop (1+x.y.length),r∈L:=fun r hr=>Ycu hr;have b1:=zie (T:=T) ((L.take (1+x.y.length)).tail) t.outs.length ho (by rw[List.length_tail,Yae];omega) (wid _ m1) (fun r hr=>(hsz r (m1 r hr)).1);have b2:=zie (T:=T) (L.drop (1+x.y.length)) t.outs.length ho (by rw[Yb3];omega) (wid _ m2) (fun r hr=>(hsz r (m2 r hr)).1);have h0:0<L.length:=by omega
  have hg0:L[0]? = some (L[0]'h0):=Ya h0;have eg:L.getD 0 []=L[0]'h0:=by rw[Yq,hg0];rfl
  have hl2':(L.length:Int)=1+(x.y.length:Int)+(x.p.length:Int):=by omega
  unfold Zoz;rw[eg];clear eg hsz m1 m2 wid;generalize L[0]'h0=L0 at *
  generalize Zl4 ((L.take (1+x.y.length)).tail) t.outs.length=B1 at *
  generalize Zl4 (L.drop (1+x.y.length)) t.outs.length=B2 at *
  obtain⟨code,outs,dim,par⟩:=t;obtain⟨⟨x0,x1,x2⟩,xy,xp⟩:=x;dsimp only at *
  have q0:(0:Int)<1+(xy.length:Int)+(xp.length:Int):=by omega
  have q1:(1:Int)+(xy.length:Int)<=1+(xy.length:Int)+(xp.length:Int):=by omega
  have q2:((1:Int)+(xy.length:Int)).toNat=1+xy.length:=by omega
  have q3:(0:Int)<=1+(xy.length:Int):=by omega
  have q4:(1:Int)<=1+(xy.length:Int):=by omega
  have q5:List.take (1+xy.length+xp.length) L=L:=Yc (by omega);rw[zaa Zal.h404 rfl,b404];simp -implicitDefEqProofs[q5,w1,w2,g,b1,b2,h0,hg0,hl2,hl2',q0,q1,q2,q3,q4,zafv]
 ·rw[if_neg hk];have hk':¬ (((Zef (Zj bits) t x).2.1:Nat):Int)=0:=by omega
  clear hk hs hx hb;generalize (((Zef (Zj bits) t x).2.1:Nat):Int)=kk at *
  generalize (((Zef (Zj bits) t x).2.2.1:Nat):Int)=ss at *
  generalize (((Zef (Zj bits) t x).2.2.2:Nat):Int)=aa at *
  generalize (Zef (Zj bits) t x).1=L at *
  unfold noJ;obtain⟨code,outs,dim,par⟩:=t;obtain⟨⟨x0,x1,x2⟩,xy,xp⟩:=x;dsimp only at *
  rw[zaa Zal.h404 rfl,b404];simp -implicitDefEqProofs[w1,w2,g,hk']
structure JcS (j:JcF) (B K:Nat):Prop where
 t:∀u∈j.t,fsz u<=B
 y:∀r∈j.y,∀u∈r,fsz u<=B
 p:∀r∈j.p,∀u∈r,fsz u<=B
 tl:j.t.length<=K
 yl:j.y.length<=K
 pl:j.p.length<=K
 yr:∀r∈j.y,r.length<=K
 pr:∀r∈j.p,r.length<=K
def Zlq(a b:JcF):Bool:=decide (a.t.map fv=b.t.map fv)&&decide (a.y.map (·.map fv)=b.y.map (·.map fv))&&decide (a.p.map (·.map fv)=b.p.map (·.map fv))
def zwu(a b:JcF)(ha:JcS a 1000 1000)(hb:JcS b 1000 1000):Za T 401 [Zla a,Zla b]=some (.b (Zlq a b)):=by
 have c1:=zt4 (T:=T) a.t b.t ha.tl ha.t hb.t;have c2:=zpr (T:=T) a.y b.y ha.yl ha.yr ha.y hb.y;have c3:=zpr (T:=T) a.p b.p ha.pl ha.pr ha.p hb.p;unfold Zlq;generalize decide (a.t.map fv=b.t.map fv)=B1 at *
 generalize decide (a.y.map (·.map fv)=b.y.map (·.map fv))=B2 at *
 generalize decide (a.p.map (·.map fv)=b.p.map (·.map fv))=B3 at *
 obtain⟨at',ay,ap⟩:=a;obtain⟨bt,bY,bp⟩:=b;dsimp only at *
 rw[zaa Zal.h401 rfl,b401];cases B1<;>cases B2<;>simp -implicitDefEqProofs[c1,c2,c3]
end
def Zqd(x:PoF)(j:JcF)(i:Nat):Fz×Nat×Nat×Nat:=
 (fz (fv (j.t.getD i (false,[],[]))*fv x.t+(Zkf (j.y.getD i []) x.y+Zkf (j.p.getD i []) x.p)),if (j.y.getD i []).length=x.y.length/\(j.p.getD i []).length=x.p.length then 0 else 1,0,0)
def Zth(j:JcF)(x:PoF):List Fz×Nat×Nat×Nat:=if j.y.length=j.t.length/\j.p.length=j.t.length then Zb5 (Zqd x j) j.t.length 0 [] else ([],1,0,0)
def Zti(x:PoF)(j:JcF)(i:Nat)(acc:List Fz):St:=
 ⟨[(2,.ptr (.loc 2) 1 3 0 0),(3,.ptr (.loc 3) 2 5 0 0),(6,.bs (.loc 6) 3 3 0 i),(30,.sl (Zc j.t) .an),(31,.i .i64 j.t.length),(32,.i .i64 i)],
  [(.loc 2,⟨1,.str,3,[[.sl (Zc j.t) .an,.sl (Z4 j.y) .an,.sl (Z4 j.p) .an]]⟩),(.loc 3,⟨2,.str,5,[[.b x.t.1,.sl (Zb x.t.2.1) .an,.sl (Zb x.t.2.2) .an,.sl (Zc x.y) .an,.sl (Zc x.p) .an]]⟩),(.loc 6,⟨3,.own,3,Zc acc⟩)],5⟩
def Zrm(R:List Fz×Nat×Nat×Nat)(n:Nat):Ex×St:=
 if R.2.1=0 then (.n,⟨[(6,.bs (.loc 6) 1 3 0 n)],[(.loc 6,⟨1,.own,3,Zc R.1⟩)],3⟩) else (.r,⟨[(4,.sl [] .an),(5,.b false)],[],2⟩)
class Zph (T:Tbl):Prop where
end Go.Ab
section
namespace Go.Ab
end Go.Ab
end
namespace Go.Ab
theorem zea:∀(l:List Rat) (n:Nat),dotW l (List.replicate n 0)=0
 | [],n=>by unfold dotW;rfl
 | a::l,0=>by unfold dotW;rfl
 | a::l,n+1=>by
  rw[Ya6,dotW,zea l n]
  grind
theorem zqb:∀(l m:List Rat),dotW l m=dotW m l
 | [],[]=>rfl
 | [],_::_=>rfl
 | _::_,[]=>rfl
 | a::l,b::m=>by rw[dotW,dotW,zqb l m,Rat.mul_comm]
theorem zg6:∀(l:List Rat) (n k:Nat),l.length=n->k<n->dotW l ((List.replicate n 0).set k 1)=gI l (k:Nat)
 | [],n,k,h,hk=>by simp at h;omega
 | a::l,0,k,h,hk=>by simp at h
 | a::l,n+1,0,h,hk=>by
  rw[Ya6,Yb7,dotW,zea];show a*1+0=a
  grind
 | a::l,n+1,k+1,h,hk=>by
  rw[Ya6,List.set_cons_succ,dotW,zg6 l n k (by simpa using h) (by omega)];show a*0+gI l (k:Nat)=gI l (k:Nat)
  grind
def ze9{n k:Nat}(h:k<n)(hn:n<=300):Zbo n k=(List.replicate n 0).set k 1:=by
 unfold Zbo;rw[zh4 hn,if_pos (by omega),Y0]
def z4l:fv ((false,[],[]):Fz)=0:=by decide +kernel
def z4m(G:Po)(n m:Nat)(hy:G.y.length=n)(hp:G.p.length=m)(hn:n<=300)(hm:m<=300) :
  meet G (Zea n m 0).v=G.t/\(∀i,i<n->meet G (Zea n m (i+1)).v=gI G.y (i:Nat))/\∀i,i<m->meet G (Zea n m (1+n+i)).v=gI G.p (i:Nat):=by
 have hz:∀k,(List.replicate k (fz 0)).map fv=List.replicate k 0:=fun k=>by rw[Ya9,zbi]
 refine⟨?_,fun i hi=>?_,fun i hi=>?_⟩
 ·unfold Zea PoF.v meet;rw[if_pos rfl];dsimp only;rw[hz,hz,zea,zea,zbi]
  grind
 ·unfold Zea PoF.v meet;rw[if_neg (by omega),if_pos (by omega)];dsimp only;rw[hz,zea,z4l,show (((i+1:Nat):Int)-1)=(i:Nat) by omega,ze9 hi hn,zp7,zg6 _ _ _ hy hi]
  grind
 ·unfold Zea PoF.v meet;rw[if_neg (by omega),if_neg (by omega)];dsimp only;rw[hz,zea,z4l,show (((1+n+i:Nat):Int)-1-n)=(i:Nat) by omega,ze9 hi hm,zp7,zg6 _ _ _ hp hi]
  grind
section
variable{T:Tbl}[Z2 T][Zr T][Zv T][Zw T][Zq T][Zo T][Ze T][Zh T][Zs T][Z0 T][Z5 T][Zbk T][Z7 T][Z3 T][Zak T][Zbf T][Zgd T][Zaj T][Z9 T][Za5 T][Zb8 T][Zer T][Zai T][Z6 T][Zfm T][Zdl T][Zal T][Ze7 T][Ze8 T]
variable[Zb1 T][Zb2 T][Zbm T][Zb3 T][Zc7 T][Zdf T][Zc0 T][Zc1 T][Zd6 T][Zd7 T][Zd8 T][Zin T][Zi5 T]
def zgb:Za T 399 []=some (.b true):=by
 have k3:=zhs (T:=T) 3 (by decide) (by decide);have k5:=zhs (T:=T) 5 (by decide) (by decide);have q3:((3:Int):Rat)=3:=rfl;have q5:((5:Int):Rat)=5:=rfl;rw[q3]at k3;rw[q5]at k5;have hs:TpS t28:=⟨⟨by decide,by decide,fun i hi=>by
  simp only[t28,Yw,Ycz,or_false]at hi;rcases hi with rfl | rfl | rfl<;>decide,by decide,by decide⟩,fun i hi=>by
  simp only[t28,Yw,Ycz,or_false]at hi;rcases hi with rfl | rfl | rfl<;>decide⟩
 have f3:fsz (fz 3)<=1000:=by decide +kernel
 have f5:fsz (fz 5)<=1000:=by decide +kernel
 have hx:PoS p28 1000:=⟨by decide,fun u hu=>by rw[Yr.1 hu];exact f3,fun u hu=>by rw[Yr.1 hu];exact f5,by decide,by decide⟩;have a1:=zh3 (T:=T) t28 p28 100 hs hx (by decide) (by decide);have a2:=zwt (T:=T) t28 p28 100 (by decide) hs hx (by decide) (by decide) (by decide);have r1:(Zbz (Zj 100) t28 p28.v).2=(0,0,0):=by decide +kernel
 have r2:(Zef (Zj 100) t28 p28).2=(0,0,0):=by decide +kernel
 have j1:(Zfz (Zj 100) t28 p28.v).t=[fz 0]/\(Zfz (Zj 100) t28 p28.v).y=[[fz 5]]/\(Zfz (Zj 100) t28 p28.v).p=[[fz 3]]:=by decide +kernel
 have j2:(Zje (Zj 100) t28 p28).t=[fz 0]/\(Zje (Zj 100) t28 p28).y=[[fz 5]]/\(Zje (Zj 100) t28 p28).p=[[fz 3]]:=by decide +kernel
 have e1:Zfz (Zj 100) t28 p28.v=⟨[fz 0],[[fz 5]],[[fz 3]]⟩:=by
  generalize Zfz (Zj 100) t28 p28.v=J at *
  obtain⟨a,b,c⟩:=J;dsimp only at j1;rw[j1.1,j1.2.1,j1.2.2]
 have e2:Zje (Zj 100) t28 p28=⟨[fz 0],[[fz 5]],[[fz 3]]⟩:=by
  generalize Zje (Zj 100) t28 p28=J at *
  obtain⟨a,b,c⟩:=J;dsimp only at j2;rw[j2.1,j2.2.1,j2.2.2]
 rw[e1,r1]at a1;rw[e2,r2]at a2;have s5:∀u∈[fz 5],fsz u<=400:=fun u hu=>by rw[Yr.1 hu];decide +kernel
 have t1:=z4d (T:=T) [fz 5] (by decide) s5;have et1:List.intercalate [44] (Zf3 [fz 5])=[53]:=by decide +kernel
 rw[et1]at t1;have one:∀q∈[(0:Rat),3,5],fsz (fz q)<=1000:=by decide +kernel
 have z0:=one 0 (by simp);have z3:=one 3 (by simp);have z5:=one 5 (by simp);have hJ:JcS ⟨[fz 0],[[fz 5]],[[fz 3]]⟩ 1000 1000:=⟨fun u hu=>by rw[Yr.1 hu];exact z0,fun R hR u hu=>by rw[Yr.1 hR]at hu;rw[Yr.1 hu];exact z5,
  fun R hR u hu=>by rw[Yr.1 hR]at hu;rw[Yr.1 hu];exact z3,by simp,by simp,by simp,fun R hR=>by rw[Yr.1 hR];simp,fun R hR=>by rw[Yr.1 hR];simp⟩
 have sm:=zwu (T:=T) _ _ hJ hJ;have es:Zlq ⟨[fz 0],[[fz 5]],[[fz 3]]⟩ ⟨[fz 0],[[fz 5]],[[fz 3]]⟩=true:=by unfold Zlq;simp
 rw[es]at sm;clear e1 e2 r1 r2 j1 j2 et1 hs hx f3 f5 q3 q5 s5 one z0 z3 z5 hJ es;unfold p28 at a1 a2;generalize fz 0=F0 at *
 generalize fz 3=F3 at *
 generalize fz 5=F5 at *
 have eJ:Zla ⟨[F0],[[F5]],[[F3]]⟩=.agg [.sl [Zci F0] .an,.sl [[.sl [Zci F5] .an]] .an,.sl [[.sl [Zci F3] .an]] .an]:=rfl;rw[eJ]at a1 a2 sm;replace a1:Za T 403 [.agg [.sl [[.i .i64 3,.i .i64 0,.i .i64 0,.b false,.sl [] .an,.sl [] .an],[.i .i64 4,.i .i64 0,.i .i64 0,.b false,.sl [] .an,.sl [] .an],[.i .i64 9,.i .i64 0,.i .i64 1,.b false,.sl [] .an,.sl [] .an]] .an,.sl [[.i .i64 2]] .an,.i .i64 1,.i .i64 1],
  .agg [.b false,.sl [] .an,.sl [] .an,.sl [[.b F3.1,.sl (Zb F3.2.1) .an,.sl (Zb F3.2.2) .an]] .an,.sl [[.b F5.1,.sl (Zb F5.2.1) .an,.sl (Zb F5.2.2) .an]] .an],.i .i64 100]=some (.tup [.agg [.sl [Zci F0] .an,.sl [[.sl [Zci F5] .an]] .an,.sl [[.sl [Zci F3] .an]] .an],Zdg 0 0 0 0]):=a1
 replace a2:Za T 404 [.agg [.sl [[.i .i64 3,.i .i64 0,.i .i64 0,.b false,.sl [] .an,.sl [] .an],[.i .i64 4,.i .i64 0,.i .i64 0,.b false,.sl [] .an,.sl [] .an],[.i .i64 9,.i .i64 0,.i .i64 1,.b false,.sl [] .an,.sl [] .an]] .an,.sl [[.i .i64 2]] .an,.i .i64 1,.i .i64 1],
  .agg [.b false,.sl [] .an,.sl [] .an,.sl [[.b F3.1,.sl (Zb F3.2.1) .an,.sl (Zb F3.2.2) .an]] .an,.sl [[.b F5.1,.sl (Zb F5.2.1) .an,.sl (Zb F5.2.2) .an]] .an],.i .i64 100]=some (.tup [.agg [.sl [Zci F0] .an,.sl [[.sl [Zci F5] .an]] .an,.sl [[.sl [Zci F3] .an]] .an],Zdg 0 0 0 0]):=a2
 replace t1:Za T 274 [.sl [Zci F5] .an]=some (.s [53]):=t1;rw[zaa Zi5.h399 rfl,b399];simp -implicitDefEqProofs[a1,a2,t1,k3,k5,sm]
end
class Znl (T:Tbl):Prop where
end Go.Ab
section
namespace Go.Ab
end Go.Ab
end
namespace Go.Ab
def Zca(P:Po)(ls:List Rat)(x:Nd):Rat:=if x.op=1 then ((val x.n:Nat):Rat) else if x.op=3 then gI P.y x.i else if x.op=4 then gI P.p x.i else if x.op=5 then gI ls x.i else P.t
def unV(x:Nd)(a:Rat):Rat×Bool:=if x.op=6 then (-a,true) else Zeh a x.i
def biV(op:Int)(a b:Rat):Rat×Bool:=if op=7 then (a+b,true) else if op=8 then (a-b,true) else if op=9 then (a*b,true) else (a/b,decide (b≠0))
def Zco(lim:Nat)(v:Rat×Bool)(i:Nat):Rat×Nat×Nat:=if v.2=false then (0,3,i) else if lim<Zbl v.1 then (0,6,i) else (v.1,0,0)
def Zc3(P:Po)(ls:List Rat)(s:List Rat)(x:Nd):(Rat×Bool)×List Rat:=
 if arN x.op=0 then ((Zca P ls x,true),s) else if arN x.op=1 then (unV x (s.headD 0),s.tail) else (biV x.op (s.tail.headD 0) (s.headD 0),s.tail.tail)
def Zam(lim:Nat)(P:Po)(ls:List Rat):Nat->List Rat->List Nd->Rat×Nat×Nat
 | _,s,[]=>(s.headD 0,0,0)
 | i,s,x::r=>if (Zco lim (Zc3 P ls s x).1 i).2.1≠0 then Zco lim (Zc3 P ls s x).1 i else Zam lim P ls (i+1) ((Zc3 P ls s x).1.1::(Zc3 P ls s x).2) r
def evT(lim:Nat)(P:Po)(ls:List Rat):Tre->Nat->Rat×Nat×Nat
 | .leaf x,i=>Zco lim (Zca P ls x,true) i
 | .un x a,i=>if (evT lim P ls a i).2.1≠0 then evT lim P ls a i else Zco lim (unV x (evT lim P ls a i).1) (i+a.flat.length)
 | .bin x a b,i=>if (evT lim P ls a i).2.1≠0 then evT lim P ls a i else if (evT lim P ls b (i+a.flat.length)).2.1≠0 then evT lim P ls b (i+a.flat.length)
   else Zco lim (biV x.op (evT lim P ls a i).1 (evT lim P ls b (i+a.flat.length)).1) (i+a.flat.length+b.flat.length)
def zeq{lim:Nat}{v:Rat×Bool}{i:Nat}(h:(Zco lim v i).2.1=0):v.2=true/\Zbl v.1<=lim/\Zco lim v i=(v.1,0,0):=by
 unfold Zco at h ⊢;by_cases h1:v.2=false
 ·rw[if_pos h1]at h;exact absurd h (by simp)
 ·rw[if_neg h1]at h ⊢;by_cases h2:lim<Zbl v.1
  ·rw[if_pos h2]at h;exact absurd h (by simp)
  ·rw[if_neg h2];exact⟨by simpa using h1,by omega,rfl⟩
def zkz(lim:Nat)(v:Rat×Bool)(i:Nat):(Zco lim v i).2.1=0\/(Zco lim v i).2.1=3\/(Zco lim v i).2.1=6:=by
 unfold Zco;split
 ·exact .inr (.inl rfl)
 ·split
  ·exact .inr (.inr rfl)
  ·exact .inl rfl
def z1z{lim:Nat}{v:Rat×Bool}{i:Nat}(h:(Zco lim v i).2.1≠0):(Zco lim v i).1=0/\(Zco lim v i).2.2=i:=by
 unfold Zco at h ⊢;split
 ·exact⟨rfl,rfl⟩
 ·next h1=>
  rw[if_neg h1]at h;split
  ·exact⟨rfl,rfl⟩
  ·next h2=>
   rw[if_neg h2]at h;exact absurd rfl h
theorem zha(lim:Nat)(P:Po)(ls:List Rat):∀(t:Tre),t.ok->∀(i:Nat) (s:List Rat) (r:List Nd),Zam lim P ls i s (t.flat++r)=if (evT lim P ls t i).2.1≠0 then evT lim P ls t i else Zam lim P ls (i+t.flat.length) ((evT lim P ls t i).1::s) r
 | .leaf x,h,i,s,r=>by
  have e:arN x.op=0:=h;show Zam lim P ls i s (x::r)=_;have es:Zc3 P ls s x=((Zca P ls x,true),s):=by unfold Zc3;rw[if_pos e]
  rw[Zam,es];show (if (Zco lim (Zca P ls x,true) i).2.1≠0 then _ else _)=if (Zco lim (Zca P ls x,true) i).2.1≠0 then Zco lim (Zca P ls x,true) i else _
  by_cases hk:(Zco lim (Zca P ls x,true) i).2.1=0
  ·rw[if_neg (by simpa using hk),if_neg (by simpa using hk)];have:=(zeq hk).2.2;show Zam lim P ls (i+1) (Zca P ls x::s) r=Zam lim P ls (i+1) ((Zco lim (Zca P ls x,true) i).1::s) r;rw[this]
  ·rw[if_pos hk,if_pos hk]
 | .un x a,h,i,s,r=>by
  have e:arN x.op=1:=h.1;rw[Tre.flat,Yz,zha lim P ls a h.2];by_cases ha:(evT lim P ls a i).2.1=0
  ·rw[if_neg (by simpa using ha)];have ee:evT lim P ls (.un x a) i=Zco lim (unV x (evT lim P ls a i).1) (i+a.flat.length):=by show (if _ then _ else _)=_;rw[if_neg (by simpa using ha)]
   rw[ee];show Zam lim P ls (i+a.flat.length) ((evT lim P ls a i).1::s) (x::r)=_;have es:Zc3 P ls ((evT lim P ls a i).1::s) x=(unV x (evT lim P ls a i).1,s):=by unfold Zc3;rw[if_neg (by omega),if_pos e];rfl
   rw[Zam,es];by_cases hk:(Zco lim (unV x (evT lim P ls a i).1) (i+a.flat.length)).2.1=0
   ·rw[if_neg (by simpa using hk),if_neg (by simpa using hk),(zeq hk).2.2,Yp]
    rfl
   ·rw[if_pos hk,if_pos hk]
  ·rw[if_pos ha];have ee:evT lim P ls (.un x a) i=evT lim P ls a i:=by show (if _ then _ else _)=_;rw[if_pos ha]
   rw[ee,if_pos ha]
 | .bin x a b,h,i,s,r=>by
  have e:arN x.op=2:=h.1;rw[Tre.flat,Yz,zha lim P ls a h.2.1];by_cases ha:(evT lim P ls a i).2.1=0
  ·rw[if_neg (by simpa using ha),Yz,zha lim P ls b h.2.2];by_cases hb:(evT lim P ls b (i+a.flat.length)).2.1=0
   ·rw[if_neg (by simpa using hb)];have ee:evT lim P ls (.bin x a b) i=Zco lim (biV x.op (evT lim P ls a i).1 (evT lim P ls b (i+a.flat.length)).1) (i+a.flat.length+b.flat.length):=by
     show (if _ then _ else _)=_;rw[if_neg (by simpa using ha),if_neg (by simpa using hb)]
    rw[ee];show Zam lim P ls (i+a.flat.length+b.flat.length) ((evT lim P ls b (i+a.flat.length)).1::(evT lim P ls a i).1::s) (x::r)=_;have es:Zc3 P ls ((evT lim P ls b (i+a.flat.length)).1::(evT lim P ls a i).1::s) x=(biV x.op (evT lim P ls a i).1 (evT lim P ls b (i+a.flat.length)).1,s):=by
     unfold Zc3;rw[if_neg (by omega),if_neg (by omega)];rfl
    rw[Zam,es];by_cases hk:(Zco lim (biV x.op (evT lim P ls a i).1 (evT lim P ls b (i+a.flat.length)).1) (i+a.flat.length+b.flat.length)).2.1=0
    ·rw[if_neg (by simpa using hk),if_neg (by simpa using hk),(zeq hk).2.2,Yp,Yp];simp only[Yav]
     rfl
    ·rw[if_pos hk,if_pos hk]
   ·rw[if_pos hb];have ee:evT lim P ls (.bin x a b) i=evT lim P ls b (i+a.flat.length):=by show (if _ then _ else _)=_;rw[if_neg (by simpa using ha),if_pos hb]
    rw[ee,if_pos hb]
  ·rw[if_pos ha];have ee:evT lim P ls (.bin x a b) i=evT lim P ls a i:=by show (if _ then _ else _)=_;rw[if_pos ha]
   rw[ee,if_pos ha]
theorem zi4(lim:Nat)(P:Po)(ls:List Rat):∀(t:Tre) (i:Nat),(evT lim P ls t i).2.1=0\/(evT lim P ls t i).2.1=3\/(evT lim P ls t i).2.1=6
 | .leaf x,i=>zkz _ _ _
 | .un x a,i=>by
  unfold evT;split
  ·exact zi4 lim P ls a i
  ·exact zkz _ _ _
 | .bin x a b,i=>by
  unfold evT;split
  ·exact zi4 lim P ls a i
  ·split
   ·exact zi4 lim P ls b _
   ·exact zkz _ _ _
theorem z6a{lim:Nat}{P:Po}{ls:List Rat}:∀{t:Tre} {i:Nat},(evT lim P ls t i).2.1=0->(evT lim P ls t i).2.2=0/\Zbl (evT lim P ls t i).1<=lim
 | .leaf x,i,h=>by
  have:=zeq (show (Zco lim (Zca P ls x,true) i).2.1=0 from h);show (Zco lim (Zca P ls x,true) i).2.2=0/\Zbl (Zco lim (Zca P ls x,true) i).1<=lim;rw[this.2.2];exact⟨rfl,this.2.1⟩
 | .un x a,i,h=>by
  unfold evT at h ⊢;split
  ·next ha=>rw[if_pos ha]at h;exact absurd h ha
  ·next ha=>
   rw[if_neg ha]at h;have:=zeq h;rw[this.2.2];exact⟨rfl,this.2.1⟩
 | .bin x a b,i,h=>by
  unfold evT at h ⊢;split
  ·next ha=>rw[if_pos ha]at h;exact absurd h ha
  ·next ha=>
   rw[if_neg ha]at h;split
   ·next hb=>rw[if_pos hb]at h;exact absurd h hb
   ·next hb=>
    rw[if_neg hb]at h;have:=zeq h;rw[this.2.2];exact⟨rfl,this.2.1⟩
def z10(lim:Nat)(P:Po)(ls:List Rat)(t:Tre)(h:t.ok)(i:Nat):Zam lim P ls i [] t.flat=evT lim P ls t i:=by
 have:=zha lim P ls t h i [] [];rw[Yau]at this;rw[this];by_cases hk:(evT lim P ls t i).2.1=0
 ·rw[if_neg (by simpa using hk)];show ((evT lim P ls t i).1,0,0)=_;have:=(z6a hk).1;exact Prod.ext rfl (Prod.ext hk.symm this.symm)
 ·rw[if_pos hk]
def z45{P:Po}{ls:List Rat}{x:Nd}(hP:PvS P 1000)(hls:∀q∈ls,sz q<=1000)(hx:x.n.length<=1000):sz (Zca P ls x)<=1000:=by
 unfold Zca;split
 ·unfold sz;have h1:=zac x.n;have e1:((val x.n:Nat):Rat).num.natAbs=val x.n:=by simp
  have e2:((val x.n:Nat):Rat).den=1:=by simp
  rw[e1,e2,zgh];exact Yd9.2 ⟨by omega,by decide⟩
 ·split
  ·exact zc4 (by decide) hP.y
  ·split
   ·exact zc4 (by decide) hP.p
   ·split
    ·exact zc4 (by decide) hls
    ·exact hP.t
def zaf1{x:Nd}{a:Rat}(ha:sz a<=129):sz (unV x a).1<=2000:=by
 unfold unV;split
 ·simp only[zih];omega
 ·unfold Zeh;split
  ·next h=>
   have:=zh1 ha h.1 h.2.1;show sz (Zbp a x.i)<=2000;omega
  ·simp[zd6]
def zaf2{op:Int}{a b:Rat}(ha:sz a<=129)(hb:sz b<=129):sz (biV op a b).1<=2000:=by
 unfold biV;split
 ·have:=zig a b;simp only;omega
 ·split
  ·have:=zqn a b;simp only;omega
  ·split
   ·have:=zbz a b;simp only;omega
   ·have:=zfd a b;simp only;omega
def z6b{lim:Nat}{q:Rat}(hl:lim<=4096)(h:Zbl q<=lim):sz q<=129:=by
 have:=ze8 h;have:lim/32<=128:=by omega
 omega
def Zo7(lim:Nat)(P:Po)(ls:List Rat):List Rat->List Nd->Int->Int->Int×Int
 | _,[],c,p=>(c,p)
 | s,x::r,c,p=>if (Zc3 P ls s x).1.2=false then (c,p) else if lim<Zbl (Zc3 P ls s x).1.1 then (Zbg c,Zbn p (fz (Zc3 P ls s x).1.1))
   else Zo7 lim P ls ((Zc3 P ls s x).1.1::(Zc3 P ls s x).2) r (Zbg c) (Zbn p (fz (Zc3 P ls s x).1.1))
end Go.Ab