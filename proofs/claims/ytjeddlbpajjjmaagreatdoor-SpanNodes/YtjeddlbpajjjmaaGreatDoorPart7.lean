/-
  A calculus of values, boxes and code, and what functions of the program compute, proved in it.
  Conditions: none beyond those that the theorems state. (Part 7.)
-/
import Derived.Test.YtjeddlbpajjjmaaGreatDoorPart6
import Derived.Test.YtjeddlbpajjjmaaGreatDoorRows
import Derived.Test.YtjeddlbpajjjmaaGreatDoorCards
import Derived.Test.YtjeddlbpajjjmaaGreatDoorTie
import Derived.ProofKit
import Derived.LaidMore
import Derived.OpenShut
import Derived.Stop.Joined
import Derived.SevenTiedAt
import Derived.Lib.LaidU8
import Derived.Lib.IndexAny
import Derived.Lib.Bytealg

set_option linter.unusedSectionVars false
set_option linter.unusedVariables false
set_option linter.unusedSimpArgs false
set_option linter.unnecessarySimpa false

namespace Go.Ab
structure Ins where
 op:Int
 a:Int
 b:Int
 n:Fz
abbrev celI(i:Ins):List AV:=[.i .i64 i.op,.i .i64 i.a,.i .i64 i.b,.b i.n.1,.sl (u32s i.n.2.1) .an,.sl (u32s i.n.2.2) .an]
def rowI(l:List Ins):List (List AV):=l.map celI
@[simp] theorem z1e(l:List Ins):(rowI l).length=l.length:=by simp[rowI]
@[simp] theorem z1f(l:List Ins):wkL (rowI l)=rowI l:=by rw[zbx];simp[rowI,wkR,wkA]
@[simp] theorem z9k(l:List Ins)(i:Nat)(h:i<(rowI l).length):(rowI l)[i]=celI (l[i]'(by simpa using h)):=by simp[rowI]
theorem zu9(l:List Ins)(x:Ins):rowI l++[celI x]=rowI (l++[x]):=by simp[rowI]
@[simp] theorem z6e(l:List Ins)(n:Nat):(rowI l).take n=rowI (l.take n):=by simp[rowI]
@[simp] theorem zxr:rowI []=[]:=rfl
theorem zva{m:List Ins}{n:Nat}(h:m.length=n)(x:Ins):wkL (rowI (List.take n m)++[celI x])=rowI (m++[x]):=by
 rw[List.take_of_length_le (by omega),zu9,z1f]
structure Tp where
 code:List Ins
 outs:List Int
 dim:Int
 par:Int
abbrev etp(t:Tp):AV:=.agg [.sl (rowI t.code) .an,.sl (ints t.outs) .an,.i .i64 t.dim,.i .i64 t.par]
def rightF(x:Fz):Bool:=decide (x=fz (fv x))
def blankF(x:Fz):Bool:=!x.1&&x.2.1.isEmpty&&x.2.2.isEmpty
def readsI(i:Ins):List Int:=if i.op=6∨i.op=11 then [i.a] else if 7≤i.op∧i.op≤10 then [i.a,i.b] else []
def belowB(i m:Int):Bool:=decide (0≤i)&&decide (i<m)
def mayI(dim par p:Int)(i:Ins):Bool:=
 if i.op=1 then decide (i.a=0)&&decide (i.b=0)&&rightF i.n
 else blankF i.n&&(readsI i).all (fun r=>belowB r p) &&
  (if i.op=2 then decide (i.a=0)&&decide (i.b=0)
   else if i.op=3 then belowB i.a dim&&decide (i.b=0)
   else if i.op=4 then belowB i.a par&&decide (i.b=0)
   else if i.op=6 then decide (i.b=0)
   else if i.op=11 then decide (-8≤i.b)&&decide (i.b≤8)
   else decide ((readsI i).length=2))
def firstI(dim par:Int):Nat→List Ins→Int
 | _,[]=>-1
 | p,i::r=>if mayI dim par p i then firstI dim par (p+1) r else p
def wholeT(t:Tp):Bool:=belowB (t.dim-1) 6&&belowB t.par 7&&decide ((t.outs.length:Int)=t.dim)&&decide (t.code.length≤300)
def wrongT(t:Tp):Int:=
 if wholeT t=false then -2 else if firstI t.dim t.par 0 t.code≠-1 then firstI t.dim t.par 0 t.code
 else if (t.outs.all fun o=>belowB o t.code.length)=false then t.code.length else -1
def okT(t:Tp):Bool:=decide (wrongT t=-1)
theorem zjd(dim par:Int):∀(l:List Ins) (p:Nat),firstI dim par p l=-1↔∀(k:Nat) (i:Ins),l[k]? = some i→mayI dim par (p+k:Nat) i=true
 | [],p=>by simp[firstI]
 | x::l,p=>by
  have ih:=zjd dim par l (p+1)
  unfold firstI
  by_cases h:mayI dim par p x=true
  ·rw[if_pos h,ih]
   constructor
   ·intro H k i hk
    cases k with
    | zero=>simp only[List.getElem?_cons_zero,Option.some.injEq]at hk;subst hk;simpa using h
    | succ k=>have:=H k i (by simpa using hk);rwa [show p+1+k=p+(k+1) by omega]at this
   ·intro H k i hk
    have:=H (k+1) i (by simpa using hk)
    rwa [show p+(k+1)=p+1+k by omega]at this
  ·rw[if_neg h]
   constructor
   ·intro H;omega
   ·intro H;exact absurd (by simpa using H 0 x rfl) h
structure OkTp (t:Tp):Prop where
 d1:1≤t.dim
 d2:t.dim≤6
 p1:0≤t.par
 p2:t.par≤6
 ol:(t.outs.length:Int)=t.dim
 cl:t.code.length≤300
 may:∀(k:Nat) (i:Ins),t.code[k]? = some i→mayI t.dim t.par k i=true
 outs:∀o∈t.outs,0≤o∧o<t.code.length
theorem zga(t:Tp):okT t=true↔OkTp t:=by
 unfold okT wrongT
 rw[decide_eq_true_eq]
 by_cases h1:wholeT t=false
 ·rw[if_pos h1]
  constructor
  ·intro h;omega
  ·intro h
   exfalso
   have:wholeT t=true:=by
    have:=h.d1;have:=h.d2;have:=h.p1;have:=h.p2
    simp only[wholeT,belowB,Bool.and_eq_true,decide_eq_true_eq]
    exact⟨⟨⟨⟨by omega,by omega⟩,by omega,by omega⟩,h.ol⟩,h.cl⟩
   rw[this]at h1;cases h1
 ·have hw:wholeT t=true:=by simpa using h1
  rw[if_neg h1]
  simp only[wholeT,belowB,Bool.and_eq_true,decide_eq_true_eq]at hw
  obtain⟨⟨⟨⟨a1,a2⟩,a3,a4⟩,a5⟩,a6⟩:=hw
  have hf:=zjd t.dim t.par t.code 0
  by_cases h2:firstI t.dim t.par 0 t.code≠-1
  ·rw[if_pos h2]
   constructor
   ·intro h;exact absurd h h2
   ·intro h;exact absurd (hf.2 fun k i hk=>by rw[Nat.zero_add];exact h.may k i hk) h2
  ·have h2':firstI t.dim t.par 0 t.code=-1:=by simpa using h2
   rw[if_neg h2]
   by_cases h3:(t.outs.all fun o=>belowB o t.code.length)=false
   ·rw[if_pos h3]
    constructor
    ·intro h;omega
    ·intro h
     exfalso
     have:(t.outs.all fun o=>belowB o t.code.length)=true:=List.all_eq_true.2 fun o ho=>by
      have:=h.outs o ho
      simp only[belowB,Bool.and_eq_true,decide_eq_true_eq]
      exact this
     rw[this]at h3;cases h3
   ·rw[if_neg h3]
    have h3':(t.outs.all fun o=>belowB o t.code.length)=true:=by simpa using h3
    refine⟨fun _=>⟨by omega,by omega,a3,by omega,a5,a6,fun k i hk=>by have:=hf.1 h2' k i hk;rwa [Nat.zero_add]at this,fun o ho=>?_⟩,fun _=>rfl⟩
    have:=List.all_eq_true.1 h3' o ho
    simpa only[belowB,Bool.and_eq_true,decide_eq_true_eq]using this
theorem zaea{dim par:Int}{p:Nat}{i:Ins}(h:mayI dim par p i=true)(ho:i.op=6∨i.op=11∨(7≤i.op∧i.op≤10)):0≤i.a∧i.a<p:=by
 unfold mayI at h
 rw[if_neg (by omega)]at h
 simp only[Bool.and_eq_true,List.all_eq_true]at h
 have:=h.1.2 i.a (by
  unfold readsI
  by_cases h1:i.op=6∨i.op=11
  ·rw[if_pos h1];simp
  ·rw[if_neg h1,if_pos (by omega)];simp)
 simpa only[belowB,Bool.and_eq_true,decide_eq_true_eq]using this
theorem zaeb{dim par:Int}{p:Nat}{i:Ins}(h:mayI dim par p i=true)(ho:7≤i.op∧i.op≤10):0≤i.b∧i.b<p:=by
 unfold mayI at h
 rw[if_neg (by omega)]at h
 simp only[Bool.and_eq_true,List.all_eq_true]at h
 have:=h.1.2 i.b (by
  unfold readsI
  rw[if_neg (by omega),if_pos ho];simp)
 simpa only[belowB,Bool.and_eq_true,decide_eq_true_eq]using this
theorem zyr{dim par:Int}{p:Nat}{i:Ins}(h:mayI dim par p i=true):i.op=1∨i.op=2∨i.op=3∨i.op=4∨i.op=6∨i.op=7∨i.op=8∨i.op=9∨i.op=10∨i.op=11:=by
 unfold mayI at h
 by_cases h1:i.op=1
 ·exact .inl h1
 rw[if_neg h1]at h
 by_cases h2:i.op=2
 ·omega
 by_cases h3:i.op=3
 ·omega
 by_cases h4:i.op=4
 ·omega
 by_cases h6:i.op=6
 ·omega
 by_cases h11:i.op=11
 ·omega
 rw[if_neg h2,if_neg h3,if_neg h4,if_neg h6,if_neg h11]at h
 simp only[Bool.and_eq_true,decide_eq_true_eq]at h
 have h2':=h.2
 by_cases hr:7≤i.op∧i.op≤10
 ·omega
 ·have e:readsI i=[]:=by
   unfold readsI
   rw[if_neg (by omega),if_neg hr]
  rw[e]at h2'
  simp at h2'
theorem zaec{dim par:Int}{p:Nat}{i:Ins}(h:mayI dim par p i=true)(ho:i.op=3):0≤i.a∧i.a<dim:=by
 unfold mayI at h
 rw[if_neg (by omega),if_neg (by omega),if_pos ho]at h
 simp only[Bool.and_eq_true,decide_eq_true_eq,belowB]at h
 exact h.2.1
theorem zaed{dim par:Int}{p:Nat}{i:Ins}(h:mayI dim par p i=true)(ho:i.op=4):0≤i.a∧i.a<par:=by
 unfold mayI at h
 rw[if_neg (by omega),if_neg (by omega),if_neg (by omega),if_pos ho]at h
 simp only[Bool.and_eq_true,decide_eq_true_eq,belowB]at h
 exact h.2.1
theorem z6f{dim par:Int}{p:Nat}{i:Ins}(h:mayI dim par p i=true)(ho:i.op=11):-8≤i.b∧i.b≤8:=by
 unfold mayI at h
 rw[if_neg (by omega),if_neg (by omega),if_neg (by omega),if_neg (by omega),if_neg (by omega),if_pos ho]at h
 simp only[Bool.and_eq_true,decide_eq_true_eq]at h
 exact h.2
structure Po where
 t:Rat
 y:List Rat
 p:List Rat
structure PoF where
 t:Fz
 y:List Fz
 p:List Fz
def PoF.v(x:PoF):Po:=⟨fv x.t,x.y.map fv,x.p.map fv⟩
def Po.f(x:Po):PoF:=⟨fz x.t,fzs x.y,fzs x.p⟩
abbrev ept(x:PoF):AV:=.agg [.b x.t.1,.sl (u32s x.t.2.1) .an,.sl (u32s x.t.2.2) .an,.sl (rowF x.y) .an,.sl (rowF x.p) .an]
def gI(l:List Rat)(i:Int):Rat:=l.getD i.toNat 0
def powZ(x:Rat)(e:Int):Rat:=x^e
def valI(P:Po)(D:List Rat)(i:Ins):Rat×Bool:=
 if i.op=1 then (fv i.n,true)
 else if i.op=3 then (gI P.y i.a,true)
 else if i.op=4 then (gI P.p i.a,true)
 else if i.op=6 then (-gI D i.a,true)
 else if i.op=7 then (gI D i.a+gI D i.b,true)
 else if i.op=8 then (gI D i.a-gI D i.b,true)
 else if i.op=9 then (gI D i.a*gI D i.b,true)
 else if i.op=10 then (gI D i.a/gI D i.b,decide (gI D i.b≠0))
 else if i.op=11 then (if i.b<0∧gI D i.a=0 then (0,false) else (powZ (gI D i.a) i.b,true))
 else (P.t,true)
def sizQ(q:Rat):Nat:=sizF (fz q)
def runR(lim:Nat)(P:Po):List Ins→List Rat→List Rat×Nat×Nat
 | [],D=>(D,0,0)
 | i::r,D=>if (valI P D i).2=false then ([],3,D.length) else if lim<sizQ (valI P D i).1 then ([],6,D.length) else runR lim P r (D++[(valI P D i).1])
theorem zce(lim:Nat)(P:Po)(i:Ins)(r:List Ins)(D:List Rat):runR lim P (i::r) D=if (valI P D i).2=false then ([],3,D.length) else if lim<sizQ (valI P D i).1 then ([],6,D.length) else runR lim P r (D++[(valI P D i).1]):=rfl
theorem zmj(lim:Nat)(P:Po):∀(l:List Ins) (D:List Rat),(runR lim P l D).2.1=0∨(runR lim P l D).2.1=3∨(runR lim P l D).2.1=6
 | [],D=>.inl rfl
 | i::r,D=>by
  rw[zce]
  split
  ·exact .inr (.inl rfl)
  ·split
   ·exact .inr (.inr rfl)
   ·exact zmj lim P r _
theorem zh6(lim:Nat)(P:Po):∀(l:List Ins) (D:List Rat),(runR lim P l D).2.1=0→(runR lim P l D).2.2=0∧∃E,(runR lim P l D).1=D++E∧E.length=l.length
 | [],D,_=>⟨rfl,[],by simp[runR],rfl⟩
 | i::r,D,h=>by
  have ih:=zh6 lim P r (D++[(valI P D i).1])
  rw[zce]at h ⊢
  by_cases h1:(valI P D i).2=false
  ·simp[h1]at h
  ·rw[if_neg h1]at h ⊢
   by_cases h2:lim<sizQ (valI P D i).1
   ·simp[h2]at h
   ·rw[if_neg h2]at h ⊢
    obtain⟨e1,E,e2,e3⟩:=ih h
    exact⟨e1,(valI P D i).1::E,by rw[e2];simp,by simp[e3]⟩
theorem zvb(lim:Nat)(P:Po):∀(l:List Ins) (D:List Rat),(runR lim P l D).2.1≠0→(runR lim P l D).1=[]∧D.length≤(runR lim P l D).2.2∧(runR lim P l D).2.2<D.length+l.length
 | [],D,h=>by simp[runR]at h
 | i::r,D,h=>by
  have ih:=zvb lim P r (D++[(valI P D i).1])
  rw[zce]at h ⊢
  by_cases h1:(valI P D i).2=false
  ·simp[h1]
  ·rw[if_neg h1]at h ⊢
   by_cases h2:lim<sizQ (valI P D i).1
   ·simp[h2]
   ·rw[if_neg h2]at h ⊢
    have:=ih h
    simp only[List.length_append,List.length_cons,List.length_nil]at this ⊢
    exact⟨this.1,by omega,by omega⟩
abbrev tyI:Ty:=.cons (.int .i64) (.cons (.int .i64) (.cons (.int .i64) (.cons tyF .nil)))
abbrev tyT:Ty:=.cons (.sl tyI) (.cons (.sl (.int .i64)) (.cons (.int .i64) (.cons (.int .i64) .nil)))
abbrev tyP:Ty:=.cons tyF (.cons (.sl tyF) (.cons (.sl tyF) .nil))
theorem z5o{cs:List AV}(h:Ok tyI cs):∃x:Ins,wkR cs=celI x:=by
 obtain⟨c1,c1',rfl,⟨a,rfl,_⟩,c2,c2',rfl,⟨b,rfl,_⟩,c3,c3',rfl,⟨c,rfl,_⟩,c4,c4',rfl,h4,rfl⟩:=h
 obtain⟨x,e⟩:=zhl h4
 refine⟨⟨a,b,c,x⟩,?_⟩
 simp only[zc6,e]
 rfl
theorem zok:∀(els:List (List AV)),(∀r∈els,Ok tyI r)→∃l:List Ins,wkL els=rowI l
 | [],_=>⟨[],rfl⟩
 | r::els,h=>by
  obtain⟨l,hl⟩:=zok els fun r hr=>h r (List.mem_cons_of_mem _ hr)
  obtain⟨x,hx⟩:=z5o (h r List.mem_cons_self)
  refine⟨x::l,?_⟩
  simp only[wkL,hx,hl]
  rfl
theorem zol:∀(els:List (List AV)),(∀r∈els,Ok (.int .i64) r)→∃l:List Int,wkL els=ints l
 | [],_=>⟨[],rfl⟩
 | r::els,h=>by
  obtain⟨l,hl⟩:=zol els fun r hr=>h r (List.mem_cons_of_mem _ hr)
  obtain⟨x,rfl,_⟩:=h r List.mem_cons_self
  refine⟨x::l,?_⟩
  simp only[wkL,hl]
  rfl
theorem z5p{a:Int}(h:(Lit.int .i64 a).wf=true):-9223372036854775808≤a∧a<9223372036854775808:=by
 simp[Lit.wf,IntKind.min,IntKind.max,IntKind.signed,IntKind.bits]at h
 omega
section
variable{T:Tbl}[CJoin T][CLex T]
theorem zln(c:UInt8):callF T 185 [u8 c.toNat]=some (.b (isD c)):=by
 rw[f185 _ rfl,b185]
 by_cases h1:48≤c.toNat
 ·simp -implicitDefEqProofs[isD,h1]
 ·simp -implicitDefEqProofs[isD,h1]
theorem ziw(c:UInt8):callF T 186 [u8 c.toNat]=some (.b (isL c)):=by
 rw[f186 _ rfl,b186]
 by_cases h1:97≤c.toNat<;>by_cases h2:c.toNat≤122<;>by_cases h3:65≤c.toNat<;>by_cases h4:c.toNat≤90<;>by_cases h5:c.toNat=95 <;>
  simp -implicitDefEqProofs[isL,h1,h2,h3,h4,h5]
theorem zwh(c:UInt8):callF T 187 [u8 c.toNat]=some (.b (isS c)):=by rw[p187,zra]
theorem zwi(c:UInt8):callF T 177 [u8 c.toNat]=some (.i .i64 (kindN c)):=by
 have h1:=zln (T:=T) c
 have h2:=ziw (T:=T) c
 have h3:=zwh (T:=T) c
 rw[f177 _ rfl,b177]
 cases e1:isD c<;>cases e2:isL c<;>cases e3:isS c<;>simp -implicitDefEqProofs[kindN,h1,h2,h3,e1,e2,e3]
theorem zwj(k:Nat)(c:UInt8):callF T 188 [.i .i64 k,u8 c.toNat]=some (.b (moreN k c)):=by
 have h1:=zln (T:=T) c
 have h2:=ziw (T:=T) c
 rw[f188 _ rfl,b188]
 by_cases k1:k=1
 ·subst k1
  cases e1:isD c<;>cases e2:isL c<;>simp -implicitDefEqProofs[moreN,h1,h2,e1,e2]
 ·have k1':¬ (k:Int)=1:=by omega
  by_cases k2:k=2
  ·subst k2
   cases e1:isD c<;>cases e2:isL c<;>simp -implicitDefEqProofs[moreN,h1,h2,e1,e2]
  ·have k2':¬ (k:Int)=2:=by omega
   simp -implicitDefEqProofs[moreN,h1,h2,k1,k2,k1',k2']
theorem zwk(k:Nat):callF T 179 [.i .i64 k]=some (.i .i64 (mostN k)):=by
 rw[f179 _ rfl,b179]
 by_cases k1:k=1
 ·subst k1
  simp -implicitDefEqProofs[mostN]
 ·have k1':¬ (k:Int)=1:=by omega
  by_cases k2:k=2
  ·subst k2
   simp -implicitDefEqProofs[mostN]
  ·have k2':¬ (k:Int)=2:=by omega
   simp -implicitDefEqProofs[mostN,k1,k2,k1',k2']
theorem zp6(s:List UInt8)(hs:s.length≤1000000)(k F:Nat):∀n:Nat,(n≤s.length∧n+((s.drop n).takeWhile (moreN k)).length=F) →
  loopN T 0 0 (.norm false [5]) l178_0 ⟨[(0,.s s),(1,.i .i64 k),(5,.i .i64 n)],[],2⟩=some (.n,⟨[(5,.i .i64 F)],[],2⟩):=by
 refine za8 (fun n:Nat=>⟨[(0,.s s),(1,.i .i64 k),(5,.i .i64 n)],[],2⟩) _ (fun n=>s.length-n) _ ?_
 rintro n ⟨hn,hF⟩
 by_cases h0:n<s.length
 ·have hg:s[n]? = some (s[n]'h0):=List.getElem?_eq_getElem h0
  have hd:=List.drop_eq_getElem_cons h0
  have hgo:=zwj (T:=T) k (s[n]'h0)
  have hw:IntKind.wrap .i64 ((n:Int)+1)=((n+1:Nat):Int):=zac _ (by omega)
  by_cases hc:moreN k (s[n]'h0)=true
  ·left
   rw[hd,List.takeWhile_cons_of_pos hc]at hF
   refine⟨n+1,⟨h0,by simp only[List.length_cons]at hF;omega⟩,by show s.length-(n+1)<s.length-n;omega,?_,rfl⟩
   simp -implicitDefEqProofs[l178_0,h0,hg,hgo,hc,hw]
  ·right
   rw[hd,List.takeWhile_cons_of_neg hc]at hF
   simp only[List.length_nil,Nat.add_zero]at hF
   subst hF
   constructor<;>simp -implicitDefEqProofs[l178_0,h0,hg,hgo,hc]
 ·right
  have:n=s.length:=by omega
  subst this
  rw[List.drop_length]at hF
  simp only[List.takeWhile_nil,List.length_nil,Nat.add_zero]at hF
  subst hF
  constructor<;>simp -implicitDefEqProofs[l178_0]
theorem ztl(c:UInt8)(r:List UInt8)(hs:r.length≤100000)(k:Nat):callF T 178 [.s (c::r),.i .i64 k]=some (.i .i64 (firstN k r)):=by
 have h:=zp6 (T:=T) (c::r) (by simp;omega) k (firstN k r) 1 ⟨by simp,rfl⟩
 rw[f178 _ rfl,b178]
 simp at h
 simp -implicitDefEqProofs[h]
def wdR(w:Wd):List AV:=[.i .i64 w.1,.s w.2.1,.i .i64 w.2.2]
def rowsW(l:List Wd):List (List AV):=l.map wdR
def stScL(s:List UInt8)(i:Nat)(acc:List Wd):St:=
 ⟨[(0,.s s),(3,.ptr (.loc 3) 1 4 0 0),(4,.bs (.loc 4) 2 3 0 acc.length),(5,.i .i64 i)],[(.loc 3,⟨1,.str,4,[[.i .i64 0,.i .i64 0,.i .i64 0,.i .i64 0]]⟩),(.loc 4,⟨2,.own,3,rowsW acc⟩)],4⟩
def resSc:Except Nat (List Wd)→Option (Ex×St)
 | .ok ws=>some (.n,⟨[(3,.ptr (.loc 3) 1 4 0 0),(4,.bs (.loc 4) 2 3 0 ws.length)],[(.loc 3,⟨1,.str,4,[[.i .i64 0,.i .i64 0,.i .i64 0,.i .i64 0]]⟩),(.loc 4,⟨2,.own,3,rowsW ws⟩)],4⟩)
 | .error e=>some (.r,⟨[(2,.sl [] .an),(3,.ptr (.loc 3) 1 4 0 0)],[(.loc 3,⟨1,.str,4,[[.i .i64 1,.i .i64 0,.i .i64 0,.i .i64 e]]⟩)],3⟩)
def ansScan(r:Except Nat (List Wd)):AV:=
 match r with
 | .ok ws=>.tup [.sl (rowsW ws) .an,.agg [.i .i64 0,.i .i64 0,.i .i64 0,.i .i64 0]]
 | .error e=>.tup [.sl [] .an,.agg [.i .i64 1,.i .i64 0,.i .i64 0,.i .i64 e]]
def scanT(s:List UInt8):Except Nat (List Wd):=if 4000<s.length then .error 4000 else scanL (s.drop (skipC false s)) (skipC false s) []
def rightB(k:Int)(t:List UInt8):Bool:=
 match t with
 | []=>false
 | c::r=>decide (k≠0)&&decide ((kindN c:Int)=k)&&decide (firstN (kindN c) r=r.length+1)&&decide (r.length+1≤mostN (kindN c))
theorem ztm(k a:Int)(t:List UInt8)(ht:t.length≤100000):callF T 172 [.agg [.i .i64 k,.s t,.i .i64 a]]=some (.b (rightB k t)):=by
 rw[f172 _ rfl,b172]
 cases t with
 | nil=>simp -implicitDefEqProofs[rightB]
 | cons c r=>
  simp only[List.length_cons]at ht
  have hk:=zwi (T:=T) c
  have hf:=ztl (T:=T) c r (by omega) (kindN c)
  have hm:=zwk (T:=T) (kindN c)
  by_cases h0:k=0
  ·simp -implicitDefEqProofs[rightB,h0]
  ·by_cases h1:(kindN c:Int)=k
   ·subst h1
    have h0':¬ kindN c=0:=by omega
    by_cases h2:firstN (kindN c) r=r.length+1
    ·have h2':((firstN (kindN c) r:Nat):Int)=(r.length:Int)+1:=by omega
     by_cases h3:r.length+1≤mostN (kindN c)
     ·have h3':(r.length:Int)+1≤(mostN (kindN c):Nat):=by omega
      simp -implicitDefEqProofs[rightB,h0',hk,hf,hm,h2,h2',h3,h3']
     ·have h3':¬ (r.length:Int)+1≤(mostN (kindN c):Nat):=by omega
      simp -implicitDefEqProofs[rightB,h0',hk,hf,hm,h2,h2',h3,h3']
    ·have h2':¬ ((firstN (kindN c) r:Nat):Int)=(r.length:Int)+1:=by omega
     simp -implicitDefEqProofs[rightB,h0',hk,hf,hm,h2,h2']
   ·simp -implicitDefEqProofs[rightB,h0,hk,h1]
abbrev Wz:=Int×List UInt8×Int
def wzR(w:Wz):List AV:=[.i .i64 w.1,.s w.2.1,.i .i64 w.2.2]
def rowsZ(l:List Wz):List (List AV):=l.map wzR
def stTe(l:List Wz)(i:Nat)(b:BId):St:=
 ⟨[(3,.bs (.loc 3) 1 1 0 i),(6,.sl (rowsZ l) .an),(7,.i .i64 l.length),(8,.i .i64 i)],[(.loc 3,⟨1,.own,1,rowsT ((l.take i).map (·.2.1))⟩)],3⟩
end
structure Tr where
 t:Fz
 w:Fz
 h:Fz
 e:Fz
 y:List Fz
 ok:Bool
abbrev celR(r:Tr):List AV:=[.b r.t.1,.sl (u32s r.t.2.1) .an,.sl (u32s r.t.2.2) .an,.b r.w.1,.sl (u32s r.w.2.1) .an,.sl (u32s r.w.2.2) .an,.b r.h.1,.sl (u32s r.h.2.1) .an,.sl (u32s r.h.2.2) .an,.b r.e.1,.sl (u32s r.e.2.1) .an,.sl (u32s r.e.2.2) .an,.sl (rowF r.y) .an,.b r.ok]
def rowTr(l:List Tr):List (List AV):=l.map celR
@[simp] theorem zyq(l:List Tr):(rowTr l).length=l.length:=by simp[rowTr]
@[simp] theorem zo8(l:List Tr):wkL (rowTr l)=rowTr l:=by rw[zbx];simp[rowTr,wkR,wkA]
@[simp] theorem z6d(l:List Tr)(i:Nat)(h:i<(rowTr l).length):(rowTr l)[i]=celR (l[i]'(by simpa using h)):=by simp[rowTr]
theorem zjb(l:List Tr)(x:Tr):rowTr l++[celR x]=rowTr (l++[x]):=by simp[rowTr]
@[simp] theorem z27(l:List Tr)(n:Nat):(rowTr l).take n=rowTr (l.take n):=by simp[rowTr]
@[simp] theorem zmi:rowTr []=[]:=rfl
theorem zq9{m:List Tr}{n:Nat}(h:m.length=n)(x:Tr):wkL (rowTr (List.take n m)++[celR x])=rowTr (m++[x]):=by
 rw[List.take_of_length_le (by omega),zjb,zo8]
structure Hs where
 l:List Tr
 t:Fz
 y:List Fz
abbrev ehs(h:Hs):AV:=.agg [.sl (rowTr h.l) .an,.b h.t.1,.sl (u32s h.t.2.1) .an,.sl (u32s h.t.2.2) .an,.sl (rowF h.y) .an]
def rightsB(l:List Fz):Bool:=l.all rightF
def Tr.nums(r:Tr):List Fz:=[r.t,r.w,r.h,r.e]
def plainH(h:Hs):Bool:=(h.l.all fun r=>rightsB r.nums&&rightsB r.y)&&(rightF h.t&&rightsB h.y)
def lensH(h:Hs):Bool:=(h.l.all fun r=>decide (r.y.length=h.y.length))&&(decide (1≤h.y.length)&&decide (h.y.length≤6))
def sizeR(r:Tr):Bool:=decide (0<fv r.w)&&decide (0<fv r.h)&&decide (fv r.h≤fv r.w)&&decide (0≤fv r.e)
def sizesH(h:Hs):Bool:=h.l.all sizeR
def follB(r:Tr)(at_:Fz)(y:List Fz):Bool:=if r.ok then decide (fv at_=fv r.t+fv r.h) else decide (fv at_=fv r.t)&&decide (y.map fv=r.y.map fv)
def nextH(l:List Tr)(t:Fz)(y:List Fz):Fz×List Fz:=match l with | []=>(t,y) | r::_=>(r.t,r.y)
def chainL:List Tr→Fz→List Fz→Bool
 | [],_,_=>true
 | r::l,t,y=>follB r (nextH l t y).1 (nextH l t y).2&&chainL l t y
def chainH(h:Hs):Bool:=chainL h.l h.t h.y
def wrongH(h:Hs):Int:=if !plainH h then 1 else if !lensH h then 2 else if 200<h.l.length then 3 else if !sizesH h then 4 else if !chainH h then 5 else 0
def rightH(h:Hs):Bool:=decide (wrongH h=0)
def nrmR(r:Tr):Tr:=⟨fz (fv r.t),fz (fv r.w),fz (fv r.h),fz (fv r.e),nrm r.y,r.ok⟩
def accH(l:List Tr):List Tr:=(l.filter (·.ok)).map nrmR
def nodeT(h:Hs):List Fz:=(accH h.l).map (·.t)++[fz (fv h.t)]
def nodeY(h:Hs):List (List Fz):=(accH h.l).map (·.y)++[nrm h.y]
def szsH(h:Hs):List Fz:=(accH h.l).map (·.h)
structure HsS (h:Hs) (B:Nat):Prop where
 len:h.l.length≤1000
 t:fsz h.t≤B
 y:∀x∈h.y,fsz x≤B
 yl:h.y.length≤1000
 rt:∀r∈h.l,∀x∈r.nums,fsz x≤B
 ry:∀r∈h.l,∀x∈r.y,fsz x≤B
 rl:∀r∈h.l,r.y.length≤1000
theorem zne:∀(a b:List UInt32),a.length=b.length→val a=val b→a=b
 | [],[],_,_=>rfl
 | x::a,y::b,hl,hv=>by
  simp only[zau]at hv
  have hx:=zam x
  have hy:=zam y
  have h1:x.toNat=y.toNat:=by omega
  have h2:val a=val b:=by omega
  rw[UInt32.toNat_inj.1 h1,zne a b (by simpa using hl) h2]
 | [],_::_,hl,_=>by simp at hl
 | _::_,[],hl,_=>by simp at hl
theorem zfh{x y:Nat}:cmpN x y=0↔x=y:=by
 unfold cmpN
 split
 ·constructor
  ·intro h;omega
  ·intro h;omega
 ·split
  ·constructor
   ·intro h;omega
   ·intro h;omega
  ·constructor
   ·intro _;omega
   ·intro _;rfl
theorem ztb(z:Int):∀t:Nat,sg (decide (z<0)&&decide (t%2=1)) (z.natAbs^t)=z^t
 | 0=>by simp[sg]
 | t+1=>by
  have ih:=ztb z t
  have hz:sg (decide (z<0)) z.natAbs=z:=by
   unfold sg
   by_cases h:z<0
   ·simp only[h,decide_true,if_true];omega
   ·simp only[h,decide_false,Bool.false_eq_true,if_false];omega
  have hm:=zu4 (decide (z<0)&&decide (t%2=1)) (decide (z<0)) (z.natAbs^t) z.natAbs
  rw[ih,hz]at hm
  rw[Int.pow_succ,←hm,Nat.pow_succ]
  congr 1
  rcases Nat.mod_two_eq_zero_or_one t with h | h
  ·have h2:(t+1)%2=1:=by omega
   rw[h,h2]
   cases decide (z<0)<;>rfl
  ·have h2:(t+1)%2=0:=by omega
   rw[h,h2]
   cases decide (z<0)<;>rfl
theorem zf0{x L:Nat}(h:(ofN x).length≤L):∀t:Nat,(ofN (x^t)).length≤t*L+1
 | 0=>by rw[Nat.pow_zero,zdv];simp
 | t+1=>by
  have ih:=zf0 h t
  have:=zbt ih h
  rw[Nat.pow_succ,Nat.succ_mul]
  omega
section
variable{T:Tbl}[CLimb T][CNat T][CProd T][CTwos T][CQuot T][CQuotD T][CWhole T][CCommon T][CFrac T][CFrac3 T]
theorem zf1(x:Fz)(hx:fsz x≤10000):callF T 208 [efz x]=some (.b (rightF x)):=by
 have hn:=zcc (T:=T) x hx
 have hs:=zbs (x:=x) (L:=10000) hx (by decide)
 have l1:=zfp (fv x)
 have l2:=zfq (fv x)
 unfold rightF
 have e':fz (fv x)=(decide ((fv x).num<0),ofN (fv x).num.natAbs,ofN (fv x).den):=rfl
 rw[e']at hn ⊢
 obtain⟨n,a,d⟩:=x
 have la:=zeh (n,a,d)
 have ld:=zez (n,a,d)
 simp only at la ld
 generalize decide ((fv (n,a,d)).num<0)=m at *
 generalize ofN (fv (n,a,d)).num.natAbs=b at *
 generalize ofN (fv (n,a,d)).den=e at *
 have c1:=zf2 (T:=T) a b (by omega) (by omega)
 have c2:=zf2 (T:=T) d e (by omega) (by omega)
 clear e' hs
 change callF T 207 [.agg [.b n,.sl (u32s a) .an,.sl (u32s d) .an]]=some (.agg [.b m,.sl (u32s b) .an,.sl (u32s e) .an]) at hn
 rw[f208 _ rfl,b208]
 by_cases h1:n=m
 case neg=>
  have hd:decide ((n,a,d)=(m,b,e))=false:=by simp[h1]
  have hb:(n == m)=false:=by simpa using h1
  rw[hd]
  simp -implicitDefEqProofs[hn,hb]
 subst h1
 by_cases h2:a.length=b.length
 case neg=>
  have hd:decide ((n,a,d)=(n,b,e))=false:=by
   have:a≠b:=fun h=>h2 (by rw[h])
   simp[this]
  have hb:((a.length:Int) == b.length)=false:=by simp;omega
  have hb':¬ (a.length:Int)=b.length:=by omega
  rw[hd]
  simp -implicitDefEqProofs[hn,hb,hb',h2]
 by_cases h3:d.length=e.length
 case neg=>
  have hd:decide ((n,a,d)=(n,b,e))=false:=by
   have:d≠e:=fun h=>h3 (by rw[h])
   simp[this]
  have hb:((d.length:Int) == e.length)=false:=by simp;omega
  have hb':¬ (d.length:Int)=e.length:=by omega
  rw[hd]
  simp -implicitDefEqProofs[hn,h2,hb,hb',h3]
 by_cases h4:val a=val b
 case neg=>
  have hd:decide ((n,a,d)=(n,b,e))=false:=by
   have:a≠b:=fun h=>h4 (by rw[h])
   simp[this]
  have hc:¬ cmpN (val a) (val b)=0:=fun h=>h4 (zfh.1 h)
  rw[hd]
  generalize cmpN (val a) (val b)=k at *
  simp -implicitDefEqProofs[hn,h2,h3,c1,hc]
 have hab:=zne a b h2 h4
 subst hab
 have hk:cmpN (val a) (val a)=0:=zfh.2 rfl
 rw[hk]at c1
 by_cases h5:val d=val e
 case neg=>
  have hd:decide ((n,a,d)=(n,a,e))=false:=by
   have:d≠e:=fun h=>h5 (by rw[h])
   simp[this]
  have hc:¬ cmpN (val d) (val e)=0:=fun h=>h5 (zfh.1 h)
  rw[hd]
  generalize cmpN (val d) (val e)=k at *
  simp -implicitDefEqProofs[hn,h3,c1,c2,hc]
 have hde:=zne d e h3 h5
 subst hde
 have hk2:cmpN (val d) (val d)=0:=zfh.2 rfl
 rw[hk2]at c2
 have hd:decide ((n,a,d)=(n,a,d))=true:=by simp
 rw[hd]
 simp -implicitDefEqProofs[hn,c1,c2]
def stPw(a:List UInt32)(k i:Nat):St:=⟨[(0,.sl (u32s a) .an),(5,.sl (u32s (ofN (val a^i))) .an),(7,.i .i64 k),(8,.i .i64 i)],[],2⟩
theorem zit(a:List UInt32)(k:Nat)(hk:k≤8)(ha:a.length≤1100):callF T 219 [.sl (u32s a) .an,.i .i64 k]=some (.sl (u32s (ofN (val a^k))) .an):=by
 have h:loopN T 0 0 (.norm false [5]) l219_0 (stPw a k 0)=some (.n,⟨[(5,.sl (u32s (ofN (val a^k))) .an)],[],2⟩):=by
  refine zaq (stPw a k) k _ (fun i hi=>?_) ?_
  ·have hl:=zf0 (L:=1100) (Nat.le_trans (zad a) ha) i
   have c:=zed (T:=T) (ofN (val a^i)) a (by omega) (by omega)
   rw[zaf,←Nat.pow_succ]at c
   have hw:=za9 hi (by omega)
   unfold stPw
   generalize ofN (val a^i)=M at *
   generalize ofN (val a^(i+1))=M' at *
   simp -implicitDefEqProofs[l219_0,hi,hw,c]
  ·unfold stPw
   generalize ofN (val a^k)=M at *
   constructor<;>simp -implicitDefEqProofs[l219_0]
 have ho:=zgg (T:=T) 1 (by decide)
 unfold stPw at h
 rw[Nat.pow_zero]at h
 simp only[Int.natCast_zero]at h
 generalize ofN 1=O at *
 rw[f219 _ rfl,b219]
 generalize ofN (val a^k)=M at *
 simp -implicitDefEqProofs[ho,h]
def powR(q:Rat)(e:Int):Rat×Bool:=if -8≤e∧e≤8∧¬ (e<0∧q=0) then (powZ q e,true) else (0,false)
theorem z5q(q:Rat)(t:Nat):fz (q^t)=(decide (q.num<0)&&decide (t%2=1)&&decide (q.num.natAbs^t≠0),ofN (q.num.natAbs^t),ofN (q.den^t)):=by
 have h:=ztb q.num t
 unfold fz
 rw[Rat.num_pow,Rat.den_pow,←h,zo3,zo4]
theorem zz5(q:Rat)(t:Nat)(hq:q≠0):fz (q^t)⁻¹=(decide (q.num<0)&&decide (t%2=1)&&decide (q.den^t≠0),ofN (q.den^t),ofN (q.num.natAbs^t)):=by
 have h:=ztb q.num t
 have hn:q.num≠0:=fun h=>hq (Rat.num_eq_zero.1 h)
 have hz:q.num^t≠0:=Int.pow_ne_zero hn
 have hd:q.den^t≠0:=Nat.pos_iff_ne_zero.1 (Nat.pow_pos q.den_pos)
 have ha:q.num.natAbs^t≠0:=Nat.pos_iff_ne_zero.1 (Nat.pow_pos (Int.natAbs_pos.2 hn))
 have e1:(q^t)⁻¹.num=(q.num^t).sign*((q.den^t:Nat):Int):=by rw[Rat.num_inv,Rat.num_pow,Rat.den_pow]
 have e2:(q^t)⁻¹.den=q.num.natAbs^t:=by rw[Rat.den_inv,Rat.num_pow,if_neg hz,Int.natAbs_pow]
 have e3:((q.num^t).sign*((q.den^t:Nat):Int)).natAbs=q.den^t:=by
  rw[Int.natAbs_mul,Int.natAbs_sign_of_ne_zero hz,Nat.one_mul,Int.natAbs_natCast]
 have e4:decide ((q.num^t).sign*((q.den^t:Nat):Int)<0)=decide (q.num^t<0):=by
  rw[decide_eq_decide]
  rcases Int.lt_trichotomy (q.num^t) 0 with h1 | h1 | h1
  ·rw[Int.sign_eq_neg_one_of_neg h1]
   constructor
   ·intro _;exact h1
   ·intro _;omega
  ·exact absurd h1 hz
  ·rw[Int.sign_eq_one_of_pos h1]
   constructor
   ·intro _;omega
   ·intro _;omega
 have e5:decide (q.num^t<0)=(decide (q.num<0)&&decide (t%2=1)):=by
  rw[←h,zo3,decide_eq_true ha,Bool.and_true]
 unfold fz
 rw[e1,e2,e3,e4,e5,decide_eq_true hd,Bool.and_true]
theorem zv8(x:Fz)(e:Int)(hx:fsz x≤1000):callF T 220 [efz x,.i .i64 e]=some (.tup [efz (fz (powR (fv x) e).1),.b (powR (fv x) e).2]):=by
 have h0:=zgp (T:=T)
 have hsg:=zc7 (T:=T) x (by omega)
 have hn:=zcc (T:=T) x (by omega)
 have hs:=zbs (x:=x) (L:=1000) hx (by decide)
 have l1:=zfp (fv x)
 have l2:=zfq (fv x)
 unfold powR
 rw[f220 _ rfl,b220]
 by_cases h1:e < -8
 ·rw[if_neg (by omega)]
  generalize fz 0=Z at *
  simp -implicitDefEqProofs[h0,h1]
 by_cases h2:8<e
 ·rw[if_neg (by omega)]
  generalize fz 0=Z at *
  simp -implicitDefEqProofs[h0,h1,h2]
 obtain⟨q,hq⟩:∃q,q=fv x:=⟨_,rfl⟩
 rw[←hq]at hsg hn hs l1 l2 ⊢
 clear hq
 have e':fz q=(decide (q.num<0),ofN q.num.natAbs,ofN q.den):=rfl
 rw[e']at hn
 have hA:(ofN q.num.natAbs).length≤1100:=by omega
 have hD:(ofN q.den).length≤1100:=by omega
 have pA:∀k:Nat,k≤8→callF T 219 [.sl (u32s (ofN q.num.natAbs)) .an,.i .i64 k]=some (.sl (u32s (ofN (q.num.natAbs^k))) .an):=fun k hk=>by
  have:=zit (T:=T) (ofN q.num.natAbs) k hk hA
  rwa [zaf]at this
 have pD:∀k:Nat,k≤8→callF T 219 [.sl (u32s (ofN q.den)) .an,.i .i64 k]=some (.sl (u32s (ofN (q.den^k))) .an):=fun k hk=>by
  have:=zit (T:=T) (ofN q.den) k hk hD
  rwa [zaf]at this
 have lA:∀k:Nat,k≤8→(ofN (q.num.natAbs^k)).length≤1000000:=fun k hk=>by
  have:=zf0 hA k
  have:k*1100≤8*1100:=Nat.mul_le_mul_right _ hk
  omega
 have lD:∀k:Nat,k≤8→(ofN (q.den^k)).length≤1000000:=fun k hk=>by
  have:=zf0 hD k
  have:k*1100≤8*1100:=Nat.mul_le_mul_right _ hk
  omega
 have hodd:∀k:Nat,k≤8→(((k:Int).tmod 2) == 1)=decide (k%2=1):=fun k hk=>by
  have e:(k:Int).tmod 2=((k%2:Nat):Int):=by rw[show (2:Int)=((2:Nat):Int) from rfl,←Int.ofNat_tmod]
  rw[e,Bool.eq_iff_iff]
  simp
  omega
 by_cases h3:e<0
 case neg=>
  obtain⟨n,rfl⟩:∃n:Nat,e=n:=⟨e.toNat,by omega⟩
  have hn8:n≤8:=by omega
  rw[if_pos (by omega)]
  have hw:IntKind.wrap .i64 (-(n:Int))=-(n:Int):=zac _ (by omega)
  have cA:=pA n hn8
  have cD:=pD n hn8
  have ho:=hodd n hn8
  have hnorm:=zf7 (T:=T) (decide (q.num<0)&&decide (n%2=1)) (ofN (q.num.natAbs^n)) (lA n hn8)
  rw[show wv (decide (q.num<0)&&decide (n%2=1)) (ofN (q.num.natAbs^n))=sg (decide (q.num<0)&&decide (n%2=1)) (q.num.natAbs^n) by unfold wv;rw[zaf],zxn]at hnorm
  have hf:=z5q q n
  have hz:powZ q (n:Int)=q^n:=Rat.zpow_natCast q n
  simp only[hz]
  rw[hf]
  clear hf hz pA pD lA lD hodd hsg e'
  have h4:¬ (8:Int)<n:=by omega
  have h5:¬ ((n:Int) < -(n:Int)):=by omega
  have h6:¬ (n:Int)<0:=by omega
  have h1':¬ (n:Int) < -8:=by omega
  generalize ofN (q.num.natAbs^n)=AP at *
  generalize ofN (q.den^n)=DP at *
  generalize decide (q.num.natAbs^n≠0)=NZ at *
  generalize ofN q.num.natAbs=A at *
  generalize ofN q.den=D at *
  generalize decide (q.num<0)=NG at *
  generalize decide (n%2=1)=OD at *
  cases NG with
  | false=>
   simp only[Bool.false_and]at hnorm ⊢
   simp -implicitDefEqProofs[h0,hn,h4,h5,h6,h1',hw,mm2,cA,cD,ho,hnorm]
  | true=>
   simp only[Bool.true_and]at hnorm ⊢
   cases OD with
   | false=>simp -implicitDefEqProofs[h0,hn,h4,h5,h6,h1',hw,mm2,cA,cD,ho,hnorm]
   | true=>simp -implicitDefEqProofs[h0,hn,h4,h5,h6,h1',hw,mm2,cA,cD,ho,hnorm]
 by_cases h7:q=0
 ·rw[if_neg (by intro h;exact h.2.2 ⟨h3,h7⟩)]
  have hs0:sgQ q=0:=zfr.2 h7
  rw[hs0]at hsg
  generalize fz 0=Z at *
  have h4:¬ (8:Int)<e:=by omega
  simp -implicitDefEqProofs[h0,h1,h4,h3,hsg]
 rw[if_pos (by refine⟨by omega,by omega,fun h=>h7 h.2⟩)]
 obtain⟨n,rfl⟩:∃n:Nat,e=-(n:Int):=⟨(-e).toNat,by omega⟩
 have hn8:n≤8:=by omega
 have hsz:¬ sgQ q=0:=fun h=>h7 (zfr.1 h)
 have hw:IntKind.wrap .i64 (n:Int)=(n:Int):=zac _ (by omega)
 have cA:=pA n hn8
 have cD:=pD n hn8
 have ho:=hodd n hn8
 have hnorm:=zf7 (T:=T) (decide (q.num<0)&&decide (n%2=1)) (ofN (q.den^n)) (lD n hn8)
 rw[show wv (decide (q.num<0)&&decide (n%2=1)) (ofN (q.den^n))=sg (decide (q.num<0)&&decide (n%2=1)) (q.den^n) by unfold wv;rw[zaf],zxn]at hnorm
 have hf:=zz5 q n h7
 have hz:powZ q (-(n:Int))=(q^n)⁻¹:=by unfold powZ;rw[Rat.zpow_neg,Rat.zpow_natCast]
 simp only[hz]
 rw[hf]
 clear hf hz pA pD lA lD hodd e'
 have h4:¬ (8:Int) < -(n:Int):=by omega
 have h5:(-(n:Int)<(n:Int)):=by omega
 have h1':¬ -(n:Int) < -8:=by omega
 have h6:(n:Int)≠0:=by omega
 have h6':0<(n:Int):=by omega
 have h6'':0<n:=by omega
 have h1'':¬ 8<n:=by omega
 generalize ofN (q.num.natAbs^n)=AP at *
 generalize ofN (q.den^n)=DP at *
 generalize decide (q.den^n≠0)=NZ at *
 generalize ofN q.num.natAbs=A at *
 generalize ofN q.den=D at *
 generalize decide (q.num<0)=NG at *
 generalize decide (n%2=1)=OD at *
 generalize sgQ q=SG at *
 cases NG with
 | false=>
  simp only[Bool.false_and]at hnorm ⊢
  simp -implicitDefEqProofs[h0,hn,h3,h4,h5,h6,h6',h6'',h1',h1'',hw,mm2,cA,cD,ho,hnorm,hsg,hsz]
 | true=>
  simp only[Bool.true_and]at hnorm ⊢
  cases OD with
  | false=>simp -implicitDefEqProofs[h0,hn,h3,h4,h5,h6,h6',h6'',h1',h1'',hw,mm2,cA,cD,ho,hnorm,hsg,hsz]
  | true=>simp -implicitDefEqProofs[h0,hn,h3,h4,h5,h6,h6',h6'',h1',h1'',hw,mm2,cA,cD,ho,hnorm,hsg,hsz]
end
@[simp] theorem z0z(l:List Int):(ints l).length=l.length:=by simp[ints]
@[simp] theorem zad7(l:List Int):wkL (ints l)=ints l:=by rw[zbx];simp[ints,wkR,wkA]
@[simp] theorem z9g(l:List Int)(i:Nat)(h:i<(ints l).length):(ints l)[i]=[.i .i64 (l[i]'(by simpa using h))]:=by simp[ints]
@[simp] theorem z57(l:List Int)(n:Nat):(ints l).take n=ints (l.take n):=by simp[ints]
@[simp] theorem z9h:ints []=[]:=rfl
section
variable{T:Tbl}[CLimb T][CNat T][CProd T][CTwos T][CQuot T][CQuotD T][CWhole T][CCommon T][CFrac T][CFrac3 T][CTape T]
theorem zcj(i m:Int):callF T 435 [.i .i64 i,.i .i64 m]=some (.b (belowB i m)):=by
 rw[f435 _ rfl,b435]
 unfold belowB
 by_cases h:0≤i
 ·by_cases h2:i<m<;>simp -implicitDefEqProofs[h,h2]
 ·simp -implicitDefEqProofs[h]
theorem z00(i:Ins):callF T 437 [.agg (celI i)]=some (.agg [.i .i64 i.op,.i .i64 i.a,.i .i64 i.b]):=by
 rw[f437 _ rfl,b437]
 simp -implicitDefEqProofs
theorem zq0(x:Fz)(hx:fsz x≤10000):callF T 438 [efz x]=some (.b (blankF x)):=by
 obtain⟨n,a,d⟩:=x
 rw[f438 _ rfl,b438]
 unfold blankF
 cases n with
 | true=>simp -implicitDefEqProofs
 | false=>
  by_cases h:a=[]
  ·subst h
   by_cases h2:d=[]
   ·subst h2
    simp -implicitDefEqProofs
   ·have e2:d.isEmpty=false:=by cases d<;>simp_all
    simp -implicitDefEqProofs[h2,e2]
  ·have e2:a.isEmpty=false:=by cases a<;>simp_all
   simp -implicitDefEqProofs[h,e2]
theorem zq1(i:Ins):callF T 439 [.agg (celI i)]=some (.sl (ints (readsI i)) .an):=by
 obtain⟨op,a,b,n⟩:=i
 rw[f439 _ rfl,b439]
 unfold readsI
 simp only
 by_cases h6:op=6
 ·subst h6
  simp -implicitDefEqProofs[ints]
 by_cases h11:op=11
 ·subst h11
  simp -implicitDefEqProofs[ints]
 rw[if_neg (by omega)]
 by_cases h7:op=7
 ·subst h7
  simp -implicitDefEqProofs[ints]
 by_cases h8:op=8
 ·subst h8
  simp -implicitDefEqProofs[ints]
 by_cases h9:op=9
 ·subst h9
  simp -implicitDefEqProofs[ints]
 by_cases h10:op=10
 ·subst h10
  simp -implicitDefEqProofs[ints]
 rw[if_neg (by omega)]
 simp -implicitDefEqProofs[h6,h7,h8,h9,h10,h11]
theorem zuu(i:Ins):(readsI i).length≤2:=by
 unfold readsI
 split
 ·simp
 ·split<;>simp
def stMy(t:Tp)(p:Nat)(x:Ins)(i:Nat):St:=
 ⟨[(1,.i .i64 p),(2,.ptr (.loc 2) 1 4 0 0),(5,.ptr (.loc 5) 2 6 0 0),(30,.sl (ints (readsI x)) .an),(31,.i .i64 (readsI x).length),(32,.i .i64 i)],
  [(.loc 2,⟨1,.str,4,[[.sl (rowI t.code) .an,.sl (ints t.outs) .an,.i .i64 t.dim,.i .i64 t.par]]⟩),(.loc 5,⟨2,.str,6,[celI x]⟩)],4⟩
theorem zxe(t:Tp)(p:Nat)(x:Ins):loopN T 0 0 (.norm false [2,5]) l434_0 (stMy t p x 0) =
  if ((readsI x).all fun r=>belowB r p)=true then some (.n,⟨[(2,.ptr (.loc 2) 1 4 0 0),(5,.ptr (.loc 5) 2 6 0 0)],
   [(.loc 2,⟨1,.str,4,[[.sl (rowI t.code) .an,.sl (ints t.outs) .an,.i .i64 t.dim,.i .i64 t.par]]⟩),(.loc 5,⟨2,.str,6,[celI x]⟩)],4⟩)
  else some (.r,⟨[(4,.b false)],[],2⟩):=by
 have hlen:=zuu x
 refine zan (stMy t p x) (readsI x).length (fun i=>if (((readsI x).drop i).all fun r=>belowB r p)=true then some (.n,_) else some (.r,_)) (fun i hi=>?_) ?_
 ·have hg:(readsI x)[i]? = some ((readsI x)[i]'hi):=List.getElem?_eq_getElem hi
  have hws:=za9 hi (by omega)
  have hd:(readsI x).drop i=(readsI x)[i]'hi::(readsI x).drop (i+1):=List.drop_eq_getElem_cons hi
  have cb:=zcj (T:=T) ((readsI x)[i]'hi) p
  have hi':(i:Int)<(readsI x).length:=by omega
  by_cases hb:belowB ((readsI x)[i]'hi) p=true
  ·left
   rw[hb]at cb
   refine⟨?_,by rw[hd];simp only[List.all_cons,hb,Bool.true_and]⟩
   unfold stMy
   generalize readsI x=R at *
   simp -implicitDefEqProofs[l434_0,hi,hi',hg,hws,cb]
  ·right
   have hb':belowB ((readsI x)[i]'hi) p=false:=by simpa using hb
   rw[hb']at cb
   have hall:(((readsI x).drop i).all fun r=>belowB r p)=false:=by rw[hd,List.all_cons,hb'];rfl
   simp only[hall,Bool.false_eq_true,if_false]
   unfold stMy
   clear hall hd
   generalize readsI x=R at *
   constructor<;>simp -implicitDefEqProofs[l434_0,hi,hi',hg,cb]
 ·simp only[List.drop_length,List.all_nil,if_true]
  unfold stMy
  generalize readsI x=R at *
  constructor<;>simp -implicitDefEqProofs[l434_0]
theorem zxf(t:Tp)(p:Nat)(x:Ins)(hx:t.code[p]? = some x)(hf:fsz x.n≤10000)(hl:t.code.length≤4294967296):callF T 434 [etp t,.i .i64 p]=some (.b (mayI t.dim t.par p x)):=by
 have hp:=zat hx
 have hp2:(p:Int)<t.code.length:=by omega
 have ho:=z00 (T:=T) x
 have hbl:=zq0 (T:=T) x.n hf
 have hrd:=zq1 (T:=T) x
 have hlo:=zxe (T:=T) t p x
 have hrt:=zf1 (T:=T) x.n hf
 unfold mayI
 unfold stMy at hlo
 simp only[Int.natCast_zero]at hlo
 have cy:=zcj (T:=T) x.a t.dim
 have cp:=zcj (T:=T) x.a t.par
 have hr2:(((readsI x).length:Int) == 2)=decide ((readsI x).length=2):=by
  rw[Bool.eq_iff_iff]
  simp
  omega
 rw[f434 _ rfl,b434]
 generalize readsI x=R at *
 generalize rightF x.n=RT at *
 generalize blankF x.n=BL at *
 generalize belowB x.a t.dim=B1 at *
 generalize belowB x.a t.par=B2 at *
 generalize (R.all fun r=>belowB r p)=AL at *
 obtain⟨code,outs,dim,par⟩:=t
 obtain⟨op,a,b,n⟩:=x
 dsimp only at hx hp hp2 ho hbl hrd hlo hrt cy cp ⊢
 have hxe:=(List.getElem?_eq_some_iff.1 hx).2
 clear hf hl
 by_cases h1:op=1
 ·subst h1
  by_cases ha:a=0
  ·subst ha
   by_cases hb:b=0
   ·subst hb
    simp -implicitDefEqProofs[hp,hp2,hx,hxe,ho,hrt]
   ·simp -implicitDefEqProofs[hp,hp2,hx,hxe,ho,hrt,hb]
  ·simp -implicitDefEqProofs[hp,hp2,hx,hxe,ho,hrt,ha]
 rw[if_neg h1]
 cases BL with
 | false=>simp -implicitDefEqProofs[hp,hp2,hx,hxe,h1,hbl]
 | true=>
 cases AL with
 | false=>
  simp only[Bool.false_eq_true,if_false]at hlo
  simp -implicitDefEqProofs[hp,hp2,hx,hxe,h1,hbl,hrd,hlo]
 | true=>
 simp only[if_true]at hlo
 by_cases h2:op=2
 ·subst h2
  by_cases ha:a=0
  ·subst ha
   by_cases hb:b=0
   ·subst hb
    simp -implicitDefEqProofs[hp,hp2,hx,hxe,ho,hbl,hrd,hlo]
   ·simp -implicitDefEqProofs[hp,hp2,hx,hxe,ho,hbl,hrd,hlo,hb]
  ·simp -implicitDefEqProofs[hp,hp2,hx,hxe,ho,hbl,hrd,hlo,ha]
 by_cases h3:op=3
 ·subst h3
  cases B1 with
  | false=>simp -implicitDefEqProofs[hp,hp2,hx,hxe,hbl,hrd,hlo,cy]
  | true=>
   by_cases hb:b=0
   ·subst hb
    simp -implicitDefEqProofs[hp,hp2,hx,hxe,hbl,hrd,hlo,cy]
   ·simp -implicitDefEqProofs[hp,hp2,hx,hxe,hbl,hrd,hlo,cy,hb]
 by_cases h4:op=4
 ·subst h4
  cases B2 with
  | false=>simp -implicitDefEqProofs[hp,hp2,hx,hxe,hbl,hrd,hlo,cp]
  | true=>
   by_cases hb:b=0
   ·subst hb
    simp -implicitDefEqProofs[hp,hp2,hx,hxe,hbl,hrd,hlo,cp]
   ·simp -implicitDefEqProofs[hp,hp2,hx,hxe,hbl,hrd,hlo,cp,hb]
 by_cases h6:op=6
 ·subst h6
  by_cases hb:b=0
  ·subst hb
   simp -implicitDefEqProofs[hp,hp2,hx,hxe,hbl,hrd,hlo]
  ·simp -implicitDefEqProofs[hp,hp2,hx,hxe,hbl,hrd,hlo,hb]
 by_cases h11:op=11
 ·subst h11
  by_cases hb:-8≤b
  ·by_cases hb2:b≤8
   ·simp -implicitDefEqProofs[hp,hp2,hx,hxe,hbl,hrd,hlo,hb,hb2]
   ·simp -implicitDefEqProofs[hp,hp2,hx,hxe,hbl,hrd,hlo,hb,hb2]
  ·simp -implicitDefEqProofs[hp,hp2,hx,hxe,hbl,hrd,hlo,hb]
 simp -implicitDefEqProofs[hp,hp2,hx,hxe,h1,h2,h3,h4,h6,h11,hbl,hrd,hlo,hr2]
end
section
variable{T:Tbl}[CLimb T][CNat T][CProd T][CTwos T][CQuot T][CQuotD T][CWhole T][CCommon T][CFrac T][CFrac3 T][CTape T]
structure Small (t:Tp):Prop where
 code:t.code.length≤4294967296
 outs:t.outs.length≤4294967296
 ns:∀i∈t.code,fsz i.n≤10000
 d1:-9223372036854775808≤t.dim
 d2:t.dim<9223372036854775808
theorem zq2(t:Tp)(hs:Small t):callF T 433 [etp t]=some (.b (wholeT t)):=by
 obtain⟨h1,h2,_,d1,d2⟩:=hs
 have c0:callF T 435 [.i .i64 (IntKind.wrap .i64 (t.dim-1)),.i .i64 6]=some (.b (belowB (t.dim-1) 6)):=by
  rw[zcj]
  congr 2
  by_cases hm:t.dim=-9223372036854775808
  ·rw[hm]
   decide
  ·rw[zac _ (by omega)]
 have c1:=zcj (T:=T) t.par 7
 unfold wholeT
 obtain⟨code,outs,dim,par⟩:=t
 dsimp only at *
 have e1:((outs.length:Int) == dim)=decide ((outs.length:Int)=dim):=rfl
 rw[f433 _ rfl,b433]
 generalize belowB (dim-1) 6=B1 at *
 generalize belowB par 7=B2 at *
 cases B1 with
 | false=>simp -implicitDefEqProofs[c0]
 | true=>
 cases B2 with
 | false=>simp -implicitDefEqProofs[c0,c1]
 | true=>
 by_cases ho:(outs.length:Int)=dim
 ·by_cases hc:code.length≤300
  ·have hc':(code.length:Int)≤300:=by omega
   simp -implicitDefEqProofs[c0,c1,ho,hc,hc']
  ·have hc':300<(code.length:Int):=by omega
   simp -implicitDefEqProofs[c0,c1,ho,hc,hc']
 ·simp -implicitDefEqProofs[c0,c1,ho]
def bxT(t:Tp):Box:=⟨1,.str,4,[[.sl (rowI t.code) .an,.sl (ints t.outs) .an,.i .i64 t.dim,.i .i64 t.par]]⟩
def stW1(t:Tp)(i:Nat):St:=⟨[(1,.ptr (.loc 1) 1 4 0 0),(11,.i .i64 t.code.length),(12,.i .i64 i)],[(.loc 1,bxT t)],3⟩
theorem znm(t:Tp)(hs:Small t):loopN T 0 0 (.norm false [1]) l430_0 (stW1 t 0) =
  if firstI t.dim t.par 0 t.code=-1 then some (.n,⟨[(1,.ptr (.loc 1) 1 4 0 0)],[(.loc 1,bxT t)],3⟩) else some (.r,⟨[(2,.i .i64 (firstI t.dim t.par 0 t.code))],[],2⟩):=by
 have hc:=hs.code
 have e0:t.code.drop 0=t.code:=rfl
 rw[←e0]
 refine zan (stW1 t) t.code.length (fun i=>if firstI t.dim t.par i (t.code.drop i)=-1 then some (.n,_) else some (.r,⟨[(2,.i .i64 (firstI t.dim t.par i (t.code.drop i)))],[],2⟩)) (fun i hi=>?_) ?_
 ·have hg:t.code[i]? = some (t.code[i]'hi):=List.getElem?_eq_getElem hi
  have hws:=za9 hi (by omega)
  have hd:t.code.drop i=t.code[i]'hi::t.code.drop (i+1):=List.drop_eq_getElem_cons hi
  have cm:=zxf (T:=T) t i _ hg (hs.ns _ (List.getElem_mem hi)) hc
  have hi':(i:Int)<t.code.length:=by omega
  have hf:firstI t.dim t.par i (t.code.drop i)=if mayI t.dim t.par i (t.code[i]'hi) then firstI t.dim t.par (i+1) (t.code.drop (i+1)) else i:=by rw[hd];rfl
  by_cases hb:mayI t.dim t.par i (t.code[i]'hi)=true
  ·left
   rw[hb]at cm
   rw[if_pos hb]at hf
   refine⟨?_,by simp only[hf]⟩
   unfold stW1 bxT
   clear hf hd
   simp -implicitDefEqProofs[l430_0,hi,hi',hws,cm]
  ·right
   have hb':mayI t.dim t.par i (t.code[i]'hi)=false:=by simpa using hb
   rw[hb']at cm
   rw[if_neg hb]at hf
   have hne:¬ (i:Int)=-1:=by omega
   simp only[hf,if_neg hne]
   unfold stW1 bxT
   clear hf hd
   constructor<;>simp -implicitDefEqProofs[l430_0,hi,hi',cm]
 ·have hf:firstI t.dim t.par t.code.length (t.code.drop t.code.length)=-1:=by rw[List.drop_length];rfl
  simp only[hf,if_true]
  unfold stW1 bxT
  constructor<;>simp -implicitDefEqProofs[l430_0]
def stW2(t:Tp)(i:Nat):St:=⟨[(1,.ptr (.loc 1) 1 4 0 0),(22,.sl (ints t.outs) .an),(23,.i .i64 t.outs.length),(24,.i .i64 i)],[(.loc 1,bxT t)],3⟩
theorem znn(t:Tp)(hs:Small t):loopN T 0 2 (.norm false []) l430_1 (stW2 t 0) =
  if (t.outs.all fun o=>belowB o t.code.length)=true then some (.n,⟨[],[],2⟩) else some (.r,⟨[(2,.i .i64 t.code.length)],[],2⟩):=by
 have hc:=hs.outs
 refine zan (stW2 t) t.outs.length (fun i=>if ((t.outs.drop i).all fun o=>belowB o t.code.length)=true then some (.n,_) else some (.r,_)) (fun i hi=>?_) ?_
 ·have hg:t.outs[i]? = some (t.outs[i]'hi):=List.getElem?_eq_getElem hi
  have hws:=za9 hi (by omega)
  have hd:t.outs.drop i=t.outs[i]'hi::t.outs.drop (i+1):=List.drop_eq_getElem_cons hi
  have cm:=zcj (T:=T) (t.outs[i]'hi) t.code.length
  have hi':(i:Int)<t.outs.length:=by omega
  by_cases hb:belowB (t.outs[i]'hi) t.code.length=true
  ·left
   rw[hb]at cm
   refine⟨?_,by rw[hd];simp only[List.all_cons,hb,Bool.true_and]⟩
   unfold stW2 bxT
   clear hd
   simp -implicitDefEqProofs[l430_1,hi,hi',hg,hws,cm]
  ·right
   have hb':belowB (t.outs[i]'hi) t.code.length=false:=by simpa using hb
   rw[hb']at cm
   have hall:((t.outs.drop i).all fun o=>belowB o t.code.length)=false:=by rw[hd,List.all_cons,hb'];rfl
   simp only[hall,Bool.false_eq_true,if_false]
   unfold stW2 bxT
   clear hall hd
   constructor<;>simp -implicitDefEqProofs[l430_1,hi,hi',hg,cm]
 ·simp only[List.drop_length,List.all_nil,if_true]
  unfold stW2 bxT
  constructor<;>simp -implicitDefEqProofs[l430_1]
theorem zq3(t:Tp)(hs:Small t):callF T 430 [etp t]=some (.i .i64 (wrongT t)):=by
 have cw:=zq2 (T:=T) t hs
 have h1:=znm (T:=T) t hs
 have h2:=znn (T:=T) t hs
 unfold wrongT
 unfold stW1 bxT at h1
 unfold stW2 bxT at h2
 simp only[Int.natCast_zero]at h1 h2
 generalize hfi:firstI t.dim t.par 0 t.code=F at *
 generalize hal:(t.outs.all fun o=>belowB o t.code.length)=AL at *
 generalize hwt:wholeT t=W at *
 obtain⟨code,outs,dim,par⟩:=t
 dsimp only at *
 rw[f430 _ rfl,b430]
 cases W with
 | false=>simp -implicitDefEqProofs[cw]
 | true=>
 by_cases hf:F=-1
 ·subst hf
  cases AL with
  | false=>
   simp only[Bool.false_eq_true,if_false]at h2
   simp -implicitDefEqProofs[cw,h1,h2]
  | true=>
   simp only[if_true]at h1 h2
   simp -implicitDefEqProofs[cw,h1,h2]
 ·rw[if_neg hf]at h1
  simp -implicitDefEqProofs[cw,h1,hf]
theorem zdc(t:Tp)(hs:Small t):callF T 421 [etp t]=some (.b (okT t)):=by
 have cw:=zq3 (T:=T) t hs
 have e:(wrongT t == -1)=okT t:=rfl
 rw[f421 _ rfl,b421,←e]
 generalize wrongT t=W at *
 obtain⟨code,outs,dim,par⟩:=t
 simp -implicitDefEqProofs[cw]
end
def limI(n:Int):Int:=if n<0 then 0 else if 4096<n then 4096 else n
abbrev bxG(g:Nat)(s p L:Int):Box:=⟨g,.str,3,[[.i .i64 s,.i .i64 p,.i .i64 L]]⟩
def cntS(s:Int):Int:=IntKind.wrap .i64 (s+1)
def cntP(p:Int)(x:Fz):Int:=if p<(sizF x:Int) then (sizF x:Int) else p
section
variable{T:Tbl}[CLimb T][CNat T][CProd T][CTwos T][CQuot T][CQuotD T][CWhole T][CCommon T][CFrac T][CFrac3 T][CFrac5 T][CPow T][CTape T][CGauge T][CEval T]
theorem ziu(x:Fz)(hx:fsz x≤10000):callF T 223 [efz x]=some (.i .i64 (sizF x)):=by
 have h1:=zeh x
 have h2:=zez x
 have c1:=zor (T:=T) x.2.1 (by omega)
 have c2:=zor (T:=T) x.2.2 (by omega)
 have b1:=zot (x:=val x.2.1) (k:=10000) (Nat.le_trans (zad x.2.1) (by omega))
 have b2:=zot (x:=val x.2.2) (k:=10000) (Nat.le_trans (zad x.2.2) (by omega))
 have w:IntKind.wrap .i64 ((blen (val x.2.1):Int)+(blen (val x.2.2):Int))=((sizF x:Nat):Int):=by
  have e:((sizF x:Nat):Int)=(blen (val x.2.1):Int)+(blen (val x.2.2):Int):=by unfold sizF;omega
  rw[e]
  exact zac _ (by omega)
 rw[f223 _ rfl,b223]
 generalize sizF x=S at *
 generalize blen (val x.2.1)=B1 at *
 generalize blen (val x.2.2)=B2 at *
 simp -implicitDefEqProofs[c1,c2,w]
theorem ztc(n:Int):callH T 406 [.i .i64 n] []=some (.ptr (.loc 7) 1 3 0 0,[(.loc 7,bxG 1 0 0 (limI n))]):=by
 unfold limI
 rw[f406 _ _ rfl,b406]
 by_cases h1:n<0
 ·simp -implicitDefEqProofs[h1,mm2]
 ·by_cases h2:4096<n
  ·simp -implicitDefEqProofs[h1,h2,mm2]
  ·simp -implicitDefEqProofs[h1,h2,mm2]
theorem zp1(s p L k:Int):callH T 426 [.ptr (.bor 0) 0 3 0 0,.i .i64 k] [(.bor 0,bxG 0 s p L)]=some (.tup [],[(.bor 0,bxG 0 (cntS s) (if p<k then k else p) L)]):=by
 unfold cntS
 rw[f426 _ _ rfl,b426]
 by_cases h1:p<k
 ·simp -implicitDefEqProofs[h1,mm2]
 ·simp -implicitDefEqProofs[h1,mm2]
theorem zp2(s p L:Int)(x:Fz)(hx:fsz x≤10000):callH T 411 [.ptr (.bor 0) 0 3 0 0,efz x] [(.bor 0,bxG 0 s p L)]=some (.b (decide ((sizF x:Int)≤L)),[(.bor 0,bxG 0 (cntS s) (cntP p x) L)]):=by
 have h1:=ziu (T:=T) x hx
 have h2:=zp1 (T:=T) s p L (sizF x)
 unfold cntP
 rw[f411 _ _ rfl,b411]
 generalize cntS s=s' at *
 generalize (if p<(sizF x:Int) then (sizF x:Int) else p)=p' at *
 generalize (sizF x:Int)=z at *
 simp -implicitDefEqProofs[h1,h2]
def stEn(l:List Fz)(i:Nat):St:=⟨[(3,.bs (.loc 3) 1 3 0 i),(6,.sl (rowF l) .an),(7,.i .i64 l.length),(8,.i .i64 i)],[(.loc 3,⟨1,.own,3,rowF (nrm (l.take i))⟩)],3⟩
theorem ziv(l:List Fz)(hl:l.length≤1000)(hw:∀x∈l,fsz x≤1000):callF T 420 [.sl (rowF l) .an]=some (.sl (rowF (nrm l)) .an):=by
 have h:loopN T 0 0 (.norm false [3]) l420_0 (stEn l 0)=some (.n,⟨[(3,.bs (.loc 3) 1 3 0 l.length)],[(.loc 3,⟨1,.own,3,rowF (nrm l)⟩)],3⟩):=by
  refine zaq (stEn l) l.length _ (fun i hi=>?_) ?_
  ·have hg:l[i]? = some (l[i]'hi):=List.getElem?_eq_getElem hi
   have hws:=za9 hi (by omega)
   have hn:=zcc (T:=T) (l[i]'hi) (Nat.le_trans (hw _ (List.getElem_mem hi)) (by decide))
   have e:nrm (l.take (i+1))=nrm (l.take i)++[fz (fv (l[i]'hi))]:=zdp l _ hi
   have hp:=zda (m:=nrm (l.take i)) (n:=i) (by simp[nrm];omega) (fz (fv (l[i]'hi)))
   have hml:(nrm (l.take i)).length=i:=by simp[nrm];omega
   unfold stEn
   rw[e]
   clear e
   generalize nrm (l.take i)=M at *
   generalize fz (fv (l[i]'hi))=z at *
   have hb:i≤4294967295:=by omega
   simp -implicitDefEqProofs[l420_0,hi,hg,hws,hn,hp,hml,hb]
  ·unfold stEn
   rw[List.take_of_length_le (Nat.le_refl _)]
   generalize nrm l=M
   constructor<;>simp -implicitDefEqProofs[l420_0]
 unfold stEn at h
 simp[nrm]at h
 have ht:List.take l.length (List.map (fun x=>fz (fv x)) l)=List.map (fun x=>fz (fv x)) l:=List.take_of_length_le (by simp)
 rw[f420 _ rfl,b420]
 simp -implicitDefEqProofs[h,nrm,ht]
structure PoS (x:PoF) (B:Nat):Prop where
 t:fsz x.t≤B
 y:∀u∈x.y,fsz u≤B
 p:∀u∈x.p,fsz u≤B
 yl:x.y.length≤1000
 pl:x.p.length≤1000
theorem zz6(x:PoF):x.v.f=⟨fz (fv x.t),nrm x.y,nrm x.p⟩:=by
 unfold PoF.v Po.f
 rw[zub,zub]
theorem ztd(x:PoF)(h:PoS x 1000):callF T 405 [ept x]=some (ept x.v.f):=by
 have h1:=zcc (T:=T) x.t (Nat.le_trans h.t (by decide))
 have h2:=ziv (T:=T) x.y h.yl h.y
 have h3:=ziv (T:=T) x.p h.pl h.p
 rw[zz6]
 obtain⟨t,y,p⟩:=x
 dsimp only at *
 rw[f405 _ rfl,b405]
 generalize fz (fv t)=t' at *
 generalize nrm y=y' at *
 generalize nrm p=p' at *
 simp -implicitDefEqProofs[h1,h2,h3]
end
theorem z0n{q:Rat}{e:Int}(h1:-8≤e)(h2:e≤8):powR q e=if e<0∧q=0 then (0,false) else (powZ q e,true):=by
 unfold powR
 by_cases h:e<0∧q=0
 ·rw[if_pos h,if_neg (by intro hh;exact hh.2.2 h)]
 ·rw[if_neg h,if_pos ⟨h1,h2,h⟩]
abbrev mD:AV:=.agg [.dead]
section
variable{T:Tbl}[CLimb T][CNat T][CProd T][CTwos T][CQuot T][CQuotD T][CWhole T][CCommon T][CFrac T][CFrac3 T][CFrac5 T][CPow T][CTape T][CGauge T][CEval T][CRun T][CIfc T]
theorem zad3(x:Fz)(hx:fsz x≤1000):callF T 445 [mD,efz x]=some (efz (fz (fv x))):=by
 have h:=zcc (T:=T) x (by omega)
 rw[f445 _ rfl,b445]
 generalize fz (fv x)=z at *
 simp -implicitDefEqProofs[h]
theorem z5v(x:Fz)(hx:fsz x≤1000):callF T 444 [mD,efz x]=some (efz (fz (-fv x))):=by
 have h:=zjw (T:=T) x (by omega)
 rw[f444 _ rfl,b444]
 generalize fz (-fv x)=z at *
 simp -implicitDefEqProofs[h]
theorem z5w(x y:Fz)(hx:fsz x≤1000)(hy:fsz y≤1000):callF T 441 [mD,efz x,efz y]=some (efz (fz (fv x+fv y))):=by
 have h:=zff (T:=T) x y hx hy
 rw[f441 _ rfl,b441]
 generalize fz (fv x+fv y)=z at *
 simp -implicitDefEqProofs[h]
theorem z5x(x y:Fz)(hx:fsz x≤1000)(hy:fsz y≤1000):callF T 448 [mD,efz x,efz y]=some (efz (fz (fv x-fv y))):=by
 have h:=zjx (T:=T) x y hx hy
 rw[f448 _ rfl,b448]
 generalize fz (fv x-fv y)=z at *
 simp -implicitDefEqProofs[h]
theorem z5y(x y:Fz)(hx:fsz x≤1000)(hy:fsz y≤1000):callF T 443 [mD,efz x,efz y]=some (efz (fz (fv x*fv y))):=by
 have h:=zfg (T:=T) x y hx hy
 rw[f443 _ rfl,b443]
 generalize fz (fv x*fv y)=z at *
 simp -implicitDefEqProofs[h]
theorem z5z(x y:Fz)(hx:fsz x≤1000)(hy:fsz y≤1000):callF T 447 [mD,efz x,efz y]=some (.tup [efz (fz (fv x/fv y)),.b (decide (fv y≠0))]):=by
 have h:=zjy (T:=T) x y hx hy
 rw[f447 _ rfl,b447]
 generalize fz (fv x/fv y)=z at *
 generalize decide (fv y≠0)=ok at *
 simp -implicitDefEqProofs[h]
theorem z50(x:Fz)(e:Int)(hx:fsz x≤1000):callF T 446 [mD,efz x,.i .i64 e]=some (.tup [efz (fz (powR (fv x) e).1),.b (powR (fv x) e).2]):=by
 have h:=zv8 (T:=T) x e hx
 rw[f446 _ rfl,b446]
 generalize fz (powR (fv x) e).1=z at *
 generalize (powR (fv x) e).2=ok at *
 simp -implicitDefEqProofs[h]
theorem zud(s p L:Int)(x:Fz)(hx:fsz x≤10000):callH T 442 [.agg [.ptr (.bor 0) 0 3 0 0],efz x] [(.bor 0,bxG 0 s p L)]=some (.b (decide ((sizF x:Int)≤L)),[(.bor 0,bxG 0 (cntS s) (cntP p x) L)]):=by
 have h:=zp2 (T:=T) s p L x hx
 rw[f442 _ _ rfl,b442]
 generalize cntS s=s' at *
 generalize cntP p x=p' at *
 simp -implicitDefEqProofs[h]
theorem zw5(i:Ins)(P:Po)(hop:i.op=1∨i.op=2∨i.op=3∨i.op=4)(hn:fsz i.n≤1000)(hy:i.op=3→0≤i.a∧i.a<P.y.length)(hp:i.op=4→0≤i.a∧i.a<P.p.length) :
  callF T 431 [mD,.agg (celI i),ept P.f]=some (efz (fz (valI P [] i).1)):=by
 have h1:=zad3 (T:=T) i.n hn
 obtain⟨op,a,b,n⟩:=i
 obtain⟨t,y,p⟩:=P
 dsimp only at *
 unfold valI Po.f
 dsimp only
 rw[f431 _ rfl,b431]
 rcases hop with rfl | rfl | rfl | rfl
 ·show _=some (efz (fz (fv n)))
  generalize fz (fv n)=z at *
  generalize fzs y=Y at *
  generalize fzs p=PP at *
  generalize fz t=tt at *
  simp -implicitDefEqProofs[h1]
 ·show _=some (efz (fz t))
  generalize fzs y=Y at *
  generalize fzs p=PP at *
  generalize fz t=tt at *
  simp -implicitDefEqProofs
 ·obtain⟨k,rfl⟩:∃k:Nat,a=k:=⟨a.toNat,by have:=(hy rfl).1;omega⟩
  have hk:k<y.length:=by have:=(hy rfl).2;omega
  have hk':(k:Int)<y.length:=by omega
  have hg:(fzs y)[k]? = some (fz (y[k]'hk)):=zht (List.getElem?_eq_getElem hk)
  have hge:=(List.getElem?_eq_some_iff.1 hg).2
  have hl:(fzs y).length=y.length:=zap y
  have e:gI y (k:Int)=y[k]'hk:=by simp[gI,List.getD,List.getElem?_eq_getElem hk]
  show _=some (efz (fz (gI _ _)))
  rw[e]
  generalize fzs y=Y at *
  generalize fzs p=PP at *
  generalize fz t=tt at *
  generalize fz (y[k]'hk)=z at *
  simp -implicitDefEqProofs[hk,hk',hg,hge,hl]
 ·obtain⟨k,rfl⟩:∃k:Nat,a=k:=⟨a.toNat,by have:=(hp rfl).1;omega⟩
  have hk:k<p.length:=by have:=(hp rfl).2;omega
  have hk':(k:Int)<p.length:=by omega
  have hg:(fzs p)[k]? = some (fz (p[k]'hk)):=zht (List.getElem?_eq_getElem hk)
  have hge:=(List.getElem?_eq_some_iff.1 hg).2
  have hl:(fzs p).length=p.length:=zap p
  have e:gI p (k:Int)=p[k]'hk:=by simp[gI,List.getD,List.getElem?_eq_getElem hk]
  show _=some (efz (fz (gI _ _)))
  rw[e]
  generalize fzs y=Y at *
  generalize fzs p=PP at *
  generalize fz t=tt at *
  generalize fz (p[k]'hk)=z at *
  simp -implicitDefEqProofs[hk,hk',hg,hge,hl]
theorem zue{D:List Rat}{a:Int}(h:0≤a∧a<D.length):∃k:Nat,a=k∧(k:Int)<D.length∧k<D.length∧(fzs D)[k]? = some (fz (gI D a)):=by
 obtain⟨k,rfl⟩:∃k:Nat,a=k:=⟨a.toNat,by omega⟩
 have hk:k<D.length:=by omega
 refine⟨k,rfl,by omega,hk,?_⟩
 have e:gI D (k:Int)=D[k]'hk:=by simp[gI,List.getD,List.getElem?_eq_getElem hk]
 rw[e]
 exact zht (List.getElem?_eq_getElem hk)
theorem zl2{D:List Rat}{a:Int}{B:Nat}(hB:1≤B)(h:∀q∈D,sz q≤B):sz (gI D a)≤B:=by
 unfold gI List.getD
 cases hx:D[a.toNat]? with
 | none=>exact Nat.le_trans (Nat.le_of_eq zh3) hB
 | some q=>exact h q (List.mem_of_getElem? hx)
theorem zw6(i:Ins)(P:Po)(D:List Rat)(dim par:Int)(hm:mayI dim par D.length i=true)(hd:(P.y.length:Int)=dim)(hp:(P.p.length:Int)=par)(hn:fsz i.n≤1000)(hD:∀q∈D,sz q≤1000) :
  callF T 422 [mD,.agg (celI i),ept P.f,.sl (rowF (fzs D)) .an]=some (.tup [efz (fz (valI P D i).1),.b (valI P D i).2]):=by
 have hop:=zyr hm
 by_cases hleaf:i.op=1∨i.op=2∨i.op=3∨i.op=4
 ·have h1:=zw5 (T:=T) i P hleaf hn (fun h=>by have:=zaec hm h;omega) (fun h=>by have:=zaed hm h;omega)
  have e:valI P D i=((valI P [] i).1,true):=by
   unfold valI
   rcases hleaf with h | h | h | h<;>simp[h]
  rw[e]
  generalize fz (valI P [] i).1=z at *
  generalize fzs D=DD at *
  obtain⟨op,a,b,n⟩:=i
  generalize P.f=Q at *
  obtain⟨⟨t0,t1,t2⟩,y,p⟩:=Q
  dsimp only at *
  rw[f422 _ rfl,b422]
  rcases hleaf with rfl | rfl | rfl | rfl<;>simp -implicitDefEqProofs[h1]
 have ha:=zaea hm (by omega)
 obtain⟨k,hk1,hk2,hk3,hka⟩:=zue ha
 have sa:fsz (fz (gI D i.a))≤1000:=zl2 (by decide) hD
 have hkae:=(List.getElem?_eq_some_iff.1 hka).2
 have hl:(fzs D).length=D.length:=zap D
 have c6:=z5v (T:=T) (fz (gI D i.a)) sa
 have c11:=z50 (T:=T) (fz (gI D i.a)) i.b sa
 rw[zbo]at c6 c11
 by_cases h6:i.op=6
 ·have e:valI P D i=(-gI D i.a,true):=by simp[valI,h6]
  rw[e]
  generalize fz (-gI D i.a)=z at *
  generalize fz (gI D i.a)=u at *
  generalize fzs D=DD at *
  obtain⟨op,a,b,n⟩:=i
  generalize P.f=Q at *
  obtain⟨⟨t0,t1,t2⟩,y,p⟩:=Q
  dsimp only at *
  subst h6 hk1
  rw[f422 _ rfl,b422]
  simp -implicitDefEqProofs[hk2,hk3,hka,hkae,hl,c6]
 by_cases h11:i.op=11
 ·have hb:=z6f hm h11
  have e:valI P D i=powR (gI D i.a) i.b:=by simp[valI,h11,z0n hb.1 hb.2]
  rw[e]
  generalize fz (powR (gI D i.a) i.b).1=z at *
  generalize (powR (gI D i.a) i.b).2=ok at *
  generalize fz (gI D i.a)=u at *
  generalize fzs D=DD at *
  obtain⟨op,a,b,n⟩:=i
  generalize P.f=Q at *
  obtain⟨⟨t0,t1,t2⟩,y,p⟩:=Q
  dsimp only at *
  subst h11 hk1
  rw[f422 _ rfl,b422]
  simp -implicitDefEqProofs[hk2,hk3,hka,hkae,hl,c11]
 have hb:=zaeb hm (by omega)
 obtain⟨j,hj1,hj2,hj3,hjb⟩:=zue hb
 have sb:fsz (fz (gI D i.b))≤1000:=zl2 (by decide) hD
 have hjbe:=(List.getElem?_eq_some_iff.1 hjb).2
 have c7:=z5w (T:=T) (fz (gI D i.a)) (fz (gI D i.b)) sa sb
 have c8:=z5x (T:=T) (fz (gI D i.a)) (fz (gI D i.b)) sa sb
 have c9:=z5y (T:=T) (fz (gI D i.a)) (fz (gI D i.b)) sa sb
 have c10:=z5z (T:=T) (fz (gI D i.a)) (fz (gI D i.b)) sa sb
 rw[zbo,zbo]at c7 c8 c9 c10
 have e7:i.op=7→valI P D i=(gI D i.a+gI D i.b,true):=fun h=>by simp[valI,h]
 have e8:i.op=8→valI P D i=(gI D i.a-gI D i.b,true):=fun h=>by simp[valI,h]
 have e9:i.op=9→valI P D i=(gI D i.a*gI D i.b,true):=fun h=>by simp[valI,h]
 have e10:i.op=10→valI P D i=(gI D i.a/gI D i.b,decide (gI D i.b≠0)):=fun h=>by simp[valI,h]
 generalize gI D i.a=A at *
 generalize gI D i.b=B at *
 generalize fz A=u at *
 generalize fz B=v at *
 generalize valI P D i=V at *
 generalize fzs D=DD at *
 obtain⟨op,a,b,n⟩:=i
 generalize P.f=Q at *
 obtain⟨⟨t0,t1,t2⟩,y,p⟩:=Q
 dsimp only at *
 subst hk1 hj1
 rw[f422 _ rfl,b422]
 rcases(show op=7∨op=8∨op=9∨op=10 by omega) with rfl | rfl | rfl | rfl
 ·rw[e7 rfl]
  generalize fz (A+B)=z at *
  simp -implicitDefEqProofs[hk2,hk3,hka,hkae,hj2,hj3,hjb,hjbe,hl,c7]
 ·rw[e8 rfl]
  generalize fz (A-B)=z at *
  simp -implicitDefEqProofs[hk2,hk3,hka,hkae,hj2,hj3,hjb,hjbe,hl,c8]
 ·rw[e9 rfl]
  generalize fz (A*B)=z at *
  simp -implicitDefEqProofs[hk2,hk3,hka,hkae,hj2,hj3,hjb,hjbe,hl,c9]
 ·rw[e10 rfl]
  generalize fz (A/B)=z at *
  generalize decide (B≠0)=ok at *
  simp -implicitDefEqProofs[hk2,hk3,hka,hkae,hj2,hj3,hjb,hjbe,hl,c10]
end
theorem zou{n b:Nat}(h:blen n≤b):(ofN n).length≤b/32+1:=by
 refine zal ?_
 unfold blen at h
 split at h
 ·rename_i h0
  subst h0
  exact Nat.pow_pos (by decide)
 ·rename_i h0
  have h1:n<2^(n.log2+1):=(Nat.log2_lt h0).1 (Nat.lt_succ_self _)
  have h3:(4294967296:Nat)^(b/32+1)=2^(32*(b/32+1)):=by rw[Nat.pow_mul]
  have h2:2^(n.log2+1)≤2^(32*(b/32+1)):=Nat.pow_le_pow_right (by decide) (by omega)
  omega
theorem zj7{q:Rat}{b:Nat}(h:sizQ q≤b):sz q≤b/32+1:=by
 unfold sizQ sizF fz at h
 rw[zaf,zaf]at h
 exact Nat.max_le.2 ⟨zou (Nat.le_trans (Nat.le_add_right _ _) h),zou (Nat.le_trans (Nat.le_add_left _ _) h)⟩
theorem zya(q:Rat)(n:Nat):sz (q^n)≤n*sz q+1:=by
 unfold sz
 rw[Rat.num_pow,Rat.den_pow,Int.natAbs_pow]
 exact Nat.max_le.2 ⟨zf0 (Nat.le_max_left _ _) n,zf0 (Nat.le_max_right _ _) n⟩
theorem z0o{q:Rat}{e:Int}{B:Nat}(hq:sz q≤B)(h1:-8≤e)(h2:e≤8):sz (powZ q e)≤8*B+1:=by
 unfold powZ
 rcases Int.le_total 0 e with h | h
 ·obtain⟨n,rfl⟩:∃n:Nat,e=n:=⟨e.toNat,by omega⟩
  rw[Rat.zpow_natCast]
  have:=zya q n
  have h3:n*sz q≤8*B:=Nat.mul_le_mul (by omega) hq
  omega
 ·obtain⟨n,rfl⟩:∃n:Nat,e=-(n:Int):=⟨(-e).toNat,by omega⟩
  rw[Rat.zpow_neg,Rat.zpow_natCast]
  have:=zya q n
  have h3:n*sz q≤8*B:=Nat.mul_le_mul (by omega) hq
  have:=zyo (q^n)
  omega
structure PvS (P:Po) (B:Nat):Prop where
 t:sz P.t≤B
 y:∀q∈P.y,sz q≤B
 p:∀q∈P.p,sz q≤B
theorem z0p{P:Po}{D:List Rat}{i:Ins}{dim par:Int}{p:Nat}(hm:mayI dim par p i=true)(hP:PvS P 1000)(hn:fsz i.n≤1000)(hD:∀q∈D,sz q≤129):sz (valI P D i).1≤2000:=by
 have ga:=zl2 (D:=D) (a:=i.a) (B:=129) (by decide) hD
 have gb:=zl2 (D:=D) (a:=i.b) (B:=129) (by decide) hD
 have gy:=zl2 (D:=P.y) (a:=i.a) (B:=1000) (by decide) hP.y
 have gp:=zl2 (D:=P.p) (a:=i.a) (B:=1000) (by decide) hP.p
 have gn:=zbs (x:=i.n) (L:=1000) hn (by decide)
 have gt:=hP.t
 rcases zyr hm with h | h | h | h | h | h | h | h | h | h
 ·simp[valI,h];omega
 ·simp[valI,h];omega
 ·simp[valI,h];omega
 ·simp[valI,h];omega
 ·simp[valI,h,zo5];omega
 ·have:=zja (gI D i.a) (gI D i.b);simp[valI,h];omega
 ·have:=zo6 (gI D i.a) (gI D i.b);simp[valI,h];omega
 ·have:=zgj (gI D i.a) (gI D i.b);simp[valI,h];omega
 ·have:=zu6 (gI D i.a) (gI D i.b);simp[valI,h];omega
 ·obtain⟨e1,e2⟩:=z6f hm h
  have h1:=z0o ga e1 e2
  by_cases hc:i.b<0∧gI D i.a=0
  ·simp[valI,h,hc,zh3]
  ·simp only[valI,h]
   simp only[hc]
   simp
   omega
def runG(lim:Nat)(P:Po):List Ins→List Rat→Int→Int→Int×Int
 | [],_,s,p=>(s,p)
 | i::r,D,s,p=>if (valI P D i).2=false then (s,p) else if lim<sizQ (valI P D i).1 then (cntS s,cntP p (fz (valI P D i).1)) else runG lim P r (D++[(valI P D i).1]) (cntS s) (cntP p (fz (valI P D i).1))
theorem zhu(lim:Nat)(P:Po)(i:Ins)(r:List Ins)(D:List Rat)(s p:Int):runG lim P (i::r) D s p=if (valI P D i).2=false then (s,p) else if lim<sizQ (valI P D i).1 then (cntS s,cntP p (fz (valI P D i).1)) else runG lim P r (D++[(valI P D i).1]) (cntS s) (cntP p (fz (valI P D i).1)):=rfl
abbrev bxM:Box:=⟨3,.str,1,[[.ptr (.bor 0) 0 3 0 0]]⟩
abbrev bxP(g:Nat)(x:PoF):Box:=⟨g,.str,5,[[.b x.t.1,.sl (u32s x.t.2.1) .an,.sl (u32s x.t.2.2) .an,.sl (rowF x.y) .an,.sl (rowF x.p) .an]]⟩
abbrev bxF(g:Nat)(a b c d:Int):Box:=⟨g,.str,4,[[.i .i64 a,.i .i64 b,.i .i64 c,.i .i64 d]]⟩
def stRun(Q:PoF)(L:Int)(code:List Ins)(i:Nat)(D:List Fz)(s p:Int)(kd:Kind):St:=
 ⟨[(3,.ptr (.loc 3) 3 1 0 0),(5,.ptr (.loc 5) 4 5 0 0),(7,.ptr (.loc 7) 5 4 0 0),(8,.bs (.loc 8) 6 3 0 i),(34,.sl (rowI code) .an),(35,.i .i64 code.length),(36,.i .i64 i)],
  [(.bor 0,bxG 0 s p L),(.loc 3,bxM),(.loc 5,bxP 4 Q),(.loc 7,bxF 5 0 0 0 0),(.loc 8,⟨6,kd,3,rowF D⟩)],8⟩
def endN(n:Nat)(D:List Fz)(s p L:Int)(kd:Kind):Ex×St:=(.n,⟨[(7,.ptr (.loc 7) 3 4 0 0),(8,.bs (.loc 8) 4 3 0 n)],[(.bor 0,bxG 0 s p L),(.loc 7,bxF 3 0 0 0 0),(.loc 8,⟨4,kd,3,rowF D⟩)],6⟩)
def endR(kind at_ s p L:Int):Ex×St:=(.r,⟨[(6,.sl [] .an),(7,.ptr (.loc 7) 3 4 0 0)],[(.bor 0,bxG 0 s p L),(.loc 7,bxF 3 kind 0 0 at_)],5⟩)
section
variable{T:Tbl}[CLimb T][CNat T][CProd T][CTwos T][CQuot T][CQuotD T][CWhole T][CCommon T][CFrac T][CFrac3 T][CFrac5 T][CPow T][CTape T][CGauge T][CEval T][CRun T][CIfc T]
theorem zw7{kd:Kind}(hk:kd=.own∨kd=.sh)(x:Ins)(Q:PoF)(L:Int)(code:List Ins)(i:Nat)(D:List Fz)(s p:Int)(v:Fz)(hi:i<code.length)(hc:code.length≤1000)(hg:code[i]? = some x)(hdl:D.length=i)(hv:fsz v≤10000)
  (c:callF T 422 [mD,.agg (celI x),ept Q,.sl (rowF D) .an]=some (.tup [efz v,.b true])) (hf:(sizF v:Int)≤L) :
  evX (orc T) T 1 l407_0 (stRun Q L code i D s p kd)=some (.n,stRun Q L code (i+1) (D++[v]) (cntS s) (cntP p v) .sh):=by
 have hf2:=zud (T:=T) s p L v hv
 rw[decide_eq_true hf]at hf2
 have hws:=za9 hi (by omega)
 have hge:=(List.getElem?_eq_some_iff.1 hg).2
 have ht:List.take i D=D:=List.take_of_length_le (by omega)
 have hp:wkL (rowF D++[celF v])=rowF (D++[v]):=by rw[zh5,zbi]
 have hi':(i:Int)<code.length:=by omega
 have hb:i≤4294967295:=by omega
 generalize cntS s=s' at *
 generalize cntP p v=p' at *
 unfold stRun
 obtain⟨⟨q0,q1,q2⟩,qy,qp⟩:=Q
 rcases hk with rfl | rfl<;>simp -implicitDefEqProofs[l407_0,hi,hi',hg,hge,hws,c,hf2,hp,hdl,hb,ht]
theorem z0q{kd:Kind}(hk:kd=.own∨kd=.sh)(x:Ins)(Q:PoF)(L:Int)(code:List Ins)(i:Nat)(D:List Fz)(s p:Int)(v:Fz)(hi:i<code.length)(hc:code.length≤1000)(hg:code[i]? = some x)(hdl:D.length=i)
  (c:callF T 422 [mD,.agg (celI x),ept Q,.sl (rowF D) .an]=some (.tup [efz v,.b false])) :
  evX (orc T) T 1 l407_0 (stRun Q L code i D s p kd)=some (endR 3 i s p L):=by
 have hge:=(List.getElem?_eq_some_iff.1 hg).2
 have ht:List.take i D=D:=List.take_of_length_le (by omega)
 have hi':(i:Int)<code.length:=by omega
 unfold stRun endR
 obtain⟨⟨q0,q1,q2⟩,qy,qp⟩:=Q
 rcases hk with rfl | rfl<;>simp -implicitDefEqProofs[l407_0,hi,hi',hg,hge,c,hdl,ht]
theorem z0r{kd:Kind}(hk:kd=.own∨kd=.sh)(x:Ins)(Q:PoF)(L:Int)(code:List Ins)(i:Nat)(D:List Fz)(s p:Int)(v:Fz)(hi:i<code.length)(hc:code.length≤1000)(hg:code[i]? = some x)(hdl:D.length=i)(hv:fsz v≤10000)
  (c:callF T 422 [mD,.agg (celI x),ept Q,.sl (rowF D) .an]=some (.tup [efz v,.b true])) (hf:¬ (sizF v:Int)≤L) :
  evX (orc T) T 1 l407_0 (stRun Q L code i D s p kd)=some (endR 6 i (cntS s) (cntP p v) L):=by
 have hf2:=zud (T:=T) s p L v hv
 rw[decide_eq_false hf]at hf2
 have hge:=(List.getElem?_eq_some_iff.1 hg).2
 have ht:List.take i D=D:=List.take_of_length_le (by omega)
 have hi':(i:Int)<code.length:=by omega
 generalize cntS s=s' at *
 generalize cntP p v=p' at *
 unfold stRun endR
 obtain⟨⟨q0,q1,q2⟩,qy,qp⟩:=Q
 rcases hk with rfl | rfl<;>simp -implicitDefEqProofs[l407_0,hi,hi',hg,hge,c,hf2,hdl,ht]
theorem z51{kd:Kind}(hk:kd=.own∨kd=.sh)(Q:PoF)(L:Int)(code:List Ins)(D:List Fz)(s p:Int):isEx (evX (orc T) T 1 l407_0 (stRun Q L code code.length D s p kd))=true ∧
  finX 1 0 (.norm false [7,8]) (evX (orc T) T 1 l407_0 (stRun Q L code code.length D s p kd))=some (endN code.length D s p L kd):=by
 unfold stRun endN
 obtain⟨⟨q0,q1,q2⟩,qy,qp⟩:=Q
 rcases hk with rfl | rfl<;>constructor<;>simp -implicitDefEqProofs[l407_0]
theorem zuf(kind at_ s p L:Int):finX 1 0 (.norm false [7,8]) (some (endR kind at_ s p L))=some (endR kind at_ s p L):=by
 unfold endR
 simp -implicitDefEqProofs
def kdE(kd:Kind)(l:List Ins):Kind:=if l=[] then kd else .sh
def endRun(lim:Nat)(P:Po)(code l:List Ins)(D:List Rat)(s p:Int)(kd:Kind):Ex×St:=
 if (runR lim P l D).2.1=0 then endN code.length (fzs (runR lim P l D).1) (runG lim P l D s p).1 (runG lim P l D s p).2 lim (kdE kd l)
 else endR (runR lim P l D).2.1 (runR lim P l D).2.2 (runG lim P l D s p).1 (runG lim P l D s p).2 lim
theorem zov(P:Po)(lim:Nat)(hlim:lim≤4096)(t:Tp)(ht:OkTp t)(hn:∀i∈t.code,fsz i.n≤1000)(hd:(P.y.length:Int)=t.dim)(hp:(P.p.length:Int)=t.par)(hP:PvS P 1000)(s p:Int) :
  loopN T 1 0 (.norm false [7,8]) l407_0 (stRun P.f lim t.code 0 [] s p .own)=some (endRun lim P t.code t.code [] s p .own):=by
 have hc:=ht.cl
 have key:=za8 (T:=T) (k:=1) (id:=0) (g2:=.norm false [7,8]) (c:=l407_0) (fun x:Nat×List Rat×(Int×Int)×Kind=>stRun P.f lim t.code x.1 (fzs x.2.1) x.2.2.1.1 x.2.2.1.2 x.2.2.2)
  (fun x=>x.1≤t.code.length∧x.2.1.length=x.1∧(∀q∈x.2.1,sz q≤129)∧(x.2.2.2=.own∨x.2.2.2=.sh)) (fun x=>t.code.length-x.1)
  (fun x=>some (endRun lim P t.code (t.code.drop x.1) x.2.1 x.2.2.1.1 x.2.2.1.2 x.2.2.2)) ?_ (0,[],(s,p),.own) ⟨Nat.zero_le _,rfl,by simp,.inl rfl⟩
 ·exact key
 rintro⟨i,D,⟨s,p⟩,kd⟩ ⟨hi,hdl,hD,hk⟩
 dsimp only at *
 by_cases hlt:i<t.code.length
 ·have hg:t.code[i]? = some (t.code[i]'hlt):=List.getElem?_eq_getElem hlt
  have hmem:=List.getElem_mem hlt
  have hm:=ht.may i _ hg
  have hdr:t.code.drop i=t.code[i]'hlt::t.code.drop (i+1):=List.drop_eq_getElem_cons hlt
  generalize hx:t.code[i]'hlt=x at *
  have hm':mayI t.dim t.par D.length x=true:=by rw[hdl];exact hm
  have c:=zw6 (T:=T) x P D t.dim t.par hm' hd hp (hn x hmem) (fun q hq=>Nat.le_trans (hD q hq) (by decide))
  have hvs:fsz (fz (valI P D x).1)≤10000:=Nat.le_trans (z0p hm' hP (hn x hmem) hD) (by decide)
  have hfl:(fzs D).length=i:=by rw[zap,hdl]
  have hout:endRun lim P t.code (t.code.drop i) D s p kd=endRun lim P t.code (x::t.code.drop (i+1)) D s p kd:=by rw[hdr]
  rw[hout]
  cases hok:(valI P D x).2 with
  | false=>
   right
   rw[hok]at c
   have e:=z0q (T:=T) hk x P.f lim t.code i (fzs D) s p _ hlt (by omega) hg hfl c
   rw[e,zuf]
   refine⟨rfl,?_⟩
   have hR:runR lim P (x::t.code.drop (i+1)) D=([],3,i):=by rw[zce,if_pos hok,hdl]
   have hG:runG lim P (x::t.code.drop (i+1)) D s p=(s,p):=by rw[zhu,if_pos hok]
   unfold endRun
   rw[hR,hG]
   rfl
  | true=>
   rw[hok]at c
   by_cases hfit:sizQ (valI P D x).1≤lim
   ·left
    have e:=zw7 (T:=T) hk x P.f lim t.code i (fzs D) s p _ hlt (by omega) hg hfl hvs c (by unfold sizQ at hfit;omega)
    refine⟨(i+1,D++[(valI P D x).1],(cntS s,cntP p (fz (valI P D x).1)),.sh),⟨by omega,by simp[hdl],fun q hq=>?_,.inr rfl⟩,by show t.code.length-(i+1)<t.code.length-i;omega,?_,?_⟩
    ·rcases List.mem_append.1 hq with h | h
     ·exact hD q h
     ·rw[List.mem_singleton.1 h]
      have:=zj7 hfit
      have:lim/32≤128:=by omega
      omega
    ·rw[e]
     simp[fzs]
    ·dsimp only
     congr 1
     have hR:runR lim P (x::t.code.drop (i+1)) D=runR lim P (t.code.drop (i+1)) (D++[(valI P D x).1]):=by rw[zce,if_neg (by rw[hok];decide),if_neg (by omega)]
     have hG:runG lim P (x::t.code.drop (i+1)) D s p=runG lim P (t.code.drop (i+1)) (D++[(valI P D x).1]) (cntS s) (cntP p (fz (valI P D x).1)):=by rw[zhu,if_neg (by rw[hok];decide),if_neg (by omega)]
     unfold endRun
     rw[hR,hG]
     have e1:kdE kd (x::t.code.drop (i+1))=.sh:=by simp[kdE]
     have e2:∀l,kdE .sh l=.sh:=by intro l;simp[kdE]
     rw[e1,e2]
   ·right
    have e:=z0r (T:=T) hk x P.f lim t.code i (fzs D) s p _ hlt (by omega) hg hfl hvs c (by unfold sizQ at hfit;omega)
    rw[e,zuf]
    refine⟨rfl,?_⟩
    have hR:runR lim P (x::t.code.drop (i+1)) D=([],6,i):=by rw[zce,if_neg (by rw[hok];decide),if_pos (by omega),hdl]
    have hG:runG lim P (x::t.code.drop (i+1)) D s p=(cntS s,cntP p (fz (valI P D x).1)):=by rw[zhu,if_neg (by rw[hok];decide),if_pos (by omega)]
    unfold endRun
    rw[hR,hG]
    rfl
 ·right
  have hi2:i=t.code.length:=by omega
  subst hi2
  have e:=z51 (T:=T) hk P.f lim t.code (fzs D) s p
  refine⟨e.1,?_⟩
  rw[e.2,List.drop_length]
  unfold endRun
  simp[runR,runG,kdE]
end
def fitT(t:Tp)(y p:Nat):Bool:=okT t&&decide ((y:Int)=t.dim)&&decide ((p:Int)=t.par)
def tapeR(lim:Nat)(t:Tp)(P:Po):List Rat×Nat×Nat:=if fitT t P.y.length P.p.length=true then runR lim P t.code [] else ([],2,0)
def outsR(t:Tp)(D:List Rat):List Rat:=t.outs.map (gI D)
def fieldR(lim:Nat)(t:Tp)(P:Po):List Rat×Nat×Nat:=if (tapeR lim t P).2.1=0 then (outsR t (tapeR lim t P).1,0,0) else ([],(tapeR lim t P).2)
structure TpS (t:Tp):Prop where
 small:Small t
 ns:∀i∈t.code,fsz i.n≤1000
abbrev fltA(k s g a:Int):AV:=.agg [.i .i64 k,.i .i64 s,.i .i64 g,.i .i64 a]
theorem zhv{t:Tp}{y p:Nat}(h:fitT t y p=true):OkTp t∧(y:Int)=t.dim∧(p:Int)=t.par:=by
 unfold fitT at h
 simp only[Bool.and_eq_true,decide_eq_true_eq]at h
 exact⟨(zga t).1 h.1.1,h.1.2,h.2⟩
section
variable{T:Tbl}[CLimb T][CNat T][CProd T][CTwos T][CQuot T][CQuotD T][CWhole T][CCommon T][CFrac T][CFrac3 T][CFrac5 T][CPow T][CTape T][CGauge T][CEval T][CRun T][CIfc T]
theorem z0s(t:Tp)(Q:PoF)(hs:TpS t)(s p L:Int)(h:fitT t Q.y.length Q.p.length=false) :
  callH T 407 [.agg [.ptr (.bor 0) 0 3 0 0],etp t,ept Q] [(.bor 0,bxG 0 s p L)]=some (.tup [.sl [] .an,fltA 2 0 0 0],[(.bor 0,bxG 0 s p L)]):=by
 have hr:=zdc (T:=T) t hs.small
 unfold fitT at h
 rw[f407 _ _ rfl,b407]
 obtain⟨⟨q0,q1,q2⟩,qy,qp⟩:=Q
 dsimp only at h
 cases hok:okT t with
 | false=>
  rw[hok]at hr
  obtain⟨code,outs,dim,par⟩:=t
  simp -implicitDefEqProofs[hr]
 | true=>
  rw[hok]at hr h
  obtain⟨code,outs,dim,par⟩:=t
  dsimp only at *
  by_cases h1:(qy.length:Int)=dim
  ·by_cases h2:(qp.length:Int)=par
   ·simp[h1,h2]at h
   ·simp -implicitDefEqProofs[hr,h1,h2]
  ·simp -implicitDefEqProofs[hr,h1]
theorem zug(t:Tp)(P:Po)(hs:TpS t)(lim:Nat)(hlim:lim≤4096)(s p:Int)(hP:PvS P 1000)(h:fitT t P.y.length P.p.length=true)(hk:(runR lim P t.code []).2.1=0) :
  ∃(s' p':Int) (kd:Kind),(kd=.own∨kd=.sh)∧callH T 407 [.agg [.ptr (.bor 0) 0 3 0 0],etp t,ept P.f] [(.bor 0,bxG 0 s p lim)] =
   some (.tup [.bs (.loc 8) 3 3 0 t.code.length,fltA 0 0 0 0],[(.bor 0,bxG 0 s' p' lim),(.loc 8,⟨3,kd,3,rowF (fzs (runR lim P t.code []).1)⟩)]):=by
 obtain⟨hok,h1,h2⟩:=zhv h
 have hr:=zdc (T:=T) t hs.small
 have hl:=zov (T:=T) P lim hlim t hok hs.ns h1 h2 hP s p
 rw[(zga t).2 hok]at hr
 unfold endRun at hl
 rw[if_pos hk]at hl
 unfold stRun endN at hl
 simp only[Int.natCast_zero,zeg]at hl
 have hkd:∃kd:Kind,kdE .own t.code=kd∧(kd=.own∨kd=.sh):=by
  unfold kdE
  split
  ·exact⟨_,rfl,.inl rfl⟩
  ·exact⟨_,rfl,.inr rfl⟩
 obtain⟨kd,hkd1,hkd2⟩:=hkd
 rw[hkd1]at hl
 clear hkd1
 have hy:(fzs P.y).length=P.y.length:=zap _
 have hp':(fzs P.p).length=P.p.length:=zap _
 unfold Po.f at *
 generalize (runG lim P t.code [] s p).1=s' at *
 generalize (runG lim P t.code [] s p).2=p' at *
 generalize fzs (runR lim P t.code []).1=D at *
 generalize fzs P.y=Y at *
 generalize fzs P.p=PP at *
 generalize fz P.t=tt at *
 obtain⟨code,outs,dim,par⟩:=t
 dsimp only at *
 refine⟨s',p',kd,hkd2,?_⟩
 rw[f407 _ _ rfl,b407]
 rcases hkd2 with rfl | rfl
 ·simp -implicitDefEqProofs[hr,h1,h2,hy,hp',hl]
 ·simp -implicitDefEqProofs[hr,h1,h2,hy,hp',hl]
theorem zuh(t:Tp)(P:Po)(hs:TpS t)(lim:Nat)(hlim:lim≤4096)(s p:Int)(hP:PvS P 1000)(h:fitT t P.y.length P.p.length=true)(hk:¬ (runR lim P t.code []).2.1=0) :
  ∃(s' p':Int),callH T 407 [.agg [.ptr (.bor 0) 0 3 0 0],etp t,ept P.f] [(.bor 0,bxG 0 s p lim)] =
   some (.tup [.sl [] .an,fltA (runR lim P t.code []).2.1 0 0 (runR lim P t.code []).2.2],[(.bor 0,bxG 0 s' p' lim)]):=by
 obtain⟨hok,h1,h2⟩:=zhv h
 have hr:=zdc (T:=T) t hs.small
 have hl:=zov (T:=T) P lim hlim t hok hs.ns h1 h2 hP s p
 rw[(zga t).2 hok]at hr
 unfold endRun at hl
 rw[if_neg hk]at hl
 unfold stRun endR at hl
 simp only[Int.natCast_zero,zeg]at hl
 have hy:(fzs P.y).length=P.y.length:=zap _
 have hp':(fzs P.p).length=P.p.length:=zap _
 unfold Po.f at *
 generalize (runG lim P t.code [] s p).1=s' at *
 generalize (runG lim P t.code [] s p).2=p' at *
 generalize (((runR lim P t.code []).2.1:Nat):Int)=kk at *
 generalize (((runR lim P t.code []).2.2:Nat):Int)=aa at *
 generalize fzs P.y=Y at *
 generalize fzs P.p=PP at *
 generalize fz P.t=tt at *
 obtain⟨code,outs,dim,par⟩:=t
 dsimp only at *
 refine⟨s',p',?_⟩
 rw[f407 _ _ rfl,b407]
 simp -implicitDefEqProofs[hr,h1,h2,hy,hp',hl]
theorem zad4{x:PoF}(h:PoS x 1000):PvS x.v 1000:=by
 refine⟨zbs h.t (by decide),fun q hq=>?_,fun q hq=>?_⟩
 ·obtain⟨u,hu,rfl⟩:=List.mem_map.1 hq
  exact zbs (h.y u hu) (by decide)
 ·obtain⟨u,hu,rfl⟩:=List.mem_map.1 hq
  exact zbs (h.p u hu) (by decide)
def limN(n:Int):Nat:=(limI n).toNat
theorem zyb(n:Int):limI n=(limN n:Int)∧limN n≤4096:=by
 unfold limN limI
 split
 ·omega
 ·split<;>omega
theorem zw8(t:Tp)(x:PoF)(bits:Int)(hs:TpS t)(hx:PoS x 1000) :
  callF T 384 [etp t,ept x,.i .i64 bits]=some (.tup [.sl (rowF (fzs (tapeR (limN bits) t x.v).1)) .an,fltA (tapeR (limN bits) t x.v).2.1 0 0 (tapeR (limN bits) t x.v).2.2]):=by
 have hn:=ztd (T:=T) x hx
 have hg:=ztc (T:=T) bits
 obtain⟨hl1,hl2⟩:=zyb bits
 rw[hl1]at hg
 have hP:=zad4 hx
 have hlen:x.v.f.y.length=x.v.y.length∧x.v.f.p.length=x.v.p.length:=⟨zap _,zap _⟩
 unfold tapeR
 cases hf:fitT t x.v.y.length x.v.p.length with
 | false=>
  have hm:=z0s (T:=T) t x.v.f hs 0 0 (limN bits) (by rw[hlen.1,hlen.2];exact hf)
  simp only[Bool.false_eq_true,if_false]
  have e0:fzs []=[]:=rfl
  rw[e0,f384 _ rfl,b384]
  generalize x.v.f=Q at *
  obtain⟨code,outs,dim,par⟩:=t
  obtain⟨⟨q0,q1,q2⟩,qy,qp⟩:=Q
  obtain⟨⟨x0,x1,x2⟩,xy,xp⟩:=x
  dsimp only at *
  simp -implicitDefEqProofs[hn,hg,hm]
 | true=>
  simp only[if_true]
  by_cases hk:(runR (limN bits) x.v t.code []).2.1=0
  ·obtain⟨s',p',kd,hkd,hm⟩:=zug (T:=T) t x.v hs (limN bits) hl2 0 0 hP hf hk
   have e2:=(zh6 _ _ _ _ hk).1
   have el:(runR (limN bits) x.v t.code []).1.length=t.code.length:=by
    obtain⟨E,h1,h2⟩:=(zh6 _ _ _ _ hk).2
    rw[h1];simpa using h2
   rw[hk,e2]
   have hfl:(fzs (runR (limN bits) x.v t.code []).1).length=t.code.length:=by rw[zap,el]
   clear el e2 hk
   generalize fzs (runR (limN bits) x.v t.code []).1=D at *
   have ht:List.take t.code.length D=D:=List.take_of_length_le (by omega)
   rw[f384 _ rfl,b384]
   generalize x.v.f=Q at *
   obtain⟨code,outs,dim,par⟩:=t
   obtain⟨⟨q0,q1,q2⟩,qy,qp⟩:=Q
   obtain⟨⟨x0,x1,x2⟩,xy,xp⟩:=x
   dsimp only at *
   rcases hkd with rfl | rfl
   ·simp -implicitDefEqProofs[hn,hg,hm,hfl,ht]
   ·simp -implicitDefEqProofs[hn,hg,hm,hfl,ht]
  ·obtain⟨s',p',hm⟩:=zuh (T:=T) t x.v hs (limN bits) hl2 0 0 hP hf hk
   have e1:=(zvb _ _ _ _ hk).1
   have e0:fzs []=[]:=rfl
   rw[e1,e0]
   clear e1 hk
   generalize (((runR (limN bits) x.v t.code []).2.1:Nat):Int)=kk at *
   generalize (((runR (limN bits) x.v t.code []).2.2:Nat):Int)=aa at *
   rw[f384 _ rfl,b384]
   generalize x.v.f=Q at *
   obtain⟨code,outs,dim,par⟩:=t
   obtain⟨⟨q0,q1,q2⟩,qy,qp⟩:=Q
   obtain⟨⟨x0,x1,x2⟩,xy,xp⟩:=x
   dsimp only at *
   simp -implicitDefEqProofs[hn,hg,hm]
def stOu(D:List Fz)(outs:List Int)(E:List Fz)(i:Nat)(kd:Kind):St:=
 ⟨[(1,.sl (rowF D) .an),(5,.bs (.loc 5) 1 3 0 i),(20,.sl (ints outs) .an),(21,.i .i64 outs.length),(22,.i .i64 i)],[(.loc 5,⟨1,.own,3,rowF (E.take i)⟩)],3⟩
theorem zw9(t:Tp)(D:List Rat)(hs:TpS t)(hok:okT t=true)(hl:D.length=t.code.length)(hD:∀q∈D,sz q≤1000) :
  callF T 409 [etp t,.sl (rowF (fzs D)) .an]=some (.sl (rowF (fzs (outsR t D))) .an):=by
 have hr:=zdc (T:=T) t hs.small
 rw[hok]at hr
 have hO:=(zga t).1 hok
 have hcl:=hO.cl
 have hol:t.outs.length≤6:=by have:=hO.ol;have:=hO.d2;omega
 have hel:(outsR t D).length=t.outs.length:=by simp[outsR]
 have hloop:loopN T 0 0 (.norm false [5]) l409_0 (stOu (fzs D) t.outs (fzs (outsR t D)) 0 .own)=some (.n,⟨[(5,.bs (.loc 5) 1 3 0 t.outs.length)],[(.loc 5,⟨1,.own,3,rowF (fzs (outsR t D))⟩)],3⟩):=by
  refine zaq (fun i=>stOu (fzs D) t.outs (fzs (outsR t D)) i .own) t.outs.length _ (fun i hi=>?_) ?_
  ·have hg:t.outs[i]? = some (t.outs[i]'hi):=List.getElem?_eq_getElem hi
   have hge:=(List.getElem?_eq_some_iff.1 hg).2
   have hws:=za9 hi (by omega)
   have hmem:=List.getElem_mem hi
   obtain⟨o1,o2⟩:=hO.outs _ hmem
   obtain⟨k,hk1,hk2,hk3,hka⟩:=zue (D:=D) (a:=t.outs[i]'hi) ⟨o1,by omega⟩
   have hkae:=(List.getElem?_eq_some_iff.1 hka).2
   have sa:fsz (fz (gI D (t.outs[i]'hi)))≤1000:=zl2 (by decide) hD
   have cn:=zcc (T:=T) (fz (gI D (t.outs[i]'hi))) (by omega)
   rw[zbo]at cn
   have hx:(fzs (outsR t D))[i]? = some (fz (gI D (t.outs[i]'hi))):=zht (by simp[outsR,hg])
   have e:(fzs (outsR t D)).take (i+1)=(fzs (outsR t D)).take i++[fz (gI D (t.outs[i]'hi))]:=by
    rw[List.take_add_one,hx]
    rfl
   have hml:((fzs (outsR t D)).take i).length=i:=by rw[List.length_take,zap,hel];omega
   have hp:=zda (m:=(fzs (outsR t D)).take i) hml (fz (gI D (t.outs[i]'hi)))
   have hfl:(fzs D).length=D.length:=zap D
   have hi':(i:Int)<t.outs.length:=by omega
   have hb:i≤4294967295:=by omega
   show evX (orc T) T 0 l409_0 (stOu _ _ _ i .own)=some (.n,stOu _ _ _ (i+1) .own)
   unfold stOu
   rw[e]
   clear e hx
   generalize (fzs (outsR t D)).take i=M at *
   generalize fz (gI D (t.outs[i]'hi))=z at *
   generalize fzs D=DD at *
   generalize t.outs[i]'hi=o at *
   subst hk1
   simp -implicitDefEqProofs[l409_0,hi,hi',hg,hge,hws,hk2,hk3,hka,hkae,hfl,cn,hp,hml,hb]
  ·have e:(fzs (outsR t D)).take t.outs.length=fzs (outsR t D):=List.take_of_length_le (by rw[zap,hel];omega)
   show isEx (evX (orc T) T 0 l409_0 (stOu _ _ _ t.outs.length .own))=true∧finX 0 0 _ (evX (orc T) T 0 l409_0 (stOu _ _ _ t.outs.length .own))=_
   unfold stOu
   rw[e]
   generalize fzs (outsR t D)=M at *
   generalize fzs D=DD at *
   constructor<;>simp -implicitDefEqProofs[l409_0]
 unfold stOu at hloop
 simp only[Int.natCast_zero,List.take_zero,zeg]at hloop
 have hfl:(fzs D).length=t.code.length:=by rw[zap,hl]
 have hfo:(fzs (outsR t D)).length=t.outs.length:=by rw[zap,hel]
 generalize fzs (outsR t D)=M at *
 generalize fzs D=DD at *
 have ht:List.take t.outs.length M=M:=List.take_of_length_le (by omega)
 clear hO hok hol hcl hel
 obtain⟨code,outs,dim,par⟩:=t
 dsimp only at *
 rw[f409 _ rfl,b409]
 simp -implicitDefEqProofs[hr,hfl,hloop,hfo,ht]
theorem zui{lim:Nat}{P:Po}(hlim:lim≤4096):∀(l:List Ins) (D:List Rat),(∀q∈D,sz q≤129)→∀q∈(runR lim P l D).1,sz q≤129
 | [],D,h=>h
 | i::r,D,h=>by
  rw[zce]
  split
  ·simp
  ·split
   ·simp
   ·rename_i hf
    refine zui hlim r _ fun q hq=>?_
    rcases List.mem_append.1 hq with hq | hq
    ·exact h q hq
    ·rw[List.mem_singleton.1 hq]
     have:=zj7 (q:=(valI P D i).1) (b:=lim) (by omega)
     omega
theorem zuj(t:Tp)(x:PoF)(bits:Int)(hs:TpS t)(hx:PoS x 1000) :
  callF T 389 [etp t,ept x,.i .i64 bits]=some (.tup [.sl (rowF (fzs (fieldR (limN bits) t x.v).1)) .an,fltA (fieldR (limN bits) t x.v).2.1 0 0 (fieldR (limN bits) t x.v).2.2]):=by
 have h:=zw8 (T:=T) t x bits hs hx
 have hlim:=(zyb bits).2
 have e0:fzs []=[]:=rfl
 unfold fieldR
 by_cases hk:(tapeR (limN bits) t x.v).2.1=0
 ·rw[if_pos hk]
  have hf:fitT t x.v.y.length x.v.p.length=true:=by
   cases hf:fitT t x.v.y.length x.v.p.length with
   | true=>rfl
   | false=>unfold tapeR at hk;rw[hf]at hk;simp at hk
  have e1:tapeR (limN bits) t x.v=runR (limN bits) x.v t.code []:=by unfold tapeR;rw[if_pos hf]
  rw[e1]at h hk ⊢
  have e2:=(zh6 _ _ _ _ hk).1
  have el:(runR (limN bits) x.v t.code []).1.length=t.code.length:=by
   obtain⟨E,h1,h2⟩:=(zh6 _ _ _ _ hk).2
   rw[h1];simpa using h2
  have ho:=zw9 (T:=T) t (runR (limN bits) x.v t.code []).1 hs ((zga t).2 (zhv hf).1) el (fun q hq=>Nat.le_trans (zui hlim _ _ (by simp) q hq) (by decide))
  rw[hk,e2]at h
  clear e1 e2 el hk hf
  generalize fzs (outsR t (runR (limN bits) x.v t.code []).1)=M at *
  generalize fzs (runR (limN bits) x.v t.code []).1=D at *
  obtain⟨code,outs,dim,par⟩:=t
  obtain⟨⟨x0,x1,x2⟩,xy,xp⟩:=x
  dsimp only at *
  rw[f389 _ rfl,b389]
  simp -implicitDefEqProofs[h,ho]
 ·rw[if_neg hk,e0]
  have hk':¬ (((tapeR (limN bits) t x.v).2.1:Nat):Int)=0:=by omega
  clear hk
  generalize (((tapeR (limN bits) t x.v).2.1:Nat):Int)=kk at *
  generalize (((tapeR (limN bits) t x.v).2.2:Nat):Int)=aa at *
  generalize fzs (tapeR (limN bits) t x.v).1=D at *
  obtain⟨code,outs,dim,par⟩:=t
  obtain⟨⟨x0,x1,x2⟩,xy,xp⟩:=x
  rw[f389 _ rfl,b389]
  simp -implicitDefEqProofs[h,hk']
end
structure Sm where
 nm:List UInt8
 c:List Fz
 a:List (List Fz)
 b:List Fz
 e:List Fz
abbrev esm(s:Sm):AV:=.agg [.s s.nm,.sl (rowF s.c) .an,.sl (matF s.a) .an,.sl (rowF s.b) .an,.sl (rowF s.e) .an]
def shapeL:List (List Fz)→Nat→Bool
 | [],_=>true
 | r::l,i=>decide (r.length=i)&&shapeL l (i+1)
def shapeS(s:Sm):Bool:=decide (1≤s.b.length)&&decide (s.b.length≤8)&&decide (s.c.length=s.b.length)&&decide (s.a.length=s.b.length)&&(decide (s.e.length=s.b.length) || decide (s.e.length=0))&&shapeL s.a 0
def numF(x:Fz):Bool:=rightF x&&decide (sizF x≤190)
def numM(m:List (List Fz)):Bool:=m.all fun r=>r.all numF
def sumF(l:List Fz):Rat:=l.foldl (fun s x=>s+fv x) 0
def rowsSm(a:List (List Fz))(c:List Fz):Bool:=(a.zip c).all fun p=>decide (sumF p.1=fv p.2)
def wrongS(s:Sm):Int:=
 if !rightB 2 s.nm then 1 else if !shapeS s then 2 else if !(numM s.a&&numM [s.b,s.c,s.e]) then 3
 else if !rowsSm s.a s.c then 4 else if sumF s.b≠1 then 5 else if s.e≠[]∧sumF s.e≠1 then 6 else 0
def okS(s:Sm):Bool:=decide (wrongS s=0)
structure SmS (s:Sm):Prop where
 nm:s.nm.length≤1000
 cl:s.c.length≤1000
 al:s.a.length≤1000
 bl:s.b.length≤1000
 el:s.e.length≤1000
 c:∀x∈s.c,fsz x≤300
 a:∀r∈s.a,r.length≤1000∧∀x∈r,fsz x≤300
 b:∀x∈s.b,fsz x≤300
 e:∀x∈s.e,fsz x≤300
structure Pb where
 t:Tp
 s:Sm
 p:List Fz
 bits:Int
abbrev epb(p:Pb):AV:=.agg [.sl (rowI p.t.code) .an,.sl (ints p.t.outs) .an,.i .i64 p.t.dim,.i .i64 p.t.par,.s p.s.nm,.sl (rowF p.s.c) .an,.sl (matF p.s.a) .an,.sl (rowF p.s.b) .an,.sl (rowF p.s.e) .an,.sl (rowF p.p) .an,.i .i64 p.bits]
def okP(p:Pb):Bool:=okT p.t&&okS p.s&&decide ((p.p.length:Int)=p.t.par)
abbrev tySm:Ty:=.cons .str (.cons (.sl tyF) (.cons (.sl (.sl tyF)) (.cons (.sl tyF) (.cons (.sl tyF) .nil))))
abbrev tyPb:Ty:=.cons tyT (.cons tySm (.cons (.sl tyF) (.cons (.int .i64) .nil)))
abbrev tyTr:Ty:=.cons tyF (.cons tyF (.cons tyF (.cons tyF (.cons (.sl tyF) (.cons .bool .nil)))))
abbrev tyHs:Ty:=.cons (.sl tyTr) (.cons tyF (.cons (.sl tyF) .nil))
theorem zpu{cs:List AV}(h:Ok (.sl (.sl tyF)) cs):∃m:List (List Fz),wkR cs=[.sl (matF m) .an]:=by
 obtain⟨els,f,rfl,_,_,he⟩:=h
 obtain⟨m,hm⟩:=zli els he
 exact⟨m,by simp[wkR,wkA,hm]⟩
theorem zv2{cs:List AV}(h:Ok tySm cs):∃s:Sm,wkR cs=[.s s.nm,.sl (rowF s.c) .an,.sl (matF s.a) .an,.sl (rowF s.b) .an,.sl (rowF s.e) .an]:=by
 obtain⟨c1,c1',rfl,⟨nm,rfl,_⟩,c2,c2',rfl,h2,c3,c3',rfl,h3,c4,c4',rfl,h4,c5,c5',rfl,h5,rfl⟩:=h
 obtain⟨c,e2⟩:=zcr h2
 obtain⟨a,e3⟩:=zpu h3
 obtain⟨b,e4⟩:=zcr h4
 obtain⟨e,e5⟩:=zcr h5
 refine⟨⟨nm,c,a,b,e⟩,?_⟩
 simp only[zc6,e2,e3,e4,e5]
 rfl
theorem zv3{cs:List AV}(h:Ok tyT cs):∃t:Tp,wkR cs=[.sl (rowI t.code) .an,.sl (ints t.outs) .an,.i .i64 t.dim,.i .i64 t.par]∧-9223372036854775808≤t.dim∧t.dim<9223372036854775808:=by
 obtain⟨c1,c1',rfl,⟨els,f,rfl,_,_,he⟩,c2,c2',rfl,⟨els2,f2,rfl,_,_,he2⟩,c3,c3',rfl,⟨d,rfl,wd⟩,c4,c4',rfl,⟨p,rfl,wp⟩,rfl⟩:=h
 obtain⟨l,hl⟩:=zok els he
 obtain⟨m,hm⟩:=zol els2 he2
 refine⟨⟨l,m,d,p⟩,?_,z5p wd⟩
 simp[wkA,wkR,hl,hm]
theorem zv4{x:AV}(h:OkArg (true,tyPb) x):∃p:Pb,wkA x=epb p∧-9223372036854775808≤p.t.dim∧p.t.dim<9223372036854775808:=by
 obtain⟨cs,rfl,c1,c1',rfl,h1,c2,c2',rfl,h2,c3,c3',rfl,h3,c4,c4',rfl,⟨b,rfl,_⟩,rfl⟩:=h
 obtain⟨t,e1,d1,d2⟩:=zv3 h1
 obtain⟨s,e2⟩:=zv2 h2
 obtain⟨q,e3⟩:=zcr h3
 refine⟨⟨t,s,q,b⟩,?_,d1,d2⟩
 rw[wkA]
 simp only[zc6,e1,e2,e3]
 rfl
theorem zv5{cs:List AV}(h:Ok tyTr cs):∃r:Tr,wkR cs=celR r:=by
 obtain⟨c1,c1',rfl,h1,c2,c2',rfl,h2,c3,c3',rfl,h3,c4,c4',rfl,h4,c5,c5',rfl,h5,c6,c6',rfl,⟨b,rfl⟩,rfl⟩:=h
 obtain⟨t,e1⟩:=zhl h1
 obtain⟨w,e2⟩:=zhl h2
 obtain⟨hh,e3⟩:=zhl h3
 obtain⟨e,e4⟩:=zhl h4
 obtain⟨y,e5⟩:=zcr h5
 refine⟨⟨t,w,hh,e,y,b⟩,?_⟩
 simp only[zc6,e1,e2,e3,e4,e5]
 rfl
theorem zs2:∀(els:List (List AV)),(∀r∈els,Ok tyTr r)→∃l:List Tr,wkL els=rowTr l
 | [],_=>⟨[],rfl⟩
 | r::els,h=>by
  obtain⟨l,hl⟩:=zs2 els fun r hr=>h r (List.mem_cons_of_mem _ hr)
  obtain⟨x,hx⟩:=zv5 (h r List.mem_cons_self)
  refine⟨x::l,?_⟩
  simp only[wkL,hx,hl]
  rfl
theorem zv6{x:AV}(h:OkArg (true,tyHs) x):∃a:Hs,wkA x=ehs a:=by
 obtain⟨cs,rfl,c1,c1',rfl,⟨els,f,rfl,_,_,he⟩,c2,c2',rfl,h2,c3,c3',rfl,h3,rfl⟩:=h
 obtain⟨l,hl⟩:=zs2 els he
 obtain⟨t,e2⟩:=zhl h2
 obtain⟨y,e3⟩:=zcr h3
 refine⟨⟨l,t,y⟩,?_⟩
 rw[wkA]
 simp only[zc6,e2,e3]
 simp[wkR,wkA,hl]
end Go.Ab
section
namespace Go.Proofs.YtjeddlbpajjjmaaGreatDoor
open Go Go.Ab Go.ChangeShapes Go.WideShapes Go.ChangeAt Go.RowKit
theorem Tryz.own:ownKnob Tryz.prog.godebug=none:=by kernel_rfl
theorem Tryz.laidOut:laidOutB Tryz.prog=true:=by kernel_rfl
theorem Tryz.mixed:Tryz.prog.follows .mixedOrders=true:=by kernel_rfl
theorem Tryz.rowed:mapsRowed Tryz.prog=true:=by kernel_rfl
theorem Tryz.heard:Tryz.prog.stopsHeard=true:=by kernel_rfl
theorem Tryz.enters:Tryz.prog.mayEnter=true:=by kernel_rfl
theorem Tryz.keys:Tryz.prog.plainKeys=Rows.spanStatesRow.plainKeys:=by kernel_rfl
theorem Tryz.lifts:Tryz.prog.liftsFinal=Rows.spanStatesRow.lifted:=by kernel_rfl
theorem Tryz.makes:Tryz.prog.make=some Rows.spanStatesRow.make:=by kernel_rfl
def laid2:List (String×DataW Unit):=[("unicode/utf8.acceptRanges",Rows.laid_unicode_utf8_acceptRanges),("unicode/utf8.first",Rows.laid_unicode_utf8_first)]
noncomputable def laidWorld(os:Os):World:=
 let put (h:Array Obj) (g:Nat) (cs:Array Value):Array Obj:=h.modify g fun
  | .cells _ t frozen=>.cells cs t frozen
  | o=>o
 let w0:=World.holding Tryz.prog os ⟨#[],#[],[]⟩
 let h1:=put w0.heap 1 (Lib.firstTab.map fun z=>Value.int .u8 z).toArray
 let h2:=put h1 2 ((List.range 16).flatMap fun i=>[Value.int .u8 (Lib.accLo i),Value.int .u8 (Lib.accHi i)]).toArray
 { w0 with heap:=h2 }
theorem laid_met(os:Os)(args:Array Value):laidMetH Tryz.prog laid2 ((laidWorld os).forCall (fun _ _=>0) ⟨#[],args,[]⟩).memory:=
 laidMetH_of_parts3 (fuel:=8) (laidMet_of_run' 8 (by kernel_rfl) (by kernel_rfl)) (by kernel_rfl) (by kernel_rfl)
theorem laid_shaped(os:Os):(laidWorld os).Shaped Tryz.prog:=World.shaped_of_RefB (by kernel_rfl) (by kernel_rfl)
theorem tab_all:TOk Tryz.prog nu (fun u=>lTab.lookup u):=lTab_ok (text_ok Tryz.mixed) (join_ok) (sign_ok)
end Go.Proofs.YtjeddlbpajjjmaaGreatDoor
end
namespace Go.Ab
theorem zuk(l:List Fz)(x:Fz):sumF (l++[x])=sumF l+fv x:=by simp[sumF]
theorem zl3(l:List Fz){i:Nat}(h:i<l.length):sumF (l.take (i+1))=sumF (l.take i)+fv (l[i]'h):=by
 rw[List.take_succ_eq_append_getElem h,zuk]
theorem zj8{l:List Fz}{B:Nat}(hw:∀x∈l,fsz x≤B)(hB:1≤B):∀i,i≤l.length→sz (sumF (l.take i))≤i*(B+1)+1
 | 0,_=>by
  have:sumF (l.take 0)=0:=rfl
  rw[this,zh3];omega
 | i+1,hi=>by
  have ih:=zj8 hw hB i (by omega)
  rw[zl3 l hi]
  have h1:=zja (sumF (l.take i)) (fv (l[i]'hi))
  have h3:=zbs (hw _ (List.getElem_mem hi)) hB
  rw[Nat.add_mul]
  omega
theorem z0t{x:Fz}(h:numF x=true):fsz x≤6:=by
 unfold numF at h
 simp only[Bool.and_eq_true,decide_eq_true_eq]at h
 obtain⟨h1,h2⟩:=h
 unfold rightF at h1
 have e:x=fz (fv x):=by simpa using h1
 rw[e]at h2 ⊢
 have:=zj7 (q:=fv x) (b:=190) h2
 rw[za0]
 omega
section
variable{T:Tbl}[CLimb T][CNat T][CProd T][CTwos T][CQuot T][CQuotD T][CWhole T][CCommon T][CFrac T][CFrac3 T][CFrac5 T][CPow T][CTape T][CGauge T][CEval T][CRun T][CIfc T][CScheme T]
def stSu(l:List Fz)(i:Nat):St:=⟨[(2,.ptr (.loc 2) 1 3 0 0),(3,.ptr (.loc 3) 2 3 0 0),(7,.sl (rowF l) .an),(8,.i .i64 l.length),(9,.i .i64 i)],
 [(.loc 2,⟨1,.str,3,[nocell]⟩),(.loc 3,⟨2,.str,3,[celF (fz (sumF (l.take i)))]⟩)],4⟩
theorem zxa(l:List Fz){B:Nat}(hw:∀x∈l,fsz x≤B)(hB:1≤B)(hS:l.length*(B+1)+1≤1000) :
  loopN T 0 0 (.norm false [2,3]) l562_0 (stSu l 0)=some (.n,⟨[(2,.ptr (.loc 2) 1 3 0 0),(3,.ptr (.loc 3) 2 3 0 0)],[(.loc 2,⟨1,.str,3,[nocell]⟩),(.loc 3,⟨2,.str,3,[celF (fz (sumF l))]⟩)],4⟩):=by
 refine zaq (stSu l) l.length _ (fun i hi=>?_) ?_
 ·have hlen:l.length*1≤1000:=Nat.le_trans (Nat.mul_le_mul_left _ (show 1≤B+1 by omega)) (by omega)
  have hBB:B+1≤1000:=Nat.le_trans (Nat.le_mul_of_pos_left _ (show 0<l.length by omega)) (by omega)
  have hga:l[i]? = some (l[i]'hi):=List.getElem?_eq_getElem hi
  have hws:=za9 hi (by omega)
  have ha1:=hw _ (List.getElem_mem hi)
  have s1:=zj8 hw hB i (by omega)
  have s2:i*(B+1)≤l.length*(B+1):=Nat.mul_le_mul_right _ (by omega)
  have c2:=zff (T:=T) (fz (sumF (l.take i))) (l[i]'hi) (by rw[za0];omega) (by omega)
  rw[zbo,←zl3 l hi]at c2
  unfold stSu
  generalize fz (sumF (l.take i))=z at *
  generalize fz (sumF (l.take (i+1)))=z' at *
  clear s1 s2 hBB hw hS
  simp -implicitDefEqProofs[l562_0,hi,hga,hws,c2]
 ·unfold stSu
  rw[List.take_of_length_le (Nat.le_refl _)]
  constructor<;>simp -implicitDefEqProofs[l562_0]
theorem zf5(l:List Fz){B:Nat}(hw:∀x∈l,fsz x≤B)(hB:1≤B)(hS:l.length*(B+1)+1≤1000) :
  callF T 562 [.sl (rowF l) .an]=some (efz (fz (sumF l))):=by
 have h0:=zgp (T:=T)
 have h:=zxa (T:=T) l hw hB hS
 unfold stSu at h
 have e0:sumF (l.take 0)=0:=rfl
 rw[e0]at h
 simp only[Int.natCast_zero]at h
 rw[f562 _ rfl,b562]
 generalize fz (sumF l)=q at *
 generalize fz 0=z at *
 clear hS hw
 simp -implicitDefEqProofs[h0,h]
def stNu0(m:List (List Fz))(r:List Fz)(j i:Nat):St:=⟨[(7,.sl (matF m) .an),(8,.i .i64 m.length),(9,.i .i64 j),(13,.sl (rowF r) .an),(14,.i .i64 r.length),(15,.i .i64 i)],[],2⟩
theorem zul(m:List (List Fz))(r:List Fz)(j:Nat)(hl:r.length≤1000)(hw:∀x∈r,fsz x≤1000) :
  loopN T 0 2 (.norm false [7,8,9]) l560_0 (stNu0 m r j 0)=if (r.drop 0).all numF=true then some (.n,⟨[(7,.sl (matF m) .an),(8,.i .i64 m.length),(9,.i .i64 j)],[],2⟩) else some (.r,⟨[(2,.b false)],[],2⟩):=by
 refine zan (stNu0 m r j) r.length (fun i=>if (r.drop i).all numF=true then some (.n,⟨[(7,.sl (matF m) .an),(8,.i .i64 m.length),(9,.i .i64 j)],[],2⟩) else some (.r,⟨[(2,.b false)],[],2⟩)) (fun i hi=>?_) ?_
 ·have hga:r[i]? = some (r[i]'hi):=List.getElem?_eq_getElem hi
  have hws:=za9 hi (by omega)
  have hx:=hw _ (List.getElem_mem hi)
  have c1:=zf1 (T:=T) (r[i]'hi) (by omega)
  have c2:=ziu (T:=T) (r[i]'hi) (by omega)
  have key:(r.drop i).all numF=(numF (r[i]'hi)&&(r.drop (i+1)).all numF):=by rw[List.drop_eq_getElem_cons hi,List.all_cons]
  have hn:numF (r[i]'hi)=(rightF (r[i]'hi)&&decide (sizF (r[i]'hi)≤190)):=rfl
  by_cases h1:rightF (r[i]'hi)=true
  ·by_cases h2:sizF (r[i]'hi)≤190
   ·left
    refine⟨?_,by simp only[key,hn,h1,h2,decide_true,Bool.and_self,Bool.true_and]⟩
    have h3:¬ (190:Int)<sizF (r[i]'hi):=by omega
    have h4:¬ 190<sizF (r[i]'hi):=by omega
    unfold stNu0
    simp -implicitDefEqProofs[l560_0,hi,hga,hws,c1,c2,h1,h3,h4]
   ·right
    have h3:(190:Int)<sizF (r[i]'hi):=by omega
    have h4:190<sizF (r[i]'hi):=by omega
    rw[if_neg (by simp[key,hn,h2])]
    unfold stNu0
    constructor<;>simp -implicitDefEqProofs[l560_0,hi,hga,hws,c1,c2,h1,h3,h4]
  ·right
   have h1':rightF (r[i]'hi)=false:=by simpa using h1
   rw[if_neg (by simp[key,hn,h1'])]
   unfold stNu0
   constructor<;>simp -implicitDefEqProofs[l560_0,hi,hga,hws,c1,h1']
 ·simp only[List.drop_length,List.all_nil,if_true]
  unfold stNu0
  constructor<;>simp -implicitDefEqProofs[l560_0]
def stNu1(m:List (List Fz))(i:Nat):St:=⟨[(7,.sl (matF m) .an),(8,.i .i64 m.length),(9,.i .i64 i)],[],2⟩
theorem zum(m:List (List Fz))(hl:m.length≤1000)(hw:∀r∈m,r.length≤1000∧∀x∈r,fsz x≤1000) :
  loopN T 0 0 (.norm false []) l560_1 (stNu1 m 0)=if numM (m.drop 0)=true then some (.n,⟨[],[],2⟩) else some (.r,⟨[(2,.b false)],[],2⟩):=by
 refine zan (stNu1 m) m.length (fun i=>if numM (m.drop i)=true then some (.n,⟨[],[],2⟩) else some (.r,⟨[(2,.b false)],[],2⟩)) (fun i hi=>?_) ?_
 ·have hga:m[i]? = some (m[i]'hi):=List.getElem?_eq_getElem hi
  have hws:=za9 hi (by omega)
  obtain⟨h1,h2⟩:=hw _ (List.getElem_mem hi)
  have h:=zul (T:=T) m (m[i]'hi) i h1 h2
  have key:numM (m.drop i)=((m[i]'hi).all numF&&numM (m.drop (i+1))):=by unfold numM;rw[List.drop_eq_getElem_cons hi,List.all_cons]
  unfold stNu0 at h
  rw[List.drop_zero]at h
  simp only[Int.natCast_zero]at h
  by_cases hr:(m[i]'hi).all numF=true
  ·left
   rw[if_pos hr]at h
   refine⟨?_,by simp only[key,hr,Bool.true_and]⟩
   unfold stNu1
   simp -implicitDefEqProofs[l560_1,hi,hga,hws,h]
  ·right
   rw[if_neg hr]at h
   rw[if_neg (by simp only[key,Bool.and_eq_true];exact fun h=>hr h.1)]
   unfold stNu1
   constructor<;>simp -implicitDefEqProofs[l560_1,hi,hga,hws,h]
 ·have e:numM []=true:=rfl
  simp only[List.drop_length,e,if_true]
  unfold stNu1
  constructor<;>simp -implicitDefEqProofs[l560_1]
theorem zeo(m:List (List Fz))(hl:m.length≤1000)(hw:∀r∈m,r.length≤1000∧∀x∈r,fsz x≤1000):callF T 560 [.sl (matF m) .an]=some (.b (numM m)):=by
 have h:=zum (T:=T) m hl hw
 unfold stNu1 at h
 rw[List.drop_zero]at h
 simp only[Int.natCast_zero]at h
 rw[f560 _ rfl,b560]
 cases hn:numM m with
 | true=>rw[hn]at h;simp at h;simp -implicitDefEqProofs[h]
 | false=>rw[hn]at h;simp at h;simp -implicitDefEqProofs[h]
def stShp(a:List (List Fz))(i:Nat):St:=⟨[(43,.sl (matF a) .an),(44,.i .i64 a.length),(45,.i .i64 i)],[],2⟩
theorem zqr(a:List (List Fz))(hl:a.length≤1000) :
  loopN T 0 0 (.norm false []) l559_0 (stShp a 0)=if shapeL (a.drop 0) 0=true then some (.n,⟨[],[],2⟩) else some (.r,⟨[(2,.b false)],[],2⟩):=by
 refine zan (stShp a) a.length (fun i=>if shapeL (a.drop i) i=true then some (.n,⟨[],[],2⟩) else some (.r,⟨[(2,.b false)],[],2⟩)) (fun i hi=>?_) ?_
 ·have hga:a[i]? = some (a[i]'hi):=List.getElem?_eq_getElem hi
  have hws:=za9 hi (by omega)
  have key:shapeL (a.drop i) i=(decide ((a[i]'hi).length=i)&&shapeL (a.drop (i+1)) (i+1)):=by rw[List.drop_eq_getElem_cons hi,shapeL]
  by_cases hr:(a[i]'hi).length=i
  ·left
   refine⟨?_,by simp only[key,hr,decide_true,Bool.true_and]⟩
   have hr':((a[i]'hi).length:Int)=i:=by omega
   unfold stShp
   simp -implicitDefEqProofs[l559_0,hi,hga,hws,hr,hr']
  ·right
   have hr':¬ ((a[i]'hi).length:Int)=i:=by omega
   rw[if_neg (by simp[key,hr])]
   unfold stShp
   constructor<;>simp -implicitDefEqProofs[l559_0,hi,hga,hws,hr,hr']
 ·have e:shapeL [] a.length=true:=rfl
  simp only[List.drop_length,e,if_true]
  unfold stShp
  constructor<;>simp -implicitDefEqProofs[l559_0]
theorem zl4(s:Sm)(hs:SmS s):callF T 559 [esm s]=some (.b (shapeS s)):=by
 have h:=zqr (T:=T) s.a hs.al
 unfold stShp at h
 rw[List.drop_zero]at h
 simp only[Int.natCast_zero]at h
 have l1:=hs.bl;have l2:=hs.cl;have l3:=hs.al;have l4:=hs.el
 clear hs
 rw[f559 _ rfl,b559]
 unfold shapeS
 obtain⟨nm,c,a,b,e⟩:=s
 dsimp only at *
 by_cases p1:b.length<1
 ·have q1:¬ 1≤b.length:=by omega
  have q2:b=[]:=List.length_eq_zero_iff.1 (by omega)
  subst q2
  simp -implicitDefEqProofs[]
 have p1':1≤b.length:=by omega
 have m1:(1:Int)≤b.length:=by omega
 have m2:¬ (b.length:Int)<1:=by omega
 by_cases p2:8<b.length
 ·have q2:¬ b.length≤8:=by omega
  have m3:(8:Int)<b.length:=by omega
  have m4:¬ (b.length:Int)≤8:=by omega
  simp -implicitDefEqProofs[p1,p1',p2,q2,m1,m2,m3,m4]
 have p2':b.length≤8:=by omega
 have m3:¬ (8:Int)<b.length:=by omega
 have m4:(b.length:Int)≤8:=by omega
 by_cases p3:c.length=b.length
 rotate_left
 ·have q3:¬ (c.length:Int)=b.length:=by omega
  simp -implicitDefEqProofs[p1,p1',p2,p2',m1,m2,m3,m4,p3,q3]
 have q3:(c.length:Int)=b.length:=by omega
 by_cases p4:a.length=b.length
 rotate_left
 ·have q4:¬ (a.length:Int)=b.length:=by omega
  simp -implicitDefEqProofs[p1,p1',p2,p2',m1,m2,m3,m4,p3,q3,p4,q4]
 have q4:(a.length:Int)=b.length:=by omega
 rw[p4]at h
 by_cases p5:e.length=b.length
 ·have q5:(e.length:Int)=b.length:=by omega
  cases hsh:shapeL a 0<;>rw[hsh]at h<;>simp at h<;>simp -implicitDefEqProofs[p1,p1',p2,p2',m1,m2,m3,m4,p3,q3,p4,q4,p5,q5,h]
 have q5:¬ (e.length:Int)=b.length:=by omega
 by_cases p6:e.length=0
 ·have e0:e=[]:=List.length_eq_zero_iff.1 p6
  have q7:¬ (0:Int)=b.length:=by omega
  have q8:¬ 0=b.length:=by omega
  subst e0
  cases hsh:shapeL a 0<;>rw[hsh]at h<;>simp at h<;>simp -implicitDefEqProofs[p1,p1',p2,p2',m1,m2,m3,m4,p3,q3,p4,q4,q7,q8,h]
 ·have q6:¬ (e.length:Int)=0:=by omega
  have q7:¬ e=[]:=fun h=>p6 (by rw[h];rfl)
  simp -implicitDefEqProofs[p1,p1',p2,p2',m1,m2,m3,m4,p3,q3,p4,q4,p5,q5,p6,q6,q7]
def bxS(s:Sm):Box:=⟨1,.str,5,[[.s s.nm,.sl (rowF s.c) .an,.sl (matF s.a) .an,.sl (rowF s.b) .an,.sl (rowF s.e) .an]]⟩
def stRw(s:Sm)(i:Nat):St:=⟨[(1,.ptr (.loc 1) 1 5 0 0),(6,.sl (matF s.a) .an),(7,.i .i64 s.a.length),(8,.i .i64 i)],[(.loc 1,bxS s)],3⟩
theorem zun(s:Sm)(hl:s.a.length≤8)(hc:s.c.length=s.a.length)(h1:∀r∈s.a,r.length≤8∧∀x∈r,fsz x≤6)(h2:∀x∈s.c,fsz x≤6) :
  loopN T 0 0 (.norm false []) l561_0 (stRw s 0)=if rowsSm (s.a.drop 0) (s.c.drop 0)=true then some (.n,⟨[],[],2⟩) else some (.r,⟨[(2,.b false)],[],2⟩):=by
 refine zan (stRw s) s.a.length (fun i=>if rowsSm (s.a.drop i) (s.c.drop i)=true then some (.n,⟨[],[],2⟩) else some (.r,⟨[(2,.b false)],[],2⟩)) (fun i hi=>?_) ?_
 ·have hga:s.a[i]? = some (s.a[i]'hi):=List.getElem?_eq_getElem hi
  have hic:i<s.c.length:=by omega
  have hgc:s.c[i]? = some (s.c[i]'hic):=List.getElem?_eq_getElem hic
  have hws:=za9 hi (by omega)
  obtain⟨g1,g2⟩:=h1 _ (List.getElem_mem hi)
  have g3:=h2 _ (List.getElem_mem hic)
  have c1:=zf5 (T:=T) (s.a[i]'hi) g2 (by decide) (by omega)
  have z1:=zj8 g2 (by decide) (s.a[i]'hi).length (Nat.le_refl _)
  rw[List.take_of_length_le (Nat.le_refl _)]at z1
  have c2:=zcs (T:=T) (fz (sumF (s.a[i]'hi))) (s.c[i]'hic) (by rw[za0];omega) (by omega)
  rw[zbo]at c2
  have key:rowsSm (s.a.drop i) (s.c.drop i)=(decide (sumF (s.a[i]'hi)=fv (s.c[i]'hic))&&rowsSm (s.a.drop (i+1)) (s.c.drop (i+1))):=by
   unfold rowsSm
   rw[List.drop_eq_getElem_cons hi,List.drop_eq_getElem_cons hic,List.zip_cons_cons,List.all_cons]
  have hic':(i:Int)<s.c.length:=by omega
  generalize fz (sumF (s.a[i]'hi))=z at *
  clear z1 g1 g2 g3 h1 h2
  by_cases he:sumF (s.a[i]'hi)=fv (s.c[i]'hic)
  ·left
   refine⟨?_,by simp only[key,he,decide_true,Bool.true_and]⟩
   unfold stRw bxS
   simp -implicitDefEqProofs[l561_0,hi,hga,hgc,hws,c1,c2,he,hic,hic']
  ·right
   rw[if_neg (by simp[key,he])]
   unfold stRw bxS
   constructor<;>simp -implicitDefEqProofs[l561_0,hi,hga,hgc,hws,c1,c2,he,hic,hic']
 ·have e:rowsSm [] (s.c.drop s.a.length)=true:=rfl
  simp only[List.drop_length,e,if_true]
  unfold stRw bxS
  constructor<;>simp -implicitDefEqProofs[l561_0]
theorem znk(s:Sm)(hl:s.a.length≤8)(hc:s.c.length=s.a.length)(h1:∀r∈s.a,r.length≤8∧∀x∈r,fsz x≤6)(h2:∀x∈s.c,fsz x≤6):callF T 561 [esm s]=some (.b (rowsSm s.a s.c)):=by
 have h:=zun (T:=T) s hl hc h1 h2
 unfold stRw bxS at h
 rw[List.drop_zero,List.drop_zero]at h
 simp only[Int.natCast_zero]at h
 rw[f561 _ rfl,b561]
 clear h1 h2 hl hc
 obtain⟨nm,c,a,b,e⟩:=s
 dsimp only at *
 cases hr:rowsSm a c<;>rw[hr]at h<;>simp at h<;>simp -implicitDefEqProofs[h]
theorem ziz:∀(a:List (List Fz)) (i:Nat),shapeL a i=true→∀r∈a,r.length≤i+a.length
 | [],_,_,r,hr=>by cases hr
 | x::a,i,h,r,hr=>by
  simp only[shapeL,Bool.and_eq_true,decide_eq_true_eq]at h
  rcases List.mem_cons.1 hr with rfl | hr
  ·rw[h.1,List.length_cons];omega
  ·have:=ziz a (i+1) h.2 r hr
   rw[List.length_cons];omega
theorem zqs{s:Sm}(h:shapeS s=true):1≤s.b.length∧s.b.length≤8∧s.c.length=s.b.length∧s.a.length=s.b.length∧(s.e.length=s.b.length∨s.e.length=0)∧shapeL s.a 0=true:=by
 unfold shapeS at h
 simp only[Bool.and_eq_true,Bool.or_eq_true,decide_eq_true_eq]at h
 obtain⟨⟨⟨⟨⟨h1,h2⟩,h3⟩,h4⟩,h5⟩,h6⟩:=h
 exact⟨h1,h2,h3,h4,h5,h6⟩
theorem zow{m:List (List Fz)}(h:numM m=true):∀r∈m,∀x∈r,fsz x≤6:=by
 intro r hr x hx
 unfold numM at h
 rw[List.all_eq_true]at h
 have:=h r hr
 rw[List.all_eq_true]at this
 exact z0t (this x hx)
theorem zox{l:List Fz}(hl:l.length≤8)(hw:∀x∈l,fsz x≤6):sz (sumF l)≤57:=by
 have:=zj8 hw (by decide) l.length (Nat.le_refl _)
 rw[List.take_of_length_le (Nat.le_refl _)]at this
 omega
end
section
variable{T:Tbl}[CLimb T][CNat T][CProd T][CTwos T][CQuot T][CQuotD T][CWhole T][CCommon T][CFrac T][CFrac3 T][CFrac5 T][CPow T][CTape T][CGauge T][CEval T][CRun T][CIfc T][CJoin T][CLex T][CScheme T]
theorem zl5(s:Sm)(hs:SmS s):callF T 551 [esm s]=some (.i .i64 (wrongS s)):=by
 have o1:=zju (T:=T)
 have c1:=ztm (T:=T) 2 0 s.nm (Nat.le_trans hs.nm (by decide))
 have c2:=zl4 (T:=T) s hs
 have c3:=zeo (T:=T) s.a hs.al (fun r hr=>⟨(hs.a r hr).1,fun x hx=>Nat.le_trans ((hs.a r hr).2 x hx) (by decide)⟩)
 have c4:=zeo (T:=T) [s.b,s.c,s.e] (by simp) (fun r hr=>by
  simp only[List.mem_cons,List.not_mem_nil,or_false]at hr
  rcases hr with rfl | rfl | rfl
  ·exact⟨hs.bl,fun x hx=>Nat.le_trans (hs.b x hx) (by decide)⟩
  ·exact⟨hs.cl,fun x hx=>Nat.le_trans (hs.c x hx) (by decide)⟩
  ·exact⟨hs.el,fun x hx=>Nat.le_trans (hs.e x hx) (by decide)⟩)
 replace c4:callF T 560 [.sl [[.sl (rowF s.b) .an],[.sl (rowF s.c) .an],[.sl (rowF s.e) .an]] .an]=some (.b (numM [s.b,s.c,s.e])):=c4
 have k5:=znk (T:=T) s
 have k6:=fun(hl:s.b.length≤8) (h:∀x∈s.b,fsz x≤6)=>zf5 (T:=T) s.b h (by decide) (by omega)
 have k7:=fun(hl:s.e.length≤8) (h:∀x∈s.e,fsz x≤6)=>zf5 (T:=T) s.e h (by decide) (by omega)
 rw[f551 _ rfl,b551]
 unfold wrongS
 cases g1:rightB 2 s.nm with
 | false=>
  rw[g1]at c1
  obtain⟨nm,c,a,b,e⟩:=s
  generalize fz 1=z1 at *
  dsimp only at *
  simp -implicitDefEqProofs[o1,c1]
 | true=>
 rw[g1]at c1
 cases g2:shapeS s with
 | false=>
  rw[g2]at c2
  obtain⟨nm,c,a,b,e⟩:=s
  generalize fz 1=z1 at *
  dsimp only at *
  simp -implicitDefEqProofs[o1,c1,c2]
 | true=>
 rw[g2]at c2
 obtain⟨s1,s2,s3,s4,s5,s6⟩:=zqs g2
 cases g3:numM s.a with
 | false=>
  rw[g3]at c3
  obtain⟨nm,c,a,b,e⟩:=s
  generalize fz 1=z1 at *
  dsimp only at *
  simp -implicitDefEqProofs[o1,c1,c2,c3]
 | true=>
 rw[g3]at c3
 cases g4:numM [s.b,s.c,s.e]with
 | false=>
  rw[g4]at c4
  obtain⟨nm,c,a,b,e⟩:=s
  generalize fz 1=z1 at *
  dsimp only at *
  simp -implicitDefEqProofs[o1,c1,c2,c3,c4]
 | true=>
 rw[g4]at c4
 have n1:=zow g3
 have n2:=zow g4
 have nb:=n2 s.b (by simp)
 have nc:=n2 s.c (by simp)
 have ne:=n2 s.e (by simp)
 have c5:=k5 (by omega) (by omega) (fun r hr=>⟨by have:=ziz _ _ s6 r hr;omega,n1 r hr⟩) nc
 have c6:=k6 (by omega) nb
 have c7:=k7 (by omega) ne
 have z6:=zox (l:=s.b) (by omega) nb
 have z7:=zox (l:=s.e) (by omega) ne
 have d6:=zcs (T:=T) (fz (sumF s.b)) (fz 1) (by rw[za0];omega) (by rw[za0,zi9];omega)
 have d7:=zcs (T:=T) (fz (sumF s.e)) (fz 1) (by rw[za0];omega) (by rw[za0,zi9];omega)
 rw[zbo,zbo]at d6 d7
 clear k5 k6 k7 n1 n2 nb nc ne z6 z7 s1 s2 s3 s4 s5 s6
 cases g5:rowsSm s.a s.c with
 | false=>
  rw[g5]at c5
  obtain⟨nm,c,a,b,e⟩:=s
  generalize fz 1=z1 at *
  dsimp only at *
  simp -implicitDefEqProofs[o1,c1,c2,c3,c4,c5]
 | true=>
 rw[g5]at c5
 obtain⟨nm,c,a,b,e⟩:=s
 dsimp only at *
 generalize fz (sumF b)=zb at *
 generalize fz (sumF e)=ze at *
 generalize fz 1=z1 at *
 by_cases g6:sumF b=1
 ·by_cases g7:e=[]
  ·subst g7
   replace c2:callF T 559 [.agg [.s nm,.sl (rowF c) .an,.sl (matF a) .an,.sl (rowF b) .an,.sl [] .an]]=_:=c2
   replace c4:callF T 560 [.sl [[.sl (rowF b) .an],[.sl (rowF c) .an],[.sl [] .an]] .an]=_:=c4
   replace c5:callF T 561 [.agg [.s nm,.sl (rowF c) .an,.sl (matF a) .an,.sl (rowF b) .an,.sl [] .an]]=_:=c5
   simp -implicitDefEqProofs[o1,c1,c2,c3,c4,c5,c6,d6,g6]
  ·have l7:0<e.length:=List.length_pos_iff.2 g7
   have l7':(0:Int)<e.length:=by omega
   by_cases g8:sumF e=1
   ·simp -implicitDefEqProofs[o1,c1,c2,c3,c4,c5,c6,d6,g6,c7,d7,g7,g8,l7,l7']
   ·simp -implicitDefEqProofs[o1,c1,c2,c3,c4,c5,c6,d6,g6,c7,d7,g7,g8,l7,l7']
 ·simp -implicitDefEqProofs[o1,c1,c2,c3,c4,c5,c6,d6,g6]
theorem zl6(s:Sm)(hs:SmS s):callF T 536 [esm s]=some (.b (okS s)):=by
 have h:=zl5 (T:=T) s hs
 rw[f536 _ rfl,b536]
 unfold okS
 generalize wrongS s=w at *
 obtain⟨nm,c,a,b,e⟩:=s
 by_cases hw:w=0
 ·subst hw
  simp -implicitDefEqProofs[h]
 ·simp -implicitDefEqProofs[h,hw]
end
structure PbS (q:Pb):Prop where
 t:TpS q.t
 s:SmS q.s
 p:∀x∈q.p,fsz x≤1000
 pl:q.p.length≤1000
def slopeP(p:Pb)(t:Fz)(y:List Fz):List Rat×Nat×Nat:=fieldR (limN p.bits) p.t ⟨fv t,y.map fv,p.p.map fv⟩
section
variable{T:Tbl}[CLimb T][CNat T][CProd T][CTwos T][CQuot T][CQuotD T][CWhole T][CCommon T][CFrac T][CFrac3 T][CFrac5 T][CPow T][CTape T][CGauge T][CEval T][CRun T][CIfc T][CJoin T][CLex T][CScheme T][CStep T]
theorem zdb(p:Pb)(hp:PbS p):callF T 524 [epb p]=some (.b (okP p)):=by
 have c1:=zdc (T:=T) p.t hp.t.small
 have c2:=zl6 (T:=T) p.s hp.s
 unfold okP
 rw[f524 _ rfl,b524]
 clear hp
 generalize okT p.t=A at *
 generalize okS p.s=B at *
 obtain⟨⟨code,outs,dim,par⟩,⟨nm,c,a,b,e⟩,pp,bits⟩:=p
 dsimp only at *
 cases A with
 | false=>simp -implicitDefEqProofs[c1]
 | true=>
 cases B with
 | false=>simp -implicitDefEqProofs[c1,c2]
 | true=>
  by_cases h:(pp.length:Int)=par
  ·simp -implicitDefEqProofs[c1,c2,h]
  ·simp -implicitDefEqProofs[c1,c2,h]
theorem z0y(p:Pb)(t:Fz)(y:List Fz):callF T 563 [epb p,efz t,.sl (rowF y) .an]=some (ept ⟨t,y,p.p⟩):=by
 rw[f563 _ rfl,b563]
 obtain⟨⟨code,outs,dim,par⟩,⟨nm,c,a,b,e⟩,pp,bits⟩:=p
 obtain⟨t1,t2,t3⟩:=t
 simp -implicitDefEqProofs[]
theorem zhy(p:Pb)(t:Fz)(y:List Fz)(hp:PbS p)(ht:fsz t≤1000)(hy:∀x∈y,fsz x≤1000)(hl:y.length≤1000) :
  callF T 577 [epb p,efz t,.sl (rowF y) .an]=some (if okP p=true then .tup [.sl (rowF (fzs (slopeP p t y).1)) .an,fltA (slopeP p t y).2.1 0 0 (slopeP p t y).2.2] else .tup [.sl [] .an,fltA 2 0 0 0]):=by
 have c1:=zdb (T:=T) p hp
 have c2:=z0y (T:=T) p t y
 have c3:=zuj (T:=T) p.t ⟨t,y,p.p⟩ p.bits hp.t ⟨ht,hy,hp.p,hl,hp.pl⟩
 have e:(⟨t,y,p.p⟩:PoF).v=⟨fv t,y.map fv,p.p.map fv⟩:=rfl
 rw[e]at c3
 unfold slopeP
 generalize fieldR (limN p.bits) p.t ⟨fv t,y.map fv,p.p.map fv⟩=R at *
 rw[f577 _ rfl,b577]
 clear hp ht hy hl e
 generalize okP p=B at *
 obtain⟨R1,R2,R3⟩:=R
 obtain⟨⟨code,outs,dim,par⟩,⟨nm,c,a,b,e⟩,pp,bits⟩:=p
 obtain⟨t1,t2,t3⟩:=t
 dsimp only at *
 have hRR:wkL (rowF (fzs R1))=rowF (fzs R1):=zbi _
 generalize rowF (fzs R1)=RR at *
 cases B with
 | false=>simp -implicitDefEqProofs[c1]
 | true=>simp -implicitDefEqProofs[c1,c2,c3,hRR]
end
theorem z0e(l:List Fz):scl 1 l=nrm l:=by
 unfold scl nrm
 refine List.map_congr_left fun x _=>?_
 rw[Rat.one_mul]
section
variable{T:Tbl}[CLimb T][CNat T][CProd T][CTwos T][CQuot T][CQuotD T][CWhole T][CCommon T][CFrac T][CFrac3 T][CFrac5 T][CPow T][CTape T][CGauge T][CEval T][CRun T][CIfc T][CDigits T][CText T][CJoin T][CRow T][CPast T]
theorem zew(l:List Fz)(hl:l.length≤1000)(hw:∀x∈l,fsz x≤1000):callF T 533 [.sl (rowF l) .an]=some (.sl (rowF (nrm l)) .an):=by
 have h0:=zju (T:=T)
 have h:=zt8 (T:=T) (fz 1) (by decide +kernel) l hl hw
 rw[zbo,z0e]at h
 rw[f533 _ rfl,b533]
 generalize fz 1=z at *
 simp -implicitDefEqProofs[h0,h]
theorem zgh(r:Tr):callF T 549 [.agg (celR r)]=some (.sl (rowF r.nums) .an):=by
 have e:rowF r.nums=[celF r.t,celF r.w,celF r.h,celF r.e]:=rfl
 rw[f549 _ rfl,b549,e]
 obtain⟨t,w,h,e,y,ok⟩:=r
 simp -implicitDefEqProofs[]
def stRi0(m:List (List Fz))(r:List Fz)(j i:Nat):St:=⟨[(7,.sl (matF m) .an),(8,.i .i64 m.length),(9,.i .i64 j),(13,.sl (rowF r) .an),(14,.i .i64 r.length),(15,.i .i64 i)],[],2⟩
theorem zlt(m:List (List Fz))(r:List Fz)(j:Nat)(hl:r.length≤1000)(hw:∀x∈r,fsz x≤1000) :
  loopN T 0 2 (.norm false [7,8,9]) l584_0 (stRi0 m r j 0)=if rightsB (r.drop 0)=true then some (.n,⟨[(7,.sl (matF m) .an),(8,.i .i64 m.length),(9,.i .i64 j)],[],2⟩) else some (.r,⟨[(2,.b false)],[],2⟩):=by
 refine zan (stRi0 m r j) r.length (fun i=>if rightsB (r.drop i)=true then some (.n,⟨[(7,.sl (matF m) .an),(8,.i .i64 m.length),(9,.i .i64 j)],[],2⟩) else some (.r,⟨[(2,.b false)],[],2⟩)) (fun i hi=>?_) ?_
 ·have hga:r[i]? = some (r[i]'hi):=List.getElem?_eq_getElem hi
  have hws:=za9 hi (by omega)
  have hx:=hw _ (List.getElem_mem hi)
  have c1:=zf1 (T:=T) (r[i]'hi) (by omega)
  have key:rightsB (r.drop i)=(rightF (r[i]'hi)&&rightsB (r.drop (i+1))):=by unfold rightsB;rw[List.drop_eq_getElem_cons hi,List.all_cons]
  by_cases h1:rightF (r[i]'hi)=true
  ·left
   refine⟨?_,by simp only[key,h1,Bool.true_and]⟩
   unfold stRi0
   simp -implicitDefEqProofs[l584_0,hi,hga,hws,c1,h1]
  ·right
   have h1':rightF (r[i]'hi)=false:=by simpa using h1
   rw[if_neg (by simp[key,h1'])]
   unfold stRi0
   constructor<;>simp -implicitDefEqProofs[l584_0,hi,hga,hws,c1,h1']
 ·have e:rightsB []=true:=rfl
  simp only[List.drop_length,e,if_true]
  unfold stRi0
  constructor<;>simp -implicitDefEqProofs[l584_0]
def stRi1(m:List (List Fz))(i:Nat):St:=⟨[(7,.sl (matF m) .an),(8,.i .i64 m.length),(9,.i .i64 i)],[],2⟩
theorem zhq(m:List (List Fz))(hl:m.length≤1000)(hw:∀r∈m,r.length≤1000∧∀x∈r,fsz x≤1000):callF T 584 [.sl (matF m) .an]=some (.b (m.all rightsB)):=by
 have h:loopN T 0 0 (.norm false []) l584_1 (stRi1 m 0)=if (m.drop 0).all rightsB=true then some (.n,⟨[],[],2⟩) else some (.r,⟨[(2,.b false)],[],2⟩):=by
  refine zan (stRi1 m) m.length (fun i=>if (m.drop i).all rightsB=true then some (.n,⟨[],[],2⟩) else some (.r,⟨[(2,.b false)],[],2⟩)) (fun i hi=>?_) ?_
  ·have hga:m[i]? = some (m[i]'hi):=List.getElem?_eq_getElem hi
   have hws:=za9 hi (by omega)
   obtain⟨h1,h2⟩:=hw _ (List.getElem_mem hi)
   have h:=zlt (T:=T) m (m[i]'hi) i h1 h2
   have key:(m.drop i).all rightsB=(rightsB (m[i]'hi)&&(m.drop (i+1)).all rightsB):=by rw[List.drop_eq_getElem_cons hi,List.all_cons]
   unfold stRi0 at h
   rw[List.drop_zero]at h
   simp only[Int.natCast_zero]at h
   by_cases hr:rightsB (m[i]'hi)=true
   ·left
    rw[if_pos hr]at h
    refine⟨?_,by simp only[key,hr,Bool.true_and]⟩
    unfold stRi1
    simp -implicitDefEqProofs[l584_1,hi,hga,hws,h]
   ·right
    rw[if_neg hr]at h
    rw[if_neg (by simp only[key,Bool.and_eq_true];exact fun h=>hr h.1)]
    unfold stRi1
    constructor<;>simp -implicitDefEqProofs[l584_1,hi,hga,hws,h]
  ·simp only[List.drop_length,List.all_nil,if_true]
   unfold stRi1
   constructor<;>simp -implicitDefEqProofs[l584_1]
 unfold stRi1 at h
 rw[List.drop_zero]at h
 simp only[Int.natCast_zero]at h
 rw[f584 _ rfl,b584]
 cases hn:m.all rightsB<;>rw[hn]at h<;>simp at h<;>simp -implicitDefEqProofs[h]
def bxH(h:Hs):Box:=⟨1,.str,5,[[.sl (rowTr h.l) .an,.b h.t.1,.sl (u32s h.t.2.1) .an,.sl (u32s h.t.2.2) .an,.sl (rowF h.y) .an]]⟩
def stPl(h:Hs)(i:Nat):St:=⟨[(1,.ptr (.loc 1) 1 5 0 0),(6,.sl (rowTr h.l) .an),(7,.i .i64 h.l.length),(8,.i .i64 i)],[(.loc 1,bxH h)],3⟩
theorem zqi(h:Hs)(hs:HsS h 1000):callF T 580 [ehs h]=some (.b (plainH h)):=by
 have hlen:=hs.len
 have hlp:loopN T 0 0 (.norm false [1]) l580_0 (stPl h 0)=if ((h.l.drop 0).all fun r=>rightsB r.nums&&rightsB r.y)=true then some (.n,⟨[(1,.ptr (.loc 1) 1 5 0 0)],[(.loc 1,bxH h)],3⟩) else some (.r,⟨[(2,.b false)],[],2⟩):=by
  refine zan (stPl h) h.l.length (fun i=>if ((h.l.drop i).all fun r=>rightsB r.nums&&rightsB r.y)=true then some (.n,⟨[(1,.ptr (.loc 1) 1 5 0 0)],[(.loc 1,bxH h)],3⟩) else some (.r,⟨[(2,.b false)],[],2⟩)) (fun i hi=>?_) ?_
  ·have hga:h.l[i]? = some (h.l[i]'hi):=List.getElem?_eq_getElem hi
   have hws:=za9 hi (by omega)
   have hm:=List.getElem_mem hi
   have c1:=zgh (T:=T) (h.l[i]'hi)
   have c2:=zhq (T:=T) [(h.l[i]'hi).nums,(h.l[i]'hi).y] (by simp) (fun r hr=>by
    simp only[List.mem_cons,List.not_mem_nil,or_false]at hr
    rcases hr with rfl | rfl
    ·exact⟨by simp[Tr.nums],hs.rt _ hm⟩
    ·exact⟨hs.rl _ hm,hs.ry _ hm⟩)
   have e2:([(h.l[i]'hi).nums,(h.l[i]'hi).y].all rightsB)=(rightsB (h.l[i]'hi).nums&&rightsB (h.l[i]'hi).y):=by simp
   rw[e2]at c2
   have key:((h.l.drop i).all fun r=>rightsB r.nums&&rightsB r.y)=((rightsB (h.l[i]'hi).nums&&rightsB (h.l[i]'hi).y)&&((h.l.drop (i+1)).all fun r=>rightsB r.nums&&rightsB r.y)):=by rw[List.drop_eq_getElem_cons hi,List.all_cons]
   generalize hB:(rightsB (h.l[i]'hi).nums&&rightsB (h.l[i]'hi).y)=B at *
   generalize hq:h.l[i]'hi=q at *
   replace c2:callF T 584 [.sl [[.sl (rowF q.nums) .an],[.sl (rowF q.y) .an]] .an]=some (.b B):=c2
   have hnn:wkL (rowF q.nums)=rowF q.nums:=zbi _
   generalize rowF q.nums=NN at *
   clear hs hB e2 hm
   obtain⟨L,t,y⟩:=h
   obtain⟨q1,q2,q3,q4,q5,q6⟩:=q
   dsimp only at *
   cases B with
   | true=>
    left
    refine⟨?_,by simp only[key,Bool.true_and]⟩
    unfold stPl bxH
    simp -implicitDefEqProofs[l580_0,hi,hga,hq,hws,c1,c2,hnn]
   | false=>
    right
    rw[if_neg (by simp[key])]
    unfold stPl bxH
    constructor<;>simp -implicitDefEqProofs[l580_0,hi,hga,hq,hws,c1,c2,hnn]
  ·simp only[List.drop_length,List.all_nil,if_true]
   unfold stPl bxH
   constructor<;>simp -implicitDefEqProofs[l580_0]
 have c3:=zhq (T:=T) [[h.t],h.y] (by simp) (fun r hr=>by
  simp only[List.mem_cons,List.not_mem_nil,or_false]at hr
  rcases hr with rfl | rfl
  ·exact⟨by simp,fun x hx=>by rw[List.mem_singleton.1 hx];exact hs.t⟩
  ·exact⟨hs.yl,hs.y⟩)
 have e3:([[h.t],h.y].all rightsB)=(rightF h.t&&rightsB h.y):=by simp[rightsB]
 rw[e3]at c3
 unfold stPl bxH at hlp
 rw[List.drop_zero]at hlp
 simp only[Int.natCast_zero]at hlp
 unfold plainH
 generalize (rightF h.t&&rightsB h.y)=R at *
 generalize (h.l.all fun r=>rightsB r.nums&&rightsB r.y)=A at *
 replace c3:callF T 584 [.sl [[.sl [celF h.t] .an],[.sl (rowF h.y) .an]] .an]=some (.b R):=c3
 rw[f580 _ rfl,b580]
 clear hs e3
 obtain⟨L,⟨t1,t2,t3⟩,y⟩:=h
 dsimp only at *
 cases A<;>simp at hlp<;>simp -implicitDefEqProofs[hlp,c3]
theorem zlu(h:Hs)(hl:h.l.length≤1000):callF T 581 [ehs h]=some (.b (lensH h)):=by
 have hlp:loopN T 0 0 (.norm false [1]) l581_0 (stPl h 0)=if ((h.l.drop 0).all fun r=>decide (r.y.length=h.y.length))=true then some (.n,⟨[(1,.ptr (.loc 1) 1 5 0 0)],[(.loc 1,bxH h)],3⟩) else some (.r,⟨[(2,.b false)],[],2⟩):=by
  refine zan (stPl h) h.l.length (fun i=>if ((h.l.drop i).all fun r=>decide (r.y.length=h.y.length))=true then some (.n,⟨[(1,.ptr (.loc 1) 1 5 0 0)],[(.loc 1,bxH h)],3⟩) else some (.r,⟨[(2,.b false)],[],2⟩)) (fun i hi=>?_) ?_
  ·have hga:h.l[i]? = some (h.l[i]'hi):=List.getElem?_eq_getElem hi
   have hws:=za9 hi (by omega)
   have key:((h.l.drop i).all fun r=>decide (r.y.length=h.y.length))=(decide ((h.l[i]'hi).y.length=h.y.length)&&((h.l.drop (i+1)).all fun r=>decide (r.y.length=h.y.length))):=by rw[List.drop_eq_getElem_cons hi,List.all_cons]
   generalize hq:h.l[i]'hi=q at *
   obtain⟨L,t,y⟩:=h
   obtain⟨q1,q2,q3,q4,q5,q6⟩:=q
   dsimp only at *
   by_cases he:q5.length=y.length
   ·left
    have he':(q5.length:Int)=y.length:=by omega
    refine⟨?_,by simp only[key,he,decide_true,Bool.true_and]⟩
    unfold stPl bxH
    simp -implicitDefEqProofs[l581_0,hi,hga,hq,hws,he,he']
   ·right
    have he':¬ (q5.length:Int)=y.length:=by omega
    rw[if_neg (by simp[key,he])]
    unfold stPl bxH
    constructor<;>simp -implicitDefEqProofs[l581_0,hi,hga,hq,hws,he,he']
  ·simp only[List.drop_length,List.all_nil,if_true]
   unfold stPl bxH
   constructor<;>simp -implicitDefEqProofs[l581_0]
 unfold stPl bxH at hlp
 rw[List.drop_zero]at hlp
 simp only[Int.natCast_zero]at hlp
 unfold lensH
 generalize (h.l.all fun r=>decide (r.y.length=h.y.length))=A at *
 rw[f581 _ rfl,b581]
 obtain⟨L,t,y⟩:=h
 dsimp only at *
 cases A with
 | false=>simp at hlp;simp -implicitDefEqProofs[hlp]
 | true=>
  simp at hlp
  by_cases h1:1≤y.length
  ·have h1':(1:Int)≤y.length:=by omega
   by_cases h2:y.length≤6
   ·have h2':(y.length:Int)≤6:=by omega
    simp -implicitDefEqProofs[hlp,h1,h1',h2,h2']
   ·have h2':¬ (y.length:Int)≤6:=by omega
    simp -implicitDefEqProofs[hlp,h1,h1',h2,h2']
  ·have h1':¬ (1:Int)≤y.length:=by omega
   simp -implicitDefEqProofs[hlp,h1,h1']
def stSz(l:List Tr)(i:Nat):St:=⟨[(6,.sl (rowTr l) .an),(7,.i .i64 l.length),(8,.i .i64 i)],[],2⟩
theorem zqj(h:Hs)(hs:HsS h 1000):callF T 582 [ehs h]=some (.b (sizesH h)):=by
 have hlen:=hs.len
 have hlp:loopN T 0 0 (.norm false []) l582_0 (stSz h.l 0)=if (h.l.drop 0).all sizeR=true then some (.n,⟨[],[],2⟩) else some (.r,⟨[(2,.b false)],[],2⟩):=by
  refine zan (stSz h.l) h.l.length (fun i=>if (h.l.drop i).all sizeR=true then some (.n,⟨[],[],2⟩) else some (.r,⟨[(2,.b false)],[],2⟩)) (fun i hi=>?_) ?_
  ·have hga:h.l[i]? = some (h.l[i]'hi):=List.getElem?_eq_getElem hi
   have hws:=za9 hi (by omega)
   have hm:=List.getElem_mem hi
   have key:(h.l.drop i).all sizeR=(sizeR (h.l[i]'hi)&&(h.l.drop (i+1)).all sizeR):=by rw[List.drop_eq_getElem_cons hi,List.all_cons]
   have hr:=hs.rt _ hm
   have w1:=hr (h.l[i]'hi).w (by simp[Tr.nums])
   have w2:=hr (h.l[i]'hi).h (by simp[Tr.nums])
   have w3:=hr (h.l[i]'hi).e (by simp[Tr.nums])
   generalize hq:h.l[i]'hi=q at *
   have c1:=zc7 (T:=T) q.w (by omega)
   have c2:=zc7 (T:=T) q.h (by omega)
   have c3:=zjv (T:=T) q.h q.w w2 w1
   have c4:=zc7 (T:=T) q.e (by omega)
   have e1:(0<fv q.w)↔¬ sgQ (fv q.w)≤0:=by rw[←zf9];omega
   have e2:(0<fv q.h)↔¬ sgQ (fv q.h)≤0:=by rw[←zf9];omega
   have e3:(fv q.h≤fv q.w)↔¬ 0<sgQ (fv q.h-fv q.w):=by rw[zf9];grind
   have e4:(0≤fv q.e)↔¬ sgQ (fv q.e)<0:=by rw[zu7];grind
   have hz:sizeR q=(!decide (sgQ (fv q.w)≤0)&&!decide (sgQ (fv q.h)≤0)&&!decide (0<sgQ (fv q.h-fv q.w))&&!decide (sgQ (fv q.e)<0)):=by
    unfold sizeR
    simp only[e1,e2,e3,e4,decide_not]
   clear e1 e2 e3 e4 hr hs hm w1 w2 w3
   rw[hz]at key
   clear hz
   obtain⟨q1,q2,q3,q4,q5,q6⟩:=q
   dsimp only at *
   generalize sgQ (fv q2)=g1 at *
   generalize sgQ (fv q3-fv q2)=g3 at *
   generalize sgQ (fv q3)=g2 at *
   generalize sgQ (fv q4)=g4 at *
   by_cases h1:g1≤0
   ·right
    rw[if_neg (by simp[key,h1])]
    unfold stSz
    constructor<;>simp -implicitDefEqProofs[l582_0,hi,hga,hq,hws,c1,h1]
   by_cases h2:g2≤0
   ·right
    rw[if_neg (by simp[key,h2])]
    unfold stSz
    constructor<;>simp -implicitDefEqProofs[l582_0,hi,hga,hq,hws,c1,c2,h1,h2]
   by_cases h3:0<g3
   ·right
    rw[if_neg (by simp[key,h3])]
    unfold stSz
    constructor<;>simp -implicitDefEqProofs[l582_0,hi,hga,hq,hws,c1,c2,c3,h1,h2,h3]
   by_cases h4:g4<0
   ·right
    rw[if_neg (by simp[key,h4])]
    unfold stSz
    constructor<;>simp -implicitDefEqProofs[l582_0,hi,hga,hq,hws,c1,c2,c3,c4,h1,h2,h3,h4]
   ·left
    refine⟨?_,by simp[key,h1,h2,h3,h4]⟩
    unfold stSz
    simp -implicitDefEqProofs[l582_0,hi,hga,hq,hws,c1,c2,c3,c4,h1,h2,h3,h4]
  ·simp only[List.drop_length,List.all_nil,if_true]
   unfold stSz
   constructor<;>simp -implicitDefEqProofs[l582_0]
 unfold stSz at hlp
 rw[List.drop_zero]at hlp
 simp only[Int.natCast_zero]at hlp
 unfold sizesH
 rw[f582 _ rfl,b582]
 clear hs
 obtain⟨L,t,y⟩:=h
 dsimp only at *
 cases hA:L.all sizeR<;>rw[hA]at hlp<;>simp at hlp<;>simp -implicitDefEqProofs[hlp]
theorem zgi(r:Tr)(t:Fz)(y:List Fz)(h1:∀x∈r.nums,fsz x≤400)(h2:fsz t≤400)(h3:∀x∈y,fsz x≤1000)(h4:∀x∈r.y,fsz x≤1000)(hl:y.length≤1000):callF T 585 [.agg (celR r),efz t,.sl (rowF y) .an]=some (.b (follB r t y)):=by
 have w1:=h1 r.t (by simp[Tr.nums])
 have w2:=h1 r.h (by simp[Tr.nums])
 have c1:=zff (T:=T) r.t r.h (by omega) (by omega)
 have z1:=zja (fv r.t) (fv r.h)
 have z2:=zbs (L:=400) w1 (by decide)
 have z3:=zbs (L:=400) w2 (by decide)
 have c2:=zcs (T:=T) t (fz (fv r.t+fv r.h)) (by omega) (by rw[za0];omega)
 rw[zbo]at c2
 have c3:=zcs (T:=T) t r.t (by omega) (by omega)
 have c4:=zj6 (T:=T) y r.y hl h3 h4
 unfold follB
 rw[f585 _ rfl,b585]
 clear h1 h2 h3 h4 z1 z2 z3 w1 w2
 generalize fz (fv r.t+fv r.h)=z at *
 obtain⟨q1,q2,q3,q4,q5,q6⟩:=r
 dsimp only at *
 cases q6 with
 | true=>simp -implicitDefEqProofs[c1,c2]
 | false=>
  by_cases he:fv t=fv q1
  ·simp -implicitDefEqProofs[c3,c4,he]
  ·simp -implicitDefEqProofs[c3,c4,he]
def stCh(h:Hs)(i:Nat):St:=⟨[(1,.ptr (.loc 1) 1 5 0 0),(8,.sl (rowTr h.l) .an),(9,.i .i64 h.l.length),(10,.i .i64 i)],[(.loc 1,bxH h)],3⟩
theorem zqk(h:Hs)(hs:HsS h 400):callF T 583 [ehs h]=some (.b (chainH h)):=by
 have hlen:=hs.len
 have hlp:loopN T 0 0 (.norm false []) l583_0 (stCh h 0)=if chainL (h.l.drop 0) h.t h.y=true then some (.n,⟨[],[],2⟩) else some (.r,⟨[(2,.b false)],[],2⟩):=by
  refine zan (stCh h) h.l.length (fun i=>if chainL (h.l.drop i) h.t h.y=true then some (.n,⟨[],[],2⟩) else some (.r,⟨[(2,.b false)],[],2⟩)) (fun i hi=>?_) ?_
  ·have hga:h.l[i]? = some (h.l[i]'hi):=List.getElem?_eq_getElem hi
   have hws:=za9 hi (by omega)
   have hm:=List.getElem_mem hi
   have key:chainL (h.l.drop i) h.t h.y=(follB (h.l[i]'hi) (nextH (h.l.drop (i+1)) h.t h.y).1 (nextH (h.l.drop (i+1)) h.t h.y).2&&chainL (h.l.drop (i+1)) h.t h.y):=by rw[List.drop_eq_getElem_cons hi,chainL]
   have f1:=hs.rt _ hm
   have f2:=hs.ry _ hm
   generalize hq:h.l[i]'hi=q at *
   by_cases hn:i+1<h.l.length
   ·have hn':(i:Int)+1<h.l.length:=by omega
    have hgb:h.l[i+1]? = some (h.l[i+1]'hn):=List.getElem?_eq_getElem hn
    have hm2:=List.getElem_mem hn
    have en:nextH (h.l.drop (i+1)) h.t h.y=((h.l[i+1]'hn).t,(h.l[i+1]'hn).y):=by rw[List.drop_eq_getElem_cons hn];rfl
    rw[en]at key
    have c:=zgi (T:=T) q (h.l[i+1]'hn).t (h.l[i+1]'hn).y f1 (hs.rt _ hm2 _ (by simp[Tr.nums])) (fun x hx=>Nat.le_trans (hs.ry _ hm2 x hx) (by decide)) (fun x hx=>Nat.le_trans (f2 x hx) (by decide)) (hs.rl _ hm2)
    generalize hq2:h.l[i+1]'hn=p at *
    clear hs hm hm2 f1 f2 en
    generalize hB:follB q p.t p.y=B at *
    clear hB
    obtain⟨L,⟨t1,t2,t3⟩,y⟩:=h
    obtain⟨q1,q2,q3,q4,q5,q6⟩:=q
    obtain⟨p1,p2,p3,p4,p5,p6⟩:=p
    dsimp only at *
    have hci:((i:Int)+1).toNat=i+1:=by omega
    cases B with
    | true=>
     left
     refine⟨?_,by simp only[key,Bool.true_and]⟩
     unfold stCh bxH
     simp -implicitDefEqProofs[l583_0,hi,hga,hq,hgb,hq2,hws,hn,hn',c,hci]
    | false=>
     right
     rw[if_neg (by simp[key])]
     unfold stCh bxH
     constructor<;>simp -implicitDefEqProofs[l583_0,hi,hga,hq,hgb,hq2,hws,hn,hn',c,hci]
   ·have hn':¬ (i:Int)+1<h.l.length:=by omega
    have en:nextH (h.l.drop (i+1)) h.t h.y=(h.t,h.y):=by rw[List.drop_eq_nil_of_le (by omega)];rfl
    rw[en]at key
    have c:=zgi (T:=T) q h.t h.y f1 hs.t (fun x hx=>Nat.le_trans (hs.y x hx) (by decide)) (fun x hx=>Nat.le_trans (f2 x hx) (by decide)) hs.yl
    clear hs hm f1 f2 en
    generalize hB:follB q h.t h.y=B at *
    clear hB
    obtain⟨L,⟨t1,t2,t3⟩,y⟩:=h
    obtain⟨q1,q2,q3,q4,q5,q6⟩:=q
    dsimp only at *
    cases B with
    | true=>
     left
     refine⟨?_,by simp only[key,Bool.true_and]⟩
     unfold stCh bxH
     simp -implicitDefEqProofs[l583_0,hi,hga,hq,hws,hn,hn',c]
    | false=>
     right
     rw[if_neg (by simp[key])]
     unfold stCh bxH
     constructor<;>simp -implicitDefEqProofs[l583_0,hi,hga,hq,hws,hn,hn',c]
  ·have e:chainL [] h.t h.y=true:=rfl
   simp only[List.drop_length,e,if_true]
   unfold stCh bxH
   constructor<;>simp -implicitDefEqProofs[l583_0]
 unfold stCh bxH at hlp
 rw[List.drop_zero]at hlp
 simp only[Int.natCast_zero]at hlp
 unfold chainH
 rw[f583 _ rfl,b583]
 clear hs
 obtain⟨L,t,y⟩:=h
 dsimp only at *
 cases hA:chainL L t y<;>rw[hA]at hlp<;>simp at hlp<;>simp -implicitDefEqProofs[hlp]
theorem HsS.mono{h:Hs}{A B:Nat}(hs:HsS h A)(hAB:A≤B):HsS h B:=
 ⟨hs.len,Nat.le_trans hs.t hAB,fun x hx=>Nat.le_trans (hs.y x hx) hAB,hs.yl,fun r hr x hx=>Nat.le_trans (hs.rt r hr x hx) hAB,fun r hr x hx=>Nat.le_trans (hs.ry r hr x hx) hAB,hs.rl⟩
theorem zql(h:Hs)(hs:HsS h 400):callF T 579 [ehs h]=some (.i .i64 (wrongH h)):=by
 have hs2:HsS h 1000:=hs.mono (by decide)
 have c1:=zqi (T:=T) h hs2
 have c2:=zlu (T:=T) h hs.len
 have c3:=zqj (T:=T) h hs2
 have c4:=zqk (T:=T) h hs
 unfold wrongH
 rw[f579 _ rfl,b579]
 clear hs hs2
 generalize plainH h=P at *
 generalize lensH h=Ln at *
 generalize sizesH h=Sz at *
 generalize chainH h=Ch at *
 obtain⟨L,t,y⟩:=h
 dsimp only at *
 cases P with
 | false=>simp -implicitDefEqProofs[c1]
 | true=>
 cases Ln with
 | false=>simp -implicitDefEqProofs[c1,c2]
 | true=>
 by_cases hl:200<L.length
 ·have hl':(200:Int)<L.length:=by omega
  simp -implicitDefEqProofs[c1,c2,hl,hl']
 have hl':¬ (200:Int)<L.length:=by omega
 cases Sz with
 | false=>simp -implicitDefEqProofs[c1,c2,hl,hl',c3]
 | true=>
 cases Ch<;>simp -implicitDefEqProofs[c1,c2,hl,hl',c3,c4]
theorem zc8(h:Hs)(hs:HsS h 400):callF T 576 [ehs h]=some (.b (rightH h)):=by
 have c:=zql (T:=T) h hs
 unfold rightH
 rw[f576 _ rfl,b576]
 generalize wrongH h=w at *
 obtain⟨L,t,y⟩:=h
 by_cases hw:w=0
 ·subst hw
  simp -implicitDefEqProofs[c]
 ·simp -implicitDefEqProofs[c,hw]
theorem zt2(l:List Tr)(r:Tr):accH (l++[r])=if r.ok then accH l++[nrmR r] else accH l:=by
 unfold accH
 rw[List.filter_append,List.map_append]
 cases h:r.ok<;>simp[h]
def stAc(l:List Tr)(i n:Nat):St:=⟨[(3,.bs (.loc 3) 1 14 0 n),(8,.sl (rowTr l) .an),(9,.i .i64 l.length),(10,.i .i64 i)],[(.loc 3,⟨1,.own,14,rowTr (accH (l.take i))⟩)],3⟩
theorem zj3(h:Hs)(hs:HsS h 1000):callF T 532 [ehs h]=some (.sl (rowTr (accH h.l)) .an):=by
 have hlen:=hs.len
 have al:∀i,(accH (h.l.take i)).length≤i:=by
  intro i
  unfold accH
  rw[List.length_map]
  exact Nat.le_trans (List.length_filter_le ..) (by rw[List.length_take];omega)
 have hlp:loopN T 0 0 (.norm false [3]) l532_0 (stAc h.l 0 (accH (h.l.take 0)).length)=some (.n,⟨[(3,.bs (.loc 3) 1 14 0 (accH h.l).length)],[(.loc 3,⟨1,.own,14,rowTr (accH h.l)⟩)],3⟩):=by
  refine zaq (fun i=>stAc h.l i (accH (h.l.take i)).length) h.l.length _ (fun i hi=>?_) ?_
  ·have hga:h.l[i]? = some (h.l[i]'hi):=List.getElem?_eq_getElem hi
   have hws:=za9 hi (by omega)
   have hm:=List.getElem_mem hi
   have key:accH (h.l.take (i+1))=if (h.l[i]'hi).ok then accH (h.l.take i)++[nrmR (h.l[i]'hi)] else accH (h.l.take i):=by
    rw[List.take_succ_eq_append_getElem hi,zt2]
   have hai:=al i
   have c1:=zgh (T:=T) (h.l[i]'hi)
   have c2:=zew (T:=T) (h.l[i]'hi).nums (by simp[Tr.nums]) (hs.rt _ hm)
   have c3:=zew (T:=T) (h.l[i]'hi).y (hs.rl _ hm) (hs.ry _ hm)
   generalize hq:h.l[i]'hi=q at *
   have hA1:(accH (h.l.take i)).length+1≤4294967296:=by omega
   clear hs hm al
   unfold stAc
   simp only[key]
   generalize hA:accH (h.l.take i)=A at *
   clear hA key
   have hnn:wkL (rowF q.nums)=rowF q.nums:=zbi _
   replace c2:callF T 533 [.sl (rowF q.nums) .an]=some (.sl [celF (fz (fv q.t)),celF (fz (fv q.w)),celF (fz (fv q.h)),celF (fz (fv q.e))] .an):=c2
   generalize hN:rowF q.nums=NN at *
   clear hN
   have hpush:wkL (rowTr A++[celR (nrmR q)])=rowTr (A++[nrmR q]):=by rw[zjb,zo8]
   unfold nrmR at *
   obtain⟨q1,q2,q3,q4,q5,q6⟩:=q
   dsimp only at *
   generalize fz (fv q1)=z1 at *
   generalize fz (fv q2)=z2 at *
   generalize fz (fv q3)=z3 at *
   generalize fz (fv q4)=z4 at *
   generalize nrm q5=z5 at *
   obtain⟨L,t,y⟩:=h
   dsimp only at *
   cases q6 with
   | true=>
    simp -implicitDefEqProofs[l532_0,hi,hga,hq,hws,c1,c2,c3,hnn,hA1,hpush]
   | false=>
    simp -implicitDefEqProofs[l532_0,hi,hga,hq,hws]
  ·simp only[List.take_length]
   unfold stAc
   simp only[List.take_length]
   constructor<;>simp -implicitDefEqProofs[l532_0]
 have e0:accH (h.l.take 0)=[]:=rfl
 rw[e0]at hlp
 unfold stAc at hlp
 rw[e0]at hlp
 simp only[Int.natCast_zero,List.length_nil,zmi]at hlp
 have ht:List.take (accH h.l).length (accH h.l)=accH h.l:=List.take_length ..
 rw[f532 _ rfl,b532]
 clear hs
 generalize accH h.l=A at *
 obtain⟨L,t,y⟩:=h
 dsimp only at *
 simp -implicitDefEqProofs[hlp,ht]
end
section
variable{T:Tbl}[CLimb T][CNat T][CProd T][CTwos T][CQuot T][CQuotD T][CWhole T][CCommon T][CFrac T][CFrac3 T][CFrac5 T][CPow T][CTape T][CGauge T][CEval T][CRun T][CIfc T][CDigits T][CText T][CJoin T][CRow T][CPast T][CPast2 T]
theorem zoq(l:List Tr):(accH l).length≤l.length:=by
 unfold accH
 rw[List.length_map]
 exact List.length_filter_le ..
def stSi(A:List Tr)(i:Nat):St:=⟨[(3,.bs (.loc 3) 1 3 0 i),(7,.sl (rowTr A) .an),(8,.i .i64 A.length),(9,.i .i64 i)],[(.loc 3,⟨1,.own,3,rowF ((A.take i).map (·.h))⟩)],3⟩
def stNo(h:Hs)(A:List Tr)(i:Nat):St:=⟨[(1,.ptr (.loc 1) 1 5 0 0),(4,.bs (.loc 4) 2 3 0 i),(5,.bs (.loc 5) 3 1 0 i),(9,.sl (rowTr A) .an),(10,.i .i64 A.length),(11,.i .i64 i)],
 [(.loc 1,bxH h),(.loc 4,⟨2,.own,3,rowF ((A.take i).map (·.t))⟩),(.loc 5,⟨3,.own,1,matF ((A.take i).map (·.y))⟩)],5⟩
theorem zqm(h:Hs)(A:List Tr)(hl:A.length≤1000):loopN T 0 0 (.norm false [1,4,5]) l513_0 (stNo h A 0) =
  some (.n,⟨[(1,.ptr (.loc 1) 1 5 0 0),(4,.bs (.loc 4) 2 3 0 A.length),(5,.bs (.loc 5) 3 1 0 A.length)],[(.loc 1,bxH h),(.loc 4,⟨2,.own,3,rowF (A.map (·.t))⟩),(.loc 5,⟨3,.own,1,matF (A.map (·.y))⟩)],5⟩):=by
 refine zaq (stNo h A) A.length _ (fun i hi=>?_) ?_
 ·have hga:A[i]? = some (A[i]'hi):=List.getElem?_eq_getElem hi
  have hws:=za9 hi (by omega)
  have key:(A.take (i+1)).map (·.t)=(A.take i).map (·.t)++[(A[i]'hi).t]:=by rw[List.take_succ_eq_append_getElem hi,List.map_append];rfl
  have key2:(A.take (i+1)).map (·.y)=(A.take i).map (·.y)++[(A[i]'hi).y]:=by rw[List.take_succ_eq_append_getElem hi,List.map_append];rfl
  have hml:((A.take i).map (·.t)).length=i:=by simp;omega
  have hml2:((A.take i).map (·.y)).length=i:=by simp;omega
  have hi4:i+1≤4294967296:=by omega
  generalize hq:A[i]'hi=q at *
  unfold stNo bxH
  simp only[key,key2]
  generalize (A.take i).map (·.t)=M at *
  generalize (A.take i).map (·.y)=N at *
  have hpush:=zda hml q.t
  have hpush2:=zhn hml2 q.y
  obtain⟨q1,q2,q3,q4,q5,q6⟩:=q
  dsimp only at *
  simp -implicitDefEqProofs[l513_0,hi,hga,hq,hws,hml,hml2,hi4,hpush,hpush2]
 ·unfold stNo bxH
  rw[List.take_of_length_le (Nat.le_refl _)]
  constructor<;>simp -implicitDefEqProofs[l513_0]
theorem zc9(h:Hs)(hs:HsS h 1000):callF T 513 [ehs h]=some (.tup [.sl (rowF (nodeT h)) .an,.sl (matF (nodeY h)) .an]):=by
 have c:=zj3 (T:=T) h hs
 have hl:=Nat.le_trans (zoq h.l) hs.len
 have c2:=zcc (T:=T) h.t (Nat.le_trans hs.t (by decide))
 have c3:=zew (T:=T) h.y hs.yl hs.y
 unfold nodeT nodeY
 generalize accH h.l=A at *
 have hlp:=zqm (T:=T) h A hl
 unfold stNo bxH at hlp
 simp only[Int.natCast_zero,List.take_zero,List.map_nil,zeg,zo7]at hlp
 have hml:(A.map (·.t)).length=A.length:=by simp
 have hml2:(A.map (·.y)).length=A.length:=by simp
 have hi4:A.length+1≤4294967296:=by omega
 rw[f513 _ rfl,b513]
 clear hs
 generalize A.map (·.t)=M at *
 generalize A.map (·.y)=N at *
 generalize hn:A.length=n at *
 have hpush:=zda hml (fz (fv h.t))
 have hpush2:=zhn hml2 (nrm h.y)
 generalize fz (fv h.t)=z at *
 generalize nrm h.y=Y at *
 have ht1:List.take (n+1) (M++[z])=M++[z]:=List.take_of_length_le (by simp;omega)
 have ht2:List.take (n+1) (N++[Y])=N++[Y]:=List.take_of_length_le (by simp;omega)
 obtain⟨L,⟨t1,t2,t3⟩,y⟩:=h
 dsimp only at *
 simp -implicitDefEqProofs[c,c2,c3,hlp,hml,hml2,hi4,hpush,hpush2,hn,ht1,ht2]
end
theorem z52(a b c:Fz):rowF [a,b,c]=[celF a,celF b,celF c]:=rfl
theorem zad5(a b c d:Fz):rowF [a,b,c,d]=[celF a,celF b,celF c,celF d]:=rfl
theorem zad6(a b:Fz):rowF [a,b]=[celF a,celF b]:=rfl
theorem zyc{l:List Rat}{B:Nat}(h:∀q∈l,sz q≤B):∀x∈fzs l,fsz x≤B:=by
 intro x hx
 obtain⟨q,hq,rfl⟩:=List.mem_map.1 hx
 exact h q hq
def prtQ(t h s:Rat):Rat:=(s-t)/h
def facA(h x y:Rat):List Rat:=[y*y*(1+2*x),x*x*(3 + -2*x),h*x*y*y,h*x*x * -y]
def facS(h x y:Rat):List Rat:=[-(6*x*y/h),6*x*y/h,y*(1 + -3*x),x*(-2+3*x)]
def mix4(c:List Rat)(y0 y1 f0 f1:List Fz):List Rat:=mixF ((fzs c).zip [y0,y1,f0,f1]) (List.replicate y0.length 0)
theorem zyd(a b c:Rat):prodQ [fz a,fz b,fz c]=a*b*c:=by simp[prodQ,Rat.one_mul]
theorem z53(a b:Rat):prodQ [fz a,fz b]=a*b:=by simp[prodQ,Rat.one_mul]
theorem z54(a:Fz)(b c d:Rat):prodQ [a,fz b,fz c,fz d]=fv a*b*c*d:=by simp[prodQ,Rat.one_mul]
section
variable{T:Tbl}[CNat T][CProd T][CTwos T][CQuot T][CQuotD T][CText T][CWhole T][CCommon T][CFrac T][CJoin T][CRow T][CSpan T]
theorem zye{t h s:Fz}(ht:fsz t≤6)(hh:fsz h≤6)(hs:fsz s≤6):sz (prtQ (fv t) (fv h) (fv s))≤19:=by
 unfold prtQ
 have e1:=zo6 (fv s) (fv t)
 have e2:=zbs (L:=6) ht (by decide)
 have e3:=zbs (L:=6) hs (by decide)
 have e4:=zbs (L:=6) hh (by decide)
 have e5:=zu6 (fv s-fv t) (fv h)
 omega
theorem zi1{a b:Int}{x:Rat}{S:Nat}(hx:sz x≤S)(ha1:-100≤a)(ha2:a≤100)(hb1:-100≤b)(hb2:b≤100):sz ((a:Rat)+(b:Rat)*x)≤S+3:=by
 have h1:=zgs ha1 ha2
 have h2:=zgs hb1 hb2
 have h3:=zgj (b:Rat) x
 have h4:=zja (a:Rat) ((b:Rat)*x)
 omega
theorem mem3{a b c:Fz}{B:Nat}(h1:fsz a≤B)(h2:fsz b≤B)(h3:fsz c≤B):∀x∈[a,b,c],fsz x≤B:=by
 intro x hx
 simp only[List.mem_cons,List.not_mem_nil,or_false]at hx
 rcases hx with rfl | rfl | rfl<;>assumption
theorem mem2{a b:Fz}{B:Nat}(h1:fsz a≤B)(h2:fsz b≤B):∀x∈[a,b],fsz x≤B:=by
 intro x hx
 simp only[List.mem_cons,List.not_mem_nil,or_false]at hx
 rcases hx with rfl | rfl<;>assumption
theorem mem4{a b c d:Fz}{B:Nat}(h1:fsz a≤B)(h2:fsz b≤B)(h3:fsz c≤B)(h4:fsz d≤B):∀x∈[a,b,c,d],fsz x≤B:=by
 intro x hx
 simp only[List.mem_cons,List.not_mem_nil,or_false]at hx
 rcases hx with rfl | rfl | rfl | rfl<;>assumption
theorem zuo(t h s:Fz)(y0 y1 f0 f1:List Fz)(ht:fsz t≤6)(hh:fsz h≤6)(hs:fsz s≤6)(hr:rightS h y0 y1 f0 f1=true)(hw:∀r∈[y0,y1,f0,f1],∀x∈r,fsz x≤89) :
  callF T 324 [agS t h y0 y1 f0 f1,efz s]=some (.tup [.sl (rowF (fzs (mix4 (facA (fv h) (prtQ (fv t) (fv h) (fv s)) (1 + -1*prtQ (fv t) (fv h) (fv s))) y0 y1 f0 f1))) .an,.b true]):=by
 have c0:=zi0 (T:=T) t h y0 y1 f0 f1 (by omega)
 rw[hr]at c0
 have c1:=zl8 (T:=T) t h s y0 y1 f0 f1 (by omega) (by omega) (by omega)
 have zx:=zye ht hh hs
 change callF T 335 _=some (efz (fz (prtQ (fv t) (fv h) (fv s)))) at c1
 obtain⟨x,hx⟩:∃x,x=prtQ (fv t) (fv h) (fv s):=⟨_,rfl⟩
 rw[←hx]at c1 zx
 rw[←hx]
 have zy:sz (1 + -1*x)≤22:=zi1 (a:=1) (b:=-1) zx (by decide) (by decide) (by decide) (by decide)
 have z1:sz (1+2*x)≤22:=zi1 (a:=1) (b:=2) zx (by decide) (by decide) (by decide) (by decide)
 have z2:sz (3 + -2*x)≤22:=zi1 (a:=3) (b:=-2) zx (by decide) (by decide) (by decide) (by decide)
 have k1:callF T 336 [.i .i64 1,.i .i64 (-1),efz (fz x)]=some (efz (fz (1 + -1*x))):=by
  have:=zb0 (T:=T) 1 (-1) (fz x) (by rw[za0];omega) (by decide) (by decide) (by decide) (by decide)
  rwa [zbo]at this
 have k2:callF T 336 [.i .i64 1,.i .i64 2,efz (fz x)]=some (efz (fz (1+2*x))):=by
  have:=zb0 (T:=T) 1 2 (fz x) (by rw[za0];omega) (by decide) (by decide) (by decide) (by decide)
  rwa [zbo]at this
 have k3:callF T 336 [.i .i64 3,.i .i64 (-2),efz (fz x)]=some (efz (fz (3 + -2*x))):=by
  have:=zb0 (T:=T) 3 (-2) (fz x) (by rw[za0];omega) (by decide) (by decide) (by decide) (by decide)
  rwa [zbo]at this
 generalize 1 + -1*x=y at *
 have k4:=zjw (T:=T) (fz y) (by rw[za0];omega)
 rw[zbo]at k4
 have zn:sz (-y)≤22:=by rw[zo5];exact zy
 have m1:=zb1 (T:=T) [fz y,fz y,fz (1+2*x)] (B:=22) (by simp) (by decide) (mem3 zy zy z1) (by simp)
 have m2:=zb1 (T:=T) [fz x,fz x,fz (3 + -2*x)] (B:=22) (by simp) (by decide) (mem3 (Nat.le_trans zx (by decide)) (Nat.le_trans zx (by decide)) z2) (by simp)
 have m3:=zb1 (T:=T) [h,fz x,fz y,fz y] (B:=22) (by simp) (by decide) (mem4 (by omega) (Nat.le_trans zx (by decide)) zy zy) (by simp)
 have m4:=zb1 (T:=T) [h,fz x,fz x,fz (-y)] (B:=22) (by simp) (by decide) (mem4 (by omega) (Nat.le_trans zx (by decide)) (Nat.le_trans zx (by decide)) zn) (by simp)
 have q1:=zcu (B:=22) (by decide) [fz y,fz y,fz (1+2*x)] (mem3 zy zy z1) 3
 have q2:=zcu (B:=22) (by decide) [fz x,fz x,fz (3 + -2*x)] (mem3 (Nat.le_trans zx (by decide)) (Nat.le_trans zx (by decide)) z2) 3
 have q3:=zcu (B:=22) (by decide) [h,fz x,fz y,fz y] (mem4 (by omega) (Nat.le_trans zx (by decide)) zy zy) 4
 have q4:=zcu (B:=22) (by decide) [h,fz x,fz x,fz (-y)] (mem4 (by omega) (Nat.le_trans zx (by decide)) (Nat.le_trans zx (by decide)) zn) 4
 simp only[List.take_succ_cons,List.take_nil,List.take_zero,List.length_cons,List.length_nil]at q1 q2 q3 q4
 rw[zyd]at m1 m2 q1 q2
 rw[z54]at m3 m4 q3 q4
 simp only[rightS,Bool.and_eq_true,decide_eq_true_eq]at hr
 obtain⟨⟨⟨⟨_,h2⟩,h3⟩,h4⟩,h5⟩:=hr
 have mx:=ztx (T:=T) (fzs (facA (fv h) x y)) [y0,y1,f0,f1] y0.length (by simp[facA]) h2 (by simp) (B:=89) (zyc (by
  intro q hq
  simp only[facA,List.mem_cons,List.not_mem_nil,or_false]at hq
  rcases hq with rfl | rfl | rfl | rfl<;>omega)) hw (by decide) (by simp) (by
  intro r hr
  simp only[List.mem_cons,List.not_mem_nil,or_false]at hr
  rcases hr with rfl | rfl | rfl | rfl<;>omega)
 have rw5:=zl7 (T:=T) t h y0 y1 f0 f1
 change callF T 271 _=some (.tup [.sl (rowF (fzs (mix4 (facA (fv h) x y) y0 y1 f0 f1))) .an,.b true]) at mx
 have ef:rowF (fzs (facA (fv h) x y))=[celF (fz (y*y*(1+2*x))),celF (fz (x*x*(3 + -2*x))),celF (fz (fv h*x*y*y)),celF (fz (fv h*x*x * -y))]:=rfl
 rw[ef]at mx
 rw[z52]at m1 m2
 rw[zad5]at m3 m4
 rw[f324 _ rfl,b324]
 clear hw ef q1 q2 q3 q4 zx zy z1 z2 zn hx
 generalize fzs (mix4 (facA (fv h) x y) y0 y1 f0 f1)=R at *
 generalize [y0,y1,f0,f1]=LL at *
 generalize fz (y*y*(1+2*x))=F0 at *
 generalize fz (x*x*(3 + -2*x))=F1 at *
 generalize fz (fv h*x*y*y)=F2 at *
 generalize fz (fv h*x*x * -y)=F3 at *
 generalize fz (-y)=Y' at *
 generalize fz (1+2*x)=L1 at *
 generalize fz (3 + -2*x)=L2 at *
 generalize fz x=X at *
 generalize fz y=Y at *
 simp -implicitDefEqProofs[c0,c1,k1,k2,k3,k4,m1,m2,m3,m4,mx,rw5]
theorem zqu(t h s:Fz)(y0 y1 f0 f1:List Fz)(ht:fsz t≤6)(hh:fsz h≤6)(hs:fsz s≤6)(hr:rightS h y0 y1 f0 f1=true)(hw:∀r∈[y0,y1,f0,f1],∀x∈r,fsz x≤89) :
  callF T 326 [agS t h y0 y1 f0 f1,efz s]=some (.tup [.sl (rowF (fzs (mix4 (facS (fv h) (prtQ (fv t) (fv h) (fv s)) (1 + -1*prtQ (fv t) (fv h) (fv s))) y0 y1 f0 f1))) .an,.b true]):=by
 have c0:=zi0 (T:=T) t h y0 y1 f0 f1 (by omega)
 rw[hr]at c0
 have c1:=zl8 (T:=T) t h s y0 y1 f0 f1 (by omega) (by omega) (by omega)
 have zx:=zye ht hh hs
 change callF T 335 _=some (efz (fz (prtQ (fv t) (fv h) (fv s)))) at c1
 obtain⟨x,hx⟩:∃x,x=prtQ (fv t) (fv h) (fv s):=⟨_,rfl⟩
 rw[←hx]at c1 zx
 rw[←hx]
 have zy:sz (1 + -1*x)≤22:=zi1 (a:=1) (b:=-1) zx (by decide) (by decide) (by decide) (by decide)
 have z1:sz (1 + -3*x)≤22:=zi1 (a:=1) (b:=-3) zx (by decide) (by decide) (by decide) (by decide)
 have z2:sz (-2+3*x)≤22:=zi1 (a:=-2) (b:=3) zx (by decide) (by decide) (by decide) (by decide)
 have z6:sz (6:Rat)≤1:=zgs (k:=6) (by decide) (by decide)
 have k0:callF T 205 [.i .i64 6]=some (efz (fz 6)):=zcz (T:=T) 6 (by decide) (by decide)
 have k1:callF T 336 [.i .i64 1,.i .i64 (-1),efz (fz x)]=some (efz (fz (1 + -1*x))):=by
  have:=zb0 (T:=T) 1 (-1) (fz x) (by rw[za0];omega) (by decide) (by decide) (by decide) (by decide)
  rwa [zbo]at this
 have k2:callF T 336 [.i .i64 1,.i .i64 (-3),efz (fz x)]=some (efz (fz (1 + -3*x))):=by
  have:=zb0 (T:=T) 1 (-3) (fz x) (by rw[za0];omega) (by decide) (by decide) (by decide) (by decide)
  rwa [zbo]at this
 have k3:callF T 336 [.i .i64 (-2),.i .i64 3,efz (fz x)]=some (efz (fz (-2+3*x))):=by
  have:=zb0 (T:=T) (-2) 3 (fz x) (by rw[za0];omega) (by decide) (by decide) (by decide) (by decide)
  rwa [zbo]at this
 generalize 1 + -1*x=y at *
 have zx22:fsz (fz x)≤22:=Nat.le_trans zx (by decide)
 have z622:fsz (fz 6)≤22:=Nat.le_trans z6 (by decide)
 have m1:=zb1 (T:=T) [fz 6,fz x,fz y] (B:=22) (by simp) (by decide) (mem3 z622 zx22 zy) (by simp)
 have m2:=zb1 (T:=T) [fz y,fz (1 + -3*x)] (B:=22) (by simp) (by decide) (mem2 zy z1) (by simp)
 have m3:=zb1 (T:=T) [fz x,fz (-2+3*x)] (B:=22) (by simp) (by decide) (mem2 zx22 z2) (by simp)
 have q1:=zcu (B:=22) (by decide) [fz 6,fz x,fz y] (mem3 z622 zx22 zy) 3
 have q2:=zcu (B:=22) (by decide) [fz y,fz (1 + -3*x)] (mem2 zy z1) 2
 have q3:=zcu (B:=22) (by decide) [fz x,fz (-2+3*x)] (mem2 zx22 z2) 2
 simp only[List.take_succ_cons,List.take_nil,List.take_zero,List.length_cons,List.length_nil]at q1 q2 q3
 rw[zyd]at m1 q1
 rw[z53]at m2 m3 q2 q3
 have zh:=zbs (L:=6) hh (by decide)
 have zq:=zu6 (6*x*y) (fv h)
 have k4:=zjy (T:=T) (fz (6*x*y)) h (by rw[za0];omega) (by omega)
 rw[zbo]at k4
 have k5:=zjw (T:=T) (fz (6*x*y/fv h)) (by rw[za0];omega)
 rw[zbo]at k5
 have zn:sz (-(6*x*y/fv h))≤89:=by rw[zo5];omega
 simp only[rightS,Bool.and_eq_true,decide_eq_true_eq]at hr
 obtain⟨⟨⟨⟨_,h2⟩,h3⟩,h4⟩,h5⟩:=hr
 have mx:=ztx (T:=T) (fzs (facS (fv h) x y)) [y0,y1,f0,f1] y0.length (by simp[facS]) h2 (by simp) (B:=89) (zyc (by
  intro q hq
  simp only[facS,List.mem_cons,List.not_mem_nil,or_false]at hq
  rcases hq with rfl | rfl | rfl | rfl<;>omega)) hw (by decide) (by simp) (by
  intro r hr
  simp only[List.mem_cons,List.not_mem_nil,or_false]at hr
  rcases hr with rfl | rfl | rfl | rfl<;>omega)
 have rw5:=zl7 (T:=T) t h y0 y1 f0 f1
 change callF T 271 _=some (.tup [.sl (rowF (fzs (mix4 (facS (fv h) x y) y0 y1 f0 f1))) .an,.b true]) at mx
 have ef:rowF (fzs (facS (fv h) x y))=[celF (fz (-(6*x*y/fv h))),celF (fz (6*x*y/fv h)),celF (fz (y*(1 + -3*x))),celF (fz (x*(-2+3*x)))]:=rfl
 rw[ef]at mx
 rw[z52]at m1
 rw[zad6]at m2 m3
 rw[f326 _ rfl,b326]
 clear hw ef q1 q2 q3 zx zy z1 z2 zn hx zq zx22 z622
 generalize fzs (mix4 (facS (fv h) x y) y0 y1 f0 f1)=R at *
 generalize [y0,y1,f0,f1]=LL at *
 generalize fz (-(6*x*y/fv h))=F0 at *
 generalize fz (6*x*y/fv h)=F1 at *
 generalize fz (6*x*y)=F4 at *
 generalize fz (y*(1 + -3*x))=F2 at *
 generalize fz (x*(-2+3*x))=F3 at *
 generalize fz (1 + -3*x)=L1 at *
 generalize fz (-2+3*x)=L2 at *
 generalize fz x=X at *
 generalize fz y=Y at *
 generalize fz 6=S6 at *
 generalize decide (fv h≠0)=Z at *
 simp -implicitDefEqProofs[c0,c1,k0,k1,k2,k3,k4,k5,m1,m2,m3,mx,rw5]
end
def placeL(s:Rat):List Fz→Nat→Option Nat
 | [],_=>none
 | t::l,i=>if s≤fv t then some i else placeL s l (i+1)
def placeN(s:Rat):List Fz→Option Nat
 | []=>none
 | t::l=>if s<fv t then none else placeL s l 0
def placeV:Option Nat→AV
 | some i=>.tup [.i .i64 i,.b true]
 | none=>.tup [.i .i64 (-1),.b false]
theorem zqv(h:Hs):∃t l,nodeT h=t::l:=by
 cases e:nodeT h with
 | nil=>exact absurd e (by simp[nodeT])
 | cons t l=>exact⟨t,l,rfl⟩
theorem zdq{h:Hs}{B:Nat}(hs:HsS h B)(hB:1≤B):∀x∈nodeT h,fsz x≤B:=by
 intro x hx
 unfold nodeT at hx
 rcases List.mem_append.1 hx with hx | hx
 ·obtain⟨r,hr,rfl⟩:=List.mem_map.1 hx
  unfold accH at hr
  obtain⟨q,hq,rfl⟩:=List.mem_map.1 hr
  have:=hs.rt q (List.mem_filter.1 hq).1 q.t (by simp[Tr.nums])
  exact zbs this hB
 ·rw[List.mem_singleton.1 hx]
  exact zbs hs.t hB
theorem zyf{l:List Fz}{B:Nat}(h:∀x∈l,fsz x≤B)(hB:1≤B):∀x∈nrm l,fsz x≤B:=by
 intro x hx
 obtain⟨y,hy,rfl⟩:=List.mem_map.1 hx
 exact zbs (h y hy) hB
theorem zfm{h:Hs}{B:Nat}(hs:HsS h B)(hB:1≤B):∀y∈nodeY h,(∀x∈y,fsz x≤B)∧y.length≤1000:=by
 intro y hy
 unfold nodeY at hy
 rcases List.mem_append.1 hy with hy | hy
 ·obtain⟨r,hr,rfl⟩:=List.mem_map.1 hy
  unfold accH at hr
  obtain⟨q,hq,rfl⟩:=List.mem_map.1 hr
  have hm:=(List.mem_filter.1 hq).1
  exact⟨zyf (hs.ry q hm) hB,by show (nrm q.y).length≤1000;simp[nrm];exact hs.rl q hm⟩
 ·rw[List.mem_singleton.1 hy]
  exact⟨zyf hs.y hB,by simp[nrm];exact hs.yl⟩
theorem zfn(h:Hs):(nodeY h).length=(nodeT h).length:=by simp[nodeY,nodeT]
theorem zhw{h:Hs}{B:Nat}(hs:HsS h B):(nodeT h).length≤1001:=by
 have:=Nat.le_trans (zoq h.l) hs.len
 simp[nodeT]
 omega
section
variable{T:Tbl}[CLimb T][CNat T][CProd T][CTwos T][CQuot T][CQuotD T][CWhole T][CCommon T][CFrac T][CFrac3 T][CFrac5 T][CPow T][CTape T][CGauge T][CEval T][CRun T][CIfc T][CDigits T][CText T][CJoin T][CRow T][CPast T][CPast2 T][CLex T][CScheme T][CStep T][CSpan T][CSpan2 T]
def stPc(s:Fz)(l:List Fz)(i:Nat):St:=⟨[(3,.ptr (.loc 3) 1 3 0 0),(25,.sl (rowF l) .an),(26,.i .i64 l.length),(27,.i .i64 i)],[(.loc 3,⟨1,.str,3,[celF s]⟩)],3⟩
def endPc:Option Nat→Ex×St
 | some i=>(.r,⟨[(4,.i .i64 i),(5,.b true)],[],2⟩)
 | none=>(.n,⟨[],[],2⟩)
theorem zqw(s:Fz)(l:List Fz)(hl:l.length≤1001)(hw:∀x∈l,fsz x≤1000)(hs:fsz s≤1000):loopN T 0 0 (.norm false []) l568_0 (stPc s l 0)=some (endPc (placeL (fv s) (l.drop 0) 0)):=by
 refine zan (stPc s l) l.length (fun i=>some (endPc (placeL (fv s) (l.drop i) i))) (fun i hi=>?_) ?_
 ·have hga:l[i]? = some (l[i]'hi):=List.getElem?_eq_getElem hi
  have hws:=za9 hi (by omega)
  have c:=zjv (T:=T) s (l[i]'hi) hs (hw _ (List.getElem_mem hi))
  have key:placeL (fv s) (l.drop i) i=if fv s≤fv (l[i]'hi) then some i else placeL (fv s) (l.drop (i+1)) (i+1):=by rw[List.drop_eq_getElem_cons hi,placeL]
  have e1:(fv s≤fv (l[i]'hi))↔sgQ (fv s-fv (l[i]'hi))≤0:=by
   have:=@zf9 (fv s-fv (l[i]'hi))
   constructor
   ·intro h;apply Int.not_lt.1;rw[this];grind
   ·intro h;have h2:=Int.not_lt.2 h;rw[this]at h2;grind
  simp only[e1]at key
  generalize hq:l[i]'hi=q at *
  generalize sgQ (fv s-fv q)=g at *
  clear e1
  by_cases hg:g≤0
  ·right
   rw[key,if_pos hg]
   unfold stPc endPc
   constructor<;>simp -implicitDefEqProofs[l568_0,hi,hga,hq,hws,c,hg]
  ·left
   rw[key,if_neg hg]
   refine⟨?_,rfl⟩
   unfold stPc
   simp -implicitDefEqProofs[l568_0,hi,hga,hq,hws,c,hg]
 ·rw[List.drop_length]
  unfold stPc endPc placeL
  constructor<;>simp -implicitDefEqProofs[l568_0]
theorem zqx(h:Hs)(s:Fz)(hh:HsS h 400)(hs:fsz s≤1000):callF T 568 [ehs h,efz s]=some (if rightH h=true then placeV (placeN (fv s) (nodeT h)) else placeV none):=by
 have c1:=zc8 (T:=T) h hh
 have c2:=zc9 (T:=T) h (hh.mono (by decide))
 have hz:=zdq (hh.mono (B:=1000) (by decide)) (by decide)
 have hn:=zhw hh
 obtain⟨t,l,e⟩:=zqv h
 rw[e]at c2 hz hn ⊢
 have c3:=zjv (T:=T) s t hs (hz t (by simp))
 have c4:=zqw (T:=T) s l (by simp at hn;omega) (fun x hx=>hz x (by simp[hx])) hs
 have e1:(fv s<fv t)↔sgQ (fv s-fv t)<0:=by rw[zu7];grind
 have e2:(1:Int)≤(l.length:Int)+1:=by omega
 have e3:1≤l.length+1:=by omega
 rw[List.drop_zero]at c4
 unfold stPc at c4
 simp only[Int.natCast_zero]at c4
 rw[f568 _ rfl,b568]
 unfold placeN
 simp only[e1]
 generalize sgQ (fv s-fv t)=g at *
 generalize placeL (fv s) l 0=r at *
 generalize matF (nodeY h)=YY at *
 generalize rightH h=R at *
 have e4:rowF (t::l)=celF t::rowF l:=rfl
 rw[e4]at c2
 clear hh hz hn e e1 e4
 obtain⟨L,⟨h1,h2,h3⟩,y⟩:=h
 obtain⟨s1,s2,s3⟩:=s
 obtain⟨t1,t2,t3⟩:=t
 cases R with
 | false=>
  unfold placeV
  simp -implicitDefEqProofs[c1]
 | true=>
  by_cases hg:g<0
  ·unfold placeV
   simp -implicitDefEqProofs[c1,c2,c3,hg]
  ·cases r with
   | none=>
    unfold endPc at c4
    unfold placeV
    simp -implicitDefEqProofs[c1,c2,c3,hg,c4,e2,e3]
   | some i=>
    unfold endPc at c4
    unfold placeV
    simp -implicitDefEqProofs[c1,c2,c3,hg,c4,e2,e3]
end
def pwA14(x:Rat):Nat→Rat
 | 0=>1
 | n+1=>pwA14 x n*x
def evlK(l:List Rat)(x:Rat):Nat→Rat
 | 0=>0
 | n+1=>evlK l x n+l.getD n 0*pwA14 x n
section
variable{T:Tbl}[CNat T][CProd T][CTwos T][CQuot T][CQuotD T][CText T][CWhole T][CCommon T][CFrac T][CJoin T][CRow T][CRef02 T][CRef04 T][CRef05 T][CRef07 T][CRef06 T][CRef08 T][CRef09 T][CRef14 T]
def stRd(l:List Fz)(i:Nat):St:=⟨[(0,.sl (rowF l) .an),(3,.bs (.loc 3) 1 3 0 i),(4,.i .i64 ((i:Int)+1))],[((.loc 3),⟨1,.own,3,rowF (fzs ((dif (l.map fv)).take i))⟩)],3⟩
def stRe(l:List Rat)(x:Rat)(i:Nat):St:=⟨[(0,.sl (rowF (fzs l)) .an),(3,.ptr (.loc 3) 1 3 0 0),(4,.ptr (.loc 4) 2 3 0 0),(5,.ptr (.loc 5) 3 3 0 0),(6,.ptr (.loc 6) 4 3 0 0),(7,.i .i64 i)],
 [(.loc 3,⟨1,.str,3,[celF (fz x)]⟩),(.loc 4,⟨2,.str,3,[nocell]⟩),(.loc 5,⟨3,.str,3,[celF (fz (evlK l x i))]⟩),(.loc 6,⟨4,.str,3,[celF (fz (pwA14 x i))]⟩)],6⟩
def padR(a b:List Rat):List Rat:=(List.range (max a.length b.length)).map fun(i:Nat)=>a.getD i 0+b.getD i 0
def stRa(a b:List Rat)(i:Nat):St:=⟨[(0,.sl (rowF (fzs a)) .an),(1,.sl (rowF (fzs b)) .an),(5,.bs (.loc 5) 1 3 0 i),(6,.i .i64 i)],[((.loc 5),⟨1,.own,3,rowF (fzs ((padR a b).take i))⟩)],3⟩
end
def cvK(a b:List Rat)(n:Nat):Nat→Rat
 | 0=>0
 | k+1=>cvK a b n k+a.getD k 0*b.getD (n-k) 0
section
variable{T:Tbl}[CNat T][CProd T][CTwos T][CQuot T][CQuotD T][CText T][CWhole T][CCommon T][CFrac T][CJoin T][CRow T][CRef02 T][CRef04 T][CRef05 T][CRef07 T][CRef06 T][CRef08 T][CRef09 T][CRef14 T]
def stRm(a b O:List Rat)(n j:Nat):St:=⟨[(0,.sl (rowF (fzs a)) .an),(1,.sl (rowF (fzs b)) .an),(5,.bs (.loc 5) 1 3 0 n),(6,.i .i64 n),(7,.ptr (.loc 7) 2 3 0 0),(8,.i .i64 j)],
 [((.loc 5),⟨1,.own,3,rowF (fzs O)⟩),(.loc 7,⟨2,.str,3,[celF (fz (cvK a b n j))]⟩)],4⟩
def cnv(a b:List Rat):List Rat:=(List.range (a.length+b.length)).map fun(n:Nat)=>cvK a b n (min (n+1) a.length)
def stRo(a b:List Rat)(n:Nat):St:=⟨[(0,.sl (rowF (fzs a)) .an),(1,.sl (rowF (fzs b)) .an),(5,.bs (.loc 5) 1 3 0 n),(6,.i .i64 n)],[((.loc 5),⟨1,.own,3,rowF (fzs ((cnv a b).take n))⟩)],3⟩
end
def riseQ(h a b:Rat):Rat:=(b-a)/h
def firQ(h a b f:Rat):Rat:=(riseQ h a b-f)/h
def secQ(h a b f g:Rat):Rat:=((g-riseQ h a b)/h-firQ h a b f)/h
def cubQ(h a b f g:Rat):List Rat:=trimR (padR (trimR [a,f,firQ h a b f]) (trimR (cnv [0,0,secQ h a b f g] [-h,1])))
def cub1(h a b f g x:Rat):Rat:=a+f*x+firQ h a b f*x*x+secQ h a b f g*x*x*(x-h)
def cub2(h a b f g x:Rat):Rat:=f+2*firQ h a b f*x+secQ h a b f g*(3*x*x-2*h*x)
section
variable{T:Tbl}[CNat T][CProd T][CTwos T][CQuot T][CQuotD T][CText T][CWhole T][CCommon T][CFrac T][CJoin T][CRow T][CRef02 T][CRef04 T][CRef05 T][CRef07 T][CRef06 T][CRef08 T][CRef09 T][CRef11 T][CRef14 T][CRef41 T]
def cubV(sl:Bool)(h a b f g x:Rat):Rat:=if sl then cub2 h a b f g x else cub1 h a b f g x
def atQ(sl:Bool)(h x:Rat)(y0 y1 f0 f1:List Rat):List Rat:=(List.range y0.length).map fun i=>cubV sl h (y0.getD i 0) (y1.getD i 0) (f0.getD i 0) (f1.getD i 0) x
theorem zbu(sl:Bool)(h x:Rat)(y0 y1 f0 f1:List Rat):(atQ sl h x y0 y1 f0 f1).length=y0.length:=by simp[atQ]
def stAt(sl:Bool)(t:Fz)(h x:Rat)(y0 y1 f0 f1:List Rat)(i:Nat):St:=
 ⟨[(2,.b sl),(3,.ptr (.loc 3) 1 10 0 0),(7,.bs (.loc 7) 2 3 0 i),(8,.ptr (.loc 8) 3 3 0 0),(9,.i .i64 i)],
  [(.loc 3,⟨1,.str,10,[[.b t.1,.sl (u32s t.2.1) .an,.sl (u32s t.2.2) .an,.b (fz h).1,.sl (u32s (fz h).2.1) .an,.sl (u32s (fz h).2.2) .an,.sl (rowF (fzs y0)) .an,.sl (rowF (fzs y1)) .an,.sl (rowF (fzs f0)) .an,.sl (rowF (fzs f1)) .an]]⟩),
   (.loc 7,⟨2,.own,3,rowF (fzs ((atQ sl h x y0 y1 f0 f1).take i))⟩),(.loc 8,⟨3,.str,3,[celF (fz x)]⟩)],5⟩
end
def longS(t h:Fz)(y0 y1 f0 f1:List Fz):Bool:=decide (2<fsz t) || decide (2<fsz h) || longB y0 4 2 || longB y1 4 2 || longB f0 4 2 || longB f1 4 2
theorem zgq(c:Rat)(acc:List Rat)(r:List Fz)(i:Nat)(hi:i<acc.length)(hr:r.length=acc.length):(mixP c acc r).getD i 0=acc.getD i 0+c*(r.map fv).getD i 0:=by
 have h1:i<(mixP c acc r).length:=by rw[zbz hr];exact hi
 rw[List.getD_eq_getElem?_getD,List.getElem?_eq_getElem h1,List.getD_eq_getElem?_getD,List.getElem?_eq_getElem hi,List.getD_eq_getElem?_getD,List.getElem?_eq_getElem (show i<(r.map fv).length by simp;omega)]
 simp[mixP]
theorem zom(c0 c1 c2 c3:Rat)(y0 y1 f0 f1:List Fz)(l1:y1.length=y0.length)(l2:f0.length=y0.length)(l3:f1.length=y0.length)(i:Nat)(hi:i<y0.length) :
  (mix4 [c0,c1,c2,c3] y0 y1 f0 f1).getD i 0=c0*(y0.map fv).getD i 0+c1*(y1.map fv).getD i 0+c2*(f0.map fv).getD i 0+c3*(f1.map fv).getD i 0:=by
 have e:mix4 [c0,c1,c2,c3] y0 y1 f0 f1=mixP c3 (mixP c2 (mixP c1 (mixP c0 (List.replicate y0.length 0) y0) y1) f0) f1:=by
  simp[mix4,mixF,fzs]
 have n0:(mixP c0 (List.replicate y0.length 0) y0).length=y0.length:=by rw[zbz (by simp)];simp
 have n1:(mixP c1 (mixP c0 (List.replicate y0.length 0) y0) y1).length=y0.length:=by rw[zbz (by rw[n0,l1]),n0]
 have n2:(mixP c2 (mixP c1 (mixP c0 (List.replicate y0.length 0) y0) y1) f0).length=y0.length:=by rw[zbz (by rw[n1,l2]),n1]
 rw[e,zgq _ _ _ _ (by omega) (by omega),zgq _ _ _ _ (by omega) (by omega),zgq _ _ _ _ (by omega) (by omega),zgq _ _ _ _ (by simp;omega) (by simp)]
 have z:(List.replicate y0.length (0:Rat)).getD i 0=0:=by
  rw[List.getD_eq_getElem?_getD,List.getElem?_eq_getElem (by simpa using hi)]
  simp
 rw[z,Rat.zero_add]
theorem zon(c:List Rat)(hc:c.length=4)(y0 y1 f0 f1:List Fz)(l1:y1.length=y0.length)(l2:f0.length=y0.length)(l3:f1.length=y0.length):(mix4 c y0 y1 f0 f1).length=y0.length:=by
 unfold mix4
 rw[zgr _ _ (fun q hq=>by
  have:=(List.of_mem_zip hq).2
  rw[List.length_replicate]
  simp only[List.mem_cons,List.not_mem_nil,or_false]at this
  rcases this with h | h | h | h<;>rw[h]<;>omega),List.length_replicate]
theorem zwe{h u:Rat}(hh:h≠0)(a b f g:Rat):(1 + -1*u)*(1 + -1*u)*(1+2*u)*a+u*u*(3 + -2*u)*b+h*u*(1 + -1*u)*(1 + -1*u)*f+h*u*u * -(1 + -1*u)*g=cub1 h a b f g (h*u):=by
 unfold cub1 secQ firQ riseQ
 grind
theorem zwf{h u:Rat}(hh:h≠0)(a b f g:Rat):-(6*u*(1 + -1*u)/h)*a+6*u*(1 + -1*u)/h*b+(1 + -1*u)*(1 + -3*u)*f+u*(-2+3*u)*g=cub2 h a b f g (h*u):=by
 unfold cub2 secQ firQ riseQ
 grind
theorem ztj{t h s:Rat}(hh:h≠0):h*prtQ t h s=s-t:=by
 unfold prtQ
 grind
theorem zec{a b:List Rat}(hl:a.length=b.length)(h:∀i,i<a.length→a.getD i 0=b.getD i 0):a=b:=by
 refine List.ext_getElem hl fun i h1 h2=>?_
 have:=h i h1
 rw[List.getD_eq_getElem?_getD,List.getElem?_eq_getElem h1,List.getD_eq_getElem?_getD,List.getElem?_eq_getElem h2]at this
 exact this
theorem znf(sl:Bool)(h x:Rat)(y0 y1 f0 f1:List Rat)(i:Nat)(hi:i<y0.length):(atQ sl h x y0 y1 f0 f1).getD i 0=cubV sl h (y0.getD i 0) (y1.getD i 0) (f0.getD i 0) (f1.getD i 0) x:=by
 rw[List.getD_eq_getElem?_getD,List.getElem?_eq_getElem (by rw[zbu];exact hi),Option.getD_some]
 simp only[atQ,List.getElem_map,List.getElem_range]
theorem ztk{t h s:Rat}(hh:h≠0)(y0 y1 f0 f1:List Fz)(l1:y1.length=y0.length)(l2:f0.length=y0.length)(l3:f1.length=y0.length) :
  mix4 (facA h (prtQ t h s) (1 + -1*prtQ t h s)) y0 y1 f0 f1=atQ false h (s-t) (y0.map fv) (y1.map fv) (f0.map fv) (f1.map fv):=by
 have hm:=zon (facA h (prtQ t h s) (1 + -1*prtQ t h s)) rfl y0 y1 f0 f1 l1 l2 l3
 refine zec (by rw[zbu,List.length_map,hm]) fun i hi=>?_
 rw[hm]at hi
 rw[znf _ _ _ _ _ _ _ _ (by simpa using hi)]
 unfold facA
 rw[zom _ _ _ _ _ _ _ _ l1 l2 l3 i hi,zwe hh,ztj hh]
 rfl
theorem z0a{t h s:Rat}(hh:h≠0)(y0 y1 f0 f1:List Fz)(l1:y1.length=y0.length)(l2:f0.length=y0.length)(l3:f1.length=y0.length) :
  mix4 (facS h (prtQ t h s) (1 + -1*prtQ t h s)) y0 y1 f0 f1=atQ true h (s-t) (y0.map fv) (y1.map fv) (f0.map fv) (f1.map fv):=by
 have hm:=zon (facS h (prtQ t h s) (1 + -1*prtQ t h s)) rfl y0 y1 f0 f1 l1 l2 l3
 refine zec (by rw[zbu,List.length_map,hm]) fun i hi=>?_
 rw[hm]at hi
 rw[znf _ _ _ _ _ _ _ _ (by simpa using hi)]
 unfold facS
 rw[zom _ _ _ _ _ _ _ _ l1 l2 l3 i hi,zwf hh,ztj hh]
 rfl
theorem zwg{h:Rat}(hh:h≠0)(a b f g:Rat):cub1 h a b f g 0=a∧cub1 h a b f g h=b∧cub2 h a b f g 0=f∧cub2 h a b f g h=g:=by
 unfold cub1 cub2 secQ firQ riseQ
 refine⟨by grind,by grind,by grind,by grind⟩
theorem sz2:sz 2≤1:=zz9 (by decide) (by decide)
section
variable{T:Tbl}[CNat T][CProd T][CTwos T][CQuot T][CQuotD T][CText T][CWhole T][CCommon T][CFrac T][CFrac2 T][CJoin T][CRow T][CSpan T][CRef02 T][CRef04 T][CRef05 T][CRef07 T][CRef06 T][CRef08 T][CRef09 T][CRef11 T][CRef14 T][CRef41 T][CLaw09 T][CLaw11 T][CLaw41 T]
theorem zng:callF T 323 []=some (.b true):=by
 have k0:=zcz (T:=T) 0 (by decide) (by decide)
 have k1:=zcz (T:=T) 1 (by decide) (by decide)
 have k2:=zcz (T:=T) 2 (by decide) (by decide)
 have k8:=zcz (T:=T) 8 (by decide) (by decide)
 have k12:=zcz (T:=T) 12 (by decide) (by decide)
 have s8:sz 8≤1:=zz9 (by decide) (by decide)
 have s12:sz 12≤1:=zz9 (by decide) (by decide)
 have s2:=sz2
 have s0:=zh3
 have s1:=zi9
 have hr:rightS (fz 2) [fz 0] [fz 8] [fz 0] [fz 12]=true:=by
  unfold rightS
  rw[zbo]
  decide +kernel
 have hw:∀r∈[[fz 0],[fz 8],[fz 0],[fz 12]],∀x∈r,fsz x≤89:=by
  intro r hr x hx
  simp only[List.mem_cons,List.not_mem_nil,or_false]at hr
  rcases hr with rfl | rfl | rfl | rfl<;>simp only[List.mem_cons,List.not_mem_nil,or_false]at hx<;>subst hx<;>rw[za0]<;>omega
 have c1:=zuo (T:=T) (fz 0) (fz 2) (fz 1) [fz 0] [fz 8] [fz 0] [fz 12] (by rw[za0];omega) (by rw[za0];omega) (by rw[za0];omega) hr hw
 have c2:=zqu (T:=T) (fz 0) (fz 2) (fz 1) [fz 0] [fz 8] [fz 0] [fz 12] (by rw[za0];omega) (by rw[za0];omega) (by rw[za0];omega) hr hw
 simp only[zbo]at c1 c2
 rw[ztk (t:=0) (h:=2) (s:=1) (by decide +kernel) [fz 0] [fz 8] [fz 0] [fz 12] rfl rfl rfl]at c1
 rw[z0a (t:=0) (h:=2) (s:=1) (by decide +kernel) [fz 0] [fz 8] [fz 0] [fz 12] rfl rfl rfl]at c2
 simp only[List.map_cons,List.map_nil,zbo]at c1 c2
 have e1:atQ false 2 (1-0) [0] [8] [0] [12]=[1]:=by decide +kernel
 have e2:atQ true 2 (1-0) [0] [8] [0] [12]=[3]:=by decide +kernel
 rw[e1]at c1
 rw[e2]at c2
 have t1:=zos (T:=T) (fzs [1]) (by decide) (zll fun q hq=>by
  simp only[List.mem_cons,List.not_mem_nil,or_false]at hq
  rw[hq,zi9];decide)
 have t2:=zos (T:=T) (fzs [3]) (by decide) (zll fun q hq=>by
  simp only[List.mem_cons,List.not_mem_nil,or_false]at hq
  rw[hq];exact Nat.le_trans sz3 (by decide))
 have w1:List.intercalate [44] (txts (fzs [1]))=[49]:=by
  have e1:=zlm 1 (by decide)
  simp only[txts,fzs,List.map_cons,List.map_nil,zbo]
  rw[show (1:Rat)=((1:Nat):Rat) from rfl,e1]
  rfl
 have w2:List.intercalate [44] (txts (fzs [3]))=[51]:=by
  have e1:=zlm 3 (by decide)
  simp only[txts,fzs,List.map_cons,List.map_nil,zbo]
  rw[show (3:Rat)=((3:Nat):Rat) from rfl,e1]
  rfl
 rw[w1]at t1
 rw[w2]at t2
 have r0:rowF [fz 0]=[celF (fz 0)]:=rfl
 have r8:rowF [fz 8]=[celF (fz 8)]:=rfl
 have r12:rowF [fz 12]=[celF (fz 12)]:=rfl
 simp only[agS,r0,r8,r12]at c1 c2
 have q0:((0:Int):Rat)=0:=rfl
 have q1:((1:Int):Rat)=1:=rfl
 have q2:((2:Int):Rat)=2:=rfl
 have q8:((8:Int):Rat)=8:=rfl
 have q12:((12:Int):Rat)=12:=rfl
 rw[q0]at k0
 rw[q1]at k1
 rw[q2]at k2
 rw[q8]at k8
 rw[q12]at k12
 clear hr hw e1 e2 w1 w2 r0 r8 r12 s0 s1 s2 s8 s12 q0 q1 q2 q8 q12
 generalize fzs [1]=L1 at *
 generalize fzs [3]=L3 at *
 generalize fz 0=Z0 at *
 generalize fz 1=Z1 at *
 generalize fz 2=Z2 at *
 generalize fz 8=Z8 at *
 generalize fz 12=Z12 at *
 rw[f323 _ rfl,b323]
 simp -implicitDefEqProofs[k0,k1,k2,k8,k12,c1,c2,t1,t2]
end
class CLaw41e (T:Tbl):Prop where
theorem zad2{h:Rat}(hh:h≠0)(y0 y1 f0 f1:List Rat)(l1:y1.length=y0.length)(l2:f0.length=y0.length)(l3:f1.length=y0.length) :
  atQ false h 0 y0 y1 f0 f1=y0∧atQ false h h y0 y1 f0 f1=y1∧atQ true h 0 y0 y1 f0 f1=f0∧atQ true h h y0 y1 f0 f1=f1:=by
 refine⟨zec (by rw[zbu]) fun i hi=>?_,zec (by rw[zbu,l1]) fun i hi=>?_,zec (by rw[zbu,l2]) fun i hi=>?_,zec (by rw[zbu,l3]) fun i hi=>?_⟩ <;>
  rw[zbu]at hi<;>rw[znf _ _ _ _ _ _ _ _ hi]
 ·exact(zwg hh _ _ _ _).1
 ·exact(zwg hh _ _ _ _).2.1
 ·exact(zwg hh _ _ _ _).2.2.1
 ·exact(zwg hh _ _ _ _).2.2.2
def plQ(a0 a1 a2 a3 x:Rat):Rat:=a0+a1*x+a2*x*x+a3*x*x*x
def dlQ(a1 a2 a3 x:Rat):Rat:=a1+2*a2*x+3*a3*x*x
abbrev flt0:AV:=.agg [.i .i64 0,.i .i64 0,.i .i64 0,.i .i64 0]
abbrev agS0:AV:=agS (false,[],[]) (false,[],[]) [] [] [] []
def celPb(p:Pb):List AV:=[.sl (rowI p.t.code) .an,.sl (ints p.t.outs) .an,.i .i64 p.t.dim,.i .i64 p.t.par,.s p.s.nm,.sl (rowF p.s.c) .an,.sl (matF p.s.a) .an,.sl (rowF p.s.b) .an,.sl (rowF p.s.e) .an,.sl (rowF p.p) .an,.i .i64 p.bits]
def celS0:List AV:=[.b false,.sl [] .an,.sl [] .an,.b false,.sl [] .an,.sl [] .an,.sl [] .an,.sl [] .an,.sl [] .an,.sl [] .an]
def ofR(A B:List Rat×Nat×Nat)(i:Nat)(t u:Fz)(y z:List Fz):AV:=
 if A.2.1≠0 then .tup [agS0,fltA A.2.1 (i+1:Nat) 0 A.2.2]
 else if B.2.1≠0 then .tup [agS0,fltA B.2.1 (i+2:Nat) 0 B.2.2]
 else .tup [agS t (fz (fv u-fv t)) y z (fzs A.1) (fzs B.1),flt0]
theorem zl9{lim:Nat}{t:Tp}{P:Po}(h:(fieldR lim t P).2.1=0):(fieldR lim t P).2.2=0:=by
 unfold fieldR at h ⊢
 by_cases hk:(tapeR lim t P).2.1=0
 ·rw[if_pos hk]at h ⊢
 ·rw[if_neg hk]at h;exact absurd h hk
section
variable{T:Tbl}[CLimb T][CNat T][CProd T][CTwos T][CQuot T][CQuotD T][CWhole T][CCommon T][CFrac T][CFrac3 T][CFrac5 T][CPow T][CTape T][CGauge T][CEval T][CRun T][CIfc T][CDigits T][CText T][CJoin T][CRow T][CPast T][CPast2 T][CLex T][CScheme T][CStep T][CSpan T][CSpan2 T]
def stOf(p:Pb)(i k:Nat)(ts:List Fz)(ys:List (List Fz))(A0 A1:List (List AV)):St:=
 ⟨[(2,.i .i64 i),(3,.ptr (.loc 3) 1 11 0 0),(6,.ptr (.loc 6) 2 10 0 0),(7,.ptr (.loc 7) 3 4 0 0),(9,.sl (rowF ts) .an),(10,.sl (matF ys) .an),(11,.ptr (.loc 11) 4 2 0 0),(51,.i .i64 k)],
  [(.loc 3,⟨1,.str,11,[celPb p]⟩),(.loc 6,⟨2,.str,10,[celS0]⟩),(.loc 7,⟨3,.str,4,[[.i .i64 0,.i .i64 0,.i .i64 0,.i .i64 0]]⟩),(.loc 11,⟨4,.str,2,[[.sl A0 .an,.sl A1 .an]]⟩)],6⟩
def endF(k s a:Int):Ex×St:=(.r,⟨[(6,.ptr (.loc 6) 1 10 0 0),(7,.ptr (.loc 7) 2 4 0 0)],[(.loc 6,⟨1,.str,10,[celS0]⟩),(.loc 7,⟨2,.str,4,[[.i .i64 k,.i .i64 s,.i .i64 0,.i .i64 a]]⟩)],4⟩)
theorem zup(p:Pb)(i:Nat)(ts:List Fz)(ys:List (List Fz))(A0 A1 F:List (List AV))(t:Fz)(y:List Fz)(h1:ts[i]? = some t)(h2:ys[i]? = some y)(hi:i≤2000)(hF:wkL F=F)(hA:wkL A1=A1)
  (c:callF T 577 [epb p,efz t,.sl (rowF y) .an]=some (.tup [.sl F .an,flt0])):evX (orc T) T 0 l569_0 (stOf p i 0 ts ys A0 A1)=some (.n,stOf p i 1 ts ys F A1):=by
 obtain⟨l1,e1⟩:=List.getElem?_eq_some_iff.1 h1
 obtain⟨l2,e2⟩:=List.getElem?_eq_some_iff.1 h2
 have w0:IntKind.wrap .i64 (i:Int)=i:=zac _ (by omega)
 have l1':(i:Int)<ts.length:=by omega
 have l2':(i:Int)<ys.length:=by omega
 unfold stOf celPb celS0
 obtain⟨⟨code,outs,dim,par⟩,⟨nm,c',a,b,e⟩,pp,bits⟩:=p
 obtain⟨t1,t2,t3⟩:=t
 dsimp only at *
 simp -implicitDefEqProofs[l569_0,h1,h2,e1,e2,l1,l2,l1',l2',w0,c,hF,hA]
theorem zuq(p:Pb)(i:Nat)(ts:List Fz)(ys:List (List Fz))(A0 A1 F:List (List AV))(t:Fz)(y:List Fz)(h1:ts[i+1]? = some t)(h2:ys[i+1]? = some y)(hi:i≤2000)(hF:wkL F=F)(hA:wkL A0=A0)
  (c:callF T 577 [epb p,efz t,.sl (rowF y) .an]=some (.tup [.sl F .an,flt0])):evX (orc T) T 0 l569_0 (stOf p i 1 ts ys A0 A1)=some (.n,stOf p i 2 ts ys A0 F):=by
 obtain⟨l1,e1⟩:=List.getElem?_eq_some_iff.1 h1
 obtain⟨l2,e2⟩:=List.getElem?_eq_some_iff.1 h2
 have w0:IntKind.wrap .i64 ((i:Int)+1)=((i+1:Nat):Int):=zac _ (by omega)
 have l1':(i:Int)+1<ts.length:=by omega
 have l2':(i:Int)+1<ys.length:=by omega
 have n1:((i:Int)+1).toNat=i+1:=by omega
 unfold stOf celPb celS0
 obtain⟨⟨code,outs,dim,par⟩,⟨nm,c',a,b,e⟩,pp,bits⟩:=p
 obtain⟨t1,t2,t3⟩:=t
 dsimp only at *
 simp -implicitDefEqProofs[l569_0,h1,h2,e1,e2,l1,l2,l1',l2',w0,n1,c,hF,hA]
theorem z0u(p:Pb)(i:Nat)(ts:List Fz)(ys:List (List Fz))(A0 A1 F:List (List AV))(t:Fz)(y:List Fz)(kd a:Nat)(hk:kd≠0)(h1:ts[i]? = some t)(h2:ys[i]? = some y)(hi:i≤2000)(hF:wkL F=F)
  (c:callF T 577 [epb p,efz t,.sl (rowF y) .an]=some (.tup [.sl F .an,fltA kd 0 0 a])):isEx (evX (orc T) T 0 l569_0 (stOf p i 0 ts ys A0 A1))=true∧finX 0 0 (.norm false [2,6,7,9,10,11]) (evX (orc T) T 0 l569_0 (stOf p i 0 ts ys A0 A1))=some (endF kd (i+1:Nat) a):=by
 obtain⟨l1,e1⟩:=List.getElem?_eq_some_iff.1 h1
 obtain⟨l2,e2⟩:=List.getElem?_eq_some_iff.1 h2
 have w0:IntKind.wrap .i64 (i:Int)=i:=zac _ (by omega)
 have w1:IntKind.wrap .i64 ((i:Int)+1)=((i+1:Nat):Int):=zac _ (by omega)
 have l1':(i:Int)<ts.length:=by omega
 have l2':(i:Int)<ys.length:=by omega
 have hk':¬ (kd:Int)=0:=by omega
 unfold stOf celPb endF celS0
 obtain⟨⟨code,outs,dim,par⟩,⟨nm,c',a,b,e⟩,pp,bits⟩:=p
 obtain⟨t1,t2,t3⟩:=t
 dsimp only at *
 constructor<;>simp -implicitDefEqProofs[l569_0,h1,h2,e1,e2,l1,l2,l1',l2',w0,w1,c,hF,hk,hk']
theorem z0v(p:Pb)(i:Nat)(ts:List Fz)(ys:List (List Fz))(A0 A1 F:List (List AV))(t:Fz)(y:List Fz)(kd a:Nat)(hk:kd≠0)(h1:ts[i+1]? = some t)(h2:ys[i+1]? = some y)(hi:i≤2000)(hF:wkL F=F)
  (c:callF T 577 [epb p,efz t,.sl (rowF y) .an]=some (.tup [.sl F .an,fltA kd 0 0 a])):isEx (evX (orc T) T 0 l569_0 (stOf p i 1 ts ys A0 A1))=true∧finX 0 0 (.norm false [2,6,7,9,10,11]) (evX (orc T) T 0 l569_0 (stOf p i 1 ts ys A0 A1))=some (endF kd (i+2:Nat) a):=by
 obtain⟨l1,e1⟩:=List.getElem?_eq_some_iff.1 h1
 obtain⟨l2,e2⟩:=List.getElem?_eq_some_iff.1 h2
 have w0:IntKind.wrap .i64 ((i:Int)+1)=((i+1:Nat):Int):=zac _ (by omega)
 have w1:IntKind.wrap .i64 ((i:Int)+1+1)=((i+2:Nat):Int):=zac _ (by omega)
 have l1':(i:Int)+1<ts.length:=by omega
 have l2':(i:Int)+1<ys.length:=by omega
 have n1:((i:Int)+1).toNat=i+1:=by omega
 have hk':¬ (kd:Int)=0:=by omega
 unfold stOf celPb endF celS0
 obtain⟨⟨code,outs,dim,par⟩,⟨nm,c',a,b,e⟩,pp,bits⟩:=p
 obtain⟨t1,t2,t3⟩:=t
 dsimp only at *
 constructor<;>simp -implicitDefEqProofs[l569_0,h1,h2,e1,e2,l1,l2,l1',l2',w0,w1,n1,c,hF,hk,hk']
def endO(i:Nat)(ts:List Fz)(ys:List (List Fz))(A0 A1:List (List AV)):Ex×St:=
 (.n,⟨[(2,.i .i64 i),(6,.ptr (.loc 6) 1 10 0 0),(7,.ptr (.loc 7) 2 4 0 0),(9,.sl (rowF ts) .an),(10,.sl (matF ys) .an),(11,.ptr (.loc 11) 3 2 0 0)],
  [(.loc 6,⟨1,.str,10,[celS0]⟩),(.loc 7,⟨2,.str,4,[[.i .i64 0,.i .i64 0,.i .i64 0,.i .i64 0]]⟩),(.loc 11,⟨3,.str,2,[[.sl A0 .an,.sl A1 .an]]⟩)],5⟩)
theorem z55(p:Pb)(i:Nat)(ts:List Fz)(ys:List (List Fz))(A0 A1:List (List AV))(h0:wkL A0=A0)(h1:wkL A1=A1):isEx (evX (orc T) T 0 l569_0 (stOf p i 2 ts ys A0 A1))=true∧finX 0 0 (.norm false [2,6,7,9,10,11]) (evX (orc T) T 0 l569_0 (stOf p i 2 ts ys A0 A1))=some (endO i ts ys A0 A1):=by
 unfold stOf celPb endO celS0
 constructor<;>simp -implicitDefEqProofs[l569_0,h0,h1]
theorem z0w(p:Pb)(i:Nat)(ts:List Fz)(ys:List (List Fz))(t u:Fz)(y z:List Fz)(A B:List Rat×Nat×Nat)(g1:ts[i]? = some t)(g2:ys[i]? = some y)(g3:ts[i+1]? = some u)(g4:ys[i+1]? = some z)(hi:i≤2000)
  (c1:callF T 577 [epb p,efz t,.sl (rowF y) .an]=some (.tup [.sl (rowF (fzs A.1)) .an,fltA A.2.1 0 0 A.2.2])) (c2:callF T 577 [epb p,efz u,.sl (rowF z) .an]=some (.tup [.sl (rowF (fzs B.1)) .an,fltA B.2.1 0 0 B.2.2]))
  (ha:A.2.1=0→A.2.2=0) (hb:B.2.1=0→B.2.2=0) :
  loopN T 0 0 (.norm false [2,6,7,9,10,11]) l569_0 (stOf p i 0 ts ys [] [])=some (if A.2.1≠0 then endF A.2.1 (i+1:Nat) A.2.2 else if B.2.1≠0 then endF B.2.1 (i+2:Nat) B.2.2 else endO i ts ys (rowF (fzs A.1)) (rowF (fzs B.1))):=by
 by_cases hA:A.2.1=0
 ·rw[if_neg (by simpa using hA)]
  rw[hA,ha hA]at c1
  have r0:=zup (T:=T) p i ts ys [] [] _ t y g1 g2 hi (zbi (fzs A.1)) rfl c1
  by_cases hB:B.2.1=0
  ·rw[if_neg (by simpa using hB)]
   rw[hB,hb hB]at c2
   have r1:=zuq (T:=T) p i ts ys (rowF (fzs A.1)) [] _ u z g3 g4 hi (zbi (fzs B.1)) (zbi _) c2
   have r2:=z55 (T:=T) p i ts ys (rowF (fzs A.1)) (rowF (fzs B.1)) (zbi _) (zbi _)
   refine za8 (α:=Nat) (fun k=>stOf p i k ts ys (if k=0 then [] else rowF (fzs A.1)) (if k=2 then rowF (fzs B.1) else [])) (fun k=>k≤2) (fun k=>2-k) (fun _=>_) (fun k hk=>?_) 0 (by decide)
   rcases(show k=0∨k=1∨k=2 by omega) with rfl | rfl | rfl
   ·exact .inl ⟨1,by decide,by decide,r0,rfl⟩
   ·exact .inl ⟨2,by decide,by decide,r1,rfl⟩
   ·exact .inr r2
  ·rw[if_pos hB]
   have r1:=z0v (T:=T) p i ts ys (rowF (fzs A.1)) [] _ u z _ _ hB g3 g4 hi (zbi (fzs B.1)) c2
   refine za8 (α:=Nat) (fun k=>stOf p i k ts ys (if k=0 then [] else rowF (fzs A.1)) []) (fun k=>k≤1) (fun k=>1-k) (fun _=>_) (fun k hk=>?_) 0 (by decide)
   rcases(show k=0∨k=1 by omega) with rfl | rfl
   ·exact .inl ⟨1,by decide,by decide,r0,rfl⟩
   ·exact .inr r1
 ·rw[if_pos hA]
  have r0:=z0u (T:=T) p i ts ys [] [] _ t y _ _ hA g1 g2 hi (zbi (fzs A.1)) c1
  exact za8 (α:=Nat) (fun k=>stOf p i 0 ts ys [] []) (fun k=>k=0) (fun k=>k) (fun _=>_) (fun k hk=>.inr r0) 0 rfl
theorem z0x(p:Pb)(h:Hs)(i:Nat)(hp:PbS p)(hh:HsS h 400)(hR:rightH h=true)(hP:okP p=true)(hd:(h.y.length:Int)=p.t.dim)(t u:Fz)(y z:List Fz)
  (g1:(nodeT h)[i]? = some t) (g2:(nodeY h)[i]? = some y) (g3:(nodeT h)[i+1]? = some u) (g4:(nodeY h)[i+1]? = some z) :
  callF T 569 [epb p,ehs h,.i .i64 i]=some (ofR (slopeP p t y) (slopeP p u z) i t u y z):=by
 have c1:=zc8 (T:=T) h hh
 have c2:=zdb (T:=T) p hp
 have c3:=zc9 (T:=T) h (hh.mono (by decide))
 rw[hR]at c1
 rw[hP]at c2
 have hB:HsS h 1000:=hh.mono (by decide)
 have zt:=zdq hh (by decide) t (List.mem_of_getElem? g1)
 have zu:=zdq hh (by decide) u (List.mem_of_getElem? g3)
 obtain⟨zy,ly⟩:=zfm hB (by decide) y (List.mem_of_getElem? g2)
 obtain⟨zz,lz⟩:=zfm hB (by decide) z (List.mem_of_getElem? g4)
 have s1:=zhy (T:=T) p t y hp (by omega) zy ly
 have s2:=zhy (T:=T) p u z hp (by omega) zz lz
 rw[if_pos hP]at s1 s2
 have hlen:=zhw hh
 obtain⟨l1,e1⟩:=List.getElem?_eq_some_iff.1 g1
 obtain⟨l3,e3⟩:=List.getElem?_eq_some_iff.1 g3
 obtain⟨l2,e2⟩:=List.getElem?_eq_some_iff.1 g2
 obtain⟨l4,e4⟩:=List.getElem?_eq_some_iff.1 g4
 have lp:=z0w (T:=T) p i (nodeT h) (nodeY h) t u y z (slopeP p t y) (slopeP p u z) g1 g2 g3 g4 (by omega) s1 s2 zl9 zl9
 have c5:=zjx (T:=T) u t (by omega) (by omega)
 have w0:IntKind.wrap .i64 (((nodeT h).length:Int)-1)=(nodeT h).length-1:=zac _ (by omega)
 have w1:IntKind.wrap .i64 ((i:Int)+1)=((i+1:Nat):Int):=zac _ (by omega)
 have k1:¬ ((nodeT h).length:Int)-1≤i:=by omega
 have k2:¬ (i:Int)<0:=by omega
 have l1':(i:Int)<(nodeT h).length:=by omega
 have l2':(i:Int)<(nodeY h).length:=by omega
 have l3':(i:Int)+1<(nodeT h).length:=by omega
 have l4':(i:Int)+1<(nodeY h).length:=by omega
 have n1:((i:Int)+1).toNat=i+1:=by omega
 unfold ofR
 unfold stOf celPb at lp
 simp only[Int.natCast_zero]at lp
 rw[f569 _ rfl,b569]
 clear hp hh hR hP hB zt zu zy ly zz lz s1 s2 hlen
 generalize slopeP p t y=A at *
 generalize slopeP p u z=B at *
 generalize nodeT h=TS at *
 generalize nodeY h=YS at *
 generalize fz (fv u-fv t)=D at *
 obtain⟨A1,A2,A3⟩:=A
 obtain⟨B1,B2,B3⟩:=B
 obtain⟨⟨code,outs,dim,par⟩,⟨nm,c',a,b,e⟩,pp,bits⟩:=p
 obtain⟨L,ht,hy⟩:=h
 obtain⟨t1,t2,t3⟩:=t
 obtain⟨u1,u2,u3⟩:=u
 dsimp only at *
 by_cases hA:A2=0
 ·rw[if_neg (by simpa using hA)]at lp ⊢
  by_cases hB:B2=0
  ·rw[if_neg (by simpa using hB)]at lp ⊢
   unfold endO celS0 at lp
   simp -implicitDefEqProofs[c1,c2,c3,hd,g1,g2,g3,g4,e1,e2,e3,e4,l1,l2,l3,l4,l1',l2',l3',l4',w0,w1,k1,k2,n1,lp,c5]
  ·rw[if_pos hB]at lp ⊢
   unfold endF celS0 at lp
   simp -implicitDefEqProofs[c1,c2,c3,hd,w0,k1,k2,lp]
 ·rw[if_pos hA]at lp ⊢
  unfold endF celS0 at lp
  simp -implicitDefEqProofs[c1,c2,c3,hd,w0,k1,k2,lp]
end
def valN(l:List Tr)(t:Fz):List Rat:=(l.filter (·.ok)).map (fun r=>fv r.t)++[fv t]
theorem zoy:∀(l:List Tr) (t:Fz) (y:List Fz),chainL l t y=true→l.all sizeR=true→List.Pairwise (· < ·) (valN l t)∧∀q∈valN l t,fv (nextH l t y).1≤q
 | [],t,y,_,_=>⟨by simp[valN],fun q hq=>by simp[valN]at hq;rw[hq];exact Rat.le_refl⟩
 | r::l,t,y,hc,hs=>by
  simp only[chainL,Bool.and_eq_true]at hc
  simp only[List.all_cons,Bool.and_eq_true]at hs
  obtain⟨h1,h2⟩:=zoy l t y hc.2 hs.2
  have hz:=hs.1
  unfold sizeR at hz
  simp only[Bool.and_eq_true,decide_eq_true_eq]at hz
  have hpos:0<fv r.h:=hz.1.1.2
  have hf:=hc.1
  unfold follB at hf
  have e0:(nextH (r::l) t y).1=r.t:=rfl
  rw[e0]
  cases hok:r.ok with
  | true=>
   rw[hok]at hf
   simp only[if_true,decide_eq_true_eq]at hf
   have ev:valN (r::l) t=fv r.t::valN l t:=by unfold valN;rw[List.filter_cons,hok];rfl
   rw[ev]
   have hlt:∀q∈valN l t,fv r.t<q:=fun q hq=>by have:=h2 q hq;rw[hf]at this;grind
   exact⟨List.pairwise_cons.2 ⟨hlt,h1⟩,fun q hq=>by
    rcases List.mem_cons.1 hq with rfl | hq
    ·exact Rat.le_refl
    ·exact Rat.le_of_lt (hlt q hq)⟩
  | false=>
   rw[hok]at hf
   simp only[Bool.false_eq_true,if_false,Bool.and_eq_true,decide_eq_true_eq]at hf
   have ev:valN (r::l) t=valN l t:=by unfold valN;rw[List.filter_cons,hok];rfl
   rw[ev,←hf.1]
   exact⟨h1,h2⟩
theorem zur(h:Hs):(nodeT h).map fv=valN h.l h.t:=by
 unfold nodeT valN accH nrmR
 simp[List.map_map,Function.comp_def]
theorem zi2{h:Hs}(e:rightH h=true):plainH h=true∧lensH h=true∧sizesH h=true∧chainH h=true:=by
 unfold rightH wrongH at e
 simp only[decide_eq_true_eq]at e
 cases h1:plainH h<;>simp[h1]at e
 cases h2:lensH h<;>simp[h2]at e
 by_cases h3:200<h.l.length
 ·simp[h3]at e
 cases h4:sizesH h<;>simp[h3,h4]at e
 cases h5:chainH h<;>simp[h3,h5]at e
 exact⟨rfl,rfl,rfl,rfl⟩
theorem zxb{h:Hs}(e:rightH h=true):List.Pairwise (· < ·) ((nodeT h).map fv):=by
 obtain⟨_,_,h3,h4⟩:=zi2 e
 rw[zur]
 exact(zoy h.l h.t h.y h4 h3).1
theorem zma{h:Hs}(e:rightH h=true):∀y∈nodeY h,y.length=h.y.length:=by
 obtain⟨_,h2,_,_⟩:=zi2 e
 unfold lensH at h2
 simp only[Bool.and_eq_true,List.all_eq_true,decide_eq_true_eq]at h2
 intro y hy
 unfold nodeY at hy
 rcases List.mem_append.1 hy with hy | hy
 ·obtain⟨r,hr,rfl⟩:=List.mem_map.1 hy
  unfold accH at hr
  obtain⟨q,hq,rfl⟩:=List.mem_map.1 hr
  have:=h2.1 q (List.mem_filter.1 hq).1
  show (nrm q.y).length=_
  simpa[nrm]using this
 ·rw[List.mem_singleton.1 hy]
  simp[nrm]
theorem zmb:∀(l:List Fz) (i j:Nat) (x:Fz),List.Pairwise (· < ·) (l.map fv)→l[j]? = some x→placeL (fv x) l i=some (i+j)
 | [],i,j,x,_,hj=>by cases hj
 | t::l,i,0,x,_,hj=>by
  cases hj
  rw[placeL,if_pos Rat.le_refl]
  rfl
 | t::l,i,j+1,x,hp,hj=>by
  rw[List.map_cons,List.pairwise_cons]at hp
  have hx:l[j]? = some x:=hj
  have:=hp.1 (fv x) (List.mem_map.2 ⟨x,List.mem_of_getElem? hx,rfl⟩)
  rw[placeL,if_neg (by grind),zmb l (i+1) j x hp.2 hx]
  congr 1
  omega
theorem zqy{ts:List Fz}(hp:List.Pairwise (· < ·) (ts.map fv)){j:Nat}{x:Fz}(hj:ts[j]? = some x)(h2:2≤ts.length):placeN (fv x) ts=some (j-1):=by
 cases ts with
 | nil=>cases hj
 | cons t l=>
  rw[List.map_cons,List.pairwise_cons]at hp
  cases j with
  | zero=>
   cases hj
   show (if fv x<fv x then none else placeL (fv x) l 0)=some 0
   rw[if_neg (by grind)]
   cases l with
   | nil=>simp at h2
   | cons u l=>
    have:=hp.1 (fv u) (by simp)
    rw[placeL,if_pos (Rat.le_of_lt this)]
  | succ j=>
   have hx:l[j]? = some x:=hj
   have:=hp.1 (fv x) (List.mem_map.2 ⟨x,List.mem_of_getElem? hx,rfl⟩)
   show (if fv x<fv t then none else placeL (fv x) l 0)=some j
   rw[if_neg (by grind),zmb l 0 j x hp.2 hx]
   simp
theorem zhx(lim:Nat)(t:Tp)(P:Po):(fieldR lim t P).2.1≠7:=by
 unfold fieldR
 by_cases hk:(tapeR lim t P).2.1=0
 ·rw[if_pos hk];show (0:Nat)≠7;decide
 ·rw[if_neg hk]
  show (tapeR lim t P).2.1≠7
  unfold tapeR
  split
  ·rcases zmj lim P t.code []with h | h | h<;>rw[h]<;>decide
  ·decide
theorem zi3{lim:Nat}{t:Tp}{P:Po}(h:(fieldR lim t P).2.1=0):(fieldR lim t P).1.length=t.outs.length:=by
 unfold fieldR at h ⊢
 by_cases hk:(tapeR lim t P).2.1=0
 ·rw[if_pos hk]
  simp[outsR]
 ·rw[if_neg hk]at h
  exact absurd h hk
theorem zoz{lim:Nat}{P:Po}:∀(l:List Ins) (D:List Rat),(∀q∈D,sz q≤lim/32+1)→∀q∈(runR lim P l D).1,sz q≤lim/32+1
 | [],D,h=>h
 | i::r,D,h=>by
  rw[zce]
  split
  ·simp
  ·split
   ·simp
   ·rename_i hf
    refine zoz r _ fun q hq=>?_
    rcases List.mem_append.1 hq with hq | hq
    ·exact h q hq
    ·rw[List.mem_singleton.1 hq]
     exact zj7 (q:=(valI P D i).1) (b:=lim) (by omega)
theorem zi4{lim:Nat}{t:Tp}{P:Po}:∀q∈(fieldR lim t P).1,sz q≤lim/32+1:=by
 intro q hq
 unfold fieldR at hq
 by_cases hk:(tapeR lim t P).2.1=0
 ·rw[if_pos hk]at hq
  unfold outsR at hq
  obtain⟨o,_,rfl⟩:=List.mem_map.1 hq
  refine zl2 (by omega) ?_
  unfold tapeR
  split
  ·exact zoz t.code [] (by simp)
  ·simp
 ·rw[if_neg hk]at hq
  cases hq
class CLaw11b (T:Tbl):Prop where
class CRow2 (T:Tbl):Prop where
class CFig (T:Tbl):Prop where
def prim344:List AV→Option AV
 | [.s s,.s [47,46]]=>if s.length≤1000000 then some (.i .i64 (Lib.indexAny s [47,46])) else none
 | _=>none
def prim194:List AV→Option AV
 | [.s s,.s [c]]=>some (.i .i64 (Lib.indexByte s c))
 | _=>none
def prim361:List AV→Option AV
 | [.s s,.s [c]]=>some (.i .i64 (Lib.countByte s c))
 | _=>none
def prim343:List AV→Option AV
 | [.s [48],.i .i64 n]=>if 0≤n∧n≤64 then some (.s (List.replicate n.toNat 48)) else none
 | _=>none
class CStr (T:Tbl):Prop where
class CSplit (T:Tbl):Prop where
def splitC(c:UInt8):List UInt8→List (List UInt8)
 | []=>[[]]
 | b::l=>if b=c then []::splitC c l else match splitC c l with
  | []=>[[b]]
  | p::r=>(b::p)::r
section
variable{T:Tbl}[CStr T][CSplit T]
def stSp(c:UInt8)(N:Nat)(ps:List (List UInt8))(s:List UInt8):St:=
 ⟨[(0,.s s),(1,.s [c]),(2,.i .i64 0),(3,.i .i64 ((N:Int)-1)),(9,.bs (.loc 31) 1 1 0 N),(10,.i .i64 ps.length)],[(.loc 31,⟨1,.own,1,rowsT ps++List.replicate (N-ps.length) [.s []]⟩)],3⟩
end
abbrev flt(k a:Int):AV:=.agg [.i .i64 k,.i .i64 0,.i .i64 0,.i .i64 a]
def isCut(c:UInt8):Bool:=c == 47 || c == 46
def cutN:List UInt8→Nat
 | []=>0
 | c::r=>if isCut c then 0 else cutN r+1
def figB(z:Int)(neg:Bool)(s:List UInt8)(c:UInt8)(at_:Nat):Rat×Int×Int:=
 let rest:=s.drop at_
 if 0≤wrongI rest then (0,1,wrongI rest+at_)
 else if c=47 then (if rd rest=0 then (0,2,at_) else (mkRat z (rd rest),0,0))
 else (mkRat (sg neg (z.natAbs*10^rest.length+rd rest)) (10^rest.length),0,0)
def figR(s:List UInt8):Rat×Int×Int:=
 let first:=s.take (cutN s)
 if 0≤wrongZ first then (0,1,wrongZ first+minus first)
 else if cutN s<s.length then figB (readZ first) (s.head? = some 45) s (s.getD (cutN s) 0) (cutN s+1)
 else (mkRat (readZ first) 1,0,0)
def readL:List (List UInt8)→Nat→List Rat→List Rat×Int×Int
 | [],_,acc=>(acc,0,0)
 | w::ws,k,acc=>if (figR w).2.1=0 then readL ws (k+w.length+1) (acc++[(figR w).1]) else ([],(figR w).2.1,(figR w).2.2+k)
def rowR(s:List UInt8):List Rat×Int×Int:=if s=[] then ([],0,0) else readL (splitC 44 s) 0 []
section
variable{T:Tbl}[CLimb T][CNat T][CProd T][CTwos T][CQuot T][CQuotD T][CDigits T][CText T][CWhole T][CCommon T][CFrac T][CFrac2 T][CStr T][CSplit T][CPow T][CFig T][CJoin T][CRow T][CRow2 T]
def stRR(ws:List (List UInt8))(y:Nat×Nat×List Rat):St:=
 ⟨[(3,.ptr (.loc 3) 1 4 0 0),(4,.bs (.loc 4) 2 3 0 y.2.2.length),(5,.i .i64 y.2.1),(14,.sl (rowsT ws) .an),(15,.i .i64 ws.length),(16,.i .i64 y.1)],
  [(.loc 3,⟨1,.str,4,[[.i .i64 0,.i .i64 0,.i .i64 0,.i .i64 0]]⟩),(.loc 4,⟨2,.own,3,rowF (fzs y.2.2)⟩)],4⟩
def resRR(r:List Rat×Int×Int):Option (Ex×St):=
 if r.2.1=0 then some (.n,⟨[(3,.ptr (.loc 3) 1 4 0 0),(4,.bs (.loc 4) 2 3 0 r.1.length)],[(.loc 3,⟨1,.str,4,[[.i .i64 0,.i .i64 0,.i .i64 0,.i .i64 0]]⟩),(.loc 4,⟨2,.own,3,rowF (fzs r.1)⟩)],4⟩)
 else some (.r,⟨[(2,.sl [] .an),(3,.ptr (.loc 3) 1 4 0 0)],[(.loc 3,⟨1,.str,4,[[.i .i64 r.2.1,.i .i64 0,.i .i64 0,.i .i64 r.2.2]]⟩)],3⟩)
end
end Go.Ab
section
namespace Go.Ab
end Go.Ab
end
namespace Go.Ab
def longT(t:Tp)(many words:Nat):Bool:=((t.code.take many).any fun i=>decide (words<fsz i.n)) || decide (many<t.code.length) || decide (many<t.outs.length)
theorem zho{t:Tp}{many words:Nat}(h:longT t many words=false):t.code.length≤many∧t.outs.length≤many∧∀i∈t.code,fsz i.n≤words:=by
 unfold longT at h
 simp only[Bool.or_eq_false_iff,decide_eq_false_iff_not,List.any_eq_false,decide_eq_true_eq]at h
 obtain⟨⟨h1,h2⟩,h3⟩:=h
 rw[List.take_of_length_le (by omega)]at h1
 exact⟨by omega,by omega,fun x hx=>by have:=h1 x hx;omega⟩
def longP(x:PoF)(many words:Nat):Bool:=decide (words<fsz x.t) || longB x.y many words || longB x.p many words
section
variable{T:Tbl}[CRef02 T][CRef04 T][CRef05 T][CRef07 T][CRef06 T][CRef08 T][CRef09 T][CRef11 T][CLaw09 T][CLaw11 T][CLaw24 T]
def stLT(t:Tp)(many words i:Nat):St:=⟨[(1,.i .i64 many),(2,.i .i64 words),(3,.ptr (.loc 3) 1 4 0 0),(7,.i .i64 i)],[(.loc 3,bxT t)],3⟩
def enLT(t:Tp)(many:Nat):Ex×St:=(.n,⟨[(1,.i .i64 many),(3,.ptr (.loc 3) 1 4 0 0)],[(.loc 3,bxT t)],3⟩)
theorem zp4(t:Tp)(many words:Nat)(hm:many≤1000) :
  loopN T 0 0 (.norm false [1,3]) l379_0 (stLT t many words 0)=if (t.code.take many).any (fun i=>decide (words<fsz i.n))=true then some (.r,⟨[(6,.b true)],[],2⟩) else some (enLT t many):=by
 have e0:t.code.take many=(t.code.take many).drop 0:=rfl
 rw[e0]
 obtain⟨n,hn⟩:∃n,n=(t.code.take many).length:=⟨_,rfl⟩
 have hn':n≤many∧n≤t.code.length∧(n=many∨n=t.code.length):=by rw[hn,List.length_take];omega
 refine zan (stLT t many words) n (fun i=>if ((t.code.take many).drop i).any (fun x=>decide (words<fsz x.n))=true then some (.r,⟨[(6,.b true)],[],2⟩) else some (enLT t many)) (fun i hi=>?_) ?_
 ·have h1:i<t.code.length:=by omega
  have h2:(i:Int)<t.code.length:=by omega
  have h3:i<many:=by omega
  have h4:(i:Int)<many:=by omega
  have hg:t.code[i]? = some (t.code[i]'h1):=List.getElem?_eq_getElem h1
  have hws2:=za9 h3 (by omega)
  have c:=zee (T:=T) (t.code[i]'h1).n words
  have key:((t.code.take many).drop i).any (fun x=>decide (words<fsz x.n))=(decide (words<fsz (t.code[i]'h1).n) || ((t.code.take many).drop (i+1)).any fun x=>decide (words<fsz x.n)):=by
   rw[List.drop_eq_getElem_cons (by rw[←hn];exact hi),List.any_cons,List.getElem_take]
  by_cases he:words<fsz (t.code[i]'h1).n
  ·right
   rw[if_pos (by rw[key,decide_eq_true he,Bool.true_or])]
   rw[decide_eq_true he]at c
   unfold stLT bxT
   clear key he hn hn'
   constructor<;>simp -implicitDefEqProofs[l379_0,h1,h2,h3,h4,hg,c]
  ·left
   refine⟨?_,by simp only[key,decide_eq_false he,Bool.false_or]⟩
   rw[decide_eq_false he]at c
   unfold stLT bxT
   clear key he hn hn'
   simp -implicitDefEqProofs[l379_0,h1,h2,h3,h4,hg,hws2,c]
 ·rw[List.drop_of_length_le (by omega),if_neg (by simp)]
  unfold stLT enLT bxT
  by_cases hc:n<t.code.length
  ·have h5:n=many:=by omega
   have h6:(n:Int)<t.code.length:=by omega
   subst h5
   constructor<;>simp -implicitDefEqProofs[l379_0,hc,h6]
  ·have h5:¬ (n:Int)<t.code.length:=by omega
   constructor<;>simp -implicitDefEqProofs[l379_0,hc,h5]
theorem zp5(t:Tp)(many words:Nat)(hm:many≤1000):callF T 379 [etp t,.i .i64 many,.i .i64 words]=some (.b (longT t many words)):=by
 have h:=zp4 (T:=T) t many words hm
 unfold stLT enLT bxT at h
 simp only[Int.natCast_zero]at h
 unfold longT
 generalize ((t.code.take many).any fun i=>decide (words<fsz i.n))=B at *
 obtain⟨code,outs,dim,par⟩:=t
 dsimp only at *
 rw[f379 _ rfl,b379]
 cases B with
 | true=>
  rw[if_pos rfl]at h
  simp -implicitDefEqProofs[h]
 | false=>
  rw[if_neg (by decide)]at h
  by_cases h1:many<code.length
  ·have h2:(many:Int)<code.length:=by omega
   simp -implicitDefEqProofs[h,h1,h2]
  ·have h2:¬ (many:Int)<code.length:=by omega
   have e:decide ((many:Int)<outs.length)=decide (many<outs.length):=by
    by_cases h3:many<outs.length
    ·rw[decide_eq_true h3,decide_eq_true (by omega)]
    ·rw[decide_eq_false h3,decide_eq_false (by omega)]
   simp -implicitDefEqProofs[h,h1,h2,e]
@[simp] theorem zad1(l:List Int):Option.all (fun r=>decide (r.length=1)) (ints l).head? = true:=by cases l<;>rfl
def fC:BId:=.fld (.loc 3) 0
def stTT(t:Tp)(i:Nat):St:=⟨[(1,.ptr (.loc 1) 1 4 0 0),(2,.ptr (.loc 2) 2 4 0 0),(3,.ptr (.loc 3) 3 4 0 0),(4,.i .i64 i)],
 [(.loc 1,bxT t),(.loc 2,⟨2,.str,4,[[.sl [] .an,.sl [] .an,.i .i64 0,.i .i64 0]]⟩),(.loc 3,⟨3,.str,4,[[.bs fC 4 6 0 i,.bs (.loc 13) 5 1 0 t.outs.length,.i .i64 t.dim,.i .i64 t.par]]⟩),(fC,⟨4,.own,6,rowI (t.code.take i)⟩),(.loc 13,⟨5,.own,1,ints t.outs⟩)],7⟩
theorem zti(t:Tp)(i:Nat)(hi:i<t.code.length)(hl:t.code.length≤1000):evX (orc T) T 0 l382_0 (stTT t i)=some (.n,stTT t (i+1)):=by
 have hws:=za9 hi (by omega)
 have hb:i≤4294967295:=by omega
 have hg:t.code[i]? = some (t.code[i]'hi):=List.getElem?_eq_getElem hi
 have hn:=zdm (T:=T) (t.code[i]'hi).n
 have hi':(i:Int)<t.code.length:=by omega
 have hml:(t.code.take i).length=i:=by simp;omega
 have ht:List.take i (t.code.take i)=t.code.take i:=List.take_of_length_le (by omega)
 have e:=zfi t.code hi
 have hp:=zva hml (t.code[i]'hi)
 rw[ht]at hp
 unfold stTT bxT fC
 rw[e]
 clear e
 generalize t.code.take i=M at *
 simp -implicitDefEqProofs[l382_0,hi,hi',hws,hb,hg,hn,hml,ht,hp]
theorem zwc(t:Tp)(hl:t.code.length≤1000):loopN T 0 0 (.norm false [2,3]) l382_0 (stTT t 0) =
  some (.n,⟨[(2,.ptr (.loc 2) 1 4 0 0),(3,.ptr (.loc 3) 2 4 0 0)],[(.loc 2,⟨1,.str,4,[[.sl [] .an,.sl [] .an,.i .i64 0,.i .i64 0]]⟩),(.loc 3,⟨2,.str,4,[[.bs fC 3 6 0 t.code.length,.bs (.loc 13) 4 1 0 t.outs.length,.i .i64 t.dim,.i .i64 t.par]]⟩),(fC,⟨3,.own,6,rowI t.code⟩),(.loc 13,⟨4,.own,1,ints t.outs⟩)],6⟩):=by
 refine zaq (stTT t) t.code.length _ (fun i hi=>zti t i hi hl) ?_
 unfold stTT bxT fC
 rw[List.take_of_length_le (Nat.le_refl _)]
 constructor<;>simp -implicitDefEqProofs[l382_0]
theorem zwd(t:Tp)(hl:t.code.length≤1000)(ho:t.outs.length≤1000):callF T 382 [etp t]=some (etp t):=by
 have ht:List.take t.code.length t.code=t.code:=List.take_of_length_le (by omega)
 have hs:List.take t.outs.length t.outs=t.outs:=List.take_of_length_le (by omega)
 have h:=zwc (T:=T) t hl
 unfold stTT bxT fC at h
 simp only[Int.natCast_zero,List.take_zero,zxr]at h
 obtain⟨code,outs,dim,par⟩:=t
 dsimp only at *
 have ho2:outs.length≤4294967296:=by omega
 rw[f382 _ rfl,b382]
 simp -implicitDefEqProofs[ht,hs,ho2,h]
end
def longSm(s:Sm)(many words:Nat):Bool:=decide (50<s.nm.length) || decide (many<s.a.length) || longB s.b many words || longB s.c many words || longB s.e many words || s.a.any fun r=>longB r many words
def longPb(p:Pb)(many stages words:Nat):Bool:=longT p.t many words || longSm p.s stages 4 || longB p.p 6 words
def longR(r:Tr)(words:Nat):Bool:=longB r.nums 4 words || longB r.y 8 words
def longH(h:Hs)(many words:Nat):Bool:=decide (many<h.l.length) || decide (words<fsz h.t) || longB h.y 8 words || h.l.any fun r=>longR r words
theorem zlq{s:Sm}{many words:Nat}(h:longSm s many words=false)(hm:many≤1000)(hw:words≤300):SmS s∧(∀x∈s.c,fsz x≤words)∧s.b.length≤many∧s.a.length≤many∧s.c.length≤many∧s.e.length≤many∧(∀r∈s.a,r.length≤many):=by
 unfold longSm at h
 simp only[Bool.or_eq_false_iff,decide_eq_false_iff_not,List.any_eq_false]at h
 obtain⟨⟨⟨⟨⟨h1,h2⟩,h3⟩,h4⟩,h5⟩,h6⟩:=h
 obtain⟨b1,b2⟩:=za4 h3
 obtain⟨c1,c2⟩:=za4 h4
 obtain⟨e1,e2⟩:=za4 h5
 have ha:∀r∈s.a,r.length≤many∧∀x∈r,fsz x≤words:=fun r hr=>za4 (by simpa using h6 r hr)
 exact⟨⟨by omega,by omega,by omega,by omega,by omega,fun x hx=>Nat.le_trans (c2 x hx) hw,fun r hr=>⟨Nat.le_trans (ha r hr).1 hm,fun x hx=>Nat.le_trans ((ha r hr).2 x hx) hw⟩,fun x hx=>Nat.le_trans (b2 x hx) hw,fun x hx=>Nat.le_trans (e2 x hx) hw⟩,c2,b1,by omega,c1,e1,fun r hr=>(ha r hr).1⟩
theorem znh{h:Hs}{many words:Nat}(e:longH h many words=false)(hm:many≤1000):HsS h words∧h.l.length≤many∧h.y.length≤8∧∀r∈h.l,r.y.length≤8:=by
 unfold longH longR at e
 simp only[Bool.or_eq_false_iff,decide_eq_false_iff_not,List.any_eq_false]at e
 obtain⟨⟨⟨h1,h2⟩,h3⟩,h4⟩:=e
 obtain⟨y1,y2⟩:=za4 h3
 have hr:∀r∈h.l,(longB r.nums 4 words=false)∧longB r.y 8 words=false:=fun r hr=>by
  have:=h4 r hr
  simp only[Bool.or_eq_true,not_or,Bool.not_eq_true]at this
  exact this
 exact⟨⟨by omega,by omega,y2,by omega,fun r hx=>(za4 (hr r hx).1).2,fun r hx=>(za4 (hr r hx).2).2,fun r hx=>Nat.le_trans (za4 (hr r hx).2).1 (by decide)⟩,by omega,y1,fun r hx=>(za4 (hr r hx).2).1⟩
section
variable{T:Tbl}[CLimb T][CNat T][CProd T][CTwos T][CQuot T][CQuotD T][CWhole T][CCommon T][CFrac T][CFrac3 T][CFrac5 T][CPow T][CTape T][CGauge T][CEval T][CRun T][CIfc T][CDigits T][CText T][CJoin T][CRow T]
variable[CRef02 T][CRef04 T][CRef05 T][CRef07 T][CRef06 T][CRef08 T][CRef09 T][CRef11 T][CRef12 T][CLaw09 T][CLaw11 T][CLaw12 T][CGrid T][CLaw24 T][CLong33 T][CTo33 T]
theorem zj2(r:Tr):callF T 516 [.agg (celR r)]=some (.sl (rowF r.nums) .an):=by
 have e:rowF r.nums=[celF r.t,celF r.w,celF r.h,celF r.e]:=rfl
 rw[f516 _ rfl,b516,e]
 obtain⟨t,w,h,e,y,ok⟩:=r
 simp -implicitDefEqProofs[]
def bxS3(s:Sm):Box:=⟨1,.str,5,[[.s s.nm,.sl (rowF s.c) .an,.sl (matF s.a) .an,.sl (rowF s.b) .an,.sl (rowF s.e) .an]]⟩
def stL30(s:Sm)(many words i:Nat):St:=⟨[(1,.i .i64 many),(2,.i .i64 words),(3,.ptr (.loc 3) 1 5 0 0),(7,.i .i64 i)],[(.loc 3,bxS3 s)],3⟩
theorem zqc(s:Sm)(many words:Nat)(hm:many≤1000):callF T 515 [esm s,.i .i64 many,.i .i64 words]=some (.b (longSm s many words)):=by
 have cb:=zbg (T:=T) s.b many words hm
 have cc:=zbg (T:=T) s.c many words hm
 have ce:=zbg (T:=T) s.e many words hm
 have hlp:s.a.length≤many→loopN T 0 0 (.norm false []) l515_0 (stL30 s many words 0)=if (s.a.drop 0).any (fun r=>longB r many words)=true then some (.r,⟨[(6,.b true)],[],2⟩) else some (.n,⟨[],[],2⟩):=by
  intro hl
  refine zan (stL30 s many words) s.a.length (fun i=>if (s.a.drop i).any (fun r=>longB r many words)=true then some (.r,⟨[(6,.b true)],[],2⟩) else some (.n,⟨[],[],2⟩)) (fun i hi=>?_) ?_
  ·have hga:s.a[i]? = some (s.a[i]'hi):=List.getElem?_eq_getElem hi
   have hi':(i:Int)<s.a.length:=by omega
   have hws:=za9 hi (by omega)
   have c:=zbg (T:=T) (s.a[i]'hi) many words hm
   have key:(s.a.drop i).any (fun r=>longB r many words)=(longB (s.a[i]'hi) many words || (s.a.drop (i+1)).any fun r=>longB r many words):=by rw[List.drop_eq_getElem_cons hi,List.any_cons]
   generalize hq:s.a[i]'hi=q at *
   obtain⟨nm,c',a,b,e⟩:=s
   dsimp only at *
   cases hL:longB q many words with
   | true=>
    right
    rw[hL]at c
    rw[if_pos (by rw[key,hL,Bool.true_or])]
    unfold stL30 bxS3
    constructor<;>simp -implicitDefEqProofs[l515_0,hi,hi',hga,hq,hws,c]
   | false=>
    left
    rw[hL]at c
    refine⟨?_,by simp only[key,hL,Bool.false_or]⟩
    unfold stL30 bxS3
    simp -implicitDefEqProofs[l515_0,hi,hi',hga,hq,hws,c]
  ·simp only[List.drop_length,List.any_nil,Bool.false_eq_true,if_false]
   unfold stL30 bxS3
   constructor<;>simp -implicitDefEqProofs[l515_0]
 rw[List.drop_zero]at hlp
 unfold stL30 bxS3 at hlp
 simp only[Int.natCast_zero]at hlp
 unfold longSm
 rw[f515 _ rfl,b515]
 obtain⟨nm,c,a,b,e⟩:=s
 dsimp only at *
 by_cases h1:50<nm.length
 ·have h1':(50:Int)<nm.length:=by omega
  simp -implicitDefEqProofs[h1,h1']
 have h1':¬ (50:Int)<nm.length:=by omega
 by_cases h2:many<a.length
 ·have h2':(many:Int)<a.length:=by omega
  simp -implicitDefEqProofs[h1,h1',h2,h2']
 have h2':¬ (many:Int)<a.length:=by omega
 have hl:=hlp (by omega)
 generalize longB b many words=B1 at *
 generalize longB c many words=B2 at *
 generalize longB e many words=B3 at *
 generalize a.any (fun r=>longB r many words)=B4 at *
 cases B1 with
 | true=>simp -implicitDefEqProofs[h1,h1',h2,h2',cb]
 | false=>
 cases B2 with
 | true=>simp -implicitDefEqProofs[h1,h1',h2,h2',cb,cc]
 | false=>
 cases B3 with
 | true=>simp -implicitDefEqProofs[h1,h1',h2,h2',cb,cc,ce]
 | false=>
  cases B4<;>simp at hl<;>simp -implicitDefEqProofs[h1,h1',h2,h2',cb,cc,ce,hl]
theorem zqd(p:Pb)(many stages words:Nat)(hm:many≤1000)(hs:stages≤1000):callF T 496 [epb p,.i .i64 many,.i .i64 stages,.i .i64 words]=some (.b (longPb p many stages words)):=by
 have c1:=zp5 (T:=T) p.t many words hm
 have c2:=zqc (T:=T) p.s stages 4 hs
 have c3:=zbg (T:=T) p.p 6 words (by decide)
 replace c2:callF T 515 [esm p.s,.i .i64 stages,.i .i64 4]=_:=c2
 replace c3:callF T 286 [.sl (rowF p.p) .an,.i .i64 6,.i .i64 words]=_:=c3
 unfold longPb
 rw[f496 _ rfl,b496]
 generalize longT p.t many words=A at *
 generalize longSm p.s stages 4=B at *
 generalize longB p.p 6 words=C at *
 obtain⟨⟨code,outs,dim,par⟩,⟨nm,c,a,b,e⟩,pp,bits⟩:=p
 dsimp only at *
 cases A with
 | true=>simp -implicitDefEqProofs[c1]
 | false=>
 cases B with
 | true=>simp -implicitDefEqProofs[c1,c2]
 | false=>simp -implicitDefEqProofs[c1,c2,c3]
def bxH3(h:Hs):Box:=⟨1,.str,5,[[.sl (rowTr h.l) .an,.b h.t.1,.sl (u32s h.t.2.1) .an,.sl (u32s h.t.2.2) .an,.sl (rowF h.y) .an]]⟩
def stL37(h:Hs)(words i:Nat):St:=⟨[(2,.i .i64 words),(3,.ptr (.loc 3) 1 5 0 0),(7,.i .i64 i)],[(.loc 3,bxH3 h)],3⟩
theorem zqe(h:Hs)(many words:Nat)(hm:many≤1000):callF T 497 [ehs h,.i .i64 many,.i .i64 words]=some (.b (longH h many words)):=by
 have c1:=zee (T:=T) h.t words
 have c2:=zbg (T:=T) h.y 8 words (by decide)
 replace c2:callF T 286 [.sl (rowF h.y) .an,.i .i64 8,.i .i64 words]=_:=c2
 have hlp:h.l.length≤many→loopN T 0 0 (.norm false []) l497_0 (stL37 h words 0)=if (h.l.drop 0).any (fun r=>longR r words)=true then some (.r,⟨[(6,.b true)],[],2⟩) else some (.n,⟨[],[],2⟩):=by
  intro hl
  refine zan (stL37 h words) h.l.length (fun i=>if (h.l.drop i).any (fun r=>longR r words)=true then some (.r,⟨[(6,.b true)],[],2⟩) else some (.n,⟨[],[],2⟩)) (fun i hi=>?_) ?_
  ·have hga:h.l[i]? = some (h.l[i]'hi):=List.getElem?_eq_getElem hi
   have hi':(i:Int)<h.l.length:=by omega
   have hws:=za9 hi (by omega)
   have d1:=zj2 (T:=T) (h.l[i]'hi)
   have d2:=zbg (T:=T) (h.l[i]'hi).nums 4 words (by decide)
   have d3:=zbg (T:=T) (h.l[i]'hi).y 8 words (by decide)
   replace d2:callF T 286 [.sl (rowF (h.l[i]'hi).nums) .an,.i .i64 4,.i .i64 words]=_:=d2
   replace d3:callF T 286 [.sl (rowF (h.l[i]'hi).y) .an,.i .i64 8,.i .i64 words]=_:=d3
   have key:(h.l.drop i).any (fun r=>longR r words)=(longR (h.l[i]'hi) words || (h.l.drop (i+1)).any fun r=>longR r words):=by rw[List.drop_eq_getElem_cons hi,List.any_cons]
   generalize hq:h.l[i]'hi=q at *
   have hR:longR q words=(longB q.nums 4 words || longB q.y 8 words):=rfl
   generalize longB q.nums 4 words=A at *
   generalize longB q.y 8 words=B at *
   have hnn:wkL (rowF q.nums)=rowF q.nums:=zbi _
   generalize rowF q.nums=NN at *
   obtain⟨L,t,y⟩:=h
   obtain⟨q1,q2,q3,q4,q5,q6⟩:=q
   dsimp only at *
   cases A with
   | true=>
    right
    rw[if_pos (by rw[key,hR];rfl)]
    unfold stL37 bxH3
    constructor<;>simp -implicitDefEqProofs[l497_0,hi,hi',hga,hq,hws,d1,d2,hnn]
   | false=>
   cases B with
   | true=>
    right
    rw[if_pos (by rw[key,hR];rfl)]
    unfold stL37 bxH3
    constructor<;>simp -implicitDefEqProofs[l497_0,hi,hi',hga,hq,hws,d1,d2,d3,hnn]
   | false=>
    left
    refine⟨?_,by simp only[key,hR,Bool.or_self,Bool.false_or]⟩
    unfold stL37 bxH3
    simp -implicitDefEqProofs[l497_0,hi,hi',hga,hq,hws,d1,d2,d3,hnn]
  ·simp only[List.drop_length,List.any_nil,Bool.false_eq_true,if_false]
   unfold stL37 bxH3
   constructor<;>simp -implicitDefEqProofs[l497_0]
 rw[List.drop_zero]at hlp
 unfold stL37 bxH3 at hlp
 simp only[Int.natCast_zero]at hlp
 unfold longH
 rw[f497 _ rfl,b497]
 generalize longB h.y 8 words=B2 at *
 generalize (h.l.any fun r=>longR r words)=B4 at *
 generalize hft:fsz h.t=ft at *
 obtain⟨L,t,y⟩:=h
 dsimp only at *
 by_cases h1:many<L.length
 ·have h1':(many:Int)<L.length:=by omega
  simp -implicitDefEqProofs[h1,h1']
 have h1':¬ (many:Int)<L.length:=by omega
 have hl:=hlp (by omega)
 by_cases h2:words<ft
 ·simp -implicitDefEqProofs[h1,h1',c1,h2]
 cases B2 with
 | true=>simp -implicitDefEqProofs[h1,h1',c1,h2,c2]
 | false=>
  cases B4<;>simp at hl<;>simp -implicitDefEqProofs[h1,h1',c1,h2,c2,hl]
theorem zwp(s:Sm)(hs:SmS s):callF T 527 [esm s]=some (esm s):=by
 have c1:=zdn (T:=T) s.c (by have:=hs.cl;omega)
 have c2:=zwb (T:=T) s.a (by have:=hs.al;omega) (fun r hr=>by have:=(hs.a r hr).1;omega)
 have c3:=zdn (T:=T) s.b (by have:=hs.bl;omega)
 have c4:=zdn (T:=T) s.e (by have:=hs.el;omega)
 clear hs
 rw[f527 _ rfl,b527]
 obtain⟨nm,c,a,b,e⟩:=s
 dsimp only at *
 simp -implicitDefEqProofs[c1,c2,c3,c4]
theorem zwq(p:Pb)(hp:PbS p)(hc:p.t.code.length≤1000)(ho:p.t.outs.length≤1000):callF T 507 [epb p]=some (epb p):=by
 have c1:=zwd (T:=T) p.t hc ho
 have c2:=zwp (T:=T) p.s hp.s
 have c3:=zdn (T:=T) p.p (by have:=hp.pl;omega)
 clear hp
 rw[f507 _ rfl,b507]
 obtain⟨⟨code,outs,dim,par⟩,⟨nm,c,a,b,e⟩,pp,bits⟩:=p
 dsimp only at *
 simp -implicitDefEqProofs[c1,c2,c3]
def stTo(h:Hs)(i:Nat):St:=⟨[(1,.ptr (.loc 1) 1 5 0 0),(2,.ptr (.loc 2) 2 5 0 0),(3,.ptr (.loc 3) 3 5 0 0),(4,.i .i64 i)],
 [(.loc 1,bxH h),(.loc 2,⟨2,.str,5,[[.sl [] .an,.b false,.sl [] .an,.sl [] .an,.sl [] .an]]⟩),(.loc 3,⟨3,.str,5,[[.bs fC 4 14 0 i,.b h.t.1,.sl (u32s h.t.2.1) .an,.sl (u32s h.t.2.2) .an,.sl (rowF h.y) .an]]⟩),(fC,⟨4,.own,14,rowTr (h.l.take i)⟩)],6⟩
theorem zqf(h:Hs)(i:Nat)(hi:i<h.l.length)(hl:h.l.length≤1000)(hy:∀r∈h.l,r.y.length≤1000):evX (orc T) T 0 l500_0 (stTo h i)=some (.n,stTo h (i+1)):=by
 have hws:=za9 hi (by omega)
 have hb:i≤4294967295:=by omega
 have hg:h.l[i]? = some (h.l[i]'hi):=List.getElem?_eq_getElem hi
 have c1:=zdm (T:=T) (h.l[i]'hi).t
 have c2:=zdm (T:=T) (h.l[i]'hi).w
 have c3:=zdm (T:=T) (h.l[i]'hi).h
 have c4:=zdm (T:=T) (h.l[i]'hi).e
 have c5:=zdn (T:=T) (h.l[i]'hi).y (by have:=hy _ (List.getElem_mem hi);omega)
 have hi':(i:Int)<h.l.length:=by omega
 have hml:(h.l.take i).length=i:=by simp;omega
 have ht:List.take i (h.l.take i)=h.l.take i:=List.take_of_length_le (by omega)
 have e:=zfi h.l hi
 have hp:=zq9 hml (h.l[i]'hi)
 rw[ht]at hp
 unfold stTo bxH fC
 rw[e]
 clear e hy
 generalize h.l.take i=M at *
 generalize hq:h.l[i]'hi=q at *
 obtain⟨q1,q2,q3,q4,q5,q6⟩:=q
 obtain⟨L,t,y⟩:=h
 dsimp only at *
 simp -implicitDefEqProofs[l500_0,hi,hi',hws,hb,hg,hq,c1,c2,c3,c4,c5,hml,ht,hp]
theorem zwr(h:Hs)(hl:h.l.length≤1000)(hy:∀r∈h.l,r.y.length≤1000)(hyl:h.y.length≤1000):callF T 500 [ehs h]=some (ehs h):=by
 have hlp:loopN T 0 0 (.norm false [2,3]) l500_0 (stTo h 0)=some (.n,⟨[(2,.ptr (.loc 2) 1 5 0 0),(3,.ptr (.loc 3) 2 5 0 0)],[(.loc 2,⟨1,.str,5,[[.sl [] .an,.b false,.sl [] .an,.sl [] .an,.sl [] .an]]⟩),(.loc 3,⟨2,.str,5,[[.bs fC 3 14 0 h.l.length,.b h.t.1,.sl (u32s h.t.2.1) .an,.sl (u32s h.t.2.2) .an,.sl (rowF h.y) .an]]⟩),(fC,⟨3,.own,14,rowTr h.l⟩)],5⟩):=by
  refine zaq (stTo h) h.l.length _ (fun i hi=>zqf h i hi hl hy) ?_
  unfold stTo bxH fC
  rw[List.take_of_length_le (Nat.le_refl _)]
  constructor<;>simp -implicitDefEqProofs[l500_0]
 have ht:List.take h.l.length h.l=h.l:=List.take_of_length_le (by omega)
 have c1:=zdm (T:=T) h.t
 have c2:=zdn (T:=T) h.y (by omega)
 unfold stTo bxH fC at hlp
 simp only[Int.natCast_zero,List.take_zero,zmi]at hlp
 clear hy
 rw[f500 _ rfl,b500]
 obtain⟨L,t,y⟩:=h
 dsimp only at *
 simp -implicitDefEqProofs[ht,c1,c2,hlp]
end
theorem z56{t:Tp}{many words:Nat}(h:longT t many words=false)(hm:many≤1000)(hw:words≤1000)(d1:-9223372036854775808≤t.dim)(d2:t.dim<9223372036854775808):TpS t:=by
 obtain⟨h1,h2,h3⟩:=zho h
 exact⟨⟨by omega,by omega,fun i hi=>by have:=h3 i hi;omega,d1,d2⟩,fun i hi=>by have:=h3 i hi;omega⟩
section
variable{T:Tbl}[CLimb T][CNat T][CProd T][CTwos T][CQuot T][CQuotD T][CWhole T][CCommon T][CFrac T][CFrac3 T][CFrac5 T][CPow T][CTape T][CGauge T][CEval T][CRun T][CIfc T][CDigits T][CText T][CJoin T][CRow T][CPast T][CPast2 T][CLex T][CScheme T][CStep T][CSpan T][CSpan2 T]
theorem zus(p:Pb)(h:Hs)(s:Fz)(hp:PbS p)(hh:HsS h 400)(hb:¬ (rightH h=true∧okP p=true∧(h.y.length:Int)=p.t.dim)):callF T 570 [epb p,ehs h,efz s]=some (.tup [.sl [] .an,fltA 2 0 0 0]):=by
 have c1:=zc8 (T:=T) h hh
 have c2:=zdb (T:=T) p hp
 rw[f570 _ rfl,b570]
 clear hp hh
 generalize rightH h=A at *
 generalize okP p=B at *
 obtain⟨⟨code,outs,dim,par⟩,⟨nm,c',a,b,e⟩,pp,bits⟩:=p
 obtain⟨L,ht,hy⟩:=h
 obtain⟨s1,s2,s3⟩:=s
 dsimp only at *
 cases A with
 | false=>simp -implicitDefEqProofs[c1]
 | true=>
 cases B with
 | false=>simp -implicitDefEqProofs[c1,c2]
 | true=>
  have hd:¬ (hy.length:Int)=dim:=fun h=>hb ⟨rfl,rfl,h⟩
  simp -implicitDefEqProofs[c1,c2,hd]
theorem zut(p:Pb)(h:Hs)(t:Fz)(y:List Fz)(hp:PbS p)(hh:HsS h 400)(hR:rightH h=true)(hP:okP p=true)(hd:(h.y.length:Int)=p.t.dim)(e1:nodeT h=[t])(e2:nodeY h=[y]) :
  callF T 570 [epb p,ehs h,efz t]=some (.tup [.sl (rowF y) .an,flt0]):=by
 have c1:=zc8 (T:=T) h hh
 have c2:=zdb (T:=T) p hp
 have c3:=zc9 (T:=T) h (hh.mono (by decide))
 rw[hR]at c1
 rw[hP]at c2
 rw[e1,e2]at c3
 have zt:=zdq hh (by decide) t (by rw[e1];simp)
 have c4:=zcs (T:=T) t t (by omega) (by omega)
 rw[decide_eq_true rfl]at c4
 replace c3:callF T 513 [ehs h]=some (.tup [.sl [celF t] .an,.sl [[.sl (rowF y) .an]] .an]):=c3
 rw[f570 _ rfl,b570]
 clear hp hh e1 e2 zt hR hP
 obtain⟨⟨code,outs,dim,par⟩,⟨nm,c',a,b,e⟩,pp,bits⟩:=p
 obtain⟨L,ht,hy⟩:=h
 obtain⟨t1,t2,t3⟩:=t
 dsimp only at *
 simp -implicitDefEqProofs[c1,c2,c3,c4,hd]
def stateR(A B:List Rat×Nat×Nat)(i:Nat)(R:List (List AV)):AV:=
 if A.2.1≠0 then .tup [.sl [] .an,fltA A.2.1 (i+1:Nat) 0 A.2.2]
 else if B.2.1≠0 then .tup [.sl [] .an,fltA B.2.1 (i+2:Nat) 0 B.2.2]
 else .tup [.sl R .an,flt0]
theorem zxc(p:Pb)(h:Hs)(s:Fz)(i:Nat)(hp:PbS p)(hh:HsS h 400)(hs:fsz s≤1000)(hR:rightH h=true)(hP:okP p=true)(hd:(h.y.length:Int)=p.t.dim)(t u:Fz)(y z:List Fz)
  (g1:(nodeT h)[i]? = some t) (g2:(nodeY h)[i]? = some y) (g3:(nodeT h)[i+1]? = some u) (g4:(nodeY h)[i+1]? = some z) (hpl:placeN (fv s) (nodeT h)=some i) (R:List (List AV)) (bb:Bool) (hwk:wkL R=R)
  (ca:(slopeP p t y).2.1=0→(slopeP p u z).2.1=0→callF T 324 [agS t (fz (fv u-fv t)) y z (fzs (slopeP p t y).1) (fzs (slopeP p u z).1),efz s]=some (.tup [.sl R .an,.b bb])) :
  callF T 570 [epb p,ehs h,efz s]=some (stateR (slopeP p t y) (slopeP p u z) i R):=by
 have c1:=zc8 (T:=T) h hh
 have c2:=zdb (T:=T) p hp
 have c3:=zc9 (T:=T) h (hh.mono (by decide))
 have c4:=zqx (T:=T) h s hh hs
 have c5:=z0x (T:=T) p h i hp hh hR hP hd t u y z g1 g2 g3 g4
 rw[hR]at c1 c4
 rw[if_pos rfl,hpl]at c4
 rw[hP]at c2
 obtain⟨l3,_⟩:=List.getElem?_eq_some_iff.1 g3
 have hn:¬ ((nodeT h).length:Int)=1:=by omega
 have hn2:¬ (nodeT h).length=1:=by omega
 unfold stateR
 unfold ofR at c5
 unfold placeV at c4
 rw[f570 _ rfl,b570]
 clear hp hh hs hR hP g1 g2 g3 g4 hpl
 generalize slopeP p t y=A at *
 generalize slopeP p u z=B at *
 generalize nodeT h=TS at *
 generalize nodeY h=YS at *
 generalize fz (fv u-fv t)=D at *
 obtain⟨A1,A2,A3⟩:=A
 obtain⟨B1,B2,B3⟩:=B
 obtain⟨⟨code,outs,dim,par⟩,⟨nm,c',a,b,e⟩,pp,bits⟩:=p
 obtain⟨L,ht,hy⟩:=h
 obtain⟨s1,s2,s3⟩:=s
 dsimp only at *
 by_cases hA:A2=0
 ·rw[if_neg (by simpa using hA)]at c5 ⊢
  by_cases hB:B2=0
  ·rw[if_neg (by simpa using hB)]at c5 ⊢
   have ca':=ca hA hB
   clear ca
   simp -implicitDefEqProofs[c1,c2,c3,c4,c5,hd,hn,hn2,ca',hwk]
  ·rw[if_pos hB]at c5 ⊢
   have hB':¬ (B2:Int)=0:=by omega
   simp -implicitDefEqProofs[c1,c2,c3,c4,c5,hd,hn,hn2,hB,hB']
 ·rw[if_pos hA]at c5 ⊢
  have hA':¬ (A2:Int)=0:=by omega
  simp -implicitDefEqProofs[c1,c2,c3,c4,c5,hd,hn,hn2,hA,hA']
theorem zqz(p:Pb)(h:Hs)(j:Nat)(t:Fz)(y:List Fz)(hp:PbS p)(hbits:p.bits≤300)(hh:HsS h 2)(hy:h.y.length≤300)(g1:(nodeT h)[j]? = some t)(g2:(nodeY h)[j]? = some y) :
  ∃R k s a,callF T 570 [epb p,ehs h,efz t]=some (.tup [.sl (rowF R) .an,fltA k s 0 a])∧k≠7∧(k=0→s=0→a=0→R=fzs (y.map fv)∨R=y)∧wkL (rowF R)=rowF R:=by
 have hh4:HsS h 400:=hh.mono (by decide)
 by_cases hb:rightH h=true∧okP p=true∧(h.y.length:Int)=p.t.dim
 rotate_left
 ·exact⟨[],2,0,0,zus (T:=T) p h t hp hh4 hb,by decide,fun h=>absurd h (by decide),rfl⟩
 obtain⟨hR,hP,hd⟩:=hb
 have zt:=zdq hh (by decide) t (List.mem_of_getElem? g1)
 obtain⟨l1,_⟩:=List.getElem?_eq_some_iff.1 g1
 have hup:=zxb hR
 by_cases h1:(nodeT h).length=1
 ·obtain⟨t',e1⟩:=List.length_eq_one_iff.1 h1
  obtain⟨y',e2⟩:=List.length_eq_one_iff.1 (show (nodeY h).length=1 by rw[zfn];exact h1)
  have hj:j=0:=by omega
  subst hj
  rw[e1]at g1
  rw[e2]at g2
  cases g1
  cases g2
  exact⟨y,0,0,0,zut (T:=T) p h t y hp hh4 hR hP hd e1 e2,by decide,fun _ _ _=>.inr rfl,zbi _⟩
 ·have h2:2≤(nodeT h).length:=by omega
  have hpl:=zqy hup g1 h2
  obtain⟨i,hi⟩:∃i,i=j-1:=⟨_,rfl⟩
  rw[←hi]at hpl
  have k1:i<(nodeT h).length:=by omega
  have k2:i+1<(nodeT h).length:=by omega
  have k3:i<(nodeY h).length:=by rw[zfn];exact k1
  have k4:i+1<(nodeY h).length:=by rw[zfn];exact k2
  have q1:(nodeT h)[i]? = some ((nodeT h)[i]'k1):=List.getElem?_eq_getElem k1
  have q2:(nodeT h)[i+1]? = some ((nodeT h)[i+1]'k2):=List.getElem?_eq_getElem k2
  have q3:(nodeY h)[i]? = some ((nodeY h)[i]'k3):=List.getElem?_eq_getElem k3
  have q4:(nodeY h)[i+1]? = some ((nodeY h)[i+1]'k4):=List.getElem?_eq_getElem k4
  generalize (nodeT h)[i]'k1=ti at q1
  generalize (nodeT h)[i+1]'k2=tu at q2
  generalize (nodeY h)[i]'k3=yi at q3
  generalize (nodeY h)[i+1]'k4=yu at q4
  have zi:=zdq hh (by decide) ti (List.mem_of_getElem? q1)
  have zu:=zdq hh (by decide) tu (List.mem_of_getElem? q2)
  have hlt:fv ti<fv tu:=by
   have:=List.pairwise_iff_getElem.1 hup i (i+1) (by simpa using k1) (by simpa using k2) (by omega)
   obtain⟨_,r1⟩:=List.getElem?_eq_some_iff.1 q1
   obtain⟨_,r2⟩:=List.getElem?_eq_some_iff.1 q2
   simpa[r1,r2]using this
  have ly1:=zma hR yi (List.mem_of_getElem? q3)
  have ly2:=zma hR yu (List.mem_of_getElem? q4)
  obtain⟨zy1,_⟩:=zfm hh (by decide) yi (List.mem_of_getElem? q3)
  obtain⟨zy2,_⟩:=zfm hh (by decide) yu (List.mem_of_getElem? q4)
  have hok:OkTp p.t:=(zga p.t).1 (by unfold okP at hP;simp only[Bool.and_eq_true]at hP;exact hP.1.1)
  have hh2:fv tu-fv ti≠0:=by grind
  have zD:sz (fv tu-fv ti)≤5:=by
   have:=zo6 (fv tu) (fv ti)
   have:=zbs (L:=2) zi (by decide)
   have:=zbs (L:=2) zu (by decide)
   omega
  -- the state,where both slopes are there
  have ca:(slopeP p ti yi).2.1=0→(slopeP p tu yu).2.1=0→callF T 324 [agS ti (fz (fv tu-fv ti)) yi yu (fzs (slopeP p ti yi).1) (fzs (slopeP p tu yu).1),efz t]=some (.tup [.sl (rowF (fzs (y.map fv))) .an,.b true]):=by
   intro ha hb
   have f1:=zi3 ha
   have f2:=zi3 hb
   have hlim:limN p.bits≤300:=by
    unfold limN limI
    split
    ·decide
    ·split<;>omega
   have s1:∀q∈(slopeP p ti yi).1,sz q≤10:=fun q hq=>by have:=zi4 q hq;omega
   have s2:∀q∈(slopeP p tu yu).1,sz q≤10:=fun q hq=>by have:=zi4 q hq;omega
   have hol:=hok.ol
   have d1:(fzs (slopeP p ti yi).1).length=yi.length:=by rw[zap];show (fieldR _ _ _).1.length=_;omega
   have d2:(fzs (slopeP p tu yu).1).length=yi.length:=by rw[zap];show (fieldR _ _ _).1.length=_;omega
   have hne:fv (fz (fv tu-fv ti))≠0:=by rw[zbo];exact hh2
   have hrs:rightS (fz (fv tu-fv ti)) yi yu (fzs (slopeP p ti yi).1) (fzs (slopeP p tu yu).1)=true:=by
    unfold rightS
    rw[zbo,d1,d2]
    simp only[Bool.and_eq_true,decide_eq_true_eq]
    exact⟨⟨⟨⟨by grind,by omega⟩,by omega⟩,trivial⟩,trivial⟩
   have hat:=zuo (T:=T) ti (fz (fv tu-fv ti)) t yi yu (fzs (slopeP p ti yi).1) (fzs (slopeP p tu yu).1) (by omega) (by rw[za0];omega) (by omega) hrs (fun r hr x hx=>by
    simp only[List.mem_cons,List.not_mem_nil,or_false]at hr
    rcases hr with rfl | rfl | rfl | rfl
    ·have:=zy1 x hx;omega
    ·have:=zy2 x hx;omega
    ·have:=zll s1 x hx;omega
    ·have:=zll s2 x hx;omega)
   rw[ztk hne _ _ _ _ (by omega) d1 d2,zbo]at hat
   obtain⟨o1,o2,_,_⟩:=zad2 hh2 (yi.map fv) (yu.map fv) ((fzs (slopeP p ti yi).1).map fv) ((fzs (slopeP p tu yu).1).map fv) (by simp;omega) (by simpa using d1) (by simpa using d2)
   rw[hat]
   by_cases hj:j=0
   ·subst hj
    have hi0:i=0:=by omega
    subst hi0
    rw[g1]at q1
    rw[g2]at q3
    cases q1
    cases q3
    rw[show fv t-fv t=0 by grind,o1]
   ·have hij:i+1=j:=by omega
    rw[hij]at q2 q4
    rw[g1]at q2
    rw[g2]at q4
    cases q2
    cases q4
    rw[o2]
  have hst:=zxc (T:=T) p h t i hp hh4 (by omega) hR hP hd ti tu yi yu q1 q3 q2 q4 hpl _ true (zbi _) ca
  unfold stateR at hst
  by_cases hA:(slopeP p ti yi).2.1=0
  ·rw[if_neg (by simpa using hA)]at hst
   by_cases hB:(slopeP p tu yu).2.1=0
   ·rw[if_neg (by simpa using hB)]at hst
    exact⟨_,0,0,0,hst,by decide,fun _ _ _=>.inl rfl,zbi _⟩
   ·rw[if_pos hB]at hst
    exact⟨[],_,_,_,hst,fun e=>zhx (limN p.bits) p.t ⟨fv tu,yu.map fv,p.p.map fv⟩ (by exact_mod_cast e),fun e=>absurd (by exact_mod_cast e) hB,rfl⟩
  ·rw[if_pos hA]at hst
   exact⟨[],_,_,_,hst,fun e=>zhx (limN p.bits) p.t ⟨fv ti,yi.map fv,p.p.map fv⟩ (by exact_mod_cast e),fun e=>absurd (by exact_mod_cast e) hA,rfl⟩
end
section
variable{T:Tbl}[CLimb T][CNat T][CProd T][CTwos T][CQuot T][CQuotD T][CWhole T][CCommon T][CFrac T][CFrac3 T][CFrac5 T][CPow T][CTape T][CGauge T][CEval T][CRun T][CIfc T][CDigits T][CText T][CJoin T][CRow T][CPast T][CPast2 T][CLex T][CScheme T][CStep T][CSpan T][CSpan2 T]
variable[CRef02 T][CRef04 T][CRef05 T][CRef07 T][CRef06 T][CRef08 T][CRef09 T][CRef11 T][CRef12 T][CLaw09 T][CLaw11 T][CLaw12 T][CGrid T][CLaw24 T][CLong33 T][CTo33 T][CFrac2 T][CRef14 T][CRef41 T][CLaw41 T][CLaw41n T]
def stSn(p:Pb)(h:Hs)(ts:List Fz)(ys:List (List Fz))(i:Nat):St:=
 ⟨[(5,.ptr (.loc 5) 1 11 0 0),(6,.ptr (.loc 6) 2 5 0 0),(7,.sl (rowF ts) .an),(8,.sl (matF ys) .an),(9,.i .i64 i)],
  [(.loc 5,⟨1,.str,11,[celPb p]⟩),(.loc 6,⟨2,.str,5,[[.sl (rowTr h.l) .an,.b h.t.1,.sl (u32s h.t.2.1) .an,.sl (u32s h.t.2.2) .an,.sl (rowF h.y) .an]]⟩)],4⟩
theorem zxd(p:Pb)(h:Hs)(ts:List Fz)(ys:List (List Fz))(i:Nat)(hi:i<ts.length)(hi2:i<ys.length)(hl:ts.length≤1001)(t:Fz)(y:List Fz)(g1:ts[i]? = some t)(g2:ys[i]? = some y)(R:List (List AV))(k s a:Int)
  (c:callF T 570 [epb p,ehs h,efz t]=some (.tup [.sl R .an,fltA k s 0 a])) (hk:k≠7) (hR:wkL R=R) (hs:k=0→s=0→a=0→callF T 265 [.sl R .an,.sl (rowF y) .an]=some (.b true)) :
  evX (orc T) T 0 l567_0 (stSn p h ts ys i)=some (.n,stSn p h ts ys (i+1)):=by
 obtain⟨_,e1⟩:=List.getElem?_eq_some_iff.1 g1
 obtain⟨_,e2⟩:=List.getElem?_eq_some_iff.1 g2
 have hws:=za9 hi (by omega)
 have hi':(i:Int)<ts.length:=by omega
 have hi2':(i:Int)<ys.length:=by omega
 unfold stSn celPb
 obtain⟨⟨code,outs,dim,par⟩,⟨nm,c',a',b,e⟩,pp,bits⟩:=p
 obtain⟨L,ht,hy⟩:=h
 obtain⟨t1,t2,t3⟩:=t
 dsimp only at *
 by_cases k0:k=0
 ·by_cases s0:s=0
  ·by_cases a0:a=0
   ·have hs':=hs k0 s0 a0
    clear hs
    simp -implicitDefEqProofs[l567_0,hi,hi',hi2,hi2',g1,g2,e1,e2,hws,c,hR,k0,s0,a0,hs']
   ·simp -implicitDefEqProofs[l567_0,hi,hi',hi2,hi2',g1,g2,e1,e2,hws,c,hR,k0,s0,a0]
  ·simp -implicitDefEqProofs[l567_0,hi,hi',hi2,hi2',g1,g2,e1,e2,hws,c,hR,k0,s0]
 ·simp -implicitDefEqProofs[l567_0,hi,hi',hi2,hi2',g1,g2,e1,e2,hws,c,hR,k0,hk]
theorem znl(p:Pb)(h:Hs)(d1:-9223372036854775808≤p.t.dim)(d2:p.t.dim<9223372036854775808):callF T 567 [epb p,ehs h]=some (.b true):=by
 have w:=zng (T:=T)
 have c1:=zqd (T:=T) p 10 4 2 (by decide) (by decide)
 have c2:=zqe (T:=T) h 5 2 (by decide)
 replace c1:callF T 496 [epb p,.i .i64 10,.i .i64 4,.i .i64 2]=some (.b (longPb p 10 4 2)):=c1
 replace c2:callF T 497 [ehs h,.i .i64 5,.i .i64 2]=some (.b (longH h 5 2)):=c2
 rw[f567 _ rfl,b567]
 cases h1:longPb p 10 4 2 with
 | true=>
  rw[h1]at c1
  obtain⟨⟨code,outs,dim,par⟩,⟨nm,c',a',b,e⟩,pp,bits⟩:=p
  obtain⟨L,ht,hy⟩:=h
  dsimp only at *
  simp -implicitDefEqProofs[w,c1]
 | false=>
 rw[h1]at c1
 by_cases h2:300<p.bits
 ·obtain⟨⟨code,outs,dim,par⟩,⟨nm,c',a',b,e⟩,pp,bits⟩:=p
  obtain⟨L,ht,hy⟩:=h
  dsimp only at *
  simp -implicitDefEqProofs[w,c1,h2]
 cases h3:longH h 5 2 with
 | true=>
  rw[h3]at c2
  obtain⟨⟨code,outs,dim,par⟩,⟨nm,c',a',b,e⟩,pp,bits⟩:=p
  obtain⟨L,ht,hy⟩:=h
  dsimp only at *
  simp -implicitDefEqProofs[w,c1,c2,h2]
 | false=>
 rw[h3]at c2
 by_cases h4:4<h.y.length
 ·have h4':(4:Int)<h.y.length:=by omega
  obtain⟨⟨code,outs,dim,par⟩,⟨nm,c',a',b,e⟩,pp,bits⟩:=p
  obtain⟨L,ht,hy⟩:=h
  dsimp only at *
  simp -implicitDefEqProofs[w,c1,c2,h2,h4,h4']
 have h4':¬ (4:Int)<h.y.length:=by omega
 obtain⟨hs,hl,hy8,hr8⟩:=znh h3 (by decide)
 unfold longPb at h1
 simp only[Bool.or_eq_false_iff]at h1
 obtain⟨⟨l1,l2⟩,l3⟩:=h1
 obtain⟨ps,_⟩:=zlq l2 (by decide) (by decide)
 obtain⟨pl,pw⟩:=za4 l3
 have ht:=z56 l1 (by decide) (by decide) d1 d2
 obtain⟨tc,tq,_⟩:=zho l1
 have hp:PbS p:=⟨ht,ps,fun x hx=>Nat.le_trans (pw x hx) (by decide),by omega⟩
 have c3:=zwq (T:=T) p hp (by omega) (by omega)
 have c4:=zwr (T:=T) h (by omega) (fun r hr=>by have:=hr8 r hr;omega) (by omega)
 have c5:=zc9 (T:=T) h (hs.mono (by decide))
 have hnl:=zfn h
 have hn:=zhw hs
 have hlp:loopN T 0 0 (.norm false []) l567_0 (stSn p h (nodeT h) (nodeY h) 0)=some (.n,⟨[],[],2⟩):=by
  refine zaq (stSn p h (nodeT h) (nodeY h)) (nodeT h).length _ (fun i hi=>?_) ?_
  ·have hi2:i<(nodeY h).length:=by omega
   have g1:(nodeT h)[i]? = some ((nodeT h)[i]'hi):=List.getElem?_eq_getElem hi
   have g2:(nodeY h)[i]? = some ((nodeY h)[i]'hi2):=List.getElem?_eq_getElem hi2
   generalize (nodeT h)[i]'hi=t at g1
   generalize (nodeY h)[i]'hi2=y at g2
   obtain⟨R,k,s,a,e1,e2,e3,e4⟩:=zqz (T:=T) p h i t y hp (by omega) hs (by omega) g1 g2
   obtain⟨zy,ly⟩:=zfm hs (by decide) y (List.mem_of_getElem? g2)
   refine zxd (T:=T) p h _ _ i hi hi2 hn t y g1 g2 _ k s a e1 e2 e4 fun k0 s0 a0=>?_
   rcases e3 k0 s0 a0 with rfl | rfl
   ·have:=zj6 (T:=T) (fzs (y.map fv)) y (by simp;omega) (zll (zz8 (by decide) fun x hx=>Nat.le_trans (zy x hx) (by decide))) (fun x hx=>Nat.le_trans (zy x hx) (by decide))
    rwa [z5u,decide_eq_true rfl]at this
   ·have:=zj6 (T:=T) R R (by omega) (fun x hx=>Nat.le_trans (zy x hx) (by decide)) (fun x hx=>Nat.le_trans (zy x hx) (by decide))
    rwa [decide_eq_true rfl]at this
  ·unfold stSn celPb
   constructor<;>simp -implicitDefEqProofs[l567_0]
 unfold stSn celPb at hlp
 simp only[Int.natCast_zero]at hlp
 have hnl':((nodeT h).length:Int)=(nodeY h).length:=by omega
 clear hp hs hr8 hl ht ps pw pl l1 l2 l3 tc tq d1 d2 hn
 generalize nodeT h=TS at *
 generalize nodeY h=YS at *
 obtain⟨⟨code,outs,dim,par⟩,⟨nm,c',a',b,e⟩,pp,bits⟩:=p
 obtain⟨L,⟨t1,t2,t3⟩,hy⟩:=h
 dsimp only at *
 simp -implicitDefEqProofs[w,c1,c2,c3,c4,c5,h2,h4,h4',hlp,hnl,hnl']
end
end Go.Ab