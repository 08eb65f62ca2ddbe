/-
  A calculus of values, boxes and code, and what functions of the program compute, proved in it.
  Conditions: none beyond those that the theorems state. (Part 6.)
-/
import Derived.Test.YtfgfjicelfagcabGreatDoorPart5

set_option linter.unusedSectionVars false
set_option linter.unusedVariables false
set_option linter.unusedSimpArgs false
set_option linter.unnecessarySimpa false

namespace Go.Ab
def addU(t:Nat)(U:List Nat)(x:Nd):List Nat:=if x.op=5 then U.set x.i.toNat (min ((U[x.i.toNat]?).getD 0+t) 300) else U
def cntU(t:Nat)(U:List Nat)(c:List Nd):List Nat:=c.foldl (addU t) U
def occ(j:Nat)(c:List Nd):Nat:=(c.filter fun x=>decide (x.op=5)&&decide (x.i=(j:Int))).length
theorem zd0(t:Nat)(U:List Nat)(x:Nd):(addU t U x).length=U.length:=by unfold addU;split<;>simp
theorem zb9(t:Nat):∀(c:List Nd) (U:List Nat),(cntU t U c).length=U.length
 | [],U=>rfl
 | x::c,U=>by
  show (cntU t (addU t U x) c).length=_
  rw[zb9 t c,zd0]
theorem ztl(t:Nat)(U:List Nat)(c:List Nd)(x:Nd):cntU t U (c++[x])=addU t (cntU t U c) x:=by simp[cntU]
theorem zvc(t:Nat)(U:List Nat)(x:Nd)(j:Nat)(hj:j<U.length)(h0:x.op=5→0≤x.i):((addU t U x)[j]?).getD 0=if x.op=5∧x.i=(j:Int) then min ((U[j]?).getD 0+t) 300 else (U[j]?).getD 0:=by
 unfold addU
 by_cases ho:x.op=5
 ·have h0:=h0 ho
  rw[if_pos ho]
  by_cases hi:x.i=(j:Int)
  ·rw[if_pos ⟨ho,hi⟩,hi,Int.toNat_natCast,List.getElem?_set_self hj]
   rfl
  ·rw[if_neg (fun h=>hi h.2),List.getElem?_set_ne (by omega)]
 ·rw[if_neg ho,if_neg (fun h=>ho h.1)]
theorem ztm(t:Nat)(U:List Nat)(x:Nd)(hU:∀u∈U,u≤300):∀u∈addU t U x,u≤300:=by
 unfold addU
 split
 ·intro u hu
  rcases List.mem_or_eq_of_mem_set hu with h | h
  ·exact hU u h
  ·omega
 ·exact hU
theorem zg4(t:Nat):∀(c:List Nd) (U:List Nat),(∀u∈U,u≤300)→∀u∈cntU t U c,u≤300
 | [],U,h=>h
 | x::c,U,h=>zg4 t c (addU t U x) (ztm t U x h)
theorem zvd(j:Nat)(x:Nd)(c:List Nd):occ j (x::c)=(if x.op=5∧x.i=(j:Int) then 1 else 0)+occ j c:=by
 unfold occ
 rw[List.filter_cons]
 by_cases h:x.op=5∧x.i=(j:Int)
 ·rw[if_pos (by simp[h.1,h.2]),if_pos h,List.length_cons];omega
 ·rw[if_neg (by simpa using h),if_neg h];omega
theorem zjh{U:List Nat}(hU:∀u∈U,u≤300)(j:Nat):(U[j]?).getD 0≤300:=by
 cases h:U[j]? with
 | none=>simp
 | some u=>exact hU u (List.mem_of_getElem? h)
theorem zji(t:Nat):∀(c:List Nd) (U:List Nat) (j:Nat),j<U.length→(∀u∈U,u≤300)→(∀x∈c,x.op=5→0≤x.i)→((cntU t U c)[j]?).getD 0=min ((U[j]?).getD 0+occ j c*t) 300
 | [],U,j,_,hU,_=>by
  have:=zjh hU j
  show (U[j]?).getD 0=_
  simp[occ]
  omega
 | x::c,U,j,hj,hU,h0=>by
  show ((cntU t (addU t U x) c)[j]?).getD 0=_
  rw[zji t c (addU t U x) j (by rw[zd0];exact hj) (ztm t U x hU) fun y hy=>h0 y (List.mem_cons_of_mem _ hy),zvc t U x j hj (h0 x List.mem_cons_self),zvd]
  split
  ·rw[Nat.add_mul,Nat.one_mul];omega
  ·rw[Nat.zero_add]
def uOut(O:List (List Nd))(n:Nat):List Nat:=O.foldl (cntU 1) (List.replicate n 0)
def uDown(L:List (List Nd))(U:List Nat):Nat→List Nat
 | 0=>U
 | d+1=>let V:=uDown L U d;cntU ((V[L.length-1-d]?).getD 0) V ((L[L.length-1-d]?).getD [])
def tmR(U:List Nat)(n k:Nat):Nat:=if k<n then (U[k]?).getD 0 else 1
def sumR(U:List Nat)(n i:Nat)(l:List (List Nd)):Nat→Nat
 | 0=>0
 | d+1=>sumR U n i l d+tmR U n (i+1+d)*occ i ((l[i+1+d]?).getD [])
def rDown(L O:List (List Nd)):Nat→List Nat
 | 0=>List.replicate L.length 0
 | d+1=>let V:=rDown L O d;let i:=L.length-1-d;V.set i (min (sumR V L.length i (L++O) ((L++O).length-(i+1))) 300)
theorem zay(L:List (List Nd))(U:List Nat)(h:U.length=L.length):∀d,(uDown L U d).length=L.length
 | 0=>h
 | d+1=>by
  show (cntU _ (uDown L U d) _).length=_
  rw[zb9,zay L U h d]
theorem zcd(L O:List (List Nd)):∀d,(rDown L O d).length=L.length
 | 0=>by simp[rDown]
 | d+1=>by
  show ((rDown L O d).set _ _).length=_
  rw[List.length_set,zcd L O d]
theorem zjj(L:List (List Nd))(U:List Nat)(h:∀u∈U,u≤300):∀d,∀u∈uDown L U d,u≤300
 | 0=>h
 | d+1=>zg4 _ _ _ (zjj L U h d)
theorem za4(O:List (List Nd))(n:Nat):(uOut O n).length=n:=by
 unfold uOut
 have key:∀(O:List (List Nd)) (U:List Nat),(O.foldl (cntU 1) U).length=U.length:=by
  intro O
  induction O with
  | nil=>intro U;rfl
  | cons c O ih=>intro U;rw[List.foldl_cons,ih,zb9]
 rw[key,List.length_replicate]
theorem zmy(O:List (List Nd))(n:Nat):∀u∈uOut O n,u≤300:=by
 unfold uOut
 have key:∀(O:List (List Nd)) (U:List Nat),(∀u∈U,u≤300)→∀u∈O.foldl (cntU 1) U,u≤300:=by
  intro O
  induction O with
  | nil=>intro U h;exact h
  | cons c O ih=>intro U h;rw[List.foldl_cons];exact ih _ (zg4 1 c U h)
 exact key O _ (fun u hu=>by rw[List.eq_of_mem_replicate hu];omega)
theorem zve(O:List (List Nd))(n j:Nat)(hj:j<n)(h0:∀c∈O,∀x∈c,x.op=5→0≤x.i):((uOut O n)[j]?).getD 0=min ((O.map (occ j)).sum) 300:=by
 unfold uOut
 have key:∀(O:List (List Nd)) (U:List Nat),j<U.length→(∀u∈U,u≤300)→(∀c∈O,∀x∈c,x.op=5→0≤x.i)→((O.foldl (cntU 1) U)[j]?).getD 0=min ((U[j]?).getD 0+(O.map (occ j)).sum) 300:=by
  intro O
  induction O with
  | nil=>intro U hj hU _;have:=zjh hU j;show (U[j]?).getD 0=min ((U[j]?).getD 0+0) 300;omega
  | cons c O ih=>
   intro U hj hU h0
   rw[List.foldl_cons,ih _ (by rw[zb9];exact hj) (zg4 1 c U hU) (fun d hd=>h0 d (List.mem_cons_of_mem _ hd)),zji 1 c U j hj hU (h0 c List.mem_cons_self),List.map_cons,List.sum_cons]
   omega
 rw[key O _ (by simpa using hj) (fun u hu=>by rw[List.eq_of_mem_replicate hu];omega) h0]
 simp[hj]
def sFrom(U:List Nat)(L O:List (List Nd))(j:Nat):Nat→Nat
 | 0=>(O.map (occ j)).sum
 | d+1=>sFrom U L O j d+((U[L.length-1-d]?).getD 0)*occ j ((L[L.length-1-d]?).getD [])
theorem zvf{j:Nat}{c:List Nd}{b:Nat}(h:refB b c)(hj:b≤j):occ j c=0:=by
 unfold occ
 rw[List.length_eq_zero_iff,List.filter_eq_nil_iff]
 intro x hx hh
 simp only[Bool.and_eq_true,decide_eq_true_eq]at hh
 have:=h x hx hh.1
 omega
theorem ztn(U V:List Nat)(L O:List (List Nd))(j m d:Nat)(hd:d+m=L.length)(hj:j+1=m)(hV:∀k,m≤k→k<L.length→(V[k]?).getD 0=(U[k]?).getD 0) :
  sumR V L.length j (L++O) ((L++O).length-m)=sFrom U L O j d:=by
 -- first the lets,then the outs
 have outs:∀e,e≤O.length→sumR V L.length j (L++O) (d+e)=sumR V L.length j (L++O) d+((O.take e).map (occ j)).sum:=by
  intro e
  induction e with
  | zero=>intro _;simp
  | succ e ih=>
   intro he
   have hk:j+1+(d+e)=L.length+e:=by omega
   show sumR V L.length j (L++O) (d+e)+tmR V L.length (j+1+(d+e))*occ j (((L++O)[j+1+(d+e)]?).getD [])=_
   rw[ih (by omega),hk]
   have h1:tmR V L.length (L.length+e)=1:=by unfold tmR;rw[if_neg (by omega)]
   rw[h1,Nat.one_mul,List.getElem?_append_right (by omega),Nat.add_sub_cancel_left]
   have hx:O[e]? = some (O[e]'(by omega)):=List.getElem?_eq_getElem _
   rw[List.take_add_one,hx,List.map_append,List.sum_append]
   simp only[Option.toList_some,List.map_cons,List.map_nil,List.sum_cons,List.sum_nil,Option.getD_some]
   omega
 have lets:∀e,e≤d→sumR V L.length j (L++O) e=((List.range e).map fun q=>((U[j+1+q]?).getD 0)*occ j ((L[j+1+q]?).getD [])).sum:=by
  intro e
  induction e with
  | zero=>intro _;rfl
  | succ e ih=>
   intro he
   show sumR V L.length j (L++O) e+tmR V L.length (j+1+e)*occ j (((L++O)[j+1+e]?).getD [])=_
   rw[ih (by omega),List.range_succ,List.map_append,List.sum_append]
   have h1:tmR V L.length (j+1+e)=(U[j+1+e]?).getD 0:=by unfold tmR;rw[if_pos (by omega)];exact hV _ (by omega) (by omega)
   rw[h1,List.getElem?_append_left (by omega)]
   simp
 have back:∀e,e≤d→sFrom U L O j e=(O.map (occ j)).sum+((List.range e).map fun q=>((U[L.length-e+q]?).getD 0)*occ j ((L[L.length-e+q]?).getD [])).sum:=by
  intro e
  induction e with
  | zero=>intro _;simp[sFrom]
  | succ e ih=>
   intro he
   show sFrom U L O j e+((U[L.length-1-e]?).getD 0)*occ j ((L[L.length-1-e]?).getD [])=_
   rw[ih (by omega),List.range_succ_eq_map,List.map_cons,List.sum_cons,List.map_map]
   have e1:L.length-(e+1)+0=L.length-1-e:=by omega
   rw[e1]
   have e2:((fun q=>((U[L.length-(e+1)+q]?).getD 0)*occ j ((L[L.length-(e+1)+q]?).getD []))∘Nat.succ)=fun q=>((U[L.length-e+q]?).getD 0)*occ j ((L[L.length-e+q]?).getD []):=by
    funext q
    show ((U[L.length-(e+1)+(q+1)]?).getD 0)*occ j ((L[L.length-(e+1)+(q+1)]?).getD [])=_
    rw[show L.length-(e+1)+(q+1)=L.length-e+q by omega]
   rw[e2]
   omega
 have hl:(L++O).length-m=d+O.length:=by rw[List.length_append];omega
 rw[hl,outs O.length (Nat.le_refl _),lets d (Nat.le_refl _),back d (Nat.le_refl _),List.take_length]
 have e3:L.length-d=j+1:=by omega
 rw[e3]
 omega
theorem zla(L O:List (List Nd))(hL:refT L)(hO:∀c∈O,∀x∈c,x.op=5→0≤x.i):∀d,d≤L.length →
  (∀k,L.length-d≤k→k<L.length→((rDown L O d)[k]?).getD 0=((uDown L (uOut O L.length) d)[k]?).getD 0) ∧
  ∀j,j<L.length→((uDown L (uOut O L.length) d)[j]?).getD 0=min (sFrom (uDown L (uOut O L.length) d) L O j d) 300
 | 0,_=>⟨fun k h1 h2=>by omega,fun j hj=>zve O L.length j hj hO⟩
 | d+1,hd=>by
  obtain⟨h1,h2⟩:=zla L O hL hO d (by omega)
  have hlU:=zay L (uOut O L.length) (za4 _ _) d
  have hle:=zjj L (uOut O L.length) (zmy _ _) d
  have hlR:=zcd L O d
  have hi:L.length-1-d<L.length:=by omega
  obtain⟨c,hc⟩:∃c,L[L.length-1-d]? = some c:=⟨_,List.getElem?_eq_getElem hi⟩
  have hrb:=hL _ c hc
  have hup:uDown L (uOut O L.length) (d+1)=cntU (((uDown L (uOut O L.length) d)[L.length-1-d]?).getD 0) (uDown L (uOut O L.length) d) c:=by
   show cntU _ (uDown L (uOut O L.length) d) ((L[L.length-1-d]?).getD [])=_
   rw[hc];rfl
  generalize hU:uDown L (uOut O L.length) d=U at *
  have hget:∀j,j<L.length→((uDown L (uOut O L.length) (d+1))[j]?).getD 0=min ((U[j]?).getD 0+occ j c*((U[L.length-1-d]?).getD 0)) 300:=fun j hj=>by
   rw[hup];exact zji _ c U j (by omega) hle fun x hx ho=>(hrb x hx ho).1
  have hkeep:∀k,L.length-1-d≤k→k<L.length→((uDown L (uOut O L.length) (d+1))[k]?).getD 0=(U[k]?).getD 0:=fun k hk1 hk2=>by
   rw[hget k hk2,zvf hrb hk1,Nat.zero_mul,Nat.add_zero]
   have:=zjh hle k
   omega
  refine⟨fun k hk1 hk2=>?_,fun j hj=>?_⟩
  ·rw[hkeep k (by omega) hk2]
   show (((rDown L O d).set (L.length-1-d) (min (sumR (rDown L O d) L.length (L.length-1-d) (L++O) ((L++O).length-(L.length-1-d+1))) 300))[k]?).getD 0=_
   by_cases hk:L.length-1-d=k
   ·subst hk
    rw[List.getElem?_set_self (by omega),Option.getD_some,h2 _ hi]
    rw[ztn U (rDown L O d) L O (L.length-1-d) (L.length-1-d+1) d (by omega) rfl (fun k hk3 hk4=>h1 k (by omega) hk4)]
   ·rw[List.getElem?_set_ne hk]
    exact h1 k (by omega) hk2
  ·rw[hget j hj,h2 j hj]
   show _=min (sFrom (uDown L (uOut O L.length) (d+1)) L O j d+(((uDown L (uOut O L.length) (d+1))[L.length-1-d]?).getD 0)*occ j ((L[L.length-1-d]?).getD [])) 300
   have hs:∀e,e≤d→sFrom (uDown L (uOut O L.length) (d+1)) L O j e=sFrom U L O j e:=by
    intro e
    induction e with
    | zero=>intro _;rfl
    | succ e ih=>
     intro he
     show sFrom (uDown L (uOut O L.length) (d+1)) L O j e+_=sFrom U L O j e+_
     rw[ih (by omega),hkeep _ (by omega) (by omega)]
   rw[hs d (Nat.le_refl _),hkeep _ (Nat.le_refl _) hi,hc,Option.getD_some,Nat.mul_comm (occ j c)]
   omega
def usesP(f:Fd):List Nat:=uDown (f.lets.map (·.code)) (uOut f.outs f.lets.length) f.lets.length
theorem zto(f:Fd)(hL:refT (f.lets.map (·.code)))(hO:∀c∈f.outs,∀x∈c,x.op=5→0≤x.i):rDown (f.lets.map (·.code)) f.outs f.lets.length=usesP f:=by
 have hlen:(f.lets.map (·.code)).length=f.lets.length:=List.length_map ..
 obtain⟨h1,_⟩:=zla (f.lets.map (·.code)) f.outs hL hO f.lets.length (by omega)
 rw[hlen]at h1
 unfold usesP
 refine List.ext_getElem? fun k=>?_
 have e1:=zcd (f.lets.map (·.code)) f.outs f.lets.length
 have e2:=zay (f.lets.map (·.code)) (uOut f.outs f.lets.length) (by rw[za4,hlen]) f.lets.length
 by_cases hk:k<f.lets.length
 ·have:=h1 k (by omega) hk
  rw[List.getElem?_eq_getElem (by omega),List.getElem?_eq_getElem (by omega)]at this ⊢
  exact congrArg some this
 ·rw[List.getElem?_eq_none (by omega),List.getElem?_eq_none (by omega)]
def has5(c:List Nd):Bool:=c.any fun x=>decide (x.op=5)
def stPl0(O:List (List Nd))(j:Nat)(c:List Nd)(i:Nat):St:=
 ⟨[(12,.sl (rowC O) .an),(13,.i .i64 O.length),(14,.i .i64 (j:Int)),(18,.sl (rowN c) .an),(19,.i .i64 c.length),(20,.i .i64 (i:Int))],[],2⟩
def stPl1(O:List (List Nd))(j:Nat):St:=⟨[(12,.sl (rowC O) .an),(13,.i .i64 O.length),(14,.i .i64 (j:Int))],[],2⟩
section
variable{T:Tbl}[CPlain T]
theorem zmh(O:List (List Nd))(j:Nat)(c:List Nd)(hc:c.length≤4294967296)(hn:∀x∈c,x.n.length≤4294967296) :
  loopN T 0 2 (.norm false [12,13,14]) l659_0 (stPl0 O j c 0)=if has5 c then some (.r,⟨[(2,.b true)],[],2⟩) else some (.n,stPl1 O j):=by
 have:=zaj (T:=T) (k:=0) (id:=2) (g2:=.norm false [12,13,14]) (c:=l659_0) (fun i=>stPl0 O j c i) c.length
  (fun i=>if has5 (c.drop i) then some (.r,⟨[(2,.b true)],[],2⟩) else some (.n,stPl1 O j)) (fun i hi=>?_) ?_
 ·simpa using this
 ·obtain⟨x,hx,hmem⟩:∃x,c[i]? = some x∧x∈c:=⟨c[i]'hi,List.getElem?_eq_getElem hi,List.getElem_mem hi⟩
  obtain⟨_,hge⟩:=List.getElem?_eq_some_iff.1 hx
  have hd:c.drop i=x::c.drop (i+1):=by rw[List.drop_eq_getElem_cons hi,hge]
  have hlt':(i:Int)<c.length:=by omega
  have hws:=zal hi hc
  have hnx:=hn x hmem
  rw[hd]
  obtain⟨op,xi,n⟩:=x
  dsimp only at hnx
  by_cases ho:op=5
  ·right
   subst ho
   have h5:has5 ({ op:=5,i:=xi,n:=n } :: c.drop (i+1))=true:=by simp[has5]
   rw[h5]
   unfold stPl0
   constructor<;>simp -implicitDefEqProofs[l659_0,hi,hlt',hx,hge,hws,hnx]
  ·left
   have h5:has5 ({ op:=op,i:=xi,n:=n } :: c.drop (i+1))=has5 (c.drop (i+1)):=by simp[has5,ho]
   rw[h5]
   refine⟨?_,rfl⟩
   unfold stPl0
   simp -implicitDefEqProofs[l659_0,hi,hlt',hx,hge,hws,hnx,ho]
 ·rw[List.drop_length]
  unfold stPl0 stPl1
  constructor<;>simp -implicitDefEqProofs[l659_0,has5]
theorem zmi(O:List (List Nd))(hO:O.length≤100000)(hc:∀c∈O,c.length≤4294967296∧∀x∈c,x.n.length≤4294967296) :
  loopN T 0 0 (.norm false []) l659_1 (stPl1 O 0)=if O.any has5 then some (.r,⟨[(2,.b true)],[],2⟩) else some (.n,⟨[],[],2⟩):=by
 have:=zaj (T:=T) (k:=0) (id:=0) (g2:=.norm false []) (c:=l659_1) (fun i=>stPl1 O i) O.length
  (fun i=>if (O.drop i).any has5 then some (.r,⟨[(2,.b true)],[],2⟩) else some (.n,⟨[],[],2⟩)) (fun i hi=>?_) ?_
 ·simpa using this
 ·obtain⟨c,hx,hmem⟩:∃x,O[i]? = some x∧x∈O:=⟨O[i]'hi,List.getElem?_eq_getElem hi,List.getElem_mem hi⟩
  obtain⟨_,hge⟩:=List.getElem?_eq_some_iff.1 hx
  have hd:O.drop i=c::O.drop (i+1):=by rw[List.drop_eq_getElem_cons hi,hge]
  have hlt':(i:Int)<O.length:=by omega
  have hws:=zal hi (by omega)
  have hl:=zmh (T:=T) O i c (hc c hmem).1 (hc c hmem).2
  unfold stPl0 stPl1 at hl
  rw[hd,List.any_cons]
  cases h5:has5 c with
  | true=>
   rw[h5,if_pos rfl]at hl
   right
   unfold stPl1
   simp -implicitDefEqProofs at hl
   constructor<;>simp -implicitDefEqProofs[l659_1,hi,hlt',hx,hge,hws,hl]
  | false=>
   rw[h5,if_neg (by decide)]at hl
   left
   refine⟨?_,by rw[Bool.false_or]⟩
   unfold stPl1
   simp -implicitDefEqProofs at hl
   simp -implicitDefEqProofs[l659_1,hi,hlt',hx,hge,hws,hl]
 ·rw[List.drop_length]
  unfold stPl1
  constructor<;>simp -implicitDefEqProofs[l659_1]
theorem zh9(f:Fd)(h1:f.lets.length≤100000)(h2:f.outs.length≤100000)(hc:∀c∈f.outs,c.length≤4294967296∧∀x∈c,x.n.length≤4294967296) :
  callF T 659 [efd f]=some (.b (letsB f)):=by
 have hl:=zmi (T:=T) f.outs h2 hc
 unfold letsB
 rw[show (f.outs.any fun c=>c.any fun x=>decide (x.op=5))=f.outs.any has5 from rfl]
 generalize f.outs.any has5=b at *
 obtain⟨L,O⟩:=f
 dsimp only at *
 unfold stPl1 at hl
 rw[f659 _ rfl,b659]
 cases L with
 | cons x L=>
  have h3:(0:Int)<(L.length:Int)+1:=by omega
  simp -implicitDefEqProofs[h3]
 | nil=>
  cases b
  ·rw[if_neg (by decide)]at hl
   simp -implicitDefEqProofs at hl
   simp -implicitDefEqProofs[hl]
  ·rw[if_pos rfl]at hl
   simp -implicitDefEqProofs at hl
   simp -implicitDefEqProofs[hl]
end
def stPu(t:Nat)(U:List Nat)(c:List Nd)(i:Nat):St:=
 ⟨[(1,.i .i64 (t:Int)),(2,.bs (.bor 0) 0 1 0 U.length),(8,.sl (rowN c) .an),(9,.i .i64 c.length),(10,.i .i64 (i:Int))],[(.bor 0,⟨0,.own,1,natR U⟩)],4⟩
section
variable{T:Tbl}[CPlain T]
theorem zgs(t:Nat)(U:List Nat)(c:List Nd)(ht:t≤300)(hU:∀u∈U,u≤300)(hc:c.length≤4294967296)(hn:∀x∈c,x.n.length≤4294967296)(hb:refB U.length c) :
  callH T 667 [.sl (rowN c) .an,.i .i64 (t:Int),.bs (.bor 0) 0 1 0 U.length] [(.bor 0,⟨0,.own,1,natR U⟩)]=some (.tup [],[(.bor 0,⟨0,.own,1,natR (cntU t U c)⟩)]):=by
 have hloop:loopN T 1 0 (.norm false []) l667_0 (stPu t U c 0)=some (.n,⟨[],[(.bor 0,⟨0,.own,1,natR (cntU t U c)⟩)],4⟩):=by
  have:=zae (T:=T) (k:=1) (id:=0) (g2:=.norm false []) (c:=l667_0) (fun i=>stPu t (cntU t U (c.take i)) c i) c.length
   (some (.n,⟨[],[(.bor 0,⟨0,.own,1,natR (cntU t U c)⟩)],4⟩)) (fun i hi=>?_) ?_
  ·simpa[show cntU t U []=U from rfl]using this
  ·obtain⟨x,hx,hmem⟩:∃x,c[i]? = some x∧x∈c:=⟨c[i]'hi,List.getElem?_eq_getElem hi,List.getElem_mem hi⟩
   obtain⟨_,hge⟩:=List.getElem?_eq_some_iff.1 hx
   have hsn:cntU t U (c.take (i+1))=addU t (cntU t U (c.take i)) x:=by rw[List.take_add_one,hx,Option.toList_some,ztl]
   have hle:=zg4 t (c.take i) U hU
   have hlen:=zb9 t (c.take i) U
   have hlt':(i:Int)<c.length:=by omega
   have hws:=zal hi hc
   have hnx:=hn _ hmem
   have hbx:=hb _ hmem
   have hal:=zd0 t (cntU t U (c.take i)) x
   unfold stPu
   rw[hsn]
   generalize cntU t U (c.take i)=V at *
   obtain⟨op,xi,n⟩:=x
   dsimp only at hnx hbx
   by_cases ho:op=5
   ·subst ho
    obtain⟨h0,h1⟩:=hbx rfl
    obtain⟨j,rfl⟩:∃j:Nat,xi=(j:Int):=⟨xi.toNat,by omega⟩
    have hj:j<V.length:=by omega
    have hjs:V[j]? = some (V[j]'hj):=List.getElem?_eq_getElem hj
    have hjm:=hle _ (List.getElem_mem hj)
    have hj':(j:Int)<V.length:=by omega
    have hju:(j:Int)<U.length:=by omega
    have had:addU t V ⟨5,(j:Int),n⟩=V.set j (min (V[j]'hj+t) 300):=by
     unfold addU
     rw[if_pos rfl,Int.toNat_natCast,hjs,Option.getD_some]
    rw[had]at hal ⊢
    have hset:=zn2 V j (min (V[j]'hj+t) 300)
    generalize hv:V[j]'hj=v at *
    have hw:IntKind.wrap .i64 ((v:Int)+(t:Int))=(v:Int)+(t:Int):=zac _ (by omega)
    by_cases hmv:v+t≤300
    ·have hmn:min (v+t) 300=v+t:=by omega
     have hm2:¬ ((300:Int)<(v:Int)+(t:Int)):=by omega
     rw[hmn]at hset ⊢
     rw[Int.natCast_add]at hset
     simp -implicitDefEqProofs[l667_0,hi,hlt',hx,hge,hws,hj,hj',hju,hjs,hv,hw,h1,mm2,hm2,hset,hlen,hal]
    ·have hmn:min (v+t) 300=300:=by omega
     have hm2:((300:Int)<(v:Int)+(t:Int)):=by omega
     rw[hmn]at hset ⊢
     rw[show ((300:Nat):Int)=300 from rfl]at hset
     simp -implicitDefEqProofs[l667_0,hi,hlt',hx,hge,hws,hj,hj',hju,hjs,hv,hw,h1,mm2,hm2,hset,hlen,hal]
   ·have had:addU t V ⟨op,xi,n⟩=V:=by unfold addU;rw[if_neg ho]
    rw[had]
    simp -implicitDefEqProofs[l667_0,hi,hlt',hx,hge,hws,ho,hnx,hlen]
  ·rw[List.take_length]
   unfold stPu
   constructor<;>simp -implicitDefEqProofs[l667_0]
 unfold stPu at hloop
 rw[f667 _ _ rfl,b667]
 simp -implicitDefEqProofs at hloop
 simp -implicitDefEqProofs[hloop]
end
def stPup(f:Fd)(i:Nat):St:=
 ⟨[(1,.ptr (.loc 1) 1 2 0 0),(3,.bs (.loc 13) 2 1 0 f.lets.length),(15,.sl (rowC f.outs) .an),(16,.i .i64 f.outs.length),(17,.i .i64 (i:Int))],
  [(.loc 1,⟨1,.str,2,[[.sl (rowLt f.lets) .an,.sl (rowC f.outs) .an]]⟩),(.loc 13,⟨2,.own,1,natR (uOut (f.outs.take i) f.lets.length)⟩)],4⟩
def stPdn(f:Fd)(U:List Nat)(d:Nat):St:=
 ⟨[(1,.ptr (.loc 1) 1 2 0 0),(3,.bs (.loc 13) 2 1 0 f.lets.length),(6,.i .i64 ((f.lets.length:Int)-1-(d:Int)))],
  [(.loc 1,⟨1,.str,2,[[.sl (rowLt f.lets) .an,.sl (rowC f.outs) .an]]⟩),(.loc 13,⟨2,.own,1,natR (uDown (f.lets.map (·.code)) U d)⟩)],4⟩
theorem zsi(O:List (List Nd))(n:Nat)(c:List Nd):uOut (O++[c]) n=cntU 1 (uOut O n) c:=by simp[uOut]
section
variable{T:Tbl}[CPlain T]
theorem zmj(f:Fd)(h2:f.outs.length≤100000)(hb:∀c∈f.outs,refB f.lets.length c∧c.length≤100000∧thin 100000 c) :
  loopN T 0 0 (.norm false [1,3]) l668_0 (stPup f 0)=some (.n,⟨[(1,.ptr (.loc 1) 1 2 0 0),(3,.bs (.loc 13) 2 1 0 f.lets.length)],
   [(.loc 1,⟨1,.str,2,[[.sl (rowLt f.lets) .an,.sl (rowC f.outs) .an]]⟩),(.loc 13,⟨2,.own,1,natR (uOut f.outs f.lets.length)⟩)],4⟩):=by
 refine zae (T:=T) (k:=0) (id:=0) (g2:=.norm false [1,3]) (c:=l668_0) (fun i=>stPup f i) f.outs.length _ (fun i hi=>?_) ?_
 ·obtain⟨c,hx,hmem⟩:∃c,f.outs[i]? = some c∧c∈f.outs:=⟨f.outs[i]'hi,List.getElem?_eq_getElem hi,List.getElem_mem hi⟩
  obtain⟨_,hge⟩:=List.getElem?_eq_some_iff.1 hx
  have hlt':(i:Int)<f.outs.length:=by omega
  have hws:=zal hi (by omega)
  obtain⟨b1,b2,b3⟩:=hb c hmem
  have hlen:=za4 (f.outs.take i) f.lets.length
  have hct:=zgs (T:=T) 1 (uOut (f.outs.take i) f.lets.length) c (by omega) (zmy _ _) (by omega) (fun y hy=>by have:=b3 y hy;omega) (by rw[hlen];exact b1)
  rw[hlen,←zsi]at hct
  rw[show ((1:Nat):Int)=1 from rfl]at hct
  unfold stPup
  rw[List.take_add_one,hx,Option.toList_some]
  generalize uOut (f.outs.take i++[c]) f.lets.length=V at *
  generalize uOut (f.outs.take i) f.lets.length=U at *
  obtain⟨L,O⟩:=f
  dsimp only at *
  simp -implicitDefEqProofs[l668_0,hi,hlt',hx,hge,hws,hct]
 ·unfold stPup
  rw[List.take_length]
  constructor<;>simp -implicitDefEqProofs[l668_0]
theorem zmk(f:Fd)(U:List Nat)(hU:U.length=f.lets.length)(hle:∀u∈U,u≤300)(h1:f.lets.length≤100000)(hL:refT (f.lets.map (·.code)))(hn:∀x∈f.lets,x.code.length≤100000∧thin 100000 x.code) :
  loopN T 0 2 (.norm false [3]) l668_1 (stPdn f U 0)=some (.n,⟨[(3,.bs (.loc 13) 1 1 0 f.lets.length)],[(.loc 13,⟨1,.own,1,natR (uDown (f.lets.map (·.code)) U f.lets.length)⟩)],3⟩):=by
 have hlm:(f.lets.map (·.code)).length=f.lets.length:=List.length_map ..
 refine zae (T:=T) (k:=0) (id:=2) (g2:=.norm false [3]) (c:=l668_1) (fun i=>stPdn f U i) f.lets.length _ (fun d hd=>?_) ?_
 ·have hi:f.lets.length-1-d<f.lets.length:=by omega
  obtain⟨x,hx,hmem⟩:∃x,f.lets[f.lets.length-1-d]? = some x∧x∈f.lets:=⟨f.lets[f.lets.length-1-d]'hi,List.getElem?_eq_getElem hi,List.getElem_mem hi⟩
  obtain⟨_,hge⟩:=List.getElem?_eq_some_iff.1 hx
  have hxc:(f.lets.map (·.code))[f.lets.length-1-d]? = some x.code:=by rw[List.getElem?_map,hx];rfl
  have hlen:=zay (f.lets.map (·.code)) U (by omega) d
  have hleD:=zjj (f.lets.map (·.code)) U hle d
  rw[hlm]at hlen
  have hup:uDown (f.lets.map (·.code)) U (d+1)=cntU (((uDown (f.lets.map (·.code)) U d)[f.lets.length-1-d]?).getD 0) (uDown (f.lets.map (·.code)) U d) x.code:=by
   show cntU (((uDown (f.lets.map (·.code)) U d)[(f.lets.map (·.code)).length-1-d]?).getD 0) (uDown (f.lets.map (·.code)) U d) (((f.lets.map (·.code))[(f.lets.map (·.code)).length-1-d]?).getD [])=_
   rw[hlm,hxc];rfl
  unfold stPdn
  rw[hup]
  generalize uDown (f.lets.map (·.code)) U d=V at *
  obtain⟨v,hvs,hvm⟩:∃v,V[f.lets.length-1-d]? = some v∧v≤300:=⟨V[f.lets.length-1-d]'(by omega),List.getElem?_eq_getElem _,hleD _ (List.getElem_mem _)⟩
  rw[hvs,Option.getD_some]
  have hct:=zgs (T:=T) v V x.code hvm hleD (by have:=(hn x hmem).1;omega) (fun y hy=>by have:=(hn x hmem).2 y hy;omega) (by rw[hlen];exact(hL _ x.code hxc).mono (by omega))
  rw[hlen]at hct
  obtain⟨_,hv⟩:=List.getElem?_eq_some_iff.1 hvs
  obtain⟨i,hie⟩:∃i,f.lets.length-1-d=i:=⟨_,rfl⟩
  simp only[hie]at *
  have hiI:(f.lets.length:Int)-1-(d:Int)=(i:Int):=by omega
  have hiI2:(f.lets.length:Int)-1-((d+1:Nat):Int)=(i:Int)-1:=by omega
  rw[hiI,hiI2]
  have hws:IntKind.wrap .i64 ((i:Int)-1)=(i:Int)-1:=zac _ (by omega)
  have hi0:(0:Int)≤(i:Int):=by omega
  have hlt':(i:Int)<f.lets.length:=by omega
  have hvl:i<V.length:=by omega
  obtain⟨L,O⟩:=f
  dsimp only at *
  simp -implicitDefEqProofs[l668_1,hi,hi0,hlt',hx,hge,hws,hct,hvs,hv,hvl]
 ·unfold stPdn
  have hm:(f.lets.length:Int)-1-(f.lets.length:Int)=-1:=by omega
  rw[hm]
  constructor<;>simp -implicitDefEqProofs[l668_1]
variable[CTree T][CTree2 T][CText T][CLenD T][CLimb T][CNat T][CJoin T][CLex T][CCheck T]
theorem zia(f:Fd)(h1:f.lets.length≤100000)(h2:f.outs.length≤100000)(hn:thinD 1000 50000 f)(hz:sizeD f≤4294967295)(hs:∀x∈f.lets,x.name.length≤100000) :
  callF T 668 [efd f]=some (.sl (natR (if chkD f f.outs.length 6=none then usesP f else [])) .an):=by
 have cm:=zky (T:=T) f h1 h2 hn hz hs
 by_cases hq:chkD f f.outs.length 6=none
 ·have hF:=zem hq
  have hlL:∀x∈f.lets,x.code.length≤100000∧thin 100000 x.code:=fun x hx=>by
   have:=hn x.code (zdk hx)
   exact⟨by omega,fun y hy=>by have:=this.2 y hy;omega⟩
  have hlO:∀c∈f.outs,refB f.lets.length c∧c.length≤100000∧thin 100000 c:=fun c hc=>by
   have:=hn c (zbx hc)
   exact⟨hF.refB c hc,by omega,fun y hy=>by have:=this.2 y hy;omega⟩
  have l0:=zmj (T:=T) f h2 hlO
  have l1:=zmk (T:=T) f (uOut f.outs f.lets.length) (za4 _ _) (zmy _ _) h1 hF.refT hlL
  rw[decide_eq_true hq]at cm
  rw[if_pos hq]
  unfold usesP
  unfold stPup at l0
  unfold stPdn at l1
  rw[show uOut (f.outs.take 0) f.lets.length=List.replicate f.lets.length 0 from rfl]at l0
  rw[show uDown (f.lets.map (·.code)) (uOut f.outs f.lets.length) 0=uOut f.outs f.lets.length from rfl]at l1
  have hU:=zay (f.lets.map (·.code)) (uOut f.outs f.lets.length) (by rw[za4];simp) f.lets.length
  rw[List.length_map]at hU
  have htk:(natR (uDown (f.lets.map (·.code)) (uOut f.outs f.lets.length) f.lets.length)).take f.lets.length=natR (uDown (f.lets.map (·.code)) (uOut f.outs f.lets.length) f.lets.length):=List.take_of_length_le (by rw[zdv];omega)
  generalize uDown (f.lets.map (·.code)) (uOut f.outs f.lets.length) f.lets.length=V at *
  generalize uOut f.outs f.lets.length=U at *
  have hz0:List.replicate f.lets.length [AV.i .i64 0]=natR (List.replicate f.lets.length 0):=by simp[natR]
  have hw:IntKind.wrap .i64 ((f.lets.length:Int)-1)=(f.lets.length:Int)-1:=zac _ (by omega)
  have hl4:(f.lets.length:Int)≤4294967296:=by omega
  rw[show (f.lets.length:Int)-1-((0:Nat):Int)=(f.lets.length:Int)-1 by omega]at l1
  obtain⟨L,O⟩:=f
  dsimp only at *
  clear hn hz hs hF hlL hlO hq
  rw[f668 _ rfl,b668]
  simp -implicitDefEqProofs at l0 l1
  simp -implicitDefEqProofs[cm,l0,l1,hz0,hw,htk,hl4,hU]
 ·rw[decide_eq_false hq]at cm
  rw[if_neg hq]
  obtain⟨L,O⟩:=f
  dsimp only at *
  clear hn hz hs hq
  rw[f668 _ rfl,b668]
  simp -implicitDefEqProofs[cm]
end
def wk22:Fd:=⟨[⟨[97],[⟨2,0,[]⟩,⟨1,0,[1]⟩,⟨7,0,[]⟩]⟩],[[⟨5,0,[]⟩,⟨5,0,[]⟩,⟨9,0,[]⟩]]⟩
section
variable{T:Tbl}[CPlain T][CTree T][CTree2 T][CText T][CLenD T][CLimb T][CNat T][CJoin T][CLex T][CCheck T][CLaw22 T]
theorem zmb:callF T 671 []=some (.b true):=by
 have hn:thinD 1000 50000 wk22:=by
  intro c hc
  have:c=[⟨2,0,[]⟩,⟨1,0,[1]⟩,⟨7,0,[]⟩]∨c=[⟨5,0,[]⟩,⟨5,0,[]⟩,⟨9,0,[]⟩]:=by simpa[codesD,wk22]using hc
  rcases this with rfl | rfl
  all_goals
   refine⟨by decide,fun x hx=>?_⟩
   simp only[List.mem_cons,List.not_mem_nil,or_false]at hx
   rcases hx with rfl | rfl | rfl<;>decide
 have hq:chkD wk22 wk22.outs.length 6=none:=by decide +kernel
 have hp:hasP wk22=true:=by decide +kernel
 have ho:outsP wk22=[[⟨2,0,[]⟩,⟨1,0,[1]⟩,⟨7,0,[]⟩,⟨2,0,[]⟩,⟨1,0,[1]⟩,⟨7,0,[]⟩,⟨9,0,[]⟩]]:=by decide +kernel
 have hu:usesP wk22=[2]:=by decide +kernel
 have hl:letsB wk22=true:=by decide +kernel
 have c1:=zey (T:=T) wk22 (by decide) (by decide) hn (by decide) (by simp[wk22])
 have c2:=zia (T:=T) wk22 (by decide) (by decide) hn (by decide) (by simp[wk22])
 have c3:=zh9 (T:=T) wk22 (by decide) (by decide) (fun c hc=>by
  have:=hn c (zbx hc)
  exact⟨by omega,fun x hx=>by have:=this.2 x hx;omega⟩)
 rw[hp,if_pos rfl,ho]at c1
 rw[if_pos hq,hu]at c2
 rw[hl]at c3
 clear hn hq hp ho hu hl
 unfold wk22 at c1 c2 c3
 have u1:u32s [1]=[[u32 1]]:=rfl
 simp only[rowN,rowC,rowLt,celLt,celN,natR,List.map_cons,List.map_nil,efd,u1,zui]at c1 c2 c3
 simp only[Int.natCast_one,Int.natCast_zero,Int.cast_ofNat_Int]at c1 c2 c3
 rw[f671 _ rfl,b671]
 simp -implicitDefEqProofs[c1,c2,c3]
end
def stRp(L:List Lt)(m:Nat)(out c:List Nd)(i:Nat):St:=
 ⟨[(0,.sl (rowN c) .an),(1,.sl (rowLt L) .an),(2,.i .i64 (m:Int)),(7,.bs (.loc 7) 1 3 0 out.length),(8,.i .i64 (i:Int))],[(.loc 7,⟨1,.own,3,rowN out⟩)],3⟩
theorem zsy(E:List (List Nd))(c:List Nd)(i:Nat):inE E c=inE E (c.take i)++inE E (c.drop i):=by rw[←zg3,List.take_append_drop]
theorem zjb(E:List (List Nd))(c:List Nd)(i:Nat)(x:Nd)(hx:c[i]? = some x):inE E (c.take (i+1))=inE E (c.take i)++if x.op=5 then (E[x.i.toNat]?).getD [] else [x]:=by
 rw[List.take_add_one,hx,zg3]
 simp only[Option.toList_some,zmx]
section
variable{T:Tbl}[CRef22 T]
theorem zsz(L:List Lt)(m:Nat)(out c:List Nd)(i:Nat)(x:Nd)(hx:c[i]? = some x)(ho:x.op≠5)(hn:x.n.length≤4294967296)(hc:c.length≤4294967296)(hm:out.length≤m)(hm2:m≤100000) :
  evX (orc T) T 0 l672_0 (stRp L m out c i)=some (.n,stRp L m (out++[x]) c (i+1)):=by
 obtain⟨hlt,hge⟩:=List.getElem?_eq_some_iff.1 hx
 have hlt':(i:Int)<c.length:=by omega
 have hws:=zal hlt hc
 have hs:=zg5 out x
 have hmI:(out.length:Int)≤m:=by omega
 have hl:out.length+1≤4294967296:=by omega
 obtain⟨op,xi,n⟩:=x
 dsimp only at ho hn
 unfold stRp
 simp -implicitDefEqProofs[l672_0,hlt,hlt',hx,hge,hws,ho,hn,hs,hl,hmI]
theorem zjc(L:List Lt)(m:Nat)(out c d:List Nd)(i:Nat)(x:Nd)(y:Lt)(hx:c[i]? = some x)(ho:x.op=5)(h0:0≤x.i)(hy:L[x.i.toNat]? = some y)(hc:c.length≤4294967296)(hm:out.length≤m)(hm2:m≤100000)(hd:d.length≤100001)
  (hcl:callF T 672 [.sl (rowN y.code) .an,.sl (rowLt L) .an,.i .i64 (((m-out.length:Nat):Int))]=some (.sl (rowN d) .an)) :
  evX (orc T) T 0 l672_0 (stRp L m out c i)=some (.n,stRp L m (out++d) c (i+1)):=by
 obtain⟨hlt,hge⟩:=List.getElem?_eq_some_iff.1 hx
 have hlt':(i:Int)<c.length:=by omega
 have hws:=zal hlt hc
 have hs:=zg6 out d
 have hmI:(out.length:Int)≤m:=by omega
 have hl:out.length+d.length≤4294967296:=by omega
 have hw:IntKind.wrap .i64 ((m:Int)-(out.length:Int))=((m-out.length:Nat):Int):=by rw[zac _ (by omega)];omega
 obtain⟨op,xi,n⟩:=x
 dsimp only at ho h0 hy
 subst ho
 obtain⟨j,rfl⟩:∃j:Nat,xi=(j:Int):=⟨xi.toNat,by omega⟩
 rw[Int.toNat_natCast]at hy
 obtain⟨hj,hyg⟩:=List.getElem?_eq_some_iff.1 hy
 have hj':(j:Int)<L.length:=by omega
 obtain⟨nm,code⟩:=y
 dsimp only at hcl
 unfold stRp
 simp -implicitDefEqProofs[l672_0,hlt,hlt',hx,hge,hws,hs,hl,hmI,hj,hj',hy,hyg,hw,hcl]
theorem zvw(L:List Lt)(E:List (List Nd))(b:Nat)(hb:b≤L.length)
  (hlet:∀i y,i<b→L[i]? = some y→∀m:Nat,m≤100000→callF T 672 [.sl (rowN y.code) .an,.sl (rowLt L) .an,.i .i64 (m:Int)]=some (.sl (rowN (((E[i]?).getD []).take (m+1))) .an))
  (c:List Nd) (hcb:refB b c) (hl:c.length≤100000) (hn:thin 100000 c) (m:Nat) (hm:m≤100000) :
  callF T 672 [.sl (rowN c) .an,.sl (rowLt L) .an,.i .i64 (m:Int)]=some (.sl (rowN ((inE E c).take (m+1))) .an):=by
 have hloop:loopN T 0 0 (.norm false [7]) l672_0 (stRp L m [] c 0)=some (.n,⟨[(7,.bs (.loc 7) 1 3 0 ((inE E c).take (m+1)).length)],[(.loc 7,⟨1,.own,3,rowN ((inE E c).take (m+1))⟩)],3⟩):=by
  have fin:∀(out:List Nd) (i:Nat),(i=c.length∨m<out.length)→isEx (evX (orc T) T 0 l672_0 (stRp L m out c i))=true ∧
    finX 0 0 (.norm false [7]) (evX (orc T) T 0 l672_0 (stRp L m out c i))=some (.n,⟨[(7,.bs (.loc 7) 1 3 0 out.length)],[(.loc 7,⟨1,.own,3,rowN out⟩)],3⟩):=by
   intro out i h
   unfold stRp
   by_cases hi:i<c.length
   ·have hi':(i:Int)<c.length:=by omega
    have hmo:¬ (out.length:Int)≤m:=by omega
    constructor<;>simp -implicitDefEqProofs[l672_0,hi',hmo]
   ·have hi':¬ (i:Int)<c.length:=by omega
    constructor<;>simp -implicitDefEqProofs[l672_0,hi']
  have:=zaj (T:=T) (k:=0) (id:=0) (g2:=.norm false [7]) (c:=l672_0) (fun i=>stRp L m ((inE E (c.take i)).take (m+1)) c i) c.length
   (fun _=>some (.n,⟨[(7,.bs (.loc 7) 1 3 0 ((inE E c).take (m+1)).length)],[(.loc 7,⟨1,.own,3,rowN ((inE E c).take (m+1))⟩)],3⟩)) (fun i hi=>?_) ?_
  ·simpa[zxi]using this
  ·obtain⟨x,hx,hmem⟩:∃x,c[i]? = some x∧x∈c:=⟨c[i]'hi,List.getElem?_eq_getElem hi,List.getElem_mem hi⟩
   by_cases hX:(inE E (c.take i)).length≤m
   ·left
    refine⟨?_,rfl⟩
    rw[List.take_of_length_le (show (inE E (c.take i)).length≤m+1 by omega),zjb E c i x hx]
    by_cases ho:x.op=5
    ·obtain⟨h0,hxb⟩:=hcb x hmem ho
     have hy:L[x.i.toNat]? = some (L[x.i.toNat]'(by omega)):=List.getElem?_eq_getElem _
     have hcl:=hlet x.i.toNat _ (by omega) hy (m-(inE E (c.take i)).length) (by omega)
     rw[if_pos ho,List.take_append,List.take_of_length_le (show (inE E (c.take i)).length≤m+1 by omega),show m+1-(inE E (c.take i)).length=m-(inE E (c.take i)).length+1 by omega]
     exact zjc L m _ c _ i x _ hx ho h0 hy (by omega) hX hm (by rw[List.length_take];omega) hcl
    ·rw[if_neg ho,List.take_of_length_le (l:=inE E (c.take i)++[x]) (by rw[List.length_append,List.length_singleton];omega)]
     exact zsz L m _ c i x hx ho (by have:=hn x hmem;omega) (by omega) hX hm
   ·right
    have e:(inE E (c.take i)).take (m+1)=(inE E c).take (m+1):=by
     rw[zsy E c i,List.take_append,show m+1-(inE E (c.take i)).length=0 by omega,List.take_zero,List.append_nil]
    rw[e]
    exact fin _ i (.inr (by rw[←e,List.length_take];omega))
  ·rw[List.take_length]
   exact fin _ _ (.inl rfl)
 unfold stRp at hloop
 rw[f672 _ rfl,b672]
 generalize (inE E c).take (m+1)=R at *
 simp -implicitDefEqProofs at hloop
 simp -implicitDefEqProofs[hloop]
theorem zxe(L:List Lt)(E:List (List Nd))(hE:E=tabE (L.map (·.code)))(hL:refT (L.map (·.code)))(hn:∀x∈L,x.code.length≤100000∧thin 100000 x.code) :
  ∀b,b≤L.length→∀i y,i<b→L[i]? = some y→∀m:Nat,m≤100000→callF T 672 [.sl (rowN y.code) .an,.sl (rowLt L) .an,.i .i64 (m:Int)]=some (.sl (rowN (((E[i]?).getD []).take (m+1))) .an):=by
 intro b
 induction b with
 | zero=>intro _ i y hi;omega
 | succ b ih=>
  intro hb i y hi hy m hm
  by_cases hib:i<b
  ·exact ih (by omega) i y hib hy m hm
  have hib':i=b:=by omega
  subst hib'
  have hxc:(L.map (·.code))[i]? = some y.code:=by rw[List.getElem?_map,hy];rfl
  have hEi:(E[i]?).getD []=inE E y.code:=by rw[hE,zn8 hL i y.code hxc];rfl
  have hmem:=List.mem_of_getElem? hy
  rw[hEi]
  exact zvw L E i (by omega) (ih (by omega)) y.code (hL i y.code hxc) (hn y hmem).1 (hn y hmem).2 m hm
theorem zs0(L:List Lt)(hL:refT (L.map (·.code)))(hn:∀x∈L,x.code.length≤100000∧thin 100000 x.code)(c:List Nd)(hb:refB L.length c)(hl:c.length≤100000)(hc:thin 100000 c)(m:Nat)(hm:m≤100000) :
  callF T 672 [.sl (rowN c) .an,.sl (rowLt L) .an,.i .i64 (m:Int)]=some (.sl (rowN ((inE (tabE (L.map (·.code))) c).take (m+1))) .an):=
 zvw L (tabE (L.map (·.code))) L.length (Nat.le_refl _) (zxe (T:=T) L _ rfl hL hn L.length (Nat.le_refl _)) c hb hl hc m hm
end
section
variable{T:Tbl}[CRef17 T]
theorem zcu(op:Int):callF T 113 [.i .i64 op]=some (.i .i64 (arN op)):=by
 rw[f113 _ rfl,b113]
 rcases zbc op with ⟨e,h1,h2⟩ | ⟨e,rfl | rfl⟩ | ⟨e,h1,h2⟩ | ⟨e,h⟩
 ·rw[e]
  simp -implicitDefEqProofs[h1,h2]
 ·rw[e]
  simp -implicitDefEqProofs
 ·rw[e]
  simp -implicitDefEqProofs
 ·rw[e]
  have g1:1≤op:=by omega
  have g2:¬ op≤5:=by omega
  have g3:op≠6:=by omega
  have g4:op≠11:=by omega
  simp -implicitDefEqProofs[h1,h2,g1,g2,g3,g4]
 ·rw[e]
  have g3:op≠6:=by omega
  have g4:op≠11:=by omega
  rcases h with h | h
  ·have g1:¬ 1≤op:=by omega
   have g2:¬ 7≤op:=by omega
   simp -implicitDefEqProofs[g1,g2,g3,g4]
  ·have g1:1≤op:=by omega
   have g2:7≤op:=by omega
   have g5:¬ op≤5:=by omega
   have g6:¬ op≤10:=by omega
   simp -implicitDefEqProofs[g1,g2,g3,g4,g5,g6]
def stWq(l:List Nd)(p:Nat×Int):St:=⟨[(0,.sl (rowN l) .an),(3,.i .i64 p.2),(4,.i .i64 p.1)],[],2⟩
theorem zfe(l:List Nd)(hl:l.length≤4294967296):∀p:Nat×Int,(p.1≤l.length∧0≤p.2∧p.2≤p.1)→loopN T 0 0 (.norm false [0,3]) l80_0 (stWq l p) =
  match goL p.1 p.2 (l.drop p.1) with
  | (some k,_)=>some (.r,⟨[(2,.i .i64 (k:Nat))],[],2⟩)
  | (none,o)=>some (.n,⟨[(0,.sl (rowN l) .an),(3,.i .i64 o)],[],2⟩):=by
 refine zan (stWq l) _ (fun p=>l.length-p.1) _ ?_
 rintro⟨i,o⟩ ⟨hi,ho,ho2⟩
 dsimp only at *
 by_cases h:i<l.length
 ·have hg:l[i]? = some (l[i]'h):=List.getElem?_eq_getElem h
  have hd:l.drop i=l[i]'h::l.drop (i+1):=List.drop_eq_getElem_cons h
  have ca:=zcu (T:=T) (l[i]'h).op
  have h':(i:Int)<l.length:=by omega
  have hws:=zal h (by omega)
  rw[hd,goL]
  generalize hx:l[i]'h=x at *
  clear hd
  have hw0:IntKind.wrap .i64 o=o:=zac _ (by omega)
  have hw1:IntKind.wrap .i64 (o-1)=o-1:=zac _ (by omega)
  have hw2:IntKind.wrap .i64 (o-2)=o-2:=zac _ (by omega)
  have hw3:IntKind.wrap .i64 (o+1)=o+1:=zac _ (by omega)
  have hw4:IntKind.wrap .i64 (o-1+1)=o:=by rw[zac _ (by omega)];omega
  have hw5:IntKind.wrap .i64 (o-2+1)=o-1:=by rw[zac _ (by omega)];omega
  rcases zbc x.op with ⟨e,_⟩ | ⟨e,_⟩ | ⟨e,_⟩ | ⟨e,_⟩
  ·left
   rw[e]at ca ⊢
   have hc:¬ o<0:=by omega
   refine⟨(i+1,o+1),⟨by omega,by omega,by dsimp only;omega⟩,by dsimp only;omega,?_,?_⟩
   ·unfold stWq
    simp -implicitDefEqProofs[l80_0,h,h',hg,hx,hws,ca,hw0,hw3,hc]
   ·rw[if_neg (by omega)]
    simp
  ·rw[e]at ca ⊢
   by_cases hc:o<1
   ·right
    rw[if_pos (by omega)]
    unfold stWq
    constructor<;>simp -implicitDefEqProofs[l80_0,h,h',hg,hx,ca,hc]
   ·left
    refine⟨(i+1,o),⟨by omega,by omega,by dsimp only;omega⟩,by dsimp only;omega,?_,?_⟩
    ·unfold stWq
     simp -implicitDefEqProofs[l80_0,h,h',hg,hx,hws,ca,hw0,hw1,hw4,hc]
    ·rw[if_neg (by omega)]
     simp
  ·rw[e]at ca ⊢
   by_cases hc:o<2
   ·right
    rw[if_pos (by omega)]
    unfold stWq
    constructor<;>simp -implicitDefEqProofs[l80_0,h,h',hg,hx,ca,hc]
   ·left
    refine⟨(i+1,o-1),⟨by omega,by omega,by dsimp only;omega⟩,by dsimp only;omega,?_,?_⟩
    ·unfold stWq
     simp -implicitDefEqProofs[l80_0,h,h',hg,hx,hws,ca,hw2,hw5,hc]
    ·rw[if_neg (by omega)]
     dsimp only
     rw[show o+1-2=o-1 by omega]
  ·right
   rw[e]at ca ⊢
   rw[if_pos (by omega)]
   unfold stWq
   constructor<;>simp -implicitDefEqProofs[l80_0,h,h',hg,hx,ca]
 ·have:i=l.length:=by omega
  subst this
  right
  rw[List.drop_length,goL]
  unfold stWq
  constructor<;>simp -implicitDefEqProofs[l80_0]
theorem zgv(l:List Nd)(hl:l.length≤4294967296):callF T 80 [.sl (rowN l) .an]=some (.i .i64 (wrongN l)):=by
 have hlo:=zfe (T:=T) l hl (0,0) ⟨Nat.zero_le _,by decide,by decide⟩
 have hw:=zg8 l 0 0
 unfold wrongN
 rw[hw]
 unfold stWq at hlo
 simp only[List.drop_zero,Int.natCast_zero]at hlo
 rw[f80 _ rfl,b80]
 generalize goL 0 0 l=G at *
 obtain⟨_ | k,o⟩:=G
 ·dsimp only at hlo ⊢
  by_cases h:o=1
  ·subst h
   simp -implicitDefEqProofs[hlo]
  ·simp -implicitDefEqProofs[hlo,h]
 ·dsimp only at hlo ⊢
  simp -implicitDefEqProofs[hlo]
def longN(l:List Nd)(many words:Int):Bool:=decide (many<l.length) || (l.take many.toNat).any fun x=>decide (words<x.n.length)
theorem zib(l:List Nd)(many words:Nat)(hl:l.length≤4294967296∨many≤4294967295)(hm:many≤4294967295):callF T 10 [.sl (rowN l) .an,.i .i64 many,.i .i64 words]=some (.b (decide (many<l.length) || (l.take many).any fun x=>decide (words<x.n.length))):=by
 have hlo:loopN T 0 0 (.norm false [0,1]) l10_0 ⟨[(0,.sl (rowN l) .an),(1,.i .i64 many),(2,.i .i64 words),(7,.i .i64 ((0:Nat):Int))],[],2⟩ =
   if ((l.take many).drop 0).any (fun x=>decide (words<x.n.length))=true then some (.r,⟨[(6,.b true)],[],2⟩) else some (.n,⟨[(0,.sl (rowN l) .an),(1,.i .i64 many)],[],2⟩):=by
  refine zaj (fun i=>⟨[(0,.sl (rowN l) .an),(1,.i .i64 many),(2,.i .i64 words),(7,.i .i64 ((i:Nat):Int))],[],2⟩) (l.take many).length
   (fun i=>if ((l.take many).drop i).any (fun x=>decide (words<x.n.length))=true then some (.r,_) else some (.n,_)) (fun i hi=>?_) ?_
  ·have hi1:=hi
   rw[List.length_take]at hi1
   have h:i<l.length:=by omega
   have h':(i:Int)<l.length:=by omega
   have h2:i<many:=by omega
   have h2':(i:Int)<many:=by omega
   have hg:l[i]? = some (l[i]'h):=List.getElem?_eq_getElem h
   have hd:(l.take many).drop i=(l.take many)[i]'hi::(l.take many).drop (i+1):=List.drop_eq_getElem_cons hi
   have hx2:(l.take many)[i]'hi=l[i]'h:=by simp
   rw[hx2]at hd
   have hws:=zal h2 (by omega)
   generalize hx:l[i]'h=x at *
   by_cases hc:words<x.n.length
   ·right
    rw[if_pos (by rw[hd];simp[hc])]
    have hc':(words:Int)<x.n.length:=by omega
    clear hd
    constructor<;>simp -implicitDefEqProofs[l10_0,h,h',h2,h2',hg,hx,hc,hc']
   ·left
    have hc':¬ (words:Int)<x.n.length:=by omega
    refine⟨?_,by rw[hd];simp[hc]⟩
    clear hd
    simp -implicitDefEqProofs[l10_0,h,h',h2,h2',hg,hx,hc,hc',hws]
  ·rw[List.drop_length,List.length_take]
   simp only[List.any_nil,Bool.false_eq_true,if_false]
   by_cases h:l.length≤many
   ·rw[Nat.min_eq_right h]
    constructor<;>simp -implicitDefEqProofs[l10_0]
   ·rw[Nat.min_eq_left (by omega)]
    have h2:many<l.length:=by omega
    have h2':(many:Int)<l.length:=by omega
    constructor<;>simp -implicitDefEqProofs[l10_0,h2,h2']
 rw[List.drop_zero]at hlo
 simp only[Int.natCast_zero]at hlo
 rw[f10 _ rfl,b10]
 generalize (l.take many).any (fun x=>decide (words<x.n.length))=B at *
 cases B with
 | true=>
  rw[if_pos rfl]at hlo
  simp -implicitDefEqProofs[hlo]
 | false=>
  rw[if_neg (by decide)]at hlo
  by_cases h:many<l.length
  ·have h':(many:Int)<l.length:=by omega
   simp -implicitDefEqProofs[hlo,h,h']
  ·have h':¬ (many:Int)<l.length:=by omega
   simp -implicitDefEqProofs[hlo,h,h']
variable[CRef02 T][CRef04 T][CRef05 T][CRef07 T]
theorem zpk(x:Nd)(dim pars lets:Int)(hn:x.n.length≤1000):callF T 79 [.agg (celN x),.i .i64 dim,.i .i64 pars,.i .i64 lets]=some (.b (okN dim pars lets x)):=by
 have c1:=zpf (T:=T) x.n (by omega)
 have c2:=zpg (T:=T) (ofN (val x.n)) x.n (by have:=zbs x.n;omega)
 have c3:=zph (T:=T) x.n hn
 have e:decide (ofN (val x.n)=x.n)=decide (x.n=ofN (val x.n)):=by
  rw[decide_eq_decide];exact eq_comm
 rw[e]at c2
 obtain⟨op,i,n⟩:=x
 dsimp only at *
 rw[f79 _ rfl,b79]
 unfold okN wordsB
 dsimp only
 generalize hB:decide (n=ofN (val n))=B at *
 clear e
 generalize ofN (val n)=N at *
 generalize hL:textN (val n)=TX at *
 by_cases h1:op=1
 ·subst h1
  by_cases hi:i=0
  ·subst hi
   cases B with
   | false=>simp -implicitDefEqProofs[c1,c2]
   | true=>
    by_cases h2:TX.length≤60
    ·have h2':(TX.length:Int)≤60:=by omega
     simp -implicitDefEqProofs[c1,c2,c3,h2,h2']
    ·have h2':¬ (TX.length:Int)≤60:=by omega
     simp -implicitDefEqProofs[c1,c2,c3,h2,h2']
  ·simp -implicitDefEqProofs[hi]
 rw[if_neg h1]
 by_cases hne:n=[]
 ·subst hne
  by_cases hr:op<1
  ·rw[if_pos (.inr (.inl hr))]
   simp -implicitDefEqProofs[h1,hr]
  by_cases hr2:11<op
  ·rw[if_pos (.inr (.inr hr2))]
   simp -implicitDefEqProofs[h1,hr,hr2]
  rw[if_neg (by rintro(h | h | h)<;>first | exact h rfl | exact hr h | exact hr2 h)]
  unfold belB
  by_cases h3:op=3
  ·subst h3
   by_cases ha:0≤i
   ·by_cases hb:i<dim<;>simp -implicitDefEqProofs[ha,hb]
   ·simp -implicitDefEqProofs[ha]
  by_cases h4:op=4
  ·subst h4
   by_cases ha:0≤i
   ·by_cases hb:i<pars<;>simp -implicitDefEqProofs[ha,hb]
   ·simp -implicitDefEqProofs[ha]
  by_cases h5:op=5
  ·subst h5
   by_cases ha:0≤i
   ·by_cases hb:i<lets<;>simp -implicitDefEqProofs[ha,hb]
   ·simp -implicitDefEqProofs[ha]
  by_cases h11:op=11
  ·subst h11
   by_cases ha:-8≤i
   ·by_cases hb:i≤8<;>simp -implicitDefEqProofs[ha,hb]
   ·simp -implicitDefEqProofs[ha]
  by_cases hi:i=0<;>simp -implicitDefEqProofs[h1,hr,hr2,h3,h4,h5,h11,hi]
 ·have hp:0<n.length:=List.length_pos_iff.2 hne
  rw[if_pos (.inl hne)]
  simp -implicitDefEqProofs[h1,hp,hne]
def stPq(l:List Nd)(dim pars lets w:Int)(i:Nat):St:=⟨[(0,.sl (rowN l) .an),(1,.i .i64 dim),(2,.i .i64 pars),(3,.i .i64 lets),(9,.i .i64 w),(10,.i .i64 i)],[],2⟩
theorem zff(l:List Nd)(dim pars lets w:Int)(hl:l.length≤4294967296)(hn:∀x∈l,x.n.length≤1000):loopN T 0 0 (.norm false [9]) l50_0 (stPq l dim pars lets w 0) =
  match findL dim pars lets w 0 l with
  | some k=>some (.r,⟨[(8,.i .i64 (k:Nat))],[],2⟩)
  | none=>some (.n,⟨[(9,.i .i64 w)],[],2⟩):=by
 have e0:l.drop 0=l:=rfl
 rw[←e0]
 refine zaj (stPq l dim pars lets w) l.length (fun i=>match findL dim pars lets w i (l.drop i) with
  | some k=>some (.r,⟨[(8,.i .i64 (k:Nat))],[],2⟩)
  | none=>some (.n,⟨[(9,.i .i64 w)],[],2⟩)) (fun i hi=>?_) ?_
 ·have hg:l[i]? = some (l[i]'hi):=List.getElem?_eq_getElem hi
  have hd:l.drop i=l[i]'hi::l.drop (i+1):=List.drop_eq_getElem_cons hi
  have cn:=zpk (T:=T) (l[i]'hi) dim pars lets (hn _ (List.getElem_mem hi))
  have hi':(i:Int)<l.length:=by omega
  have hws:=zal hi (by omega)
  generalize hx:l[i]'hi=x at *
  rw[hd,findL]
  clear hd
  by_cases h1:(i:Int)=w
  ·right
   rw[if_pos (.inl h1)]
   subst h1
   unfold stPq
   constructor<;>simp -implicitDefEqProofs[l50_0,hi,hi',hg,hx]
  ·generalize okN dim pars lets x=B at *
   cases B with
   | false=>
    right
    rw[if_pos (.inr rfl)]
    unfold stPq
    constructor<;>simp -implicitDefEqProofs[l50_0,hi,hi',hg,hx,h1,cn]
   | true=>
    left
    refine⟨?_,by rw[if_neg (by simp[h1])]⟩
    unfold stPq
    simp -implicitDefEqProofs[l50_0,hi,hi',hg,hx,h1,cn,hws]
 ·rw[List.drop_length,findL]
  unfold stPq
  constructor<;>simp -implicitDefEqProofs[l50_0]
theorem zmm(l:List Nd)(dim pars lets:Int)(hl:l.length≤4294967296)(hn:∀x∈l,x.n.length≤1000):callF T 50 [.sl (rowN l) .an,.i .i64 dim,.i .i64 pars,.i .i64 lets]=some (.i .i64 (placeN dim pars lets l)):=by
 have cw:=zgv (T:=T) l hl
 have hlo:=zff (T:=T) l dim pars lets (wrongN l) hl hn
 unfold stPq at hlo
 simp only[Int.natCast_zero]at hlo
 have hf:=zd1 dim pars lets (wrongN l) l 0
 unfold placeN
 rw[hf]
 rw[f50 _ rfl,b50]
 generalize wrongN l=w at *
 generalize findL dim pars lets w 0 l=F at *
 cases F with
 | none=>
  dsimp only at hlo ⊢
  simp -implicitDefEqProofs[cw,hlo]
 | some k=>
  dsimp only at hlo ⊢
  simp -implicitDefEqProofs[cw,hlo]
theorem zpl(l:List Nd)(hl:l.length≤4294967296)(hn:∀x∈l,x.n.length≤1000):callF T 16 [.sl (rowN l) .an,.sl (rowN l) .an]=some (.b true):=by
 have hlo:loopN T 0 0 (.norm false []) l16_0 ⟨[(0,.sl (rowN l) .an),(1,.sl (rowN l) .an),(5,.i .i64 ((0:Nat):Int))],[],2⟩=some (.n,⟨[],[],2⟩):=by
  refine zae (fun i=>⟨[(0,.sl (rowN l) .an),(1,.sl (rowN l) .an),(5,.i .i64 ((i:Nat):Int))],[],2⟩) l.length _ (fun i hi=>?_) ?_
  ·have hg:l[i]? = some (l[i]'hi):=List.getElem?_eq_getElem hi
   have hi':(i:Int)<l.length:=by omega
   have hws:=zal hi (by omega)
   have hnx:=hn _ (List.getElem_mem hi)
   have cc:=zsk (T:=T) (l[i]'hi).n (l[i]'hi).n (by omega) (by omega)
   have e0:cmpN (val (l[i]'hi).n) (val (l[i]'hi).n)=0:=by simp[cmpN]
   rw[e0]at cc
   generalize hx:l[i]'hi=x at *
   simp -implicitDefEqProofs[l16_0,hi,hi',hg,hx,hws,cc]
  ·constructor<;>simp -implicitDefEqProofs[l16_0]
 simp only[Int.natCast_zero]at hlo
 rw[f16 _ rfl,b16]
 simp -implicitDefEqProofs[hlo]
end
section
variable{T:Tbl}{k:Nat}
theorem z1x{id:Nat}{g2:Gh}{c:AX}{S0:St}{G:Option (Ex×St)}(fin:isEx (evX (orc T) T k c S0)=true∧finX k id g2 (evX (orc T) T k c S0)=G):loopN T k id g2 c S0=G:=
 zae (fun _=>S0) 0 G (fun j hj=>absurd hj (Nat.not_lt_zero j)) fin
theorem z1y{id:Nat}{g2:Gh}{c:AX}{S0 S1:St}{G:Option (Ex×St)}(h0:evX (orc T) T k c S0=some (.n,S1))(fin:isEx (evX (orc T) T k c S1)=true∧finX k id g2 (evX (orc T) T k c S1)=G):loopN T k id g2 c S0=G:=
 zae (fun j=>if j=0 then S0 else S1) 1 G (fun j hj=>by
  obtain rfl:j=0:=by omega
  exact h0) fin
theorem z1z{id:Nat}{g2:Gh}{c:AX}{S0 S1 S2:St}{G:Option (Ex×St)}(h0:evX (orc T) T k c S0=some (.n,S1))(h1:evX (orc T) T k c S1=some (.n,S2))(fin:isEx (evX (orc T) T k c S2)=true∧finX k id g2 (evX (orc T) T k c S2)=G):loopN T k id g2 c S0=G:=
 zae (fun j=>if j=0 then S0 else if j=1 then S1 else S2) 2 G (fun j hj=>by
  rcases(show j=0∨j=1 by omega) with rfl | rfl
  ·exact h0
  ·exact h1) fin
end
section
variable{T:Tbl}[CRef17 T]
theorem zdj:∀(t:Tre),t.ok→∀(p q code:List Nd),p++t.flat++q=code→code.length≤4294967290→callF T 114 [.sl (rowN code) .an,.i .i64 ((p.length+t.flat.length-1:Nat):Int)]=some (.tup [.i .i64 t.deep,.i .i64 p.length])
 | .leaf x,ht,p,q,code,hc,hl=>by
  have e:arN x.op=0:=ht
  have hx:code[p.length]? = some x:=by rw[←hc];simp[Tre.flat]
  obtain⟨hlt,hge⟩:=List.getElem?_eq_some_iff.1 hx
  have hlt':(p.length:Int)<code.length:=by omega
  have ca:=zcu (T:=T) x.op
  rw[e]at ca
  have e2:p.length+(Tre.leaf x).flat.length-1=p.length:=by simp[Tre.flat]
  rw[e2]
  have hlo:loopN T 0 0 (.norm false [6,7]) l114_0 ⟨[(0,.sl (rowN code) .an),(6,.i .i64 0),(7,.i .i64 p.length),(8,.i .i64 0)],[],2⟩=some (.n,⟨[(6,.i .i64 0),(7,.i .i64 p.length)],[],2⟩):=
   z1x (by constructor<;>simp -implicitDefEqProofs[l114_0])
  rw[f114 _ rfl,b114]
  obtain⟨op,xi,n⟩:=x
  simp -implicitDefEqProofs[hlt,hlt',hx,hge,ca,hlo,Tre.deep]
 | .un x a,ht,p,q,code,hc,hl=>by
  have e:arN x.op=1:=ht.1
  have hc2:p++a.flat++(x::q)=code:=by rw[←hc];simp[Tre.flat]
  have ih:=zdj a ht.2 p (x::q) code hc2 hl
  have ha:=a.flat_pos
  have hx:code[p.length+a.flat.length]? = some x:=by rw[←hc2,←List.length_append];simp
  obtain⟨hlt,hge⟩:=List.getElem?_eq_some_iff.1 hx
  have hlt':(p.length:Int)+a.flat.length<code.length:=by omega
  have ca:=zcu (T:=T) x.op
  rw[e]at ca
  have e2:p.length+(Tre.un x a).flat.length-1=p.length+a.flat.length:=by simp[Tre.flat]
  rw[e2]
  have hw:IntKind.wrap .i64 ((p.length+a.flat.length:Nat)-1:Int)=((p.length+a.flat.length-1:Nat):Int):=by rw[zac _ (by omega)];omega
  have hd:(a.deep:Int)<4294967296:=by
   have:=a.deep_le
   omega
  have hwd:IntKind.wrap .i64 ((a.deep:Int)+1)=(a.deep:Int)+1:=zac _ (by omega)
  have hw0:IntKind.wrap .i64 0=0:=by decide
  have hmx:(if (a.deep:Int) > 0 then (a.deep:Int) else 0)=a.deep:=by split<;>omega
  have hdp:(Tre.un x a).deep=a.deep+1:=rfl
  have hcs:((p.length+a.flat.length:Nat):Int)=(p.length:Int)+a.flat.length:=by omega
  generalize hN:p.length+a.flat.length=N at *
  generalize hM:N-1=M at *
  have hlo:loopN T 0 0 (.norm false [6,7]) l114_0 ⟨[(0,.sl (rowN code) .an),(6,.i .i64 0),(7,.i .i64 (N:Int)),(8,.i .i64 1)],[],2⟩=some (.n,⟨[(6,.i .i64 a.deep),(7,.i .i64 p.length)],[],2⟩):=
   z1y (S1:=⟨[(0,.sl (rowN code) .an),(6,.i .i64 a.deep),(7,.i .i64 p.length),(8,.i .i64 0)],[],2⟩)
    (by simp -implicitDefEqProofs[l114_0,hw,hw0,ih];first | done | omega) (by constructor<;>simp -implicitDefEqProofs[l114_0])
  rw[f114 _ rfl,b114]
  obtain⟨op,xi,n⟩:=x
  simp -implicitDefEqProofs[hlt,hlt',hx,hge,ca,hlo,hdp,hwd]
 | .bin x a b,ht,p,q,code,hc,hl=>by
  have e:arN x.op=2:=ht.1
  have hcb:(p++a.flat)++b.flat++(x::q)=code:=by rw[←hc];simp[Tre.flat]
  have hca:p++a.flat++(b.flat++x::q)=code:=by rw[←hc];simp[Tre.flat]
  have ihb:=zdj b ht.2.2 (p++a.flat) (x::q) code hcb hl
  have iha:=zdj a ht.2.1 p (b.flat++x::q) code hca hl
  have ha:=a.flat_pos
  have hb:=b.flat_pos
  have hla:a.flat.length≤code.length:=by rw[←hca];simp only[List.length_append];omega
  have hlb:b.flat.length≤code.length:=by rw[←hcb];simp only[List.length_append];omega
  have hx:code[(p++a.flat++b.flat).length]? = some x:=by rw[←hcb];simp
  obtain⟨hlt,hge⟩:=List.getElem?_eq_some_iff.1 hx
  have ca:=zcu (T:=T) x.op
  rw[e]at ca
  rw[List.length_append]at ihb
  have e2:p.length+(Tre.bin x a b).flat.length-1=p.length+a.flat.length+b.flat.length:=by simp only[Tre.flat,List.length_append,List.length_cons,List.length_nil];omega
  have e3:(p++a.flat++b.flat).length=p.length+a.flat.length+b.flat.length:=by rw[List.length_append,List.length_append]
  rw[e2]
  simp only[e3]at hx hlt hge
  have hda:=a.deep_le
  have hdb:=b.deep_le
  have hdp:(Tre.bin x a b).deep=max a.deep b.deep+1:=rfl
  have hwd:IntKind.wrap .i64 (((max a.deep b.deep:Nat):Int)+1)=((max a.deep b.deep:Nat):Int)+1:=zac _ (by omega)
  have hw0:IntKind.wrap .i64 0=0:=by decide
  generalize hK:p.length+a.flat.length=K at *
  generalize hN:K+b.flat.length=N at *
  have hw1:IntKind.wrap .i64 ((N:Int)-1)=((N-1:Nat):Int):=by rw[zac _ (by omega)];omega
  have hw2:IntKind.wrap .i64 ((K:Int)-1)=((K-1:Nat):Int):=by rw[zac _ (by omega)];omega
  have hlt':(N:Int)<code.length:=by omega
  generalize hM:N-1=M at *
  generalize hM2:K-1=M2 at *
  generalize hMX:max a.deep b.deep=MX at *
  have hlo:loopN T 0 0 (.norm false [6,7]) l114_0 ⟨[(0,.sl (rowN code) .an),(6,.i .i64 0),(7,.i .i64 (N:Int)),(8,.i .i64 2)],[],2⟩=some (.n,⟨[(6,.i .i64 MX),(7,.i .i64 p.length)],[],2⟩):=
   z1z (S1:=⟨[(0,.sl (rowN code) .an),(6,.i .i64 b.deep),(7,.i .i64 K),(8,.i .i64 1)],[],2⟩) (S2:=⟨[(0,.sl (rowN code) .an),(6,.i .i64 MX),(7,.i .i64 p.length),(8,.i .i64 0)],[],2⟩)
    (by simp -implicitDefEqProofs[l114_0,hw1,hw0,ihb];first | done | omega) (by simp -implicitDefEqProofs[l114_0,hw2,hw0,iha];first | done | (split<;>omega) | omega) (by constructor<;>simp -implicitDefEqProofs[l114_0])
  rw[f114 _ rfl,b114]
  obtain⟨op,xi,n⟩:=x
  simp -implicitDefEqProofs[hlt,hlt',hx,hge,ca,hlo,hdp,hwd]
def Tre.parts:Tre→List (List Nd)
 | .leaf _=>[]
 | .un _ a=>[a.flat]
 | .bin _ a b=>[a.flat,b.flat]
end
def lgN(l:List Nd)(many words:Nat):Bool:=decide (many<l.length) || (l.take many).any fun x=>decide (words<x.n.length)
def lgL(nodes words:Nat)(x:Lt):Bool:=decide (100<x.name.length) || lgN x.code nodes words
def lgF(f:Fd)(many nodes words:Nat):Bool:=decide (many<f.lets.length) || decide (many<f.outs.length) || f.lets.any (lgL nodes words) || f.outs.any fun c=>lgN c nodes words
section
variable{T:Tbl}[CRef17 T][CRef19 T]
def stG0(f:Fd)(nodes words i:Nat):St:=⟨[(2,.i .i64 nodes),(3,.i .i64 words),(4,.ptr (.loc 4) 1 2 0 0),(9,.i .i64 i)],[(.loc 4,⟨1,.str,2,[[.sl (rowLt f.lets) .an,.sl (rowC f.outs) .an]]⟩)],3⟩
def stG1(f:Fd)(nodes words i:Nat):St:=⟨[(2,.i .i64 nodes),(3,.i .i64 words),(4,.ptr (.loc 4) 1 2 0 0),(10,.i .i64 i)],[(.loc 4,⟨1,.str,2,[[.sl (rowLt f.lets) .an,.sl (rowC f.outs) .an]]⟩)],3⟩
theorem zsu(f:Fd)(nodes words:Nat)(hnd:nodes≤4294967295)(hl:f.lets.length≤100000) :
  loopN T 0 0 (.norm false [2,3,4]) l466_0 (stG0 f nodes words 0)=if f.lets.any (lgL nodes words)=true then some (.r,⟨[(8,.b true)],[],2⟩) else some (.n,⟨[(2,.i .i64 nodes),(3,.i .i64 words),(4,.ptr (.loc 4) 1 2 0 0)],[(.loc 4,⟨1,.str,2,[[.sl (rowLt f.lets) .an,.sl (rowC f.outs) .an]]⟩)],3⟩):=by
 have:=zaj (T:=T) (k:=0) (id:=0) (g2:=.norm false [2,3,4]) (c:=l466_0) (stG0 f nodes words) f.lets.length
  (fun i=>if (f.lets.drop i).any (lgL nodes words)=true then some (.r,⟨[(8,.b true)],[],2⟩) else some (.n,⟨[(2,.i .i64 nodes),(3,.i .i64 words),(4,.ptr (.loc 4) 1 2 0 0)],[(.loc 4,⟨1,.str,2,[[.sl (rowLt f.lets) .an,.sl (rowC f.outs) .an]]⟩)],3⟩)) (fun i hi=>?_) ?_
 ·simpa using this
 ·have hg:f.lets[i]? = some (f.lets[i]'hi):=List.getElem?_eq_getElem hi
  have hd:f.lets.drop i=f.lets[i]'hi::f.lets.drop (i+1):=List.drop_eq_getElem_cons hi
  have hi':(i:Int)<f.lets.length:=by omega
  have hws:=zal hi (by omega)
  have c:=zib (T:=T) (f.lets[i]'hi).code nodes words (.inr hnd) hnd
  rw[hd,List.any_cons]
  unfold stG0
  obtain⟨L,O⟩:=f
  dsimp only at *
  clear hd
  generalize hx:L[i]'hi=x at *
  obtain⟨nm,code⟩:=x
  dsimp only at *
  unfold lgL
  dsimp only
  change callF T 10 _=some (.b (lgN code nodes words)) at c
  generalize lgN code nodes words=B at *
  by_cases h1:100<nm.length
  ·right
   have h1':(100:Int)<nm.length:=by omega
   rw[if_pos (by simp[h1])]
   constructor<;>simp -implicitDefEqProofs[l466_0,hi,hi',hg,hx,h1,h1']
  ·have h1':¬ (100:Int)<nm.length:=by omega
   cases B with
   | true=>
    right
    rw[if_pos (by simp)]
    constructor<;>simp -implicitDefEqProofs[l466_0,hi,hi',hg,hx,h1,h1',c]
   | false=>
    left
    refine⟨?_,by simp[h1]⟩
    simp -implicitDefEqProofs[l466_0,hi,hi',hg,hx,h1,h1',c,hws]
 ·rw[List.drop_length,List.any_nil,if_neg (by decide)]
  unfold stG0
  constructor<;>simp -implicitDefEqProofs[l466_0]
theorem zsv(f:Fd)(nodes words:Nat)(hnd:nodes≤4294967295)(hl:f.outs.length≤100000) :
  loopN T 0 2 (.norm false []) l466_1 (stG1 f nodes words 0)=if f.outs.any (fun c=>lgN c nodes words)=true then some (.r,⟨[(8,.b true)],[],2⟩) else some (.n,⟨[],[],2⟩):=by
 have:=zaj (T:=T) (k:=0) (id:=2) (g2:=.norm false []) (c:=l466_1) (stG1 f nodes words) f.outs.length
  (fun i=>if (f.outs.drop i).any (fun c=>lgN c nodes words)=true then some (.r,⟨[(8,.b true)],[],2⟩) else some (.n,⟨[],[],2⟩)) (fun i hi=>?_) ?_
 ·simpa using this
 ·have hg:f.outs[i]? = some (f.outs[i]'hi):=List.getElem?_eq_getElem hi
  have hd:f.outs.drop i=f.outs[i]'hi::f.outs.drop (i+1):=List.drop_eq_getElem_cons hi
  have hi':(i:Int)<f.outs.length:=by omega
  have hws:=zal hi (by omega)
  have c:=zib (T:=T) (f.outs[i]'hi) nodes words (.inr hnd) hnd
  rw[hd,List.any_cons]
  unfold stG1
  obtain⟨L,O⟩:=f
  dsimp only at *
  clear hd
  generalize hx:O[i]'hi=code at *
  change callF T 10 _=some (.b (lgN code nodes words)) at c
  generalize lgN code nodes words=B at *
  cases B with
  | true=>
   right
   rw[if_pos (by simp)]
   constructor<;>simp -implicitDefEqProofs[l466_1,hi,hi',hg,hx,c]
  | false=>
   left
   refine⟨?_,by simp⟩
   simp -implicitDefEqProofs[l466_1,hi,hi',hg,hx,c,hws]
 ·rw[List.drop_length,List.any_nil,if_neg (by decide)]
  unfold stG1
  constructor<;>simp -implicitDefEqProofs[l466_1]
theorem zmn(f:Fd)(many nodes words:Nat)(hm:many≤100000)(hnd:nodes≤4294967295):callF T 466 [efd f,.i .i64 many,.i .i64 nodes,.i .i64 words]=some (.b (lgF f many nodes words)):=by
 unfold lgF
 by_cases h1:many<f.lets.length
 ·obtain⟨L,O⟩:=f
  dsimp only at *
  have h1':(many:Int)<L.length:=by omega
  rw[f466 _ rfl,b466]
  simp -implicitDefEqProofs[h1,h1']
 by_cases h2:many<f.outs.length
 ·obtain⟨L,O⟩:=f
  dsimp only at *
  have h1':¬ (many:Int)<L.length:=by omega
  have h2':(many:Int)<O.length:=by omega
  rw[f466 _ rfl,b466]
  simp -implicitDefEqProofs[h1,h1',h2,h2']
 have a:=zsu (T:=T) f nodes words hnd (by omega)
 have b:=zsv (T:=T) f nodes words hnd (by omega)
 unfold stG0 at a
 unfold stG1 at b
 obtain⟨L,O⟩:=f
 dsimp only at *
 have h1':¬ (many:Int)<L.length:=by omega
 have h2':¬ (many:Int)<O.length:=by omega
 simp only[Int.natCast_zero]at a b
 rw[f466 _ rfl,b466]
 generalize L.any (lgL nodes words)=A at *
 generalize (O.any fun c=>lgN c nodes words)=B at *
 cases A with
 | true=>
  rw[if_pos rfl]at a
  simp -implicitDefEqProofs[h1,h1',h2,h2',a]
 | false=>
  rw[if_neg (by decide)]at a
  cases B with
  | true=>
   rw[if_pos rfl]at b
   simp -implicitDefEqProofs[h1,h1',h2,h2',a,b]
  | false=>
   rw[if_neg (by decide)]at b
   simp -implicitDefEqProofs[h1,h1',h2,h2',a,b]
theorem zdw(f:Fd)(h1:f.lets.length≤100000)(h2:f.outs.length≤100000):callF T 479 [efd f]=some (.sl (rowC (codesD f)) .an):=by
 obtain⟨L,O⟩:=f
 dsimp only at h1 h2
 have hL:loopN T 0 0 (.norm false [1,3]) l479_0 ⟨[(1,.ptr (.loc 1) 1 2 0 0),(3,.bs (.loc 3) 2 1 0 0),(4,.i .i64 0)],[(.loc 1,⟨1,.str,2,[[.sl (rowLt L) .an,.sl (rowC O) .an]]⟩),(.loc 3,⟨2,.own,1,[]⟩)],4⟩ =
   some (.n,⟨[(1,.ptr (.loc 1) 1 2 0 0),(3,.bs (.loc 3) 2 1 0 L.length)],[(.loc 1,⟨1,.str,2,[[.sl (rowLt L) .an,.sl (rowC O) .an]]⟩),(.loc 3,⟨2,.own,1,rowC (L.map (·.code))⟩)],4⟩):=by
  have:=zae (T:=T) (k:=0) (id:=0) (g2:=.norm false [1,3]) (c:=l479_0) (fun i=>⟨[(1,.ptr (.loc 1) 1 2 0 0),(3,.bs (.loc 3) 2 1 0 i),(4,.i .i64 (i:Int))],[(.loc 1,⟨1,.str,2,[[.sl (rowLt L) .an,.sl (rowC O) .an]]⟩),(.loc 3,⟨2,.own,1,rowC ((L.take i).map (·.code))⟩)],4⟩) L.length
   (some (.n,⟨[(1,.ptr (.loc 1) 1 2 0 0),(3,.bs (.loc 3) 2 1 0 L.length)],[(.loc 1,⟨1,.str,2,[[.sl (rowLt L) .an,.sl (rowC O) .an]]⟩),(.loc 3,⟨2,.own,1,rowC (L.map (·.code))⟩)],4⟩)) (fun i hi=>?_) ?_
  ·simpa using this
  ·have hg:L[i]? = some (L[i]'hi):=List.getElem?_eq_getElem hi
   have hi':(i:Int)<L.length:=by omega
   have hws:=zal hi (by omega)
   have hs:(L.take (i+1)).map (·.code)=(L.take i).map (·.code)++[(L[i]'hi).code]:=by rw[List.take_succ_eq_append_getElem hi,List.map_append];rfl
   have hml:((L.take i).map (·.code)).length=i:=by rw[List.length_map,List.length_take];omega
   have hp:=zgz (n:=i) hml (L[i]'hi).code
   have hle:i≤((L.take i).map (·.code)).length:=by omega
   have h32:i+1≤4294967296:=by omega
   rw[hs]
   generalize hx:L[i]'hi=x at *
   generalize (L.take i).map (·.code)=m at *
   obtain⟨nm,code⟩:=x
   dsimp only at *
   clear hs
   simp -implicitDefEqProofs[l479_0,hi,hi',hg,hx,hws,hp,hle,h32]
  ·constructor<;>simp -implicitDefEqProofs[l479_0]
 unfold codesD
 dsimp only
 have hM:(L.map (·.code)).length=L.length:=List.length_map _
 generalize L.map (·.code)=M at *
 have ht:List.take L.length M=M:=by rw[←hM,List.take_length]
 have hcat:wkL (rowC M++rowC O)=rowC (M++O):=by
  have:rowC M++rowC O=rowC (M++O):=by simp[rowC]
  rw[this,zmz]
 have hh:Option.all (fun r:List AV=>decide (r.length=1)) (rowC O).head? = true:=by cases O<;>rfl
 have h32:L.length+O.length≤4294967296:=by omega
 rw[f479 _ rfl,b479]
 simp -implicitDefEqProofs[hL,hM,ht,hcat,hh,h32]
 rw[List.take_of_length_le (by rw[List.length_append];omega)]
theorem zpm(f:Fd)(h1:f.lets.length≤100000)(h2:f.outs.length≤100000)(hs:sizeD f≤4294967295):callF T 478 [efd f]=some (.i .i64 (sizeD f)):=by
 have c:=zdw (T:=T) f h1 h2
 have hlen:(codesD f).length≤200000:=by unfold codesD;rw[List.length_append,List.length_map];omega
 unfold sizeD at *
 obtain⟨L,O⟩:=f
 generalize codesD ⟨L,O⟩=M at *
 have hlo:loopN T 0 0 (.norm false [3]) l478_0 ⟨[(3,.i .i64 0),(4,.sl (rowC M) .an),(5,.i .i64 0)],[],2⟩ =
   some (.n,⟨[(3,.i .i64 ((M.map List.length).sum:Nat))],[],2⟩):=by
  have:=zae (T:=T) (k:=0) (id:=0) (g2:=.norm false [3]) (c:=l478_0) (fun i=>⟨[(3,.i .i64 (((M.take i).map List.length).sum:Nat)),(4,.sl (rowC M) .an),(5,.i .i64 (i:Int))],[],2⟩) M.length
   (some (.n,⟨[(3,.i .i64 ((M.map List.length).sum:Nat))],[],2⟩)) (fun i hi=>?_) ?_
  ·simpa using this
  ·have hg:M[i]? = some (M[i]'hi):=List.getElem?_eq_getElem hi
   have hi':(i:Int)<M.length:=by omega
   have hws:=zal hi (by omega)
   have hs1:((M.take (i+1)).map List.length).sum=((M.take i).map List.length).sum+(M[i]'hi).length:=by rw[List.take_succ_eq_append_getElem hi,List.map_append,List.sum_append];simp
   have hle:=zif (l:=M) (i+1)
   have hw:IntKind.wrap .i64 ((((M.take i).map List.length).sum:Nat)+(M[i]'hi).length)=((((M.take i).map List.length).sum+(M[i]'hi).length:Nat):Int):=by rw[zac _ (by omega)];omega
   rw[hs1]
   generalize hx:M[i]'hi=x at *
   generalize ((M.take i).map List.length).sum=k at *
   clear hs1 c hs hle
   simp -implicitDefEqProofs[l478_0,hi,hi',hg,hx,hws,hw]
  ·rw[List.take_length]
   constructor<;>simp -implicitDefEqProofs[l478_0]
 generalize (M.map List.length).sum=S at *
 rw[f478 _ rfl,b478]
 simp -implicitDefEqProofs[c,hlo]
theorem zgw(l:List Nd)(hl:l.length≤50000):callF T 481 [.sl (rowN l) .an]=some (.i .i64 (depN l)):=by
 have cw:=zgv (T:=T) l (by omega)
 by_cases hw:wrongN l=-1
 ·obtain⟨t,ht,rfl⟩:=zg9 hw
  have c:=zdj (T:=T) t ht [] [] t.flat (by simp) (by omega)
  rw[zs2 ht]
  rw[hw]at cw
  have hpos:=t.flat_pos
  have e:(([]:List Nd).length+t.flat.length-1:Nat)=t.flat.length-1:=by simp
  rw[e]at c
  generalize t.deep=d at *
  generalize t.flat=l at *
  obtain⟨n,hn⟩:∃n,l.length=n+1:=⟨l.length-1,by omega⟩
  have hww:IntKind.wrap .i64 (n:Int)=(n:Nat):=zac _ (by omega)
  rw[hn]at c
  rw[Nat.add_sub_cancel]at c
  rw[f481 _ rfl,b481]
  simp -implicitDefEqProofs[cw,c,hn,hww]
 ·have e:depN l=0:=by unfold depN;rw[if_neg hw]
  have h0:0≤wrongN l:=by
   rcases zck l 0 0 with h | h
   ·exact absurd h hw
   ·unfold wrongN;omega
  rw[e,f481 _ rfl,b481]
  simp -implicitDefEqProofs[cw,h0]
end
theorem zsm{c:UInt8}{n:Nat}(hn:n<256)(h:c≠UInt8.ofNat n):¬ c.toNat=n:=fun e=>h (by
 grind[UInt8.toNat_inj,UInt8.toNat_ofNat'])
section
variable{T:Tbl}[CRef16 T]
theorem zgu(c:UInt8):callF T 189 [u8 c.toNat]=some (.b (isD c)):=by
 rw[f189 _ rfl,b189]
 by_cases h1:48≤c.toNat
 ·simp -implicitDefEqProofs[isD,h1]
 ·simp -implicitDefEqProofs[isD,h1]
theorem zfa(c:UInt8):callF T 190 [u8 c.toNat]=some (.b (isL c)):=by
 rw[f190 _ rfl,b190]
 by_cases h1:97≤c.toNat<;>by_cases h2:c.toNat≤122<;>by_cases h3:65≤c.toNat<;>by_cases h4:c.toNat≤90<;>by_cases h5:c.toNat=95 <;>
  simp -implicitDefEqProofs[isL,h1,h2,h3,h4,h5]
end
section
variable{T:Tbl}
theorem zsn(c:UInt8)(l:List UInt8)(hl:l.length≤1000)(R:Bool):∀i:Nat,(i≤l.length∧(l.drop i).contains c=R) →
  loopN T 0 0 (.norm false []) l181_0 ⟨[(0,u8 c.toNat),(3,.s l),(4,.i .i64 i)],[],2⟩=if R=true then some (.r,⟨[(2,.i .i64 3)],[],2⟩) else some (.n,⟨[],[],2⟩):=by
 refine zan (fun i:Nat=>⟨[(0,u8 c.toNat),(3,.s l),(4,.i .i64 i)],[],2⟩) _ (fun i=>l.length-i) _ ?_
 rintro i ⟨hi,hR⟩
 by_cases h0:i<l.length
 ·have hg:l[i]? = some (l[i]'h0):=List.getElem?_eq_getElem h0
  have hd:=List.drop_eq_getElem_cons h0
  have hw:IntKind.wrap .i64 ((i:Int)+1)=((i+1:Nat):Int):=zac _ (by omega)
  rw[hd,List.contains_cons]at hR
  by_cases hc:(l[i]'h0).toNat=c.toNat
  ·right
   have:c=l[i]'h0:=(UInt8.toNat_inj.1 hc).symm
   have hR':R=true:=by grind
   subst hR'
   clear hR hd
   constructor<;>simp -implicitDefEqProofs[l181_0,h0,hc]
  ·left
   have hne:(c == l[i]'h0)=false:=by
    grind
   rw[hne,Bool.false_or]at hR
   refine⟨i+1,⟨h0,hR⟩,by omega,?_,rfl⟩
   simp -implicitDefEqProofs[l181_0,h0,hc,hw]
 ·right
  have:i=l.length:=by omega
  subst this
  subst hR
  constructor<;>simp -implicitDefEqProofs[l181_0]
end
section
variable{T:Tbl}[CRef16 T]
theorem zdi(c:UInt8):callF T 181 [u8 c.toNat]=some (.i .i64 (kindN c)):=by
 have h1:=zgu (T:=T) c
 have h2:=zfa (T:=T) c
 have h:=zsn (T:=T) c signB (by decide) _ 0 ⟨by decide,rfl⟩
 rw[List.drop_zero,show signB.contains c=isS c from rfl]at h
 simp only[signB]at h
 rw[f181 _ rfl,b181]
 cases e1:isD c<;>cases e2:isL c<;>cases e3:isS c<;>simp only[e3]at h<;>simp at h<;>simp -implicitDefEqProofs[kindN,h1,h2,h,e1,e2,e3]
theorem zez(k:Nat)(c:UInt8):callF T 180 [.i .i64 k,u8 c.toNat]=some (.b (moreN k c)):=by
 have h1:=zgu (T:=T) c
 have h2:=zfa (T:=T) c
 rw[f180 _ rfl,b180]
 by_cases k1:k=1
 ·subst k1
  cases e1:isD c<;>cases e2:isL c<;>simp -implicitDefEqProofs[moreN,h1,e1,e2]
 ·have k1':¬ (k:Int)=1:=by omega
  by_cases k2:k=2
  ·subst k2
   cases e1:isD c<;>cases e2:isL c<;>simp -implicitDefEqProofs[moreN,h1,h2,e1,e2]
  ·have k2':¬ (k:Int)=2:=by omega
   simp -implicitDefEqProofs[moreN,k1,k2,k1',k2']
theorem ze0(k:Nat):callF T 182 [.i .i64 k]=some (.i .i64 (mostN k)):=by
 rw[f182 _ rfl,b182]
 by_cases k1:k=1
 ·subst k1
  simp -implicitDefEqProofs[mostN]
 ·have k1':¬ (k:Int)=1:=by omega
  by_cases k2:k=2
  ·subst k2
   simp -implicitDefEqProofs[mostN]
  ·have k2':¬ (k:Int)=2:=by omega
   simp -implicitDefEqProofs[mostN,k1,k2,k1',k2']
def stRf(s:List UInt8)(i:Nat)(note:Bool)(acc:List Wd):St:=
 ⟨[(0,.s s),(4,.bs (.loc 4) 1 3 0 acc.length),(5,.b note),(6,.i .i64 i)],[(.loc 4,⟨1,.own,3,rowsW acc⟩)],3⟩
def resRf:Except Nat (List Wd)→Option (Ex×St)
 | .ok ws=>some (.n,⟨[(4,.bs (.loc 4) 1 3 0 ws.length)],[(.loc 4,⟨1,.own,3,rowsW ws⟩)],3⟩)
 | .error e=>some (.r,⟨[(2,.sl [] .an),(3,.i .i64 e)],[],2⟩)
def EndsBy(acc:List Wd)(i:Nat):Prop:=∀k t a,acc.getLast? = some (k,t,a)→a+t.length≤i
theorem zso(s:List UInt8)(hs:s.length≤4000)(i:Nat)(h0:i<s.length)(note:Bool)(acc:List Wd)(ha:acc.length≤i)(c:UInt8)(hc:s[i]'h0=c)
  (hsk:((if c=35 then true else if c=10 then false else note) || isB c)=true) :
  evX (orc T) T 0 l168_0 (stRf s i note acc)=some (.n,stRf s (i+1) (if c=35 then true else if c=10 then false else note) acc):=by
 have hw:IntKind.wrap .i64 ((i:Int)+1)=((i+1:Nat):Int):=zac _ (by omega)
 rw[zxb]at hsk
 have e35:=zgp c 35 (by decide)
 have e10:=zgp c 10 (by decide)
 rw[show UInt8.ofNat 35=35 from rfl]at e35
 rw[show UInt8.ofNat 10=10 from rfl]at e10
 simp only[e35,e10]at hsk ⊢
 obtain⟨n,hn⟩:∃n,n=c.toNat:=⟨_,rfl⟩
 have hn':=hn.symm
 by_cases c35:n=35
 ·subst c35
  simp -implicitDefEqProofs[l168_0,stRf,h0,hc,hn',hw]
 ·by_cases c10:n=10
  ·subst c10
   simp -implicitDefEqProofs[l168_0,stRf,h0,hc,hn',hw]
  ·cases note with
   | true=>simp -implicitDefEqProofs[l168_0,stRf,h0,hc,hn',hw,c35,c10]
   | false=>
    by_cases c32:n=32
    ·subst c32
     simp -implicitDefEqProofs[l168_0,stRf,h0,hc,hn',hw]
    ·by_cases c9:n=9
     ·subst c9
      simp -implicitDefEqProofs[l168_0,stRf,h0,hc,hn',hw]
     ·have c13:n=13:=by grind
      subst c13
      simp -implicitDefEqProofs[l168_0,stRf,h0,hc,hn',hw]
theorem zbw(pre:List Wd)(k a:Nat)(t:List UInt8):(rowsW (pre++[(k,t,a)]))[pre.length]? = some [.i .i64 k,.s t,.i .i64 a]:=by
 simp[rowsW,wdR]
theorem zsp(s:List UInt8)(hs:s.length≤4000)(i:Nat)(h0:i<s.length)(c:UInt8)(hc:s[i]'h0=c)
  (c35:¬ c.toNat=35) (c10:¬ c.toNat=10) (c32:¬ c.toNat=32) (c9:¬ c.toNat=9) (c13:¬ c.toNat=13) (k:Nat) (hk0:kindN c=k) (hz:¬ k=0) :
  evX (orc T) T 0 l168_0 (stRf s i false [])=some (.n,stRf s (i+1) false [(k,[c],i)]):=by
 have hw:IntKind.wrap .i64 ((i:Int)+1)=((i+1:Nat):Int):=zac _ (by omega)
 have hk:=zdi (T:=T) c
 rw[hk0]at hk
 have b1:(i:Int)+1≤s.length:=by omega
 have b2:List.drop i (List.take (i+1) s)=[c]:=by
  grind[List.drop_eq_getElem_cons]
 have hm:=ze0 (T:=T) k
 have hq:=zdb k
 have hq':¬ ((mostN k:Nat):Int)<1:=by omega
 simp -implicitDefEqProofs[l168_0,stRf,rowsW,wdR,h0,hc,hw,c35,c10,c32,c9,c13,hk,hm,b1,b2,hz,hq']
theorem zi9(s:List UInt8)(hs:s.length≤4000)(i:Nat)(h0:i<s.length)(c:UInt8)(hc:s[i]'h0=c)
  (c35:¬ c.toNat=35) (c10:¬ c.toNat=10) (c32:¬ c.toNat=32) (c9:¬ c.toNat=9) (c13:¬ c.toNat=13) (hk0:kindN c=0) :
  isEx (evX (orc T) T 0 l168_0 (stRf s i false []))=true∧finX 0 0 (Gh.norm false [4]) (evX (orc T) T 0 l168_0 (stRf s i false []))=resRf (.error i):=by
 have hw:IntKind.wrap .i64 ((i:Int)+1)=((i+1:Nat):Int):=zac _ (by omega)
 have hk:=zdi (T:=T) c
 rw[hk0]at hk
 have b1:(i:Int)+1≤s.length:=by omega
 have b2:List.drop i (List.take (i+1) s)=[c]:=by
  grind[List.drop_eq_getElem_cons]
 constructor<;>simp -implicitDefEqProofs[l168_0,stRf,resRf,rowsW,h0,hc,hw,c35,c10,c32,c9,c13,hk,b1,b2]
theorem zsq(s:List UInt8)(hs:s.length≤4000)(i:Nat)(h0:i<s.length)(c:UInt8)(hc:s[i]'h0=c)
  (c35:¬ c.toNat=35) (c10:¬ c.toNat=10) (c32:¬ c.toNat=32) (c9:¬ c.toNat=9) (c13:¬ c.toNat=13) (pre:List Wd) (hp:pre.length<i) (k0 a0:Nat) (t0:List UInt8) (ht0:a0+t0.length≤i) (hadj:¬ (a0+t0.length=i∧moreN k0 c=true)) (k:Nat) (hk0:kindN c=k) (hz:¬ k=0) :
  evX (orc T) T 0 l168_0 (stRf s i false (pre++[(k0,t0,a0)]))=some (.n,stRf s (i+1) false (pre++[(k0,t0,a0)]++[(k,[c],i)])):=by
 have hg:s[i]? = some c:=by grind
 have hw:IntKind.wrap .i64 ((i:Int)+1)=((i+1:Nat):Int):=zac _ (by omega)
 have hwi:IntKind.wrap .i64 (i:Int)=(i:Int):=zac _ (by omega)
 have b1:(i:Int)+1≤s.length:=by omega
 have b2:List.drop i (List.take (i+1) s)=[c]:=by
  grind[List.drop_eq_getElem_cons]
 have hmo:=zez (T:=T) k0 c
 have hl:=zbw pre k0 a0 t0
 have hll:(rowsW (pre++[(k0,t0,a0)])).length=pre.length+1:=by simp
 have hl2:=zbw (pre++[(k0,t0,a0)]) k i [c]
 have hll2:(rowsW (pre++[(k0,t0,a0)]++[(k,[c],i)])).length=pre.length+2:=by simp
 have hpu:wkL (List.take (pre.length+1) (rowsW (pre++[(k0,t0,a0)]))++[[AV.i .i64 k,.s [c],.i .i64 i]])=rowsW (pre++[(k0,t0,a0)]++[(k,[c],i)]):=by
  grind[zh7,List.length_singleton]
 have hwp:IntKind.wrap .i64 (pre.length:Int)=(pre.length:Int):=zac _ (by omega)
 have hwp1:IntKind.wrap .i64 ((pre.length:Int)+1)=(pre.length:Int)+1:=zac _ (by omega)
 have hlt:(pre.length:Int)<(pre.length:Int)+1:=by omega
 have hws:IntKind.wrap .i64 ((a0:Int)+t0.length)=((a0:Int)+t0.length):=zac _ (by omega)
 have hk:=zdi (T:=T) c
 rw[hk0]at hk
 have hm:=ze0 (T:=T) k
 have hq:=zdb k
 have hq':¬ ((mostN k:Nat):Int)<1:=by omega
 have hz':¬ (k:Int)=0:=by omega
 have hal:(pre++[(k0,t0,a0)]).length=pre.length+1:=by simp
 have hal2:(pre++[(k0,t0,a0)]++[(k,[c],i)]).length=pre.length+2:=by simp
 have hpl:pre.length≤4294967294:=by omega
 unfold stRf
 rw[hal,hal2]
 rw[hal]at hl2
 have g1:=zct (pre++[(k0,t0,a0)])
 have g2:=zei (pre++[(k0,t0,a0)])
 have g3:=zct (pre++[(k0,t0,a0)]++[(k,[c],i)])
 have g4:=zei (pre++[(k0,t0,a0)]++[(k,[c],i)])
 generalize rowsW (pre++[(k0,t0,a0)]++[(k,[c],i)])=RW2 at *
 generalize rowsW (pre++[(k0,t0,a0)])=RW at *
 generalize pre.length=m at *
 obtain⟨hx1,hgE⟩:=List.getElem?_eq_some_iff.1 hl
 have hT:List.take (m+1) RW=RW:=List.take_of_length_le (by omega)
 rw[hT]at hpu
 have hl3:(RW++[[AV.i .i64 k,.s [c],.i .i64 i]])[m+1]? = some [AV.i .i64 k,.s [c],.i .i64 i]:=by
  grind
 obtain⟨hx3,hgE3⟩:=List.getElem?_eq_some_iff.1 hl3
 have hm1:((m:Int)+1).toNat=m+1:=by omega
 by_cases had:a0+t0.length=i
 ·have had':(a0:Int)+t0.length=i:=by omega
  have hmm:moreN k0 c=false:=by grind
  simp -implicitDefEqProofs[l168_0,h0,hc,hw,hwi,c35,c10,c32,c9,c13,hk,hm,b1,b2,hz,hq',hmo,hll,hT,hpu,hm1,hwp,hwp1,hlt,hgE,hgE3,had',hmm,hpl]
 ·have had':¬ (a0:Int)+t0.length=i:=by omega
  simp -implicitDefEqProofs[l168_0,h0,hc,hw,c35,c10,c32,c9,c13,hk,hm,b1,b2,hz,hq',hll,hT,hpu,hm1,hwp,hwp1,hws,hlt,hgE,hgE3,had',hpl]
theorem zja(s:List UInt8)(hs:s.length≤4000)(i:Nat)(h0:i<s.length)(c:UInt8)(hc:s[i]'h0=c)
  (c35:¬ c.toNat=35) (c10:¬ c.toNat=10) (c32:¬ c.toNat=32) (c9:¬ c.toNat=9) (c13:¬ c.toNat=13) (pre:List Wd) (hp:pre.length<i) (k0 a0:Nat) (t0:List UInt8) (ht0:a0+t0.length≤i) (hadj:¬ (a0+t0.length=i∧moreN k0 c=true)) (hk0:kindN c=0) :
  isEx (evX (orc T) T 0 l168_0 (stRf s i false (pre++[(k0,t0,a0)])))=true∧finX 0 0 (Gh.norm false [4]) (evX (orc T) T 0 l168_0 (stRf s i false (pre++[(k0,t0,a0)])))=resRf (.error i):=by
 obtain⟨k,hkk⟩:∃k:Nat,k=0:=⟨_,rfl⟩
 have hw:IntKind.wrap .i64 ((i:Int)+1)=((i+1:Nat):Int):=zac _ (by omega)
 have hwi:IntKind.wrap .i64 (i:Int)=(i:Int):=zac _ (by omega)
 have b1:(i:Int)+1≤s.length:=by omega
 have b2:List.drop i (List.take (i+1) s)=[c]:=by
  grind[List.drop_eq_getElem_cons]
 have hmo:=zez (T:=T) k0 c
 have hl:=zbw pre k0 a0 t0
 have hll:(rowsW (pre++[(k0,t0,a0)])).length=pre.length+1:=by simp
 have hl2:=zbw (pre++[(k0,t0,a0)]) k i [c]
 have hpu:wkL (List.take (pre.length+1) (rowsW (pre++[(k0,t0,a0)]))++[[AV.i .i64 k,.s [c],.i .i64 i]])=rowsW (pre++[(k0,t0,a0)]++[(k,[c],i)]):=by
  grind[zh7,List.length_singleton]
 have hwp:IntKind.wrap .i64 (pre.length:Int)=(pre.length:Int):=zac _ (by omega)
 have hwp1:IntKind.wrap .i64 ((pre.length:Int)+1)=(pre.length:Int)+1:=zac _ (by omega)
 have hlt:(pre.length:Int)<(pre.length:Int)+1:=by omega
 have hws:IntKind.wrap .i64 ((a0:Int)+t0.length)=((a0:Int)+t0.length):=zac _ (by omega)
 have hk:=zdi (T:=T) c
 rw[hk0]at hk
 have hz':(k:Int)=0:=by omega
 have hal:(pre++[(k0,t0,a0)]).length=pre.length+1:=by simp
 have hpl:pre.length≤4294967294:=by omega
 unfold stRf resRf
 rw[hal]
 have g4:=zei (pre++[(k0,t0,a0)]++[(k,[c],i)])
 generalize rowsW (pre++[(k0,t0,a0)])=RW at *
 generalize pre.length=m at *
 obtain⟨hx1,hgE⟩:=List.getElem?_eq_some_iff.1 hl
 have hT:List.take (m+1) RW=RW:=List.take_of_length_le (by omega)
 have hl3:(RW++[[AV.i .i64 k,.s [c],.i .i64 i]])[m+1]? = some [AV.i .i64 k,.s [c],.i .i64 i]:=by
  grind
 have hm1:((m:Int)+1).toNat=m+1:=by omega
 by_cases had:a0+t0.length=i
 ·have had':(a0:Int)+t0.length=i:=by omega
  have hmm:moreN k0 c=false:=by grind
  constructor<;>simp -implicitDefEqProofs[l168_0,h0,hc,hw,hwi,c35,c10,c32,c9,c13,hk,b1,b2,hmo,hll,hT,hm1,hwp,hwp1,hlt,hgE,had',hmm,hpl]
 ·have had':¬ (a0:Int)+t0.length=i:=by omega
  constructor<;>simp -implicitDefEqProofs[l168_0,h0,hc,hw,c35,c10,c32,c9,c13,hk,b1,b2,hll,hT,hm1,hwp,hwp1,hws,hlt,hgE,had',hpl]
theorem zsr(pre:List Wd)(k a:Nat)(t t':List UInt8):(rowsW (pre++[(k,t,a)])).set pre.length [.i .i64 k,.s t',.i .i64 a]=rowsW (pre++[(k,t',a)]):=by
 have e:rowsW (pre++[(k,t,a)])=rowsW pre++[wdR (k,t,a)]:=by simp[rowsW]
 have e':rowsW (pre++[(k,t',a)])=rowsW pre++[wdR (k,t',a)]:=by simp[rowsW]
 rw[e,e',List.set_append_right _ _ (by simp),zc7,Nat.sub_self]
 rfl
theorem zuy(s:List UInt8)(hs:s.length≤4000)(i:Nat)(h0:i<s.length)(c:UInt8)(hc:s[i]'h0=c)
  (c35:¬ c.toNat=35) (c10:¬ c.toNat=10) (c32:¬ c.toNat=32) (c9:¬ c.toNat=9) (c13:¬ c.toNat=13) (pre:List Wd) (hp:pre.length<i) (k0 a0:Nat) (t0:List UInt8) (had:a0+t0.length=i) (hmm:moreN k0 c=true) (hz:¬ k0=0) :
  (t0.length+1≤mostN k0→evX (orc T) T 0 l168_0 (stRf s i false (pre++[(k0,t0,a0)]))=some (.n,stRf s (i+1) false (pre++[(k0,t0++[c],a0)]))) ∧
  (mostN k0<t0.length+1→isEx (evX (orc T) T 0 l168_0 (stRf s i false (pre++[(k0,t0,a0)])))=true∧finX 0 0 (Gh.norm false [4]) (evX (orc T) T 0 l168_0 (stRf s i false (pre++[(k0,t0,a0)])))=resRf (.error i)):=by
 have hw:IntKind.wrap .i64 ((i:Int)+1)=((i+1:Nat):Int):=zac _ (by omega)
 have hwi:IntKind.wrap .i64 (i:Int)=(i:Int):=zac _ (by omega)
 have b1:(i:Int)+1≤s.length:=by omega
 have b2:List.drop i (List.take (i+1) s)=[c]:=by
  grind[List.drop_eq_getElem_cons]
 have hmo:=zez (T:=T) k0 c
 rw[hmm]at hmo
 have hl:=zbw pre k0 a0 t0
 have hll:(rowsW (pre++[(k0,t0,a0)])).length=pre.length+1:=by simp
 have hl2:=zbw pre k0 a0 (t0++[c])
 have hll2:(rowsW (pre++[(k0,t0++[c],a0)])).length=pre.length+1:=by simp
 have hset:=zsr pre k0 a0 t0 (t0++[c])
 have hwp:IntKind.wrap .i64 (pre.length:Int)=(pre.length:Int):=zac _ (by omega)
 have hlt:(pre.length:Int)<(pre.length:Int)+1:=by omega
 have had':(a0:Int)+t0.length=i:=by omega
 have hm:=ze0 (T:=T) k0
 have hal:(pre++[(k0,t0,a0)]).length=pre.length+1:=by simp
 have hal2:(pre++[(k0,t0++[c],a0)]).length=pre.length+1:=by simp
 have hcl:t0.length+1≤9223372036854775807:=by omega
 unfold stRf resRf
 rw[hal,hal2]
 have g3:=zct (pre++[(k0,t0++[c],a0)])
 have g4:=zei (pre++[(k0,t0++[c],a0)])
 obtain⟨hx1,hgE⟩:=List.getElem?_eq_some_iff.1 hl
 obtain⟨hx2,hgE2⟩:=List.getElem?_eq_some_iff.1 hl2
 refine⟨fun hq=>?_,fun hq=>?_⟩
 ·have hq2:¬ ((mostN k0:Nat):Int)<(t0.length:Int)+1:=by omega
  simp -implicitDefEqProofs[l168_0,h0,hc,hw,hwi,c35,c10,c32,c9,c13,hm,b1,b2,hz,hmo,hll,hll2,hset,hwp,hlt,hgE,hgE2,had',hcl,hq2,g3]
 ·have hq2:((mostN k0:Nat):Int)<(t0.length:Int)+1:=by omega
  constructor<;>simp -implicitDefEqProofs[l168_0,h0,hc,hw,hwi,c35,c10,c32,c9,c13,hm,b1,b2,hz,hmo,hll,hll2,hset,hwp,hlt,hgE,hgE2,had',hcl,hq2]
theorem zss(s:List UInt8)(hs:s.length≤4000):∀y:Nat×Bool×List Wd,(y.1≤s.length∧y.2.2.length≤y.1∧(∀k t a,y.2.2.getLast? = some (k,t,a)→a+t.length≤y.1∧¬ k=0)) →
  loopN T 0 0 (.norm false [4]) l168_0 (stRf s y.1 y.2.1 y.2.2)=resRf (refL (s.drop y.1) y.1 y.2.1 y.2.2):=by
 refine zan (fun y:Nat×Bool×List Wd=>stRf s y.1 y.2.1 y.2.2) (fun y=>y.1≤s.length∧y.2.2.length≤y.1∧(∀k t a,y.2.2.getLast? = some (k,t,a)→a+t.length≤y.1∧¬ k=0)) (fun y=>s.length-y.1) (fun y=>resRf (refL (s.drop y.1) y.1 y.2.1 y.2.2)) ?_
 rintro⟨i,note,acc⟩ ⟨hi,ha,he⟩
 by_cases h0:i<s.length
 ·obtain⟨c,hc⟩:∃c,s[i]'h0=c:=⟨_,rfl⟩
  have hd:s.drop i=c::s.drop (i+1):=by rw[List.drop_eq_getElem_cons h0,hc]
  by_cases hsk:((if c=35 then true else if c=10 then false else note) || isB c)=true
  ·left
   refine⟨(i+1,(if c=35 then true else if c=10 then false else note),acc),⟨h0,by grind,fun k t a h=>by
    grind⟩,by omega,zso s hs i h0 note acc ha c hc hsk,?_⟩
   grind[refL]
  ·have hsk':=hsk
   simp only[Bool.or_eq_true,not_or,Bool.not_eq_true]at hsk'
   obtain⟨h1,h2⟩:=hsk'
   have n35:c≠35:=fun e=>by grind
   have n10:c≠10:=fun e=>by subst e;simp[isB]at h2
   have hnote:note=false:=by grind
   subst hnote
   have hB:¬ c=32∧¬ c=9∧¬ c=13:=by
    grind[isB]
   have c35:¬ c.toNat=35:=zsm (n:=35) (by decide) n35
   have c10:¬ c.toNat=10:=zsm (n:=10) (by decide) n10
   have c32:¬ c.toNat=32:=zsm (n:=32) (by decide) hB.1
   have c9:¬ c.toNat=9:=zsm (n:=9) (by decide) hB.2.1
   have c13:¬ c.toNat=13:=zsm (n:=13) (by decide) hB.2.2
   have hR:refL (s.drop i) i false acc=if badWd (stepWd c i acc)=true then .error i else refL (s.drop (i+1)) (i+1) false (stepWd c i acc):=by
    grind[refL]
   rw[hR]
   have hmp:=zdb (kindN c)
   rcases List.eq_nil_or_concat acc with rfl | ⟨pre,⟨k0,t0,a0⟩,rfl⟩
   ·have hs1:stepWd c i []=[(kindN c,[c],i)]:=rfl
    have hb1:badWd [(kindN c,[c],i)]=decide (kindN c=0):=by
     simp[badWd]
     omega
    rw[hs1,hb1]
    by_cases hk:kindN c=0
    ·grind[zi9]
    ·left
     rw[decide_eq_false hk,if_neg (by decide)]
     refine⟨(i+1,false,[(kindN c,[c],i)]),⟨h0,by simp,fun k t a h=>by
      grind⟩,by omega,zsp (T:=T) s hs i h0 c hc c35 c10 c32 c9 c13 (kindN c) rfl hk,rfl⟩
   ·rw[List.concat_eq_append]at he ha ⊢
    obtain⟨e1,e2⟩:=he k0 t0 a0 (by simp)
    have hp:pre.length<i:=by
     grind
    by_cases hadj:a0+t0.length=i∧moreN k0 c=true
    ·have hs1:stepWd c i (pre++[(k0,t0,a0)])=pre++[(k0,t0++[c],a0)]:=by simp[stepWd,hadj.1,hadj.2]
     have hb1:badWd (pre++[(k0,t0++[c],a0)])=decide (mostN k0<t0.length+1):=by simp[badWd,e2]
     rw[hs1,hb1]
     obtain⟨x1,x2⟩:=zuy (T:=T) s hs i h0 c hc c35 c10 c32 c9 c13 pre hp k0 a0 t0 hadj.1 hadj.2 e2
     by_cases hq:mostN k0<t0.length+1
     ·grind
     ·left
      rw[decide_eq_false hq,if_neg (by decide)]
      refine⟨(i+1,false,pre++[(k0,t0++[c],a0)]),⟨h0,by grind,fun k t a h=>by
       grind⟩,by omega,x1 (by omega),rfl⟩
    ·have hs1:stepWd c i (pre++[(k0,t0,a0)])=pre++[(k0,t0,a0)]++[(kindN c,[c],i)]:=by
      unfold stepWd
      grind
     have hb1:badWd (pre++[(k0,t0,a0)]++[(kindN c,[c],i)])=decide (kindN c=0):=by
      simp[badWd]
      omega
     rw[hs1,hb1]
     by_cases hk:kindN c=0
     ·grind[zja]
     ·left
      rw[decide_eq_false hk,if_neg (by decide)]
      refine⟨(i+1,false,pre++[(k0,t0,a0)]++[(kindN c,[c],i)]),⟨h0,by grind,fun k t a h=>by
       grind⟩,by omega,zsq (T:=T) s hs i h0 c hc c35 c10 c32 c9 c13 pre hp k0 a0 t0 e1 hadj (kindN c) rfl hk,rfl⟩
 ·right
  have hi2:i=s.length:=by omega
  subst hi2
  rw[List.drop_length]
  have er:refL [] s.length note acc=.ok acc:=rfl
  rw[er]
  simp only[resRf,stRf]
  have g1:=zct acc
  have g2:=zei acc
  have g3:=zc7 acc
  generalize rowsW acc=RW at *
  generalize acc.length=m at *
  constructor<;>simp -implicitDefEqProofs[l168_0,g1]
def ansRef(r:Except Nat (List Wd)):AV:=
 match r with
 | .ok ws=>.tup [.sl (rowsW ws) .an,.i .i64 (-1)]
 | .error e=>.tup [.sl [] .an,.i .i64 e]
theorem zpi(s:List UInt8)(hs:s.length≤1000000):callF T 168 [.s s]=some (ansRef (scanT s)):=by
 rw[f168 _ rfl,b168]
 unfold scanT
 by_cases h1:4000<s.length
 ·have h1':(4000:Int)<s.length:=by omega
  rw[if_pos h1]
  simp -implicitDefEqProofs[ansRef,h1']
 ·have h1':¬ (4000:Int)<s.length:=by omega
  rw[if_neg h1]
  have h:=zss (T:=T) s (by omega) (0,false,[]) ⟨Nat.zero_le _,Nat.le_refl _,fun k t a h=>by grind⟩
  simp only[List.drop_zero]at h
  rw[ztf]at h
  have e0:rowsW []=[]:=rfl
  simp only[stRf,e0,List.length_nil,Int.natCast_zero]at h
  cases hr:scanL (s.drop (skipC false s)) (skipC false s) []with
  | ok ws=>
   rw[hr]at h
   simp only[resRf]at h
   have g1:=zct ws
   have g3:=zc7 ws
   simp only[ansRef]
   generalize rowsW ws=RW at *
   generalize ws.length=m at *
   have ht:List.take m RW=RW:=List.take_of_length_le (by omega)
   simp -implicitDefEqProofs[h1',h,g1,ht,g3]
  | error e=>
   rw[hr]at h
   simp only[resRf]at h
   simp -implicitDefEqProofs[ansRef,h1',h]
end
theorem zkz:∀(n:Nat) (l:List UInt8) (i:Nat) (acc ws:List Wd),l.length=n→scanL l i acc=.ok ws→∃r,ws=acc++r:=by
 intro n
 induction n using Nat.strongRecOn with
 | _ n ih=>
  intro l i acc ws hl h
  cases l with
  | nil=>rw[zen]at h;cases h;exact⟨[],by simp⟩
  | cons c r=>
   rw[ze3]at h
   split at h
   ·cases h
   ·split at h
    ·cases h
    ·obtain⟨r',hr'⟩:=ih _ (by simp only[List.length_drop,List.length_cons]at hl ⊢;omega) _ _ _ _ rfl h
     exact⟨_,by rw[hr',List.append_assoc]⟩
def oneB(k:Int)(t:List UInt8):Except Nat (List Wd)→Bool
 | .ok [(k',t',_)]=>decide ((k':Int)=k)&&decide (t'=t)
 | _=>false
theorem zst(k:Nat)(r:List UInt8):1≤firstN k r∧firstN k r≤r.length+1:=by
 unfold firstN
 have:=(List.takeWhile_sublist (moreN k) (l:=r)).length_le
 omega
theorem zpj(k:Int)(t:List UInt8)(ht:t.length≤4000):oneB k t (scanT t)=rightB k t:=by
 unfold scanT
 rw[if_neg (by omega)]
 cases t with
 | nil=>simp[skipC,zen,oneB,rightB]
 | cons c r=>
  simp only[List.length_cons]at ht
  by_cases hsk:skipC false (c::r)=0
  ·rw[hsk,List.drop_zero,ze3]
   obtain⟨f1,f2⟩:=zst (kindN c) r
   by_cases hk:kindN c=0
   ·rw[if_pos hk]
    simp only[oneB,rightB,hk]
    by_cases hk0:k=0
    ·simp[hk0]
    ·have:¬ (0:Int)=k:=fun h=>hk0 h.symm
     simp[this]
   ·rw[if_neg hk]
    by_cases hm:mostN (kindN c)<firstN (kindN c) r
    ·rw[if_pos hm]
     simp only[oneB,rightB]
     by_cases hfl:firstN (kindN c) r=r.length+1
     ·have:¬ r.length+1≤mostN (kindN c):=by omega
      simp[this]
     ·simp[hfl]
    ·rw[if_neg hm,List.nil_append]
     by_cases hfl:firstN (kindN c) r=r.length+1
     ·have e1:r.drop (firstN (kindN c) r-1)=[]:=by
       rw[hfl]
       exact List.drop_eq_nil_of_le (by omega)
      have e2:(c::r).take (firstN (kindN c) r)=c::r:=by
       rw[hfl]
       exact List.take_of_length_le (by simp)
      rw[e1,e2]
      simp only[skipC,List.drop_nil,zen,oneB,rightB,hfl]
      have:r.length+1≤mostN (kindN c):=by omega
      by_cases hkk:(kindN c:Int)=k
      ·have hk0:k≠0:=by omega
       simp[hkk,hk0,this]
      ·simp[hkk]
     ·have hfalse:rightB k (c::r)=false:=by simp[rightB,hfl]
      rw[hfalse]
      generalize hws:scanL ((r.drop (firstN (kindN c) r-1)).drop (skipC false (r.drop (firstN (kindN c) r-1)))) (0+firstN (kindN c) r+skipC false (r.drop (firstN (kindN c) r-1))) [(kindN c,(c::r).take (firstN (kindN c) r),0)]=res
      cases res with
      | error e=>rfl
      | ok ws=>
       obtain⟨x,hx⟩:=zkz _ _ _ _ _ rfl hws
       rw[hx]
       cases x with
       | nil=>
        simp only[List.append_nil,oneB]
        have hne:¬ (c::r).take (firstN (kindN c) r)=c::r:=fun h=>by
         have:=congrArg List.length h
         rw[List.length_take,List.length_cons]at this
         omega
        rw[decide_eq_false hne,Bool.and_false]
       | cons y x=>rfl
  ·have hle:=zn6 false (c::r)
   have hk:kindN c=0∨isB c=true∨c=35:=by
    right
    by_cases hb:((if c=35 then true else if c=10 then false else false) || isB c)=true
    ·by_cases h35:c=35
     ·exact .inr h35
     ·simp[h35]at hb
      exact .inl hb
    ·exfalso
     apply hsk
     simp only[skipC]
     rw[if_neg hb]
   have hk0:kindN c=0:=by
    rcases hk with h | h | h
    ·exact h
    ·simp only[isB,Bool.or_eq_true,decide_eq_true_eq]at h
     rcases h with ((rfl | rfl) | rfl) | rfl<;>decide
    ·subst h;decide
   have hr:rightB k (c::r)=false:=by
    simp only[rightB,hk0]
    by_cases hk0:k=0
    ·simp[hk0]
    ·have:¬ (0:Int)=k:=fun h=>hk0 h.symm
     simp[this]
   rw[hr]
   -- every word is shorter than the text
   have key:∀(l:List UInt8) (i:Nat),l.length<(c::r).length→oneB k (c::r) (scanL l i [])=false:=by
    intro l i hl
    cases l with
    | nil=>rw[zen];rfl
    | cons d q=>
     rw[ze3]
     split
     ·rfl
     ·split
      ·rfl
      ·generalize hws:scanL ((q.drop (firstN (kindN d) q-1)).drop (skipC false (q.drop (firstN (kindN d) q-1)))) (i+firstN (kindN d) q+skipC false (q.drop (firstN (kindN d) q-1))) ([]++[(kindN d,(d::q).take (firstN (kindN d) q),i)])=res
       cases res with
       | error e=>rfl
       | ok ws=>
        obtain⟨x,hx⟩:=zkz _ _ _ _ _ rfl hws
        rw[hx]
        cases x with
        | nil=>
         simp only[List.nil_append,List.append_nil,oneB]
         have hne:¬ (d::q).take (firstN (kindN d) q)=c::r:=fun h=>by
          have:=congrArg List.length h
          rw[List.length_take]at this
          omega
         rw[decide_eq_false hne,Bool.and_false]
        | cons y x=>rfl
   exact key _ _ (by rw[List.length_drop];omega)
section
variable{T:Tbl}[CRef16 T]
theorem zml(k a:Int)(t:List UInt8)(ht:t.length≤4000):callF T 173 [.agg [.i .i64 k,.s t,.i .i64 a]]=some (.b (rightB k t)):=by
 have c:=zpi (T:=T) t (by omega)
 rw[←zpj k t ht,f173 _ rfl,b173]
 cases hr:scanT t with
 | error e=>
  rw[hr]at c
  simp only[ansRef]at c
  have he:¬ (e:Int)<0:=by omega
  simp -implicitDefEqProofs[c,oneB,he]
 | ok ws=>
  rw[hr]at c
  simp only[ansRef]at c
  match ws with
  | []=>
   have e0:rowsW []=[]:=rfl
   rw[e0]at c
   simp -implicitDefEqProofs[c,oneB]
  | [(k',t',a')]=>
   have e1:rowsW [(k',t',a')]=[[.i .i64 k',.s t',.i .i64 a']]:=rfl
   rw[e1]at c
   by_cases hk:(k':Int)=k
   ·by_cases htt:t'=t
    ·simp -implicitDefEqProofs[c,oneB,hk,htt]
    ·simp -implicitDefEqProofs[c,oneB,hk,htt]
   ·simp -implicitDefEqProofs[c,oneB,hk]
  | w1::w2::r=>
   have hl:(rowsW (w1::w2::r)).length=r.length+2:=by simp
   have hne:¬ ((r.length:Int)+2=1):=by omega
   have hne':¬ (r.length+2=1):=by omega
   have g1:=zct (w1::w2::r)
   have hone:oneB k t (.ok (w1::w2::r))=false:=rfl
   rw[hone]
   generalize rowsW (w1::w2::r)=RW at *
   generalize r.length=m at *
   simp -implicitDefEqProofs[c,hl,hne,hne',g1]
end
section
variable{T:Tbl}[CRef02 T][CRef04 T][CRef05 T][CRef07 T][CRef16 T][CRef17 T][CRef19 T]
theorem zpn(s:List UInt8)(hs:s.length≤4000):callF T 480 [.s s]=some (.b (nameB s)):=by
 have c:=zml (T:=T) 2 0 s hs
 unfold nameB
 rw[f480 _ rfl,b480]
 generalize rightB 2 s=B at *
 cases B with
 | false=>simp -implicitDefEqProofs[c]
 | true=>
  by_cases h1:s=[116]
  ·subst h1;simp -implicitDefEqProofs[c]
  by_cases h2:s=[121]
  ·subst h2;simp -implicitDefEqProofs[c]
  by_cases h3:s=[112]
  ·subst h3;simp -implicitDefEqProofs[c]
  by_cases h4:s=[108,101,116]
  ·subst h4;simp -implicitDefEqProofs[c]
  simp -implicitDefEqProofs[c,h1,h2,h3,h4]
abbrev hpQ(f:Fd):Heap:=[(.loc 3,⟨1,.str,2,[[.sl (rowLt f.lets) .an,.sl (rowC f.outs) .an]]⟩),(.loc 7,⟨2,.str,3,[[.i .i64 0,.i .i64 0,.i .i64 0]]⟩)]
def stTw(f:Fd)(dim pars:Int)(C:List (List Nd))(i:Nat)(lt:Int)(ok:Bool)(k:Nat):St:=
 ⟨[(1,.i .i64 dim),(2,.i .i64 pars),(3,.ptr (.loc 3) 1 2 0 0),(7,.ptr (.loc 7) 2 3 0 0),(8,.sl (rowC C) .an),(9,.i .i64 i),(10,.i .i64 lt),(11,.b ok),(12,.i .i64 k)],hpQ f,4⟩
theorem zmo(f:Fd)(dim pars:Int)(C:List (List Nd))(i:Nat)(lt:Int)(ok:Bool)(hi:i<f.lets.length)(hl:f.lets.length≤10) :
  loopN T 0 2 (.norm false [1,2,3,7,8,9,10,11]) l469_0 (stTw f dim pars C i lt (ok&&!twB (f.lets.take 0) (f.lets[i]'hi).name) 0) =
   some (.n,⟨[(1,.i .i64 dim),(2,.i .i64 pars),(3,.ptr (.loc 3) 1 2 0 0),(7,.ptr (.loc 7) 2 3 0 0),(8,.sl (rowC C) .an),(9,.i .i64 i),(10,.i .i64 lt),(11,.b (ok&&!twB (f.lets.take i) (f.lets[i]'hi).name))],hpQ f,4⟩):=by
 refine zae (fun k=>stTw f dim pars C i lt (ok&&!twB (f.lets.take k) (f.lets[i]'hi).name) k) i _ (fun k hk=>?_) ?_
 ·have hk1:k<f.lets.length:=by omega
  have hg:f.lets[k]? = some (f.lets[k]'hk1):=List.getElem?_eq_getElem hk1
  have hgi:f.lets[i]? = some (f.lets[i]'hi):=List.getElem?_eq_getElem hi
  have hk':(k:Int)<i:=by omega
  have hi':(i:Int)<f.lets.length:=by omega
  have hk1':(k:Int)<f.lets.length:=by omega
  have hws:=zal hk (by omega)
  have hs:twB (f.lets.take (k+1)) (f.lets[i]'hi).name=(twB (f.lets.take k) (f.lets[i]'hi).name || decide ((f.lets[k]'hk1).name=(f.lets[i]'hi).name)):=by
   unfold twB
   rw[List.take_succ_eq_append_getElem hk1,List.any_append]
   simp only[List.any_cons,List.any_nil,Bool.or_false]
  rw[hs]
  obtain⟨L,O⟩:=f
  unfold stTw hpQ
  dsimp only at *
  generalize twB (L.take k) (L[i]'hi).name=B at *
  clear hs
  generalize hx:L[k]'hk1=x at *
  generalize hy:L[i]'hi=y at *
  obtain⟨xn,xc⟩:=x
  obtain⟨yn,yc⟩:=y
  dsimp only
  cases hob:(ok&&!B) with
  | false=>
   have e:(ok&&!(B || decide (xn=yn)))=false:=by
    cases ok<;>cases B<;>simp_all
   rw[e]
   simp -implicitDefEqProofs[l469_0,hk,hk',hws]
  | true=>
   have e:(ok&&!(B || decide (xn=yn)))=!decide (xn=yn):=by
    cases ok<;>cases B<;>simp_all
   rw[e]
   by_cases hc:xn=yn
   ·simp -implicitDefEqProofs[l469_0,hk,hk',hk1,hk1',hi,hi',hg,hgi,hx,hy,hc,hws]
   ·simp -implicitDefEqProofs[l469_0,hk,hk',hk1,hk1',hi,hi',hg,hgi,hx,hy,hc,hws]
 ·unfold stTw hpQ
  constructor<;>simp -implicitDefEqProofs[l469_0]
end
def chkA(f:Fd)(dim pars:Int)(i:Nat):Option (Int×Int×Int):=
 if i<f.lets.length then match chkL dim pars f.lets i (f.lets.drop i) with
  | some q=>some q
  | none=>chkO dim pars f.lets.length 0 f.outs
 else chkO dim pars f.lets.length (i-f.lets.length) (f.outs.drop (i-f.lets.length))
def endQa(q:Option (Int×Int×Int)):Option (Ex×St):=match q with
 | some (a,b,c)=>some (.r,⟨[(6,.b true),(7,.ptr (.loc 7) 1 3 0 0)],[(.loc 7,⟨1,.str,3,[[.i .i64 a,.i .i64 b,.i .i64 c]]⟩)],3⟩)
 | none=>some (.n,⟨[(7,.ptr (.loc 7) 1 3 0 0)],[(.loc 7,⟨1,.str,3,[[.i .i64 0,.i .i64 0,.i .i64 0]]⟩)],3⟩)
def stQ(f:Fd)(dim pars:Int)(i:Nat):St:=
 ⟨[(1,.i .i64 dim),(2,.i .i64 pars),(3,.ptr (.loc 3) 1 2 0 0),(7,.ptr (.loc 7) 2 3 0 0),(8,.sl (rowC (codesD f)) .an),(9,.i .i64 i)],hpQ f,4⟩
theorem zpo{f:Fd}{i:Nat}(h:i<f.lets.length):(codesD f)[i]? = some (f.lets[i]'h).code:=by
 unfold codesD
 rw[List.getElem?_append_left (by simpa using h),List.getElem?_map,List.getElem?_eq_getElem h]
 rfl
theorem zpp{f:Fd}{i:Nat}(h:f.lets.length≤i)(h2:i-f.lets.length<f.outs.length):(codesD f)[i]? = some (f.outs[i-f.lets.length]'h2):=by
 unfold codesD
 rw[List.getElem?_append_right (by simpa using h),List.length_map,List.getElem?_eq_getElem h2]
section
variable{T:Tbl}[CRef02 T][CRef04 T][CRef05 T][CRef07 T][CRef16 T][CRef17 T][CRef19 T]
theorem zic(c:List Nd)(dim pars lets:Int)(hl:c.length≤50000)(hn:thin 1000 c) :
  (0≤placeN dim pars lets c∧callF T 50 [.sl (rowN c) .an,.i .i64 dim,.i .i64 pars,.i .i64 lets]=some (.i .i64 (ptA dim pars lets c))∧0≤ptA dim pars lets c) ∨
  (∃p:Int,p<0∧callF T 50 [.sl (rowN c) .an,.i .i64 dim,.i .i64 pars,.i .i64 lets]=some (.i .i64 p) ∧
   ((40<depN c∧ptA dim pars lets c=c.length)∨(¬ 40<depN c∧ptA dim pars lets c<0))):=by
 have c1:=zmm (T:=T) c dim pars lets (by omega) hn
 unfold ptA
 by_cases h:0≤placeN dim pars lets c
 ·left
  rw[if_neg (by omega)]
  exact⟨h,c1,h⟩
 ·right
  refine⟨_,by omega,c1,?_⟩
  by_cases hd:40<depN c
  ·left;exact⟨hd,by rw[if_pos ⟨by omega,hd⟩]⟩
  ·right;exact⟨hd,by rw[if_neg (fun hh=>hd hh.2)];omega⟩
end
def evLt(lim:Nat)(P:Po):Nat→List Rat→List (List Nd)→Nat×List Rat×Nat×Nat
 | n,ls,[]=>(n,ls,0,0)
 | n,ls,c::r=>if (walkR lim P ls n [] c).2.1≠0 then (n,ls,(walkR lim P ls n [] c).2.1,(walkR lim P ls n [] c).2.2) else evLt lim P (n+c.length) (ls++[(walkR lim P ls n [] c).1]) r
def evOu(lim:Nat)(P:Po)(ls:List Rat):Nat→List Rat→List (List Nd)→List Rat×Nat×Nat
 | _,os,[]=>(os,0,0)
 | n,os,c::r=>if (walkR lim P ls n [] c).2.1≠0 then ([],(walkR lim P ls n [] c).2.1,(walkR lim P ls n [] c).2.2) else evOu lim P ls (n+c.length) (os++[(walkR lim P ls n [] c).1]) r
def evD(lim:Nat)(P:Po)(f:Fd):List Rat×Nat×Nat:=
 if (evLt lim P 0 [] (f.lets.map (·.code))).2.2.1≠0 then ([],(evLt lim P 0 [] (f.lets.map (·.code))).2.2) else evOu lim P (evLt lim P 0 [] (f.lets.map (·.code))).2.1 (evLt lim P 0 [] (f.lets.map (·.code))).1 [] f.outs
section
variable{T:Tbl}[CRef02 T][CRef04 T][CRef05 T][CRef07 T][CRef16 T][CRef17 T][CRef19 T]
theorem zsw(f:Fd)(dim pars:Int)(i:Nat)(h:f.lets.length≤i)(h2:i-f.lets.length<f.outs.length)(h1:f.lets.length≤10)(ho:f.outs.length≤10)(hn:thinD 1000 50000 f) :
  (ptA dim pars f.lets.length (f.outs[i-f.lets.length]'h2)<0∧evX (orc T) T 0 l469_1 (stQ f dim pars i)=some (.n,stQ f dim pars (i+1))) ∨
  (0≤ptA dim pars f.lets.length (f.outs[i-f.lets.length]'h2)∧isEx (evX (orc T) T 0 l469_1 (stQ f dim pars i))=true ∧
   finX 0 0 (.norm false [7]) (evX (orc T) T 0 l469_1 (stQ f dim pars i))=endQa (some ((i:Int)+1,0,ptA dim pars f.lets.length (f.outs[i-f.lets.length]'h2)))):=by
 have hg:=zpp h h2
 have hlen:(codesD f).length=f.lets.length+f.outs.length:=by unfold codesD;rw[List.length_append,List.length_map]
 have hi:i<(codesD f).length:=by omega
 have hge:(codesD f)[i]'hi=f.outs[i-f.lets.length]'h2:=(List.getElem?_eq_some_iff.1 hg).2
 have hi':(i:Int)<(codesD f).length:=by omega
 have hi2:¬ (i:Int)<f.lets.length:=by omega
 have hws:=zal hi (by omega)
 have hmn:min i f.lets.length=f.lets.length:=by omega
 obtain⟨hc1,hc2⟩:=hn _ (List.mem_append.2 (.inr (List.getElem_mem h2)))
 have hp:=zic (T:=T) _ dim pars f.lets.length hc1 hc2
 have cd:=zgw (T:=T) _ hc1
 have hlt:((f.lets.length:Int)<i∨(f.lets.length:Int)=i):=by omega
 generalize f.outs[i-f.lets.length]'h2=c at *
 unfold stQ hpQ endQa
 generalize codesD f=C at *
 obtain⟨L,O⟩:=f
 dsimp only at *
 clear hn hmn
 generalize depN c=d at *
 generalize ptA dim pars L.length c=p at *
 have hmm:(if L.length<i then (L.length:Int) else i)=L.length:=by split<;>omega
 rcases hp with ⟨_,c1,h0⟩ | ⟨q,hq,c1,⟨hd,hpe⟩ | ⟨hd,hpe⟩⟩
 ·right
  refine⟨h0,?_⟩
  constructor<;>simp -implicitDefEqProofs[l469_1,hi,hi',hi2,hg,hge,hws,hmm,c1,h0]
 ·right
  have hq':¬ 0≤q:=by omega
  have hd':(40:Int)<d:=by omega
  have hwl:IntKind.wrap .i64 ((i:Int)+1)=(i:Int)+1:=zac _ (by omega)
  subst hpe
  refine⟨by omega,?_⟩
  constructor<;>simp -implicitDefEqProofs[l469_1,hi,hi',hi2,hg,hge,hws,hmm,c1,hq',cd,hd,hd']
 ·left
  have hq':¬ 0≤q:=by omega
  have hd':¬ (40:Int)<d:=by omega
  refine⟨hpe,?_⟩
  simp -implicitDefEqProofs[l469_1,hi,hi',hi2,hg,hge,hws,hmm,c1,hq',cd,hd,hd']
end
section
variable{T:Tbl}[CRef02 T][CRef04 T][CRef05 T][CRef07 T][CRef16 T][CRef17 T][CRef19 T]
theorem zsx(f:Fd)(dim pars:Int)(i:Nat)(h:i<f.lets.length)(h1:f.lets.length≤10)(ho:f.outs.length≤10)(hn:thinD 1000 50000 f)(hs:∀x∈f.lets,x.name.length≤4000) :
  (¬ (nameB (f.lets[i]'h).name=false∨twB (f.lets.take i) (f.lets[i]'h).name=true)∧ptA dim pars i (f.lets[i]'h).code<0∧evX (orc T) T 0 l469_1 (stQ f dim pars i)=some (.n,stQ f dim pars (i+1))) ∨
  ((nameB (f.lets[i]'h).name=false∨twB (f.lets.take i) (f.lets[i]'h).name=true)∧isEx (evX (orc T) T 0 l469_1 (stQ f dim pars i))=true ∧
   finX 0 0 (.norm false [7]) (evX (orc T) T 0 l469_1 (stQ f dim pars i))=endQa (some ((i:Int)+1,1,0))) ∨
  (¬ (nameB (f.lets[i]'h).name=false∨twB (f.lets.take i) (f.lets[i]'h).name=true)∧0≤ptA dim pars i (f.lets[i]'h).code∧isEx (evX (orc T) T 0 l469_1 (stQ f dim pars i))=true ∧
   finX 0 0 (.norm false [7]) (evX (orc T) T 0 l469_1 (stQ f dim pars i))=endQa (some ((i:Int)+1,0,ptA dim pars i (f.lets[i]'h).code))):=by
 have hg:=zpo h
 have hgl:f.lets[i]? = some (f.lets[i]'h):=List.getElem?_eq_getElem h
 have hlen:(codesD f).length=f.lets.length+f.outs.length:=by unfold codesD;rw[List.length_append,List.length_map]
 have hi:i<(codesD f).length:=by omega
 have hge:(codesD f)[i]'hi=(f.lets[i]'h).code:=(List.getElem?_eq_some_iff.1 hg).2
 have hi':(i:Int)<(codesD f).length:=by omega
 have hi2:(i:Int)<f.lets.length:=by omega
 have hws:=zal hi (by omega)
 obtain⟨hc1,hc2⟩:=hn _ (List.mem_append.2 (.inl (List.mem_map.2 ⟨_,List.getElem_mem h,rfl⟩)))
 have hp:=zic (T:=T) _ dim pars i hc1 hc2
 have cd:=zgw (T:=T) _ hc1
 have cn:=zpn (T:=T) (f.lets[i]'h).name (hs _ (List.getElem_mem h))
 have ct:=zmo (T:=T) f dim pars (codesD f) i i (nameB (f.lets[i]'h).name) h h1
 have hm0:¬ f.lets.length<i:=by omega
 have e0:twB (f.lets.take 0) (f.lets[i]'h).name=false:=rfl
 rw[e0]at ct
 generalize hx:f.lets[i]'h=x at *
 generalize twB (f.lets.take i) x.name=B at *
 generalize nameB x.name=A at *
 unfold stTw hpQ at ct
 unfold stQ hpQ endQa
 generalize codesD f=C at *
 obtain⟨L,O⟩:=f
 obtain⟨nm,code⟩:=x
 dsimp only at *
 clear hn hs e0
 generalize depN code=d at *
 generalize ptA dim pars i code=p at *
 simp only[Bool.not_false,Bool.and_true,Int.natCast_zero]at ct
 cases A with
 | false=>
  right;left
  refine⟨.inl rfl,?_⟩
  simp only[Bool.false_and]at ct
  constructor<;>simp -implicitDefEqProofs[l469_1,hi,hi',hi2,h,hgl,hx,hg,hge,hws,hm0,cn,ct]
 | true=>
  cases B with
  | true=>
   right;left
   refine⟨.inr rfl,?_⟩
   simp only[Bool.true_and,Bool.not_true]at ct
   constructor<;>simp -implicitDefEqProofs[l469_1,hi,hi',hi2,h,hgl,hx,hg,hge,hws,hm0,cn,ct]
  | false=>
   simp only[Bool.true_and,Bool.not_false]at ct
   have hno:¬ (true=false∨false=true):=by simp
   rcases hp with ⟨_,c1,h0⟩ | ⟨q,hq,c1,⟨hd,hpe⟩ | ⟨hd,hpe⟩⟩
   ·right;right
    refine⟨hno,h0,?_⟩
    constructor<;>simp -implicitDefEqProofs[l469_1,hi,hi',hi2,h,hgl,hx,hg,hge,hws,hm0,cn,ct,c1,h0]
   ·right;right
    have hq':¬ 0≤q:=by omega
    have hd':(40:Int)<d:=by omega
    subst hpe
    refine⟨hno,by omega,?_⟩
    constructor<;>simp -implicitDefEqProofs[l469_1,hi,hi',hi2,h,hgl,hx,hg,hge,hws,hm0,cn,ct,c1,hq',cd,hd,hd']
   ·left
    have hq':¬ 0≤q:=by omega
    have hd':¬ (40:Int)<d:=by omega
    refine⟨hno,hpe,?_⟩
    simp -implicitDefEqProofs[l469_1,hi,hi',hi2,h,hgl,hx,hg,hge,hws,hm0,cn,ct,c1,hq',cd,hd,hd']
end
def fltQ(q:Option (Int×Int×Int)):AV:=match q with
 | some (a,b,c)=>.tup [.b true,.agg [.i .i64 a,.i .i64 b,.i .i64 c]]
 | none=>.tup [.b false,.agg [.i .i64 0,.i .i64 0,.i .i64 0]]
theorem zuz{f:Fd}{dim pars:Int}{i:Nat}(h:i<f.lets.length) :
  chkA f dim pars i=if nameB (f.lets[i]'h).name=false∨twB (f.lets.take i) (f.lets[i]'h).name=true then some ((i:Int)+1,1,0) else if 0≤ptA dim pars i (f.lets[i]'h).code then some ((i:Int)+1,0,ptA dim pars i (f.lets[i]'h).code) else chkA f dim pars (i+1):=by
 have hd:f.lets.drop i=f.lets[i]'h::f.lets.drop (i+1):=List.drop_eq_getElem_cons h
 unfold chkA
 rw[if_pos h,hd,chkL]
 by_cases h1:nameB (f.lets[i]'h).name=false∨twB (f.lets.take i) (f.lets[i]'h).name=true
 ·rw[if_pos h1,if_pos h1]
 ·rw[if_neg h1,if_neg h1]
  by_cases h2:0≤ptA dim pars i (f.lets[i]'h).code
  ·rw[if_pos h2,if_pos h2]
  ·rw[if_neg h2,if_neg h2]
   by_cases h3:i+1<f.lets.length
   ·rw[if_pos h3]
   ·have e:i+1=f.lets.length:=by omega
    rw[if_neg h3,e,List.drop_length,chkL,Nat.sub_self,List.drop_zero]
theorem zu0{f:Fd}{dim pars:Int}{i:Nat}(h:f.lets.length≤i)(h2:i-f.lets.length<f.outs.length) :
  chkA f dim pars i=if 0≤ptA dim pars f.lets.length (f.outs[i-f.lets.length]'h2) then some ((i:Int)+1,0,ptA dim pars f.lets.length (f.outs[i-f.lets.length]'h2)) else chkA f dim pars (i+1):=by
 have hd:f.outs.drop (i-f.lets.length)=f.outs[i-f.lets.length]'h2::f.outs.drop (i-f.lets.length+1):=List.drop_eq_getElem_cons h2
 unfold chkA
 have n1:¬ i<f.lets.length:=by omega
 have n2:¬ i+1<f.lets.length:=by omega
 rw[if_neg n1,hd,chkO,if_neg n2]
 have e:((f.lets.length+(i-f.lets.length):Nat):Int)=i:=by omega
 have e2:i+1-f.lets.length=i-f.lets.length+1:=by omega
 rw[e,e2]
section
variable{T:Tbl}[CRef02 T][CRef04 T][CRef05 T][CRef07 T][CRef16 T][CRef17 T][CRef19 T]
theorem zpq(f:Fd)(dim pars:Int)(h1:f.lets.length≤10)(ho:f.outs.length≤10)(hn:thinD 1000 50000 f)(hs:∀x∈f.lets,x.name.length≤4000) :
  loopN T 0 0 (.norm false [7]) l469_1 (stQ f dim pars 0)=endQa (chkA f dim pars 0):=by
 have hlen:(codesD f).length=f.lets.length+f.outs.length:=by unfold codesD;rw[List.length_append,List.length_map]
 refine zaj (stQ f dim pars) (f.lets.length+f.outs.length) (fun i=>endQa (chkA f dim pars i)) (fun i hi=>?_) ?_
 ·by_cases h:i<f.lets.length
  ·rw[zuz h]
   rcases zsx (T:=T) f dim pars i h h1 ho hn hs with ⟨g1,g2,g3⟩ | ⟨g1,g2⟩ | ⟨g1,g2,g3⟩
   ·left
    rw[if_neg g1,if_neg (by omega)]
    exact⟨g3,rfl⟩
   ·right
    rw[if_pos g1]
    exact g2
   ·right
    rw[if_neg g1,if_pos g2]
    exact g3
  ·have h2:i-f.lets.length<f.outs.length:=by omega
   rw[zu0 (by omega) h2]
   rcases zsw (T:=T) f dim pars i (by omega) h2 h1 ho hn with ⟨g1,g2⟩ | ⟨g1,g2⟩
   ·left
    rw[if_neg (by omega)]
    exact⟨g2,rfl⟩
   ·right
    rw[if_pos g1]
    exact g2
 ·have e:chkA f dim pars (f.lets.length+f.outs.length)=none:=by
   unfold chkA
   rw[if_neg (by omega),show f.lets.length+f.outs.length-f.lets.length=f.outs.length by omega,List.drop_length,chkO]
  rw[e]
  rw[←hlen]
  unfold stQ hpQ endQa
  generalize codesD f=C at *
  obtain⟨L,O⟩:=f
  dsimp only
  constructor<;>simp -implicitDefEqProofs[l469_1]
theorem zmp(f:Fd)(dim pars:Int)(h1:f.lets.length≤100000)(h2:f.outs.length≤100000)(hn:thinD 1000 50000 f)(hz:sizeD f≤4294967295)(hs:∀x∈f.lets,x.name.length≤4000) :
  callF T 469 [efd f,.i .i64 dim,.i .i64 pars]=some (fltQ (chkD f dim pars)):=by
 have cs:=zpm (T:=T) f h1 h2 hz
 have cc:=zdw (T:=T) f h1 h2
 unfold chkD
 cases hW:whB f dim pars with
 | true=>
  rw[if_neg (by decide)]
  have hW2:(1≤dim∧dim≤6∧0≤pars∧pars≤6∧(f.outs.length:Int)=dim∧f.lets.length≤10∧sizeD f≤300):=by simpa[whB]using hW
  obtain⟨g1,g2,g3,g4,g5,g6,g7⟩:=hW2
  have hlo:=zpq (T:=T) f dim pars g6 (by omega) hn hs
  have e0:chkA f dim pars 0=match chkL dim pars f.lets 0 f.lets with
    | some q=>some q
    | none=>chkO dim pars f.lets.length 0 f.outs:=by
   unfold chkA
   by_cases hp:0<f.lets.length
   ·(rw[if_pos hp,List.drop_zero])<;>(cases chkL dim pars f.lets 0 f.lets<;>rfl)
   ·have e1:f.lets=[]:=List.length_eq_zero_iff.1 (by omega)
    rw[if_neg hp,Nat.zero_sub,List.drop_zero,e1,chkL]
  rw[e0]at hlo
  obtain⟨X,hX⟩:∃X,X=(match chkL dim pars f.lets 0 f.lets with
    | some q=>some q
    | none=>chkO dim pars f.lets.length 0 f.outs):=⟨_,rfl⟩
  rw[←hX]at hlo
  change callF T 469 _=some (fltQ (match chkL dim pars f.lets 0 f.lets with
    | some q=>some q
    | none=>chkO dim pars f.lets.length 0 f.outs))
  rw[←hX]
  clear hX e0 hn hs hz hW
  unfold stQ hpQ endQa at hlo
  generalize sizeD f=S at *
  generalize codesD f=C at *
  obtain⟨L,O⟩:=f
  dsimp only at *
  have k1:¬ dim<1:=by omega
  have k2:¬ 6<dim:=by omega
  have k3:¬ pars<0:=by omega
  have k4:¬ 6<pars:=by omega
  have k6:¬ (10:Int)<L.length:=by omega
  have k6':¬ 10<L.length:=by omega
  have k7:¬ (300:Int)<S:=by omega
  have k7':¬ 300<S:=by omega
  simp only[Int.natCast_zero]at hlo
  rw[f469 _ rfl,b469]
  unfold fltQ
  obtain _ | ⟨a,b,c⟩:=X
  ·dsimp only at hlo ⊢
   simp -implicitDefEqProofs[k1,k2,k3,k4,g5,k6,k6',k7,k7',cs,cc,hlo]
  ·dsimp only at hlo ⊢
   simp -implicitDefEqProofs[k1,k2,k3,k4,g5,k6,k6',k7,k7',cs,cc,hlo]
 | false=>
  rw[if_pos rfl]
  have hW2:¬ (1≤dim∧dim≤6∧0≤pars∧pars≤6∧(f.outs.length:Int)=dim∧f.lets.length≤10∧sizeD f≤300):=by simpa[whB]using hW
  unfold fltQ
  clear hn hs hz hW
  generalize sizeD f=S at *
  obtain⟨L,O⟩:=f
  dsimp only at *
  rw[f469 _ rfl,b469]
  by_cases k1:dim<1
  ·simp -implicitDefEqProofs[k1]
  by_cases k2:6<dim
  ·simp -implicitDefEqProofs[k1,k2]
  by_cases k3:pars<0
  ·simp -implicitDefEqProofs[k1,k2,k3]
  by_cases k4:6<pars
  ·simp -implicitDefEqProofs[k1,k2,k3,k4]
  by_cases k5:(O.length:Int)=dim
  ·by_cases k6:10<L.length
   ·have k6':(10:Int)<L.length:=by omega
    simp -implicitDefEqProofs[k1,k2,k3,k4,k5,k6,k6']
   ·have k6':¬ (10:Int)<L.length:=by omega
    have k7:300<S:=by omega
    have k7':(300:Int)<S:=by omega
    simp -implicitDefEqProofs[k1,k2,k3,k4,k5,k6,k6',k7,k7',cs]
  ·simp -implicitDefEqProofs[k1,k2,k3,k4,k5]
variable[CLaw21 T]
end
def stRo(f:Fd)(i:Nat):St:=
 ⟨[(1,.ptr (.loc 1) 1 2 0 0),(4,.bs (.loc 4) 2 1 0 i),(5,.i .i64 ((allE (tabF f) (f.outs.take i):Nat):Int)),(6,.i .i64 (i:Int))],
  [(.loc 1,⟨1,.str,2,[[.sl (rowLt f.lets) .an,.sl (rowC f.outs) .an]]⟩),(.loc 4,⟨2,.own,1,rowC ((f.outs.take i).map (inE (tabF f)))⟩)],4⟩
def endRo(f:Fd):Option (Ex×St):=
 if allE (tabF f) f.outs≤1200 then some (.n,⟨[(4,.bs (.loc 4) 1 1 0 f.outs.length)],[(.loc 4,⟨1,.own,1,rowC (outsP f)⟩)],3⟩)
 else some (.r,⟨[(2,.sl [] .an),(3,.b false)],[],2⟩)
theorem zs1(E:List (List Nd))(O:List (List Nd))(c:List Nd):allE E (O++[c])=allE E O+(inE E c).length:=by simp[allE]
theorem zk0(E:List (List Nd))(O:List (List Nd))(i:Nat):allE E (O.take i)≤allE E O:=by
 conv=>rhs;rw[←List.take_append_drop i O]
 unfold allE
 rw[List.map_append,List.sum_append]
 omega
section
variable{T:Tbl}[CRef02 T][CRef04 T][CRef05 T][CRef07 T][CRef16 T][CRef17 T][CRef19 T][CFine T][CRef22 T]
theorem zpr(f:Fd)(dim pars:Int)(h1:f.lets.length≤100000)(h2:f.outs.length≤100000)(hn:thinD 1000 50000 f)(hz:sizeD f≤4294967295)(hs:∀x∈f.lets,x.name.length≤4000) :
  callF T 682 [efd f,.i .i64 dim,.i .i64 pars]=some (.b (decide (chkD f dim pars=none))):=by
 have c:=zmp (T:=T) f dim pars h1 h2 hn hz hs
 generalize chkD f dim pars=q at *
 obtain⟨L,O⟩:=f
 dsimp only at *
 clear hn hz hs
 unfold fltQ at c
 rw[f682 _ rfl,b682]
 cases q with
 | none=>simp -implicitDefEqProofs[c]
 | some q=>
  obtain⟨q1,q2,q3⟩:=q
  simp -implicitDefEqProofs[c]
theorem zid(f:Fd)(h1:f.lets.length≤100000)(h2:f.outs.length≤100000)(hn:thinD 1000 50000 f)(hz:sizeD f≤4294967295)(hs:∀x∈f.lets,x.name.length≤4000) :
  callF T 680 [efd f]=some (.b (decide (chkD f f.outs.length 6=none))):=by
 have c:=zpr (T:=T) f f.outs.length 6 h1 h2 hn hz hs
 generalize decide (chkD f f.outs.length 6=none)=q at *
 obtain⟨L,O⟩:=f
 dsimp only at *
 clear hn hz hs
 rw[f680 _ rfl,b680]
 simp -implicitDefEqProofs[c]
theorem zgx(f:Fd)(h2:f.outs.length≤100000)(hL:refT (f.lets.map (·.code)))(hn:∀x∈f.lets,x.code.length≤100000∧thin 100000 x.code)
  (hb:∀c∈f.outs,refB f.lets.length c∧c.length≤100000∧thin 100000 c) :
  loopN T 0 0 (.norm false [4]) l673_0 (stRo f 0)=endRo f:=by
 refine zan (T:=T) (k:=0) (id:=0) (g2:=.norm false [4]) (c:=l673_0) (fun i=>stRo f i) (fun i=>i≤f.outs.length∧allE (tabF f) (f.outs.take i)≤1200) (fun i=>f.outs.length-i) (fun _=>endRo f) ?_ 0 ⟨Nat.zero_le _,by simp[allE]⟩
 rintro i ⟨hi0,hA⟩
 by_cases hi:i<f.outs.length
 ·obtain⟨c,hx,hmem⟩:∃c,f.outs[i]? = some c∧c∈f.outs:=⟨f.outs[i]'hi,List.getElem?_eq_getElem hi,List.getElem_mem hi⟩
  obtain⟨_,hge⟩:=List.getElem?_eq_some_iff.1 hx
  have hlt':(i:Int)<f.outs.length:=by omega
  have hws:=zal hi (by omega)
  obtain⟨b1,b2,b3⟩:=hb c hmem
  have hcl:=zs0 (T:=T) f.lets hL hn c b1 b2 b3 (1200-allE (tabF f) (f.outs.take i)) (by omega)
  have hsn:allE (tabF f) (f.outs.take (i+1))=allE (tabF f) (f.outs.take i)+(inE (tabF f) c).length:=by rw[List.take_add_one,hx,Option.toList_some,zs1]
  have hle:=zk0 (tabF f) f.outs (i+1)
  have hmap:(f.outs.take (i+1)).map (inE (tabF f))=(f.outs.take i).map (inE (tabF f))++[inE (tabF f) c]:=by rw[List.take_add_one,hx,Option.toList_some,List.map_append,List.map_singleton]
  have hap:=zep ((f.outs.take i).map (inE (tabF f))) (inE (tabF f) c)
  rw[←hmap]at hap
  have hlen:((f.outs.take i).map (inE (tabF f))).length=i:=by rw[List.length_map,List.length_take];omega
  have htk:(rowC ((f.outs.take i).map (inE (tabF f)))).take i=rowC ((f.outs.take i).map (inE (tabF f))):=List.take_of_length_le (by rw[zcv];omega)
  have hi32:i+1≤4294967296:=by omega
  have hws2:IntKind.wrap .i64 (1200-((allE (tabF f) (f.outs.take i):Nat):Int))=((1200-allE (tabF f) (f.outs.take i):Nat):Int):=by rw[zac _ (by omega)];omega
  by_cases hf:allE (tabF f) (f.outs.take (i+1))≤1200
  ·left
   refine⟨i+1,⟨hi,hf⟩,by omega,?_,rfl⟩
   have hfull:(inE (tabF f) c).take (1200-allE (tabF f) (f.outs.take i)+1)=inE (tabF f) c:=List.take_of_length_le (by omega)
   change callF T 672 [_,_,_]=some (.sl (rowN ((inE (tabF f) c).take _)) .an) at hcl
   rw[hfull]at hcl
   have hwa:IntKind.wrap .i64 (((allE (tabF f) (f.outs.take i):Nat):Int)+((inE (tabF f) c).length:Int))=((allE (tabF f) (f.outs.take (i+1)):Nat):Int):=by rw[zac _ (by omega)];omega
   have hfI:¬ (1200:Int)<((allE (tabF f) (f.outs.take (i+1)):Nat):Int):=by omega
   unfold stRo
   generalize (f.outs.take (i+1)).map (inE (tabF f))=R1 at *
   generalize (f.outs.take i).map (inE (tabF f))=R at *
   generalize allE (tabF f) (f.outs.take (i+1))=A1 at *
   generalize allE (tabF f) (f.outs.take i)=A at *
   generalize inE (tabF f) c=v at *
   obtain⟨L,O⟩:=f
   dsimp only at *
   simp -implicitDefEqProofs[l673_0,hi,hlt',hx,hge,hws,hcl,hap,hlen,hi32,htk,hws2,hwa,hfI]
  ·right
   have hend:endRo f=some (.r,⟨[(2,.sl [] .an),(3,.b false)],[],2⟩):=by unfold endRo;rw[if_neg (by omega)]
   rw[hend]
   change callF T 672 [_,_,_]=some (.sl (rowN ((inE (tabF f) c).take _)) .an) at hcl
   have hln:((inE (tabF f) c).take (1200-allE (tabF f) (f.outs.take i)+1)).length=1200-allE (tabF f) (f.outs.take i)+1:=by rw[List.length_take];omega
   have hwa:IntKind.wrap .i64 (((allE (tabF f) (f.outs.take i):Nat):Int)+(((inE (tabF f) c).take (1200-allE (tabF f) (f.outs.take i)+1)).length:Int))=1201:=by rw[hln,zac _ (by omega)];omega
   unfold stRo
   generalize (f.outs.take i).map (inE (tabF f))=R at *
   generalize (inE (tabF f) c).take (1200-allE (tabF f) (f.outs.take i)+1)=v at *
   generalize allE (tabF f) (f.outs.take i)=A at *
   obtain⟨L,O⟩:=f
   dsimp only at *
   clear hn hb hend
   constructor<;>simp -implicitDefEqProofs[l673_0,hi,hlt',hx,hge,hws,hcl,hws2,hwa]
 ·right
  have hio:i=f.outs.length:=by omega
  subst hio
  rw[List.take_length]at hA
  unfold endRo stRo outsP
  rw[if_pos hA,List.take_length]
  constructor<;>simp -implicitDefEqProofs[l673_0]
theorem zps(f:Fd)(h1:f.lets.length≤100000)(h2:f.outs.length≤100000)(hn:thinD 1000 50000 f)(hz:sizeD f≤4294967295)(hs:∀x∈f.lets,x.name.length≤4000) :
  callF T 673 [efd f]=some (.tup [.sl (rowC (if hasP f then outsP f else [])) .an,.b (hasP f)]):=by
 have cm:=zid (T:=T) f h1 h2 hn hz hs
 unfold hasP
 by_cases hq:chkD f f.outs.length 6=none
 ·have hF:=zem hq
  have hlL:∀x∈f.lets,x.code.length≤100000∧thin 100000 x.code:=fun x hx=>by
   have:=hn x.code (zdk hx)
   exact⟨by omega,fun y hy=>by have:=this.2 y hy;omega⟩
  have hlO:∀c∈f.outs,refB f.lets.length c∧c.length≤100000∧thin 100000 c:=fun c hc=>by
   have:=hn c (zbx hc)
   exact⟨hF.refB c hc,by omega,fun y hy=>by have:=this.2 y hy;omega⟩
  have cl:=zgx (T:=T) f h2 hF.refT hlL hlO
  rw[decide_eq_true hq]at cm ⊢
  unfold stRo endRo at cl
  rw[show allE (tabF f) (f.outs.take 0)=0 from rfl]at cl
  have hol:(outsP f).length=f.outs.length:=by simp[outsP]
  have htk:(outsP f).take f.outs.length=outsP f:=List.take_of_length_le (by omega)
  by_cases hA:allE (tabF f) f.outs≤1200
  ·rw[if_pos hA]at cl
   rw[decide_eq_true hA]
   generalize outsP f=R at *
   obtain⟨L,O⟩:=f
   dsimp only at *
   clear hn hz hs hF hlL hlO hq hA
   rw[f673 _ rfl,b673]
   simp -implicitDefEqProofs at cl
   simp -implicitDefEqProofs[cm,cl,htk,hol]
  ·rw[if_neg hA]at cl
   rw[decide_eq_false hA]
   obtain⟨L,O⟩:=f
   dsimp only at *
   clear hn hz hs hF hlL hlO hq hA
   rw[f673 _ rfl,b673]
   simp -implicitDefEqProofs at cl
   simp -implicitDefEqProofs[cm,cl]
 ·rw[decide_eq_false hq]at cm ⊢
  obtain⟨L,O⟩:=f
  dsimp only at *
  clear hn hz hs hq
  rw[f673 _ rfl,b673]
  simp -implicitDefEqProofs[cm]
end
abbrev hpRu(f:Fd)(V:List Nat):Heap:=[(.loc 1,⟨1,.str,2,[[.sl (rowLt f.lets) .an,.sl (rowC f.outs) .an]]⟩),(.loc 13,⟨2,.own,1,natR V⟩)]
def stRu0(f:Fd)(V:List Nat)(l:List (List Nd))(i n k t j:Nat):St:=
 ⟨[(1,.ptr (.loc 1) 1 2 0 0),(3,.bs (.loc 13) 2 1 0 V.length),(4,.i .i64 (i:Int)),(5,.sl (rowC l) .an),(6,.i .i64 (n:Int)),(7,.i .i64 (k:Int)),(8,.i .i64 (t:Int)),(9,.i .i64 (j:Int))],hpRu f V,4⟩
def stRu1(f:Fd)(V:List Nat)(l:List (List Nd))(i n k:Nat):St:=
 ⟨[(1,.ptr (.loc 1) 1 2 0 0),(3,.bs (.loc 13) 2 1 0 V.length),(4,.i .i64 (i:Int)),(5,.sl (rowC l) .an),(6,.i .i64 (n:Int)),(7,.i .i64 (k:Int))],hpRu f V,4⟩
def stRu2(f:Fd)(V:List Nat)(i:Int):St:=
 ⟨[(1,.ptr (.loc 1) 1 2 0 0),(3,.bs (.loc 13) 2 1 0 V.length),(4,.i .i64 i)],hpRu f V,4⟩
theorem zu1(j:Nat)(c:List Nd)(x:Nd):occ j (c++[x])=occ j c+if x.op=5∧x.i=(j:Int) then 1 else 0:=by
 unfold occ
 rw[List.filter_append,List.length_append]
 by_cases h:x.op=5∧x.i=(j:Int)
 ·rw[if_pos h];simp[h.1,h.2]
 ·rw[if_neg h]
  rw[List.filter_cons,if_neg (by simpa using h)]
  rfl
theorem zvx(j:Nat)(c:List Nd):occ j c≤c.length:=List.length_filter_le ..
section
variable{T:Tbl}[CRef22 T]
theorem zmq(f:Fd)(V:List Nat)(l:List (List Nd))(i n k t:Nat)(c:List Nd)(hk:l[k]? = some c)(hc:c.length≤50000)(hn:n+50000*300≤1000000000000)(ht:t≤300) :
  loopN T 0 4 (.norm false [1,3,4,5,6,7]) l674_0 (stRu0 f V l i n k t 0)=some (.n,stRu1 f V l i (n+t*occ i c) k):=by
 obtain⟨hkl,hkg⟩:=List.getElem?_eq_some_iff.1 hk
 have hkI:(k:Int)<l.length:=by omega
 have hb:∀j,j≤c.length→n+t*occ i (c.take j)≤2000000000000:=fun j hj=>by
  have h1:=zvx i (c.take j)
  rw[List.length_take]at h1
  have h2:t*occ i (c.take j)≤300*50000:=Nat.mul_le_mul ht (by omega)
  omega
 have:=zae (T:=T) (k:=0) (id:=4) (g2:=.norm false [1,3,4,5,6,7]) (c:=l674_0) (fun j=>stRu0 f V l i (n+t*occ i (c.take j)) k t j) c.length
  (some (.n,stRu1 f V l i (n+t*occ i c) k)) (fun j hj=>?_) ?_
 ·simpa[show occ i []=0 from rfl]using this
 ·obtain⟨x,hx,hmem⟩:∃x,c[j]? = some x∧x∈c:=⟨c[j]'hj,List.getElem?_eq_getElem hj,List.getElem_mem hj⟩
  obtain⟨_,hge⟩:=List.getElem?_eq_some_iff.1 hx
  have hj':(j:Int)<c.length:=by omega
  have hws:=zal hj (by omega)
  have h1:=hb j (by omega)
  have h2:=hb (j+1) hj
  rw[List.take_add_one,hx,Option.toList_some,zu1]at h2 ⊢
  obtain⟨op,xi,nn⟩:=x
  dsimp only at h2 ⊢
  by_cases ho:op=5
  ·subst ho
   by_cases hi:xi=(i:Int)
   ·subst hi
    rw[if_pos ⟨rfl,rfl⟩,Nat.mul_add,Nat.mul_one,←Nat.add_assoc]at h2 ⊢
    generalize n+t*occ i (c.take j)=m at *
    have hw:IntKind.wrap .i64 ((m:Int)+(t:Int))=(m:Int)+(t:Int):=zac _ (by omega)
    unfold stRu0
    simp -implicitDefEqProofs[l674_0,hj,hj',hx,hge,hws,hk,hkl,hkg,hkI,hw]
   ·rw[if_neg (fun h=>hi h.2),Nat.add_zero]at h2 ⊢
    unfold stRu0
    simp -implicitDefEqProofs[l674_0,hj,hj',hx,hge,hws,hk,hkl,hkg,hkI,hi]
  ·rw[if_neg (fun h=>ho h.1),Nat.add_zero]at h2 ⊢
   unfold stRu0
   simp -implicitDefEqProofs[l674_0,hj,hj',hx,hge,hws,hk,hkl,hkg,hkI,ho]
 ·rw[List.take_length]
  unfold stRu0 stRu1
  constructor<;>simp -implicitDefEqProofs[l674_0,hk,hkl,hkg,hkI]
theorem zmr(f:Fd)(V:List Nat)(l:List (List Nd))(i:Nat)(hV:V.length=f.lets.length)(hle:∀u∈V,u≤300)(hil:i<f.lets.length)(hl:f.lets.length≤l.length)(hll:l.length≤200000)(hc:∀c∈l,c.length≤300) :
  loopN T 0 2 (.norm false [1,3,4,6]) l674_1 (stRu1 f V l i 0 (i+1))=some (.n,⟨[(1,.ptr (.loc 1) 1 2 0 0),(3,.bs (.loc 13) 2 1 0 V.length),(4,.i .i64 (i:Int)),(6,.i .i64 ((sumR V f.lets.length i l (l.length-(i+1)):Nat):Int))],hpRu f V,4⟩):=by
 have htm:∀k,tmR V f.lets.length k≤300:=fun k=>by
  unfold tmR
  split
  ·exact zjh hle k
  ·omega
 have hocc:∀k:Nat,occ i ((l[k]?).getD [])≤300:=fun k=>by
  cases h:l[k]? with
  | none=>simp[occ]
  | some c=>have:=zvx i c;have:=hc c (List.mem_of_getElem? h);simp only[Option.getD_some];omega
 have hb:∀d,sumR V f.lets.length i l d≤90000*d:=by
  intro d
  induction d with
  | zero=>exact Nat.le_refl _
  | succ d ih=>
   show sumR V f.lets.length i l d+tmR V f.lets.length (i+1+d)*occ i ((l[i+1+d]?).getD [])≤_
   have:tmR V f.lets.length (i+1+d)*occ i ((l[i+1+d]?).getD [])≤300*300:=Nat.mul_le_mul (htm _) (hocc _)
   omega
 have:=zae (T:=T) (k:=0) (id:=2) (g2:=.norm false [1,3,4,6]) (c:=l674_1) (fun d=>stRu1 f V l i (sumR V f.lets.length i l d) (i+1+d)) (l.length-(i+1))
  (some (.n,⟨[(1,.ptr (.loc 1) 1 2 0 0),(3,.bs (.loc 13) 2 1 0 V.length),(4,.i .i64 (i:Int)),(6,.i .i64 ((sumR V f.lets.length i l (l.length-(i+1)):Nat):Int))],hpRu f V,4⟩)) (fun d hd=>?_) ?_
 ·simpa[show sumR V f.lets.length i l 0=0 from rfl]using this
 ·have hkl:i+1+d<l.length:=by omega
  obtain⟨c,hx⟩:∃c,l[i+1+d]? = some c:=⟨_,List.getElem?_eq_getElem hkl⟩
  have hcm:=hc c (List.mem_of_getElem? hx)
  have h0:=zmq (T:=T) f V l i (sumR V f.lets.length i l d) (i+1+d) (tmR V f.lets.length (i+1+d)) c hx (by omega) (by have:=hb d;omega) (htm _)
  have hsn:sumR V f.lets.length i l (d+1)=sumR V f.lets.length i l d+tmR V f.lets.length (i+1+d)*occ i c:=by
   show sumR V f.lets.length i l d+tmR V f.lets.length (i+1+d)*occ i ((l[i+1+d]?).getD [])=_
   rw[hx];rfl
  rw[←hsn]at h0
  rw[show i+1+(d+1)=i+1+d+1 by omega]
  generalize hk:i+1+d=k at *
  have hkI:(k:Int)<l.length:=by omega
  have hws:=zal hkl (by omega)
  generalize sumR V f.lets.length i l (d+1)=m1 at *
  generalize sumR V f.lets.length i l d=m at *
  unfold stRu0 stRu1 at h0
  unfold stRu1
  by_cases hkn:k<f.lets.length
  ·have hkn':(k:Int)<f.lets.length:=by omega
   have hkV:k<V.length:=by omega
   have hkV':(k:Int)<V.length:=by omega
   obtain⟨v,hv⟩:∃v,V[k]? = some v:=⟨_,List.getElem?_eq_getElem hkV⟩
   obtain⟨_,hvg⟩:=List.getElem?_eq_some_iff.1 hv
   have ht:tmR V f.lets.length k=v:=by unfold tmR;rw[if_pos hkn,hv];rfl
   rw[ht]at h0
   obtain⟨L,O⟩:=f
   dsimp only at *
   simp -implicitDefEqProofs at h0
   simp -implicitDefEqProofs[l674_1,hkI,hkl,hws,hkn',hkV,hkV',hv,hvg,h0]
  ·have hkn':¬ (k:Int)<f.lets.length:=by omega
   have ht:tmR V f.lets.length k=1:=by unfold tmR;rw[if_neg hkn]
   rw[ht]at h0
   obtain⟨L,O⟩:=f
   dsimp only at *
   simp -implicitDefEqProofs at h0
   simp -implicitDefEqProofs[l674_1,hkI,hkl,hws,hkn',h0]
 ·have hk:i+1+(l.length-(i+1))=l.length:=by omega
  rw[hk]
  unfold stRu1
  constructor<;>simp -implicitDefEqProofs[l674_1]
variable[CRef17 T][CRef19 T]
theorem zms(f:Fd)(h1:f.lets.length≤100000)(h2:f.outs.length≤100000)(hc:∀c∈codesD f,c.length≤300)(hV:∀d,∀u∈rDown (f.lets.map (·.code)) f.outs d,u≤300) :
  loopN T 0 0 (.norm false [3]) l674_2 (stRu2 f (List.replicate f.lets.length 0) ((f.lets.length:Int)-1)) =
   some (.n,⟨[(3,.bs (.loc 13) 1 1 0 f.lets.length)],[(.loc 13,⟨1,.own,1,natR (rDown (f.lets.map (·.code)) f.outs f.lets.length)⟩)],3⟩):=by
 have hlm:(f.lets.map (·.code)).length=f.lets.length:=List.length_map ..
 have hlr:∀d,(rDown (f.lets.map (·.code)) f.outs d).length=f.lets.length:=fun d=>by rw[zcd,hlm]
 have:=zae (T:=T) (k:=0) (id:=0) (g2:=.norm false [3]) (c:=l674_2) (fun d=>stRu2 f (rDown (f.lets.map (·.code)) f.outs d) ((f.lets.length:Int)-1-(d:Int))) f.lets.length
  (some (.n,⟨[(3,.bs (.loc 13) 1 1 0 f.lets.length)],[(.loc 13,⟨1,.own,1,natR (rDown (f.lets.map (·.code)) f.outs f.lets.length)⟩)],3⟩)) (fun d hd=>?_) ?_
 ·rw[show (f.lets.length:Int)-1-((0:Nat):Int)=(f.lets.length:Int)-1 by omega]at this
  rw[show rDown (f.lets.map (·.code)) f.outs 0=List.replicate f.lets.length 0 by simp[rDown]]at this
  exact this
 ·have hi:f.lets.length-1-d<f.lets.length:=by omega
  have hVd:=hlr d
  have hle:=hV d
  have hup:rDown (f.lets.map (·.code)) f.outs (d+1)=(rDown (f.lets.map (·.code)) f.outs d).set (f.lets.length-1-d) (min (sumR (rDown (f.lets.map (·.code)) f.outs d) f.lets.length (f.lets.length-1-d) (codesD f) ((codesD f).length-(f.lets.length-1-d+1))) 300):=by
   show (rDown (f.lets.map (·.code)) f.outs d).set ((f.lets.map (·.code)).length-1-d) (min (sumR (rDown (f.lets.map (·.code)) f.outs d) (f.lets.map (·.code)).length ((f.lets.map (·.code)).length-1-d) (f.lets.map (·.code)++f.outs) ((f.lets.map (·.code)++f.outs).length-((f.lets.map (·.code)).length-1-d+1))) 300)=_
   rw[hlm]
   rfl
  have hset:=fun n=>zn2 (rDown (f.lets.map (·.code)) f.outs d) (f.lets.length-1-d) n
  rw[hup]
  generalize rDown (f.lets.map (·.code)) f.outs d=V at *
  have cc:=zdw (T:=T) f h1 h2
  have hcl:(codesD f).length=f.lets.length+f.outs.length:=by simp[codesD]
  have hm:=zmr (T:=T) f V (codesD f) (f.lets.length-1-d) hVd hle hi (by omega) (by omega) hc
  generalize codesD f=l at *
  generalize hie:f.lets.length-1-d=i at *
  generalize sumR V f.lets.length i l (l.length-(i+1))=m at *
  have hiI:(f.lets.length:Int)-1-(d:Int)=(i:Int):=by omega
  have hiI2:(f.lets.length:Int)-1-((d+1:Nat):Int)=(i:Int)-1:=by omega
  rw[hiI,hiI2]
  have hws:IntKind.wrap .i64 ((i:Int)-1)=(i:Int)-1:=zac _ (by omega)
  have hws2:IntKind.wrap .i64 ((i:Int)+1)=((i+1:Nat):Int):=by rw[zac _ (by omega)];omega
  have hi0:(0:Int)≤(i:Int):=by omega
  have hlt':(i:Int)<f.lets.length:=by omega
  have hlV:(i:Int)<V.length:=by omega
  have hvl:i<V.length:=by omega
  have hset2:=hset (min m 300)
  obtain⟨v,hv⟩:∃v,V[i]? = some v:=⟨_,List.getElem?_eq_getElem hvl⟩
  unfold stRu1 at hm
  unfold stRu2
  by_cases hmv:m≤300
  ·have hmn:min m 300=m:=by omega
   have hm2:¬ ((300:Int)<(m:Int)):=by omega
   rw[hmn]at hset2 ⊢
   obtain⟨L,O⟩:=f
   dsimp only at *
   simp -implicitDefEqProofs[hVd]at hm
   simp -implicitDefEqProofs[l674_2,hi0,hlt',hlV,hvl,hws,hws2,cc,hm,mm2,hm2,hset2,hVd,hv]
  ·have hmn:min m 300=300:=by omega
   have hm2:((300:Int)<(m:Int)):=by omega
   rw[hmn,show ((300:Nat):Int)=300 from rfl]at hset2
   rw[hmn]
   obtain⟨L,O⟩:=f
   dsimp only at *
   simp -implicitDefEqProofs[hVd]at hm
   simp -implicitDefEqProofs[l674_2,hi0,hlt',hlV,hvl,hws,hws2,cc,hm,mm2,hm2,hset2,hVd,hv]
 ·have hm:(f.lets.length:Int)-1-(f.lets.length:Int)=-1:=by omega
  have hVd:=hlr f.lets.length
  unfold stRu2
  rw[hm]
  generalize rDown (f.lets.map (·.code)) f.outs f.lets.length=V at *
  constructor<;>simp -implicitDefEqProofs[l674_2,hVd]
theorem zpt(f:Fd)(h1:f.lets.length≤100000)(h2:f.outs.length≤100000)(hF:FineD f f.outs.length 6) :
  callF T 674 [efd f]=some (.sl (natR (usesP f)) .an):=by
 have hO:∀c∈f.outs,∀x∈c,x.op=5→0≤x.i:=fun c hc x hx ho=>(hF.refB c hc x hx ho).1
 have hle:∀d,∀u∈rDown (f.lets.map (·.code)) f.outs d,u≤300:=by
  intro d
  induction d with
  | zero=>intro u hu;rw[List.eq_of_mem_replicate hu];omega
  | succ d ih=>
   intro u hu
   rcases List.mem_or_eq_of_mem_set hu with h | h
   ·exact ih u h
   ·omega
 have cl:=zms (T:=T) f h1 h2 hF.len hle
 rw[zto f hF.refT hO]at cl
 have hlen:(usesP f).length=f.lets.length:=by
  unfold usesP
  have:=zay (f.lets.map (·.code)) (uOut f.outs f.lets.length) (by rw[za4];simp) f.lets.length
  rw[this,List.length_map]
 have htk:(natR (usesP f)).take f.lets.length=natR (usesP f):=List.take_of_length_le (by rw[zdv];omega)
 generalize usesP f=V at *
 have hz0:List.replicate f.lets.length [AV.i .i64 0]=natR (List.replicate f.lets.length 0):=by simp[natR]
 have hw:IntKind.wrap .i64 ((f.lets.length:Int)-1)=(f.lets.length:Int)-1:=zac _ (by omega)
 have hl4:(f.lets.length:Int)≤4294967296:=by omega
 unfold stRu2 hpRu at cl
 rw[List.length_replicate]at cl
 obtain⟨L,O⟩:=f
 dsimp only at *
 clear hF hO hle
 rw[f674 _ rfl,b674]
 simp -implicitDefEqProofs[cl,hz0,hw,htk,hl4,hlen]
end
abbrev hpRl(f:Fd):Heap:=[(.loc 1,⟨1,.str,2,[[.sl (rowLt f.lets) .an,.sl (rowC f.outs) .an]]⟩)]
def stRl0(f:Fd)(k j:Nat):St:=⟨[(1,.ptr (.loc 1) 1 2 0 0),(3,.i .i64 (k:Int)),(4,.i .i64 (j:Int))],hpRl f,3⟩
def stRl1(f:Fd)(k:Nat):St:=⟨[(1,.ptr (.loc 1) 1 2 0 0),(3,.i .i64 (k:Int))],hpRl f,3⟩
section
variable{T:Tbl}[CRef22 T]
theorem zmt(f:Fd)(k:Nat)(c:List Nd)(hk:f.outs[k]? = some c)(hc:c.length≤4294967296) :
  loopN T 0 2 (.norm false [1,3]) l675_0 (stRl0 f k 0)=if has5 c then some (.r,⟨[(2,.b true)],[],2⟩) else some (.n,stRl1 f k):=by
 obtain⟨hkl,hkg⟩:=List.getElem?_eq_some_iff.1 hk
 have hkI:(k:Int)<f.outs.length:=by omega
 have:=zaj (T:=T) (k:=0) (id:=2) (g2:=.norm false [1,3]) (c:=l675_0) (fun i=>stRl0 f k i) c.length
  (fun i=>if has5 (c.drop i) then some (.r,⟨[(2,.b true)],[],2⟩) else some (.n,stRl1 f k)) (fun i hi=>?_) ?_
 ·simpa using this
 ·obtain⟨x,hx,hmem⟩:∃x,c[i]? = some x∧x∈c:=⟨c[i]'hi,List.getElem?_eq_getElem hi,List.getElem_mem hi⟩
  obtain⟨_,hge⟩:=List.getElem?_eq_some_iff.1 hx
  have hd:c.drop i=x::c.drop (i+1):=by rw[List.drop_eq_getElem_cons hi,hge]
  have hlt':(i:Int)<c.length:=by omega
  have hws:=zal hi hc
  rw[hd]
  obtain⟨op,xi,n⟩:=x
  obtain⟨L,O⟩:=f
  dsimp only at *
  by_cases ho:op=5
  ·right
   subst ho
   have h5:has5 ({ op:=5,i:=xi,n:=n } :: c.drop (i+1))=true:=by simp[has5]
   rw[h5]
   unfold stRl0
   constructor<;>simp -implicitDefEqProofs[l675_0,hi,hlt',hx,hge,hws,hkI,hkl,hkg,hk]
  ·left
   have h5:has5 ({ op:=op,i:=xi,n:=n } :: c.drop (i+1))=has5 (c.drop (i+1)):=by simp[has5,ho]
   rw[h5]
   refine⟨?_,rfl⟩
   unfold stRl0
   simp -implicitDefEqProofs[l675_0,hi,hlt',hx,hge,hws,ho,hkI,hkl,hkg,hk]
 ·rw[List.drop_length]
  obtain⟨L,O⟩:=f
  dsimp only at *
  unfold stRl0 stRl1
  constructor<;>simp -implicitDefEqProofs[l675_0,has5,hkI,hkl,hkg,hk]
theorem zmu(f:Fd)(hO:f.outs.length≤100000)(hc:∀c∈f.outs,c.length≤4294967296) :
  loopN T 0 0 (.norm false [1]) l675_1 (stRl1 f 0)=if f.outs.any has5 then some (.r,⟨[(2,.b true)],[],2⟩) else some (.n,⟨[(1,.ptr (.loc 1) 1 2 0 0)],hpRl f,3⟩):=by
 have:=zaj (T:=T) (k:=0) (id:=0) (g2:=.norm false [1]) (c:=l675_1) (fun i=>stRl1 f i) f.outs.length
  (fun i=>if (f.outs.drop i).any has5 then some (.r,⟨[(2,.b true)],[],2⟩) else some (.n,⟨[(1,.ptr (.loc 1) 1 2 0 0)],hpRl f,3⟩)) (fun i hi=>?_) ?_
 ·simpa using this
 ·obtain⟨c,hx,hmem⟩:∃x,f.outs[i]? = some x∧x∈f.outs:=⟨f.outs[i]'hi,List.getElem?_eq_getElem hi,List.getElem_mem hi⟩
  obtain⟨_,hge⟩:=List.getElem?_eq_some_iff.1 hx
  have hd:f.outs.drop i=c::f.outs.drop (i+1):=by rw[List.drop_eq_getElem_cons hi,hge]
  have hlt':(i:Int)<f.outs.length:=by omega
  have hws:=zal hi (by omega)
  have hl:=zmt (T:=T) f i c hx (hc c hmem)
  unfold stRl0 stRl1 at hl
  rw[hd,List.any_cons]
  obtain⟨L,O⟩:=f
  dsimp only at *
  cases h5:has5 c with
  | true=>
   rw[h5,if_pos rfl]at hl
   right
   unfold stRl1
   simp -implicitDefEqProofs at hl
   constructor<;>simp -implicitDefEqProofs[l675_1,hi,hlt',hx,hge,hws,hl]
  | false=>
   rw[h5,if_neg (by decide)]at hl
   left
   refine⟨?_,by rw[Bool.false_or]⟩
   unfold stRl1
   simp -implicitDefEqProofs at hl
   simp -implicitDefEqProofs[l675_1,hi,hlt',hx,hge,hws,hl]
 ·rw[List.drop_length]
  obtain⟨L,O⟩:=f
  dsimp only at *
  unfold stRl1
  constructor<;>simp -implicitDefEqProofs[l675_1]
theorem zpu(f:Fd)(h2:f.outs.length≤100000)(hc:∀c∈f.outs,c.length≤4294967296):callF T 675 [efd f]=some (.b (letsB f)):=by
 have hl:=zmu (T:=T) f h2 hc
 unfold letsB
 rw[show (f.outs.any fun c=>c.any fun x=>decide (x.op=5))=f.outs.any has5 from rfl]
 generalize f.outs.any has5=b at *
 obtain⟨L,O⟩:=f
 dsimp only at *
 unfold stRl1 at hl
 rw[f675 _ rfl,b675]
 have hL:decide ((0:Int)<(L.length:Int))=decide (0<L.length):=decide_eq_decide.2 (by omega)
 cases b
 ·rw[if_neg (by decide)]at hl
  simp -implicitDefEqProofs at hl
  simp -implicitDefEqProofs[hl]
 ·rw[if_pos rfl]at hl
  simp -implicitDefEqProofs at hl
  simp -implicitDefEqProofs[hl]
end
section
variable{T:Tbl}[CSameI T]
theorem zk1(a:List Nat)(ha:a.length≤1000):callF T 591 [.sl (natR a) .an,.sl (natR a) .an]=some (.b true):=by
 have key:=zae (T:=T) (k:=0) (id:=0) (g2:=.norm false [5]) (c:=l591_0) (fun i=>⟨[(0,.sl (natR a) .an),(1,.sl (natR a) .an),(5,.b true),(6,.i .i64 (i:Int))],[],2⟩) a.length
  (some (.n,⟨[(5,.b true)],[],2⟩)) (fun i hi=>?_) ?_
 ·rw[show (((0:Nat):Int))=0 from rfl]at key
  rw[f591 _ rfl,b591]
  simp -implicitDefEqProofs[key]
 ·obtain⟨v,hx⟩:∃v,a[i]? = some v:=⟨_,List.getElem?_eq_getElem hi⟩
  obtain⟨_,hge⟩:=List.getElem?_eq_some_iff.1 hx
  have hi':(i:Int)<a.length:=by omega
  have hws:=zal hi (by omega)
  simp -implicitDefEqProofs[l591_0,hi,hi',hx,hge,hws]
 ·constructor<;>simp -implicitDefEqProofs[l591_0]
end
section
variable{T:Tbl}[CLaw17 T]
theorem znz(l:List Nd)(hl:l.length≤4294967295):callF T 13 [.sl (rowN l) .an]=some (.sl (rowN l) .an):=by
 have hlo:loopN T 0 0 (.norm false [3]) l13_0 ⟨[(0,.sl (rowN l) .an),(3,.bs (.loc 3) 1 3 0 0),(4,.i .i64 0)],[(.loc 3,⟨1,.own,3,[]⟩)],3⟩ =
   some (.n,⟨[(3,.bs (.loc 3) 1 3 0 l.length)],[(.loc 3,⟨1,.own,3,rowN l⟩)],3⟩):=by
  have:=zae (T:=T) (k:=0) (id:=0) (g2:=.norm false [3]) (c:=l13_0) (fun i=>⟨[(0,.sl (rowN l) .an),(3,.bs (.loc 3) 1 3 0 i),(4,.i .i64 (i:Int))],[(.loc 3,⟨1,.own,3,rowN (l.take i)⟩)],3⟩) l.length
   (some (.n,⟨[(3,.bs (.loc 3) 1 3 0 l.length)],[(.loc 3,⟨1,.own,3,rowN l⟩)],3⟩)) (fun i hi=>?_) ?_
  ·simpa using this
  ·have hg:l[i]? = some (l[i]'hi):=List.getElem?_eq_getElem hi
   have hi':(i:Int)<l.length:=by omega
   have hws:=zal hi (by omega)
   have hs:l.take (i+1)=l.take i++[l[i]'hi]:=by rw[List.take_succ_eq_append_getElem hi]
   have hp:=zg7 (n:=i) (show (l.take i).length=i by rw[List.length_take];omega) (l[i]'hi)
   have hle:i≤(l.take i).length:=by rw[List.length_take];omega
   have h32:i+1≤4294967296:=by omega
   rw[hs]
   generalize hx:l[i]'hi=x at *
   generalize l.take i=m at *
   obtain⟨op,j,n⟩:=x
   clear hs
   simp -implicitDefEqProofs[l13_0,hi,hi',hg,hx,hws,hp,hle,h32]
  ·constructor<;>simp -implicitDefEqProofs[l13_0]
 rw[f13 _ rfl,b13]
 simp -implicitDefEqProofs[hlo]
theorem zuk(l:List Nd)(hl:l.length≤4294967295):callF T 17 [.sl (rowN l) .an]=some (.sl (rowN l) .an):=by
 have hlo:loopN T 0 0 (.norm false [3]) l17_0 ⟨[(0,.sl (rowN l) .an),(3,.bs (.loc 3) 1 3 0 0),(4,.i .i64 0)],[(.loc 3,⟨1,.own,3,[]⟩)],3⟩ =
   some (.n,⟨[(3,.bs (.loc 3) 1 3 0 l.length)],[(.loc 3,⟨1,.own,3,rowN l⟩)],3⟩):=by
  have:=zae (T:=T) (k:=0) (id:=0) (g2:=.norm false [3]) (c:=l17_0) (fun i=>⟨[(0,.sl (rowN l) .an),(3,.bs (.loc 3) 1 3 0 i),(4,.i .i64 (i:Int))],[(.loc 3,⟨1,.own,3,rowN (l.take i)⟩)],3⟩) l.length
   (some (.n,⟨[(3,.bs (.loc 3) 1 3 0 l.length)],[(.loc 3,⟨1,.own,3,rowN l⟩)],3⟩)) (fun i hi=>?_) ?_
  ·simpa using this
  ·have hg:l[i]? = some (l[i]'hi):=List.getElem?_eq_getElem hi
   have hi':(i:Int)<l.length:=by omega
   have hws:=zal hi (by omega)
   have hs:l.take (i+1)=l.take i++[l[i]'hi]:=by rw[List.take_succ_eq_append_getElem hi]
   have hp:=zg7 (n:=i) (show (l.take i).length=i by rw[List.length_take];omega) (l[i]'hi)
   have hle:i≤(l.take i).length:=by rw[List.length_take];omega
   have h32:i+1≤4294967296:=by omega
   rw[hs]
   generalize hx:l[i]'hi=x at *
   generalize l.take i=m at *
   obtain⟨op,j,n⟩:=x
   clear hs
   simp -implicitDefEqProofs[l17_0,hi,hi',hg,hx,hws,hp,hle,h32]
  ·constructor<;>simp -implicitDefEqProofs[l17_0]
 rw[f17 _ rfl,b17]
 simp -implicitDefEqProofs[hlo]
end
theorem zo9(m:List (List Nd))(x:List Nd):wkL (rowC m++[[.sl (rowN x) .an]])=rowC (m++[x]):=by rw[zep,zmz]
theorem zma(m:List Lt)(x:Lt):wkL (rowLt m++[[.s x.name,.sl (rowN x.code) .an]])=rowLt (m++[x]):=by
 have:rowLt m++[celLt x]=rowLt (m++[x]):=zp3 m x
 rw[show [[AV.s x.name,.sl (rowN x.code) .an]]=[celLt x] from rfl,this,zva]
section
variable{T:Tbl}[CLaw17 T][CLaw21 T]
abbrev hpT(L:List Lt)(O:List (List Nd))(A:List Lt)(B:List (List Nd)):Heap:=
 [(.loc 1,⟨1,.str,2,[[.sl (rowLt L) .an,.sl (rowC O) .an]]⟩),(.loc 2,⟨2,.str,2,[[.sl [] .an,.sl [] .an]]⟩),
  (.loc 3,⟨3,.str,2,[[.bs ((BId.loc 3).fld 0) 4 2 0 A.length,.bs ((BId.loc 3).fld 1) 5 1 0 B.length]]⟩),((BId.loc 3).fld 0,⟨4,.own,2,rowLt A⟩),((BId.loc 3).fld 1,⟨5,.own,1,rowC B⟩)]
theorem zul(L:List Lt)(O:List (List Nd))(hn:∀x∈L,x.code.length≤4294967295)(h1:L.length≤100000) :
  loopN T 0 0 (.norm false [1,2,3]) l468_0 ⟨[(1,.ptr (.loc 1) 1 2 0 0),(2,.ptr (.loc 2) 2 2 0 0),(3,.ptr (.loc 3) 3 2 0 0),(4,.i .i64 ((0:Nat):Int))],hpT L O (L.take 0) [],7⟩ =
   some (.n,⟨[(1,.ptr (.loc 1) 1 2 0 0),(2,.ptr (.loc 2) 2 2 0 0),(3,.ptr (.loc 3) 3 2 0 0)],hpT L O L [],7⟩):=by
 refine zae (fun i=>⟨[(1,.ptr (.loc 1) 1 2 0 0),(2,.ptr (.loc 2) 2 2 0 0),(3,.ptr (.loc 3) 3 2 0 0),(4,.i .i64 ((i:Nat):Int))],hpT L O (L.take i) [],7⟩) L.length _ (fun i hi=>?_) ?_
 ·have hg:L[i]? = some (L[i]'hi):=List.getElem?_eq_getElem hi
  have hi':(i:Int)<L.length:=by omega
  have hws:=zal hi (by omega)
  have hs:L.take (i+1)=L.take i++[L[i]'hi]:=by rw[List.take_succ_eq_append_getElem hi]
  have hml:(L.take i).length=i:=by rw[List.length_take];omega
  have hp:=zma (L.take i) (L[i]'hi)
  have h32:i+1≤4294967296:=by omega
  have c:=znz (T:=T) (L[i]'hi).code (hn _ (List.getElem_mem hi))
  rw[hs]
  generalize hx:L[i]'hi=x at *
  generalize L.take i=m at *
  obtain⟨nm,code⟩:=x
  unfold hpT
  rw[List.length_append,hml]
  have ht:List.take i (rowLt m)=rowLt m:=List.take_of_length_le (by rw[zfb];omega)
  dsimp only at *
  clear hs hn
  simp -implicitDefEqProofs[l468_0,hi,hi',hg,hx,hws,hp,h32,c,hml,ht]
 ·rw[List.take_length]
  constructor<;>simp -implicitDefEqProofs[l468_0]
theorem zum(L:List Lt)(O:List (List Nd))(hn:∀c∈O,c.length≤4294967295)(h1:O.length≤100000) :
  loopN T 0 2 (.norm false [2,3]) l468_1 ⟨[(1,.ptr (.loc 1) 1 2 0 0),(2,.ptr (.loc 2) 2 2 0 0),(3,.ptr (.loc 3) 3 2 0 0),(5,.i .i64 ((0:Nat):Int))],hpT L O L (O.take 0),7⟩ =
   some (.n,⟨[(2,.ptr (.loc 2) 1 2 0 0),(3,.ptr (.loc 3) 2 2 0 0)],[(.loc 2,⟨1,.str,2,[[.sl [] .an,.sl [] .an]]⟩),
  (.loc 3,⟨2,.str,2,[[.bs ((BId.loc 3).fld 0) 3 2 0 L.length,.bs ((BId.loc 3).fld 1) 4 1 0 O.length]]⟩),((BId.loc 3).fld 0,⟨3,.own,2,rowLt L⟩),((BId.loc 3).fld 1,⟨4,.own,1,rowC O⟩)],6⟩):=by
 refine zae (fun i=>⟨[(1,.ptr (.loc 1) 1 2 0 0),(2,.ptr (.loc 2) 2 2 0 0),(3,.ptr (.loc 3) 3 2 0 0),(5,.i .i64 ((i:Nat):Int))],hpT L O L (O.take i),7⟩) O.length _ (fun i hi=>?_) ?_
 ·have hg:O[i]? = some (O[i]'hi):=List.getElem?_eq_getElem hi
  have hi':(i:Int)<O.length:=by omega
  have hws:=zal hi (by omega)
  have hs:O.take (i+1)=O.take i++[O[i]'hi]:=by rw[List.take_succ_eq_append_getElem hi]
  have hml:(O.take i).length=i:=by rw[List.length_take];omega
  have hp:=zo9 (O.take i) (O[i]'hi)
  have h32:i+1≤4294967296:=by omega
  have c:=znz (T:=T) (O[i]'hi) (hn _ (List.getElem_mem hi))
  rw[hs]
  generalize hx:O[i]'hi=x at *
  generalize O.take i=m at *
  unfold hpT
  rw[List.length_append,hml]
  have ht:List.take i (rowC m)=rowC m:=List.take_of_length_le (by rw[zcv];omega)
  clear hs hn
  simp -implicitDefEqProofs[l468_1,hi,hi',hg,hx,hws,hp,h32,c,hml,ht]
 ·rw[List.take_length]
  constructor<;>simp -implicitDefEqProofs[l468_1]
theorem zi4(f:Fd)(hn:∀c∈codesD f,c.length≤4294967295)(h1:f.lets.length≤100000)(h2:f.outs.length≤100000):callF T 468 [efd f]=some (efd f):=by
 obtain⟨L,O⟩:=f
 dsimp only at h1 h2
 have a:=zul (T:=T) L O (fun x hx=>hn _ (List.mem_append.2 (.inl (List.mem_map.2 ⟨x,hx,rfl⟩)))) h1
 have b:=zum (T:=T) L O (fun c hc=>hn _ (List.mem_append.2 (.inr hc))) h2
 simp only[hpT,List.take_zero,List.length_nil,zta,zvg,Int.natCast_zero]at a b
 rw[f468 _ rfl,b468]
 have e1:List.take L.length (rowLt L)=rowLt L:=List.take_of_length_le (by rw[zfb];exact Nat.le_refl _)
 have e2:List.take O.length (rowC O)=rowC O:=List.take_of_length_le (by rw[zcv];exact Nat.le_refl _)
 simp -implicitDefEqProofs[a,b,e1,e2]
end
theorem zk9{l:List Nd}{many words:Nat}(h:lgN l many words=false):l.length≤many∧thin words l:=by
 unfold lgN at h
 have h1:l.length≤many:=by
  simp only[Bool.or_eq_false_iff,decide_eq_false_iff_not]at h
  omega
 refine⟨h1,fun x hx=>?_⟩
 rw[List.take_of_length_le h1]at h
 simp only[Bool.or_eq_false_iff,List.any_eq_false,decide_eq_true_eq]at h
 have:=h.2 x hx
 omega
theorem ztg{f:Fd}{many nodes words:Nat}(h:lgF f many nodes words=false):f.lets.length≤many∧f.outs.length≤many∧(∀x∈f.lets,x.name.length≤100)∧∀c∈codesD f,c.length≤nodes∧thin words c:=by
 unfold lgF at h
 simp only[Bool.or_eq_false_iff,decide_eq_false_iff_not,List.any_eq_false]at h
 obtain⟨⟨⟨h1,h2⟩,h3⟩,h4⟩:=h
 refine⟨by omega,by omega,fun x hx=>?_,fun c hc=>?_⟩
 ·have:=h3 x hx
  unfold lgL at this
  simp only[Bool.or_eq_true,decide_eq_true_eq,not_or]at this
  omega
 ·rcases List.mem_append.1 hc with hc | hc
  ·obtain⟨x,hx,rfl⟩:=List.mem_map.1 hc
   have:=h3 x hx
   unfold lgL at this
   simp only[Bool.or_eq_true,not_or,Bool.not_eq_true]at this
   exact zk9 this.2
  ·have:=h4 c hc
   simp only[Bool.not_eq_true]at this
   exact zk9 this
theorem zp6{l:List (List Nd)}{B:Nat}(h:∀c∈l,c.length≤B):(l.map List.length).sum≤l.length*B:=by
 induction l with
 | nil=>simp
 | cons c r ih=>
  have h1:=h c (by simp)
  have h2:=ih fun d hd=>h d (by simp[hd])
  rw[List.map_cons,List.sum_cons,List.length_cons,Nat.succ_mul]
  omega
def stOu(R:List (List Nd))(i:Nat):St:=
 ⟨[(4,.sl (rowC R) .an),(6,.ptr (.loc 6) 1 2 0 0),(8,.sl (rowC R) .an),(11,.i .i64 (i:Int))],[(.loc 6,⟨1,.str,2,[[.sl [] .an,.sl (rowC R) .an]]⟩)],3⟩
section
variable{T:Tbl}[CPlain T][CTree T][CTree2 T][CText T][CLenD T][CLimb T][CNat T][CJoin T][CLex T][CCheck T][CLaw22 T]
 [CRef02 T] [CRef04 T] [CRef05 T] [CRef07 T] [CRef16 T] [CRef17 T] [CRef19 T] [CFine T] [CRef22 T] [CSameI T] [CLaw17 T] [CLaw21 T]
theorem zpa(R:List (List Nd))(hR:R.length≤100000)(hc:∀c∈R,c.length≤100000∧thin 1000 c):loopN T 0 0 (.norm false []) l669_0 (stOu R 0)=some (.n,⟨[],[],2⟩):=by
 refine zae (T:=T) (k:=0) (id:=0) (g2:=.norm false []) (c:=l669_0) (fun i=>stOu R i) R.length _ (fun i hi=>?_) ?_
 ·obtain⟨c,hx,hmem⟩:∃x,R[i]? = some x∧x∈R:=⟨R[i]'hi,List.getElem?_eq_getElem hi,List.getElem_mem hi⟩
  obtain⟨_,hge⟩:=List.getElem?_eq_some_iff.1 hx
  have hlt':(i:Int)<R.length:=by omega
  have hws:=zal hi (by omega)
  obtain⟨k1,k2⟩:=hc c hmem
  have c1:=zuk (T:=T) c (by omega)
  have c2:=zpl (T:=T) c (by omega) k2
  unfold stOu
  simp -implicitDefEqProofs[l669_0,hi,hlt',hx,hge,hws,c1,c2]
 ·unfold stOu
  constructor<;>simp -implicitDefEqProofs[l669_0]
theorem zpb(f:Fd):callF T 669 [efd f]=some (.b true):=by
 have hw:=zmb (T:=T)
 have cl:=zmn (T:=T) f 12 60 9 (by decide) (by decide)
 simp only[Int.cast_ofNat_Int]at cl
 cases hL:lgF f 12 60 9 with
 | true=>
  rw[hL]at cl
  obtain⟨L,O⟩:=f
  rw[f669 _ rfl,b669]
  simp -implicitDefEqProofs[hw,cl]
 | false=>
 rw[hL]at cl
 obtain⟨g1,g2,g3,g4⟩:=ztg hL
 clear hL
 have hlen:(codesD f).length≤24:=by unfold codesD;rw[List.length_append,List.length_map];omega
 have hz:sizeD f≤4294967295:=by
  have:=zp6 (l:=codesD f) (B:=60) fun c hc=>(g4 c hc).1
  unfold sizeD
  have:=Nat.mul_le_mul_right 60 hlen
  omega
 have hn:thinD 1000 50000 f:=fun c hc=>⟨Nat.le_trans (g4 c hc).1 (by decide),fun u hu=>Nat.le_trans ((g4 c hc).2 u hu) (by decide)⟩
 have hs:∀u∈f.lets,u.name.length≤100000:=fun u hu=>Nat.le_trans (g3 u hu) (by decide)
 have hs4:∀u∈f.lets,u.name.length≤4000:=fun u hu=>Nat.le_trans (g3 u hu) (by decide)
 have hcO:∀c∈f.outs,c.length≤4294967296∧∀x∈c,x.n.length≤4294967296:=fun c hc=>by
  have:=hn c (zbx hc)
  exact⟨by omega,fun x hx=>by have:=this.2 x hx;omega⟩
 have t1:=zi4 (T:=T) f (fun c hc=>Nat.le_trans (g4 c hc).1 (by decide)) (by omega) (by omega)
 have p1:=zey (T:=T) f (by omega) (by omega) hn hz hs
 have p2:=zmg (T:=T) f (by omega) (by omega) hn hz hs
 have p3:=zh9 (T:=T) f (by omega) (by omega) hcO
 have p4:=zia (T:=T) f (by omega) (by omega) hn hz hs
 have r1:=zps (T:=T) f (by omega) (by omega) hn hz hs4
 have r2:=zid (T:=T) f (by omega) (by omega) hn hz hs4
 have r3:=zpu (T:=T) f (by omega) fun c hc=>(hcO c hc).1
 have hR:(if hasP f then outsP f else []).length≤100000∧∀c∈(if hasP f then outsP f else []),c.length≤100000∧thin 1000 c:=by
  cases hP:hasP f with
  | false=>exact⟨Nat.zero_le _,fun c hc=>by cases hc⟩
  | true=>
   rw[if_pos rfl]
   refine⟨by simp[outsP];omega,fun c hc=>?_⟩
   obtain⟨d,hd,rfl⟩:=List.mem_map.1 hc
   unfold hasP at hP
   rw[Bool.and_eq_true,decide_eq_true_eq,decide_eq_true_eq]at hP
   have:(inE (tabF f) d).length≤allE (tabF f) f.outs:=ze5 (List.mem_map.2 ⟨d,hd,rfl⟩)
   refine⟨by omega,zn9 (zti fun e he=>?_) ((hn d (zbx hd)).2)⟩
   obtain⟨x,hx,rfl⟩:=List.mem_map.1 he
   exact(hn x.code (zdk hx)).2
 have lo:=zpa (T:=T) _ hR.1 hR.2
 generalize (if hasP f then outsP f else [])=R at *
 generalize hasP f=B at *
 generalize letsB f=LB at *
 unfold stOu at lo
 rw[show (((0:Nat):Int))=0 from rfl]at lo
 by_cases hq:chkD f f.outs.length 6=none
 ·have hF:=zem hq
  have r4:=zpt (T:=T) f (by omega) (by omega) hF
  have hul:(usesP f).length≤1000:=by
   unfold usesP
   have:=zay (f.lets.map (·.code)) (uOut f.outs f.lets.length) (by rw[za4];simp) f.lets.length
   rw[this,List.length_map];omega
  have sm:=zk1 (T:=T) (usesP f) hul
  rw[decide_eq_true hq]at r2
  rw[if_pos hq]at p4
  generalize usesP f=U at *
  obtain⟨L,O⟩:=f
  dsimp only at *
  clear hn hz hs hs4 hcO hR hF hq g4 g3 hlen
  rw[f669 _ rfl,b669]
  simp -implicitDefEqProofs[hw,cl,t1,p1,p2,p3,p4,r1,r2,r3,r4,sm,lo]
 ·have sm:=zk1 (T:=T) [] (Nat.zero_le _)
  rw[decide_eq_false hq]at r2
  rw[if_neg hq]at p4
  obtain⟨L,O⟩:=f
  dsimp only at *
  clear hn hz hs hs4 hcO hR hq g4 g3 hlen
  rw[zut]at p4 sm
  rw[f669 _ rfl,b669]
  simp -implicitDefEqProofs[hw,cl,t1,p1,p2,p3,p4,r1,r2,r3,sm,lo]
end
end Go.Ab