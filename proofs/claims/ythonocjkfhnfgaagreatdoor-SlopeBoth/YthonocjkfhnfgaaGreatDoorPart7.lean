/-
  A calculus of values, boxes and code, and what functions of the program compute, proved in it.
  Conditions: none beyond those that the theorems state. (Part 7.)
-/
import Derived.Test.YthonocjkfhnfgaaGreatDoorPart6
import Derived.Lib.IndexAny
import Derived.Lib.Bytealg

set_option linter.unusedSectionVars false
set_option linter.unusedVariables false
set_option linter.unusedSimpArgs false
set_option linter.unnecessarySimpa false

namespace Go.Ab
theorem zno:∀(a b:List UInt32),a.length=b.length→val a=val b→a=b
 | [],[],_,_=>rfl
 | x::a,y::b,hl,hv=>by
  simp only[zau]at hv
  have hx:=zal x
  have hy:=zal y
  have h1:x.toNat=y.toNat:=by omega
  have h2:val a=val b:=by omega
  rw[UInt32.toNat_inj.1 h1,zno a b (by simpa using hl) h2]
 | [],_::_,hl,_=>by simp at hl
 | _::_,[],hl,_=>by simp at hl
theorem zfi{x y:Nat}:cmpN x y=0↔x=y:=by
 unfold cmpN
 split
 ·constructor
  ·intro h;omega
  ·intro h;omega
 ·split
  ·constructor
   ·intro h;omega
   ·intro h;omega
  ·constructor
   ·intro _;omega
   ·intro _;rfl
theorem ztp(z:Int):∀t:Nat,sg (decide (z<0)&&decide (t%2=1)) (z.natAbs^t)=z^t
 | 0=>by simp[sg]
 | t+1=>by
  have ih:=ztp z t
  have hz:sg (decide (z<0)) z.natAbs=z:=by
   unfold sg
   by_cases h:z<0
   ·simp only[h,decide_true,if_true];omega
   ·simp only[h,decide_false,Bool.false_eq_true,if_false];omega
  have hm:=zve (decide (z<0)&&decide (t%2=1)) (decide (z<0)) (z.natAbs^t) z.natAbs
  rw[ih,hz]at hm
  rw[Int.pow_succ,←hm,Nat.pow_succ]
  congr 1
  rcases Nat.mod_two_eq_zero_or_one t with h | h
  ·have h2:(t+1)%2=1:=by omega
   rw[h,h2]
   cases decide (z<0)<;>rfl
  ·have h2:(t+1)%2=0:=by omega
   rw[h,h2]
   cases decide (z<0)<;>rfl
theorem zfz{x L:Nat}(h:(ofN x).length≤L):∀t:Nat,(ofN (x^t)).length≤t*L+1
 | 0=>by rw[Nat.pow_zero,zf8];simp
 | t+1=>by
  have ih:=zfz h t
  have:=zbt ih h
  rw[Nat.pow_succ,Nat.succ_mul]
  omega
section
variable{T:Tbl}[CLimb T][CNat T][CProd T][CTwos T][CQuot T][CQuotD T][CWhole T][CCommon T][CFrac T][CFrac3 T]
theorem zqf(x:Fz)(hx:fsz x≤10000):callF T 208 [efz x]=some (.b (rightF x)):=by
 have hn:=zb9 (T:=T) x hx
 have hs:=za6 (x:=x) (L:=10000) hx (by decide)
 have l1:=zfo (fv x)
 have l2:=zfp (fv x)
 unfold rightF
 have e':fz (fv x)=(decide ((fv x).num<0),ofN (fv x).num.natAbs,ofN (fv x).den):=rfl
 rw[e']at hn ⊢
 obtain⟨n,a,d⟩:=x
 have la:=zd4 (n,a,d)
 have ld:=zei (n,a,d)
 simp only at la ld
 generalize decide ((fv (n,a,d)).num<0)=m at *
 generalize ofN (fv (n,a,d)).num.natAbs=b at *
 generalize ofN (fv (n,a,d)).den=e at *
 have c1:=zf1 (T:=T) a b (by omega) (by omega)
 have c2:=zf1 (T:=T) d e (by omega) (by omega)
 clear e' hs
 change callF T 207 [.agg [.b n,.sl (u32s a) .an,.sl (u32s d) .an]]=some (.agg [.b m,.sl (u32s b) .an,.sl (u32s e) .an]) at hn
 rw[f208 _ rfl,b208]
 by_cases h1:n=m
 case neg=>
  have hd:decide ((n,a,d)=(m,b,e))=false:=by simp[h1]
  have hb:(n == m)=false:=by simpa using h1
  rw[hd]
  simp -implicitDefEqProofs[hn,hb]
 subst h1
 by_cases h2:a.length=b.length
 case neg=>
  have hd:decide ((n,a,d)=(n,b,e))=false:=by
   have:a≠b:=fun h=>h2 (by rw[h])
   simp[this]
  have hb:((a.length:Int) == b.length)=false:=by simp;omega
  have hb':¬ (a.length:Int)=b.length:=by omega
  rw[hd]
  simp -implicitDefEqProofs[hn,hb,hb',h2]
 by_cases h3:d.length=e.length
 case neg=>
  have hd:decide ((n,a,d)=(n,b,e))=false:=by
   have:d≠e:=fun h=>h3 (by rw[h])
   simp[this]
  have hb:((d.length:Int) == e.length)=false:=by simp;omega
  have hb':¬ (d.length:Int)=e.length:=by omega
  rw[hd]
  simp -implicitDefEqProofs[hn,h2,hb,hb',h3]
 by_cases h4:val a=val b
 case neg=>
  have hd:decide ((n,a,d)=(n,b,e))=false:=by
   have:a≠b:=fun h=>h4 (by rw[h])
   simp[this]
  have hc:¬ cmpN (val a) (val b)=0:=fun h=>h4 (zfi.1 h)
  rw[hd]
  generalize cmpN (val a) (val b)=k at *
  simp -implicitDefEqProofs[hn,h2,h3,c1,hc]
 have hab:=zno a b h2 h4
 subst hab
 have hk:cmpN (val a) (val a)=0:=zfi.2 rfl
 rw[hk]at c1
 by_cases h5:val d=val e
 case neg=>
  have hd:decide ((n,a,d)=(n,a,e))=false:=by
   have:d≠e:=fun h=>h5 (by rw[h])
   simp[this]
  have hc:¬ cmpN (val d) (val e)=0:=fun h=>h5 (zfi.1 h)
  rw[hd]
  generalize cmpN (val d) (val e)=k at *
  simp -implicitDefEqProofs[hn,h3,c1,c2,hc]
 have hde:=zno d e h3 h5
 subst hde
 have hk2:cmpN (val d) (val d)=0:=zfi.2 rfl
 rw[hk2]at c2
 have hd:decide ((n,a,d)=(n,a,d))=true:=by simp
 rw[hd]
 simp -implicitDefEqProofs[hn,c1,c2]
def stPw(a:List UInt32)(k i:Nat):St:=⟨[(0,.sl (u32s a) .an),(5,.sl (u32s (ofN (val a^i))) .an),(7,.i .i64 k),(8,.i .i64 i)],[],2⟩
theorem zi5(a:List UInt32)(k:Nat)(hk:k≤8)(ha:a.length≤1100):callF T 219 [.sl (u32s a) .an,.i .i64 k]=some (.sl (u32s (ofN (val a^k))) .an):=by
 have h:loopN T 0 0 (.norm false [5]) l219_0 (stPw a k 0)=some (.n,⟨[(5,.sl (u32s (ofN (val a^k))) .an)],[],2⟩):=by
  refine za3 (stPw a k) k _ (fun i hi=>?_) ?_
  ·have hl:=zfz (L:=1100) (Nat.le_trans (zac a) ha) i
   have c:=zee (T:=T) (ofN (val a^i)) a (by omega) (by omega)
   rw[zag,←Nat.pow_succ]at c
   have hw:=zbx hi (by omega)
   unfold stPw
   generalize ofN (val a^i)=M at *
   generalize ofN (val a^(i+1))=M' at *
   simp -implicitDefEqProofs[l219_0,hi,hw,c]
  ·unfold stPw
   generalize ofN (val a^k)=M at *
   constructor<;>simp -implicitDefEqProofs[l219_0]
 have ho:=zgf (T:=T) 1 (by decide)
 unfold stPw at h
 rw[Nat.pow_zero]at h
 simp only[Int.natCast_zero]at h
 generalize ofN 1=O at *
 rw[f219 _ rfl,b219]
 generalize ofN (val a^k)=M at *
 simp -implicitDefEqProofs[ho,h]
def powR(q:Rat)(e:Int):Rat×Bool:=if -8≤e∧e≤8∧¬ (e<0∧q=0) then (powZ q e,true) else (0,false)
theorem z59(q:Rat)(t:Nat):fz (q^t)=(decide (q.num<0)&&decide (t%2=1)&&decide (q.num.natAbs^t≠0),ofN (q.num.natAbs^t),ofN (q.den^t)):=by
 have h:=ztp q.num t
 unfold fz
 rw[Rat.num_pow,Rat.den_pow,←h,zpf,zpg]
theorem z0p(q:Rat)(t:Nat)(hq:q≠0):fz (q^t)⁻¹=(decide (q.num<0)&&decide (t%2=1)&&decide (q.den^t≠0),ofN (q.den^t),ofN (q.num.natAbs^t)):=by
 have h:=ztp q.num t
 have hn:q.num≠0:=fun h=>hq (Rat.num_eq_zero.1 h)
 have hz:q.num^t≠0:=Int.pow_ne_zero hn
 have hd:q.den^t≠0:=Nat.pos_iff_ne_zero.1 (Nat.pow_pos q.den_pos)
 have ha:q.num.natAbs^t≠0:=Nat.pos_iff_ne_zero.1 (Nat.pow_pos (Int.natAbs_pos.2 hn))
 have e1:(q^t)⁻¹.num=(q.num^t).sign*((q.den^t:Nat):Int):=by rw[Rat.num_inv,Rat.num_pow,Rat.den_pow]
 have e2:(q^t)⁻¹.den=q.num.natAbs^t:=by rw[Rat.den_inv,Rat.num_pow,if_neg hz,Int.natAbs_pow]
 have e3:((q.num^t).sign*((q.den^t:Nat):Int)).natAbs=q.den^t:=by
  rw[Int.natAbs_mul,Int.natAbs_sign_of_ne_zero hz,Nat.one_mul,Int.natAbs_natCast]
 have e4:decide ((q.num^t).sign*((q.den^t:Nat):Int)<0)=decide (q.num^t<0):=by
  rw[decide_eq_decide]
  rcases Int.lt_trichotomy (q.num^t) 0 with h1 | h1 | h1
  ·rw[Int.sign_eq_neg_one_of_neg h1]
   constructor
   ·intro _;exact h1
   ·intro _;omega
  ·exact absurd h1 hz
  ·rw[Int.sign_eq_one_of_pos h1]
   constructor
   ·intro _;omega
   ·intro _;omega
 have e5:decide (q.num^t<0)=(decide (q.num<0)&&decide (t%2=1)):=by
  rw[←h,zpf,decide_eq_true ha,Bool.and_true]
 unfold fz
 rw[e1,e2,e3,e4,e5,decide_eq_true hd,Bool.and_true]
theorem zgs(x:Fz)(e:Int)(hx:fsz x≤1000):callF T 220 [efz x,.i .i64 e]=some (.tup [efz (fz (powR (fv x) e).1),.b (powR (fv x) e).2]):=by
 have h0:=zcy (T:=T)
 have hsg:=zlu (T:=T) x (by omega)
 have hn:=zb9 (T:=T) x (by omega)
 have hs:=za6 (x:=x) (L:=1000) hx (by decide)
 have l1:=zfo (fv x)
 have l2:=zfp (fv x)
 unfold powR
 rw[f220 _ rfl,b220]
 by_cases h1:e < -8
 ·rw[if_neg (by omega)]
  generalize fz 0=Z at *
  simp -implicitDefEqProofs[h0,h1]
 by_cases h2:8<e
 ·rw[if_neg (by omega)]
  generalize fz 0=Z at *
  simp -implicitDefEqProofs[h0,h1,h2]
 obtain⟨q,hq⟩:∃q,q=fv x:=⟨_,rfl⟩
 rw[←hq]at hsg hn hs l1 l2 ⊢
 clear hq
 have e':fz q=(decide (q.num<0),ofN q.num.natAbs,ofN q.den):=rfl
 rw[e']at hn
 have hA:(ofN q.num.natAbs).length≤1100:=by omega
 have hD:(ofN q.den).length≤1100:=by omega
 have pA:∀k:Nat,k≤8→callF T 219 [.sl (u32s (ofN q.num.natAbs)) .an,.i .i64 k]=some (.sl (u32s (ofN (q.num.natAbs^k))) .an):=fun k hk=>by
  have:=zi5 (T:=T) (ofN q.num.natAbs) k hk hA
  rwa [zag]at this
 have pD:∀k:Nat,k≤8→callF T 219 [.sl (u32s (ofN q.den)) .an,.i .i64 k]=some (.sl (u32s (ofN (q.den^k))) .an):=fun k hk=>by
  have:=zi5 (T:=T) (ofN q.den) k hk hD
  rwa [zag]at this
 have lA:∀k:Nat,k≤8→(ofN (q.num.natAbs^k)).length≤1000000:=fun k hk=>by
  have:=zfz hA k
  have:k*1100≤8*1100:=Nat.mul_le_mul_right _ hk
  omega
 have lD:∀k:Nat,k≤8→(ofN (q.den^k)).length≤1000000:=fun k hk=>by
  have:=zfz hD k
  have:k*1100≤8*1100:=Nat.mul_le_mul_right _ hk
  omega
 have hodd:∀k:Nat,k≤8→(((k:Int).tmod 2) == 1)=decide (k%2=1):=fun k hk=>by
  have e:(k:Int).tmod 2=((k%2:Nat):Int):=by rw[show (2:Int)=((2:Nat):Int) from rfl,←Int.ofNat_tmod]
  rw[e,Bool.eq_iff_iff]
  simp
  omega
 by_cases h3:e<0
 case neg=>
  obtain⟨n,rfl⟩:∃n:Nat,e=n:=⟨e.toNat,by omega⟩
  have hn8:n≤8:=by omega
  rw[if_pos (by omega)]
  have hw:IntKind.wrap .i64 (-(n:Int))=-(n:Int):=zad _ (by omega)
  have cA:=pA n hn8
  have cD:=pD n hn8
  have ho:=hodd n hn8
  have hnorm:=zf6 (T:=T) (decide (q.num<0)&&decide (n%2=1)) (ofN (q.num.natAbs^n)) (lA n hn8)
  rw[show wv (decide (q.num<0)&&decide (n%2=1)) (ofN (q.num.natAbs^n))=sg (decide (q.num<0)&&decide (n%2=1)) (q.num.natAbs^n) by unfold wv;rw[zag],zx0]at hnorm
  have hf:=z59 q n
  have hz:powZ q (n:Int)=q^n:=Rat.zpow_natCast q n
  simp only[hz]
  rw[hf]
  clear hf hz pA pD lA lD hodd hsg e'
  have h4:¬ (8:Int)<n:=by omega
  have h5:¬ ((n:Int) < -(n:Int)):=by omega
  have h6:¬ (n:Int)<0:=by omega
  have h1':¬ (n:Int) < -8:=by omega
  generalize ofN (q.num.natAbs^n)=AP at *
  generalize ofN (q.den^n)=DP at *
  generalize decide (q.num.natAbs^n≠0)=NZ at *
  generalize ofN q.num.natAbs=A at *
  generalize ofN q.den=D at *
  generalize decide (q.num<0)=NG at *
  generalize decide (n%2=1)=OD at *
  cases NG with
  | false=>
   simp only[Bool.false_and]at hnorm ⊢
   simp -implicitDefEqProofs[h0,hn,h4,h5,h6,h1',hw,mm2,cA,cD,ho,hnorm]
  | true=>
   simp only[Bool.true_and]at hnorm ⊢
   cases OD with
   | false=>simp -implicitDefEqProofs[h0,hn,h4,h5,h6,h1',hw,mm2,cA,cD,ho,hnorm]
   | true=>simp -implicitDefEqProofs[h0,hn,h4,h5,h6,h1',hw,mm2,cA,cD,ho,hnorm]
 by_cases h7:q=0
 ·rw[if_neg (by intro h;exact h.2.2 ⟨h3,h7⟩)]
  have hs0:sgQ q=0:=zfq.2 h7
  rw[hs0]at hsg
  generalize fz 0=Z at *
  have h4:¬ (8:Int)<e:=by omega
  simp -implicitDefEqProofs[h0,h1,h4,h3,hsg]
 rw[if_pos (by refine⟨by omega,by omega,fun h=>h7 h.2⟩)]
 obtain⟨n,rfl⟩:∃n:Nat,e=-(n:Int):=⟨(-e).toNat,by omega⟩
 have hn8:n≤8:=by omega
 have hsz:¬ sgQ q=0:=fun h=>h7 (zfq.1 h)
 have hw:IntKind.wrap .i64 (n:Int)=(n:Int):=zad _ (by omega)
 have cA:=pA n hn8
 have cD:=pD n hn8
 have ho:=hodd n hn8
 have hnorm:=zf6 (T:=T) (decide (q.num<0)&&decide (n%2=1)) (ofN (q.den^n)) (lD n hn8)
 rw[show wv (decide (q.num<0)&&decide (n%2=1)) (ofN (q.den^n))=sg (decide (q.num<0)&&decide (n%2=1)) (q.den^n) by unfold wv;rw[zag],zx0]at hnorm
 have hf:=z0p q n h7
 have hz:powZ q (-(n:Int))=(q^n)⁻¹:=by unfold powZ;rw[Rat.zpow_neg,Rat.zpow_natCast]
 simp only[hz]
 rw[hf]
 clear hf hz pA pD lA lD hodd e'
 have h4:¬ (8:Int) < -(n:Int):=by omega
 have h5:(-(n:Int)<(n:Int)):=by omega
 have h1':¬ -(n:Int) < -8:=by omega
 have h6:(n:Int)≠0:=by omega
 have h6':0<(n:Int):=by omega
 have h6'':0<n:=by omega
 have h1'':¬ 8<n:=by omega
 generalize ofN (q.num.natAbs^n)=AP at *
 generalize ofN (q.den^n)=DP at *
 generalize decide (q.den^n≠0)=NZ at *
 generalize ofN q.num.natAbs=A at *
 generalize ofN q.den=D at *
 generalize decide (q.num<0)=NG at *
 generalize decide (n%2=1)=OD at *
 generalize sgQ q=SG at *
 cases NG with
 | false=>
  simp only[Bool.false_and]at hnorm ⊢
  simp -implicitDefEqProofs[h0,hn,h3,h4,h5,h6,h6',h6'',h1',h1'',hw,mm2,cA,cD,ho,hnorm,hsg,hsz]
 | true=>
  simp only[Bool.true_and]at hnorm ⊢
  cases OD with
  | false=>simp -implicitDefEqProofs[h0,hn,h3,h4,h5,h6,h6',h6'',h1',h1'',hw,mm2,cA,cD,ho,hnorm,hsg,hsz]
  | true=>simp -implicitDefEqProofs[h0,hn,h3,h4,h5,h6,h6',h6'',h1',h1'',hw,mm2,cA,cD,ho,hnorm,hsg,hsz]
end
@[simp] theorem z1e(l:List Int):(ints l).length=l.length:=by simp[ints]
@[simp] theorem zaer(l:List Int):wkL (ints l)=ints l:=by rw[zbi];simp[ints,wkR,wkA]
@[simp] theorem z94(l:List Int)(i:Nat)(h:i<(ints l).length):(ints l)[i]=[.i .i64 (l[i]'(by simpa using h))]:=by simp[ints]
@[simp] theorem z6x(l:List Int)(n:Nat):(ints l).take n=ints (l.take n):=by simp[ints]
@[simp] theorem z95:ints []=[]:=rfl
section
variable{T:Tbl}[CLimb T][CNat T][CProd T][CTwos T][CQuot T][CQuotD T][CWhole T][CCommon T][CFrac T][CFrac3 T][CTape T]
theorem zci(i m:Int):callF T 435 [.i .i64 i,.i .i64 m]=some (.b (belowB i m)):=by
 rw[f435 _ rfl,b435]
 unfold belowB
 by_cases h:0≤i
 ·by_cases h2:i<m<;>simp -implicitDefEqProofs[h,h2]
 ·simp -implicitDefEqProofs[h]
theorem z1f(i:Ins):callF T 437 [.agg (celI i)]=some (.agg [.i .i64 i.op,.i .i64 i.a,.i .i64 i.b]):=by
 rw[f437 _ rfl,b437]
 simp -implicitDefEqProofs
theorem zq6(x:Fz)(hx:fsz x≤10000):callF T 438 [efz x]=some (.b (blankF x)):=by
 obtain⟨n,a,d⟩:=x
 rw[f438 _ rfl,b438]
 unfold blankF
 cases n with
 | true=>simp -implicitDefEqProofs
 | false=>
  by_cases h:a=[]
  ·subst h
   by_cases h2:d=[]
   ·subst h2
    simp -implicitDefEqProofs
   ·have e2:d.isEmpty=false:=by cases d<;>simp_all
    simp -implicitDefEqProofs[h2,e2]
  ·have e2:a.isEmpty=false:=by cases a<;>simp_all
   simp -implicitDefEqProofs[h,e2]
theorem zq7(i:Ins):callF T 439 [.agg (celI i)]=some (.sl (ints (readsI i)) .an):=by
 obtain⟨op,a,b,n⟩:=i
 rw[f439 _ rfl,b439]
 unfold readsI
 simp only
 by_cases h6:op=6
 ·subst h6
  simp -implicitDefEqProofs[ints]
 by_cases h11:op=11
 ·subst h11
  simp -implicitDefEqProofs[ints]
 rw[if_neg (by omega)]
 by_cases h7:op=7
 ·subst h7
  simp -implicitDefEqProofs[ints]
 by_cases h8:op=8
 ·subst h8
  simp -implicitDefEqProofs[ints]
 by_cases h9:op=9
 ·subst h9
  simp -implicitDefEqProofs[ints]
 by_cases h10:op=10
 ·subst h10
  simp -implicitDefEqProofs[ints]
 rw[if_neg (by omega)]
 simp -implicitDefEqProofs[h6,h7,h8,h9,h10,h11]
theorem zu4(i:Ins):(readsI i).length≤2:=by
 unfold readsI
 split
 ·simp
 ·split<;>simp
def stMy(t:Tp)(p:Nat)(x:Ins)(i:Nat):St:=
 ⟨[(1,.i .i64 p),(2,.ptr (.loc 2) 1 4 0 0),(5,.ptr (.loc 5) 2 6 0 0),(30,.sl (ints (readsI x)) .an),(31,.i .i64 (readsI x).length),(32,.i .i64 i)],
  [(.loc 2,⟨1,.str,4,[[.sl (rowI t.code) .an,.sl (ints t.outs) .an,.i .i64 t.dim,.i .i64 t.par]]⟩),(.loc 5,⟨2,.str,6,[celI x]⟩)],4⟩
theorem zxr(t:Tp)(p:Nat)(x:Ins):loopN T 0 0 (.norm false [2,5]) l434_0 (stMy t p x 0) =
  if ((readsI x).all fun r=>belowB r p)=true then some (.n,⟨[(2,.ptr (.loc 2) 1 4 0 0),(5,.ptr (.loc 5) 2 6 0 0)],
   [(.loc 2,⟨1,.str,4,[[.sl (rowI t.code) .an,.sl (ints t.outs) .an,.i .i64 t.dim,.i .i64 t.par]]⟩),(.loc 5,⟨2,.str,6,[celI x]⟩)],4⟩)
  else some (.r,⟨[(4,.b false)],[],2⟩):=by
 have hlen:=zu4 x
 refine zbm (stMy t p x) (readsI x).length (fun i=>if (((readsI x).drop i).all fun r=>belowB r p)=true then some (.n,_) else some (.r,_)) (fun i hi=>?_) ?_
 ·have hg:(readsI x)[i]? = some ((readsI x)[i]'hi):=List.getElem?_eq_getElem hi
  have hws:=zbx hi (by omega)
  have hd:(readsI x).drop i=(readsI x)[i]'hi::(readsI x).drop (i+1):=List.drop_eq_getElem_cons hi
  have cb:=zci (T:=T) ((readsI x)[i]'hi) p
  have hi':(i:Int)<(readsI x).length:=by omega
  by_cases hb:belowB ((readsI x)[i]'hi) p=true
  ·left
   rw[hb]at cb
   refine⟨?_,by rw[hd];simp only[List.all_cons,hb,Bool.true_and]⟩
   unfold stMy
   generalize readsI x=R at *
   simp -implicitDefEqProofs[l434_0,hi,hi',hg,hws,cb]
  ·right
   have hb':belowB ((readsI x)[i]'hi) p=false:=by simpa using hb
   rw[hb']at cb
   have hall:(((readsI x).drop i).all fun r=>belowB r p)=false:=by rw[hd,List.all_cons,hb'];rfl
   simp only[hall,Bool.false_eq_true,if_false]
   unfold stMy
   clear hall hd
   generalize readsI x=R at *
   constructor<;>simp -implicitDefEqProofs[l434_0,hi,hi',hg,cb]
 ·simp only[List.drop_length,List.all_nil,if_true]
  unfold stMy
  generalize readsI x=R at *
  constructor<;>simp -implicitDefEqProofs[l434_0]
theorem zxs(t:Tp)(p:Nat)(x:Ins)(hx:t.code[p]? = some x)(hf:fsz x.n≤10000)(hl:t.code.length≤4294967296):callF T 434 [etp t,.i .i64 p]=some (.b (mayI t.dim t.par p x)):=by
 have hp:=zat hx
 have hp2:(p:Int)<t.code.length:=by omega
 have ho:=z1f (T:=T) x
 have hbl:=zq6 (T:=T) x.n hf
 have hrd:=zq7 (T:=T) x
 have hlo:=zxr (T:=T) t p x
 have hrt:=zqf (T:=T) x.n hf
 unfold mayI
 unfold stMy at hlo
 simp only[Int.natCast_zero]at hlo
 have cy:=zci (T:=T) x.a t.dim
 have cp:=zci (T:=T) x.a t.par
 have hr2:(((readsI x).length:Int) == 2)=decide ((readsI x).length=2):=by
  rw[Bool.eq_iff_iff]
  simp
  omega
 rw[f434 _ rfl,b434]
 generalize readsI x=R at *
 generalize rightF x.n=RT at *
 generalize blankF x.n=BL at *
 generalize belowB x.a t.dim=B1 at *
 generalize belowB x.a t.par=B2 at *
 generalize (R.all fun r=>belowB r p)=AL at *
 obtain⟨code,outs,dim,par⟩:=t
 obtain⟨op,a,b,n⟩:=x
 dsimp only at hx hp hp2 ho hbl hrd hlo hrt cy cp ⊢
 have hxe:=(List.getElem?_eq_some_iff.1 hx).2
 clear hf hl
 by_cases h1:op=1
 ·subst h1
  by_cases ha:a=0
  ·subst ha
   by_cases hb:b=0
   ·subst hb
    simp -implicitDefEqProofs[hp,hp2,hx,hxe,ho,hrt]
   ·simp -implicitDefEqProofs[hp,hp2,hx,hxe,ho,hrt,hb]
  ·simp -implicitDefEqProofs[hp,hp2,hx,hxe,ho,hrt,ha]
 rw[if_neg h1]
 cases BL with
 | false=>simp -implicitDefEqProofs[hp,hp2,hx,hxe,h1,hbl]
 | true=>
 cases AL with
 | false=>
  simp only[Bool.false_eq_true,if_false]at hlo
  simp -implicitDefEqProofs[hp,hp2,hx,hxe,h1,hbl,hrd,hlo]
 | true=>
 simp only[if_true]at hlo
 by_cases h2:op=2
 ·subst h2
  by_cases ha:a=0
  ·subst ha
   by_cases hb:b=0
   ·subst hb
    simp -implicitDefEqProofs[hp,hp2,hx,hxe,ho,hbl,hrd,hlo]
   ·simp -implicitDefEqProofs[hp,hp2,hx,hxe,ho,hbl,hrd,hlo,hb]
  ·simp -implicitDefEqProofs[hp,hp2,hx,hxe,ho,hbl,hrd,hlo,ha]
 by_cases h3:op=3
 ·subst h3
  cases B1 with
  | false=>simp -implicitDefEqProofs[hp,hp2,hx,hxe,hbl,hrd,hlo,cy]
  | true=>
   by_cases hb:b=0
   ·subst hb
    simp -implicitDefEqProofs[hp,hp2,hx,hxe,hbl,hrd,hlo,cy]
   ·simp -implicitDefEqProofs[hp,hp2,hx,hxe,hbl,hrd,hlo,cy,hb]
 by_cases h4:op=4
 ·subst h4
  cases B2 with
  | false=>simp -implicitDefEqProofs[hp,hp2,hx,hxe,hbl,hrd,hlo,cp]
  | true=>
   by_cases hb:b=0
   ·subst hb
    simp -implicitDefEqProofs[hp,hp2,hx,hxe,hbl,hrd,hlo,cp]
   ·simp -implicitDefEqProofs[hp,hp2,hx,hxe,hbl,hrd,hlo,cp,hb]
 by_cases h6:op=6
 ·subst h6
  by_cases hb:b=0
  ·subst hb
   simp -implicitDefEqProofs[hp,hp2,hx,hxe,hbl,hrd,hlo]
  ·simp -implicitDefEqProofs[hp,hp2,hx,hxe,hbl,hrd,hlo,hb]
 by_cases h11:op=11
 ·subst h11
  by_cases hb:-8≤b
  ·by_cases hb2:b≤8
   ·simp -implicitDefEqProofs[hp,hp2,hx,hxe,hbl,hrd,hlo,hb,hb2]
   ·simp -implicitDefEqProofs[hp,hp2,hx,hxe,hbl,hrd,hlo,hb,hb2]
  ·simp -implicitDefEqProofs[hp,hp2,hx,hxe,hbl,hrd,hlo,hb]
 simp -implicitDefEqProofs[hp,hp2,hx,hxe,h1,h2,h3,h4,h6,h11,hbl,hrd,hlo,hr2]
end
section
variable{T:Tbl}[CLimb T][CNat T][CProd T][CTwos T][CQuot T][CQuotD T][CWhole T][CCommon T][CFrac T][CFrac3 T][CTape T]
structure Small (t:Tp):Prop where
 code:t.code.length≤4294967296
 outs:t.outs.length≤4294967296
 ns:∀i∈t.code,fsz i.n≤10000
 d1:-9223372036854775808≤t.dim
 d2:t.dim<9223372036854775808
theorem zq8(t:Tp)(hs:Small t):callF T 433 [etp t]=some (.b (wholeT t)):=by
 obtain⟨h1,h2,_,d1,d2⟩:=hs
 have c0:callF T 435 [.i .i64 (IntKind.wrap .i64 (t.dim-1)),.i .i64 6]=some (.b (belowB (t.dim-1) 6)):=by
  rw[zci]
  congr 2
  by_cases hm:t.dim=-9223372036854775808
  ·rw[hm]
   decide
  ·rw[zad _ (by omega)]
 have c1:=zci (T:=T) t.par 7
 unfold wholeT
 obtain⟨code,outs,dim,par⟩:=t
 dsimp only at *
 have e1:((outs.length:Int) == dim)=decide ((outs.length:Int)=dim):=rfl
 rw[f433 _ rfl,b433]
 generalize belowB (dim-1) 6=B1 at *
 generalize belowB par 7=B2 at *
 cases B1 with
 | false=>simp -implicitDefEqProofs[c0]
 | true=>
 cases B2 with
 | false=>simp -implicitDefEqProofs[c0,c1]
 | true=>
 by_cases ho:(outs.length:Int)=dim
 ·by_cases hc:code.length≤300
  ·have hc':(code.length:Int)≤300:=by omega
   simp -implicitDefEqProofs[c0,c1,ho,hc,hc']
  ·have hc':300<(code.length:Int):=by omega
   simp -implicitDefEqProofs[c0,c1,ho,hc,hc']
 ·simp -implicitDefEqProofs[c0,c1,ho]
def bxT(t:Tp):Box:=⟨1,.str,4,[[.sl (rowI t.code) .an,.sl (ints t.outs) .an,.i .i64 t.dim,.i .i64 t.par]]⟩
def stW1(t:Tp)(i:Nat):St:=⟨[(1,.ptr (.loc 1) 1 4 0 0),(11,.i .i64 t.code.length),(12,.i .i64 i)],[(.loc 1,bxT t)],3⟩
theorem znx(t:Tp)(hs:Small t):loopN T 0 0 (.norm false [1]) l430_0 (stW1 t 0) =
  if firstI t.dim t.par 0 t.code=-1 then some (.n,⟨[(1,.ptr (.loc 1) 1 4 0 0)],[(.loc 1,bxT t)],3⟩) else some (.r,⟨[(2,.i .i64 (firstI t.dim t.par 0 t.code))],[],2⟩):=by
 have hc:=hs.code
 have e0:t.code.drop 0=t.code:=rfl
 rw[←e0]
 refine zbm (stW1 t) t.code.length (fun i=>if firstI t.dim t.par i (t.code.drop i)=-1 then some (.n,_) else some (.r,⟨[(2,.i .i64 (firstI t.dim t.par i (t.code.drop i)))],[],2⟩)) (fun i hi=>?_) ?_
 ·have hg:t.code[i]? = some (t.code[i]'hi):=List.getElem?_eq_getElem hi
  have hws:=zbx hi (by omega)
  have hd:t.code.drop i=t.code[i]'hi::t.code.drop (i+1):=List.drop_eq_getElem_cons hi
  have cm:=zxs (T:=T) t i _ hg (hs.ns _ (List.getElem_mem hi)) hc
  have hi':(i:Int)<t.code.length:=by omega
  have hf:firstI t.dim t.par i (t.code.drop i)=if mayI t.dim t.par i (t.code[i]'hi) then firstI t.dim t.par (i+1) (t.code.drop (i+1)) else i:=by rw[hd];rfl
  by_cases hb:mayI t.dim t.par i (t.code[i]'hi)=true
  ·left
   rw[hb]at cm
   rw[if_pos hb]at hf
   refine⟨?_,by simp only[hf]⟩
   unfold stW1 bxT
   clear hf hd
   simp -implicitDefEqProofs[l430_0,hi,hi',hws,cm]
  ·right
   have hb':mayI t.dim t.par i (t.code[i]'hi)=false:=by simpa using hb
   rw[hb']at cm
   rw[if_neg hb]at hf
   have hne:¬ (i:Int)=-1:=by omega
   simp only[hf,if_neg hne]
   unfold stW1 bxT
   clear hf hd
   constructor<;>simp -implicitDefEqProofs[l430_0,hi,hi',cm]
 ·have hf:firstI t.dim t.par t.code.length (t.code.drop t.code.length)=-1:=by rw[List.drop_length];rfl
  simp only[hf,if_true]
  unfold stW1 bxT
  constructor<;>simp -implicitDefEqProofs[l430_0]
def stW2(t:Tp)(i:Nat):St:=⟨[(1,.ptr (.loc 1) 1 4 0 0),(22,.sl (ints t.outs) .an),(23,.i .i64 t.outs.length),(24,.i .i64 i)],[(.loc 1,bxT t)],3⟩
theorem zny(t:Tp)(hs:Small t):loopN T 0 2 (.norm false []) l430_1 (stW2 t 0) =
  if (t.outs.all fun o=>belowB o t.code.length)=true then some (.n,⟨[],[],2⟩) else some (.r,⟨[(2,.i .i64 t.code.length)],[],2⟩):=by
 have hc:=hs.outs
 refine zbm (stW2 t) t.outs.length (fun i=>if ((t.outs.drop i).all fun o=>belowB o t.code.length)=true then some (.n,_) else some (.r,_)) (fun i hi=>?_) ?_
 ·have hg:t.outs[i]? = some (t.outs[i]'hi):=List.getElem?_eq_getElem hi
  have hws:=zbx hi (by omega)
  have hd:t.outs.drop i=t.outs[i]'hi::t.outs.drop (i+1):=List.drop_eq_getElem_cons hi
  have cm:=zci (T:=T) (t.outs[i]'hi) t.code.length
  have hi':(i:Int)<t.outs.length:=by omega
  by_cases hb:belowB (t.outs[i]'hi) t.code.length=true
  ·left
   rw[hb]at cm
   refine⟨?_,by rw[hd];simp only[List.all_cons,hb,Bool.true_and]⟩
   unfold stW2 bxT
   clear hd
   simp -implicitDefEqProofs[l430_1,hi,hi',hg,hws,cm]
  ·right
   have hb':belowB (t.outs[i]'hi) t.code.length=false:=by simpa using hb
   rw[hb']at cm
   have hall:((t.outs.drop i).all fun o=>belowB o t.code.length)=false:=by rw[hd,List.all_cons,hb'];rfl
   simp only[hall,Bool.false_eq_true,if_false]
   unfold stW2 bxT
   clear hall hd
   constructor<;>simp -implicitDefEqProofs[l430_1,hi,hi',hg,cm]
 ·simp only[List.drop_length,List.all_nil,if_true]
  unfold stW2 bxT
  constructor<;>simp -implicitDefEqProofs[l430_1]
theorem zq9(t:Tp)(hs:Small t):callF T 430 [etp t]=some (.i .i64 (wrongT t)):=by
 have cw:=zq8 (T:=T) t hs
 have h1:=znx (T:=T) t hs
 have h2:=zny (T:=T) t hs
 unfold wrongT
 unfold stW1 bxT at h1
 unfold stW2 bxT at h2
 simp only[Int.natCast_zero]at h1 h2
 generalize hfi:firstI t.dim t.par 0 t.code=F at *
 generalize hal:(t.outs.all fun o=>belowB o t.code.length)=AL at *
 generalize hwt:wholeT t=W at *
 obtain⟨code,outs,dim,par⟩:=t
 dsimp only at *
 rw[f430 _ rfl,b430]
 cases W with
 | false=>simp -implicitDefEqProofs[cw]
 | true=>
 by_cases hf:F=-1
 ·subst hf
  cases AL with
  | false=>
   simp only[Bool.false_eq_true,if_false]at h2
   simp -implicitDefEqProofs[cw,h1,h2]
  | true=>
   simp only[if_true]at h1 h2
   simp -implicitDefEqProofs[cw,h1,h2]
 ·rw[if_neg hf]at h1
  simp -implicitDefEqProofs[cw,h1,hf]
theorem zcj(t:Tp)(hs:Small t):callF T 421 [etp t]=some (.b (okT t)):=by
 have cw:=zq9 (T:=T) t hs
 have e:(wrongT t == -1)=okT t:=rfl
 rw[f421 _ rfl,b421,←e]
 generalize wrongT t=W at *
 obtain⟨code,outs,dim,par⟩:=t
 simp -implicitDefEqProofs[cw]
end
def limI(n:Int):Int:=if n<0 then 0 else if 4096<n then 4096 else n
abbrev bxG(g:Nat)(s p L:Int):Box:=⟨g,.str,3,[[.i .i64 s,.i .i64 p,.i .i64 L]]⟩
def cntS(s:Int):Int:=IntKind.wrap .i64 (s+1)
def cntP(p:Int)(x:Fz):Int:=if p<(sizF x:Int) then (sizF x:Int) else p
section
variable{T:Tbl}[CLimb T][CNat T][CProd T][CTwos T][CQuot T][CQuotD T][CWhole T][CCommon T][CFrac T][CFrac3 T][CFrac5 T][CPow T][CTape T][CGauge T][CEval T]
theorem zqg(x:Fz)(hx:fsz x≤10000):callF T 223 [efz x]=some (.i .i64 (sizF x)):=by
 have h1:=zd4 x
 have h2:=zei x
 have c1:=zgt (T:=T) x.2.1 (by omega)
 have c2:=zgt (T:=T) x.2.2 (by omega)
 have b1:=zgu (x:=val x.2.1) (k:=10000) (Nat.le_trans (zac x.2.1) (by omega))
 have b2:=zgu (x:=val x.2.2) (k:=10000) (Nat.le_trans (zac x.2.2) (by omega))
 have w:IntKind.wrap .i64 ((blen (val x.2.1):Int)+(blen (val x.2.2):Int))=((sizF x:Nat):Int):=by
  have e:((sizF x:Nat):Int)=(blen (val x.2.1):Int)+(blen (val x.2.2):Int):=by unfold sizF;omega
  rw[e]
  exact zad _ (by omega)
 rw[f223 _ rfl,b223]
 generalize sizF x=S at *
 generalize blen (val x.2.1)=B1 at *
 generalize blen (val x.2.2)=B2 at *
 simp -implicitDefEqProofs[c1,c2,w]
theorem zhs(n:Int):callH T 406 [.i .i64 n] []=some (.ptr (.loc 7) 1 3 0 0,[(.loc 7,bxG 1 0 0 (limI n))]):=by
 unfold limI
 rw[f406 _ _ rfl,b406]
 by_cases h1:n<0
 ·simp -implicitDefEqProofs[h1,mm2]
 ·by_cases h2:4096<n
  ·simp -implicitDefEqProofs[h1,h2,mm2]
  ·simp -implicitDefEqProofs[h1,h2,mm2]
theorem zi6(s p L k:Int):callH T 426 [.ptr (.bor 0) 0 3 0 0,.i .i64 k] [(.bor 0,bxG 0 s p L)]=some (.tup [],[(.bor 0,bxG 0 (cntS s) (if p<k then k else p) L)]):=by
 unfold cntS
 rw[f426 _ _ rfl,b426]
 by_cases h1:p<k
 ·simp -implicitDefEqProofs[h1,mm2]
 ·simp -implicitDefEqProofs[h1,mm2]
theorem zf0(s p L:Int)(x:Fz)(hx:fsz x≤10000):callH T 411 [.ptr (.bor 0) 0 3 0 0,efz x] [(.bor 0,bxG 0 s p L)]=some (.b (decide ((sizF x:Int)≤L)),[(.bor 0,bxG 0 (cntS s) (cntP p x) L)]):=by
 have h1:=zqg (T:=T) x hx
 have h2:=zi6 (T:=T) s p L (sizF x)
 unfold cntP
 rw[f411 _ _ rfl,b411]
 generalize cntS s=s' at *
 generalize (if p<(sizF x:Int) then (sizF x:Int) else p)=p' at *
 generalize (sizF x:Int)=z at *
 simp -implicitDefEqProofs[h1,h2]
def stEn(l:List Fz)(i:Nat):St:=⟨[(3,.bs (.loc 3) 1 3 0 i),(6,.sl (rowF l) .an),(7,.i .i64 l.length),(8,.i .i64 i)],[(.loc 3,⟨1,.own,3,rowF (nrm (l.take i))⟩)],3⟩
theorem zi7(l:List Fz)(hl:l.length≤1000)(hw:∀x∈l,fsz x≤1000):callF T 420 [.sl (rowF l) .an]=some (.sl (rowF (nrm l)) .an):=by
 have h:loopN T 0 0 (.norm false [3]) l420_0 (stEn l 0)=some (.n,⟨[(3,.bs (.loc 3) 1 3 0 l.length)],[(.loc 3,⟨1,.own,3,rowF (nrm l)⟩)],3⟩):=by
  refine za3 (stEn l) l.length _ (fun i hi=>?_) ?_
  ·have hg:l[i]? = some (l[i]'hi):=List.getElem?_eq_getElem hi
   have hws:=zbx hi (by omega)
   have hn:=zb9 (T:=T) (l[i]'hi) (Nat.le_trans (hw _ (List.getElem_mem hi)) (by decide))
   have e:nrm (l.take (i+1))=nrm (l.take i)++[fz (fv (l[i]'hi))]:=zbw l _ hi
   have hp:=zcs (m:=nrm (l.take i)) (n:=i) (by simp[nrm];omega) (fz (fv (l[i]'hi)))
   have hml:(nrm (l.take i)).length=i:=by simp[nrm];omega
   unfold stEn
   rw[e]
   clear e
   generalize nrm (l.take i)=M at *
   generalize fz (fv (l[i]'hi))=z at *
   have hb:i≤4294967295:=by omega
   simp -implicitDefEqProofs[l420_0,hi,hg,hws,hn,hp,hml,hb]
  ·unfold stEn
   rw[List.take_of_length_le (Nat.le_refl _)]
   generalize nrm l=M
   constructor<;>simp -implicitDefEqProofs[l420_0]
 unfold stEn at h
 simp[nrm]at h
 have ht:List.take l.length (List.map (fun x=>fz (fv x)) l)=List.map (fun x=>fz (fv x)) l:=List.take_of_length_le (by simp)
 rw[f420 _ rfl,b420]
 simp -implicitDefEqProofs[h,nrm,ht]
structure PoS (x:PoF) (B:Nat):Prop where
 t:fsz x.t≤B
 y:∀u∈x.y,fsz u≤B
 p:∀u∈x.p,fsz u≤B
 yl:x.y.length≤1000
 pl:x.p.length≤1000
theorem z0q(x:PoF):x.v.f=⟨fz (fv x.t),nrm x.y,nrm x.p⟩:=by
 unfold PoF.v Po.f
 rw[zuo,zuo]
theorem zht(x:PoF)(h:PoS x 1000):callF T 405 [ept x]=some (ept x.v.f):=by
 have h1:=zb9 (T:=T) x.t (Nat.le_trans h.t (by decide))
 have h2:=zi7 (T:=T) x.y h.yl h.y
 have h3:=zi7 (T:=T) x.p h.pl h.p
 rw[z0q]
 obtain⟨t,y,p⟩:=x
 dsimp only at *
 rw[f405 _ rfl,b405]
 generalize fz (fv t)=t' at *
 generalize nrm y=y' at *
 generalize nrm p=p' at *
 simp -implicitDefEqProofs[h1,h2,h3]
end
theorem zkd{q:Rat}{e:Int}(h1:-8≤e)(h2:e≤8):powR q e=if e<0∧q=0 then (0,false) else (powZ q e,true):=by
 unfold powR
 by_cases h:e<0∧q=0
 ·rw[if_pos h,if_neg (by intro hh;exact hh.2.2 h)]
 ·rw[if_neg h,if_pos ⟨h1,h2,h⟩]
abbrev mD:AV:=.agg [.dead]
section
variable{T:Tbl}[CLimb T][CNat T][CProd T][CTwos T][CQuot T][CQuotD T][CWhole T][CCommon T][CFrac T][CFrac3 T][CFrac5 T][CPow T][CTape T][CGauge T][CEval T][CRun T][CIfc T]
theorem zaeq(x:Fz)(hx:fsz x≤1000):callF T 445 [mD,efz x]=some (efz (fz (fv x))):=by
 have h:=zb9 (T:=T) x (by omega)
 rw[f445 _ rfl,b445]
 generalize fz (fv x)=z at *
 simp -implicitDefEqProofs[h]
theorem z6l(x:Fz)(hx:fsz x≤1000):callF T 444 [mD,efz x]=some (efz (fz (-fv x))):=by
 have h:=zff (T:=T) x (by omega)
 rw[f444 _ rfl,b444]
 generalize fz (-fv x)=z at *
 simp -implicitDefEqProofs[h]
theorem z6m(x y:Fz)(hx:fsz x≤1000)(hy:fsz y≤1000):callF T 441 [mD,efz x,efz y]=some (efz (fz (fv x+fv y))):=by
 have h:=zfg (T:=T) x y hx hy
 rw[f441 _ rfl,b441]
 generalize fz (fv x+fv y)=z at *
 simp -implicitDefEqProofs[h]
theorem z6n(x y:Fz)(hx:fsz x≤1000)(hy:fsz y≤1000):callF T 448 [mD,efz x,efz y]=some (efz (fz (fv x-fv y))):=by
 have h:=zgr (T:=T) x y hx hy
 rw[f448 _ rfl,b448]
 generalize fz (fv x-fv y)=z at *
 simp -implicitDefEqProofs[h]
theorem z6o(x y:Fz)(hx:fsz x≤1000)(hy:fsz y≤1000):callF T 443 [mD,efz x,efz y]=some (efz (fz (fv x*fv y))):=by
 have h:=zbr (T:=T) x y hx hy
 rw[f443 _ rfl,b443]
 generalize fz (fv x*fv y)=z at *
 simp -implicitDefEqProofs[h]
theorem z6p(x y:Fz)(hx:fsz x≤1000)(hy:fsz y≤1000):callF T 447 [mD,efz x,efz y]=some (.tup [efz (fz (fv x/fv y)),.b (decide (fv y≠0))]):=by
 have h:=zfh (T:=T) x y hx hy
 rw[f447 _ rfl,b447]
 generalize fz (fv x/fv y)=z at *
 generalize decide (fv y≠0)=ok at *
 simp -implicitDefEqProofs[h]
theorem z6q(x:Fz)(e:Int)(hx:fsz x≤1000):callF T 446 [mD,efz x,.i .i64 e]=some (.tup [efz (fz (powR (fv x) e).1),.b (powR (fv x) e).2]):=by
 have h:=zgs (T:=T) x e hx
 rw[f446 _ rfl,b446]
 generalize fz (powR (fv x) e).1=z at *
 generalize (powR (fv x) e).2=ok at *
 simp -implicitDefEqProofs[h]
theorem zup(s p L:Int)(x:Fz)(hx:fsz x≤10000):callH T 442 [.agg [.ptr (.bor 0) 0 3 0 0],efz x] [(.bor 0,bxG 0 s p L)]=some (.b (decide ((sizF x:Int)≤L)),[(.bor 0,bxG 0 (cntS s) (cntP p x) L)]):=by
 have h:=zf0 (T:=T) s p L x hx
 rw[f442 _ _ rfl,b442]
 generalize cntS s=s' at *
 generalize cntP p x=p' at *
 simp -implicitDefEqProofs[h]
theorem zxi(i:Ins)(P:Po)(hop:i.op=1∨i.op=2∨i.op=3∨i.op=4)(hn:fsz i.n≤1000)(hy:i.op=3→0≤i.a∧i.a<P.y.length)(hp:i.op=4→0≤i.a∧i.a<P.p.length) :
  callF T 431 [mD,.agg (celI i),ept P.f]=some (efz (fz (valI P [] i).1)):=by
 have h1:=zaeq (T:=T) i.n hn
 obtain⟨op,a,b,n⟩:=i
 obtain⟨t,y,p⟩:=P
 dsimp only at *
 unfold valI Po.f
 dsimp only
 rw[f431 _ rfl,b431]
 rcases hop with rfl | rfl | rfl | rfl
 ·show _=some (efz (fz (fv n)))
  generalize fz (fv n)=z at *
  generalize fzs y=Y at *
  generalize fzs p=PP at *
  generalize fz t=tt at *
  simp -implicitDefEqProofs[h1]
 ·show _=some (efz (fz t))
  generalize fzs y=Y at *
  generalize fzs p=PP at *
  generalize fz t=tt at *
  simp -implicitDefEqProofs
 ·obtain⟨k,rfl⟩:∃k:Nat,a=k:=⟨a.toNat,by have:=(hy rfl).1;omega⟩
  have hk:k<y.length:=by have:=(hy rfl).2;omega
  have hk':(k:Int)<y.length:=by omega
  have hg:(fzs y)[k]? = some (fz (y[k]'hk)):=zh4 (List.getElem?_eq_getElem hk)
  have hge:=(List.getElem?_eq_some_iff.1 hg).2
  have hl:(fzs y).length=y.length:=zae y
  have e:gI y (k:Int)=y[k]'hk:=by simp[gI,List.getD,List.getElem?_eq_getElem hk]
  show _=some (efz (fz (gI _ _)))
  rw[e]
  generalize fzs y=Y at *
  generalize fzs p=PP at *
  generalize fz t=tt at *
  generalize fz (y[k]'hk)=z at *
  simp -implicitDefEqProofs[hk,hk',hg,hge,hl]
 ·obtain⟨k,rfl⟩:∃k:Nat,a=k:=⟨a.toNat,by have:=(hp rfl).1;omega⟩
  have hk:k<p.length:=by have:=(hp rfl).2;omega
  have hk':(k:Int)<p.length:=by omega
  have hg:(fzs p)[k]? = some (fz (p[k]'hk)):=zh4 (List.getElem?_eq_getElem hk)
  have hge:=(List.getElem?_eq_some_iff.1 hg).2
  have hl:(fzs p).length=p.length:=zae p
  have e:gI p (k:Int)=p[k]'hk:=by simp[gI,List.getD,List.getElem?_eq_getElem hk]
  show _=some (efz (fz (gI _ _)))
  rw[e]
  generalize fzs y=Y at *
  generalize fzs p=PP at *
  generalize fz t=tt at *
  generalize fz (p[k]'hk)=z at *
  simp -implicitDefEqProofs[hk,hk',hg,hge,hl]
theorem zyq{D:List Rat}{a:Int}(h:0≤a∧a<D.length):∃k:Nat,a=k∧(k:Int)<D.length∧k<D.length∧(fzs D)[k]? = some (fz (gI D a)):=by
 obtain⟨k,rfl⟩:∃k:Nat,a=k:=⟨a.toNat,by omega⟩
 have hk:k<D.length:=by omega
 refine⟨k,rfl,by omega,hk,?_⟩
 have e:gI D (k:Int)=D[k]'hk:=by simp[gI,List.getD,List.getElem?_eq_getElem hk]
 rw[e]
 exact zh4 (List.getElem?_eq_getElem hk)
theorem zcw{D:List Rat}{a:Int}{B:Nat}(hB:1≤B)(h:∀q∈D,sz q≤B):sz (gI D a)≤B:=by
 unfold gI List.getD
 cases hx:D[a.toNat]? with
 | none=>exact Nat.le_trans (Nat.le_of_eq zbz) hB
 | some q=>exact h q (List.mem_of_getElem? hx)
theorem zxj(i:Ins)(P:Po)(D:List Rat)(dim par:Int)(hm:mayI dim par D.length i=true)(hd:(P.y.length:Int)=dim)(hp:(P.p.length:Int)=par)(hn:fsz i.n≤1000)(hD:∀q∈D,sz q≤1000) :
  callF T 422 [mD,.agg (celI i),ept P.f,.sl (rowF (fzs D)) .an]=some (.tup [efz (fz (valI P D i).1),.b (valI P D i).2]):=by
 have hop:=zih hm
 by_cases hleaf:i.op=1∨i.op=2∨i.op=3∨i.op=4
 ·have h1:=zxi (T:=T) i P hleaf hn (fun h=>by have:=zvp hm h;omega) (fun h=>by have:=zvq hm h;omega)
  have e:valI P D i=((valI P [] i).1,true):=by
   unfold valI
   rcases hleaf with h | h | h | h<;>simp[h]
  rw[e]
  generalize fz (valI P [] i).1=z at *
  generalize fzs D=DD at *
  obtain⟨op,a,b,n⟩:=i
  generalize P.f=Q at *
  obtain⟨⟨t0,t1,t2⟩,y,p⟩:=Q
  dsimp only at *
  rw[f422 _ rfl,b422]
  rcases hleaf with rfl | rfl | rfl | rfl<;>simp -implicitDefEqProofs[h1]
 have ha:=zej hm (by omega)
 obtain⟨k,hk1,hk2,hk3,hka⟩:=zyq ha
 have sa:fsz (fz (gI D i.a))≤1000:=zcw (by decide) hD
 have hkae:=(List.getElem?_eq_some_iff.1 hka).2
 have hl:(fzs D).length=D.length:=zae D
 have c6:=z6l (T:=T) (fz (gI D i.a)) sa
 have c11:=z6q (T:=T) (fz (gI D i.a)) i.b sa
 rw[za7]at c6 c11
 by_cases h6:i.op=6
 ·have e:valI P D i=(-gI D i.a,true):=by simp[valI,h6]
  rw[e]
  generalize fz (-gI D i.a)=z at *
  generalize fz (gI D i.a)=u at *
  generalize fzs D=DD at *
  obtain⟨op,a,b,n⟩:=i
  generalize P.f=Q at *
  obtain⟨⟨t0,t1,t2⟩,y,p⟩:=Q
  dsimp only at *
  subst h6 hk1
  rw[f422 _ rfl,b422]
  simp -implicitDefEqProofs[hk2,hk3,hka,hkae,hl,c6]
 by_cases h11:i.op=11
 ·have hb:=zn3 hm h11
  have e:valI P D i=powR (gI D i.a) i.b:=by simp[valI,h11,zkd hb.1 hb.2]
  rw[e]
  generalize fz (powR (gI D i.a) i.b).1=z at *
  generalize (powR (gI D i.a) i.b).2=ok at *
  generalize fz (gI D i.a)=u at *
  generalize fzs D=DD at *
  obtain⟨op,a,b,n⟩:=i
  generalize P.f=Q at *
  obtain⟨⟨t0,t1,t2⟩,y,p⟩:=Q
  dsimp only at *
  subst h11 hk1
  rw[f422 _ rfl,b422]
  simp -implicitDefEqProofs[hk2,hk3,hka,hkae,hl,c11]
 have hb:=zgj hm (by omega)
 obtain⟨j,hj1,hj2,hj3,hjb⟩:=zyq hb
 have sb:fsz (fz (gI D i.b))≤1000:=zcw (by decide) hD
 have hjbe:=(List.getElem?_eq_some_iff.1 hjb).2
 have c7:=z6m (T:=T) (fz (gI D i.a)) (fz (gI D i.b)) sa sb
 have c8:=z6n (T:=T) (fz (gI D i.a)) (fz (gI D i.b)) sa sb
 have c9:=z6o (T:=T) (fz (gI D i.a)) (fz (gI D i.b)) sa sb
 have c10:=z6p (T:=T) (fz (gI D i.a)) (fz (gI D i.b)) sa sb
 rw[za7,za7]at c7 c8 c9 c10
 have e7:i.op=7→valI P D i=(gI D i.a+gI D i.b,true):=fun h=>by simp[valI,h]
 have e8:i.op=8→valI P D i=(gI D i.a-gI D i.b,true):=fun h=>by simp[valI,h]
 have e9:i.op=9→valI P D i=(gI D i.a*gI D i.b,true):=fun h=>by simp[valI,h]
 have e10:i.op=10→valI P D i=(gI D i.a/gI D i.b,decide (gI D i.b≠0)):=fun h=>by simp[valI,h]
 generalize gI D i.a=A at *
 generalize gI D i.b=B at *
 generalize fz A=u at *
 generalize fz B=v at *
 generalize valI P D i=V at *
 generalize fzs D=DD at *
 obtain⟨op,a,b,n⟩:=i
 generalize P.f=Q at *
 obtain⟨⟨t0,t1,t2⟩,y,p⟩:=Q
 dsimp only at *
 subst hk1 hj1
 rw[f422 _ rfl,b422]
 rcases(show op=7∨op=8∨op=9∨op=10 by omega) with rfl | rfl | rfl | rfl
 ·rw[e7 rfl]
  generalize fz (A+B)=z at *
  simp -implicitDefEqProofs[hk2,hk3,hka,hkae,hj2,hj3,hjb,hjbe,hl,c7]
 ·rw[e8 rfl]
  generalize fz (A-B)=z at *
  simp -implicitDefEqProofs[hk2,hk3,hka,hkae,hj2,hj3,hjb,hjbe,hl,c8]
 ·rw[e9 rfl]
  generalize fz (A*B)=z at *
  simp -implicitDefEqProofs[hk2,hk3,hka,hkae,hj2,hj3,hjb,hjbe,hl,c9]
 ·rw[e10 rfl]
  generalize fz (A/B)=z at *
  generalize decide (B≠0)=ok at *
  simp -implicitDefEqProofs[hk2,hk3,hka,hkae,hj2,hj3,hjb,hjbe,hl,c10]
end
theorem zo6{n b:Nat}(h:blen n≤b):(ofN n).length≤b/32+1:=by
 refine zan ?_
 unfold blen at h
 split at h
 ·rename_i h0
  subst h0
  exact Nat.pow_pos (by decide)
 ·rename_i h0
  have h1:n<2^(n.log2+1):=(Nat.log2_lt h0).1 (Nat.lt_succ_self _)
  have h3:(4294967296:Nat)^(b/32+1)=2^(32*(b/32+1)):=by rw[Nat.pow_mul]
  have h2:2^(n.log2+1)≤2^(32*(b/32+1)):=Nat.pow_le_pow_right (by decide) (by omega)
  omega
theorem zd2{q:Rat}{b:Nat}(h:sizQ q≤b):sz q≤b/32+1:=by
 unfold sizQ sizF fz at h
 rw[zag,zag]at h
 exact Nat.max_le.2 ⟨zo6 (Nat.le_trans (Nat.le_add_right _ _) h),zo6 (Nat.le_trans (Nat.le_add_left _ _) h)⟩
theorem zuq(q:Rat)(n:Nat):sz (q^n)≤n*sz q+1:=by
 unfold sz
 rw[Rat.num_pow,Rat.den_pow,Int.natAbs_pow]
 exact Nat.max_le.2 ⟨zfz (Nat.le_max_left _ _) n,zfz (Nat.le_max_right _ _) n⟩
theorem zh5{q:Rat}{e:Int}{B:Nat}(hq:sz q≤B)(h1:-8≤e)(h2:e≤8):sz (powZ q e)≤8*B+1:=by
 unfold powZ
 rcases Int.le_total 0 e with h | h
 ·obtain⟨n,rfl⟩:∃n:Nat,e=n:=⟨e.toNat,by omega⟩
  rw[Rat.zpow_natCast]
  have:=zuq q n
  have h3:n*sz q≤8*B:=Nat.mul_le_mul (by omega) hq
  omega
 ·obtain⟨n,rfl⟩:∃n:Nat,e=-(n:Int):=⟨(-e).toNat,by omega⟩
  rw[Rat.zpow_neg,Rat.zpow_natCast]
  have:=zuq q n
  have h3:n*sz q≤8*B:=Nat.mul_le_mul (by omega) hq
  have:=zyz (q^n)
  omega
structure PvS (P:Po) (B:Nat):Prop where
 t:sz P.t≤B
 y:∀q∈P.y,sz q≤B
 p:∀q∈P.p,sz q≤B
theorem zur{P:Po}{D:List Rat}{i:Ins}{dim par:Int}{p:Nat}(hm:mayI dim par p i=true)(hP:PvS P 1000)(hn:fsz i.n≤1000)(hD:∀q∈D,sz q≤129):sz (valI P D i).1≤2000:=by
 have ga:=zcw (D:=D) (a:=i.a) (B:=129) (by decide) hD
 have gb:=zcw (D:=D) (a:=i.b) (B:=129) (by decide) hD
 have gy:=zcw (D:=P.y) (a:=i.a) (B:=1000) (by decide) hP.y
 have gp:=zcw (D:=P.p) (a:=i.a) (B:=1000) (by decide) hP.p
 have gn:=za6 (x:=i.n) (L:=1000) hn (by decide)
 have gt:=hP.t
 rcases zih hm with h | h | h | h | h | h | h | h | h | h
 ·simp[valI,h];omega
 ·simp[valI,h];omega
 ·simp[valI,h];omega
 ·simp[valI,h];omega
 ·simp[valI,h,zid];omega
 ·have:=zeq (gI D i.a) (gI D i.b);simp[valI,h];omega
 ·have:=zpj (gI D i.a) (gI D i.b);simp[valI,h];omega
 ·have:=zbc (gI D i.a) (gI D i.b);simp[valI,h];omega
 ·have:=zer (gI D i.a) (gI D i.b);simp[valI,h];omega
 ·obtain⟨e1,e2⟩:=zn3 hm h
  have h1:=zh5 ga e1 e2
  by_cases hc:i.b<0∧gI D i.a=0
  ·simp[valI,h,hc,zbz]
  ·simp only[valI,h]
   simp only[hc]
   simp
   omega
def runG(lim:Nat)(P:Po):List Ins→List Rat→Int→Int→Int×Int
 | [],_,s,p=>(s,p)
 | i::r,D,s,p=>if (valI P D i).2=false then (s,p) else if lim<sizQ (valI P D i).1 then (cntS s,cntP p (fz (valI P D i).1)) else runG lim P r (D++[(valI P D i).1]) (cntS s) (cntP p (fz (valI P D i).1))
theorem zh6(lim:Nat)(P:Po)(i:Ins)(r:List Ins)(D:List Rat)(s p:Int):runG lim P (i::r) D s p=if (valI P D i).2=false then (s,p) else if lim<sizQ (valI P D i).1 then (cntS s,cntP p (fz (valI P D i).1)) else runG lim P r (D++[(valI P D i).1]) (cntS s) (cntP p (fz (valI P D i).1)):=rfl
abbrev bxM:Box:=⟨3,.str,1,[[.ptr (.bor 0) 0 3 0 0]]⟩
abbrev bxP(g:Nat)(x:PoF):Box:=⟨g,.str,5,[[.b x.t.1,.sl (u32s x.t.2.1) .an,.sl (u32s x.t.2.2) .an,.sl (rowF x.y) .an,.sl (rowF x.p) .an]]⟩
abbrev bxF(g:Nat)(a b c d:Int):Box:=⟨g,.str,4,[[.i .i64 a,.i .i64 b,.i .i64 c,.i .i64 d]]⟩
def stRun(Q:PoF)(L:Int)(code:List Ins)(i:Nat)(D:List Fz)(s p:Int)(kd:Kind):St:=
 ⟨[(3,.ptr (.loc 3) 3 1 0 0),(5,.ptr (.loc 5) 4 5 0 0),(7,.ptr (.loc 7) 5 4 0 0),(8,.bs (.loc 8) 6 3 0 i),(34,.sl (rowI code) .an),(35,.i .i64 code.length),(36,.i .i64 i)],
  [(.bor 0,bxG 0 s p L),(.loc 3,bxM),(.loc 5,bxP 4 Q),(.loc 7,bxF 5 0 0 0 0),(.loc 8,⟨6,kd,3,rowF D⟩)],8⟩
def endN(n:Nat)(D:List Fz)(s p L:Int)(kd:Kind):Ex×St:=(.n,⟨[(7,.ptr (.loc 7) 3 4 0 0),(8,.bs (.loc 8) 4 3 0 n)],[(.bor 0,bxG 0 s p L),(.loc 7,bxF 3 0 0 0 0),(.loc 8,⟨4,kd,3,rowF D⟩)],6⟩)
def endR(kind at_ s p L:Int):Ex×St:=(.r,⟨[(6,.sl [] .an),(7,.ptr (.loc 7) 3 4 0 0)],[(.bor 0,bxG 0 s p L),(.loc 7,bxF 3 kind 0 0 at_)],5⟩)
section
variable{T:Tbl}[CLimb T][CNat T][CProd T][CTwos T][CQuot T][CQuotD T][CWhole T][CCommon T][CFrac T][CFrac3 T][CFrac5 T][CPow T][CTape T][CGauge T][CEval T][CRun T][CIfc T]
theorem zxk{kd:Kind}(hk:kd=.own∨kd=.sh)(x:Ins)(Q:PoF)(L:Int)(code:List Ins)(i:Nat)(D:List Fz)(s p:Int)(v:Fz)(hi:i<code.length)(hc:code.length≤1000)(hg:code[i]? = some x)(hdl:D.length=i)(hv:fsz v≤10000)
  (c:callF T 422 [mD,.agg (celI x),ept Q,.sl (rowF D) .an]=some (.tup [efz v,.b true])) (hf:(sizF v:Int)≤L) :
  evX (orc T) T 1 l407_0 (stRun Q L code i D s p kd)=some (.n,stRun Q L code (i+1) (D++[v]) (cntS s) (cntP p v) .sh):=by
 have hf2:=zup (T:=T) s p L v hv
 rw[decide_eq_true hf]at hf2
 have hws:=zbx hi (by omega)
 have hge:=(List.getElem?_eq_some_iff.1 hg).2
 have ht:List.take i D=D:=List.take_of_length_le (by omega)
 have hp:wkL (rowF D++[celF v])=rowF (D++[v]):=by rw[zif,zf9]
 have hi':(i:Int)<code.length:=by omega
 have hb:i≤4294967295:=by omega
 generalize cntS s=s' at *
 generalize cntP p v=p' at *
 unfold stRun
 obtain⟨⟨q0,q1,q2⟩,qy,qp⟩:=Q
 rcases hk with rfl | rfl<;>simp -implicitDefEqProofs[l407_0,hi,hi',hg,hge,hws,c,hf2,hp,hdl,hb,ht]
theorem z08{kd:Kind}(hk:kd=.own∨kd=.sh)(x:Ins)(Q:PoF)(L:Int)(code:List Ins)(i:Nat)(D:List Fz)(s p:Int)(v:Fz)(hi:i<code.length)(hc:code.length≤1000)(hg:code[i]? = some x)(hdl:D.length=i)
  (c:callF T 422 [mD,.agg (celI x),ept Q,.sl (rowF D) .an]=some (.tup [efz v,.b false])) :
  evX (orc T) T 1 l407_0 (stRun Q L code i D s p kd)=some (endR 3 i s p L):=by
 have hge:=(List.getElem?_eq_some_iff.1 hg).2
 have ht:List.take i D=D:=List.take_of_length_le (by omega)
 have hi':(i:Int)<code.length:=by omega
 unfold stRun endR
 obtain⟨⟨q0,q1,q2⟩,qy,qp⟩:=Q
 rcases hk with rfl | rfl<;>simp -implicitDefEqProofs[l407_0,hi,hi',hg,hge,c,hdl,ht]
theorem z09{kd:Kind}(hk:kd=.own∨kd=.sh)(x:Ins)(Q:PoF)(L:Int)(code:List Ins)(i:Nat)(D:List Fz)(s p:Int)(v:Fz)(hi:i<code.length)(hc:code.length≤1000)(hg:code[i]? = some x)(hdl:D.length=i)(hv:fsz v≤10000)
  (c:callF T 422 [mD,.agg (celI x),ept Q,.sl (rowF D) .an]=some (.tup [efz v,.b true])) (hf:¬ (sizF v:Int)≤L) :
  evX (orc T) T 1 l407_0 (stRun Q L code i D s p kd)=some (endR 6 i (cntS s) (cntP p v) L):=by
 have hf2:=zup (T:=T) s p L v hv
 rw[decide_eq_false hf]at hf2
 have hge:=(List.getElem?_eq_some_iff.1 hg).2
 have ht:List.take i D=D:=List.take_of_length_le (by omega)
 have hi':(i:Int)<code.length:=by omega
 generalize cntS s=s' at *
 generalize cntP p v=p' at *
 unfold stRun endR
 obtain⟨⟨q0,q1,q2⟩,qy,qp⟩:=Q
 rcases hk with rfl | rfl<;>simp -implicitDefEqProofs[l407_0,hi,hi',hg,hge,c,hf2,hdl,ht]
theorem z6r{kd:Kind}(hk:kd=.own∨kd=.sh)(Q:PoF)(L:Int)(code:List Ins)(D:List Fz)(s p:Int):isEx (evX (orc T) T 1 l407_0 (stRun Q L code code.length D s p kd))=true ∧
  finX 1 0 (.norm false [7,8]) (evX (orc T) T 1 l407_0 (stRun Q L code code.length D s p kd))=some (endN code.length D s p L kd):=by
 unfold stRun endN
 obtain⟨⟨q0,q1,q2⟩,qy,qp⟩:=Q
 rcases hk with rfl | rfl<;>constructor<;>simp -implicitDefEqProofs[l407_0]
theorem zus(kind at_ s p L:Int):finX 1 0 (.norm false [7,8]) (some (endR kind at_ s p L))=some (endR kind at_ s p L):=by
 unfold endR
 simp -implicitDefEqProofs
def kdE(kd:Kind)(l:List Ins):Kind:=if l=[] then kd else .sh
def endRun(lim:Nat)(P:Po)(code l:List Ins)(D:List Rat)(s p:Int)(kd:Kind):Ex×St:=
 if (runR lim P l D).2.1=0 then endN code.length (fzs (runR lim P l D).1) (runG lim P l D s p).1 (runG lim P l D s p).2 lim (kdE kd l)
 else endR (runR lim P l D).2.1 (runR lim P l D).2.2 (runG lim P l D s p).1 (runG lim P l D s p).2 lim
theorem zo7(P:Po)(lim:Nat)(hlim:lim≤4096)(t:Tp)(ht:OkTp t)(hn:∀i∈t.code,fsz i.n≤1000)(hd:(P.y.length:Int)=t.dim)(hp:(P.p.length:Int)=t.par)(hP:PvS P 1000)(s p:Int) :
  loopN T 1 0 (.norm false [7,8]) l407_0 (stRun P.f lim t.code 0 [] s p .own)=some (endRun lim P t.code t.code [] s p .own):=by
 have hc:=ht.cl
 have key:=zbg (T:=T) (k:=1) (id:=0) (g2:=.norm false [7,8]) (c:=l407_0) (fun x:Nat×List Rat×(Int×Int)×Kind=>stRun P.f lim t.code x.1 (fzs x.2.1) x.2.2.1.1 x.2.2.1.2 x.2.2.2)
  (fun x=>x.1≤t.code.length∧x.2.1.length=x.1∧(∀q∈x.2.1,sz q≤129)∧(x.2.2.2=.own∨x.2.2.2=.sh)) (fun x=>t.code.length-x.1)
  (fun x=>some (endRun lim P t.code (t.code.drop x.1) x.2.1 x.2.2.1.1 x.2.2.1.2 x.2.2.2)) ?_ (0,[],(s,p),.own) ⟨Nat.zero_le _,rfl,by simp,.inl rfl⟩
 ·exact key
 rintro⟨i,D,⟨s,p⟩,kd⟩ ⟨hi,hdl,hD,hk⟩
 dsimp only at *
 by_cases hlt:i<t.code.length
 ·have hg:t.code[i]? = some (t.code[i]'hlt):=List.getElem?_eq_getElem hlt
  have hmem:=List.getElem_mem hlt
  have hm:=ht.may i _ hg
  have hdr:t.code.drop i=t.code[i]'hlt::t.code.drop (i+1):=List.drop_eq_getElem_cons hlt
  generalize hx:t.code[i]'hlt=x at *
  have hm':mayI t.dim t.par D.length x=true:=by rw[hdl];exact hm
  have c:=zxj (T:=T) x P D t.dim t.par hm' hd hp (hn x hmem) (fun q hq=>Nat.le_trans (hD q hq) (by decide))
  have hvs:fsz (fz (valI P D x).1)≤10000:=Nat.le_trans (zur hm' hP (hn x hmem) hD) (by decide)
  have hfl:(fzs D).length=i:=by rw[zae,hdl]
  have hout:endRun lim P t.code (t.code.drop i) D s p kd=endRun lim P t.code (x::t.code.drop (i+1)) D s p kd:=by rw[hdr]
  rw[hout]
  cases hok:(valI P D x).2 with
  | false=>
   right
   rw[hok]at c
   have e:=z08 (T:=T) hk x P.f lim t.code i (fzs D) s p _ hlt (by omega) hg hfl c
   rw[e,zus]
   refine⟨rfl,?_⟩
   have hR:runR lim P (x::t.code.drop (i+1)) D=([],3,i):=by rw[zcv,if_pos hok,hdl]
   have hG:runG lim P (x::t.code.drop (i+1)) D s p=(s,p):=by rw[zh6,if_pos hok]
   unfold endRun
   rw[hR,hG]
   rfl
  | true=>
   rw[hok]at c
   by_cases hfit:sizQ (valI P D x).1≤lim
   ·left
    have e:=zxk (T:=T) hk x P.f lim t.code i (fzs D) s p _ hlt (by omega) hg hfl hvs c (by unfold sizQ at hfit;omega)
    refine⟨(i+1,D++[(valI P D x).1],(cntS s,cntP p (fz (valI P D x).1)),.sh),⟨by omega,by simp[hdl],fun q hq=>?_,.inr rfl⟩,by show t.code.length-(i+1)<t.code.length-i;omega,?_,?_⟩
    ·rcases List.mem_append.1 hq with h | h
     ·exact hD q h
     ·rw[List.mem_singleton.1 h]
      have:=zd2 hfit
      have:lim/32≤128:=by omega
      omega
    ·rw[e]
     simp[fzs]
    ·dsimp only
     congr 1
     have hR:runR lim P (x::t.code.drop (i+1)) D=runR lim P (t.code.drop (i+1)) (D++[(valI P D x).1]):=by rw[zcv,if_neg (by rw[hok];decide),if_neg (by omega)]
     have hG:runG lim P (x::t.code.drop (i+1)) D s p=runG lim P (t.code.drop (i+1)) (D++[(valI P D x).1]) (cntS s) (cntP p (fz (valI P D x).1)):=by rw[zh6,if_neg (by rw[hok];decide),if_neg (by omega)]
     unfold endRun
     rw[hR,hG]
     have e1:kdE kd (x::t.code.drop (i+1))=.sh:=by simp[kdE]
     have e2:∀l,kdE .sh l=.sh:=by intro l;simp[kdE]
     rw[e1,e2]
   ·right
    have e:=z09 (T:=T) hk x P.f lim t.code i (fzs D) s p _ hlt (by omega) hg hfl hvs c (by unfold sizQ at hfit;omega)
    rw[e,zus]
    refine⟨rfl,?_⟩
    have hR:runR lim P (x::t.code.drop (i+1)) D=([],6,i):=by rw[zcv,if_neg (by rw[hok];decide),if_pos (by omega),hdl]
    have hG:runG lim P (x::t.code.drop (i+1)) D s p=(cntS s,cntP p (fz (valI P D x).1)):=by rw[zh6,if_neg (by rw[hok];decide),if_pos (by omega)]
    unfold endRun
    rw[hR,hG]
    rfl
 ·right
  have hi2:i=t.code.length:=by omega
  subst hi2
  have e:=z6r (T:=T) hk P.f lim t.code (fzs D) s p
  refine⟨e.1,?_⟩
  rw[e.2,List.drop_length]
  unfold endRun
  simp[runR,runG,kdE]
end
def fitT(t:Tp)(y p:Nat):Bool:=okT t&&decide ((y:Int)=t.dim)&&decide ((p:Int)=t.par)
def tapeR(lim:Nat)(t:Tp)(P:Po):List Rat×Nat×Nat:=if fitT t P.y.length P.p.length=true then runR lim P t.code [] else ([],2,0)
def outsR(t:Tp)(D:List Rat):List Rat:=t.outs.map (gI D)
def fieldR(lim:Nat)(t:Tp)(P:Po):List Rat×Nat×Nat:=if (tapeR lim t P).2.1=0 then (outsR t (tapeR lim t P).1,0,0) else ([],(tapeR lim t P).2)
structure TpS (t:Tp):Prop where
 small:Small t
 ns:∀i∈t.code,fsz i.n≤1000
abbrev fltA(k s g a:Int):AV:=.agg [.i .i64 k,.i .i64 s,.i .i64 g,.i .i64 a]
theorem zct{t:Tp}{y p:Nat}(h:fitT t y p=true):OkTp t∧(y:Int)=t.dim∧(p:Int)=t.par:=by
 unfold fitT at h
 simp only[Bool.and_eq_true,decide_eq_true_eq]at h
 exact⟨(zig t).1 h.1.1,h.1.2,h.2⟩
section
variable{T:Tbl}[CLimb T][CNat T][CProd T][CTwos T][CQuot T][CQuotD T][CWhole T][CCommon T][CFrac T][CFrac3 T][CFrac5 T][CPow T][CTape T][CGauge T][CEval T][CRun T][CIfc T]
theorem z1a(t:Tp)(Q:PoF)(hs:TpS t)(s p L:Int)(h:fitT t Q.y.length Q.p.length=false) :
  callH T 407 [.agg [.ptr (.bor 0) 0 3 0 0],etp t,ept Q] [(.bor 0,bxG 0 s p L)]=some (.tup [.sl [] .an,fltA 2 0 0 0],[(.bor 0,bxG 0 s p L)]):=by
 have hr:=zcj (T:=T) t hs.small
 unfold fitT at h
 rw[f407 _ _ rfl,b407]
 obtain⟨⟨q0,q1,q2⟩,qy,qp⟩:=Q
 dsimp only at h
 cases hok:okT t with
 | false=>
  rw[hok]at hr
  obtain⟨code,outs,dim,par⟩:=t
  simp -implicitDefEqProofs[hr]
 | true=>
  rw[hok]at hr h
  obtain⟨code,outs,dim,par⟩:=t
  dsimp only at *
  by_cases h1:(qy.length:Int)=dim
  ·by_cases h2:(qp.length:Int)=par
   ·simp[h1,h2]at h
   ·simp -implicitDefEqProofs[hr,h1,h2]
  ·simp -implicitDefEqProofs[hr,h1]
theorem zut(t:Tp)(P:Po)(hs:TpS t)(lim:Nat)(hlim:lim≤4096)(s p:Int)(hP:PvS P 1000)(h:fitT t P.y.length P.p.length=true)(hk:(runR lim P t.code []).2.1=0) :
  ∃(s' p':Int) (kd:Kind),(kd=.own∨kd=.sh)∧callH T 407 [.agg [.ptr (.bor 0) 0 3 0 0],etp t,ept P.f] [(.bor 0,bxG 0 s p lim)] =
   some (.tup [.bs (.loc 8) 3 3 0 t.code.length,fltA 0 0 0 0],[(.bor 0,bxG 0 s' p' lim),(.loc 8,⟨3,kd,3,rowF (fzs (runR lim P t.code []).1)⟩)]):=by
 obtain⟨hok,h1,h2⟩:=zct h
 have hr:=zcj (T:=T) t hs.small
 have hl:=zo7 (T:=T) P lim hlim t hok hs.ns h1 h2 hP s p
 rw[(zig t).2 hok]at hr
 unfold endRun at hl
 rw[if_pos hk]at hl
 unfold stRun endN at hl
 simp only[Int.natCast_zero,zcf]at hl
 have hkd:∃kd:Kind,kdE .own t.code=kd∧(kd=.own∨kd=.sh):=by
  unfold kdE
  split
  ·exact⟨_,rfl,.inl rfl⟩
  ·exact⟨_,rfl,.inr rfl⟩
 obtain⟨kd,hkd1,hkd2⟩:=hkd
 rw[hkd1]at hl
 clear hkd1
 have hy:(fzs P.y).length=P.y.length:=zae _
 have hp':(fzs P.p).length=P.p.length:=zae _
 unfold Po.f at *
 generalize (runG lim P t.code [] s p).1=s' at *
 generalize (runG lim P t.code [] s p).2=p' at *
 generalize fzs (runR lim P t.code []).1=D at *
 generalize fzs P.y=Y at *
 generalize fzs P.p=PP at *
 generalize fz P.t=tt at *
 obtain⟨code,outs,dim,par⟩:=t
 dsimp only at *
 refine⟨s',p',kd,hkd2,?_⟩
 rw[f407 _ _ rfl,b407]
 rcases hkd2 with rfl | rfl
 ·simp -implicitDefEqProofs[hr,h1,h2,hy,hp',hl]
 ·simp -implicitDefEqProofs[hr,h1,h2,hy,hp',hl]
theorem zuu(t:Tp)(P:Po)(hs:TpS t)(lim:Nat)(hlim:lim≤4096)(s p:Int)(hP:PvS P 1000)(h:fitT t P.y.length P.p.length=true)(hk:¬ (runR lim P t.code []).2.1=0) :
  ∃(s' p':Int),callH T 407 [.agg [.ptr (.bor 0) 0 3 0 0],etp t,ept P.f] [(.bor 0,bxG 0 s p lim)] =
   some (.tup [.sl [] .an,fltA (runR lim P t.code []).2.1 0 0 (runR lim P t.code []).2.2],[(.bor 0,bxG 0 s' p' lim)]):=by
 obtain⟨hok,h1,h2⟩:=zct h
 have hr:=zcj (T:=T) t hs.small
 have hl:=zo7 (T:=T) P lim hlim t hok hs.ns h1 h2 hP s p
 rw[(zig t).2 hok]at hr
 unfold endRun at hl
 rw[if_neg hk]at hl
 unfold stRun endR at hl
 simp only[Int.natCast_zero,zcf]at hl
 have hy:(fzs P.y).length=P.y.length:=zae _
 have hp':(fzs P.p).length=P.p.length:=zae _
 unfold Po.f at *
 generalize (runG lim P t.code [] s p).1=s' at *
 generalize (runG lim P t.code [] s p).2=p' at *
 generalize (((runR lim P t.code []).2.1:Nat):Int)=kk at *
 generalize (((runR lim P t.code []).2.2:Nat):Int)=aa at *
 generalize fzs P.y=Y at *
 generalize fzs P.p=PP at *
 generalize fz P.t=tt at *
 obtain⟨code,outs,dim,par⟩:=t
 dsimp only at *
 refine⟨s',p',?_⟩
 rw[f407 _ _ rfl,b407]
 simp -implicitDefEqProofs[hr,h1,h2,hy,hp',hl]
theorem z1b{x:PoF}(h:PoS x 1000):PvS x.v 1000:=by
 refine⟨za6 h.t (by decide),fun q hq=>?_,fun q hq=>?_⟩
 ·obtain⟨u,hu,rfl⟩:=List.mem_map.1 hq
  exact za6 (h.y u hu) (by decide)
 ·obtain⟨u,hu,rfl⟩:=List.mem_map.1 hq
  exact za6 (h.p u hu) (by decide)
def limN(n:Int):Nat:=(limI n).toNat
theorem zo8(n:Int):limI n=(limN n:Int)∧limN n≤4096:=by
 unfold limN limI
 split
 ·omega
 ·split<;>omega
theorem zxl(t:Tp)(x:PoF)(bits:Int)(hs:TpS t)(hx:PoS x 1000) :
  callF T 384 [etp t,ept x,.i .i64 bits]=some (.tup [.sl (rowF (fzs (tapeR (limN bits) t x.v).1)) .an,fltA (tapeR (limN bits) t x.v).2.1 0 0 (tapeR (limN bits) t x.v).2.2]):=by
 have hn:=zht (T:=T) x hx
 have hg:=zhs (T:=T) bits
 obtain⟨hl1,hl2⟩:=zo8 bits
 rw[hl1]at hg
 have hP:=z1b hx
 have hlen:x.v.f.y.length=x.v.y.length∧x.v.f.p.length=x.v.p.length:=⟨zae _,zae _⟩
 unfold tapeR
 cases hf:fitT t x.v.y.length x.v.p.length with
 | false=>
  have hm:=z1a (T:=T) t x.v.f hs 0 0 (limN bits) (by rw[hlen.1,hlen.2];exact hf)
  simp only[Bool.false_eq_true,if_false]
  have e0:fzs []=[]:=rfl
  rw[e0,f384 _ rfl,b384]
  generalize x.v.f=Q at *
  obtain⟨code,outs,dim,par⟩:=t
  obtain⟨⟨q0,q1,q2⟩,qy,qp⟩:=Q
  obtain⟨⟨x0,x1,x2⟩,xy,xp⟩:=x
  dsimp only at *
  simp -implicitDefEqProofs[hn,hg,hm]
 | true=>
  simp only[if_true]
  by_cases hk:(runR (limN bits) x.v t.code []).2.1=0
  ·obtain⟨s',p',kd,hkd,hm⟩:=zut (T:=T) t x.v hs (limN bits) hl2 0 0 hP hf hk
   have e2:=(zkm _ _ _ _ hk).1
   have el:(runR (limN bits) x.v t.code []).1.length=t.code.length:=by
    obtain⟨E,h1,h2⟩:=(zkm _ _ _ _ hk).2
    rw[h1];simpa using h2
   rw[hk,e2]
   have hfl:(fzs (runR (limN bits) x.v t.code []).1).length=t.code.length:=by rw[zae,el]
   clear el e2 hk
   generalize fzs (runR (limN bits) x.v t.code []).1=D at *
   have ht:List.take t.code.length D=D:=List.take_of_length_le (by omega)
   rw[f384 _ rfl,b384]
   generalize x.v.f=Q at *
   obtain⟨code,outs,dim,par⟩:=t
   obtain⟨⟨q0,q1,q2⟩,qy,qp⟩:=Q
   obtain⟨⟨x0,x1,x2⟩,xy,xp⟩:=x
   dsimp only at *
   rcases hkd with rfl | rfl
   ·simp -implicitDefEqProofs[hn,hg,hm,hfl,ht]
   ·simp -implicitDefEqProofs[hn,hg,hm,hfl,ht]
  ·obtain⟨s',p',hm⟩:=zuu (T:=T) t x.v hs (limN bits) hl2 0 0 hP hf hk
   have e1:=(zvr _ _ _ _ hk).1
   have e0:fzs []=[]:=rfl
   rw[e1,e0]
   clear e1 hk
   generalize (((runR (limN bits) x.v t.code []).2.1:Nat):Int)=kk at *
   generalize (((runR (limN bits) x.v t.code []).2.2:Nat):Int)=aa at *
   rw[f384 _ rfl,b384]
   generalize x.v.f=Q at *
   obtain⟨code,outs,dim,par⟩:=t
   obtain⟨⟨q0,q1,q2⟩,qy,qp⟩:=Q
   obtain⟨⟨x0,x1,x2⟩,xy,xp⟩:=x
   dsimp only at *
   simp -implicitDefEqProofs[hn,hg,hm]
def stOu(D:List Fz)(outs:List Int)(E:List Fz)(i:Nat)(kd:Kind):St:=
 ⟨[(1,.sl (rowF D) .an),(5,.bs (.loc 5) 1 3 0 i),(20,.sl (ints outs) .an),(21,.i .i64 outs.length),(22,.i .i64 i)],[(.loc 5,⟨1,.own,3,rowF (E.take i)⟩)],3⟩
theorem zuv{lim:Nat}{P:Po}(hlim:lim≤4096):∀(l:List Ins) (D:List Rat),(∀q∈D,sz q≤129)→∀q∈(runR lim P l D).1,sz q≤129
 | [],D,h=>h
 | i::r,D,h=>by
  rw[zcv]
  split
  ·simp
  ·split
   ·simp
   ·rename_i hf
    refine zuv hlim r _ fun q hq=>?_
    rcases List.mem_append.1 hq with hq | hq
    ·exact h q hq
    ·rw[List.mem_singleton.1 hq]
     have:=zd2 (q:=(valI P D i).1) (b:=lim) (by omega)
     omega
end
def zeroG(d p:Int):PoF:=⟨fz 0,List.replicate (cap300 d) (fz 0),List.replicate (cap300 p) (fz 0)⟩
section
variable{T:Tbl}[CLimb T][CNat T][CProd T][CTwos T][CQuot T][CQuotD T][CWhole T][CCommon T][CFrac T][CFrac3 T][CFrac5 T][CPow T][CDigits T][CText T][CJoin T][CRow T][CPull T]
theorem zj8(d p:Int):callH T 2395 [.i .i64 d,.i .i64 p] []=some (.agg [.b (fz 0).1,.sl (u32s (fz 0).2.1) .an,.sl (u32s (fz 0).2.2) .an,.bs (.fld (.loc 7) 9) 1 3 0 (cap300 d),.bs (.fld (.loc 9) 9) 2 3 0 (cap300 p)],
  [(.fld (.loc 7) 9,⟨1,.own,3,rowF (List.replicate (cap300 d) (fz 0))⟩),(.fld (.loc 9) 9,⟨2,.own,3,rowF (List.replicate (cap300 p) (fz 0))⟩)]):=by
 have c0:=zcy (T:=T)
 have c1:=zcb (T:=T) d
 have c2:=zcb (T:=T) p
 generalize fz 0=Z at *
 generalize hA:List.replicate (cap300 d) Z=A at *
 generalize hB:List.replicate (cap300 p) Z=B at *
 obtain⟨z0,z1,z2⟩:=Z
 rw[f2395 _ _ rfl,b2395]
 simp -implicitDefEqProofs[c0,c1,c2]
structure Bk where
 t:Tp
 done:List Fz
 co:List Fz
 g:PoF
abbrev bkH(b:Bk):Heap:=
 [(.bor 0,⟨0,.str,11,[[.sl (rowI b.t.code) .an,.sl (ints b.t.outs) .an,.i .i64 b.t.dim,.i .i64 b.t.par,.sl (rowF b.done) .an,.bs (.bor 1) 1 3 0 b.co.length,.b b.g.t.1,.sl (u32s b.g.t.2.1) .an,.sl (u32s b.g.t.2.2) .an,
   .bs (.bor 2) 2 3 0 b.g.y.length,.bs (.bor 3) 3 3 0 b.g.p.length]]⟩),
  (.bor 1,⟨1,.own,3,rowF b.co⟩),(.bor 2,⟨2,.own,3,rowF b.g.y⟩),(.bor 3,⟨3,.own,3,rowF b.g.p⟩)]
abbrev bkP:AV:=.ptr (.bor 0) 0 11 0 0
end
def bmp(l:List Rat)(i:Int)(x:Rat):List Rat:=l.set i.toNat (gI l i+x)
@[simp] theorem zrf(l:List Rat)(i:Int)(x:Rat):(bmp l i x).length=l.length:=by simp[bmp]
theorem zph(l:List Rat)(i:Int):bmp l i 0=l:=by
 unfold bmp gI
 rw[Rat.add_zero]
 refine List.ext_getElem? fun j=>?_
 rw[List.getElem?_set]
 split
 ·rename_i h
  subst h
  split
  ·rename_i h2
   rw[List.getD_eq_getElem?_getD,List.getElem?_eq_getElem h2]
   rfl
  ·rename_i h2
   rw[List.getElem?_eq_none (by omega)]
 ·rfl
def turnW(D:List Rat)(x:Ins)(r:Rat):Rat:=if 0<x.b then powZ (gI D x.a) (x.b-1) else if x.b<0 then r/gI D x.a else 0
def thrC(D:List Rat)(x:Ins)(r c:Rat)(co:List Rat):List Rat:=
 if x.op=6 then bmp co x.a (-c)
 else if x.op=7 then bmp (bmp co x.a c) x.b c
 else if x.op=8 then bmp (bmp co x.a c) x.b (-c)
 else if x.op=9 then bmp (bmp co x.a (c*gI D x.b)) x.b (c*gI D x.a)
 else if x.op=10 then bmp (bmp co x.a (c/gI D x.b)) x.b (-(c/gI D x.b*r))
 else if x.op=11 then bmp co x.a (c*(x.b*turnW D x r))
 else co
def thrG(x:Ins)(c:Rat)(g:Po):Po:=
 if x.op=2 then ⟨g.t+c,g.y,g.p⟩ else if x.op=3 then ⟨g.t,bmp g.y x.a c,g.p⟩ else if x.op=4 then ⟨g.t,g.y,bmp g.p x.a c⟩ else g
@[simp] theorem z1o(D:List Rat)(x:Ins)(r c:Rat)(co:List Rat):(thrC D x r c co).length=co.length:=by
 unfold thrC
 repeat' split
 all_goals simp
theorem zvf(D:List Rat)(x:Ins)(r:Rat)(co:List Rat):thrC D x r 0 co=co:=by
 have h1:(-0:Rat)=0:=by grind
 have h2:∀v:Rat,0/v=0:=fun v=>by rw[Rat.div_def,Rat.zero_mul]
 unfold thrC
 repeat' split
 all_goals simp only[h1,h2,Rat.zero_mul,zph]
theorem zvg(x:Ins)(g:Po):thrG x 0 g=g:=by
 unfold thrG
 simp only[zph,Rat.add_zero]
 repeat' split
 all_goals rfl
def backR(lim:Nat)(code:List Ins)(D:List Rat):Nat→List Rat→Po→(List Rat×Po)×Option Nat
 | 0,co,g=>((co,g),none)
 | n+1,co,g=>
  match code[n]? with
  | none=>((co,g),none)
  | some x=>if lim<sizQ (gI co n) then ((co,g),some n) else backR lim code D n (thrC D x (gI D n) (gI co n) co) (thrG x (gI co n) g)
def backL(code:List Ins)(D:List Rat):Nat→List Rat→Po→List Rat×Po
 | 0,co,g=>(co,g)
 | n+1,co,g=>
  match code[n]? with
  | none=>(co,g)
  | some x=>backL code D n (thrC D x (gI D n) (gI co n) co) (thrG x (gI co n) g)
theorem zn0(lim:Nat)(code:List Ins)(D:List Rat):∀(n:Nat) (co:List Rat) (g:Po),(backR lim code D n co g).2=none→(backR lim code D n co g).1=backL code D n co g
 | 0,co,g,_=>rfl
 | n+1,co,g,h=>by
  unfold backR at h ⊢
  unfold backL
  cases hx:code[n]? with
  | none=>rfl
  | some x=>
   rw[hx]at h
   dsimp only at h ⊢
   by_cases hl:lim<sizQ (gI co n)
   ·rw[if_pos hl]at h;cases h
   ·rw[if_neg hl]at h ⊢
    exact zn0 lim code D n _ _ h
def sendQ:List Int→List Rat→List Rat→List Rat
 | o::os,w::ws,co=>sendQ os ws (bmp co o w)
 | _,_,co=>co
@[simp] theorem zmm:∀(os:List Int) (ws co:List Rat),(sendQ os ws co).length=co.length
 | [],_,_=>rfl
 | _::_,[],_=>rfl
 | o::os,w::ws,co=>by rw[sendQ,zmm os ws,zrf]
def firstL(lim:Nat):List Rat→Nat→Option Nat
 | [],_=>none
 | q::l,k=>if lim<sizQ q then some k else firstL lim l (k+1)
def zeroP(d p:Nat):Po:=⟨0,List.replicate d 0,List.replicate p 0⟩
def allP(g:Po):List Rat:=g.t::(g.y++g.p)
def backT(lim:Nat)(t:Tp)(P:Po)(w:List Rat):Po×Nat×Nat×Nat:=
 if w.length≠t.outs.length then (zeroP 0 0,2,0,0)
 else if (tapeR lim t P).2.1≠0 then (zeroP 0 0,(tapeR lim t P).2.1,0,(tapeR lim t P).2.2)
 else
  match backR lim t.code (tapeR lim t P).1 t.code.length (sendQ t.outs w (List.replicate t.code.length 0)) (zeroP t.dim.toNat t.par.toNat) with
  | (_,some i)=>(zeroP 0 0,6,2,i)
  | (s,none)=>match firstL lim (allP s.2) 0 with | some k=>(zeroP 0 0,6,3,k) | none=>(s.2,0,0,0)
def addQL(l m:List Rat):List Rat:=List.zipWith (· + ·) l m
def addPo(g h:Po):Po:=⟨g.t+h.t,addQL g.y h.y,addQL g.p h.p⟩
theorem zeh(x:Ins)(c:Rat)(g:Po):(thrG x c g).y.length=g.y.length∧(thrG x c g).p.length=g.p.length:=by
 unfold thrG
 repeat' split
 all_goals simp
abbrev blk:Fz:=(false,[],[])
def bmpF(co:List Fz)(k:Nat)(q:Rat):List Fz:=co.set k (fz (fv (co.getD k blk)+q))
@[simp] theorem z0d(co:List Fz)(k:Nat)(q:Rat):(bmpF co k q).length=co.length:=by simp[bmpF]
theorem ztb:fv blk=0:=by decide +kernel
theorem zym(co:List Fz)(i:Int)(q:Rat):(bmpF co i.toNat q).map fv=bmp (co.map fv) i q:=by
 have e:fv (co.getD i.toNat blk)=gI (co.map fv) i:=by
  unfold gI
  rw[List.getD_eq_getElem?_getD,List.getD_eq_getElem?_getD,List.getElem?_map]
  cases co[i.toNat]? with
  | none=>exact ztb
  | some x=>rfl
 unfold bmpF bmp
 rw[List.map_set,za7,e]
theorem z0e{co:List Fz}{K:Nat}(h:∀x∈co,fsz x≤K)(k:Nat):fsz (co.getD k blk)≤K:=by
 rw[List.getD_eq_getElem?_getD]
 cases hx:co[k]? with
 | none=>exact Nat.zero_le _
 | some x=>exact h x (List.mem_of_getElem? hx)
theorem zey{co:List Fz}{K S:Nat}(k:Nat){q:Rat}(h:∀x∈co,fsz x≤K)(h1:1≤K)(hq:sz q≤S):∀x∈bmpF co k q,fsz x≤K+S+1:=by
 intro x hx
 rcases List.mem_or_eq_of_mem_set hx with h2 | h2
 ·have:=h x h2;omega
 ·rw[h2,zas]
  have h3:=zeq (fv (co.getD k blk)) q
  have h4:=za6 (z0e h k) h1
  omega
abbrev bkN(n ny np:Nat)(b:Bk):Heap:=
 [(.bor 0,⟨0,.str,11,[[.sl (rowI b.t.code) .an,.sl (ints b.t.outs) .an,.i .i64 b.t.dim,.i .i64 b.t.par,.sl (rowF b.done) .an,.bs (.bor 1) 1 3 0 n,.b b.g.t.1,.sl (u32s b.g.t.2.1) .an,.sl (u32s b.g.t.2.2) .an,
   .bs (.bor 2) 2 3 0 ny,.bs (.bor 3) 3 3 0 np]]⟩),
  (.bor 1,⟨1,.own,3,rowF b.co⟩),(.bor 2,⟨2,.own,3,rowF b.g.y⟩),(.bor 3,⟨3,.own,3,rowF b.g.p⟩)]
section
variable{T:Tbl}[CLimb T][CNat T][CProd T][CTwos T][CQuot T][CQuotD T][CWhole T][CCommon T][CFrac T][CFrac3 T][CFrac5 T][CPow T][CDigits T][CText T][CJoin T][CRow T][CPull T]
theorem zch(n ny np:Nat)(b:Bk)(k:Nat)(c:Fz)(hn:b.co.length=n)(hk:k<n)(hx:∀x∈b.co,fsz x≤30000)(hc:fsz c≤30000) :
  callH T 410 [bkP,.i .i64 k,efz c] (bkN n ny np b)=some (.tup [],bkN n ny np { b with co:=bmpF b.co k (fv c) }):=by
 have hk0:k<b.co.length:=by omega
 have hg:b.co[k]? = some (b.co[k]'hk0):=List.getElem?_eq_getElem hk0
 have e:b.co.getD k blk=b.co[k]'hk0:=by rw[List.getD_eq_getElem?_getD,hg];rfl
 have ca:=zcr (T:=T) (b.co[k]'hk0) c (hx _ (List.getElem_mem hk0)) hc
 unfold bmpF
 rw[e]
 generalize b.co[k]'hk0=x at *
 obtain⟨_,hge⟩:=List.getElem?_eq_some_iff.1 hg
 have hlt':(k:Int)<n:=by omega
 obtain⟨⟨code,outs,dim,par⟩,done,co,⟨⟨g0,g1,g2⟩,gy,gp⟩⟩:=b
 dsimp only at *
 generalize fz (fv x+fv c)=z at *
 have hp:wkL ((rowF co).set k [.b z.1,.sl (u32s z.2.1) .an,.sl (u32s z.2.2) .an])=rowF (co.set k z):=by
  have:(rowF co).set k (celF z)=rowF (co.set k z):=by simp[rowF,List.map_set]
  show wkL ((rowF co).set k (celF z))=_
  rw[this,zf9]
 rw[f410 _ _ rfl,b410]
 simp -implicitDefEqProofs[ca,hg,hk,hk0,hlt',hge,hp]
theorem zwl(n ny np:Nat)(b:Bk)(x:Ins)(c r dB:Fz)(kA kB:Nat)(ha:x.a=kA)(hb:x.b=kB)(hn:b.co.length=n)(hA:kA<n)(hB:kB<n)(hd:b.done[kB]? = some dB)(hx:∀y∈b.co,fsz y≤29000)(hc:fsz c≤129)(hr:fsz r≤129)(hdb:fsz dB≤129) :
  callH T 427 [bkP,.agg (celI x),efz c,efz r] (bkN n ny np b)=some (.tup [],bkN n ny np { b with co:=bmpF (bmpF b.co kA (fv c/fv dB)) kB (-(fv c/fv dB*fv r)) }):=by
 have cq:=zfh (T:=T) c dB (by omega) (by omega)
 have vc:=za6 hc (by decide)
 have vr:=za6 hr (by decide)
 have vd:=za6 hdb (by decide)
 have z1:=zer (fv c) (fv dB)
 have z2:=zbc (fv c/fv dB) (fv r)
 have cm:=zbr (T:=T) (fz (fv c/fv dB)) r (by rw[zas];omega) (by omega)
 have cn:=zff (T:=T) (fz (fv c/fv dB*fv r)) (by rw[zas];omega)
 have s1:=zch (T:=T) n ny np b kA (fz (fv c/fv dB)) hn hA (fun y hy=>Nat.le_trans (hx y hy) (by decide)) (by rw[zas];omega)
 have s2:=zch (T:=T) n ny np { b with co:=bmpF b.co kA (fv c/fv dB) } kB (fz (-(fv c/fv dB*fv r))) (by simpa using hn) hB
  (fun y hy=>by have:=zey (K:=29001) (S:=258) kA (fun y hy=>Nat.le_trans (hx y hy) (by decide)) (by decide) (by omega) y hy;omega) (by rw[zas,zid];omega)
 obtain⟨hlt,hge⟩:=List.getElem?_eq_some_iff.1 hd
 have hlt':(kB:Int)<b.done.length:=by omega
 rw[za7]at cm cn s1 s2
 generalize decide (fv dB≠0)=bb at *
 generalize bmpF (bmpF b.co kA (fv c/fv dB)) kB (-(fv c/fv dB*fv r))=C2 at *
 generalize bmpF b.co kA (fv c/fv dB)=C1 at *
 generalize fz (-(fv c/fv dB*fv r))=z3 at *
 generalize fz (fv c/fv dB*fv r)=z4 at *
 generalize fz (fv c/fv dB)=z5 at *
 clear z1 z2 vc vr vd
 obtain⟨⟨code,outs,dim,par⟩,done,co,⟨⟨g0,g1,g2⟩,gy,gp⟩⟩:=b
 obtain⟨op,ia,ib,n⟩:=x
 dsimp only at *
 subst ha
 subst hb
 rw[f427 _ _ rfl,b427]
 simp -implicitDefEqProofs[cq,cm,cn,s1,s2,hd,hlt',hlt,hge]
theorem ztc{q:Rat}(hq:sz q≤129){e:Int}(h0:0<e)(h1:e≤8):sz (powZ q (e-1))≤904:=by
 obtain⟨n,hn⟩:∃n:Nat,e-1=n:=⟨(e-1).toNat,by omega⟩
 unfold powZ
 rw[hn,Rat.zpow_natCast]
 have:=zuq q n
 have h3:n*sz q≤7*129:=Nat.mul_le_mul (by omega) hq
 omega
theorem zoz(e:Int)(h1:-8≤e)(h2:e≤8):sz (e:Rat)≤1:=by
 have h:e=-8∨e=-7∨e=-6∨e=-5∨e=-4∨e=-3∨e=-2∨e=-1∨e=0∨e=1∨e=2∨e=3∨e=4∨e=5∨e=6∨e=7∨e=8:=by omega
 unfold sz
 rw[Rat.num_intCast,Rat.den_intCast]
 refine Nat.max_le.2 ⟨?_,by decide +kernel⟩
 refine zan ?_
 rw[Nat.pow_one]
 omega
theorem zwm(n ny np:Nat)(b:Bk)(x:Ins)(c r dA:Fz)(kA:Nat)(ha:x.a=kA)(h8:-8≤x.b)(h8':x.b≤8)(hn:b.co.length=n)(hA:kA<n)(hd:b.done[kA]? = some dA)(hx:∀y∈b.co,fsz y≤29000)(hc:fsz c≤129)(hr:fsz r≤129)(hda:fsz dA≤129) :
  callH T 428 [bkP,.agg (celI x),efz c,efz r] (bkN n ny np b)=some (.tup [],bkN n ny np { b with co:=bmpF b.co kA (fv c*(x.b*(if 0<x.b then powZ (fv dA) (x.b-1) else if x.b<0 then fv r/fv dA else 0))) }):=by
 have c0:=zcy (T:=T)
 have ce:=zfy (T:=T) x.b (by omega) (by omega)
 have vc:=za6 hc (by decide)
 have vr:=za6 hr (by decide)
 have vd:=za6 hda (by decide)
 have ze:=zoz x.b h8 h8'
 obtain⟨hlt,hge⟩:=List.getElem?_eq_some_iff.1 hd
 have hlt':(kA:Int)<b.done.length:=by omega
 -- the last steps,whatever the turn is
 have fin:∀q:Rat,sz q≤904→callF T 217 [efz (fz (x.b:Rat)),efz (fz q)]=some (efz (fz (x.b*q)))∧callF T 217 [efz c,efz (fz (x.b*q))]=some (efz (fz (fv c*(x.b*q)))) ∧
   callH T 410 [bkP,.i .i64 kA,efz (fz (fv c*(x.b*q)))] (bkN n ny np b)=some (.tup [],bkN n ny np { b with co:=bmpF b.co kA (fv c*(x.b*q)) }):=by
  intro q hq
  have z1:=zbc (x.b:Rat) q
  have z2:=zbc (fv c) (x.b*q)
  have m1:=zbr (T:=T) (fz (x.b:Rat)) (fz q) (by rw[zas];omega) (by rw[zas];omega)
  have m2:=zbr (T:=T) c (fz (x.b*q)) (by omega) (by rw[zas];omega)
  have s1:=zch (T:=T) n ny np b kA (fz (fv c*(x.b*q))) hn hA (fun y hy=>Nat.le_trans (hx y hy) (by decide)) (by rw[zas];omega)
  rw[za7,za7]at m1
  rw[za7]at m2 s1
  exact⟨m1,m2,s1⟩
 by_cases h1:0<x.b
 ·have cp:=zgs (T:=T) dA (x.b-1) (by omega)
  have e2:=zkd (q:=fv dA) (e:=x.b-1) (by omega) (by omega)
  rw[if_neg (by omega)]at e2
  rw[e2]at cp
  obtain⟨m1,m2,s1⟩:=fin _ (ztc vd h1 h8')
  rw[if_pos h1]
  have hw:IntKind.wrap .i64 (x.b-1)=x.b-1:=zad _ (by omega)
  generalize bmpF b.co kA (fv c*(x.b*powZ (fv dA) (x.b-1)))=C1 at *
  generalize fz (fv c*(x.b*powZ (fv dA) (x.b-1)))=z1 at *
  generalize fz (x.b*powZ (fv dA) (x.b-1))=z2 at *
  generalize fz (powZ (fv dA) (x.b-1))=z3 at *
  generalize fz (x.b:Rat)=z4 at *
  generalize fz 0=z5 at *
  clear e2 fin vc vr vd ze
  obtain⟨⟨code,outs,dim,par⟩,done,co,⟨⟨g0,g1,g2⟩,gy,gp⟩⟩:=b
  obtain⟨op,ia,ib,n⟩:=x
  dsimp only at *
  subst ha
  rw[f428 _ _ rfl,b428]
  simp -implicitDefEqProofs[c0,ce,cp,m1,m2,s1,hd,hlt',hlt,hge,h1,hw]
 ·by_cases h2:x.b<0
  ·have cq:=zfh (T:=T) r dA (by omega) (by omega)
   have z0:=zer (fv r) (fv dA)
   obtain⟨m1,m2,s1⟩:=fin (fv r/fv dA) (by omega)
   rw[if_neg h1,if_pos h2]
   generalize decide (fv dA≠0)=bb at *
   generalize bmpF b.co kA (fv c*(x.b*(fv r/fv dA)))=C1 at *
   generalize fz (fv c*(x.b*(fv r/fv dA)))=z1 at *
   generalize fz (x.b*(fv r/fv dA))=z2 at *
   generalize fz (fv r/fv dA)=z3 at *
   generalize fz (x.b:Rat)=z4 at *
   generalize fz 0=z5 at *
   clear fin vc vr vd ze z0
   obtain⟨⟨code,outs,dim,par⟩,done,co,⟨⟨g0,g1,g2⟩,gy,gp⟩⟩:=b
   obtain⟨op,ia,ib,n⟩:=x
   dsimp only at *
   subst ha
   rw[f428 _ _ rfl,b428]
   simp -implicitDefEqProofs[c0,ce,cq,m1,m2,s1,hd,hlt',hlt,hge,h1,h2]
  ·obtain⟨m1,m2,s1⟩:=fin 0 (by decide +kernel)
   rw[if_neg h1,if_neg h2]
   generalize bmpF b.co kA (fv c*(x.b*0))=C1 at *
   generalize fz (fv c*(x.b*0))=z1 at *
   generalize fz (x.b*0)=z2 at *
   generalize fz (x.b:Rat)=z4 at *
   generalize fz 0=z5 at *
   clear fin vc vr vd ze
   obtain⟨⟨code,outs,dim,par⟩,done,co,⟨⟨g0,g1,g2⟩,gy,gp⟩⟩:=b
   obtain⟨op,ia,ib,n⟩:=x
   dsimp only at *
   subst ha
   rw[f428 _ _ rfl,b428]
   simp -implicitDefEqProofs[c0,ce,m1,m2,s1,hd,hlt',hlt,hge,h1,h2]
end
def thrF(D:List Fz)(x:Ins)(r c:Rat)(co:List Fz):List Fz:=
 if c=0 then co
 else if x.op=6 then bmpF co x.a.toNat (-c)
 else if x.op=7 then bmpF (bmpF co x.a.toNat c) x.b.toNat c
 else if x.op=8 then bmpF (bmpF co x.a.toNat c) x.b.toNat (-c)
 else if x.op=9 then bmpF (bmpF co x.a.toNat (c*gI (D.map fv) x.b)) x.b.toNat (c*gI (D.map fv) x.a)
 else if x.op=10 then bmpF (bmpF co x.a.toNat (c/gI (D.map fv) x.b)) x.b.toNat (-(c/gI (D.map fv) x.b*r))
 else if x.op=11 then bmpF co x.a.toNat (c*(x.b*turnW (D.map fv) x r))
 else co
def thrH(x:Ins)(c:Rat)(g:PoF):PoF:=
 if c=0 then g
 else if x.op=2 then ⟨fz (fv g.t+c),g.y,g.p⟩ else if x.op=3 then ⟨g.t,bmpF g.y x.a.toNat c,g.p⟩ else if x.op=4 then ⟨g.t,g.y,bmpF g.p x.a.toNat c⟩ else g
theorem z50(D:List Fz)(x:Ins)(r c:Rat)(co:List Fz):(thrF D x r c co).map fv=thrC (D.map fv) x r c (co.map fv):=by
 unfold thrF
 by_cases h:c=0
 ·subst h
  rw[if_pos rfl,zvf]
 ·rw[if_neg h]
  unfold thrC
  repeat' split
  all_goals simp only[zym]
@[simp] theorem z0f(D:List Fz)(x:Ins)(r c:Rat)(co:List Fz):(thrF D x r c co).length=co.length:=by
 unfold thrF
 repeat' split
 all_goals simp
theorem ztd{D:List Fz}{i:Int}{k:Nat}{u:Fz}(h:i=k)(hu:D[k]? = some u):gI (D.map fv) i=fv u:=by
 subst h
 unfold gI
 rw[List.getD_eq_getElem?_getD,List.getElem?_map,Int.toNat_natCast,hu]
 rfl
theorem z0g{D:List Fz}{x:Ins}{r c:Rat}{co:List Fz}{K p:Nat}{dim par:Int}(hm:mayI dim par p x=true)(hD:∀u∈D,fsz u≤129)(hc:sz c≤129)(hr:sz r≤129)(h:∀u∈co,fsz u≤K)(h1:1≤K) :
  ∀u∈thrF D x r c co,fsz u≤K+1036:=by
 have hg:∀i,sz (gI (D.map fv) i)≤129:=fun i=>zcw (by decide) fun q hq=>by
  obtain⟨u,hu,rfl⟩:=List.mem_map.1 hq
  exact za6 (hD u hu) (by decide)
 have ga:=hg x.a
 have gb:=hg x.b
 have z0:=zid c
 have z1:=zbc c (gI (D.map fv) x.b)
 have z2:=zbc c (gI (D.map fv) x.a)
 have z3:=zer c (gI (D.map fv) x.b)
 have z4:=zbc (c/gI (D.map fv) x.b) r
 have z5:=zid (c/gI (D.map fv) x.b*r)
 have two:∀(S S':Nat) (k k':Nat) (q q':Rat),sz q≤S→sz q'≤S'→S+S'≤1000→∀u∈bmpF (bmpF co k q) k' q',fsz u≤K+1036:=by
  intro S S' k k' q q' hq hq' hS u hu
  have:=zey k' (zey k h h1 hq) (by omega) hq' u hu
  omega
 unfold thrF
 repeat' split
 ·intro u hu;have:=h u hu;omega
 ·intro u hu;have:=zey (S:=129) x.a.toNat h h1 (by omega) u hu;omega
 ·exact two 129 129 _ _ _ _ (by omega) (by omega) (by decide)
 ·exact two 129 129 _ _ _ _ (by omega) (by omega) (by decide)
 ·exact two 258 258 _ _ _ _ (by omega) (by omega) (by decide)
 ·exact two 258 387 _ _ _ _ (by omega) (by omega) (by decide)
 ·rename_i h11
  obtain⟨e1,e2⟩:=zn3 hm h11
  have zt:sz (turnW (D.map fv) x r)≤904:=by
   unfold turnW
   split
   ·exact ztc ga (by omega) e2
   ·split
    ·have:=zer r (gI (D.map fv) x.a);omega
    ·exact(by decide +kernel:sz 0≤904)
  have z6:=zbc (x.b:Rat) (turnW (D.map fv) x r)
  have z7:=zoz x.b e1 e2
  have z8:=zbc c (x.b*turnW (D.map fv) x r)
  intro u hu
  have:=zey (S:=1034) x.a.toNat h h1 (by omega) u hu
  omega
 ·intro u hu;have:=h u hu;omega
section
variable{T:Tbl}[CLimb T][CNat T][CProd T][CTwos T][CQuot T][CQuotD T][CWhole T][CCommon T][CFrac T][CFrac3 T][CFrac5 T][CPow T][CDigits T][CText T][CJoin T][CRow T][CPull T]
theorem zwn(n ny np:Nat)(b:Bk)(x:Ins)(k:Nat)(c r:Fz)(hx:b.t.code[k]? = some x)(hm:mayI b.t.dim b.t.par k x=true)(hdl:b.done.length=n)(hcl:b.co.length=n)(hyl:b.g.y.length=ny)(hpl:b.g.p.length=np)(hy:(ny:Int)=b.t.dim)(hp:(np:Int)=b.t.par)
  (hc:b.co[k]? = some c) (hr:b.done[k]? = some r) (zc:fsz c≤129) (zd:∀u∈b.done,fsz u≤129) (zo:∀u∈b.co,fsz u≤29000) (zt:fsz b.g.t≤29000) (zy:∀u∈b.g.y,fsz u≤29000) (zp:∀u∈b.g.p,fsz u≤29000) :
  callH T 412 [bkP,.i .i64 k] (bkN n ny np b)=some (.tup [],bkN n ny np { b with co:=thrF b.done x (fv r) (fv c) b.co,g:=thrH x (fv c) b.g }):=by
 have csg:=zlu (T:=T) c (by omega)
 obtain⟨kc1,kc2⟩:=List.getElem?_eq_some_iff.1 hc
 obtain⟨kx1,kx2⟩:=List.getElem?_eq_some_iff.1 hx
 obtain⟨kr1,kr2⟩:=List.getElem?_eq_some_iff.1 hr
 have kc1':(k:Int)<n:=by omega
 have kx1':(k:Int)<b.t.code.length:=by omega
 have kr1':(k:Int)<b.done.length:=by omega
 have zr:=zd r (List.mem_of_getElem? hr)
 have vc:=za6 zc (by decide)
 by_cases h0:fv c=0
 ·have h0':sgQ (fv c)=0:=zfq.2 h0
  unfold thrF thrH
  rw[if_pos h0,if_pos h0]
  rw[h0']at csg
  clear h0' h0 vc zr zd zo zt zy zp
  obtain⟨⟨code,outs,dim,par⟩,done,co,⟨⟨g0,g1,g2⟩,gy,gp⟩⟩:=b
  dsimp only at *
  rw[f412 _ _ rfl,b412]
  simp -implicitDefEqProofs[csg,hx,hc,kc1',kx1',kc2,kx2]
 have h0':¬ sgQ (fv c)=0:=fun h=>h0 (zfq.1 h)
 have op:=zih hm
 have sd:=fun(y:Fz) (i:Nat) (hi:i<n) (hy:fsz y≤29000)=>zch (T:=T) n ny np b i y hcl hi (fun u hu=>Nat.le_trans (zo u hu) (by decide)) (by omega)
 have sd2:=fun(q:Rat) (j:Nat) (hq:sz q≤258) (y:Fz) (i:Nat) (hi:i<n) (hy:fsz y≤29000)=>zch (T:=T) n ny np { b with co:=bmpF b.co j q } i y (by simpa using hcl) hi
  (fun u hu=>by have:=zey (K:=29000) (S:=258) j zo (by decide) hq u hu;omega) (by omega)
 have cn:=zff (T:=T) c (by omega)
 have zn:fsz (fz (-fv c))≤29000:=by rw[zas,zid];omega
 have zc':fsz c≤29000:=by omega
 unfold thrF thrH
 rw[if_neg h0,if_neg h0]
 have sx:∀(l:List Fz) (j:Nat) (z:Fz),wkL ((rowF l).set j [.b z.1,.sl (u32s z.2.1) .an,.sl (u32s z.2.2) .an])=rowF (l.set j z):=by
  intro l j z
  have:(rowF l).set j (celF z)=rowF (l.set j z):=by simp[rowF,List.map_set]
  show wkL ((rowF l).set j (celF z))=_
  rw[this,zf9]
 have gq:∀{i:Int} {j:Nat} {u:Fz},i=j→b.done[j]? = some u→gI (b.done.map fv) i=fv u:=fun h1 h2=>ztd h1 h2
 generalize sgQ (fv c)=sg at csg h0'
 clear h0
 rcases op with h | h | h | h | h | h | h | h | h | h
 ·-- constant
  simp only[h,Int.reduceEq,if_false,if_true]
  obtain⟨⟨code,outs,dim,par⟩,done,co,⟨⟨g0,g1,g2⟩,gy,gp⟩⟩:=b
  obtain⟨xo,xa,xb,xn⟩:=x
  dsimp only at *
  subst h
  rw[f412 _ _ rfl,b412]
  simp -implicitDefEqProofs[csg,h0',hx,hc,kc1',kx1',kc2,kx2]
 ·-- moment
  simp only[h,Int.reduceEq,if_false,if_true]
  have ca:=zcr (T:=T) b.g.t c (by omega) (by omega)
  generalize fz (fv b.g.t+fv c)=z at *
  obtain⟨⟨code,outs,dim,par⟩,done,co,⟨⟨g0,g1,g2⟩,gy,gp⟩⟩:=b
  obtain⟨xo,xa,xb,xn⟩:=x
  dsimp only at *
  subst h
  rw[f412 _ _ rfl,b412]
  simp -implicitDefEqProofs[csg,h0',hx,hc,kc1',kx1',kc2,kx2,ca]
 ·-- state
  simp only[h,Int.reduceEq,if_false,if_true]
  obtain⟨ja,hja⟩:∃j:Nat,x.a=j:=⟨x.a.toNat,by have:=(zvp hm h).1;omega⟩
  have hA:ja<ny:=by have:=(zvp hm h).2;omega
  have hAl:ja<b.g.y.length:=by omega
  obtain⟨u,hu⟩:∃u,b.g.y[ja]? = some u:=⟨_,List.getElem?_eq_getElem hAl⟩
  obtain⟨_,hu2⟩:=List.getElem?_eq_some_iff.1 hu
  have hA':(ja:Int)<ny:=by omega
  have ca:=zcr (T:=T) u c (by have:=zy u (List.mem_of_getElem? hu);omega) (by omega)
  have eu:b.g.y.getD ja blk=u:=by rw[List.getD_eq_getElem?_getD,hu];rfl
  unfold bmpF
  rw[hja,Int.toNat_natCast,eu]
  generalize fz (fv u+fv c)=z at *
  have sx1:=sx b.g.y ja z
  obtain⟨⟨code,outs,dim,par⟩,done,co,⟨⟨g0,g1,g2⟩,gy,gp⟩⟩:=b
  obtain⟨xo,xa,xb,xn⟩:=x
  dsimp only at *
  subst h
  rw[f412 _ _ rfl,b412]
  simp -implicitDefEqProofs[csg,h0',hx,hc,kc1',kx1',kc2,kx2,ca,hu,hu2,hA,hA',hAl,sx1,hja]
 ·-- parameter
  simp only[h,Int.reduceEq,if_false,if_true]
  obtain⟨ja,hja⟩:∃j:Nat,x.a=j:=⟨x.a.toNat,by have:=(zvq hm h).1;omega⟩
  have hA:ja<np:=by have:=(zvq hm h).2;omega
  have hAl:ja<b.g.p.length:=by omega
  obtain⟨u,hu⟩:∃u,b.g.p[ja]? = some u:=⟨_,List.getElem?_eq_getElem hAl⟩
  obtain⟨_,hu2⟩:=List.getElem?_eq_some_iff.1 hu
  have hA':(ja:Int)<np:=by omega
  have ca:=zcr (T:=T) u c (by have:=zp u (List.mem_of_getElem? hu);omega) (by omega)
  have eu:b.g.p.getD ja blk=u:=by rw[List.getD_eq_getElem?_getD,hu];rfl
  unfold bmpF
  rw[hja,Int.toNat_natCast,eu]
  generalize fz (fv u+fv c)=z at *
  have sx1:=sx b.g.p ja z
  obtain⟨⟨code,outs,dim,par⟩,done,co,⟨⟨g0,g1,g2⟩,gy,gp⟩⟩:=b
  obtain⟨xo,xa,xb,xn⟩:=x
  dsimp only at *
  subst h
  rw[f412 _ _ rfl,b412]
  simp -implicitDefEqProofs[csg,h0',hx,hc,kc1',kx1',kc2,kx2,ca,hu,hu2,hA,hA',hAl,sx1,hja]
 ·-- other side
  simp only[h,Int.reduceEq,if_false,if_true]
  obtain⟨ja,hja⟩:∃j:Nat,x.a=j:=⟨x.a.toNat,by have:=(zej hm (by omega)).1;omega⟩
  have hA:ja<n:=by have:=(zej hm (by omega)).2;omega
  have s1:=sd (fz (-fv c)) ja hA zn
  rw[za7]at s1
  rw[hja,Int.toNat_natCast]
  generalize bmpF b.co ja (-fv c)=C1 at *
  generalize fz (-fv c)=z1 at *
  obtain⟨⟨code,outs,dim,par⟩,done,co,⟨⟨g0,g1,g2⟩,gy,gp⟩⟩:=b
  obtain⟨xo,xa,xb,xn⟩:=x
  dsimp only at *
  subst h
  rw[f412 _ _ rfl,b412]
  simp -implicitDefEqProofs[csg,h0',hx,hc,kc1',kx1',kc2,kx2,cn,s1,hja]
 ·-- sum
  simp only[h,Int.reduceEq,if_false,if_true]
  obtain⟨ja,hja⟩:∃j:Nat,x.a=j:=⟨x.a.toNat,by have:=(zej hm (by omega)).1;omega⟩
  have hA:ja<n:=by have:=(zej hm (by omega)).2;omega
  obtain⟨jb,hjb⟩:∃j:Nat,x.b=j:=⟨x.b.toNat,by have:=(zgj hm (by omega)).1;omega⟩
  have hB:jb<n:=by have:=(zgj hm (by omega)).2;omega
  have s1:=sd c ja hA zc'
  have s2:=sd2 (fv c) ja (by omega) c jb hB zc'
  rw[hja,hjb,Int.toNat_natCast,Int.toNat_natCast]
  generalize bmpF (bmpF b.co ja (fv c)) jb (fv c)=C2 at *
  generalize bmpF b.co ja (fv c)=C1 at *
  obtain⟨⟨code,outs,dim,par⟩,done,co,⟨⟨g0,g1,g2⟩,gy,gp⟩⟩:=b
  obtain⟨xo,xa,xb,xn⟩:=x
  dsimp only at *
  subst h
  rw[f412 _ _ rfl,b412]
  simp -implicitDefEqProofs[csg,h0',hx,hc,kc1',kx1',kc2,kx2,s1,s2,hja,hjb]
 ·-- difference
  simp only[h,Int.reduceEq,if_false,if_true]
  obtain⟨ja,hja⟩:∃j:Nat,x.a=j:=⟨x.a.toNat,by have:=(zej hm (by omega)).1;omega⟩
  have hA:ja<n:=by have:=(zej hm (by omega)).2;omega
  obtain⟨jb,hjb⟩:∃j:Nat,x.b=j:=⟨x.b.toNat,by have:=(zgj hm (by omega)).1;omega⟩
  have hB:jb<n:=by have:=(zgj hm (by omega)).2;omega
  have s1:=sd c ja hA zc'
  have s2:=sd2 (fv c) ja (by omega) (fz (-fv c)) jb hB zn
  rw[za7]at s2
  rw[hja,hjb,Int.toNat_natCast,Int.toNat_natCast]
  generalize bmpF (bmpF b.co ja (fv c)) jb (-fv c)=C2 at *
  generalize bmpF b.co ja (fv c)=C1 at *
  generalize fz (-fv c)=z1 at *
  obtain⟨⟨code,outs,dim,par⟩,done,co,⟨⟨g0,g1,g2⟩,gy,gp⟩⟩:=b
  obtain⟨xo,xa,xb,xn⟩:=x
  dsimp only at *
  subst h
  rw[f412 _ _ rfl,b412]
  simp -implicitDefEqProofs[csg,h0',hx,hc,kc1',kx1',kc2,kx2,cn,s1,s2,hja,hjb]
 ·-- product
  simp only[h,Int.reduceEq,if_false,if_true]
  obtain⟨ja,hja⟩:∃j:Nat,x.a=j:=⟨x.a.toNat,by have:=(zej hm (by omega)).1;omega⟩
  have hA:ja<n:=by have:=(zej hm (by omega)).2;omega
  obtain⟨jb,hjb⟩:∃j:Nat,x.b=j:=⟨x.b.toNat,by have:=(zgj hm (by omega)).1;omega⟩
  have hB:jb<n:=by have:=(zgj hm (by omega)).2;omega
  obtain⟨da,hda⟩:∃u,b.done[ja]? = some u:=⟨_,List.getElem?_eq_getElem (by omega)⟩
  obtain⟨hda1,hda2⟩:=List.getElem?_eq_some_iff.1 hda
  have hda3:(ja:Int)<b.done.length:=by omega
  have zda:=zd da (List.mem_of_getElem? hda)
  have vda:=za6 zda (by decide)
  obtain⟨db,hdb⟩:∃u,b.done[jb]? = some u:=⟨_,List.getElem?_eq_getElem (by omega)⟩
  obtain⟨hdb1,hdb2⟩:=List.getElem?_eq_some_iff.1 hdb
  have hdb3:(jb:Int)<b.done.length:=by omega
  have zdb:=zd db (List.mem_of_getElem? hdb)
  have vdb:=za6 zdb (by decide)
  have z1:=zbc (fv c) (fv db)
  have z2:=zbc (fv c) (fv da)
  have m1:=zbr (T:=T) c db (by omega) (by omega)
  have m2:=zbr (T:=T) c da (by omega) (by omega)
  have s1:=sd (fz (fv c*fv db)) ja hA (by rw[zas];omega)
  have s2:=sd2 (fv c*fv db) ja (by omega) (fz (fv c*fv da)) jb hB (by rw[zas];omega)
  rw[za7]at s1 s2
  rw[gq hja hda,gq hjb hdb,hja,hjb,Int.toNat_natCast,Int.toNat_natCast]
  generalize bmpF (bmpF b.co ja (fv c*fv db)) jb (fv c*fv da)=C2 at *
  generalize bmpF b.co ja (fv c*fv db)=C1 at *
  generalize fz (fv c*fv db)=u1 at *
  generalize fz (fv c*fv da)=u2 at *
  clear sd sd2 z1 z2
  obtain⟨⟨code,outs,dim,par⟩,done,co,⟨⟨g0,g1,g2⟩,gy,gp⟩⟩:=b
  obtain⟨xo,xa,xb,xn⟩:=x
  dsimp only at *
  subst h
  rw[f412 _ _ rfl,b412]
  simp -implicitDefEqProofs[csg,h0',hx,hc,kc1',kx1',kc2,kx2,m1,m2,s1,s2,hja,hjb,hda,hdb,hda1,hdb1,hda2,hdb2,hda3,hdb3]
 ·-- quotient
  simp only[h,Int.reduceEq,if_false,if_true]
  obtain⟨ja,hja⟩:∃j:Nat,x.a=j:=⟨x.a.toNat,by have:=(zej hm (by omega)).1;omega⟩
  have hA:ja<n:=by have:=(zej hm (by omega)).2;omega
  obtain⟨jb,hjb⟩:∃j:Nat,x.b=j:=⟨x.b.toNat,by have:=(zgj hm (by omega)).1;omega⟩
  have hB:jb<n:=by have:=(zgj hm (by omega)).2;omega
  obtain⟨db,hdb⟩:∃u,b.done[jb]? = some u:=⟨_,List.getElem?_eq_getElem (by omega)⟩
  obtain⟨hdb1,hdb2⟩:=List.getElem?_eq_some_iff.1 hdb
  have hdb3:(jb:Int)<b.done.length:=by omega
  have zdb:=zd db (List.mem_of_getElem? hdb)
  have vdb:=za6 zdb (by decide)
  have q1:=zwl (T:=T) n ny np b x c r db ja jb hja hjb hcl hA hB hdb zo zc zr zdb
  rw[gq hjb hdb,hja,hjb,Int.toNat_natCast,Int.toNat_natCast]
  generalize bmpF (bmpF b.co ja (fv c/fv db)) jb (-(fv c/fv db*fv r))=C2 at *
  clear sd sd2
  obtain⟨⟨code,outs,dim,par⟩,done,co,⟨⟨g0,g1,g2⟩,gy,gp⟩⟩:=b
  obtain⟨xo,xa,xb,xn⟩:=x
  dsimp only at *
  subst h
  subst hja
  subst hjb
  rw[f412 _ _ rfl,b412]
  simp -implicitDefEqProofs[csg,h0',hx,hc,kc1',kx1',kc2,kx2,q1,hr,kr1,kr2,kr1']
 ·-- power
  simp only[h,Int.reduceEq,if_false,if_true]
  obtain⟨ja,hja⟩:∃j:Nat,x.a=j:=⟨x.a.toNat,by have:=(zej hm (by omega)).1;omega⟩
  have hA:ja<n:=by have:=(zej hm (by omega)).2;omega
  obtain⟨da,hda⟩:∃u,b.done[ja]? = some u:=⟨_,List.getElem?_eq_getElem (by omega)⟩
  obtain⟨hda1,hda2⟩:=List.getElem?_eq_some_iff.1 hda
  have hda3:(ja:Int)<b.done.length:=by omega
  have zda:=zd da (List.mem_of_getElem? hda)
  have vda:=za6 zda (by decide)
  obtain⟨e1,e2⟩:=zn3 hm h
  have q1:=zwm (T:=T) n ny np b x c r da ja hja e1 e2 hcl hA hda zo zc zr zda
  have et:turnW (b.done.map fv) x (fv r)=(if 0<x.b then powZ (fv da) (x.b-1) else if x.b<0 then fv r/fv da else 0):=by
   unfold turnW
   rw[gq hja hda]
  rw[et,hja,Int.toNat_natCast]
  generalize (if 0<x.b then powZ (fv da) (x.b-1) else if x.b<0 then fv r/fv da else 0)=tq at *
  generalize bmpF b.co ja (fv c*(x.b*tq))=C2 at *
  clear sd sd2
  obtain⟨⟨code,outs,dim,par⟩,done,co,⟨⟨g0,g1,g2⟩,gy,gp⟩⟩:=b
  obtain⟨xo,xa,xb,xn⟩:=x
  dsimp only at *
  subst h
  subst hja
  rw[f412 _ _ rfl,b412]
  simp -implicitDefEqProofs[csg,h0',hx,hc,kc1',kx1',kc2,kx2,q1,hr,kr1,kr2,kr1']
end
section
variable{T:Tbl}[CLimb T][CNat T][CProd T][CTwos T][CQuot T][CQuotD T][CWhole T][CCommon T][CFrac T][CFrac3 T][CFrac5 T][CPow T][CDigits T][CText T][CJoin T][CRow T][CTape T][CEval T][CGauge T][CPull T]
theorem zp9(x:Fz)(hx:fsz x≤30000):callF T 223 [efz x]=some (.i .i64 (sizF x)):=by
 have h1:=zd4 x
 have h2:=zei x
 have c1:=zgt (T:=T) x.2.1 (by omega)
 have c2:=zgt (T:=T) x.2.2 (by omega)
 have b1:=zgu (x:=val x.2.1) (k:=30000) (Nat.le_trans (zac x.2.1) (by omega))
 have b2:=zgu (x:=val x.2.2) (k:=30000) (Nat.le_trans (zac x.2.2) (by omega))
 have w:IntKind.wrap .i64 ((blen (val x.2.1):Int)+(blen (val x.2.2):Int))=((sizF x:Nat):Int):=by
  have e:((sizF x:Nat):Int)=(blen (val x.2.1):Int)+(blen (val x.2.2):Int):=by unfold sizF;omega
  rw[e]
  exact zad _ (by omega)
 rw[f223 _ rfl,b223]
 generalize sizF x=S at *
 generalize blen (val x.2.1)=B1 at *
 generalize blen (val x.2.2)=B2 at *
 simp -implicitDefEqProofs[c1,c2,w]
theorem zdm(s p L:Int)(x:Fz)(hx:fsz x≤30000):callH T 411 [.ptr (.bor 0) 0 3 0 0,efz x] [(.bor 0,bxG 0 s p L)]=some (.b (decide ((sizF x:Int)≤L)),[(.bor 0,bxG 0 (cntS s) (cntP p x) L)]):=by
 have h1:=zp9 (T:=T) x hx
 have h2:=zi6 (T:=T) s p L (sizF x)
 unfold cntP
 rw[f411 _ _ rfl,b411]
 generalize cntS s=s' at *
 generalize (if p<(sizF x:Int) then (sizF x:Int) else p)=p' at *
 generalize (sizF x:Int)=z at *
 simp -implicitDefEqProofs[h1,h2]
theorem zwo(g:PoF)(hy:g.y≠[])(hl:g.y.length≤1000)(hl2:g.p.length≤1000):callF T 414 [ept g]=some (.sl (rowF (g.t::(g.y++g.p))) .an):=by
 obtain⟨⟨g0,g1,g2⟩,gy,gp⟩:=g
 dsimp only
 dsimp only at hy hl hl2
 have hne:¬ rowF gy=[]:=fun h=>hy (by have:=congrArg List.length h;simpa using this)
 have h1:1+gy.length≤4294967296:=by omega
 have h2:1+gy.length+gp.length≤4294967296:=by omega
 have h3:1+gy.length≤gy.length+1:=by omega
 have h4:∀c:List AV,List.take (1+gy.length) (c::rowF gy)=c::rowF gy:=fun c=>List.take_of_length_le (by simp;omega)
 have h5:1+gy.length+gp.length≤gy.length+gp.length+1:=by omega
 have h6:∀c:List AV,List.take (1+gy.length+gp.length) (c::(rowF gy++rowF gp))=c::(rowF gy++rowF gp):=fun c=>List.take_of_length_le (by simp;omega)
 have h7:wkL (rowF gy++rowF gp)=rowF gy++rowF gp:=by
  have:rowF gy++rowF gp=rowF (gy++gp):=by simp[rowF]
  rw[this,zf9]
 have e:rowF ((g0,g1,g2)::(gy++gp))=[.b g0,.sl (u32s g1) .an,.sl (u32s g2) .an]::(rowF gy++rowF gp):=by simp[rowF]
 rw[e,f414 _ rfl,b414]
 simp -implicitDefEqProofs[hne,h1,h2,h3,h4,h5,h6,h7,zt9]
def stGw(F:List Fz)(L:Int)(i:Nat)(s p:Int):St:=⟨[(0,.ptr (.bor 0) 0 3 0 0),(1,.sl (rowF F) .an),(8,.sl (rowF F) .an),(9,.i .i64 F.length),(10,.i .i64 i)],[(.bor 0,bxG 0 s p L)],4⟩
theorem zaem(F:List Fz)(L:Int)(i:Nat)(s p:Int)(x:Fz)(hi:i<F.length)(hl:F.length≤1000)(hg:F[i]? = some x)(hx:fsz x≤30000)(hf:(sizF x:Int)≤L) :
  evX (orc T) T 1 l413_0 (stGw F L i s p)=some (.n,stGw F L (i+1) (cntS s) (cntP p x)):=by
 have ht:=zdm (T:=T) s p L x hx
 rw[decide_eq_true hf]at ht
 have hws:=zbx hi (by omega)
 have hge:=(List.getElem?_eq_some_iff.1 hg).2
 have hi':(i:Int)<F.length:=by omega
 generalize cntS s=s' at *
 generalize cntP p x=p' at *
 unfold stGw
 simp -implicitDefEqProofs[l413_0,hi,hi',hg,hge,hws,ht]
theorem z51(F:List Fz)(L:Int)(i:Nat)(s p:Int)(x:Fz)(hi:i<F.length)(hl:F.length≤1000)(hg:F[i]? = some x)(hx:fsz x≤30000)(hf:¬ (sizF x:Int)≤L) :
  evX (orc T) T 1 l413_0 (stGw F L i s p)=some (.r,⟨[(4,.i .i64 i),(5,.b false)],[(.bor 0,bxG 0 (cntS s) (cntP p x) L)],4⟩):=by
 have ht:=zdm (T:=T) s p L x hx
 rw[decide_eq_false hf]at ht
 have hge:=(List.getElem?_eq_some_iff.1 hg).2
 have hi':(i:Int)<F.length:=by omega
 generalize cntS s=s' at *
 generalize cntP p x=p' at *
 unfold stGw
 simp -implicitDefEqProofs[l413_0,hi,hi',hg,hge,ht]
theorem z52(F:List Fz)(L s p:Int):isEx (evX (orc T) T 1 l413_0 (stGw F L F.length s p))=true ∧
  finX 1 0 (.norm false [1]) (evX (orc T) T 1 l413_0 (stGw F L F.length s p))=some (.n,⟨[(1,.sl (rowF F) .an)],[(.bor 0,bxG 0 s p L)],4⟩):=by
 unfold stGw
 constructor<;>simp -implicitDefEqProofs[l413_0]
theorem z53(i s p L:Int):finX 1 0 (.norm false [1]) (some (.r,(⟨[(4,.i .i64 i),(5,.b false)],[(.bor 0,bxG 0 s p L)],4⟩:St)))=some (.r,⟨[(4,.i .i64 i),(5,.b false)],[(.bor 0,bxG 0 s p L)],4⟩):=by
 simp -implicitDefEqProofs
theorem z0h(qs:List Rat)(L:Nat)(hl:qs.length≤1000)(hw:∀q∈qs,sz q≤30000)(s p:Int) :
  ∃r,(∃s' p':Int,(firstL L qs 0=none∧r=(Ex.n,(⟨[(1,.sl (rowF (fzs qs)) .an)],[(.bor 0,bxG 0 s' p' L)],4⟩:St)))∨(∃k:Nat,firstL L qs 0=some k∧r=(.r,⟨[(4,.i .i64 k),(5,.b false)],[(.bor 0,bxG 0 s' p' L)],4⟩))) ∧
   loopN T 1 0 (.norm false [1]) l413_0 (stGw (fzs qs) L 0 s p)=some r:=by
 refine za5 (fun x:Nat×Int×Int=>stGw (fzs qs) L x.1 x.2.1 x.2.2) (fun x=>x.1≤qs.length∧firstL L (qs.drop x.1) x.1=firstL L qs 0) (fun x=>qs.length-x.1) _ ?_ (0,s,p) ⟨Nat.zero_le _,rfl⟩
 rintro⟨i,s,p⟩ ⟨hi,hf⟩
 dsimp only at *
 have hfl:(fzs qs).length=qs.length:=zae _
 by_cases hlt:i<qs.length
 ·have hd:qs.drop i=qs[i]::qs.drop (i+1):=List.drop_eq_getElem_cons hlt
  have hg:(fzs qs)[i]? = some (fz qs[i]):=by simp[fzs,hlt]
  have hs:fsz (fz qs[i])≤30000:=hw _ (List.getElem_mem hlt)
  rw[hd,firstL]at hf
  by_cases hb:L<sizQ qs[i]
  ·right
   rw[if_pos hb]at hf
   have e:=z51 (T:=T) (fzs qs) L i s p _ (by omega) (by omega) hg hs (by unfold sizQ at hb;omega)
   refine⟨_,⟨cntS s,cntP p (fz qs[i]),.inr ⟨i,hf.symm,rfl⟩⟩,by rw[e];rfl,by rw[e,z53]⟩
  ·left
   rw[if_neg hb]at hf
   exact⟨(i+1,cntS s,cntP p (fz qs[i])),⟨by dsimp only;omega,hf⟩,by dsimp only;omega,zaem (T:=T) (fzs qs) L i s p _ (by omega) (by omega) hg hs (by unfold sizQ at hb;omega)⟩
 ·right
  have:i=qs.length:=by omega
  subst this
  rw[List.drop_length,firstL]at hf
  have e:=z52 (T:=T) (fzs qs) L s p
  rw[hfl]at e
  exact⟨_,⟨s,p,.inl ⟨hf.symm,rfl⟩⟩,e⟩
theorem zte(qs:List Rat)(L:Nat)(hl:qs.length≤1000)(hw:∀q∈qs,sz q≤30000)(s p:Int) :
  ∃s' p':Int,callH T 413 [.ptr (.bor 0) 0 3 0 0,.sl (rowF (fzs qs)) .an] [(.bor 0,bxG 0 s p L)]=some (.tup [.i .i64 (match firstL L qs 0 with | some k=>(k:Int) | none=>(qs.length:Int)),.b (firstL L qs 0).isNone],[(.bor 0,bxG 0 s' p' L)]):=by
 obtain⟨r,⟨s',p',hr⟩,hloop⟩:=z0h (T:=T) qs L hl hw s p
 refine⟨s',p',?_⟩
 have hfl:(fzs qs).length=qs.length:=zae _
 rw[f413 _ _ rfl,b413]
 unfold stGw at hloop
 simp only[Int.natCast_zero]at hloop
 rcases hr with ⟨h,rfl⟩ | ⟨k,h,rfl⟩
 ·rw[h]
  rw[hfl]at hloop
  generalize fzs qs=F at *
  simp -implicitDefEqProofs[hloop,hfl]
 ·rw[h]
  rw[hfl]at hloop
  generalize fzs qs=F at *
  simp -implicitDefEqProofs[hloop,hfl]
end
abbrev fa1:BId:=.fld (.fld (.loc 20) 0) 8009
abbrev fa2:BId:=.fld (.fld (.loc 20) 0) 10009
abbrev fb1:BId:=.fld (.fld (.loc 50) 0) 8009
abbrev fb2:BId:=.fld (.fld (.loc 50) 0) 10009
abbrev z5:List AV:=[.b (fz 0).1,.sl (u32s (fz 0).2.1) .an,.sl (u32s (fz 0).2.2) .an,.bs fa1 4 3 0 0,.bs fa2 5 3 0 0]
abbrev bkX(n ny np:Nat)(b:Bk):Heap:=
 [(.loc 8,⟨1,.str,5,[[.b false,.sl [] .an,.sl [] .an,.sl [] .an,.sl [] .an]]⟩),(.loc 9,⟨2,.str,4,[[.i .i64 0,.i .i64 0,.i .i64 0,.i .i64 0]]⟩),
  (.loc 10,⟨3,.str,5,[z5]⟩),(fa1,⟨4,.own,3,[]⟩),(fa2,⟨5,.own,3,[]⟩),
  (.loc 52,⟨6,.str,11,[[.sl (rowI b.t.code) .an,.sl (ints b.t.outs) .an,.i .i64 b.t.dim,.i .i64 b.t.par,.sl (rowF b.done) .an,.bs (.loc 45) 7 3 0 n,.b b.g.t.1,.sl (u32s b.g.t.2.1) .an,.sl (u32s b.g.t.2.2) .an,
   .bs fb1 8 3 0 ny,.bs fb2 9 3 0 np]]⟩),
  (.loc 45,⟨7,.own,3,rowF b.co⟩),(fb1,⟨8,.own,3,rowF b.g.y⟩),(fb2,⟨9,.own,3,rowF b.g.p⟩)]
def stSd(n ny np:Nat)(W:List Fz)(bits:Int)(b:Bk)(i:Nat):St:=
 ⟨[(2,.sl (rowF W) .an),(3,.i .i64 bits),(8,.ptr (.loc 8) 1 5 0 0),(9,.ptr (.loc 9) 2 4 0 0),(10,.ptr (.loc 10) 3 5 0 0),(11,.sl (rowF b.done) .an),(13,.ptr (.loc 52) 6 11 0 0),
  (54,.sl (ints b.t.outs) .an),(55,.i .i64 b.t.outs.length),(56,.i .i64 i)],bkX n ny np b,11⟩
def stBk(n ny np:Nat)(L:Int)(b:Bk)(i s p:Int):St:=
 ⟨[(8,.ptr (.loc 8) 1 5 0 0),(9,.ptr (.loc 9) 2 4 0 0),(10,.ptr (.loc 10) 3 5 0 0),(13,.ptr (.loc 52) 6 11 0 0),(16,.ptr (.fld (.loc 70) 7) 10 3 0 0),(17,.i .i64 i)],bkX n ny np b++[(.fld (.loc 70) 7,bxG 10 s p L)],12⟩
def endSd(n ny np:Nat)(bits:Int)(b:Bk):Ex×St:=
 (.n,⟨[(3,.i .i64 bits),(8,.ptr (.loc 8) 1 5 0 0),(9,.ptr (.loc 9) 2 4 0 0),(10,.ptr (.loc 10) 3 5 0 0),(11,.sl (rowF b.done) .an),(13,.ptr (.loc 52) 6 11 0 0)],bkX n ny np b,11⟩)
def endBk(n ny np:Nat)(L:Int)(b:Bk)(s p:Int):Ex×St:=
 (.n,⟨[(8,.ptr (.loc 8) 1 5 0 0),(9,.ptr (.loc 9) 2 4 0 0),(10,.ptr (.loc 10) 3 5 0 0),(13,.ptr (.loc 52) 6 11 0 0),(16,.ptr (.fld (.loc 70) 7) 10 3 0 0)],bkX n ny np b++[(.fld (.loc 70) 7,bxG 10 s p L)],12⟩)
def endBad(i:Int):Ex×St:=
 (.r,⟨[(8,.ptr (.loc 8) 1 5 0 0),(9,.ptr (.loc 9) 4 4 0 0)],[(.loc 8,⟨1,.str,5,[[.b (fz 0).1,.sl (u32s (fz 0).2.1) .an,.sl (u32s (fz 0).2.2) .an,.bs fa1 2 3 0 0,.bs fa2 3 3 0 0]]⟩),(fa1,⟨2,.own,3,[]⟩),(fa2,⟨3,.own,3,[]⟩),
  (.loc 9,⟨4,.str,4,[[.i .i64 6,.i .i64 0,.i .i64 2,.i .i64 i]]⟩)],6⟩)
section
variable{T:Tbl}[CLimb T][CNat T][CProd T][CTwos T][CQuot T][CQuotD T][CWhole T][CCommon T][CFrac T][CFrac3 T][CFrac5 T][CPow T][CDigits T][CText T][CJoin T][CRow T][CTape T][CEval T][CGauge T][CPull T]
theorem zwp(n ny np:Nat)(W:List Fz)(bits:Int)(b:Bk)(i k:Nat)(w:Fz)(hi:i<b.t.outs.length)(hl:b.t.outs.length≤1000)(hg:b.t.outs[i]? = some (k:Int))(hw:W[i]? = some w)(hn:b.co.length=n)(hk:k<n)
  (hx:∀x∈b.co,fsz x≤30000) (hc:fsz w≤30000) :
  evX (orc T) T 0 l397_0 (stSd n ny np W bits b i)=some (.n,stSd n ny np W bits { b with co:=bmpF b.co k (fv w) } (i+1)):=by
 have hs:=zch (T:=T) n ny np b k w hn hk hx hc
 have hws:=zbx hi (by omega)
 have hge:=(List.getElem?_eq_some_iff.1 hg).2
 obtain⟨hw1,hw2⟩:=List.getElem?_eq_some_iff.1 hw
 have hi':(i:Int)<b.t.outs.length:=by omega
 have hw1':(i:Int)<W.length:=by omega
 generalize bmpF b.co k (fv w)=C1 at *
 unfold stSd
 generalize fz 0=Z at *
 obtain⟨⟨code,outs,dim,par⟩,done,co,⟨⟨g0,g1,g2⟩,gy,gp⟩⟩:=b
 dsimp only at *
 simp -implicitDefEqProofs[l397_0,hi,hi',hg,hge,hw,hw1,hw1',hw2,hws,hs]
theorem zwq(n ny np:Nat)(L:Int)(b b':Bk)(i:Nat)(s p:Int)(c:Fz)(hc:b.co[i]? = some c)(zc:fsz c≤29000)(hf:(sizF (fz (fv c)):Int)≤L)
  (ht:callH T 412 [bkP,.i .i64 i] (bkN n ny np b)=some (.tup [],bkN n ny np b')) (hn:b.co.length=n) (hn2:n≤1000) (ht1:b'.t=b.t) (ht2:b'.done=b.done) :
  evX (orc T) T 0 l397_1 (stBk n ny np L b i s p)=some (.n,stBk n ny np L b' ((i:Int)-1) (cntS s) (cntP p (fz (fv c)))):=by
 have cn:=zed (T:=T) c (by omega)
 have zq:=za6 zc (by decide)
 have tk:=zdm (T:=T) s p L (fz (fv c)) (by rw[zas];omega)
 rw[decide_eq_true hf]at tk
 obtain⟨kc1,kc2⟩:=List.getElem?_eq_some_iff.1 hc
 have kc1':(i:Int)<n:=by omega
 have hw:IntKind.wrap .i64 ((i:Int)-1)=(i:Int)-1:=zad _ (by omega)
 generalize cntS s=s' at *
 generalize cntP p (fz (fv c))=p' at *
 generalize fz (fv c)=q at *
 unfold stBk
 generalize fz 0=Z at *
 obtain⟨⟨code,outs,dim,par⟩,done,co,⟨⟨g0,g1,g2⟩,gy,gp⟩⟩:=b
 obtain⟨⟨code',outs',dim',par'⟩,done',co',⟨⟨g0',g1',g2'⟩,gy',gp'⟩⟩:=b'
 dsimp only at *
 cases ht1
 subst ht2
 simp -implicitDefEqProofs[l397_1,hc,kc1',kc2,cn,tk,ht,hw]
theorem z0i(n ny np:Nat)(L:Int)(b:Bk)(i:Nat)(s p:Int)(c:Fz)(hc:b.co[i]? = some c)(zc:fsz c≤29000)(hf:¬ (sizF (fz (fv c)):Int)≤L)(hn:b.co.length=n)(hn2:n≤1000) :
  evX (orc T) T 0 l397_1 (stBk n ny np L b i s p)=some (endBad i):=by
 have cn:=zed (T:=T) c (by omega)
 have zq:=za6 zc (by decide)
 have tk:=zdm (T:=T) s p L (fz (fv c)) (by rw[zas];omega)
 rw[decide_eq_false hf]at tk
 obtain⟨kc1,kc2⟩:=List.getElem?_eq_some_iff.1 hc
 have kc1':(i:Int)<n:=by omega
 generalize cntS s=s' at *
 generalize cntP p (fz (fv c))=p' at *
 generalize fz (fv c)=q at *
 unfold stBk endBad
 obtain⟨⟨code,outs,dim,par⟩,done,co,⟨⟨g0,g1,g2⟩,gy,gp⟩⟩:=b
 dsimp only at *
 simp -implicitDefEqProofs[l397_1,hc,kc1',kc2,cn,tk]
theorem z54(i:Int):finX 0 2 (.norm false [8,9,10,13,16]) (some (endBad i))=some (endBad i):=by
 unfold endBad
 simp -implicitDefEqProofs
theorem z55(n ny np:Nat)(L:Int)(b:Bk)(s p:Int):isEx (evX (orc T) T 0 l397_1 (stBk n ny np L b (-1) s p))=true ∧
  finX 0 2 (.norm false [8,9,10,13,16]) (evX (orc T) T 0 l397_1 (stBk n ny np L b (-1) s p))=some (endBk n ny np L b s p):=by
 unfold stBk endBk
 generalize fz 0=Z at *
 obtain⟨⟨code,outs,dim,par⟩,done,co,⟨⟨g0,g1,g2⟩,gy,gp⟩⟩:=b
 constructor<;>simp -implicitDefEqProofs[l397_1]
theorem z56(n ny np:Nat)(W:List Fz)(bits:Int)(b:Bk):isEx (evX (orc T) T 0 l397_0 (stSd n ny np W bits b b.t.outs.length))=true ∧
  finX 0 0 (.norm false [3,8,9,10,11,13]) (evX (orc T) T 0 l397_0 (stSd n ny np W bits b b.t.outs.length))=some (endSd n ny np bits b):=by
 unfold stSd endSd
 generalize fz 0=Z at *
 obtain⟨⟨code,outs,dim,par⟩,done,co,⟨⟨g0,g1,g2⟩,gy,gp⟩⟩:=b
 constructor<;>simp -implicitDefEqProofs[l397_0]
end
def sendF:List Int→List Fz→List Fz→List Fz
 | o::os,w::ws,co=>sendF os ws (bmpF co o.toNat (fv w))
 | _,_,co=>co
theorem ztf:∀(os:List Int) (ws co:List Fz),(sendF os ws co).map fv=sendQ os (ws.map fv) (co.map fv)
 | [],_,_=>rfl
 | _::_,[],_=>rfl
 | o::os,w::ws,co=>by rw[sendF,ztf os ws,zym];rfl
def nice(co:List Fz):Prop:=∀u∈co,u=blk∨u=fz (fv u)
theorem zgp{co:List Fz}(h:nice co)(k:Nat)(q:Rat):nice (bmpF co k q):=by
 intro u hu
 rcases List.mem_or_eq_of_mem_set hu with h2 | h2
 ·exact h u h2
 ·right;rw[h2,za7]
theorem zwr{co:List Fz}(h:nice co)(D:List Fz)(x:Ins)(r c:Rat):nice (thrF D x r c co):=by
 unfold thrF
 repeat' split
 all_goals first
  | exact h
  | exact zgp h _ _
  | exact zgp (zgp h _ _) _ _
theorem z0j{co:List Fz}(h:nice co){k:Nat}{u:Fz}(hu:co[k]? = some u):fsz u≤sz (fv u):=by
 rcases h u (List.mem_of_getElem? hu) with h2 | h2
 ·rw[h2];exact Nat.zero_le _
 ·exact Nat.le_of_eq (by rw[←zas,←h2])
theorem z0k(l:List Rat)(i:Int)(q:Rat):bmpF (fzs l) i.toNat q=fzs (bmp l i q):=by
 have e:fv ((fzs l).getD i.toNat blk)=gI l i:=by
  unfold gI fzs
  rw[List.getD_eq_getElem?_getD,List.getD_eq_getElem?_getD,List.getElem?_map]
  cases l[i.toNat]? with
  | none=>exact ztb
  | some x=>exact za7 x
 unfold bmpF bmp
 rw[e]
 simp[fzs,List.map_set]
theorem z57(x:Ins)(c:Rat)(g:Po):thrH x c g.f=(thrG x c g).f:=by
 unfold thrH
 by_cases h:c=0
 ·subst h
  rw[if_pos rfl,zvg]
 ·rw[if_neg h]
  unfold thrG Po.f
  repeat' split
  all_goals simp only[z0k,za7]
theorem ztg{l:List Rat}{K S:Nat}(i:Int){q:Rat}(h:∀u∈l,sz u≤K)(h1:1≤K)(hq:sz q≤S):∀u∈bmp l i q,sz u≤K+S+1:=by
 intro u hu
 rcases List.mem_or_eq_of_mem_set hu with h2 | h2
 ·have:=h u h2;omega
 ·rw[h2]
  have h3:=zeq (gI l i) q
  have h4:=zcw (a:=i) h1 h
  omega
theorem z0l{g:Po}{K:Nat}(h:PvS g K)(h1:1≤K)(x:Ins){c:Rat}(hc:sz c≤129):PvS (thrG x c g) (K+130):=by
 have up:PvS g (K+130):=⟨by have:=h.t;omega,fun q hq=>by have:=h.y q hq;omega,fun q hq=>by have:=h.p q hq;omega⟩
 unfold thrG
 repeat' split
 ·exact⟨by have:=zeq g.t c;have:=h.t;dsimp only;omega,up.y,up.p⟩
 ·exact⟨up.t,fun q hq=>ztg x.a h.y h1 hc q hq,up.p⟩
 ·exact⟨up.t,up.y,fun q hq=>ztg x.a h.p h1 hc q hq⟩
 ·exact up
section
variable{T:Tbl}[CLimb T][CNat T][CProd T][CTwos T][CQuot T][CQuotD T][CWhole T][CCommon T][CFrac T][CFrac3 T][CFrac5 T][CPow T][CDigits T][CText T][CJoin T][CRow T][CTape T][CEval T][CGauge T][CPull T]
theorem z0m(n ny np:Nat)(W:List Fz)(bits:Int)(b:Bk)(hn:b.co.length=n)(ho:∀o∈b.t.outs,0≤o∧o<n)(hwl:W.length=b.t.outs.length)(hol:b.t.outs.length≤6)(hw:∀u∈W,fsz u≤1000)(hz:∀u∈b.co,fsz u≤1)(hni:nice b.co) :
  ∃co,co=sendF b.t.outs W b.co∧co.length=n∧nice co∧(∀u∈co,fsz u≤7000)∧loopN T 0 0 (.norm false [3,8,9,10,11,13]) l397_0 (stSd n ny np W bits b 0)=some (endSd n ny np bits { b with co:=co }):=by
 have:=za5 (T:=T) (k:=0) (id:=0) (g2:=.norm false [3,8,9,10,11,13]) (c:=l397_0) (fun x:Nat×List Fz=>stSd n ny np W bits { b with co:=x.2 } x.1)
  (fun x=>x.1≤b.t.outs.length∧x.2.length=n∧nice x.2∧(∀u∈x.2,fsz u≤1+x.1*1002)∧sendF (b.t.outs.drop x.1) (W.drop x.1) x.2=sendF b.t.outs W b.co) (fun x=>b.t.outs.length-x.1)
  (fun r=>∃co,co=sendF b.t.outs W b.co∧co.length=n∧nice co∧(∀u∈co,fsz u≤7000)∧r=endSd n ny np bits { b with co:=co }) ?_ (0,b.co) ⟨Nat.zero_le _,hn,hni,fun u hu=>by have:=hz u hu;dsimp only;omega,rfl⟩
 ·obtain⟨r,⟨co,h1,h2,h3,h4,rfl⟩,h5⟩:=this
  exact⟨co,h1,h2,h3,h4,h5⟩
 rintro⟨i,co⟩ ⟨hi,hcl,hnc,hsz,hF⟩
 dsimp only at *
 by_cases hlt:i<b.t.outs.length
 ·left
  have hlw:i<W.length:=by omega
  obtain⟨o,hg⟩:∃o,b.t.outs[i]? = some o:=⟨_,List.getElem?_eq_getElem hlt⟩
  obtain⟨w,hgw⟩:∃w,W[i]? = some w:=⟨_,List.getElem?_eq_getElem hlw⟩
  have hd:b.t.outs.drop i=o::b.t.outs.drop (i+1):=by rw[List.drop_eq_getElem_cons hlt,(List.getElem?_eq_some_iff.1 hg).2]
  have hdw:W.drop i=w::W.drop (i+1):=by rw[List.drop_eq_getElem_cons hlw,(List.getElem?_eq_some_iff.1 hgw).2]
  obtain⟨o1,o2⟩:=ho _ (List.mem_of_getElem? hg)
  have zw:=hw _ (List.mem_of_getElem? hgw)
  rw[hd,hdw,sendF]at hF
  obtain⟨k,rfl⟩:∃k:Nat,o=k:=⟨o.toNat,by omega⟩
  rw[Int.toNat_natCast]at hF
  have hb:i*1002≤6*1002:=Nat.mul_le_mul_right _ (by omega)
  have e:=zwp (T:=T) n ny np W bits { b with co:=co } i k w hlt (by dsimp only;omega) hg hgw hcl (by omega) (fun u hu=>by have:=hsz u hu;omega) (by omega)
  refine⟨(i+1,bmpF co k (fv w)),⟨by dsimp only;omega,by simpa using hcl,zgp hnc _ _,fun u hu=>?_,hF⟩,by dsimp only;omega,e⟩
  have h9:=zey (S:=1000) k hsz (by omega) (za6 zw (by decide)) u hu
  show fsz u≤1+(i+1)*1002
  rw[Nat.succ_mul]
  exact Nat.le_trans h9 (by generalize i*1002=z;omega)
 ·right
  have:i=b.t.outs.length:=by omega
  subst this
  rw[List.drop_length,sendF]at hF
  ·have hb:b.t.outs.length*1002≤6*1002:=Nat.mul_le_mul_right _ (by omega)
   refine⟨_,⟨co,hF,hcl,hnc,fun u hu=>by have:=hsz u hu;omega,rfl⟩,z56 (T:=T) n ny np W bits { b with co:=co }⟩
  ·intro o os w ws h
   cases h
def BkEnd(n ny np L:Nat)(t:Tp)(D:List Fz)(R:(List Rat×Po)×Option Nat)(r:Ex×St):Prop:=
 (∃i,R.2=some i∧r=endBad (i:Nat))∨(R.2=none∧PvS R.1.2 3000∧R.1.2.y.length=ny∧R.1.2.p.length=np∧∃(co:List Fz) (s p:Int),r=endBk n ny np L ⟨t,D,co,R.1.2.f⟩ s p)
theorem z0n(n ny np L:Nat)(t:Tp)(D co0:List Fz)(g0:Po)(ht:OkTp t)(hn:t.code.length=n)(hn2:n≤20)(hL:L≤4096)(hD:D.length=n)(hy:(ny:Int)=t.dim)(hp:(np:Int)=t.par)(zD:∀u∈D,fsz u≤129)
  (h1:co0.length=n) (h2:nice co0) (h3:∀u∈co0,fsz u≤7000) (h4:PvS g0 1) (h5:g0.y.length=ny) (h6:g0.p.length=np) (s0 p0:Int) :
  ∃r,BkEnd n ny np L t D (backR L t.code (D.map fv) n (co0.map fv) g0) r∧loopN T 0 2 (.norm false [8,9,10,13,16]) l397_1 (stBk n ny np L ⟨t,D,co0,g0.f⟩ ((n:Int)-1) s0 p0)=some r:=by
 refine za5 (T:=T) (k:=0) (id:=2) (g2:=.norm false [8,9,10,13,16]) (c:=l397_1) (fun x:Nat×List Fz×Po×Int×Int=>stBk n ny np L ⟨t,D,x.2.1,x.2.2.1.f⟩ ((x.1:Int)-1) x.2.2.2.1 x.2.2.2.2)
  (fun x=>x.1≤n∧x.2.1.length=n∧nice x.2.1∧(∀u∈x.2.1,fsz u≤7000+(n-x.1)*1036)∧PvS x.2.2.1 (1+(n-x.1)*130)∧x.2.2.1.y.length=ny∧x.2.2.1.p.length=np∧backR L t.code (D.map fv) x.1 (x.2.1.map fv) x.2.2.1=backR L t.code (D.map fv) n (co0.map fv) g0) (fun x=>x.1)
  _ ?_ (n,co0,g0,s0,p0) ⟨Nat.le_refl _,h1,h2,fun u hu=>by have:=h3 u hu;dsimp only;omega,by dsimp only;rw[Nat.sub_self,Nat.zero_mul];exact h4,h5,h6,rfl⟩
 rintro⟨m,co,g,s,p⟩ ⟨hm,hcl,hnc,hsz,hgs,hgy,hgp,hR⟩
 dsimp only at *
 cases m with
 | zero=>
  right
  have e:=z55 (T:=T) n ny np L ⟨t,D,co,g.f⟩ s p
  rw[backR]at hR
  have em:((0:Nat):Int)-1=-1:=rfl
  rw[em]
  refine⟨_,.inr ?_,e⟩
  rw[←hR]
  have hb:(n-0)*130≤20*130:=Nat.mul_le_mul_right _ (by omega)
  have hP:PvS g 3000:=⟨by have:=hgs.t;omega,fun q hq=>by have:=hgs.y q hq;omega,fun q hq=>by have:=hgs.p q hq;omega⟩
  exact⟨rfl,hP,hgy,hgp,co,s,p,rfl⟩
 | succ k=>
  have hk:k<n:=by omega
  have em:((k+1:Nat):Int)-1=k:=by omega
  obtain⟨c,hc⟩:∃c,co[k]? = some c:=⟨_,List.getElem?_eq_getElem (by omega)⟩
  obtain⟨r,hr⟩:∃r,D[k]? = some r:=⟨_,List.getElem?_eq_getElem (by omega)⟩
  obtain⟨x,hx⟩:∃x,t.code[k]? = some x:=⟨_,List.getElem?_eq_getElem (by omega)⟩
  have hmay:=ht.may k x hx
  have b1:(n-(k+1))*1036≤19*1036:=Nat.mul_le_mul_right _ (by omega)
  have b2:(n-(k+1))*130≤19*130:=Nat.mul_le_mul_right _ (by omega)
  have zc:=hsz c (List.mem_of_getElem? hc)
  have ec:gI (co.map fv) k=fv c:=ztd rfl hc
  have er:gI (D.map fv) k=fv r:=ztd rfl hr
  rw[em]
  rw[backR,hx]at hR
  dsimp only at hR
  rw[ec,er]at hR
  by_cases hf:L<sizQ (fv c)
  ·right
   rw[if_pos hf]at hR
   have e:=z0i (T:=T) n ny np L ⟨t,D,co,g.f⟩ k s p c hc (by omega) (by unfold sizQ at hf;omega) hcl (by omega)
   rw[e]
   refine⟨_,.inl ⟨k,?_,rfl⟩,rfl,z54 k⟩
   rw[←hR]
  ·left
   rw[if_neg hf]at hR
   have zq:=zd2 (q:=fv c) (b:=L) (by omega)
   have zc9:=z0j hnc hc
   have zr:=zD r (List.mem_of_getElem? hr)
   have th:=zwn (T:=T) n ny np ⟨t,D,co,g.f⟩ x k c r hx hmay hD hcl (by rw[←hgy];exact zae _) (by rw[←hgp];exact zae _) hy hp hc hr (by omega) zD (fun u hu=>by have:=hsz u hu;omega)
    (by show sz g.t≤_;have:=hgs.t;omega) (fun u hu=>by obtain⟨q,hq,rfl⟩:=List.mem_map.1 hu;have:=hgs.y q hq;rw[zas];omega) (fun u hu=>by obtain⟨q,hq,rfl⟩:=List.mem_map.1 hu;have:=hgs.p q hq;rw[zas];omega)
   dsimp only at th
   rw[z57]at th
   have e:=zwq (T:=T) n ny np L ⟨t,D,co,g.f⟩ ⟨t,D,thrF D x (fv r) (fv c) co,(thrG x (fv c) g).f⟩ k s p c hc (by omega) (by unfold sizQ at hf;omega) th hcl (by omega) rfl rfl
   refine⟨(k,thrF D x (fv r) (fv c) co,thrG x (fv c) g,cntS s,cntP p (fz (fv c))),⟨by dsimp only;omega,by simpa using hcl,zwr hnc _ _ _ _,fun u hu=>?_,?_,?_,?_,?_⟩,by dsimp only;omega,e⟩
   ·have h9:=z0g hmay zD (by omega) (za6 zr (by decide)) hsz (by omega) u hu
    show fsz u≤7000+(n-k)*1036
    rw[show n-k=n-(k+1)+1 by omega,Nat.succ_mul]
    exact Nat.le_trans h9 (by generalize (n-(k+1))*1036=z;omega)
   ·have:=z0l hgs (by omega) x (c:=fv c) (by omega)
    dsimp only
    rw[show n-k=n-(k+1)+1 by omega,Nat.add_mul,←Nat.add_assoc]
    exact this
   ·exact(zeh _ _ _).1.trans hgy
   ·exact(zeh _ _ _).2.trans hgp
   ·dsimp only
    rw[z50]
    exact hR
end
theorem z58(n:Nat):wkL (List.replicate n [.b false,.sl [] .nl,.sl [] .nl])=rowF (List.replicate n blk):=by
 rw[zbi,List.map_replicate]
 simp[rowF,wkR,wkA]
section
variable{T:Tbl}[CLimb T][CNat T][CProd T][CTwos T][CQuot T][CQuotD T][CWhole T][CCommon T][CFrac T][CFrac3 T][CFrac5 T][CPow T][CDigits T][CText T][CJoin T][CRow T][CTape T][CEval T][CGauge T][CRun T][CIfc T][CPull T]
theorem zgq(d p:Int)(ny np:Nat)(h1:cap300 d=ny)(h2:cap300 p=np):callH T 2395 [.i .i64 d,.i .i64 p] []=some (.agg [.b (fz 0).1,.sl (u32s (fz 0).2.1) .an,.sl (u32s (fz 0).2.2) .an,.bs (.fld (.loc 7) 9) 1 3 0 ny,.bs (.fld (.loc 9) 9) 2 3 0 np],
  [(.fld (.loc 7) 9,⟨1,.own,3,rowF (List.replicate ny (fz 0))⟩),(.fld (.loc 9) 9,⟨2,.own,3,rowF (List.replicate np (fz 0))⟩)]):=by
 have:=zj8 (T:=T) d p
 rw[h1,h2]at this
 exact this
theorem zth(t:Tp)(x:PoF)(w:List Fz)(bits:Int)(h:w.length≠t.outs.length):callF T 397 [etp t,ept x,.sl (rowF w) .an,.i .i64 bits]=some (.tup [ept (zeroP 0 0).f,fltA 2 0 0 0]):=by
 have hz:=zgq (T:=T) 0 0 0 0 rfl rfl
 have h':¬ (w.length:Int)=t.outs.length:=by omega
 have e:(zeroP 0 0).f=⟨fz 0,[],[]⟩:=rfl
 rw[e]
 generalize fz 0=Z at *
 obtain⟨code,outs,dim,par⟩:=t
 obtain⟨⟨x0,x1,x2⟩,xy,xp⟩:=x
 dsimp only at *
 rw[f397 _ rfl,b397]
 simp -implicitDefEqProofs[hz,h']
theorem zws(t:Tp)(x:PoF)(w:List Fz)(bits:Int)(h:w.length=t.outs.length)(D:List Fz)(k a:Nat)(hk:k≠0)(hr:callF T 384 [etp t,ept x,.i .i64 bits]=some (.tup [.sl (rowF D) .an,fltA k 0 0 a])):callF T 397 [etp t,ept x,.sl (rowF w) .an,.i .i64 bits]=some (.tup [ept (zeroP 0 0).f,fltA k 0 0 a]):=by
 have hz:=zgq (T:=T) 0 0 0 0 rfl rfl
 have h':(w.length:Int)=t.outs.length:=by omega
 have hk':¬ (k:Int)=0:=by omega
 have e:(zeroP 0 0).f=⟨fz 0,[],[]⟩:=rfl
 rw[e]
 generalize fz 0=Z at *
 generalize (k:Int)=kk at *
 generalize (a:Int)=aa at *
 obtain⟨code,outs,dim,par⟩:=t
 obtain⟨⟨x0,x1,x2⟩,xy,xp⟩:=x
 dsimp only at *
 rw[f397 _ rfl,b397]
 simp -implicitDefEqProofs[hz,h,hr,hk']
def backE(lim:Nat)(R:(List Rat×Po)×Option Nat):AV:=
 match R with
 | (_,some i)=>.tup [ept (zeroP 0 0).f,fltA 6 0 2 i]
 | (s,none)=>match firstL lim (allP s.2) 0 with | some k=>.tup [ept (zeroP 0 0).f,fltA 6 0 3 k] | none=>.tup [ept s.2.f,fltA 0 0 0 0]
theorem zti(t:Tp)(x:PoF)(w:List Fz)(bits:Int)(D:List Rat)(hok:OkTp t)(hn2:t.code.length≤20)(hlen:w.length=t.outs.length)(hw:∀u∈w,fsz u≤1000)(hD:D.length=t.code.length)(zD:∀q∈D,sz q≤129)
  (hr:callF T 384 [etp t,ept x,.i .i64 bits]=some (.tup [.sl (rowF (fzs D)) .an,fltA 0 0 0 0])) :
  callF T 397 [etp t,ept x,.sl (rowF w) .an,.i .i64 bits]=some (backE (limN bits) (backR (limN bits) t.code D t.code.length (sendQ t.outs (w.map fv) (List.replicate t.code.length 0)) (zeroP t.dim.toNat t.par.toNat))):=by
 obtain⟨hl1,hl2⟩:=zo8 bits
 have hg:=zhs (T:=T) bits
 rw[hl1]at hg
 have d1:=hok.d1;have d2:=hok.d2;have p1:=hok.p1;have p2:=hok.p2;have ol:=hok.ol
 have hz:=zgq (T:=T) 0 0 0 0 rfl rfl
 have hz2:=zgq (T:=T) t.dim t.par t.dim.toNat t.par.toNat (by unfold cap300;omega) (by unfold cap300;omega)
 have hM:∀dd clk,callM (orc T) T 2395 [.i .i64 t.dim,.i .i64 t.par] dd clk=callMr (callH T 2395 [.i .i64 t.dim,.i .i64 t.par] []) dd clk:=fun dd clk=>zs5 CPull.h2395 rfl
 have hyd:((t.dim.toNat:Nat):Int)=t.dim:=by omega
 have hpd:((t.par.toNat:Nat):Int)=t.par:=by omega
 have hZ:=z58 t.code.length
 have hFD:(fzs D).length=t.code.length:=by rw[zae,hD]
 have hcl:(t.code.length:Int)≤4294967296:=by omega
 have hw1:IntKind.wrap .i64 ((t.code.length:Int)-1)=(t.code.length:Int)-1:=zad _ (by omega)
 obtain⟨co,hco,hco1,hco2,hco3,hsd⟩:=z0m (T:=T) t.code.length t.dim.toNat t.par.toNat w bits ⟨t,fzs D,List.replicate t.code.length blk,(zeroP t.dim.toNat t.par.toNat).f⟩ (by simp) hok.outs hlen (by show t.outs.length≤6;omega) hw
  (fun u hu=>by rw[List.eq_of_mem_replicate hu];exact Nat.zero_le _) (fun u hu=>.inl (List.eq_of_mem_replicate hu))
 have hnz:PvS (zeroP t.dim.toNat t.par.toNat) 1:=⟨Nat.le_of_eq zbz,fun q hq=>by rw[List.eq_of_mem_replicate hq];exact Nat.le_of_eq zbz,fun q hq=>by rw[List.eq_of_mem_replicate hq];exact Nat.le_of_eq zbz⟩
 obtain⟨r,hr1,hbk⟩:=z0n (T:=T) t.code.length t.dim.toNat t.par.toNat (limN bits) t (fzs D) co (zeroP t.dim.toNat t.par.toNat) hok rfl hn2 hl2 hFD hyd hpd
  (fun u hu=>by obtain⟨q,hq,rfl⟩:=List.mem_map.1 hu;exact zD q hq) hco1 hco2 hco3 hnz (by simp[zeroP]) (by simp[zeroP]) 0 0
 have e1:(fzs D).map fv=D:=by simp[fzs,Function.comp_def]
 have e2:co.map fv=sendQ t.outs (w.map fv) (List.replicate t.code.length 0):=by
  rw[hco,ztf,List.map_replicate,ztb]
 rw[e1,e2]at hr1
 generalize backR (limN bits) t.code D t.code.length (sendQ t.outs (w.map fv) (List.replicate t.code.length 0)) (zeroP t.dim.toNat t.par.toNat)=R at *
 have ez:(zeroP t.dim.toNat t.par.toNat).f=⟨fz 0,List.replicate t.dim.toNat (fz 0),List.replicate t.par.toNat (fz 0)⟩:=by simp[zeroP,Po.f,fzs]
 have ez0:(zeroP 0 0).f=⟨fz 0,[],[]⟩:=rfl
 rw[ez]at hsd hbk
 unfold stSd endSd at hsd
 unfold stBk at hbk
 simp only[bkX,List.cons_append,List.nil_append]at hbk
 simp only[Int.natCast_zero]at hsd
 unfold backE
 rw[ez0]
 have hne:(zeroP t.dim.toNat t.par.toNat).y.length=t.dim.toNat:=by simp[zeroP]
 clear hnz hok hw hD zD hco hco1 hco2 hco3 e1 e2 hl1 hl2 ez ez0 hne
 generalize hny:t.dim.toNat=ny at *
 generalize hnp:t.par.toNat=np at *
 generalize hnn:t.code.length=n at *
 generalize fzs D=DD at *
 have hlen':(w.length:Int)=t.outs.length:=by omega
 rcases hr1 with ⟨i,hi,rfl⟩ | ⟨hi,hP,hy,hp,co',s',p',rfl⟩
 ·obtain⟨s,o⟩:=R
  dsimp only at hi
  subst hi
  dsimp only
  unfold endBad at hbk
  generalize (i:Int)=ii at *
  obtain⟨code,outs,dim,par⟩:=t
  obtain⟨⟨x0,x1,x2⟩,xy,xp⟩:=x
  dsimp only at *
  rw[f397 _ rfl,b397]
  simp -implicitDefEqProofs[hz,hz2,hM,hlen,hlen',hr,hFD,hZ,hcl,hg,hw1,hsd,hbk]
 ·obtain⟨⟨cq,g⟩,o⟩:=R
  dsimp only at hi hP hy hp hbk
  subst hi
  dsimp only
  have ca:=zwo (T:=T) g.f (by
   intro h
   have h9:(fzs g.y).length=0:=by rw[show fzs g.y=[] from h];rfl
   rw[zae]at h9
   omega) (by show (fzs g.y).length≤1000;rw[zae];omega) (by show (fzs g.p).length≤1000;rw[zae];omega)
  obtain⟨s2,p2',cr⟩:=zte (T:=T) (allP g) (limN bits) (by unfold allP;simp;omega) (fun q hq=>by
   unfold allP at hq
   rcases List.mem_cons.1 hq with rfl | hq
   ·have:=hP.t;omega
   ·rcases List.mem_append.1 hq with hq | hq
    ·have:=hP.y q hq;omega
    ·have:=hP.p q hq;omega) s' p'
  have ef:fzs (allP g)=g.f.t::(g.f.y++g.f.p):=by unfold allP Po.f fzs;simp
  rw[ef]at cr
  generalize g.f.t::(g.f.y++g.f.p)=AL at *
  unfold endBk at hbk
  simp only[bkX,List.cons_append,List.nil_append]at hbk
  have hfy:g.f.y.length=ny:=by rw[←hy];exact zae _
  have hfp:g.f.p.length=np:=by rw[←hp];exact zae _
  clear hP hy hp ef
  generalize g.f=gf at *
  generalize ((allP g).length:Int)=al at *
  have hty:List.take ny gf.y=gf.y:=List.take_of_length_le (by omega)
  have htp:List.take np gf.p=gf.p:=List.take_of_length_le (by omega)
  cases hf:firstL (limN bits) (allP g) 0 with
  | some k=>
   rw[hf]at cr
   dsimp only[Option.isNone]at cr ⊢
   generalize (k:Int)=kk at *
   obtain⟨code,outs,dim,par⟩:=t
   obtain⟨⟨x0,x1,x2⟩,xy,xp⟩:=x
   obtain⟨⟨f0,f1,f2⟩,fy,fp⟩:=gf
   dsimp only at *
   rw[f397 _ rfl,b397]
   simp -implicitDefEqProofs[hz,hz2,hM,hlen,hlen',hr,hFD,hZ,hcl,hg,hw1,hsd,hbk,ca,cr,hfy,hfp,hty,htp]
  | none=>
   rw[hf]at cr
   dsimp only[Option.isNone]at cr ⊢
   obtain⟨code,outs,dim,par⟩:=t
   obtain⟨⟨x0,x1,x2⟩,xy,xp⟩:=x
   obtain⟨⟨f0,f1,f2⟩,fy,fp⟩:=gf
   dsimp only at *
   rw[f397 _ rfl,b397]
   simp -implicitDefEqProofs[hz,hz2,hM,hlen,hlen',hr,hFD,hZ,hcl,hg,hw1,hsd,hbk,ca,cr,hfy,hfp,hty,htp]
theorem ztj(t:Tp)(x:PoF)(w:List Fz)(bits:Int)(hs:TpS t)(hx:PoS x 1000)(hc:t.code.length≤20)(hw:∀u∈w,fsz u≤1000) :
  callF T 397 [etp t,ept x,.sl (rowF w) .an,.i .i64 bits]=some (.tup [ept (backT (limN bits) t x.v (w.map fv)).1.f,fltA (backT (limN bits) t x.v (w.map fv)).2.1 0 (backT (limN bits) t x.v (w.map fv)).2.2.1 (backT (limN bits) t x.v (w.map fv)).2.2.2]):=by
 have hr:=zxl (T:=T) t x bits hs hx
 have hlim:=(zo8 bits).2
 unfold backT
 rw[List.length_map]
 by_cases h1:w.length≠t.outs.length
 ·rw[if_pos h1]
  exact zth (T:=T) t x w bits h1
 ·rw[if_neg h1]
  have h1':w.length=t.outs.length:=by omega
  by_cases hk:(tapeR (limN bits) t x.v).2.1≠0
  ·rw[if_pos hk]
   exact zws (T:=T) t x w bits h1' _ _ _ hk hr
  ·rw[if_neg hk]
   have hk':(tapeR (limN bits) t x.v).2.1=0:=by omega
   have hf:fitT t x.v.y.length x.v.p.length=true:=by
    cases hf:fitT t x.v.y.length x.v.p.length with
    | true=>rfl
    | false=>unfold tapeR at hk';rw[hf]at hk';simp at hk'
   have e1:tapeR (limN bits) t x.v=runR (limN bits) x.v t.code []:=by unfold tapeR;rw[if_pos hf]
   rw[e1]at hr hk' ⊢
   obtain⟨e2,E,e3,e4⟩:=zkm _ _ _ _ hk'
   rw[hk',e2]at hr
   have hg:=zti (T:=T) t x w bits _ (zct hf).1 hc h1' hw (by rw[e3];simpa using e4) (zuv hlim _ _ (by simp)) hr
   rw[hg]
   generalize backR (limN bits) t.code (runR (limN bits) x.v t.code []).1 t.code.length (sendQ t.outs (w.map fv) (List.replicate t.code.length 0)) (zeroP t.dim.toNat t.par.toNat)=R
   obtain⟨s,o⟩:=R
   unfold backE
   cases o with
   | some i=>rfl
   | none=>
    dsimp only
    cases firstL (limN bits) (allP s.2) 0 with
    | some k=>rfl
    | none=>rfl
end
@[simp] theorem z6s{f:Nat}{x:AV}{h:Heap}{clk:Nat}:mkvXV f x h clk=if noRef x=true then some (.fnv f x,h,clk) else none:=rfl
structure JcF where
 t:List Fz
 y:List (List Fz)
 p:List (List Fz)
abbrev ejac(j:JcF):AV:=.agg [.sl (rowF j.t) .an,.sl (matF j.y) .an,.sl (matF j.p) .an]
abbrev celP(x:PoF):List AV:=[.b x.t.1,.sl (u32s x.t.2.1) .an,.sl (u32s x.t.2.2) .an,.sl (rowF x.y) .an,.sl (rowF x.p) .an]
def rowP(l:List PoF):List (List AV):=l.map celP
@[simp] theorem z1c(l:List PoF):(rowP l).length=l.length:=by simp[rowP]
@[simp] theorem z1d(l:List PoF):wkL (rowP l)=rowP l:=by rw[zbi];simp[rowP,wkR,wkA]
@[simp] theorem z93(l:List PoF)(i:Nat)(h:i<(rowP l).length):(rowP l)[i]=celP (l[i]'(by simpa using h)):=by simp[rowP]
theorem zuw(l:List PoF)(x:PoF):rowP l++[celP x]=rowP (l++[x]):=by simp[rowP]
@[simp] theorem z6t(l:List PoF)(n:Nat):(rowP l).take n=rowP (l.take n):=by simp[rowP]
@[simp] theorem zxm:rowP []=[]:=rfl
theorem zux{m:List PoF}{n:Nat}(h:m.length=n)(x:PoF):wkL (rowP (List.take n m)++[celP x])=rowP (m++[x]):=by
 rw[List.take_of_length_le (by omega),zuw,z1d]
abbrev epl(t:Tp)(x:PoF)(bits:Int):AV:=.agg [.sl (rowI t.code) .an,.sl (ints t.outs) .an,.i .i64 t.dim,.i .i64 t.par,.b x.t.1,.sl (u32s x.t.2.1) .an,.sl (u32s x.t.2.2) .an,.sl (rowF x.y) .an,.sl (rowF x.p) .an,.i .i64 bits]
def gath{α:Type}(F:Nat→α×Nat×Nat×Nat):Nat→Nat→List α→List α×Nat×Nat×Nat
 | 0,_,acc=>(acc,0,0,0)
 | n+1,i,acc=>if (F i).2.1=0 then gath F n (i+1) (acc++[(F i).1]) else ([],(F i).2)
theorem zcu{α:Type}(F:Nat→α×Nat×Nat×Nat):∀(n i:Nat) (acc:List α),(gath F n i acc).2.1=0→(gath F n i acc).1=acc++(List.range n).map (fun k=>(F (i+k)).1)∧(gath F n i acc).2.2=(0,0)∧∀k,k<n→(F (i+k)).2.1=0
 | 0,i,acc,_=>⟨by simp[gath],rfl,fun k hk=>by omega⟩
 | n+1,i,acc,h=>by
  rw[gath]at h ⊢
  by_cases hk:(F i).2.1=0
  ·rw[if_pos hk]at h ⊢
   obtain⟨h1,h2,h3⟩:=zcu F n (i+1) _ h
   refine⟨?_,h2,fun k hkn=>?_⟩
   ·rw[h1,List.range_succ_eq_map,List.map_cons,List.map_map,List.append_assoc,List.singleton_append]
    congr 2
    refine List.map_congr_left fun k _=>?_
    show (F (i+1+k)).1=(F (i+(k+1))).1
    rw[show i+1+k=i+(k+1) by omega]
   ·cases k with
    | zero=>exact hk
    | succ k=>rw[show i+(k+1)=i+1+k by omega];exact h3 k (by omega)
  ·rw[if_neg hk]at h;exact absurd h hk
theorem zgv{α:Type}(F:Nat→α×Nat×Nat×Nat):∀(n i:Nat) (acc:List α),¬ (gath F n i acc).2.1=0→(gath F n i acc).1=[]
 | 0,i,acc,h=>absurd rfl h
 | n+1,i,acc,h=>by
  rw[gath]at h ⊢
  by_cases hk:(F i).2.1=0
  ·rw[if_pos hk]at h ⊢
   exact zgv F n (i+1) _ h
  ·rw[if_neg hk]
def stGa(T:Tbl)(X:AV)(n i:Nat)(acc:List PoF):St:=
 ⟨[(1,.fnv (tyNum T 500416) X),(5,.ptr (.loc 5) 1 4 0 0),(6,.bs (.loc 6) 2 5 0 i),(10,.i .i64 n),(11,.i .i64 i)],[(.loc 5,bxF 1 0 0 0 0),(.loc 6,⟨2,.own,5,rowP acc⟩)],4⟩
def endGa(R:List PoF×Nat×Nat×Nat)(n:Nat):Ex×St:=
 if R.2.1=0 then (.n,⟨[(5,.ptr (.loc 5) 1 4 0 0),(6,.bs (.loc 6) 2 5 0 n)],[(.loc 5,bxF 1 0 0 0 0),(.loc 6,⟨2,.own,5,rowP R.1⟩)],4⟩)
 else (.r,⟨[(4,.sl [] .an),(5,.ptr (.loc 5) 1 4 0 0)],[(.loc 5,bxF 1 R.2.1 0 R.2.2.1 R.2.2.2)],3⟩)
section
variable{T:Tbl}[CLimb T][CNat T][CProd T][CTwos T][CQuot T][CQuotD T][CWhole T][CCommon T][CFrac T][CFrac3 T][CFrac5 T][CPow T][CTape T][CGauge T][CEval T][CRun T][CIfc T][CDigits T][CText T][CJoin T][CRow T][CPull T][CSlope T][CFn416 T][CFn418 T]
theorem znt(t:Tp)(q:PoF)(bits:Int)(n:Nat)(hn:n≤1000)(F:Nat→PoF×Nat×Nat×Nat)(c:∀i:Nat,i<n→callF T 416 [epl t q bits,.i .i64 i]=some (.tup [ept (F i).1,fltA (F i).2.1 0 (F i).2.2.1 (F i).2.2.2]))
  (h0:∀i:Nat,i<n→(F i).2.1=0→(F i).2.2=(0,0)) :
  loopN T 0 0 (.norm false [5,6]) l415_0 (stGa T (epl t q bits) n 0 [])=some (endGa (gath F n 0 []) n):=by
 have key:=zbg (T:=T) (k:=0) (id:=0) (g2:=.norm false [5,6]) (c:=l415_0) (fun x:Nat×List PoF=>stGa T (epl t q bits) n x.1 x.2)
  (fun x=>x.1≤n∧x.2.length=x.1) (fun x=>n-x.1)
  (fun x=>some (endGa (gath F (n-x.1) x.1 x.2) n)) ?_ (0,[]) ⟨Nat.zero_le _,rfl⟩
 ·exact key
 rintro⟨i,acc⟩ ⟨hi,hal⟩
 obtain⟨code,outs,dim,par⟩:=t
 obtain⟨⟨q0,q1,q2⟩,qy,qp⟩:=q
 dsimp only at *
 by_cases hlt:i<n
 ·have ci:=c i hlt
  have hi':(i:Int)<n:=by omega
  have hws:=zbx hlt (by omega)
  have hb:i≤4294967295:=by omega
  have ht:List.take i acc=acc:=List.take_of_length_le (by omega)
  obtain⟨m,hm⟩:∃m,n-i=m+1:=⟨n-i-1,by omega⟩
  rw[hm,gath]
  by_cases hk:(F i).2.1=0
  ·left
   have h00:=h0 i hlt hk
   refine⟨(i+1,acc++[(F i).1]),⟨by omega,by simp[hal]⟩,by dsimp only;omega,?_,?_⟩
   ·rw[hk,h00]at ci
    have hp:=zux hal (F i).1
    rw[ht]at hp
    generalize (F i).1=G at *
    obtain⟨⟨g0,g1,g2⟩,gy,gp⟩:=G
    unfold stGa
    simp -implicitDefEqProofs[l415_0,hi',hlt,hws,ci,hp,ht,hal,hb]
   ·rw[if_pos hk,show n-(i+1)=m by omega]
  ·right
   have hk':¬ (((F i).2.1:Nat):Int)=0:=by omega
   rw[if_neg hk]
   unfold stGa endGa
   dsimp only
   rw[if_neg hk]
   generalize (((F i).2.1:Nat):Int)=kk at *
   generalize (((F i).2.2.1:Nat):Int)=ss at *
   generalize (((F i).2.2.2:Nat):Int)=aa at *
   generalize (F i).1=G at *
   obtain⟨⟨g0,g1,g2⟩,gy,gp⟩:=G
   constructor<;>simp -implicitDefEqProofs[l415_0,hi',hlt,ci,hk']
 ·right
  have e:i=n:=by omega
  subst e
  have ht:List.take i acc=acc:=List.take_of_length_le (by omega)
  rw[Nat.sub_self,gath]
  unfold stGa endGa
  rw[if_pos rfl]
  constructor<;>simp -implicitDefEqProofs[l415_0]
end
class CLaw28 (T:Tbl):Prop where
class CLaw11b (T:Tbl):Prop where
class CFig (T:Tbl):Prop where
def prim344:List AV→Option AV
 | [.s s,.s [47,46]]=>if s.length≤1000000 then some (.i .i64 (Lib.indexAny s [47,46])) else none
 | _=>none
def prim194:List AV→Option AV
 | [.s s,.s [c]]=>some (.i .i64 (Lib.indexByte s c))
 | _=>none
def prim361:List AV→Option AV
 | [.s s,.s [c]]=>some (.i .i64 (Lib.countByte s c))
 | _=>none
def prim343:List AV→Option AV
 | [.s [48],.i .i64 n]=>if 0≤n∧n≤64 then some (.s (List.replicate n.toNat 48)) else none
 | _=>none
class CStr (T:Tbl):Prop where
class CSplit (T:Tbl):Prop where
def splitC(c:UInt8):List UInt8→List (List UInt8)
 | []=>[[]]
 | b::l=>if b=c then []::splitC c l else match splitC c l with
  | []=>[[b]]
  | p::r=>(b::p)::r
section
variable{T:Tbl}[CStr T][CSplit T]
def stSp(c:UInt8)(N:Nat)(ps:List (List UInt8))(s:List UInt8):St:=
 ⟨[(0,.s s),(1,.s [c]),(2,.i .i64 0),(3,.i .i64 ((N:Int)-1)),(9,.bs (.loc 31) 1 1 0 N),(10,.i .i64 ps.length)],[(.loc 31,⟨1,.own,1,rowsT ps++List.replicate (N-ps.length) [.s []]⟩)],3⟩
end
abbrev flt(k a:Int):AV:=.agg [.i .i64 k,.i .i64 0,.i .i64 0,.i .i64 a]
def isCut(c:UInt8):Bool:=c == 47 || c == 46
def cutN:List UInt8→Nat
 | []=>0
 | c::r=>if isCut c then 0 else cutN r+1
def figB(z:Int)(neg:Bool)(s:List UInt8)(c:UInt8)(at_:Nat):Rat×Int×Int:=
 let rest:=s.drop at_
 if 0≤wrongI rest then (0,1,wrongI rest+at_)
 else if c=47 then (if rd rest=0 then (0,2,at_) else (mkRat z (rd rest),0,0))
 else (mkRat (sg neg (z.natAbs*10^rest.length+rd rest)) (10^rest.length),0,0)
def figR(s:List UInt8):Rat×Int×Int:=
 let first:=s.take (cutN s)
 if 0≤wrongZ first then (0,1,wrongZ first+minus first)
 else if cutN s<s.length then figB (readZ first) (s.head? = some 45) s (s.getD (cutN s) 0) (cutN s+1)
 else (mkRat (readZ first) 1,0,0)
def readL:List (List UInt8)→Nat→List Rat→List Rat×Int×Int
 | [],_,acc=>(acc,0,0)
 | w::ws,k,acc=>if (figR w).2.1=0 then readL ws (k+w.length+1) (acc++[(figR w).1]) else ([],(figR w).2.1,(figR w).2.2+k)
def rowR(s:List UInt8):List Rat×Int×Int:=if s=[] then ([],0,0) else readL (splitC 44 s) 0 []
section
variable{T:Tbl}[CLimb T][CNat T][CProd T][CTwos T][CQuot T][CQuotD T][CDigits T][CText T][CWhole T][CCommon T][CFrac T][CFrac2 T][CStr T][CSplit T][CPow T][CFig T][CJoin T][CRow T][CRow2 T]
def stRR(ws:List (List UInt8))(y:Nat×Nat×List Rat):St:=
 ⟨[(3,.ptr (.loc 3) 1 4 0 0),(4,.bs (.loc 4) 2 3 0 y.2.2.length),(5,.i .i64 y.2.1),(14,.sl (rowsT ws) .an),(15,.i .i64 ws.length),(16,.i .i64 y.1)],
  [(.loc 3,⟨1,.str,4,[[.i .i64 0,.i .i64 0,.i .i64 0,.i .i64 0]]⟩),(.loc 4,⟨2,.own,3,rowF (fzs y.2.2)⟩)],4⟩
def resRR(r:List Rat×Int×Int):Option (Ex×St):=
 if r.2.1=0 then some (.n,⟨[(3,.ptr (.loc 3) 1 4 0 0),(4,.bs (.loc 4) 2 3 0 r.1.length)],[(.loc 3,⟨1,.str,4,[[.i .i64 0,.i .i64 0,.i .i64 0,.i .i64 0]]⟩),(.loc 4,⟨2,.own,3,rowF (fzs r.1)⟩)],4⟩)
 else some (.r,⟨[(2,.sl [] .an),(3,.ptr (.loc 3) 1 4 0 0)],[(.loc 3,⟨1,.str,4,[[.i .i64 r.2.1,.i .i64 0,.i .i64 0,.i .i64 r.2.2]]⟩)],3⟩)
end
end Go.Ab
section
namespace Go.Ab
end Go.Ab
end
namespace Go.Ab
def longT(t:Tp)(many words:Nat):Bool:=((t.code.take many).any fun i=>decide (words<fsz i.n)) || decide (many<t.code.length) || decide (many<t.outs.length)
theorem zhw{t:Tp}{many words:Nat}(h:longT t many words=false):t.code.length≤many∧t.outs.length≤many∧∀i∈t.code,fsz i.n≤words:=by
 unfold longT at h
 simp only[Bool.or_eq_false_iff,decide_eq_false_iff_not,List.any_eq_false,decide_eq_true_eq]at h
 obtain⟨⟨h1,h2⟩,h3⟩:=h
 rw[List.take_of_length_le (by omega)]at h1
 exact⟨by omega,by omega,fun x hx=>by have:=h1 x hx;omega⟩
def longP(x:PoF)(many words:Nat):Bool:=decide (words<fsz x.t) || longB x.y many words || longB x.p many words
theorem zhx{x:PoF}{many words:Nat}(h:longP x many words=false)(hm:many≤1000):PoS x words:=by
 unfold longP at h
 simp only[Bool.or_eq_false_iff,decide_eq_false_iff_not]at h
 obtain⟨⟨h1,h2⟩,h3⟩:=h
 obtain⟨a1,a2⟩:=zdo h2
 obtain⟨b1,b2⟩:=zdo h3
 exact⟨by omega,a2,b2,by omega,by omega⟩
section
variable{T:Tbl}[CRef02 T][CRef04 T][CRef05 T][CRef07 T][CRef06 T][CRef08 T][CRef09 T][CRef11 T][CLaw09 T][CLaw11 T][CLaw24 T]
def stLT(t:Tp)(many words i:Nat):St:=⟨[(1,.i .i64 many),(2,.i .i64 words),(3,.ptr (.loc 3) 1 4 0 0),(7,.i .i64 i)],[(.loc 3,bxT t)],3⟩
def enLT(t:Tp)(many:Nat):Ex×St:=(.n,⟨[(1,.i .i64 many),(3,.ptr (.loc 3) 1 4 0 0)],[(.loc 3,bxT t)],3⟩)
theorem zqn(t:Tp)(many words:Nat)(hm:many≤1000) :
  loopN T 0 0 (.norm false [1,3]) l379_0 (stLT t many words 0)=if (t.code.take many).any (fun i=>decide (words<fsz i.n))=true then some (.r,⟨[(6,.b true)],[],2⟩) else some (enLT t many):=by
 have e0:t.code.take many=(t.code.take many).drop 0:=rfl
 rw[e0]
 obtain⟨n,hn⟩:∃n,n=(t.code.take many).length:=⟨_,rfl⟩
 have hn':n≤many∧n≤t.code.length∧(n=many∨n=t.code.length):=by rw[hn,List.length_take];omega
 refine zbm (stLT t many words) n (fun i=>if ((t.code.take many).drop i).any (fun x=>decide (words<fsz x.n))=true then some (.r,⟨[(6,.b true)],[],2⟩) else some (enLT t many)) (fun i hi=>?_) ?_
 ·have h1:i<t.code.length:=by omega
  have h2:(i:Int)<t.code.length:=by omega
  have h3:i<many:=by omega
  have h4:(i:Int)<many:=by omega
  have hg:t.code[i]? = some (t.code[i]'h1):=List.getElem?_eq_getElem h1
  have hws2:=zbx h3 (by omega)
  have c:=zef (T:=T) (t.code[i]'h1).n words
  have key:((t.code.take many).drop i).any (fun x=>decide (words<fsz x.n))=(decide (words<fsz (t.code[i]'h1).n) || ((t.code.take many).drop (i+1)).any fun x=>decide (words<fsz x.n)):=by
   rw[List.drop_eq_getElem_cons (by rw[←hn];exact hi),List.any_cons,List.getElem_take]
  by_cases he:words<fsz (t.code[i]'h1).n
  ·right
   rw[if_pos (by rw[key,decide_eq_true he,Bool.true_or])]
   rw[decide_eq_true he]at c
   unfold stLT bxT
   clear key he hn hn'
   constructor<;>simp -implicitDefEqProofs[l379_0,h1,h2,h3,h4,hg,c]
  ·left
   refine⟨?_,by simp only[key,decide_eq_false he,Bool.false_or]⟩
   rw[decide_eq_false he]at c
   unfold stLT bxT
   clear key he hn hn'
   simp -implicitDefEqProofs[l379_0,h1,h2,h3,h4,hg,hws2,c]
 ·rw[List.drop_of_length_le (by omega),if_neg (by simp)]
  unfold stLT enLT bxT
  by_cases hc:n<t.code.length
  ·have h5:n=many:=by omega
   have h6:(n:Int)<t.code.length:=by omega
   subst h5
   constructor<;>simp -implicitDefEqProofs[l379_0,hc,h6]
  ·have h5:¬ (n:Int)<t.code.length:=by omega
   constructor<;>simp -implicitDefEqProofs[l379_0,hc,h5]
theorem zqo(t:Tp)(many words:Nat)(hm:many≤1000):callF T 379 [etp t,.i .i64 many,.i .i64 words]=some (.b (longT t many words)):=by
 have h:=zqn (T:=T) t many words hm
 unfold stLT enLT bxT at h
 simp only[Int.natCast_zero]at h
 unfold longT
 generalize ((t.code.take many).any fun i=>decide (words<fsz i.n))=B at *
 obtain⟨code,outs,dim,par⟩:=t
 dsimp only at *
 rw[f379 _ rfl,b379]
 cases B with
 | true=>
  rw[if_pos rfl]at h
  simp -implicitDefEqProofs[h]
 | false=>
  rw[if_neg (by decide)]at h
  by_cases h1:many<code.length
  ·have h2:(many:Int)<code.length:=by omega
   simp -implicitDefEqProofs[h,h1,h2]
  ·have h2:¬ (many:Int)<code.length:=by omega
   have e:decide ((many:Int)<outs.length)=decide (many<outs.length):=by
    by_cases h3:many<outs.length
    ·rw[decide_eq_true h3,decide_eq_true (by omega)]
    ·rw[decide_eq_false h3,decide_eq_false (by omega)]
   simp -implicitDefEqProofs[h,h1,h2,e]
theorem zi9(x:PoF)(many words:Nat)(hm:many≤1000):callF T 380 [ept x,.i .i64 many,.i .i64 words]=some (.b (longP x many words)):=by
 have c1:=zef (T:=T) x.t words
 have c2:=zh3 (T:=T) x.y many words hm
 have c3:=zh3 (T:=T) x.p many words hm
 unfold longP
 generalize decide (words<fsz x.t)=B1 at *
 generalize longB x.y many words=B2 at *
 generalize longB x.p many words=B3 at *
 obtain⟨⟨n,a,d⟩,y,p⟩:=x
 dsimp only at *
 rw[f380 _ rfl,b380]
 cases B1<;>cases B2<;>simp -implicitDefEqProofs[c1,c2,c3]
theorem zo2(x:PoF)(hy:x.y.length≤1000)(hp:x.p.length≤1000):callF T 383 [ept x]=some (ept x):=by
 have c1:=zj4 (T:=T) x.t
 have c2:=zo1 (T:=T) x.y (by omega)
 have c3:=zo1 (T:=T) x.p (by omega)
 obtain⟨⟨n,a,d⟩,y,p⟩:=x
 dsimp only at *
 rw[f383 _ rfl,b383]
 simp -implicitDefEqProofs[c1,c2,c3]
@[simp] theorem zaen(l:List Int):Option.all (fun r=>decide (r.length=1)) (ints l).head? = true:=by cases l<;>rfl
def fC:BId:=.fld (.loc 3) 0
def stTT(t:Tp)(i:Nat):St:=⟨[(1,.ptr (.loc 1) 1 4 0 0),(2,.ptr (.loc 2) 2 4 0 0),(3,.ptr (.loc 3) 3 4 0 0),(4,.i .i64 i)],
 [(.loc 1,bxT t),(.loc 2,⟨2,.str,4,[[.sl [] .an,.sl [] .an,.i .i64 0,.i .i64 0]]⟩),(.loc 3,⟨3,.str,4,[[.bs fC 4 6 0 i,.bs (.loc 13) 5 1 0 t.outs.length,.i .i64 t.dim,.i .i64 t.par]]⟩),(fC,⟨4,.own,6,rowI (t.code.take i)⟩),(.loc 13,⟨5,.own,1,ints t.outs⟩)],7⟩
theorem ztx(t:Tp)(i:Nat)(hi:i<t.code.length)(hl:t.code.length≤1000):evX (orc T) T 0 l382_0 (stTT t i)=some (.n,stTT t (i+1)):=by
 have hws:=zbx hi (by omega)
 have hb:i≤4294967295:=by omega
 have hg:t.code[i]? = some (t.code[i]'hi):=List.getElem?_eq_getElem hi
 have hn:=zj4 (T:=T) (t.code[i]'hi).n
 have hi':(i:Int)<t.code.length:=by omega
 have hml:(t.code.take i).length=i:=by simp;omega
 have ht:List.take i (t.code.take i)=t.code.take i:=List.take_of_length_le (by omega)
 have e:=zhv t.code hi
 have hp:=zvo hml (t.code[i]'hi)
 rw[ht]at hp
 unfold stTT bxT fC
 rw[e]
 clear e
 generalize t.code.take i=M at *
 simp -implicitDefEqProofs[l382_0,hi,hi',hws,hb,hg,hn,hml,ht,hp]
theorem zww(t:Tp)(hl:t.code.length≤1000):loopN T 0 0 (.norm false [2,3]) l382_0 (stTT t 0) =
  some (.n,⟨[(2,.ptr (.loc 2) 1 4 0 0),(3,.ptr (.loc 3) 2 4 0 0)],[(.loc 2,⟨1,.str,4,[[.sl [] .an,.sl [] .an,.i .i64 0,.i .i64 0]]⟩),(.loc 3,⟨2,.str,4,[[.bs fC 3 6 0 t.code.length,.bs (.loc 13) 4 1 0 t.outs.length,.i .i64 t.dim,.i .i64 t.par]]⟩),(fC,⟨3,.own,6,rowI t.code⟩),(.loc 13,⟨4,.own,1,ints t.outs⟩)],6⟩):=by
 refine za3 (stTT t) t.code.length _ (fun i hi=>ztx t i hi hl) ?_
 unfold stTT bxT fC
 rw[List.take_of_length_le (Nat.le_refl _)]
 constructor<;>simp -implicitDefEqProofs[l382_0]
theorem zwx(t:Tp)(hl:t.code.length≤1000)(ho:t.outs.length≤1000):callF T 382 [etp t]=some (etp t):=by
 have ht:List.take t.code.length t.code=t.code:=List.take_of_length_le (by omega)
 have hs:List.take t.outs.length t.outs=t.outs:=List.take_of_length_le (by omega)
 have h:=zww (T:=T) t hl
 unfold stTT bxT fC at h
 simp only[Int.natCast_zero,List.take_zero,zx4]at h
 obtain⟨code,outs,dim,par⟩:=t
 dsimp only at *
 have ho2:outs.length≤4294967296:=by omega
 rw[f382 _ rfl,b382]
 simp -implicitDefEqProofs[ht,hs,ho2,h]
end
class CLaw26 (T:Tbl):Prop where
def headT(t:Tp)(n:Nat):Tp:=⟨t.code.take n,List.replicate t.outs.length 0,t.dim,t.par⟩
theorem zaeo{t:Tp}{many words:Nat}(h:longT t many words=false)(hm:many≤1000)(hw:words≤1000)(d1:-9223372036854775808≤t.dim)(d2:t.dim<9223372036854775808):TpS t:=by
 obtain⟨h1,h2,h3⟩:=zhw h
 exact⟨⟨by omega,by omega,fun i hi=>by have:=h3 i hi;omega,d1,d2⟩,fun i hi=>by have:=h3 i hi;omega⟩
def t62:Tp:=⟨[⟨3,0,0,(false,[],[])⟩,⟨2,0,0,(false,[],[])⟩,⟨10,0,1,(false,[],[])⟩],[2],1,0⟩
def p62:PoF:=⟨fz 2,[fz 6],[]⟩
def p60:PoF:=⟨(false,[],[]),[fz 6],[]⟩
section
variable{T:Tbl}[CLimb T][CNat T][CProd T][CTwos T][CQuot T][CQuotD T][CWhole T][CCommon T][CFrac T][CFrac3 T][CFrac5 T][CPow T][CTape T][CGauge T][CEval T][CRun T][CIfc T][CDigits T][CText T][CJoin T][CRow T]
variable[CRef02 T][CRef04 T][CRef05 T][CRef07 T][CRef06 T][CRef08 T][CRef09 T][CRef11 T][CLaw09 T][CLaw11 T][CLaw24 T][CLaw27l T]
abbrev eway(x y:PoF)(bits:Int):AV:=.agg [.b x.t.1,.sl (u32s x.t.2.1) .an,.sl (u32s x.t.2.2) .an,.sl (rowF x.y) .an,.sl (rowF x.p) .an,.b y.t.1,.sl (u32s y.t.2.1) .an,.sl (u32s y.t.2.2) .an,.sl (rowF y.y) .an,.sl (rowF y.p) .an,.i .i64 bits]
def longW(x y:PoF)(bits:Int):Bool:=longP x 6 2 || longP y 6 2 || decide (500<bits)
theorem zqp(x y:PoF)(bits:Int):callF T 385 [eway x y bits]=some (.b (longW x y bits)):=by
 have c1:callF T 380 [ept x,.i .i64 6,.i .i64 2]=some (.b (longP x 6 2)):=zi9 (T:=T) x 6 2 (by decide)
 have c2:callF T 380 [ept y,.i .i64 6,.i .i64 2]=some (.b (longP y 6 2)):=zi9 (T:=T) y 6 2 (by decide)
 unfold longW
 generalize longP x 6 2=B1 at *
 generalize longP y 6 2=B2 at *
 obtain⟨⟨x0,x1,x2⟩,xy,xp⟩:=x
 obtain⟨⟨y0,y1,y2⟩,yy,yp⟩:=y
 rw[f385 _ rfl,b385]
 cases B1<;>cases B2<;>simp -implicitDefEqProofs[c1,c2]
end
section
variable{T:Tbl}[CLimb T][CNat T][CProd T][CTwos T][CQuot T][CQuotD T][CWhole T][CCommon T][CFrac T][CFrac3 T][CFrac5 T][CPow T][CTape T][CGauge T][CEval T][CRun T][CIfc T][CDigits T][CText T][CJoin T][CRow T][CPull T]
variable[CRef02 T][CRef04 T][CRef05 T][CRef07 T][CRef06 T][CRef08 T][CRef09 T][CRef11 T][CLaw09 T][CLaw11 T][CLaw24 T][CLaw28 T]
def sumG(a b:PoF):PoF:=⟨fz (fv a.t+fv b.t),fzs (addP (a.y.map fv) b.y),fzs (addP (a.p.map fv) b.p)⟩
def t28:Tp:=⟨[⟨3,0,0,(false,[],[])⟩,⟨4,0,0,(false,[],[])⟩,⟨9,0,1,(false,[],[])⟩],[2],1,1⟩
def p28:PoF:=⟨(false,[],[]),[fz 3],[fz 5]⟩
end
theorem zhy{lim:Nat}:∀{l:List Rat} {k:Nat},firstL lim l k=none→∀q∈l,sizQ q≤lim
 | [],_,_=>fun q hq=>by cases hq
 | a::l,k,h=>by
  unfold firstL at h
  by_cases ha:lim<sizQ a
  ·rw[if_pos ha]at h;cases h
  ·rw[if_neg ha]at h
   intro q hq
   rcases List.mem_cons.1 hq with rfl | hq
   ·omega
   ·exact zhy h q hq
theorem zlx(code:List Ins)(D:List Rat):∀(n:Nat) (co:List Rat) (g:Po),(backL code D n co g).2.y.length=g.y.length∧(backL code D n co g).2.p.length=g.p.length
 | 0,co,g=>⟨rfl,rfl⟩
 | n+1,co,g=>by
  unfold backL
  cases hx:code[n]? with
  | none=>exact⟨rfl,rfl⟩
  | some x=>
   dsimp only
   obtain⟨h1,h2⟩:=zlx code D n (thrC D x (gI D n) (gI co n) co) (thrG x (gI co n) g)
   exact⟨h1.trans (zeh _ _ _).1,h2.trans (zeh _ _ _).2⟩
theorem zj5{lim:Nat}{t:Tp}{P:Po}{w:List Rat}(hw:(backT lim t P w).2.1=0):(backT lim t P w).2.2=(0,0)∧(backT lim t P w).1.y.length=t.dim.toNat∧(backT lim t P w).1.p.length=t.par.toNat∧∀q∈allP (backT lim t P w).1,sizQ q≤lim:=by
 unfold backT at hw ⊢
 by_cases h1:w.length≠t.outs.length
 ·rw[if_pos h1]at hw;cases hw
 ·rw[if_neg h1]at hw ⊢
  by_cases h2:(tapeR lim t P).2.1≠0
  ·rw[if_pos h2]at hw;exact absurd hw h2
  ·rw[if_neg h2]at hw ⊢
   have hb:=zn0 lim t.code (tapeR lim t P).1 t.code.length (sendQ t.outs w (List.replicate t.code.length 0)) (zeroP t.dim.toNat t.par.toNat)
   obtain⟨l1,l2⟩:=zlx t.code (tapeR lim t P).1 t.code.length (sendQ t.outs w (List.replicate t.code.length 0)) (zeroP t.dim.toNat t.par.toNat)
   generalize backR lim t.code (tapeR lim t P).1 t.code.length (sendQ t.outs w (List.replicate t.code.length 0)) (zeroP t.dim.toNat t.par.toNat)=R at *
   obtain⟨s,o⟩:=R
   cases o with
   | some i=>cases hw
   | none=>
    dsimp only at hw hb ⊢
    rw[←hb rfl]at l1 l2
    cases hf:firstL lim (allP s.2) 0 with
    | some k=>rw[hf]at hw;cases hw
    | none=>
     refine⟨rfl,?_,?_,zhy hf⟩
     ·rw[l1];simp[zeroP]
     ·rw[l2];simp[zeroP]
theorem zuy{n i:Int}{q:Rat}(h:q∈unitR n i):q=0∨q=1:=by
 unfold unitR at h
 split at h
 ·rcases List.mem_or_eq_of_mem_set h with h | h
  ·exact .inl (List.eq_of_mem_replicate h)
  ·exact .inr h
 ·exact .inl (List.eq_of_mem_replicate h)
theorem zo9{n i:Int}{q:Rat}(h:q∈unitR n i):sz q≤1:=by
 rcases zuy h with rfl | rfl
 ·exact Nat.le_of_eq zbz
 ·exact z6a (by decide) (by decide)
def rowG(lim:Nat)(t:Tp)(P:Po)(i:Nat):PoF×Nat×Nat×Nat:=((backT lim t P (unitR t.outs.length i)).1.f,(backT lim t P (unitR t.outs.length i)).2)
theorem zf4{m:List (List Fz)}{n:Nat}(h:m.length=n)(x:List Fz):wkL (matF (List.take n m)++[[.sl (rowF x) .an]])=matF (m++[x]):=by
 rw[List.take_of_length_le (by omega),zmp]
 simp
def jacP(L:List PoF):JcF:=⟨L.map PoF.t,L.map PoF.y,L.map PoF.p⟩
abbrev fJ(k:Nat):BId:=.fld (.loc 10) k
abbrev bxJ(g:Nat):Box:=⟨g,.str,3,[[.sl [] .an,.sl [] .an,.sl [] .an]]⟩
def stRo(L:List PoF)(i:Nat):St:=
 ⟨[(6,.ptr (.loc 6) 1 3 0 0),(7,.ptr (.loc 7) 2 4 0 0),(9,.ptr (.loc 9) 3 4 0 0),(10,.ptr (.loc 10) 4 3 0 0),(31,.sl (rowP L) .an),(32,.i .i64 L.length),(33,.i .i64 i)],
  [(.loc 6,bxJ 1),(.loc 7,bxF 2 0 0 0 0),(.loc 9,bxF 3 0 0 0 0),(.loc 10,⟨4,.str,3,[[.bs (fJ 0) 5 3 0 i,.bs (fJ 1) 6 1 0 i,.bs (fJ 2) 7 1 0 i]]⟩),
   (fJ 0,⟨5,.own,3,rowF ((L.take i).map PoF.t)⟩),(fJ 1,⟨6,.own,1,matF ((L.take i).map PoF.y)⟩),(fJ 2,⟨7,.own,1,matF ((L.take i).map PoF.p)⟩)],9⟩
section
variable{T:Tbl}[CLimb T][CNat T][CProd T][CTwos T][CQuot T][CQuotD T][CWhole T][CCommon T][CFrac T][CFrac3 T][CFrac5 T][CPow T][CTape T][CGauge T][CEval T][CRun T][CIfc T][CDigits T][CText T][CJoin T][CRow T][CPull T][CSlope T][CFn416 T][CFn418 T]
theorem zuz(t:Tp)(x:PoF)(bits:Int)(i:Nat)(hs:TpS t)(hx:PoS x 1000)(hl:t.code.length≤20) :
  callF T 416 [epl t x bits,.i .i64 i]=some (.tup [ept (rowG (limN bits) t x.v i).1,fltA (rowG (limN bits) t x.v i).2.1 0 (rowG (limN bits) t x.v i).2.2.1 (rowG (limN bits) t x.v i).2.2.2]):=by
 have u:=zd1 (T:=T) t.outs.length i
 have b:=ztj (T:=T) t x (fzs (unitR t.outs.length i)) bits hs hx hl (fun v hv=>by
  obtain⟨q,hq,rfl⟩:=List.mem_map.1 hv
  rw[zas]
  exact Nat.le_trans (zo9 hq) (by decide))
 rw[zgg]at b
 unfold rowG
 dsimp only
 generalize (((backT (limN bits) t x.v (unitR t.outs.length i)).2.1:Nat):Int)=kk at *
 generalize (((backT (limN bits) t x.v (unitR t.outs.length i)).2.2.1:Nat):Int)=ss at *
 generalize (((backT (limN bits) t x.v (unitR t.outs.length i)).2.2.2:Nat):Int)=aa at *
 generalize (backT (limN bits) t x.v (unitR t.outs.length i)).1.f=G at *
 generalize fzs (unitR t.outs.length i)=U at *
 obtain⟨code,outs,dim,par⟩:=t
 obtain⟨⟨x0,x1,x2⟩,xy,xp⟩:=x
 obtain⟨⟨g0,g1,g2⟩,gy,gp⟩:=G
 dsimp only at *
 rw[f416 _ rfl,b416]
 simp -implicitDefEqProofs[u,b]
theorem zq2(t:Tp)(x:PoF)(bits:Int)(n:Nat)(hn:n≤1000)(hs:TpS t)(hx:PoS x 1000)(hl:t.code.length≤20) :
  callF T 415 [.i .i64 n,.fnv (tyNum T 500416) (epl t x bits)]=some (.tup [.sl (rowP (gath (rowG (limN bits) t x.v) n 0 []).1) .an,
   fltA (gath (rowG (limN bits) t x.v) n 0 []).2.1 0 (gath (rowG (limN bits) t x.v) n 0 []).2.2.1 (gath (rowG (limN bits) t x.v) n 0 []).2.2.2]):=by
 have h:=znt (T:=T) t x bits n hn (rowG (limN bits) t x.v) (fun i _=>zuz t x bits i hs hx hl) (fun i _ hk=>(zj5 hk).1)
 unfold stGa endGa at h
 simp only[Int.natCast_zero,zxm]at h
 by_cases hk:(gath (rowG (limN bits) t x.v) n 0 []).2.1=0
 ·obtain⟨e1,e2,_⟩:=zcu _ _ _ _ hk
  rw[if_pos hk]at h
  have hl2:(gath (rowG (limN bits) t x.v) n 0 []).1.length=n:=by rw[e1];simp
  rw[hk,e2]
  clear e1 e2 hk hs hx
  generalize (gath (rowG (limN bits) t x.v) n 0 []).1=L at *
  have ht:List.take n L=L:=List.take_of_length_le (by omega)
  obtain⟨code,outs,dim,par⟩:=t
  obtain⟨⟨x0,x1,x2⟩,xy,xp⟩:=x
  rw[f415 _ rfl,b415]
  simp -implicitDefEqProofs[h,hl2,ht]
 ·rw[if_neg hk]at h
  rw[zgv _ _ _ _ hk]
  generalize (((gath (rowG (limN bits) t x.v) n 0 []).2.1:Nat):Int)=kk at *
  generalize (((gath (rowG (limN bits) t x.v) n 0 []).2.2.1:Nat):Int)=ss at *
  generalize (((gath (rowG (limN bits) t x.v) n 0 []).2.2.2:Nat):Int)=aa at *
  obtain⟨code,outs,dim,par⟩:=t
  obtain⟨⟨x0,x1,x2⟩,xy,xp⟩:=x
  rw[f415 _ rfl,b415]
  simp -implicitDefEqProofs[h]
theorem zu0(L:List PoF)(hn:L.length≤1000):loopN T 0 0 (.norm false [6,7,9,10]) l403_0 (stRo L 0) =
  some (.n,⟨[(6,.ptr (.loc 6) 1 3 0 0),(7,.ptr (.loc 7) 2 4 0 0),(9,.ptr (.loc 9) 3 4 0 0),(10,.ptr (.loc 10) 4 3 0 0)],
   [(.loc 6,bxJ 1),(.loc 7,bxF 2 0 0 0 0),(.loc 9,bxF 3 0 0 0 0),(.loc 10,⟨4,.str,3,[[.bs (fJ 0) 5 3 0 L.length,.bs (fJ 1) 6 1 0 L.length,.bs (fJ 2) 7 1 0 L.length]]⟩),
   (fJ 0,⟨5,.own,3,rowF (jacP L).t⟩),(fJ 1,⟨6,.own,1,matF (jacP L).y⟩),(fJ 2,⟨7,.own,1,matF (jacP L).p⟩)],9⟩):=by
 refine za3 (stRo L) L.length _ (fun i hi=>?_) ?_
 ·have hg:L[i]? = some (L[i]'hi):=List.getElem?_eq_getElem hi
  have hge:=(List.getElem?_eq_some_iff.1 hg).2
  have hws:=zbx hi (by omega)
  have hi':(i:Int)<L.length:=by omega
  have hb:i≤4294967295:=by omega
  have e1:=zbw L PoF.t hi
  have e2:=zbw L PoF.y hi
  have e3:=zbw L PoF.p hi
  have m1:((L.take i).map PoF.t).length=i:=by simp;omega
  have m2:((L.take i).map PoF.y).length=i:=by simp;omega
  have m3:((L.take i).map PoF.p).length=i:=by simp;omega
  have p1:=zcs m1 (L[i]'hi).t
  have p2:=zf4 m2 (L[i]'hi).y
  have p3:=zf4 m3 (L[i]'hi).p
  show evX (orc T) T 0 l403_0 (stRo L i)=some (.n,stRo L (i+1))
  unfold stRo
  rw[e1,e2,e3]
  clear e1 e2 e3
  generalize (L.take i).map PoF.t=M1 at *
  generalize (L.take i).map PoF.y=M2 at *
  generalize (L.take i).map PoF.p=M3 at *
  have t1:List.take i M1=M1:=List.take_of_length_le (by omega)
  have t2:List.take i M2=M2:=List.take_of_length_le (by omega)
  have t3:List.take i M3=M3:=List.take_of_length_le (by omega)
  rw[t1]at p1
  rw[t2]at p2
  rw[t3]at p3
  generalize L[i]'hi=G at *
  obtain⟨⟨g0,g1,g2⟩,gy,gp⟩:=G
  dsimp only at *
  simp -implicitDefEqProofs[l403_0,hi,hi',hg,hge,hws,hb,m1,m2,m3,p1,p2,p3,t1,t2,t3]
 ·unfold stRo jacP
  rw[List.take_of_length_le (Nat.le_refl _)]
  generalize L.map PoF.t=M1 at *
  generalize L.map PoF.y=M2 at *
  generalize L.map PoF.p=M3 at *
  constructor<;>simp -implicitDefEqProofs[l403_0]
end
def slopeI(B:Po)(V S:List Rat)(x:Ins)(v:Rat):Rat:=
 if x.op=1 then 0
 else if x.op=3 then gI B.y x.a
 else if x.op=4 then gI B.p x.a
 else if x.op=6 then -gI S x.a
 else if x.op=7 then gI S x.a+gI S x.b
 else if x.op=8 then gI S x.a-gI S x.b
 else if x.op=9 then gI S x.a*gI V x.b+gI V x.a*gI S x.b
 else if x.op=10 then (gI S x.a-v*gI S x.b)/gI V x.b
 else if x.op=11 then x.b*turnW V x v*gI S x.a
 else B.t
def runD(lim:Nat)(P B:Po):List Ins→List Rat→List Rat→List Rat×List Rat×Nat×Nat×Nat
 | [],V,S=>(V,S,0,0,0)
 | i::r,V,S=>
  if (valI P V i).2=false then ([],[],3,0,V.length)
  else if lim<sizQ (valI P V i).1 then ([],[],6,0,V.length)
  else if lim<sizQ (slopeI B V S i (valI P V i).1) then ([],[],6,1,V.length)
  else runD lim P B r (V++[(valI P V i).1]) (S++[slopeI B V S i (valI P V i).1])
theorem zd5(lim:Nat)(P B:Po)(i:Ins)(r:List Ins)(V S:List Rat):runD lim P B (i::r) V S =
  if (valI P V i).2=false then ([],[],3,0,V.length)
  else if lim<sizQ (valI P V i).1 then ([],[],6,0,V.length)
  else if lim<sizQ (slopeI B V S i (valI P V i).1) then ([],[],6,1,V.length)
  else runD lim P B r (V++[(valI P V i).1]) (S++[slopeI B V S i (valI P V i).1]):=rfl
def slopesG(B:Po)(V:List Rat):List Ins→List Rat→List Rat
 | [],S=>S
 | i::r,S=>slopesG B V r (S++[slopeI B V S i (gI V S.length)])
theorem zpk{A C:List Rat}{i:Int}(h0:0≤i)(h:i<A.length):gI (A++C) i=gI A i:=by
 unfold gI
 rw[List.getD_eq_getElem?_getD,List.getD_eq_getElem?_getD,List.getElem?_append_left (by omega)]
theorem zy2{dim par:Int}{p:Nat}{x:Ins}(hm:mayI dim par p x=true){A C:List Rat}(hA:A.length=p) :
  ((x.op=6∨x.op=11∨(7≤x.op∧x.op≤10))→gI (A++C) x.a=gI A x.a)∧((7≤x.op∧x.op≤10)→gI (A++C) x.b=gI A x.b):=
 ⟨fun h=>by have:=zej hm h;exact zpk this.1 (by omega),fun h=>by have:=zgj hm h;exact zpk this.1 (by omega)⟩
theorem zri{dim par:Int}{p:Nat}{x:Ins}(hm:mayI dim par p x=true)(B:Po){A C S E:List Rat}(hA:A.length=p)(hS:S.length=p)(v:Rat):slopeI B (A++C) (S++E) x v=slopeI B A S x v:=by
 obtain⟨ga,gb⟩:=zy2 hm hA (C:=C)
 obtain⟨sa,sb⟩:=zy2 hm hS (C:=E)
 rcases zih hm with h | h | h | h | h | h | h | h | h | h
 ·simp[slopeI,h]
 ·simp[slopeI,h]
 ·simp[slopeI,h]
 ·simp[slopeI,h]
 ·simp[slopeI,h,sa (by omega)]
 ·simp[slopeI,h,sa (by omega),sb (by omega)]
 ·simp[slopeI,h,sa (by omega),sb (by omega)]
 ·simp[slopeI,h,ga (by omega),gb (by omega),sa (by omega),sb (by omega)]
 ·simp[slopeI,h,gb (by omega),sa (by omega),sb (by omega)]
 ·simp[slopeI,h,turnW,ga (by omega),sa (by omega)]
theorem zvl(A:List Rat)(x:Rat):gI (A++[x]) (A.length:Nat)=x:=by
 unfold gI
 rw[List.getD_eq_getElem?_getD,Int.toNat_natCast,List.getElem?_append_right (Nat.le_refl _),Nat.sub_self]
 rfl
theorem zn2(lim:Nat)(P B:Po)(dim par:Int):∀(l:List Ins) (V S:List Rat),V.length=S.length→(∀(k:Nat) (x:Ins),l[k]? = some x→mayI dim par (V.length+k:Nat) x=true)→(runD lim P B l V S).2.2.1=0 →
  ∃V' S',runD lim P B l V S=(V++V',S++S',0,0,0)∧V'.length=l.length∧S'.length=l.length∧runR lim P l V=(V++V',0,0)∧(∀q∈S',sizQ q≤lim) ∧
   ∀(k:Nat) (x:Ins),l[k]? = some x→gI (S++S') (V.length+k:Nat)=slopeI B (V++V') (S++S') x (gI (V++V') (V.length+k:Nat))
 | [],V,S,_,_,_=>⟨[],[],by simp[runD],rfl,rfl,by simp[runR],by simp,fun k x hx=>by simp at hx⟩
 | i::r,V,S,hl,hm,h=>by
  rw[zd5]at h
  by_cases h1:(valI P V i).2=false
  ·rw[if_pos h1]at h;cases h
  rw[if_neg h1]at h
  by_cases h2:lim<sizQ (valI P V i).1
  ·rw[if_pos h2]at h;cases h
  rw[if_neg h2]at h
  by_cases h3:lim<sizQ (slopeI B V S i (valI P V i).1)
  ·rw[if_pos h3]at h;cases h
  rw[if_neg h3]at h
  obtain⟨V',S',e1,e2,e3,e4,e5,e6⟩:=zn2 lim P B dim par r (V++[(valI P V i).1]) (S++[slopeI B V S i (valI P V i).1]) (by simp[hl]) (fun k x hx=>by
   have:=hm (k+1) x (by simpa using hx)
   rw[List.length_append,List.length_cons,List.length_nil]
   rwa [show V.length+(0+1)+k=V.length+(k+1) by omega]) h
  have hm0:=hm 0 i rfl
  rw[Nat.add_zero]at hm0
  refine⟨(valI P V i).1::V',slopeI B V S i (valI P V i).1::S',?_,by simp[e2],by simp[e3],?_,?_,?_⟩
  ·rw[zd5,if_neg h1,if_neg h2,if_neg h3,e1]
   simp
  ·rw[zcv,if_neg h1,if_neg h2,e4]
   simp
  ·intro q hq
   rcases List.mem_cons.1 hq with rfl | hq
   ·omega
   ·exact e5 q hq
  ·intro k x hx
   have a1:V++(valI P V i).1::V'=(V++[(valI P V i).1])++V':=by simp
   have a2:S++slopeI B V S i (valI P V i).1::S'=(S++[slopeI B V S i (valI P V i).1])++S':=by simp
   cases k with
   | zero=>
    have hx':i=x:=by simpa using hx
    subst hx'
    rw[zri hm0 B rfl hl.symm,Nat.add_zero,a1,a2]
    generalize slopeI B V S i=sl
    have g2:gI (V++[(valI P V i).1]++V') (V.length:Nat)=(valI P V i).1:=by rw[zpk (by omega) (by simp;omega),zvl]
    have g1:∀z,gI (S++[z]++S') (V.length:Nat)=z:=fun z=>by rw[hl,zpk (by omega) (by simp;omega),zvl]
    rw[g2,g1]
   | succ k=>
    have:=e6 k x (by simpa using hx)
    rw[List.length_append,List.length_cons,List.length_nil,show V.length+(0+1)+k=V.length+(k+1) by omega]at this
    rw[a1,a2]
    exact this
def sumT(S:List Rat):Nat→List Rat→Rat
 | 0,_=>0
 | n+1,co=>sumT S n co+gI co n*gI S n
theorem z65(l:List Rat)(i:Int)(x:Rat)(k:Nat)(h0:0≤i)(hi:i<l.length):gI (bmp l i x) k=if (k:Int)=i then gI l k+x else gI l k:=by
 obtain⟨j,rfl⟩:∃j:Nat,i=j:=⟨i.toNat,by omega⟩
 unfold bmp gI
 rw[Int.toNat_natCast,Int.toNat_natCast,List.getD_eq_getElem?_getD,List.getD_eq_getElem?_getD,List.getD_eq_getElem?_getD,List.getElem?_set]
 by_cases h:j=k
 ·subst h
  rw[if_pos rfl,if_pos (by omega),if_pos rfl]
  rfl
 ·rw[if_neg h,if_neg (by omega)]
theorem zkk(S:List Rat):∀(n:Nat) (co:List Rat) (i:Int) (x:Rat),0≤i→i<co.length→sumT S n (bmp co i x)=sumT S n co+if i<n then x*gI S i else 0
 | 0,co,i,x,h0,hi=>by
  rw[if_neg (by omega)]
  simp[sumT,Rat.add_zero]
 | n+1,co,i,x,h0,hi=>by
  rw[sumT,sumT,zkk S n co i x h0 hi,z65 co i x n h0 hi]
  by_cases h:(n:Int)=i
  ·subst h
   rw[if_neg (by omega),if_pos rfl,if_pos (by omega)]
   grind
  ·rw[if_neg h]
   by_cases h2:i<n
   ·rw[if_pos h2,if_pos (by omega)]
    grind
   ·rw[if_neg h2,if_neg (by omega)]
    grind
def dotW:List Rat→List Rat→Rat
 | a::l,b::m=>a*b+dotW l m
 | _,_=>0
theorem zpl:∀(l m:List Rat) (k:Nat) (x:Rat),k<l.length→l.length=m.length→dotW (l.set k (l.getD k 0+x)) m=dotW l m+x*m.getD k 0
 | [],_,k,x,h,_=>by simp at h
 | _::_,[],_,_,_,h=>by simp at h
 | a::l,b::m,0,x,_,_=>by
  simp only[List.set_cons_zero,dotW,List.getD_cons_zero]
  grind
 | a::l,b::m,k+1,x,h,hl=>by
  have:=zpl l m k x (by simpa using h) (by simpa using hl)
  simp only[List.set_cons_succ,dotW,List.getD_cons_succ]
  rw[this]
  grind
theorem zpm(l m:List Rat)(i:Int)(x:Rat)(h0:0≤i)(hi:i<l.length)(hl:l.length=m.length):dotW (bmp l i x) m=dotW l m+x*gI m i:=by
 unfold bmp gI
 exact zpl l m i.toNat x (by omega) hl
def meet(g B:Po):Rat:=g.t*B.t+(dotW g.y B.y+dotW g.p B.p)
theorem zmq{dim par:Int}{n:Nat}{x:Ins}(hm:mayI dim par n x=true)(V S:List Rat)(B g:Po)(co:List Rat)(hn:n<co.length)(hy:g.y.length=B.y.length)(hp:g.p.length=B.p.length)(hd:(B.y.length:Int)=dim)(hr:(B.p.length:Int)=par)
  (hs:gI S n=slopeI B V S x (gI V n)):sumT S n (thrC V x (gI V n) (gI co n) co)+meet (thrG x (gI co n) g) B=sumT S (n+1) co+meet g B:=by
 have ia:(x.op=6∨x.op=11∨(7≤x.op∧x.op≤10))→0≤x.a∧x.a<n:=fun h=>zej hm h
 have ib:(7≤x.op∧x.op≤10)→0≤x.b∧x.b<n:=fun h=>zgj hm h
 have one:∀(l:List Rat) (i:Int) (q:Rat),l.length=co.length→0≤i∧i<n→sumT S n (bmp l i q)=sumT S n l+q*gI S i:=fun l i q hl h=>by
  rw[zkk S n l i q h.1 (by omega),if_pos h.2]
 rw[sumT,hs]
 generalize gI co n=c
 generalize gI V n=v
 clear hs
 rcases zih hm with h | h | h | h | h | h | h | h | h | h
 ·simp only[thrC,thrG,slopeI,h,Int.reduceEq,if_false,if_true];grind
 ·simp only[thrC,thrG,slopeI,h,Int.reduceEq,if_false,if_true,meet];grind
 ·have:=zvp hm h
  simp only[thrC,thrG,slopeI,h,Int.reduceEq,if_false,if_true,meet]
  rw[zpm g.y B.y x.a c this.1 (by omega) hy];grind
 ·have:=zvq hm h
  simp only[thrC,thrG,slopeI,h,Int.reduceEq,if_false,if_true,meet]
  rw[zpm g.p B.p x.a c this.1 (by omega) hp];grind
 ·simp only[thrC,thrG,slopeI,h,Int.reduceEq,if_false,if_true]
  rw[one co x.a _ rfl (ia (by omega))];grind
 ·simp only[thrC,thrG,slopeI,h,Int.reduceEq,if_false,if_true]
  rw[one _ x.b _ (by simp) (ib (by omega)),one co x.a _ rfl (ia (by omega))];grind
 ·simp only[thrC,thrG,slopeI,h,Int.reduceEq,if_false,if_true]
  rw[one _ x.b _ (by simp) (ib (by omega)),one co x.a _ rfl (ia (by omega))];grind
 ·simp only[thrC,thrG,slopeI,h,Int.reduceEq,if_false,if_true]
  rw[one _ x.b _ (by simp) (ib (by omega)),one co x.a _ rfl (ia (by omega))];grind
 ·simp only[thrC,thrG,slopeI,h,Int.reduceEq,if_false,if_true]
  rw[one _ x.b _ (by simp) (ib (by omega)),one co x.a _ rfl (ia (by omega)),Rat.div_def,Rat.div_def];grind
 ·simp only[thrC,thrG,slopeI,h,Int.reduceEq,if_false,if_true]
  rw[one co x.a _ rfl (ia (by omega))];grind
theorem zmr{dim par:Int}(code:List Ins)(V S:List Rat)(B:Po)(hd:(B.y.length:Int)=dim)(hr:(B.p.length:Int)=par)(hm:∀(k:Nat) (x:Ins),code[k]? = some x→mayI dim par (k:Nat) x=true)
  (hs:∀(k:Nat) (x:Ins),code[k]? = some x→gI S (k:Nat)=slopeI B V S x (gI V (k:Nat))):∀(n:Nat) (co:List Rat) (g:Po),n≤code.length→co.length=code.length→g.y.length=B.y.length→g.p.length=B.p.length →
   meet (backL code V n co g).2 B=sumT S n co+meet g B
 | 0,co,g,_,_,_,_=>by simp only[backL,sumT];grind
 | n+1,co,g,hn,hc,hy,hp=>by
  obtain⟨x,hx⟩:∃x,code[n]? = some x:=⟨_,List.getElem?_eq_getElem (by omega)⟩
  rw[backL,hx]
  dsimp only
  rw[zmr code V S B hd hr hm hs n _ _ (by omega) (by simpa using hc) ((zeh _ _ _).1.trans hy) ((zeh _ _ _).2.trans hp)]
  exact zmq (hm n x hx) V S B g co (by omega) hy hp hd hr (hs n x hx)
theorem zms(S:List Rat)(m:Nat):∀n,sumT S n (List.replicate m 0)=0
 | 0=>rfl
 | n+1=>by
  have:gI (List.replicate m (0:Rat)) n=0:=by
   unfold gI
   rw[List.getD_eq_getElem?_getD,List.getElem?_replicate]
   split<;>rfl
  rw[sumT,zms S m n,this]
  grind
theorem zmt(S:List Rat)(n:Nat):∀(os:List Int) (ws co:List Rat),co.length=n→os.length=ws.length→(∀o∈os,0≤o∧o<n)→sumT S n (sendQ os ws co)=sumT S n co+dotW ws (os.map (gI S))
 | [],[],co,_,_,_=>by simp only[sendQ,List.map_nil,dotW];grind
 | [],_::_,_,_,h,_=>by simp at h
 | _::_,[],_,_,h,_=>by simp at h
 | o::os,w::ws,co,hc,hl,ho=>by
  have h1:=ho o List.mem_cons_self
  rw[sendQ,zmt S n os ws _ (by simpa using hc) (by simpa using hl) (fun q hq=>ho q (List.mem_cons_of_mem _ hq)),zkk S n co o w h1.1 (by omega),if_pos h1.2]
  simp only[List.map_cons,dotW]
  grind
structure Comb (c:Rat) (a b B:Po):Prop where
 t:B.t=c*a.t+b.t
 y:∀i,gI B.y i=c*gI a.y i+gI b.y i
 p:∀i,gI B.p i=c*gI a.p i+gI b.p i
def pushT(lim:Nat)(t:Tp)(P B:Po):List Rat×List Rat×Nat×Nat×Nat:=
 if P.y.length=B.y.length∧P.p.length=B.p.length∧fitT t P.y.length P.p.length=true then runD lim P B t.code [] [] else ([],[],2,0,0)
theorem zkl{lim:Nat}{t:Tp}{P B:Po}(h:(pushT lim t P B).2.2.1=0):OkTp t∧(P.y.length:Int)=t.dim∧(P.p.length:Int)=t.par∧B.y.length=P.y.length∧B.p.length=P.p.length ∧
  (pushT lim t P B).2.2=(0,0,0)∧tapeR lim t P=((pushT lim t P B).1,0,0)∧(pushT lim t P B).1.length=t.code.length∧(pushT lim t P B).2.1.length=t.code.length∧(∀q∈(pushT lim t P B).2.1,sizQ q≤lim) ∧
  ∀(k:Nat) (x:Ins),t.code[k]? = some x→gI (pushT lim t P B).2.1 (k:Nat)=slopeI B (pushT lim t P B).1 (pushT lim t P B).2.1 x (gI (pushT lim t P B).1 (k:Nat)):=by
 unfold pushT at h ⊢
 by_cases hc:P.y.length=B.y.length∧P.p.length=B.p.length∧fitT t P.y.length P.p.length=true
 ·rw[if_pos hc]at h ⊢
  obtain⟨hok,hd,hp⟩:=zct hc.2.2
  obtain⟨V',S',e1,e2,e3,e4,e5,e6⟩:=zn2 lim P B t.dim t.par t.code [] [] rfl (fun k x hx=>by
   have:=hok.may k x hx
   rwa [List.length_nil,Nat.zero_add]) h
  rw[List.nil_append,List.nil_append]at e1
  rw[List.nil_append]at e4
  have e7:tapeR lim t P=(V',0,0):=by unfold tapeR;rw[if_pos hc.2.2,e4]
  rw[e1]
  refine⟨hok,hd,hp,hc.1.symm,hc.2.1.symm,rfl,e7,e2,e3,e5,fun k x hx=>?_⟩
  have:=e6 k x hx
  rw[List.nil_append,List.nil_append,List.length_nil,Nat.zero_add]at this
  exact this
 ·rw[if_neg hc]at h;cases h
theorem zvm{lim:Nat}{t:Tp}{P B:Po}{w:List Rat}(h1:(pushT lim t P B).2.2.1=0)(h2:(backT lim t P w).2.1=0):dotW w (t.outs.map (gI (pushT lim t P B).2.1))=meet (backT lim t P w).1 B∧w.length=t.outs.length:=by
 obtain⟨hok,hd,hp,hy,hpp,_,a1,a2,a3,_,a4⟩:=zkl h1
 have hw:w.length=t.outs.length∧(backT lim t P w).1=(backL t.code (tapeR lim t P).1 t.code.length (sendQ t.outs w (List.replicate t.code.length 0)) (zeroP t.dim.toNat t.par.toNat)).2:=by
  unfold backT at h2 ⊢
  by_cases g1:w.length≠t.outs.length
  ·rw[if_pos g1]at h2;cases h2
  ·rw[if_neg g1]at h2 ⊢
   by_cases g2:(tapeR lim t P).2.1≠0
   ·rw[if_pos g2]at h2;exact absurd h2 g2
   ·rw[if_neg g2]at h2 ⊢
    have hb:=zn0 lim t.code (tapeR lim t P).1 t.code.length (sendQ t.outs w (List.replicate t.code.length 0)) (zeroP t.dim.toNat t.par.toNat)
    generalize backR lim t.code (tapeR lim t P).1 t.code.length (sendQ t.outs w (List.replicate t.code.length 0)) (zeroP t.dim.toNat t.par.toNat)=R at *
    obtain⟨s,o⟩:=R
    cases o with
    | some i=>cases h2
    | none=>
     dsimp only at h2 hb ⊢
     cases hf:firstL lim (allP s.2) 0 with
     | some k=>rw[hf]at h2;cases h2
     | none=>exact⟨by omega,by rw[hb rfl]⟩
 refine⟨?_,hw.1⟩
 rw[hw.2,a1]
 dsimp only
 rw[zmr (dim:=t.dim) (par:=t.par) t.code (pushT lim t P B).1 (pushT lim t P B).2.1 B (by omega) (by omega) hok.may a4 t.code.length _ _ (Nat.le_refl _) (by simp) (by simp[zeroP];omega) (by simp[zeroP];omega),
  zmt _ t.code.length _ _ _ (by simp) hw.1.symm hok.outs,zms]
 have z:∀(m:Nat) (l:List Rat),dotW (List.replicate m 0) l=0:=by
  intro m
  induction m with
  | zero=>intro l;rfl
  | succ m ih=>
   intro l
   cases l with
   | nil=>rfl
   | cons a l=>rw[List.replicate_succ,dotW,ih l];grind
 simp only[meet,zeroP,z]
 grind
abbrev Du:=Fz×Fz
abbrev celD(x:Du):List AV:=[.b x.1.1,.sl (u32s x.1.2.1) .an,.sl (u32s x.1.2.2) .an,.b x.2.1,.sl (u32s x.2.2.1) .an,.sl (u32s x.2.2.2) .an]
abbrev edu(x:Du):AV:=.agg (celD x)
def rowD(l:List Du):List (List AV):=l.map celD
@[simp] theorem z1p(l:List Du):(rowD l).length=l.length:=by simp[rowD]
@[simp] theorem zvh(l:List Du):wkL (rowD l)=rowD l:=by rw[zbi];simp[rowD,wkR,wkA]
@[simp] theorem z96(l:List Du)(i:Nat)(h:i<(rowD l).length):(rowD l)[i]=celD (l[i]'(by simpa using h)):=by simp[rowD]
theorem zmn(l:List Du)(x:Du):rowD l++[celD x]=rowD (l++[x]):=by simp[rowD]
@[simp] theorem z60(l:List Du)(n:Nat):(rowD l).take n=rowD (l.take n):=by simp[rowD]
@[simp] theorem zki:rowD []=[]:=rfl
theorem zvi{m:List Du}{n:Nat}(h:m.length=n)(x:Du):wkL (rowD (List.take n m)++[celD x])=rowD (m++[x]):=by
 rw[List.take_of_length_le (by omega),zmn,zvh]
def zipD:List Rat→List Rat→List Du
 | v::V,s::S=>(fz v,fz s)::zipD V S
 | _,_=>[]
theorem zay:∀{V S:List Rat},V.length=S.length→(zipD V S).length=V.length
 | [],[],_=>rfl
 | [],_::_,h=>by simp at h
 | _::_,[],h=>by simp at h
 | _::_,_::_,h=>by simp[zipD,zay (Nat.succ.inj h)]
theorem zpi:∀{V S:List Rat} {k:Nat},V.length=S.length→k<V.length→(zipD V S)[k]? = some (fz (gI V (k:Nat)),fz (gI S (k:Nat)))
 | [],_,_,_,h=>by simp at h
 | _::_,[],_,h,_=>by simp at h
 | _::_,_::_,0,_,_=>rfl
 | _::V,_::S,k+1,hl,h=>by
  have:=zpi (V:=V) (S:=S) (k:=k) (Nat.succ.inj hl) (by simpa using h)
  simpa[zipD,gI]using this
theorem zmo:∀{V S:List Rat} (v s:Rat),V.length=S.length→zipD (V++[v]) (S++[s])=zipD V S++[(fz v,fz s)]
 | [],[],_,_,_=>rfl
 | [],_::_,_,_,h=>by simp at h
 | _::_,[],_,_,h=>by simp at h
 | _::_,_::_,v,s,h=>by simp[zipD,zmo v s (Nat.succ.inj h)]
structure PoD where
 t:Du
 y:List Du
 p:List Du
def dua(P B:Po):PoD:=⟨(fz P.t,fz B.t),zipD P.y B.y,zipD P.p B.p⟩
abbrev epd(x:PoD):AV:=.agg [.b x.t.1.1,.sl (u32s x.t.1.2.1) .an,.sl (u32s x.t.1.2.2) .an,.b x.t.2.1,.sl (u32s x.t.2.2.1) .an,.sl (u32s x.t.2.2.2) .an,.sl (rowD x.y) .an,.sl (rowD x.p) .an]
theorem zib{V S:List Rat}{a:Int}(h:0≤a∧a<V.length)(hl:V.length=S.length):∃k:Nat,a=k∧(k:Int)<V.length∧k<V.length∧(zipD V S)[k]? = some (fz (gI V a),fz (gI S a)):=by
 obtain⟨k,rfl⟩:∃k:Nat,a=k:=⟨a.toNat,by omega⟩
 exact⟨k,rfl,h.2,by omega,zpi hl (by omega)⟩
theorem zvj{B:Po}{V S:List Rat}{x:Ins}{dim par:Int}{p:Nat}(hm:mayI dim par p x=true)(hB:PvS B 1000)(hV:∀q∈V,sz q≤129)(hS:∀q∈S,sz q≤129)(v:Rat)(hv:x.op=10∨x.op=11→sz v≤1100):sz (slopeI B V S x v)≤2000:=by
 have ga:=zcw (D:=V) (a:=x.a) (B:=129) (by decide) hV
 have gb:=zcw (D:=V) (a:=x.b) (B:=129) (by decide) hV
 have sa:=zcw (D:=S) (a:=x.a) (B:=129) (by decide) hS
 have sb:=zcw (D:=S) (a:=x.b) (B:=129) (by decide) hS
 have gy:=zcw (D:=B.y) (a:=x.a) (B:=1000) (by decide) hB.y
 have gp:=zcw (D:=B.p) (a:=x.a) (B:=1000) (by decide) hB.p
 have gt:=hB.t
 rcases zih hm with h | h | h | h | h | h | h | h | h | h
 ·simp[slopeI,h,zbz]
 ·simp[slopeI,h];omega
 ·simp[slopeI,h];omega
 ·simp[slopeI,h];omega
 ·simp[slopeI,h,zid];omega
 ·have:=zeq (gI S x.a) (gI S x.b);simp[slopeI,h];omega
 ·have:=zpj (gI S x.a) (gI S x.b);simp[slopeI,h];omega
 ·have a1:=zbc (gI S x.a) (gI V x.b)
  have a2:=zbc (gI V x.a) (gI S x.b)
  have:=zeq (gI S x.a*gI V x.b) (gI V x.a*gI S x.b)
  simp[slopeI,h];omega
 ·have hv:=hv (.inl h)
  have a1:=zbc v (gI S x.b)
  have a2:=zpj (gI S x.a) (v*gI S x.b)
  have:=zer (gI S x.a-v*gI S x.b) (gI V x.b)
  simp[slopeI,h];omega
 ·obtain⟨e1,e2⟩:=zn3 hm h
  have hv:=hv (.inr h)
  have ht:sz (turnW V x v)≤1229:=by
   unfold turnW
   split
   ·exact Nat.le_trans (zh5 ga (by omega) (by omega)) (by decide)
   ·split
    ·have:=zer v (gI V x.a);omega
    ·rw[zbz];decide
  have hb:sz (x.b:Rat)≤1:=zoz x.b e1 e2
  have a1:=zbc (x.b:Rat) (turnW V x v)
  have:=zbc ((x.b:Rat)*turnW V x v) (gI S x.a)
  simp[slopeI,h];omega
abbrev mD2:AV:=.agg [.dead,.dead]
abbrev noD:Du:=((false,[],[]),(false,[],[]))
section
variable{T:Tbl}[CLimb T][CNat T][CProd T][CTwos T][CQuot T][CQuotD T][CWhole T][CCommon T][CFrac T][CFrac3 T][CFrac5 T][CPow T][CTape T][CGauge T][CEval T][CPush T][CIfc2 T]
theorem zaep(x:Fz)(hx:fsz x≤1000):callF T 453 [mD2,efz x]=some (edu (fz (fv x),fz 0)):=by
 have h:=zb9 (T:=T) x (by omega)
 have h0:=zcy (T:=T)
 rw[f453 _ rfl,b453]
 generalize fz (fv x)=z at *
 generalize fz 0=z0 at *
 simp -implicitDefEqProofs[h,h0]
theorem z6b(x:Du)(hx:fsz x.1≤1000)(hy:fsz x.2≤1000):callF T 452 [mD2,edu x]=some (edu (fz (-fv x.1),fz (-fv x.2))):=by
 have h:=zff (T:=T) x.1 (by omega)
 have h2:=zff (T:=T) x.2 (by omega)
 rw[f452 _ rfl,b452]
 generalize fz (-fv x.1)=z at *
 generalize fz (-fv x.2)=z0 at *
 simp -implicitDefEqProofs[h,h2]
theorem z6c(x y:Du)(h1:fsz x.1≤1000)(h2:fsz x.2≤1000)(h3:fsz y.1≤1000)(h4:fsz y.2≤1000):callF T 449 [mD2,edu x,edu y]=some (edu (fz (fv x.1+fv y.1),fz (fv x.2+fv y.2))):=by
 have h:=zfg (T:=T) x.1 y.1 h1 h3
 have h':=zfg (T:=T) x.2 y.2 h2 h4
 rw[f449 _ rfl,b449]
 generalize fz (fv x.1+fv y.1)=z at *
 generalize fz (fv x.2+fv y.2)=z0 at *
 simp -implicitDefEqProofs[h,h']
theorem z6d(x y:Du)(h1:fsz x.1≤1000)(h2:fsz x.2≤1000)(h3:fsz y.1≤1000)(h4:fsz y.2≤1000):callF T 456 [mD2,edu x,edu y]=some (edu (fz (fv x.1-fv y.1),fz (fv x.2-fv y.2))):=by
 have h:=zgr (T:=T) x.1 y.1 h1 h3
 have h':=zgr (T:=T) x.2 y.2 h2 h4
 rw[f456 _ rfl,b456]
 generalize fz (fv x.1-fv y.1)=z at *
 generalize fz (fv x.2-fv y.2)=z0 at *
 simp -implicitDefEqProofs[h,h']
theorem z6e(x y:Du)(h1:fsz x.1≤400)(h2:fsz x.2≤400)(h3:fsz y.1≤400)(h4:fsz y.2≤400):callF T 451 [mD2,edu x,edu y]=some (edu (fz (fv x.1*fv y.1),fz (fv x.2*fv y.1+fv x.1*fv y.2))):=by
 have m1:=zbr (T:=T) x.1 y.1 (by omega) (by omega)
 have m2:=zbr (T:=T) x.2 y.1 (by omega) (by omega)
 have m3:=zbr (T:=T) x.1 y.2 (by omega) (by omega)
 have s1:=zbc (fv x.2) (fv y.1)
 have s2:=zbc (fv x.1) (fv y.2)
 have v1:=za6 h1 (by decide)
 have v2:=za6 h2 (by decide)
 have v3:=za6 h3 (by decide)
 have v4:=za6 h4 (by decide)
 have ad:=zfg (T:=T) (fz (fv x.2*fv y.1)) (fz (fv x.1*fv y.2)) (by rw[zas];omega) (by rw[zas];omega)
 rw[za7,za7]at ad
 clear s1 s2 v1 v2 v3 v4
 rw[f451 _ rfl,b451]
 generalize fz (fv x.2*fv y.1+fv x.1*fv y.2)=z at *
 generalize fz (fv x.1*fv y.1)=z0 at *
 generalize fz (fv x.2*fv y.1)=z1 at *
 generalize fz (fv x.1*fv y.2)=z2 at *
 simp -implicitDefEqProofs[m1,m2,m3,ad]
theorem z6f(x y:Du)(h1:fsz x.1≤129)(h2:fsz x.2≤129)(h3:fsz y.1≤129)(h4:fsz y.2≤129):callF T 455 [mD2,edu x,edu y] =
  some (if fv y.1≠0 then .tup [edu (fz (fv x.1/fv y.1),fz ((fv x.2-fv x.1/fv y.1*fv y.2)/fv y.1)),.b true] else .tup [edu noD,.b false]):=by
 have q1:=zfh (T:=T) x.1 y.1 (by omega) (by omega)
 have v1:=za6 h1 (by decide)
 have v2:=za6 h2 (by decide)
 have v3:=za6 h3 (by decide)
 have v4:=za6 h4 (by decide)
 have s1:=zer (fv x.1) (fv y.1)
 have s2:=zbc (fv x.1/fv y.1) (fv y.2)
 have s3:=zpj (fv x.2) (fv x.1/fv y.1*fv y.2)
 have m1:=zbr (T:=T) (fz (fv x.1/fv y.1)) y.2 (by rw[zas];omega) (by omega)
 rw[za7]at m1
 have u1:=zgr (T:=T) x.2 (fz (fv x.1/fv y.1*fv y.2)) (by omega) (by rw[zas];omega)
 rw[za7]at u1
 have q2:=zfh (T:=T) (fz (fv x.2-fv x.1/fv y.1*fv y.2)) y.1 (by rw[zas];omega) (by omega)
 rw[za7]at q2
 clear s1 s2 s3 v1 v2 v3 v4
 rw[f455 _ rfl,b455]
 generalize fz ((fv x.2-fv x.1/fv y.1*fv y.2)/fv y.1)=z1 at *
 generalize fz (fv x.2-fv x.1/fv y.1*fv y.2)=z2 at *
 generalize fz (fv x.1/fv y.1*fv y.2)=z3 at *
 generalize fz (fv x.1/fv y.1)=z4 at *
 by_cases hz:fv y.1=0
 ·rw[if_neg (by simp[hz])]
  rw[hz]at q1
  simp -implicitDefEqProofs[q1]
 ·rw[if_pos hz]
  rw[decide_eq_true hz]at q1 q2
  simp -implicitDefEqProofs[q1,m1,u1,q2]
def turnE(q:Rat)(e:Int)(v:Rat):Rat:=if 0<e then powZ q (e-1) else if e<0 then v/q else 0
theorem z6g(x:Du)(e:Int)(he:-8≤e)(he':e≤8)(h1:fsz x.1≤129)(h2:fsz x.2≤129):callF T 454 [mD2,edu x,.i .i64 e] =
  some (if e<0∧fv x.1=0 then .tup [edu noD,.b false] else .tup [edu (fz (powZ (fv x.1) e),fz ((e:Rat)*turnE (fv x.1) e (powZ (fv x.1) e)*fv x.2)),.b true]):=by
 have c0:=zcy (T:=T)
 have ce:=zfy (T:=T) e (by omega) (by omega)
 have cp:=zgs (T:=T) x.1 e (by omega)
 rw[zkd he he']at cp
 have v1:=za6 h1 (by decide)
 have v2:=za6 h2 (by decide)
 have ze:=zoz e he he'
 by_cases hz:e<0∧fv x.1=0
 ·rw[if_pos hz]at cp ⊢
  rw[f454 _ rfl,b454]
  generalize fz 0=z0 at *
  simp -implicitDefEqProofs[cp]
 rw[if_neg hz]at cp ⊢
 have zp:sz (powZ (fv x.1) e)≤1033:=zh5 v1 he he'
 have fin:∀q:Rat,sz q≤1162→callF T 217 [efz (fz (e:Rat)),efz (fz q)]=some (efz (fz (e*q)))∧callF T 217 [efz (fz (e*q)),efz x.2]=some (efz (fz (e*q*fv x.2))):=by
  intro q hq
  have z1:=zbc (e:Rat) q
  have m1:=zhr (T:=T) (fz (e:Rat)) (fz q) (by rw[zas];omega) (by rw[zas];omega)
  have m2:=zhr (T:=T) (fz (e*q)) x.2 (by rw[zas];omega) (by omega)
  rw[za7,za7]at m1
  rw[za7]at m2
  exact⟨m1,m2⟩
 unfold turnE
 by_cases h0:0<e
 ·have cp2:=zgs (T:=T) x.1 (e-1) (by omega)
  rw[zkd (q:=fv x.1) (e:=e-1) (by omega) (by omega),if_neg (by omega)]at cp2
  have z2:sz (powZ (fv x.1) (e-1))≤1162:=Nat.le_trans (zh5 v1 (by omega) (by omega)) (by decide)
  obtain⟨m1,m2⟩:=fin _ z2
  rw[if_pos h0]
  have hw:IntKind.wrap .i64 (e-1)=e-1:=zad _ (by omega)
  have hn:¬ e<0:=by omega
  clear fin v1 v2 ze zp z2 hz
  generalize fz (e*powZ (fv x.1) (e-1)*fv x.2)=y1 at *
  generalize fz (e*powZ (fv x.1) (e-1))=y2 at *
  generalize fz (powZ (fv x.1) (e-1))=y3 at *
  generalize fz (powZ (fv x.1) e)=y4 at *
  generalize fz (e:Rat)=y5 at *
  generalize fz 0=z0 at *
  rw[f454 _ rfl,b454]
  simp -implicitDefEqProofs[c0,ce,cp,cp2,m1,m2,h0,hw,hn]
 ·rw[if_neg h0]
  by_cases hn:e<0
  ·have z3:=zer (powZ (fv x.1) e) (fv x.1)
   have cq:=zlv (T:=T) (fz (powZ (fv x.1) e)) x.1 (by rw[zas];omega) (by omega)
   rw[za7]at cq
   obtain⟨m1,m2⟩:=fin (powZ (fv x.1) e/fv x.1) (by omega)
   rw[if_pos hn]
   clear fin v1 v2 ze zp z3 hz
   generalize decide (fv x.1≠0)=bb at *
   generalize fz (e*(powZ (fv x.1) e/fv x.1)*fv x.2)=y1 at *
   generalize fz (e*(powZ (fv x.1) e/fv x.1))=y2 at *
   generalize fz (powZ (fv x.1) e/fv x.1)=y3 at *
   generalize fz (powZ (fv x.1) e)=y4 at *
   generalize fz (e:Rat)=y5 at *
   generalize fz 0=z0 at *
   rw[f454 _ rfl,b454]
   simp -implicitDefEqProofs[c0,ce,cp,cq,m1,m2,h0,hn]
  ·obtain⟨m1,m2⟩:=fin 0 (by decide +kernel)
   rw[if_neg hn]
   clear fin v1 v2 ze zp hz
   generalize fz (e*0*fv x.2)=y1 at *
   generalize fz (e*0)=y2 at *
   generalize fz (powZ (fv x.1) e)=y4 at *
   generalize fz (e:Rat)=y5 at *
   generalize fz 0=z0 at *
   rw[f454 _ rfl,b454]
   simp -implicitDefEqProofs[c0,ce,cp,m1,m2,h0,hn]
theorem z0y(i:Ins)(P B:Po)(hop:i.op=1∨i.op=2∨i.op=3∨i.op=4)(hn:fsz i.n≤1000)(hy:i.op=3→0≤i.a∧i.a<P.y.length)(hp:i.op=4→0≤i.a∧i.a<P.p.length)(ly:P.y.length=B.y.length)(lp:P.p.length=B.p.length) :
  callF T 436 [mD2,.agg (celI i),epd (dua P B)]=some (edu (fz (valI P [] i).1,fz (slopeI B [] [] i 0))):=by
 have h1:=zaep (T:=T) i.n hn
 obtain⟨op,a,b,n⟩:=i
 obtain⟨t,y,p⟩:=P
 obtain⟨t',y',p'⟩:=B
 dsimp only at *
 unfold valI slopeI dua
 dsimp only
 rw[f436 _ rfl,b436]
 rcases hop with rfl | rfl | rfl | rfl
 ·show _=some (edu (fz (fv n),fz 0))
  generalize fz (fv n)=z at *
  generalize fz 0=z0 at *
  generalize zipD y y'=Y at *
  generalize zipD p p'=PP at *
  generalize fz t=tt at *
  generalize fz t'=tt' at *
  simp -implicitDefEqProofs[h1]
 ·show _=some (edu (fz t,fz t'))
  generalize zipD y y'=Y at *
  generalize zipD p p'=PP at *
  generalize fz t=tt at *
  generalize fz t'=tt' at *
  simp -implicitDefEqProofs
 ·obtain⟨k,e,hk',hk,hg⟩:=zib (hy rfl) ly
  subst e
  have hge:=(List.getElem?_eq_some_iff.1 hg).2
  have hl:(zipD y y').length=y.length:=zay ly
  show _=some (edu (fz (gI y k),fz (gI y' k)))
  generalize zipD y y'=Y at *
  generalize zipD p p'=PP at *
  generalize fz t=tt at *
  generalize fz t'=tt' at *
  generalize fz (gI y k)=z at *
  generalize fz (gI y' k)=z' at *
  simp -implicitDefEqProofs[hk,hk',hg,hge,hl]
 ·obtain⟨k,e,hk',hk,hg⟩:=zib (hp rfl) lp
  subst e
  have hge:=(List.getElem?_eq_some_iff.1 hg).2
  have hl:(zipD p p').length=p.length:=zay lp
  show _=some (edu (fz (gI p k),fz (gI p' k)))
  generalize zipD y y'=Y at *
  generalize zipD p p'=PP at *
  generalize fz t=tt at *
  generalize fz t'=tt' at *
  generalize fz (gI p k)=z at *
  generalize fz (gI p' k)=z' at *
  simp -implicitDefEqProofs[hk,hk',hg,hge,hl]
theorem z0z(i:Ins)(P B:Po)(V S:List Rat)(dim par:Int)(hm:mayI dim par V.length i=true)(hd:(P.y.length:Int)=dim)(hp:(P.p.length:Int)=par)(ly:P.y.length=B.y.length)(lp:P.p.length=B.p.length)(lS:V.length=S.length)(hn:fsz i.n≤1000)(hV:∀q∈V,sz q≤129)(hS:∀q∈S,sz q≤129) :
  ∃w:Du,callF T 432 [mD2,.agg (celI i),epd (dua P B),.sl (rowD (zipD V S)) .an]=some (.tup [edu w,.b (valI P V i).2])∧((valI P V i).2=true→w=(fz (valI P V i).1,fz (slopeI B V S i (valI P V i).1))):=by
 have hop:=zih hm
 by_cases hleaf:i.op=1∨i.op=2∨i.op=3∨i.op=4
 ·have h1:=z0y (T:=T) i P B hleaf hn (fun h=>by have:=zvp hm h;omega) (fun h=>by have:=zvq hm h;omega) ly lp
  have e:valI P V i=((valI P [] i).1,true):=by
   unfold valI
   rcases hleaf with h | h | h | h<;>simp[h]
  have e2:∀v,slopeI B V S i v=slopeI B [] [] i 0:=by
   intro v
   unfold slopeI
   rcases hleaf with h | h | h | h<;>simp[h]
  rw[e,e2]
  refine⟨_,?_,fun _=>rfl⟩
  generalize fz (valI P [] i).1=z at *
  generalize fz (slopeI B [] [] i 0)=z' at *
  generalize zipD V S=DD at *
  obtain⟨op,a,b,n⟩:=i
  generalize dua P B=Q at *
  obtain⟨⟨⟨t0,t1,t2⟩,⟨t3,t4,t5⟩⟩,y,p⟩:=Q
  clear e e2 hm hop hd hp ly lp lS hV hS
  dsimp only at *
  rw[f432 _ rfl,b432]
  rcases hleaf with rfl | rfl | rfl | rfl<;>simp -implicitDefEqProofs[h1]
 have ha:=zej hm (by omega)
 obtain⟨k,hk1,hk2,hk3,hka⟩:=zib ha lS
 have sa:fsz (fz (gI V i.a))≤129:=zcw (by decide) hV
 have sa':fsz (fz (gI S i.a))≤129:=zcw (by decide) hS
 have hkae:=(List.getElem?_eq_some_iff.1 hka).2
 have hl:(zipD V S).length=V.length:=zay lS
 have c6:=z6b (T:=T) (fz (gI V i.a),fz (gI S i.a)) (by dsimp only;omega) (by dsimp only;omega)
 dsimp only at c6
 rw[za7,za7]at c6
 by_cases h6:i.op=6
 ·have e:valI P V i=(-gI V i.a,true):=by simp[valI,h6]
  have e2:∀v,slopeI B V S i v=-gI S i.a:=by intro v;simp[slopeI,h6]
  rw[e,e2]
  refine⟨_,?_,fun _=>rfl⟩
  generalize fz (-gI V i.a)=z at *
  generalize fz (-gI S i.a)=z' at *
  generalize fz (gI V i.a)=u at *
  generalize fz (gI S i.a)=u' at *
  generalize zipD V S=DD at *
  obtain⟨op,a,b,n⟩:=i
  generalize dua P B=Q at *
  obtain⟨⟨⟨t0,t1,t2⟩,⟨t3,t4,t5⟩⟩,y,p⟩:=Q
  clear e e2 hm hop hd hp ly lp hV hS hleaf
  dsimp only at *
  subst h6 hk1
  rw[f432 _ rfl,b432]
  simp -implicitDefEqProofs[hk2,hk3,hka,hkae,hl,c6]
 by_cases h11:i.op=11
 ·have hb:=zn3 hm h11
  have c11:=z6g (T:=T) (fz (gI V i.a),fz (gI S i.a)) i.b hb.1 hb.2 sa sa'
  dsimp only at c11
  rw[za7,za7]at c11
  have e:valI P V i=if i.b<0∧gI V i.a=0 then (0,false) else (powZ (gI V i.a) i.b,true):=by simp[valI,h11]
  have e2:∀v,slopeI B V S i v=i.b*turnE (gI V i.a) i.b v*gI S i.a:=by intro v;simp[slopeI,h11,turnW,turnE]
  by_cases hz:i.b<0∧gI V i.a=0
  ·rw[if_pos hz]at e c11
   rw[e]
   refine⟨noD,?_,fun h=>by cases h⟩
   generalize fz (gI V i.a)=u at *
   generalize fz (gI S i.a)=u' at *
   generalize zipD V S=DD at *
   obtain⟨op,a,b,n⟩:=i
   generalize dua P B=Q at *
   obtain⟨⟨⟨t0,t1,t2⟩,⟨t3,t4,t5⟩⟩,y,p⟩:=Q
   clear e e2 hm hop hd hp ly lp hV hS hleaf
   dsimp only at *
   subst h11 hk1
   rw[f432 _ rfl,b432]
   simp -implicitDefEqProofs[hk2,hk3,hka,hkae,hl,c11]
  ·rw[if_neg hz]at e c11
   rw[e,e2]
   dsimp only
   refine⟨_,?_,fun _=>rfl⟩
   generalize fz (i.b*turnE (gI V i.a) i.b (powZ (gI V i.a) i.b)*gI S i.a)=z' at *
   generalize fz (powZ (gI V i.a) i.b)=z at *
   generalize fz (gI V i.a)=u at *
   generalize fz (gI S i.a)=u' at *
   generalize zipD V S=DD at *
   obtain⟨op,a,b,n⟩:=i
   generalize dua P B=Q at *
   obtain⟨⟨⟨t0,t1,t2⟩,⟨t3,t4,t5⟩⟩,y,p⟩:=Q
   clear e e2 hm hop hd hp ly lp hV hS hleaf
   dsimp only at *
   subst h11 hk1
   rw[f432 _ rfl,b432]
   simp -implicitDefEqProofs[hk2,hk3,hka,hkae,hl,c11]
 have hb:=zgj hm (by omega)
 obtain⟨j,hj1,hj2,hj3,hjb⟩:=zib hb lS
 have sb:fsz (fz (gI V i.b))≤129:=zcw (by decide) hV
 have sb':fsz (fz (gI S i.b))≤129:=zcw (by decide) hS
 have hjbe:=(List.getElem?_eq_some_iff.1 hjb).2
 have c7:=z6c (T:=T) (fz (gI V i.a),fz (gI S i.a)) (fz (gI V i.b),fz (gI S i.b)) (by dsimp only;omega) (by dsimp only;omega) (by dsimp only;omega) (by dsimp only;omega)
 have c8:=z6d (T:=T) (fz (gI V i.a),fz (gI S i.a)) (fz (gI V i.b),fz (gI S i.b)) (by dsimp only;omega) (by dsimp only;omega) (by dsimp only;omega) (by dsimp only;omega)
 have c9:=z6e (T:=T) (fz (gI V i.a),fz (gI S i.a)) (fz (gI V i.b),fz (gI S i.b)) (by dsimp only;omega) (by dsimp only;omega) (by dsimp only;omega) (by dsimp only;omega)
 have c10:=z6f (T:=T) (fz (gI V i.a),fz (gI S i.a)) (fz (gI V i.b),fz (gI S i.b)) sa sa' sb sb'
 dsimp only at c7 c8 c9 c10
 rw[za7,za7,za7,za7]at c7 c8 c9 c10
 have e7:i.op=7→valI P V i=(gI V i.a+gI V i.b,true)∧∀v,slopeI B V S i v=gI S i.a+gI S i.b:=fun h=>by simp[valI,slopeI,h]
 have e8:i.op=8→valI P V i=(gI V i.a-gI V i.b,true)∧∀v,slopeI B V S i v=gI S i.a-gI S i.b:=fun h=>by simp[valI,slopeI,h]
 have e9:i.op=9→valI P V i=(gI V i.a*gI V i.b,true)∧∀v,slopeI B V S i v=gI S i.a*gI V i.b+gI V i.a*gI S i.b:=fun h=>by simp[valI,slopeI,h]
 have e10:i.op=10→valI P V i=(gI V i.a/gI V i.b,decide (gI V i.b≠0))∧∀v,slopeI B V S i v=(gI S i.a-v*gI S i.b)/gI V i.b:=fun h=>by simp[valI,slopeI,h]
 clear hm hd hp ly lp hV hS sa sa' sb sb' c6
 generalize gI V i.a=A at *
 generalize gI V i.b=C at *
 generalize gI S i.a=A' at *
 generalize gI S i.b=C' at *
 generalize fz A=u at *
 generalize fz C=v at *
 generalize fz A'=u' at *
 generalize fz C'=v' at *
 generalize valI P V i=W at *
 generalize slopeI B V S i=sl at *
 generalize zipD V S=DD at *
 obtain⟨op,a,b,n⟩:=i
 generalize dua P B=Q at *
 obtain⟨⟨⟨t0,t1,t2⟩,⟨t3,t4,t5⟩⟩,y,p⟩:=Q
 dsimp only at *
 subst hk1 hj1
 rw[f432 _ rfl,b432]
 rcases(show op=7∨op=8∨op=9∨op=10 by omega) with rfl | rfl | rfl | rfl
 ·rw[(e7 rfl).1,(e7 rfl).2]
  refine⟨_,?_,fun _=>rfl⟩
  clear e7 e8 e9 e10 c8 c9 c10
  generalize fz (A+C)=z at *
  generalize fz (A'+C')=z' at *
  simp -implicitDefEqProofs[hk2,hk3,hka,hkae,hj2,hj3,hjb,hjbe,hl,c7]
 ·rw[(e8 rfl).1,(e8 rfl).2]
  refine⟨_,?_,fun _=>rfl⟩
  clear e7 e8 e9 e10 c7 c9 c10
  generalize fz (A-C)=z at *
  generalize fz (A'-C')=z' at *
  simp -implicitDefEqProofs[hk2,hk3,hka,hkae,hj2,hj3,hjb,hjbe,hl,c8]
 ·rw[(e9 rfl).1,(e9 rfl).2]
  refine⟨_,?_,fun _=>rfl⟩
  clear e7 e8 e9 e10 c7 c8 c10
  generalize fz (A*C)=z at *
  generalize fz (A'*C+A*C')=z' at *
  simp -implicitDefEqProofs[hk2,hk3,hka,hkae,hj2,hj3,hjb,hjbe,hl,c9]
 ·rw[(e10 rfl).1,(e10 rfl).2]
  clear e7 e8 e9 e10 c7 c8 c9
  by_cases hz:C=0
  ·refine⟨noD,?_,fun h=>by simp[hz]at h⟩
   rw[if_neg (by simp[hz])]at c10
   have hd:decide (C≠0)=false:=by simp[hz]
   rw[hd]
   simp -implicitDefEqProofs[hk2,hk3,hka,hkae,hj2,hj3,hjb,hjbe,hl,c10]
  ·refine⟨_,?_,fun _=>rfl⟩
   rw[if_pos hz]at c10
   have hd:decide (C≠0)=true:=by simp[hz]
   rw[hd]
   generalize fz (A/C)=z at *
   generalize fz ((A'-A/C*C')/C)=z' at *
   simp -implicitDefEqProofs[hk2,hk3,hka,hkae,hj2,hj3,hjb,hjbe,hl,c10]
end
abbrev bxS(g:Nat)(st:Int):Box:=⟨g,.str,1,[[.i .i64 st]]⟩
abbrev duM(T:Tbl):AV:=.agg [.ptr (.bor 0) 0 3 0 0,.fnp (tyNum T 500424) (.bor 1) 1 1 0 0]
def fitD(x:Du)(L:Int):Bool:=decide ((sizF x.1:Int)≤L)&&decide ((sizF x.2:Int)≤L)
def stgD(x:Du)(L st:Int):Int:=if (sizF x.1:Int)≤L∧¬ (sizF x.2:Int)≤L then 1 else st
def cntD(x:Du)(L s:Int):Int:=if (sizF x.1:Int)≤L then cntS (cntS s) else cntS s
def pkD(x:Du)(L p:Int):Int:=if (sizF x.1:Int)≤L then cntP (cntP p x.1) x.2 else cntP p x.1
section
variable{T:Tbl}[CLimb T][CNat T][CProd T][CTwos T][CQuot T][CQuotD T][CWhole T][CCommon T][CFrac T][CFrac3 T][CFrac5 T][CPow T][CTape T][CGauge T][CEval T][CPush T][CIfc2 T][CFn424 T]
theorem zua(st:Int):callH T 424 [.ptr (.bor 0) 0 1 0 0] [(.bor 0,bxS 0 st)]=some (.tup [],[(.bor 0,bxS 0 1)]):=by
 rw[f424 _ _ rfl,b424]
 simp -implicitDefEqProofs
theorem z00(s p L st:Int)(x:Du)(h1:fsz x.1≤10000)(h2:fsz x.2≤10000) :
  callH T 450 [duM T,edu x] [(.bor 0,bxG 0 s p L),(.bor 1,bxS 1 st)]=some (.b (fitD x L),[(.bor 0,bxG 0 (cntD x L s) (pkD x L p) L),(.bor 1,bxS 1 (stgD x L st))]):=by
 have g1:=zf0 (T:=T) s p L x.1 h1
 have g2:=zf0 (T:=T) (cntS s) (cntP p x.1) L x.2 h2
 have sl:=zua (T:=T) st
 by_cases k1:(sizF x.1:Int)≤L
 ·by_cases k2:(sizF x.2:Int)≤L
  ·have f1:fitD x L=true:=by simp[fitD,k1,k2]
   have f2:stgD x L st=st:=by simp only[stgD,k1,k2];rfl
   have f3:cntD x L s=cntS (cntS s):=by simp only[cntD,k1,if_true]
   have f4:pkD x L p=cntP (cntP p x.1) x.2:=by simp only[pkD,k1,if_true]
   rw[decide_eq_true k1]at g1
   rw[decide_eq_true k2]at g2
   rw[f1,f2,f3,f4]
   clear f1 f2 f3 f4 k1 k2
   generalize cntS (cntS s)=s2 at *
   generalize cntS s=s1 at *
   generalize cntP (cntP p x.1) x.2=p2 at *
   generalize cntP p x.1=p1 at *
   rw[f450 _ _ rfl,b450]
   simp -implicitDefEqProofs[g1,g2]
  ·have f1:fitD x L=false:=by simp[fitD,k2]
   have f2:stgD x L st=1:=by unfold stgD;rw[if_pos ⟨k1,k2⟩]
   have f3:cntD x L s=cntS (cntS s):=by simp only[cntD,k1,if_true]
   have f4:pkD x L p=cntP (cntP p x.1) x.2:=by simp only[pkD,k1,if_true]
   rw[decide_eq_true k1]at g1
   rw[decide_eq_false k2]at g2
   rw[f1,f2,f3,f4]
   clear f1 f2 f3 f4 k1 k2
   generalize cntS (cntS s)=s2 at *
   generalize cntS s=s1 at *
   generalize cntP (cntP p x.1) x.2=p2 at *
   generalize cntP p x.1=p1 at *
   rw[f450 _ _ rfl,b450]
   simp -implicitDefEqProofs[g1,g2,sl]
 ·have f1:fitD x L=false:=by simp[fitD,k1]
  have f2:stgD x L st=st:=by unfold stgD;rw[if_neg (fun h=>k1 h.1)]
  have f3:cntD x L s=cntS s:=by unfold cntD;rw[if_neg k1]
  have f4:pkD x L p=cntP p x.1:=by unfold pkD;rw[if_neg k1]
  rw[decide_eq_false k1]at g1
  rw[f1,f2,f3,f4]
  clear f1 f2 f3 f4 k1 g2
  generalize cntS s=s1 at *
  generalize cntP p x.1=p1 at *
  rw[f450 _ _ rfl,b450]
  simp -implicitDefEqProofs[g1]
end
abbrev bxM2(T:Tbl)(g:Nat):Box:=⟨g,.str,2,[[.ptr (.bor 0) 0 3 0 0,.fnp (tyNum T 500424) (.bor 1) 1 1 0 0]]⟩
abbrev bxPD(g:Nat)(x:PoD):Box:=⟨g,.str,8,[[.b x.t.1.1,.sl (u32s x.t.1.2.1) .an,.sl (u32s x.t.1.2.2) .an,.b x.t.2.1,.sl (u32s x.t.2.2.1) .an,.sl (u32s x.t.2.2.2) .an,.sl (rowD x.y) .an,.sl (rowD x.p) .an]]⟩
def stPu(T:Tbl)(Q:PoD)(L:Int)(code:List Ins)(i:Nat)(D:List Du)(s p:Int)(kd:Kind):St:=
 ⟨[(3,.ptr (.loc 3) 5 2 0 0),(5,.ptr (.loc 5) 6 8 0 0),(7,.ptr (.loc 7) 7 4 0 0),(8,.bs (.loc 8) 8 6 0 i),(34,.sl (rowI code) .an),(35,.i .i64 code.length),(36,.i .i64 i)],
  [(.bor 0,bxG 0 s p L),(.bor 1,bxS 1 0),(.loc 3,bxM2 T 5),(.loc 5,bxPD 6 Q),(.loc 7,bxF 7 0 0 0 0),(.loc 8,⟨8,kd,6,rowD D⟩)],10⟩
def endPu(n:Nat)(D:List Du)(s p L:Int)(kd:Kind):Ex×St:=(.n,⟨[(7,.ptr (.loc 7) 5 4 0 0),(8,.bs (.loc 8) 6 6 0 n)],[(.bor 0,bxG 0 s p L),(.bor 1,bxS 1 0),(.loc 7,bxF 5 0 0 0 0),(.loc 8,⟨6,kd,6,rowD D⟩)],8⟩)
def endPr(kind at_ st s p L:Int):Ex×St:=(.r,⟨[(6,.sl [] .an),(7,.ptr (.loc 7) 5 4 0 0)],[(.bor 0,bxG 0 s p L),(.bor 1,bxS 1 st),(.loc 7,bxF 5 kind 0 0 at_)],7⟩)
section
variable{T:Tbl}[CLimb T][CNat T][CProd T][CTwos T][CQuot T][CQuotD T][CWhole T][CCommon T][CFrac T][CFrac3 T][CFrac5 T][CPow T][CTape T][CGauge T][CEval T][CPush T][CIfc2 T][CFn424 T]
theorem zxd{kd:Kind}(hk:kd=.own∨kd=.sh)(x:Ins)(Q:PoD)(L:Int)(code:List Ins)(i:Nat)(D:List Du)(s p s' p':Int)(v:Du)(hi:i<code.length)(hc:code.length≤1000)(hg:code[i]? = some x)(hdl:D.length=i)
  (c:callF T 432 [mD2,.agg (celI x),epd Q,.sl (rowD D) .an]=some (.tup [edu v,.b true]))
  (hf:callH T 450 [duM T,edu v] [(.bor 0,bxG 0 s p L),(.bor 1,bxS 1 0)]=some (.b true,[(.bor 0,bxG 0 s' p' L),(.bor 1,bxS 1 0)])) :
  evX (orc T) T 2 l425_0 (stPu T Q L code i D s p kd)=some (.n,stPu T Q L code (i+1) (D++[v]) s' p' .sh):=by
 have hws:=zbx hi (by omega)
 have hge:=(List.getElem?_eq_some_iff.1 hg).2
 have ht:List.take i D=D:=List.take_of_length_le (by omega)
 have hp:wkL (rowD D++[celD v])=rowD (D++[v]):=by rw[zmn,zvh]
 have hi':(i:Int)<code.length:=by omega
 have hb:i≤4294967295:=by omega
 unfold stPu
 obtain⟨⟨⟨q0,q1,q2⟩,⟨q3,q4,q5⟩⟩,qy,qp⟩:=Q
 rcases hk with rfl | rfl<;>simp -implicitDefEqProofs[l425_0,hi,hi',hg,hge,hws,c,hf,hp,hdl,hb,ht]
theorem z01{kd:Kind}(hk:kd=.own∨kd=.sh)(x:Ins)(Q:PoD)(L:Int)(code:List Ins)(i:Nat)(D:List Du)(s p:Int)(v:Du)(hi:i<code.length)(hc:code.length≤1000)(hg:code[i]? = some x)(hdl:D.length=i)
  (c:callF T 432 [mD2,.agg (celI x),epd Q,.sl (rowD D) .an]=some (.tup [edu v,.b false])) :
  evX (orc T) T 2 l425_0 (stPu T Q L code i D s p kd)=some (endPr 3 i 0 s p L):=by
 have hge:=(List.getElem?_eq_some_iff.1 hg).2
 have ht:List.take i D=D:=List.take_of_length_le (by omega)
 have hi':(i:Int)<code.length:=by omega
 unfold stPu endPr
 obtain⟨⟨⟨q0,q1,q2⟩,⟨q3,q4,q5⟩⟩,qy,qp⟩:=Q
 rcases hk with rfl | rfl<;>simp -implicitDefEqProofs[l425_0,hi,hi',hg,hge,c,hdl,ht]
theorem zub{kd:Kind}(hk:kd=.own∨kd=.sh)(x:Ins)(Q:PoD)(L:Int)(code:List Ins)(i:Nat)(D:List Du)(s p s' p' st:Int)(v:Du)(hi:i<code.length)(hc:code.length≤1000)(hg:code[i]? = some x)(hdl:D.length=i)
  (c:callF T 432 [mD2,.agg (celI x),epd Q,.sl (rowD D) .an]=some (.tup [edu v,.b true]))
  (hf:callH T 450 [duM T,edu v] [(.bor 0,bxG 0 s p L),(.bor 1,bxS 1 0)]=some (.b false,[(.bor 0,bxG 0 s' p' L),(.bor 1,bxS 1 st)])) :
  evX (orc T) T 2 l425_0 (stPu T Q L code i D s p kd)=some (endPr 6 i st s' p' L):=by
 have hge:=(List.getElem?_eq_some_iff.1 hg).2
 have ht:List.take i D=D:=List.take_of_length_le (by omega)
 have hi':(i:Int)<code.length:=by omega
 unfold stPu endPr
 obtain⟨⟨⟨q0,q1,q2⟩,⟨q3,q4,q5⟩⟩,qy,qp⟩:=Q
 rcases hk with rfl | rfl<;>simp -implicitDefEqProofs[l425_0,hi,hi',hg,hge,c,hf,hdl,ht]
theorem z6h{kd:Kind}(hk:kd=.own∨kd=.sh)(Q:PoD)(L:Int)(code:List Ins)(D:List Du)(s p:Int):isEx (evX (orc T) T 2 l425_0 (stPu T Q L code code.length D s p kd))=true ∧
  finX 2 0 (.norm false [7,8]) (evX (orc T) T 2 l425_0 (stPu T Q L code code.length D s p kd))=some (endPu code.length D s p L kd):=by
 unfold stPu endPu
 obtain⟨⟨⟨q0,q1,q2⟩,⟨q3,q4,q5⟩⟩,qy,qp⟩:=Q
 rcases hk with rfl | rfl<;>constructor<;>simp -implicitDefEqProofs[l425_0]
theorem znq(kind at_ st s p L:Int):finX 2 0 (.norm false [7,8]) (some (endPr kind at_ st s p L))=some (endPr kind at_ st s p L):=by
 unfold endPr
 simp -implicitDefEqProofs
def EndPu(R:List Rat×List Rat×Nat×Nat×Nat)(n:Nat)(lim:Nat)(r:Ex×St):Prop:=
 ∃s p:Int,(R.2.2.1=0∧∃kd:Kind,(kd=.own∨kd=.sh)∧r=endPu n (zipD R.1 R.2.1) s p lim kd)∨(R.2.2.1≠0∧r=endPr R.2.2.1 R.2.2.2.2 R.2.2.2.1 s p lim)
theorem zuc(P B:Po)(lim:Nat)(hlim:lim≤4096)(t:Tp)(ht:OkTp t)(hn:∀i∈t.code,fsz i.n≤1000)(hd:(P.y.length:Int)=t.dim)(hp:(P.p.length:Int)=t.par)(ly:P.y.length=B.y.length)(lp:P.p.length=B.p.length)(hP:PvS P 1000)(hB:PvS B 1000)(s p:Int) :
  ∃r,EndPu (runD lim P B t.code [] []) t.code.length lim r∧loopN T 2 0 (.norm false [7,8]) l425_0 (stPu T (dua P B) lim t.code 0 [] s p .own)=some r:=by
 have hc:=ht.cl
 generalize hR:runD lim P B t.code [] []=R
 have key:=za5 (T:=T) (k:=2) (id:=0) (g2:=.norm false [7,8]) (c:=l425_0) (fun x:Nat×List Rat×List Rat×(Int×Int)×Kind=>stPu T (dua P B) lim t.code x.1 (zipD x.2.1 x.2.2.1) x.2.2.2.1.1 x.2.2.2.1.2 x.2.2.2.2)
  (fun x=>x.1≤t.code.length∧x.2.1.length=x.1∧x.2.2.1.length=x.1∧(∀q∈x.2.1,sz q≤129)∧(∀q∈x.2.2.1,sz q≤129)∧(x.2.2.2.2=.own∨x.2.2.2.2=.sh)∧runD lim P B (t.code.drop x.1) x.2.1 x.2.2.1=R) (fun x=>t.code.length-x.1)
  (EndPu R t.code.length lim) ?_ (0,[],[],(s,p),.own) ⟨Nat.zero_le _,rfl,rfl,by simp,by simp,.inl rfl,hR⟩
 ·exact key
 rintro⟨i,V,S,⟨s,p⟩,kd⟩ ⟨hi,hVl,hSl,hV,hS,hk,hr⟩
 dsimp only at *
 by_cases hlt:i<t.code.length
 ·have hg:t.code[i]? = some (t.code[i]'hlt):=List.getElem?_eq_getElem hlt
  have hmem:=List.getElem_mem hlt
  have hm:=ht.may i _ hg
  have hdr:t.code.drop i=t.code[i]'hlt::t.code.drop (i+1):=List.drop_eq_getElem_cons hlt
  generalize hx:t.code[i]'hlt=x at *
  rw[hdr,zd5]at hr
  have hm':mayI t.dim t.par V.length x=true:=by rw[hVl];exact hm
  obtain⟨w,c,hw⟩:=z0z (T:=T) x P B V S t.dim t.par hm' hd hp ly lp (hVl.trans hSl.symm) (hn x hmem) hV hS
  have hfl:(zipD V S).length=i:=by rw[zay (hVl.trans hSl.symm),hVl]
  cases hok:(valI P V x).2 with
  | false=>
   right
   rw[hok]at c
   rw[if_pos hok]at hr
   have e:=z01 (T:=T) hk x (dua P B) lim t.code i (zipD V S) s p w hlt (by omega) hg hfl c
   refine⟨_,⟨s,p,.inr ⟨?_,rfl⟩⟩,?_,?_⟩
   ·rw[←hr];simp
   ·rw[e];rfl
   ·rw[e,znq,←hr,hVl];rfl
  | true=>
   rw[hok]at c
   rw[hw hok]at c
   rw[if_neg (by rw[hok];decide)]at hr
   have hvs:sz (valI P V x).1≤2000:=zur hm' hP (hn x hmem) hV
   have hv2:x.op=10∨x.op=11→sz (valI P V x).1≤1100:=by
    intro h
    have ga:=zcw (D:=V) (a:=x.a) (B:=129) (by decide) hV
    have gb:=zcw (D:=V) (a:=x.b) (B:=129) (by decide) hV
    rcases h with h | h
    ·have:=zer (gI V x.a) (gI V x.b);simp[valI,h];omega
    ·obtain⟨e1,e2⟩:=zn3 hm' h
     have h1:=zh5 ga e1 e2
     by_cases hz:x.b<0∧gI V x.a=0
     ·simp[valI,h,hz,zbz]
     ·simp only[valI,h]
      simp only[hz]
      simp
      omega
   have hss:sz (slopeI B V S x (valI P V x).1)≤2000:=zvj hm' hB hV hS _ hv2
   have hf:=z00 (T:=T) s p lim 0 (fz (valI P V x).1,fz (slopeI B V S x (valI P V x).1)) (by show fsz (fz _)≤_;rw[zas];omega) (by show fsz (fz _)≤_;rw[zas];omega)
   have q1:sizF (fz (valI P V x).1)=sizQ (valI P V x).1:=rfl
   have q2:sizF (fz (slopeI B V S x (valI P V x).1))=sizQ (slopeI B V S x (valI P V x).1):=rfl
   by_cases hfit:sizQ (valI P V x).1≤lim
   ·rw[if_neg (by omega)]at hr
    by_cases hfi2:sizQ (slopeI B V S x (valI P V x).1)≤lim
    ·left
     rw[if_neg (by omega)]at hr
     have f1:fitD (fz (valI P V x).1,fz (slopeI B V S x (valI P V x).1)) lim=true:=by unfold fitD;dsimp only;rw[q1,q2];simp;omega
     have f2:stgD (fz (valI P V x).1,fz (slopeI B V S x (valI P V x).1)) lim 0=0:=by unfold stgD;rw[if_neg (fun h=>h.2 (by dsimp only;rw[q2];omega))]
     rw[f1,f2]at hf
     have e:=zxd (T:=T) hk x (dua P B) lim t.code i (zipD V S) s p _ _ _ hlt (by omega) hg hfl c hf
     refine⟨(i+1,V++[(valI P V x).1],S++[slopeI B V S x (valI P V x).1],(cntD (fz (valI P V x).1,fz (slopeI B V S x (valI P V x).1)) lim s,pkD (fz (valI P V x).1,fz (slopeI B V S x (valI P V x).1)) lim p),.sh),⟨by omega,by simp[hVl],by simp[hSl],fun q hq=>?_,fun q hq=>?_,.inr rfl,hr⟩,by show t.code.length-(i+1)<t.code.length-i;omega,?_⟩
     ·rcases List.mem_append.1 hq with h | h
      ·exact hV q h
      ·rw[List.mem_singleton.1 h]
       have:=zd2 hfit
       have:lim/32≤128:=by omega
       omega
     ·rcases List.mem_append.1 hq with h | h
      ·exact hS q h
      ·rw[List.mem_singleton.1 h]
       have:=zd2 hfi2
       have:lim/32≤128:=by omega
       omega
     ·rw[e,zmo _ _ (hVl.trans hSl.symm)]
    ·right
     rw[if_pos (by omega)]at hr
     have f1:fitD (fz (valI P V x).1,fz (slopeI B V S x (valI P V x).1)) lim=false:=by unfold fitD;dsimp only;rw[q1,q2];simp;omega
     have f2:stgD (fz (valI P V x).1,fz (slopeI B V S x (valI P V x).1)) lim 0=1:=by unfold stgD;rw[if_pos ⟨by dsimp only;rw[q1];omega,by dsimp only;rw[q2];omega⟩]
     rw[f1,f2]at hf
     generalize cntD (fz (valI P V x).1,fz (slopeI B V S x (valI P V x).1)) (lim:Int) s=c' at hf
     generalize pkD (fz (valI P V x).1,fz (slopeI B V S x (valI P V x).1)) (lim:Int) p=p' at hf
     have e:=zub (T:=T) hk x (dua P B) lim t.code i (zipD V S) s p _ _ _ _ hlt (by omega) hg hfl c hf
     exact⟨endPr 6 (i:Nat) 1 c' p' lim,⟨c',p',.inr ⟨by rw[←hr];simp,by rw[←hr,hVl];rfl⟩⟩,by rw[e];rfl,by rw[e,znq]⟩
   ·right
    rw[if_pos (by omega)]at hr
    have f1:fitD (fz (valI P V x).1,fz (slopeI B V S x (valI P V x).1)) lim=false:=by unfold fitD;dsimp only;rw[q1,q2];simp;omega
    have f2:stgD (fz (valI P V x).1,fz (slopeI B V S x (valI P V x).1)) lim 0=0:=by unfold stgD;rw[if_neg (fun h=>hfit (by have:=h.1;dsimp only at this;rw[q1]at this;omega))]
    rw[f1,f2]at hf
    generalize cntD (fz (valI P V x).1,fz (slopeI B V S x (valI P V x).1)) (lim:Int) s=c' at hf
    generalize pkD (fz (valI P V x).1,fz (slopeI B V S x (valI P V x).1)) (lim:Int) p=p' at hf
    have e:=zub (T:=T) hk x (dua P B) lim t.code i (zipD V S) s p _ _ _ _ hlt (by omega) hg hfl c hf
    exact⟨endPr 6 (i:Nat) 0 c' p' lim,⟨c',p',.inr ⟨by rw[←hr];simp,by rw[←hr,hVl];rfl⟩⟩,by rw[e];rfl,by rw[e,znq]⟩
 ·right
  have hi2:i=t.code.length:=by omega
  subst hi2
  rw[List.drop_length]at hr
  have e:=z6h (T:=T) hk (dua P B) lim t.code (zipD V S) s p
  have hr':R=(V,S,0,0,0):=hr.symm
  rw[hr']
  exact⟨_,⟨s,p,.inl ⟨rfl,kd,hk,rfl⟩⟩,e.1,e.2⟩
end
theorem zj9:∀(V S:List Rat),(fzs V).zip (fzs S)=zipD V S
 | [],[]=>rfl
 | [],_::_=>rfl
 | _::_,[]=>rfl
 | v::V,s::S=>by
  have:=zj9 V S
  show (fz v,fz s)::(fzs V).zip (fzs S)=_
  rw[this]
  rfl
def fieldD(lim:Nat)(t:Tp)(P B:Po):List Rat×List Rat×Nat×Nat×Nat:=
 if (pushT lim t P B).2.2.1=0 then (outsR t (pushT lim t P B).1,outsR t (pushT lim t P B).2.1,0,0,0) else ([],[],(pushT lim t P B).2.2)
theorem zud{lim:Nat}{P B:Po}{K:Nat}(hlim:lim/32+1≤K):∀(l:List Ins) (V S:List Rat),(∀q∈V,sz q≤K)→(∀q∈S,sz q≤K)→(∀q∈(runD lim P B l V S).1,sz q≤K)∧∀q∈(runD lim P B l V S).2.1,sz q≤K
 | [],V,S,h1,h2=>⟨h1,h2⟩
 | i::r,V,S,h1,h2=>by
  rw[zd5]
  split
  ·simp
  ·split
   ·simp
   ·split
    ·simp
    ·rename_i f1 f2 f3
     refine zud hlim r _ _ (fun q hq=>?_) (fun q hq=>?_)
     ·rcases List.mem_append.1 hq with hq | hq
      ·exact h1 q hq
      ·rw[List.mem_singleton.1 hq]
       have:=zd2 (q:=(valI P V i).1) (b:=lim) (by omega)
       omega
     ·rcases List.mem_append.1 hq with hq | hq
      ·exact h2 q hq
      ·rw[List.mem_singleton.1 hq]
       have:=zd2 (q:=slopeI B V S i (valI P V i).1) (b:=lim) (by omega)
       omega
theorem zl2{lim:Nat}{t:Tp}{P B:Po}(hlim:lim/32+1≤48):(∀q∈(fieldD lim t P B).1,sz q≤48)∧∀q∈(fieldD lim t P B).2.1,sz q≤48:=by
 have hp:(∀q∈(pushT lim t P B).1,sz q≤48)∧∀q∈(pushT lim t P B).2.1,sz q≤48:=by
  unfold pushT
  split
  ·exact zud hlim _ _ _ (by simp) (by simp)
  ·simp
 unfold fieldD
 split
 ·constructor
  ·intro q hq
   obtain⟨o,_,rfl⟩:=List.mem_map.1 hq
   exact zcw (by decide) hp.1
  ·intro q hq
   obtain⟨o,_,rfl⟩:=List.mem_map.1 hq
   exact zcw (by decide) hp.2
 ·simp
def stPi(V S:List Fz)(i:Nat):St:=
 ⟨[(1,.sl (rowF S) .an),(6,.bs (.loc 6) 1 6 0 i),(14,.sl (rowF V) .an),(15,.i .i64 V.length),(16,.i .i64 i)],[(.loc 6,⟨1,.own,6,rowD ((V.zip S).take i)⟩)],3⟩
section
variable{T:Tbl}[CLimb T][CNat T][CProd T][CTwos T][CQuot T][CQuotD T][CWhole T][CCommon T][CFrac T][CFrac3 T][CFrac5 T][CPow T][CTape T][CGauge T][CEval T][CPush T][CIfc2 T][CFn424 T]
theorem zue(V S:List Fz)(hl:V.length=S.length)(hb:V.length≤1000) :
  loopN T 0 0 (.norm false [6]) l423_0 (stPi V S 0)=some (.n,⟨[(6,.bs (.loc 6) 1 6 0 V.length)],[(.loc 6,⟨1,.own,6,rowD (V.zip S)⟩)],3⟩):=by
 have zl:(V.zip S).length=V.length:=by rw[List.length_zip];omega
 refine za3 (fun i=>stPi V S i) V.length _ (fun i hi=>?_) ?_
 ·have hg:V[i]? = some (V[i]'hi):=List.getElem?_eq_getElem hi
  have hge:=(List.getElem?_eq_some_iff.1 hg).2
  have hs:i<S.length:=by omega
  have hg2:S[i]? = some (S[i]'hs):=List.getElem?_eq_getElem hs
  have hge2:=(List.getElem?_eq_some_iff.1 hg2).2
  have hws:=zbx hi (by omega)
  have hx:(V.zip S)[i]? = some (V[i]'hi,S[i]'hs):=by rw[List.getElem?_eq_getElem (by omega),List.getElem_zip]
  have e:(V.zip S).take (i+1)=(V.zip S).take i++[(V[i]'hi,S[i]'hs)]:=by
   rw[List.take_add_one,hx]
   rfl
  have hml:((V.zip S).take i).length=i:=by rw[List.length_take];omega
  have hp:=zvi (m:=(V.zip S).take i) hml (V[i]'hi,S[i]'hs)
  have hi':(i:Int)<V.length:=by omega
  have hs':(i:Int)<S.length:=by omega
  have hb':i≤4294967295:=by omega
  show evX (orc T) T 0 l423_0 (stPi _ _ i)=some (.n,stPi _ _ (i+1))
  unfold stPi
  rw[e]
  clear e hx
  generalize (V.zip S).take i=M at *
  generalize V[i]'hi=v at *
  generalize S[i]'hs=s at *
  simp -implicitDefEqProofs[l423_0,hi,hi',hs,hs',hg,hge,hg2,hge2,hws,hp,hml,hb']
 ·have e:(V.zip S).take V.length=V.zip S:=List.take_of_length_le (by omega)
  show isEx (evX (orc T) T 0 l423_0 (stPi _ _ V.length))=true∧finX 0 0 _ (evX (orc T) T 0 l423_0 (stPi _ _ V.length))=_
  unfold stPi
  rw[e]
  generalize V.zip S=M at *
  constructor<;>simp -implicitDefEqProofs[l423_0]
theorem zl3(V S:List Fz)(hb:V.length≤1000) :
  callF T 423 [.sl (rowF V) .an,.sl (rowF S) .an]=some (if V.length=S.length then .tup [.sl (rowD (V.zip S)) .an,.b true] else .tup [.sl [] .an,.b false]):=by
 by_cases hl:V.length=S.length
 ·rw[if_pos hl]
  have h:=zue (T:=T) V S hl hb
  unfold stPi at h
  simp only[Int.natCast_zero,List.take_zero,zki]at h
  have zl:(V.zip S).length=V.length:=by rw[List.length_zip];omega
  have hl':(V.length:Int)=S.length:=by omega
  have ht:(V.zip S).take V.length=V.zip S:=List.take_of_length_le (by omega)
  generalize V.zip S=M at *
  rw[f423 _ rfl,b423]
  simp -implicitDefEqProofs[h,hl.symm,zl,ht]
 ·rw[if_neg hl]
  have hl':¬ (V.length:Int)=S.length:=by omega
  rw[f423 _ rfl,b423]
  simp -implicitDefEqProofs[hl,hl']
theorem z6i(t:Tp)(Q:PoD)(hs:TpS t)(s p L:Int)(h:fitT t Q.y.length Q.p.length=false) :
  callH T 425 [duM T,etp t,epd Q] [(.bor 0,bxG 0 s p L),(.bor 1,bxS 1 0)]=some (.tup [.sl [] .an,fltA 2 0 0 0],[(.bor 0,bxG 0 s p L),(.bor 1,bxS 1 0)]):=by
 have hr:=zcj (T:=T) t hs.small
 unfold fitT at h
 rw[f425 _ _ rfl,b425]
 obtain⟨⟨⟨q0,q1,q2⟩,⟨q3,q4,q5⟩⟩,qy,qp⟩:=Q
 dsimp only at h
 cases hok:okT t with
 | false=>
  rw[hok]at hr
  obtain⟨code,outs,dim,par⟩:=t
  simp -implicitDefEqProofs[hr]
 | true=>
  rw[hok]at hr h
  obtain⟨code,outs,dim,par⟩:=t
  dsimp only at *
  by_cases h1:(qy.length:Int)=dim
  ·by_cases h2:(qp.length:Int)=par
   ·simp[h1,h2]at h
   ·simp -implicitDefEqProofs[hr,h1,h2]
  ·simp -implicitDefEqProofs[hr,h1]
theorem zxe(t:Tp)(P B:Po)(hs:TpS t)(lim:Nat)(hlim:lim≤4096)(s p:Int)(hP:PvS P 1000)(hB:PvS B 1000)(ly:P.y.length=B.y.length)(lp:P.p.length=B.p.length)(h:fitT t P.y.length P.p.length=true)(hk:(runD lim P B t.code [] []).2.2.1=0) :
  ∃(s' p':Int) (kd:Kind),(kd=.own∨kd=.sh)∧callH T 425 [duM T,etp t,epd (dua P B)] [(.bor 0,bxG 0 s p lim),(.bor 1,bxS 1 0)] =
   some (.tup [.bs (.loc 8) 5 6 0 t.code.length,fltA 0 0 0 0],[(.bor 0,bxG 0 s' p' lim),(.bor 1,bxS 1 0),(.loc 8,⟨5,kd,6,rowD (zipD (runD lim P B t.code [] []).1 (runD lim P B t.code [] []).2.1)⟩)]):=by
 obtain⟨hok,h1,h2⟩:=zct h
 have hr:=zcj (T:=T) t hs.small
 obtain⟨r,⟨s',p',hend⟩,hl⟩:=zuc (T:=T) P B lim hlim t hok hs.ns h1 h2 ly lp hP hB s p
 rw[(zig t).2 hok]at hr
 rcases hend with ⟨_,kd,hkd,rfl⟩ | ⟨hne,_⟩
 ·unfold stPu endPu at hl
  have e0:zipD [] []=[]:=rfl
  simp only[Int.natCast_zero,e0,zki]at hl
  have hy:(zipD P.y B.y).length=P.y.length:=zay ly
  have hp':(zipD P.p B.p).length=P.p.length:=zay lp
  unfold dua at *
  generalize zipD (runD lim P B t.code [] []).1 (runD lim P B t.code [] []).2.1=D at *
  generalize zipD P.y B.y=Y at *
  generalize zipD P.p B.p=PP at *
  generalize fz P.t=tt at *
  generalize fz B.t=tt' at *
  obtain⟨code,outs,dim,par⟩:=t
  dsimp only at *
  refine⟨s',p',kd,hkd,?_⟩
  rw[f425 _ _ rfl,b425]
  rcases hkd with rfl | rfl
  ·simp -implicitDefEqProofs[hr,h1,h2,hy,hp',hl]
  ·simp -implicitDefEqProofs[hr,h1,h2,hy,hp',hl]
 ·exact absurd hk hne
theorem zxf(t:Tp)(P B:Po)(hs:TpS t)(lim:Nat)(hlim:lim≤4096)(s p:Int)(hP:PvS P 1000)(hB:PvS B 1000)(ly:P.y.length=B.y.length)(lp:P.p.length=B.p.length)(h:fitT t P.y.length P.p.length=true)(hk:¬ (runD lim P B t.code [] []).2.2.1=0) :
  ∃(s' p':Int),callH T 425 [duM T,etp t,epd (dua P B)] [(.bor 0,bxG 0 s p lim),(.bor 1,bxS 1 0)] =
   some (.tup [.sl [] .an,fltA (runD lim P B t.code [] []).2.2.1 0 0 (runD lim P B t.code [] []).2.2.2.2],[(.bor 0,bxG 0 s' p' lim),(.bor 1,bxS 1 (runD lim P B t.code [] []).2.2.2.1)]):=by
 obtain⟨hok,h1,h2⟩:=zct h
 have hr:=zcj (T:=T) t hs.small
 obtain⟨r,⟨s',p',hend⟩,hl⟩:=zuc (T:=T) P B lim hlim t hok hs.ns h1 h2 ly lp hP hB s p
 rw[(zig t).2 hok]at hr
 rcases hend with ⟨h0,_⟩ | ⟨_,rfl⟩
 ·exact absurd h0 hk
 ·unfold stPu endPr at hl
  have e0:zipD [] []=[]:=rfl
  simp only[Int.natCast_zero,e0,zki]at hl
  have hy:(zipD P.y B.y).length=P.y.length:=zay ly
  have hp':(zipD P.p B.p).length=P.p.length:=zay lp
  unfold dua at *
  generalize (((runD lim P B t.code [] []).2.2.1:Nat):Int)=kk at *
  generalize (((runD lim P B t.code [] []).2.2.2.1:Nat):Int)=st at *
  generalize (((runD lim P B t.code [] []).2.2.2.2:Nat):Int)=aa at *
  generalize zipD P.y B.y=Y at *
  generalize zipD P.p B.p=PP at *
  generalize fz P.t=tt at *
  generalize fz B.t=tt' at *
  obtain⟨code,outs,dim,par⟩:=t
  dsimp only at *
  refine⟨s',p',?_⟩
  rw[f425 _ _ rfl,b425]
  simp -implicitDefEqProofs[hr,h1,h2,hy,hp',hl]
end
section
variable{T:Tbl}[CLimb T][CNat T][CProd T][CTwos T][CQuot T][CQuotD T][CWhole T][CCommon T][CFrac T][CFrac3 T][CFrac5 T][CPow T][CTape T][CGauge T][CEval T][CPush T][CIfc2 T][CFn424 T]
theorem zuf(t:Tp)(x y:PoF)(bits:Int)(hs:TpS t)(hx:PoS x 1000)(hy:PoS y 1000) :
  callF T 408 [etp t,ept x,ept y,.i .i64 bits]=some (.tup [.sl (rowD (zipD (pushT (limN bits) t x.v y.v).1 (pushT (limN bits) t x.v y.v).2.1)) .an,
   fltA (pushT (limN bits) t x.v y.v).2.2.1 0 (pushT (limN bits) t x.v y.v).2.2.2.1 (pushT (limN bits) t x.v y.v).2.2.2.2]):=by
 have hn:=zht (T:=T) x hx
 have hn2:=zht (T:=T) y hy
 have hg:=zhs (T:=T) bits
 obtain⟨hl1,hl2⟩:=zo8 bits
 rw[hl1]at hg
 have hP:=z1b hx
 have hB:=z1b hy
 have xl:x.v.y.length=x.y.length:=List.length_map _
 have xp:x.v.p.length=x.p.length:=List.length_map _
 have p1:=zl3 (T:=T) x.v.f.y y.v.f.y (by show (fzs _).length≤_;rw[zae,xl];exact hx.yl)
 have p2:=zl3 (T:=T) x.v.f.p y.v.f.p (by show (fzs _).length≤_;rw[zae,xp];exact hx.pl)
 have z1:x.v.f.y.zip y.v.f.y=zipD x.v.y y.v.y:=zj9 _ _
 have z2:x.v.f.p.zip y.v.f.p=zipD x.v.p y.v.p:=zj9 _ _
 have l1:x.v.f.y.length=x.v.y.length∧y.v.f.y.length=y.v.y.length:=⟨zae _,zae _⟩
 have l2:x.v.f.p.length=x.v.p.length∧y.v.f.p.length=y.v.p.length:=⟨zae _,zae _⟩
 rw[z1,l1.1,l1.2]at p1
 rw[z2,l2.1,l2.2]at p2
 have ed:dua x.v y.v=⟨(x.v.f.t,y.v.f.t),zipD x.v.y y.v.y,zipD x.v.p y.v.p⟩:=rfl
 by_cases a1:x.v.y.length=y.v.y.length
 ·rw[if_pos a1]at p1
  by_cases a2:x.v.p.length=y.v.p.length
  ·rw[if_pos a2]at p2
   cases hf:fitT t x.v.y.length x.v.p.length with
   | false=>
    have e:pushT (limN bits) t x.v y.v=([],[],2,0,0):=by unfold pushT;rw[if_neg (fun h=>by rw[hf]at h;exact absurd h.2.2 (by decide))]
    have hm:=z6i (T:=T) t (dua x.v y.v) hs 0 0 (limN bits) (by rw[ed];dsimp only;rw[zay a1,zay a2];exact hf)
    rw[e]
    have e0:zipD [] []=[]:=rfl
    dsimp only
    rw[ed]at hm
    rw[e0,f408 _ rfl,b408]
    clear e ed z1 z2 l1 l2 hP hB xl xp hf hl1 hl2 hx hy hs a1 a2
    generalize zipD x.v.y y.v.y=Zy at *
    generalize zipD x.v.p y.v.p=Zp at *
    generalize x.v.f=X at *
    generalize y.v.f=Y at *
    obtain⟨code,outs,dim,par⟩:=t
    obtain⟨⟨q0,q1,q2⟩,qy,qp⟩:=X
    obtain⟨⟨r0,r1,r2⟩,ry,rp⟩:=Y
    obtain⟨⟨x0,x1,x2⟩,xy,xp⟩:=x
    obtain⟨⟨y0,y1,y2⟩,yy,yp⟩:=y
    dsimp only at *
    simp -implicitDefEqProofs[hn,hn2,hg,hm,p1,p2]
   | true=>
    have e:pushT (limN bits) t x.v y.v=runD (limN bits) x.v y.v t.code [] []:=by unfold pushT;rw[if_pos ⟨a1,a2,hf⟩]
    rw[e]
    by_cases hk:(runD (limN bits) x.v y.v t.code [] []).2.2.1=0
    ·obtain⟨s',p',kd,hkd,hm⟩:=zxe (T:=T) t x.v y.v hs (limN bits) hl2 0 0 hP hB a1 a2 hf hk
     obtain⟨V',S',e1,e2,e3,_⟩:=zn2 (limN bits) x.v y.v t.dim t.par t.code [] [] rfl (fun k i hi=>by
      have:=(zct hf).1.may k i hi
      rwa [List.length_nil,Nat.zero_add]) hk
     rw[List.nil_append,List.nil_append]at e1
     rw[e1]at hm ⊢
     dsimp only at hm ⊢
     have hfl:(zipD V' S').length=t.code.length:=by rw[zay (e2.trans e3.symm),e2]
     have ht:List.take t.code.length (zipD V' S')=zipD V' S':=List.take_of_length_le (by omega)
     rw[ed]at hm
     rw[f408 _ rfl,b408]
     clear e e1 e2 e3 hk ed z1 z2 l1 l2 hP hB xl xp hf hl1 hl2 hx hy hs a1 a2
     generalize zipD V' S'=D at *
     generalize zipD x.v.y y.v.y=Zy at *
     generalize zipD x.v.p y.v.p=Zp at *
     generalize x.v.f=X at *
     generalize y.v.f=Y at *
     obtain⟨code,outs,dim,par⟩:=t
     obtain⟨⟨q0,q1,q2⟩,qy,qp⟩:=X
     obtain⟨⟨r0,r1,r2⟩,ry,rp⟩:=Y
     obtain⟨⟨x0,x1,x2⟩,xy,xp⟩:=x
     obtain⟨⟨y0,y1,y2⟩,yy,yp⟩:=y
     dsimp only at *
     rcases hkd with rfl | rfl
     ·simp -implicitDefEqProofs[hn,hn2,hg,hm,p1,p2,hfl,ht]
     ·simp -implicitDefEqProofs[hn,hn2,hg,hm,p1,p2,hfl,ht]
    ·obtain⟨s',p',hm⟩:=zxf (T:=T) t x.v y.v hs (limN bits) hl2 0 0 hP hB a1 a2 hf hk
     have en:∀(l:List Ins) (V S:List Rat),¬ (runD (limN bits) x.v y.v l V S).2.2.1=0→zipD (runD (limN bits) x.v y.v l V S).1 (runD (limN bits) x.v y.v l V S).2.1=[]:=by
      intro l
      induction l with
      | nil=>intro V S h;exact absurd rfl h
      | cons i r ih=>
       intro V S h
       rw[zd5]at h ⊢
       split
       ·rfl
       ·rename_i h1
        rw[if_neg h1]at h
        split
        ·rfl
        ·rename_i h2
         rw[if_neg h2]at h
         split
         ·rfl
         ·rename_i h3
          rw[if_neg h3]at h
          exact ih _ _ h
     rw[en _ _ _ hk]
     rw[ed]at hm
     rw[f408 _ rfl,b408]
     clear en e hk ed z1 z2 l1 l2 hP hB xl xp hf hl1 hl2 hx hy hs a1 a2
     generalize (((runD (limN bits) x.v y.v t.code [] []).2.2.1:Nat):Int)=kk at *
     generalize (((runD (limN bits) x.v y.v t.code [] []).2.2.2.1:Nat):Int)=st at *
     generalize (((runD (limN bits) x.v y.v t.code [] []).2.2.2.2:Nat):Int)=aa at *
     generalize zipD x.v.y y.v.y=Zy at *
     generalize zipD x.v.p y.v.p=Zp at *
     generalize x.v.f=X at *
     generalize y.v.f=Y at *
     obtain⟨code,outs,dim,par⟩:=t
     obtain⟨⟨q0,q1,q2⟩,qy,qp⟩:=X
     obtain⟨⟨r0,r1,r2⟩,ry,rp⟩:=Y
     obtain⟨⟨x0,x1,x2⟩,xy,xp⟩:=x
     obtain⟨⟨y0,y1,y2⟩,yy,yp⟩:=y
     dsimp only at *
     simp -implicitDefEqProofs[hn,hn2,hg,hm,p1,p2]
  ·rw[if_neg a2]at p2
   have e:pushT (limN bits) t x.v y.v=([],[],2,0,0):=by unfold pushT;rw[if_neg (fun h=>a2 h.2.1)]
   rw[e]
   have e0:zipD [] []=[]:=rfl
   dsimp only
   rw[e0,f408 _ rfl,b408]
   clear e ed z1 z2 l1 l2 hP hB xl xp hl1 hl2 hx hy hs a1 a2
   generalize zipD x.v.y y.v.y=Zy at *
   generalize x.v.f=X at *
   generalize y.v.f=Y at *
   obtain⟨code,outs,dim,par⟩:=t
   obtain⟨⟨q0,q1,q2⟩,qy,qp⟩:=X
   obtain⟨⟨r0,r1,r2⟩,ry,rp⟩:=Y
   obtain⟨⟨x0,x1,x2⟩,xy,xp⟩:=x
   obtain⟨⟨y0,y1,y2⟩,yy,yp⟩:=y
   dsimp only at *
   simp -implicitDefEqProofs[hn,hn2,p1,p2]
 ·rw[if_neg a1]at p1
  have e:pushT (limN bits) t x.v y.v=([],[],2,0,0):=by unfold pushT;rw[if_neg (fun h=>a1 h.1)]
  rw[e]
  have e0:zipD [] []=[]:=rfl
  dsimp only
  have p2':∃(Z:List Du) (b:Bool),callF T 423 [.sl (rowF x.v.f.p) .an,.sl (rowF y.v.f.p) .an]=some (.tup [.sl (rowD Z) .an,.b b]):=by
   by_cases a2:x.v.p.length=y.v.p.length
   ·rw[if_pos a2]at p2;exact⟨_,_,p2⟩
   ·rw[if_neg a2]at p2;exact⟨[],_,p2⟩
  obtain⟨Z,b,p2'⟩:=p2'
  rw[e0,f408 _ rfl,b408]
  clear e ed z1 z2 l1 l2 hP hB xl xp hl1 hl2 hx hy hs a1 p2
  generalize x.v.f=X at *
  generalize y.v.f=Y at *
  obtain⟨code,outs,dim,par⟩:=t
  obtain⟨⟨q0,q1,q2⟩,qy,qp⟩:=X
  obtain⟨⟨r0,r1,r2⟩,ry,rp⟩:=Y
  obtain⟨⟨x0,x1,x2⟩,xy,xp⟩:=x
  obtain⟨⟨y0,y1,y2⟩,yy,yp⟩:=y
  dsimp only at *
  cases b<;>simp -implicitDefEqProofs[hn,hn2,p1,p2']
end
section
variable{T:Tbl}[CLimb T][CNat T][CProd T][CTwos T][CQuot T][CQuotD T][CWhole T][CCommon T][CFrac T][CFrac3 T][CFrac5 T][CPow T][CTape T][CGauge T][CEval T][CPush T][CIfc2 T][CFn424 T]
def stFd(D:List Du)(outs:List Int)(A C:List Fz)(i:Nat):St:=
 ⟨[(8,.bs (.loc 8) 1 3 0 i),(9,.bs (.loc 9) 2 3 0 i),(10,.ptr (.loc 10) 3 4 0 0),(11,.sl (rowD D) .an),(27,.sl (ints outs) .an),(28,.i .i64 outs.length),(29,.i .i64 i)],
  [(.loc 8,⟨1,.own,3,rowF (A.take i)⟩),(.loc 9,⟨2,.own,3,rowF (C.take i)⟩),(.loc 10,bxF 3 0 0 0 0)],5⟩
theorem zqy(V S:List Rat)(outs:List Int)(hl:V.length=S.length)(ho:outs.length≤1000)(hr:∀o∈outs,0≤o∧o<V.length) :
  loopN T 0 0 (.norm false [8,9,10]) l388_0 (stFd (zipD V S) outs (fzs (outs.map (gI V))) (fzs (outs.map (gI S))) 0) =
   some (.n,⟨[(8,.bs (.loc 8) 1 3 0 outs.length),(9,.bs (.loc 9) 2 3 0 outs.length),(10,.ptr (.loc 10) 3 4 0 0)],
    [(.loc 8,⟨1,.own,3,rowF (fzs (outs.map (gI V)))⟩),(.loc 9,⟨2,.own,3,rowF (fzs (outs.map (gI S)))⟩),(.loc 10,bxF 3 0 0 0 0)],5⟩):=by
 have el:∀V:List Rat,(fzs (outs.map (gI V))).length=outs.length:=fun V=>by rw[zae,List.length_map]
 refine za3 (fun i=>stFd (zipD V S) outs (fzs (outs.map (gI V))) (fzs (outs.map (gI S))) i) outs.length _ (fun i hi=>?_) ?_
 ·have hg:outs[i]? = some (outs[i]'hi):=List.getElem?_eq_getElem hi
  have hge:=(List.getElem?_eq_some_iff.1 hg).2
  have hws:=zbx hi (by omega)
  have hmem:=List.getElem_mem hi
  obtain⟨k,hk1,hk2,hk3,hka⟩:=zib (hr _ hmem) hl
  have hkae:=(List.getElem?_eq_some_iff.1 hka).2
  have step:∀V:List Rat,(fzs (outs.map (gI V))).take (i+1)=(fzs (outs.map (gI V))).take i++[fz (gI V (outs[i]'hi))]:=fun V=>by
   have hx:(fzs (outs.map (gI V)))[i]? = some (fz (gI V (outs[i]'hi))):=zh4 (by simp[hg])
   rw[List.take_add_one,hx]
   rfl
  have hml:∀V:List Rat,((fzs (outs.map (gI V))).take i).length=i:=fun V=>by rw[List.length_take,el];omega
  have hp1:=zcs (hml V) (fz (gI V (outs[i]'hi)))
  have hp2:=zcs (hml S) (fz (gI S (outs[i]'hi)))
  have m1:=hml V
  have m2:=hml S
  have hfl:(zipD V S).length=V.length:=zay hl
  have hi':(i:Int)<outs.length:=by omega
  have hb:i≤4294967295:=by omega
  show evX (orc T) T 0 l388_0 (stFd _ _ _ _ i)=some (.n,stFd _ _ _ _ (i+1))
  unfold stFd
  rw[step V,step S]
  clear step hml el
  generalize (fzs (outs.map (gI V))).take i=M at *
  generalize (fzs (outs.map (gI S))).take i=N at *
  generalize fz (gI V (outs[i]'hi))=z at *
  generalize fz (gI S (outs[i]'hi))=z' at *
  generalize zipD V S=DD at *
  generalize outs[i]'hi=o at *
  subst hk1
  simp -implicitDefEqProofs[l388_0,hi,hi',hg,hge,hws,hk2,hk3,hka,hkae,hfl,hp1,hp2,m1,m2,hb]
 ·have e:∀V:List Rat,(fzs (outs.map (gI V))).take outs.length=fzs (outs.map (gI V)):=fun V=>List.take_of_length_le (by rw[el];omega)
  show isEx (evX (orc T) T 0 l388_0 (stFd _ _ _ _ outs.length))=true∧finX 0 0 _ (evX (orc T) T 0 l388_0 (stFd _ _ _ _ outs.length))=_
  unfold stFd
  rw[e V,e S]
  generalize fzs (outs.map (gI V))=M at *
  generalize fzs (outs.map (gI S))=N at *
  generalize zipD V S=DD at *
  constructor<;>simp -implicitDefEqProofs[l388_0]
theorem zjc(t:Tp)(x y:PoF)(bits:Int)(hs:TpS t)(hx:PoS x 1000)(hy:PoS y 1000) :
  callF T 388 [etp t,ept x,ept y,.i .i64 bits]=some (.tup [.sl (rowF (fzs (fieldD (limN bits) t x.v y.v).1)) .an,.sl (rowF (fzs (fieldD (limN bits) t x.v y.v).2.1)) .an,
   fltA (fieldD (limN bits) t x.v y.v).2.2.1 0 (fieldD (limN bits) t x.v y.v).2.2.2.1 (fieldD (limN bits) t x.v y.v).2.2.2.2]):=by
 have h:=zuf (T:=T) t x y bits hs hx hy
 have e0:fzs []=[]:=rfl
 unfold fieldD
 by_cases hk:(pushT (limN bits) t x.v y.v).2.2.1=0
 ·obtain⟨hok,_,_,_,_,e1,_,n1,n2,_,_⟩:=zkl hk
  rw[if_pos hk]
  rw[e1]at h
  have hl:=zqy (T:=T) (pushT (limN bits) t x.v y.v).1 (pushT (limN bits) t x.v y.v).2.1 t.outs (n1.trans n2.symm) (by have:=hok.ol;have:=hok.d2;omega) (fun o ho=>by rw[n1];exact hok.outs o ho)
  unfold stFd at hl
  simp only[Int.natCast_zero,List.take_zero,zcf]at hl
  have el:∀V:List Rat,(fzs (t.outs.map (gI V))).length=t.outs.length:=fun V=>by rw[zae,List.length_map]
  have f1:=el (pushT (limN bits) t x.v y.v).1
  have f2:=el (pushT (limN bits) t x.v y.v).2.1
  unfold outsR
  dsimp only at h ⊢
  clear e1 n1 n2 hk hok el hs hx hy
  generalize fzs (t.outs.map (gI (pushT (limN bits) t x.v y.v).1))=A at *
  generalize fzs (t.outs.map (gI (pushT (limN bits) t x.v y.v).2.1))=C at *
  generalize zipD (pushT (limN bits) t x.v y.v).1 (pushT (limN bits) t x.v y.v).2.1=D at *
  have t1:List.take t.outs.length A=A:=List.take_of_length_le (by omega)
  have t2:List.take t.outs.length C=C:=List.take_of_length_le (by omega)
  obtain⟨code,outs,dim,par⟩:=t
  obtain⟨⟨x0,x1,x2⟩,xy,xp⟩:=x
  obtain⟨⟨y0,y1,y2⟩,yy,yp⟩:=y
  dsimp only at *
  rw[f388 _ rfl,b388]
  simp -implicitDefEqProofs[h,hl,f1,f2,t1,t2]
 ·rw[if_neg hk,e0]
  have hk':¬ (((pushT (limN bits) t x.v y.v).2.2.1:Nat):Int)=0:=by omega
  clear hk
  generalize (((pushT (limN bits) t x.v y.v).2.2.1:Nat):Int)=kk at *
  generalize (((pushT (limN bits) t x.v y.v).2.2.2.1:Nat):Int)=st at *
  generalize (((pushT (limN bits) t x.v y.v).2.2.2.2:Nat):Int)=aa at *
  generalize zipD (pushT (limN bits) t x.v y.v).1 (pushT (limN bits) t x.v y.v).2.1=D at *
  obtain⟨code,outs,dim,par⟩:=t
  obtain⟨⟨x0,x1,x2⟩,xy,xp⟩:=x
  obtain⟨⟨y0,y1,y2⟩,yy,yp⟩:=y
  rw[f388 _ rfl,b388]
  simp -implicitDefEqProofs[h,hk']
end
def noJ:JcF:=⟨[],[],[]⟩
def manyO(t:Tp):Nat:=max t.outs.length 1
def rowsR(lim:Nat)(t:Tp)(P:Po):List PoF×Nat×Nat×Nat:=gath (rowG lim t P) (manyO t) 0 []
def rowsJ(lim:Nat)(t:Tp)(P:Po):JcF:=if (rowsR lim t P).2.1=0 then jacP (rowsR lim t P).1 else noJ
section
variable{T:Tbl}[CLimb T][CNat T][CProd T][CTwos T][CQuot T][CQuotD T][CWhole T][CCommon T][CFrac T][CFrac3 T][CFrac5 T][CPow T][CTape T][CGauge T][CEval T][CRun T][CIfc T][CDigits T][CText T][CJoin T][CRow T][CPull T][CSlope T][CFn416 T][CFn418 T]
theorem zjd(t:Tp)(x:PoF)(bits:Int)(hs:TpS t)(hx:PoS x 1000)(hl:t.code.length≤20)(ho:t.outs.length≤1000) :
  callF T 403 [etp t,ept x,.i .i64 bits]=some (.tup [ejac (rowsJ (limN bits) t x.v),fltA (rowsR (limN bits) t x.v).2.1 0 (rowsR (limN bits) t x.v).2.2.1 (rowsR (limN bits) t x.v).2.2.2]):=by
 have hn:manyO t≤1000:=by unfold manyO;omega
 have g:=zq2 (T:=T) t x bits (manyO t) hn hs hx hl
 have hmm:(if (t.outs.length:Int)<1 then 1 else (t.outs.length:Int))=(manyO t:Int):=by unfold manyO;split<;>omega
 unfold rowsJ
 have hR:rowsR (limN bits) t x.v=gath (rowG (limN bits) t x.v) (manyO t) 0 []:=rfl
 rw[←hR]at g
 by_cases hk:(rowsR (limN bits) t x.v).2.1=0
 ·rw[if_pos hk]
  have hgk:=hk
  rw[hR]at hgk
  obtain⟨e1,e2,_⟩:=zcu _ _ _ _ hgk
  rw[←hR]at e1 e2
  have hl2:(rowsR (limN bits) t x.v).1.length=manyO t:=by rw[e1];simp
  have lp:=zu0 (T:=T) (rowsR (limN bits) t x.v).1 (by omega)
  unfold stRo at lp
  simp only[Int.natCast_zero,List.take_zero,List.map_nil,zcf,zkj]at lp
  rw[hk,e2]at g ⊢
  clear e1 e2 hk hgk hR hs hx
  have j1:(jacP (rowsR (limN bits) t x.v).1).t.length=(rowsR (limN bits) t x.v).1.length:=List.length_map _
  have j2:(jacP (rowsR (limN bits) t x.v).1).y.length=(rowsR (limN bits) t x.v).1.length:=List.length_map _
  have j3:(jacP (rowsR (limN bits) t x.v).1).p.length=(rowsR (limN bits) t x.v).1.length:=List.length_map _
  generalize jacP (rowsR (limN bits) t x.v).1=J at *
  generalize (rowsR (limN bits) t x.v).1=L at *
  generalize manyO t=n at *
  obtain⟨code,outs,dim,par⟩:=t
  obtain⟨⟨x0,x1,x2⟩,xy,xp⟩:=x
  obtain⟨jt,jy,jp⟩:=J
  dsimp only at *
  have t1:List.take L.length jt=jt:=List.take_of_length_le (by omega)
  have t2:List.take L.length jy=jy:=List.take_of_length_le (by omega)
  have t3:List.take L.length jp=jp:=List.take_of_length_le (by omega)
  rw[f403 _ rfl,b403]
  simp -implicitDefEqProofs[mm2,hmm,g,lp,j1,j2,j3,t1,t2,t3]
 ·rw[if_neg hk]
  have hk':¬ (((rowsR (limN bits) t x.v).2.1:Nat):Int)=0:=by omega
  clear hk hs hx
  generalize (((rowsR (limN bits) t x.v).2.1:Nat):Int)=kk at *
  generalize (((rowsR (limN bits) t x.v).2.2.1:Nat):Int)=ss at *
  generalize (((rowsR (limN bits) t x.v).2.2.2:Nat):Int)=aa at *
  generalize (rowsR (limN bits) t x.v).1=L at *
  generalize manyO t=n at *
  unfold noJ
  obtain⟨code,outs,dim,par⟩:=t
  obtain⟨⟨x0,x1,x2⟩,xy,xp⟩:=x
  dsimp only at *
  rw[f403 _ rfl,b403]
  simp -implicitDefEqProofs[mm2,hmm,g,hk']
end
def dirP(n m i:Nat):PoF:=
 if i=0 then ⟨fz 1,List.replicate n (fz 0),List.replicate m (fz 0)⟩
 else if i≤n then ⟨(false,[],[]),fzs (unitR n ((i:Int)-1)),List.replicate m (fz 0)⟩
 else ⟨(false,[],[]),List.replicate n (fz 0),fzs (unitR m ((i:Int)-1-n))⟩
theorem zke{n:Nat}:∀u∈List.replicate n (fz 0),fsz u≤1:=fun u hu=>by
 rw[List.eq_of_mem_replicate hu,zas]
 exact Nat.le_of_eq zbz
theorem zpa{n i:Int}:∀u∈fzs (unitR n i),fsz u≤1:=fun u hu=>by
 obtain⟨q,hq,rfl⟩:=List.mem_map.1 hu
 rw[zas]
 exact zo9 hq
theorem zgh(n i:Int):(unitR n i).length=cap300 n:=by
 unfold unitR
 split
 ·rw[List.length_set,List.length_replicate]
 ·rw[List.length_replicate]
theorem zf5{n:Nat}(h:n≤300):cap300 n=n:=by unfold cap300;omega
theorem zxn{n m:Nat}(i:Nat)(hn:n≤300)(hm:m≤300):(dirP n m i).y.length=n∧(dirP n m i).p.length=m:=by
 unfold dirP
 split
 ·simp
 ·split
  ·dsimp only;rw[zae,zgh,zf5 hn,List.length_replicate];exact⟨rfl,rfl⟩
  ·dsimp only;rw[zae,zgh,zf5 hm,List.length_replicate];exact⟨rfl,rfl⟩
theorem z6u{n m:Nat}(i:Nat)(hn:n≤300)(hm:m≤300):PoS (dirP n m i) 1:=by
 obtain⟨l1,l2⟩:=zxn i hn hm
 have key:fsz (dirP n m i).t≤1∧(∀u∈(dirP n m i).y,fsz u≤1)∧∀u∈(dirP n m i).p,fsz u≤1:=by
  unfold dirP
  split
  ·exact⟨by dsimp only;rw[zas];exact z6a (by decide) (by decide),zke,zke⟩
  ·split
   ·exact⟨by show fsz ((false,[],[]):Fz)≤1;decide,zpa,zke⟩
   ·exact⟨by show fsz ((false,[],[]):Fz)≤1;decide,zke,zpa⟩
 exact⟨key.1,key.2.1,key.2.2,by omega,by omega⟩
def colG(lim:Nat)(t:Tp)(x:PoF)(i:Nat):List Fz×Nat×Nat×Nat:=(fzs (fieldD lim t x.v (dirP x.y.length x.p.length i).v).2.1,(fieldD lim t x.v (dirP x.y.length x.p.length i).v).2.2)
theorem ze0{lim:Nat}{t:Tp}{P B:Po}(h:(fieldD lim t P B).2.2.1=0):(pushT lim t P B).2.2.1=0∧fieldD lim t P B=(outsR t (pushT lim t P B).1,outsR t (pushT lim t P B).2.1,0,0,0):=by
 unfold fieldD at h ⊢
 by_cases hk:(pushT lim t P B).2.2.1=0
 ·rw[if_pos hk];exact⟨hk,rfl⟩
 ·rw[if_neg hk]at h;exact absurd h hk
def stGb(T:Tbl)(X:AV)(n i:Nat)(acc:List (List Fz)):St:=
 ⟨[(1,.fnv (tyNum T 500418) X),(5,.ptr (.loc 5) 1 4 0 0),(6,.bs (.loc 6) 2 1 0 i),(10,.i .i64 n),(11,.i .i64 i)],[(.loc 5,bxF 1 0 0 0 0),(.loc 6,⟨2,.own,1,matF acc⟩)],4⟩
def endGb(R:List (List Fz)×Nat×Nat×Nat)(n:Nat):Ex×St:=
 if R.2.1=0 then (.n,⟨[(5,.ptr (.loc 5) 1 4 0 0),(6,.bs (.loc 6) 2 1 0 n)],[(.loc 5,bxF 1 0 0 0 0),(.loc 6,⟨2,.own,1,matF R.1⟩)],4⟩)
 else (.r,⟨[(4,.sl [] .an),(5,.ptr (.loc 5) 1 4 0 0)],[(.loc 5,bxF 1 R.2.1 0 R.2.2.1 R.2.2.2)],3⟩)
section
variable{T:Tbl}[CLimb T][CNat T][CProd T][CTwos T][CQuot T][CQuotD T][CWhole T][CCommon T][CFrac T][CFrac3 T][CFrac5 T][CPow T][CTape T][CGauge T][CEval T][CRun T][CIfc T][CDigits T][CText T][CJoin T][CRow T][CPull T][CPush T][CIfc2 T][CFn424 T][CSlope T][CFn416 T][CFn418 T]
theorem znu(t:Tp)(x:PoF)(bits:Int)(hy:x.y.length≤300)(hp:x.p.length≤300) :
  callF T 429 [epl t x bits]=some (ept ⟨(false,[],[]),List.replicate x.y.length (fz 0),List.replicate x.p.length (fz 0)⟩):=by
 have z1:=zo5 (T:=T) x.y.length hy
 have z2:=zo5 (T:=T) x.p.length hp
 obtain⟨code,outs,dim,par⟩:=t
 obtain⟨⟨x0,x1,x2⟩,xy,xp⟩:=x
 dsimp only at *
 generalize List.replicate xy.length (fz 0)=R1 at *
 generalize List.replicate xp.length (fz 0)=R2 at *
 rw[f429 _ rfl,b429]
 simp -implicitDefEqProofs[z1,z2]
theorem zu1(t:Tp)(x:PoF)(bits:Int)(i:Nat)(hi:i≤1000)(hs:TpS t)(hx:PoS x 1000)(hy:x.y.length≤300)(hp:x.p.length≤300) :
  callF T 418 [epl t x bits,.i .i64 i]=some (.tup [.sl (rowF (colG (limN bits) t x i).1) .an,fltA (colG (limN bits) t x i).2.1 0 (colG (limN bits) t x i).2.2.1 (colG (limN bits) t x i).2.2.2]):=by
 have st:=znu (T:=T) t x bits hy hp
 have o1:=zo0 (T:=T)
 have hd:=z6u i hy hp
 have b:=zjc (T:=T) t x (dirP x.y.length x.p.length i) bits hs hx ⟨Nat.le_trans hd.t (by decide),fun u hu=>Nat.le_trans (hd.y u hu) (by decide),fun u hu=>Nat.le_trans (hd.p u hu) (by decide),hd.yl,hd.pl⟩
 have u1:=zd1 (T:=T) x.y.length ((i:Int)-1)
 have u2:=zd1 (T:=T) x.p.length ((i:Int)-1-x.y.length)
 have w1:IntKind.wrap .i64 ((i:Int)-1)=(i:Int)-1:=zad _ (by omega)
 have w2:IntKind.wrap .i64 ((i:Int)-1-x.y.length)=(i:Int)-1-x.y.length:=zad _ (by omega)
 unfold colG
 dsimp only
 generalize fieldD (limN bits) t x.v (dirP x.y.length x.p.length i).v=D at *
 obtain⟨D1,D2,k,s,a⟩:=D
 dsimp only at *
 generalize ((k:Nat):Int)=kk at *
 generalize ((s:Nat):Int)=ss at *
 generalize ((a:Nat):Int)=aa at *
 generalize fzs D1=E1 at *
 generalize fzs D2=E2 at *
 unfold dirP at b
 by_cases h0:i=0
 ·rw[if_pos h0]at b
  subst h0
  clear u1 u2 w1 w2 hd hx hs
  obtain⟨code,outs,dim,par⟩:=t
  obtain⟨⟨x0,x1,x2⟩,xy,xp⟩:=x
  dsimp only at *
  generalize List.replicate xy.length (fz 0)=R1 at *
  generalize List.replicate xp.length (fz 0)=R2 at *
  generalize fz 1=O at *
  rw[f418 _ rfl,b418]
  simp -implicitDefEqProofs[st,o1,b]
 ·rw[if_neg h0]at b
  have h0':¬ (i:Int)=0:=by omega
  by_cases h1:i≤x.y.length
  ·rw[if_pos h1]at b
   have h1':(i:Int)≤x.y.length:=by omega
   clear u2 w2 hd hx hs
   obtain⟨code,outs,dim,par⟩:=t
   obtain⟨⟨x0,x1,x2⟩,xy,xp⟩:=x
   dsimp only at *
   generalize List.replicate xy.length (fz 0)=R1 at *
   generalize List.replicate xp.length (fz 0)=R2 at *
   generalize fzs (unitR xy.length ((i:Int)-1))=U at *
   replace b:callF T 388 [.agg [.sl (rowI code) .an,.sl (ints outs) .an,.i .i64 dim,.i .i64 par],.agg [.b x0,.sl (u32s x1) .an,.sl (u32s x2) .an,.sl (rowF xy) .an,.sl (rowF xp) .an],.agg [.b false,.sl [] .an,.sl [] .an,.sl (rowF U) .an,.sl (rowF R2) .an],.i .i64 bits]=some (.tup [.sl (rowF E1) .an,.sl (rowF E2) .an,fltA kk 0 ss aa]):=b
   rw[f418 _ rfl,b418]
   simp -implicitDefEqProofs[st,u1,w1,b,h0,h0',h1,h1']
  ·rw[if_neg h1]at b
   have h1':¬ (i:Int)≤x.y.length:=by omega
   clear u1 hd hx hs
   obtain⟨code,outs,dim,par⟩:=t
   obtain⟨⟨x0,x1,x2⟩,xy,xp⟩:=x
   dsimp only at *
   generalize List.replicate xy.length (fz 0)=R1 at *
   generalize List.replicate xp.length (fz 0)=R2 at *
   generalize fzs (unitR xp.length ((i:Int)-1-xy.length))=U at *
   replace b:callF T 388 [.agg [.sl (rowI code) .an,.sl (ints outs) .an,.i .i64 dim,.i .i64 par],.agg [.b x0,.sl (u32s x1) .an,.sl (u32s x2) .an,.sl (rowF xy) .an,.sl (rowF xp) .an],.agg [.b false,.sl [] .an,.sl [] .an,.sl (rowF R1) .an,.sl (rowF U) .an],.i .i64 bits]=some (.tup [.sl (rowF E1) .an,.sl (rowF E2) .an,fltA kk 0 ss aa]):=b
   rw[f418 _ rfl,b418]
   simp -implicitDefEqProofs[st,u2,w1,w2,b,h0,h0',h1,h1']
theorem zmd(t:Tp)(q:PoF)(bits:Int)(n:Nat)(hn:n≤1000)(F:Nat→List Fz×Nat×Nat×Nat)(c:∀i:Nat,i<n→callF T 418 [epl t q bits,.i .i64 i]=some (.tup [.sl (rowF (F i).1) .an,fltA (F i).2.1 0 (F i).2.2.1 (F i).2.2.2]))
  (h0:∀i:Nat,i<n→(F i).2.1=0→(F i).2.2=(0,0)) :
  loopN T 0 0 (.norm false [5,6]) l417_0 (stGb T (epl t q bits) n 0 [])=some (endGb (gath F n 0 []) n):=by
 have key:=zbg (T:=T) (k:=0) (id:=0) (g2:=.norm false [5,6]) (c:=l417_0) (fun x:Nat×List (List Fz)=>stGb T (epl t q bits) n x.1 x.2)
  (fun x=>x.1≤n∧x.2.length=x.1) (fun x=>n-x.1)
  (fun x=>some (endGb (gath F (n-x.1) x.1 x.2) n)) ?_ (0,[]) ⟨Nat.zero_le _,rfl⟩
 ·exact key
 rintro⟨i,acc⟩ ⟨hi,hal⟩
 obtain⟨code,outs,dim,par⟩:=t
 obtain⟨⟨q0,q1,q2⟩,qy,qp⟩:=q
 dsimp only at *
 by_cases hlt:i<n
 ·have ci:=c i hlt
  have hi':(i:Int)<n:=by omega
  have hws:=zbx hlt (by omega)
  have hb:i≤4294967295:=by omega
  have ht:List.take i acc=acc:=List.take_of_length_le (by omega)
  obtain⟨m,hm⟩:∃m,n-i=m+1:=⟨n-i-1,by omega⟩
  rw[hm,gath]
  by_cases hk:(F i).2.1=0
  ·left
   have h00:=h0 i hlt hk
   refine⟨(i+1,acc++[(F i).1]),⟨by omega,by simp[hal]⟩,by dsimp only;omega,?_,?_⟩
   ·rw[hk,h00]at ci
    have hp:=zf4 hal (F i).1
    rw[ht]at hp
    generalize (F i).1=G at *
    unfold stGb
    simp -implicitDefEqProofs[l417_0,hi',hlt,hws,ci,hp,ht,hal,hb]
   ·rw[if_pos hk,show n-(i+1)=m by omega]
  ·right
   have hk':¬ (((F i).2.1:Nat):Int)=0:=by omega
   rw[if_neg hk]
   unfold stGb endGb
   dsimp only
   rw[if_neg hk]
   generalize (((F i).2.1:Nat):Int)=kk at *
   generalize (((F i).2.2.1:Nat):Int)=ss at *
   generalize (((F i).2.2.2:Nat):Int)=aa at *
   generalize (F i).1=G at *
   constructor<;>simp -implicitDefEqProofs[l417_0,hi',hlt,ci,hk']
 ·right
  have e:i=n:=by omega
  subst e
  have ht:List.take i acc=acc:=List.take_of_length_le (by omega)
  rw[Nat.sub_self,gath]
  unfold stGb endGb
  rw[if_pos rfl]
  constructor<;>simp -implicitDefEqProofs[l417_0]
theorem zq3(t:Tp)(x:PoF)(bits:Int)(n:Nat)(hn:n≤1000)(hs:TpS t)(hx:PoS x 1000)(hy:x.y.length≤300)(hp:x.p.length≤300) :
  callF T 417 [.i .i64 n,.fnv (tyNum T 500418) (epl t x bits)]=some (.tup [.sl (matF (gath (colG (limN bits) t x) n 0 []).1) .an,
   fltA (gath (colG (limN bits) t x) n 0 []).2.1 0 (gath (colG (limN bits) t x) n 0 []).2.2.1 (gath (colG (limN bits) t x) n 0 []).2.2.2]):=by
 have h:=zmd (T:=T) t x bits n hn (colG (limN bits) t x) (fun i hi=>zu1 t x bits i (by omega) hs hx hy hp) (fun i _ hk=>by
  unfold colG at hk ⊢
  rw[(ze0 hk).2])
 unfold stGb endGb at h
 simp only[Int.natCast_zero,zkj]at h
 by_cases hk:(gath (colG (limN bits) t x) n 0 []).2.1=0
 ·obtain⟨e1,e2,_⟩:=zcu _ _ _ _ hk
  rw[if_pos hk]at h
  have hl2:(gath (colG (limN bits) t x) n 0 []).1.length=n:=by rw[e1];simp
  rw[hk,e2]
  clear e1 e2 hk hs hx
  generalize (gath (colG (limN bits) t x) n 0 []).1=L at *
  have ht:List.take n L=L:=List.take_of_length_le (by omega)
  obtain⟨code,outs,dim,par⟩:=t
  obtain⟨⟨x0,x1,x2⟩,xy,xp⟩:=x
  rw[f417 _ rfl,b417]
  simp -implicitDefEqProofs[h,hl2,ht]
 ·rw[if_neg hk]at h
  rw[zgv _ _ _ _ hk]
  generalize (((gath (colG (limN bits) t x) n 0 []).2.1:Nat):Int)=kk at *
  generalize (((gath (colG (limN bits) t x) n 0 []).2.2.1:Nat):Int)=ss at *
  generalize (((gath (colG (limN bits) t x) n 0 []).2.2.2:Nat):Int)=aa at *
  obtain⟨code,outs,dim,par⟩:=t
  obtain⟨⟨x0,x1,x2⟩,xy,xp⟩:=x
  rw[f417 _ rfl,b417]
  simp -implicitDefEqProofs[h]
end
def besd(l:List (List Fz))(many:Nat):List (List Fz):=if l=[] then List.replicate many [] else if rightM l then turnM l (widthM l) else []
def colsR(lim:Nat)(t:Tp)(x:PoF):List (List Fz)×Nat×Nat×Nat:=gath (colG lim t x) (1+x.y.length+x.p.length) 0 []
def jacC(L:List (List Fz))(n many:Nat):JcF:=⟨L.getD 0 [],besd ((L.take (1+n)).tail) many,besd (L.drop (1+n)) many⟩
def colsJ(lim:Nat)(t:Tp)(x:PoF):JcF:=if (colsR lim t x).2.1=0 then jacC (colsR lim t x).1 x.y.length t.outs.length else noJ
theorem zxo(n:Nat):List.replicate n [AV.sl [] .an]=matF (List.replicate n []):=by simp[matF]
theorem z6v(l:List (List Fz)):Option.all (fun r=>decide (r.length=1)) (matF l).head? = true:=by cases l<;>rfl
theorem zu2{lim:Nat}{t:Tp}{x:PoF}(hlim:lim/32+1≤48)(i:Nat):∀u∈(colG lim t x i).1,fsz u≤48:=ztw (zl2 hlim).2
theorem zxp{lim:Nat}{t:Tp}{x:PoF}(i:Nat)(ho:t.outs.length≤1000):(colG lim t x i).1.length≤1000:=by
 unfold colG fieldD
 split
 ·dsimp only;rw[zae];unfold outsR;rw[List.length_map];exact ho
 ·exact Nat.zero_le _
section
variable{T:Tbl}[CLimb T][CNat T][CProd T][CTwos T][CQuot T][CQuotD T][CWhole T][CCommon T][CFrac T][CFrac3 T][CFrac5 T][CPow T][CTape T][CGauge T][CEval T][CRun T][CIfc T][CDigits T][CText T][CJoin T][CRow T][CGrid T][CPull T][CPush T][CIfc2 T][CFn424 T][CSlope T][CFn416 T][CFn418 T]
theorem zgi(l:List (List Fz))(many:Nat)(hm:many≤1000)(hl:l.length≤1000)(hk:widthM l≤1000)(hs:∀r∈l,∀x∈r,fsz x≤1000) :
  callF T 419 [.sl (matF l) .an,.i .i64 many]=some (.sl (matF (besd l many)) .an):=by
 have tn:=ztr (T:=T) l hl hk hs
 unfold besd
 rw[f419 _ rfl,b419]
 by_cases h:l=[]
 ·rw[if_pos h]
  subst h
  have m1:(many:Int)≤4294967296:=by omega
  have e:=zxo many
  have e2:wkL (List.replicate many [AV.sl [] .nl])=matF (List.replicate many []):=by rw[zbi,List.map_replicate,←e];simp[wkR,wkA]
  simp -implicitDefEqProofs[m1,e,e2]
 ·rw[if_neg h]
  have h1:¬ l.length=0:=by simpa using h
  have h2:¬ (l.length:Int)=0:=by omega
  generalize (if rightM l then turnM l (widthM l) else [])=R at *
  simp -implicitDefEqProofs[tn,h1,h2]
theorem zje(t:Tp)(x:PoF)(bits:Int)(hb:limN bits/32+1≤48)(hs:TpS t)(hx:PoS x 1000)(hy:x.y.length≤300)(hp:x.p.length≤300)(ho:t.outs.length≤1000) :
  callF T 404 [etp t,ept x,.i .i64 bits]=some (.tup [ejac (colsJ (limN bits) t x),fltA (colsR (limN bits) t x).2.1 0 (colsR (limN bits) t x).2.2.1 (colsR (limN bits) t x).2.2.2]):=by
 have g:=zq3 (T:=T) t x bits (1+x.y.length+x.p.length) (by omega) hs hx hy hp
 have ec:((1+x.y.length+x.p.length:Nat):Int)=1+(x.y.length:Int)+(x.p.length:Int):=by omega
 rw[ec]at g
 unfold colsJ
 have hR:colsR (limN bits) t x=gath (colG (limN bits) t x) (1+x.y.length+x.p.length) 0 []:=rfl
 rw[←hR]at g
 have w1:IntKind.wrap .i64 (1+(x.y.length:Int))=1+(x.y.length:Int):=zad _ (by omega)
 have w2:IntKind.wrap .i64 (1+(x.y.length:Int)+(x.p.length:Int))=1+(x.y.length:Int)+(x.p.length:Int):=zad _ (by omega)
 by_cases hk:(colsR (limN bits) t x).2.1=0
 ·rw[if_pos hk]
  have hgk:=hk
  rw[hR]at hgk
  obtain⟨e1,e2,_⟩:=zcu _ _ _ _ hgk
  rw[←hR,List.nil_append]at e1
  rw[←hR]at e2
  have hl2:(colsR (limN bits) t x).1.length=1+x.y.length+x.p.length:=by rw[e1];simp
  have hsz:∀r∈(colsR (limN bits) t x).1,(∀u∈r,fsz u≤1000)∧r.length≤1000:=by
   intro r hr
   rw[e1]at hr
   obtain⟨k,_,rfl⟩:=List.mem_map.1 hr
   exact⟨fun u hu=>Nat.le_trans (zu2 hb _ u hu) (by decide),zxp _ ho⟩
  rw[hk,e2]at g ⊢
  clear e1 e2 hk hgk hR hs hx hb
  generalize (colsR (limN bits) t x).1=L at *
  have wid:∀l:List (List Fz),(∀r∈l,r∈L)→widthM l≤1000:=by
   intro l hl
   cases l with
   | nil=>exact Nat.zero_le _
   | cons r l=>exact(hsz r (hl r List.mem_cons_self)).2
  have m1:∀r∈(L.take (1+x.y.length)).tail,r∈L:=fun r hr=>List.mem_of_mem_take (List.mem_of_mem_tail hr)
  have m2:∀r∈L.drop (1+x.y.length),r∈L:=fun r hr=>List.mem_of_mem_drop hr
  have b1:=zgi (T:=T) ((L.take (1+x.y.length)).tail) t.outs.length ho (by rw[List.length_tail,List.length_take];omega) (wid _ m1) (fun r hr=>(hsz r (m1 r hr)).1)
  have b2:=zgi (T:=T) (L.drop (1+x.y.length)) t.outs.length ho (by rw[List.length_drop];omega) (wid _ m2) (fun r hr=>(hsz r (m2 r hr)).1)
  have h0:0<L.length:=by omega
  have hg0:L[0]? = some (L[0]'h0):=List.getElem?_eq_getElem h0
  have eg:L.getD 0 []=L[0]'h0:=by rw[List.getD_eq_getElem?_getD,hg0];rfl
  have hl2':(L.length:Int)=1+(x.y.length:Int)+(x.p.length:Int):=by omega
  unfold jacC
  rw[eg]
  clear eg hsz m1 m2 wid
  generalize L[0]'h0=L0 at *
  generalize besd ((L.take (1+x.y.length)).tail) t.outs.length=B1 at *
  generalize besd (L.drop (1+x.y.length)) t.outs.length=B2 at *
  obtain⟨code,outs,dim,par⟩:=t
  obtain⟨⟨x0,x1,x2⟩,xy,xp⟩:=x
  dsimp only at *
  have q0:(0:Int)<1+(xy.length:Int)+(xp.length:Int):=by omega
  have q1:(1:Int)+(xy.length:Int)≤1+(xy.length:Int)+(xp.length:Int):=by omega
  have q2:((1:Int)+(xy.length:Int)).toNat=1+xy.length:=by omega
  have q3:(0:Int)≤1+(xy.length:Int):=by omega
  have q4:(1:Int)≤1+(xy.length:Int):=by omega
  have q5:List.take (1+xy.length+xp.length) L=L:=List.take_of_length_le (by omega)
  rw[f404 _ rfl,b404]
  simp -implicitDefEqProofs[q5,w1,w2,g,b1,b2,h0,hg0,hl2,hl2',q0,q1,q2,q3,q4,z6v]
 ·rw[if_neg hk]
  have hk':¬ (((colsR (limN bits) t x).2.1:Nat):Int)=0:=by omega
  clear hk hs hx hb
  generalize (((colsR (limN bits) t x).2.1:Nat):Int)=kk at *
  generalize (((colsR (limN bits) t x).2.2.1:Nat):Int)=ss at *
  generalize (((colsR (limN bits) t x).2.2.2:Nat):Int)=aa at *
  generalize (colsR (limN bits) t x).1=L at *
  unfold noJ
  obtain⟨code,outs,dim,par⟩:=t
  obtain⟨⟨x0,x1,x2⟩,xy,xp⟩:=x
  dsimp only at *
  rw[f404 _ rfl,b404]
  simp -implicitDefEqProofs[w1,w2,g,hk']
structure JcS (j:JcF) (B K:Nat):Prop where
 t:∀u∈j.t,fsz u≤B
 y:∀r∈j.y,∀u∈r,fsz u≤B
 p:∀r∈j.p,∀u∈r,fsz u≤B
 tl:j.t.length≤K
 yl:j.y.length≤K
 pl:j.p.length≤K
 yr:∀r∈j.y,r.length≤K
 pr:∀r∈j.p,r.length≤K
def sameJ(a b:JcF):Bool:=decide (a.t.map fv=b.t.map fv)&&decide (a.y.map (·.map fv)=b.y.map (·.map fv))&&decide (a.p.map (·.map fv)=b.p.map (·.map fv))
theorem zjf(a b:JcF)(ha:JcS a 1000 1000)(hb:JcS b 1000 1000):callF T 401 [ejac a,ejac b]=some (.b (sameJ a b)):=by
 have c1:=zkc (T:=T) a.t b.t ha.tl ha.t hb.t
 have c2:=zlw (T:=T) a.y b.y ha.yl ha.yr ha.y hb.y
 have c3:=zlw (T:=T) a.p b.p ha.pl ha.pr ha.p hb.p
 unfold sameJ
 generalize decide (a.t.map fv=b.t.map fv)=B1 at *
 generalize decide (a.y.map (·.map fv)=b.y.map (·.map fv))=B2 at *
 generalize decide (a.p.map (·.map fv)=b.p.map (·.map fv))=B3 at *
 obtain⟨at',ay,ap⟩:=a
 obtain⟨bt,bY,bp⟩:=b
 dsimp only at *
 rw[f401 _ rfl,b401]
 cases B1<;>cases B2<;>simp -implicitDefEqProofs[c1,c2,c3]
end
end Go.Ab