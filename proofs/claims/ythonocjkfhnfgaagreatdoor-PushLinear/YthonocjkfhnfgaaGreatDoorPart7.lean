/-
  A calculus of values, boxes and code, and what functions of the program compute, proved in it.
  Conditions: none beyond those that the theorems state. (Part 7.)
-/
import Derived.Test.YthonocjkfhnfgaaGreatDoorPart6

set_option linter.unusedSectionVars false
set_option linter.unusedVariables false
set_option linter.unusedSimpArgs false
set_option linter.unnecessarySimpa false

namespace Go.Ab
theorem zme:∀(a b:List UInt32),a.length=b.length→val a=val b→a=b
 | [],[],_,_=>rfl
 | x::a,y::b,hl,hv=>by
  simp only[zas]at hv
  have hx:=zak x
  have hy:=zak y
  have h1:x.toNat=y.toNat:=by omega
  have h2:val a=val b:=by omega
  rw[UInt32.toNat_inj.1 h1,zme a b (by simpa using hl) h2]
 | [],_::_,hl,_=>by simp at hl
 | _::_,[],hl,_=>by simp at hl
theorem ze2{x y:Nat}:cmpN x y=0↔x=y:=by
 unfold cmpN
 split
 ·constructor
  ·intro h;omega
  ·intro h;omega
 ·split
  ·constructor
   ·intro h;omega
   ·intro h;omega
  ·constructor
   ·intro _;omega
   ·intro _;rfl
theorem zrp(z:Int):∀t:Nat,sg (decide (z<0)&&decide (t%2=1)) (z.natAbs^t)=z^t
 | 0=>by simp[sg]
 | t+1=>by
  have ih:=zrp z t
  have hz:sg (decide (z<0)) z.natAbs=z:=by
   unfold sg
   by_cases h:z<0
   ·simp only[h,decide_true,if_true];omega
   ·simp only[h,decide_false,Bool.false_eq_true,if_false];omega
  have hm:=zs5 (decide (z<0)&&decide (t%2=1)) (decide (z<0)) (z.natAbs^t) z.natAbs
  rw[ih,hz]at hm
  rw[Int.pow_succ,←hm,Nat.pow_succ]
  congr 1
  rcases Nat.mod_two_eq_zero_or_one t with h | h
  ·have h2:(t+1)%2=1:=by omega
   rw[h,h2]
   cases decide (z<0)<;>rfl
  ·have h2:(t+1)%2=0:=by omega
   rw[h,h2]
   cases decide (z<0)<;>rfl
theorem zfh{x L:Nat}(h:(ofN x).length≤L):∀t:Nat,(ofN (x^t)).length≤t*L+1
 | 0=>by rw[Nat.pow_zero,zfr];simp
 | t+1=>by
  have ih:=zfh h t
  have:=zbm ih h
  rw[Nat.pow_succ,Nat.succ_mul]
  omega
section
variable{T:Tbl}[CLimb T][CNat T][CProd T][CTwos T][CQuot T][CQuotD T][CWhole T][CCommon T][CFrac T][CFrac3 T]
theorem zou(x:Fz)(hx:fsz x≤10000):callF T 208 [efz x]=some (.b (rightF x)):=by
 have hn:=zbq (T:=T) x hx
 have hs:=zbo (x:=x) (L:=10000) hx (by decide)
 have l1:=ze8 (fv x)
 have l2:=ze9 (fv x)
 unfold rightF
 have e':fz (fv x)=(decide ((fv x).num<0),ofN (fv x).num.natAbs,ofN (fv x).den):=rfl
 rw[e']at hn ⊢
 obtain⟨n,a,d⟩:=x
 have la:=zd6 (n,a,d)
 have ld:=zeo (n,a,d)
 simp only at la ld
 generalize decide ((fv (n,a,d)).num<0)=m at *
 generalize ofN (fv (n,a,d)).num.natAbs=b at *
 generalize ofN (fv (n,a,d)).den=e at *
 have c1:=zfk (T:=T) a b (by omega) (by omega)
 have c2:=zfk (T:=T) d e (by omega) (by omega)
 clear e' hs
 change callF T 207 [.agg [.b n,.sl (u32s a) .an,.sl (u32s d) .an]]=some (.agg [.b m,.sl (u32s b) .an,.sl (u32s e) .an]) at hn
 rw[f208 _ rfl,b208]
 by_cases h1:n=m
 case neg=>
  have hd:decide ((n,a,d)=(m,b,e))=false:=by simp[h1]
  have hb:(n == m)=false:=by simpa using h1
  rw[hd]
  simp -implicitDefEqProofs[hn,hb]
 subst h1
 by_cases h2:a.length=b.length
 case neg=>
  have hd:decide ((n,a,d)=(n,b,e))=false:=by
   have:a≠b:=fun h=>h2 (by rw[h])
   simp[this]
  have hb:((a.length:Int) == b.length)=false:=by simp;omega
  have hb':¬ (a.length:Int)=b.length:=by omega
  rw[hd]
  simp -implicitDefEqProofs[hn,hb,hb',h2]
 by_cases h3:d.length=e.length
 case neg=>
  have hd:decide ((n,a,d)=(n,b,e))=false:=by
   have:d≠e:=fun h=>h3 (by rw[h])
   simp[this]
  have hb:((d.length:Int) == e.length)=false:=by simp;omega
  have hb':¬ (d.length:Int)=e.length:=by omega
  rw[hd]
  simp -implicitDefEqProofs[hn,h2,hb,hb',h3]
 by_cases h4:val a=val b
 case neg=>
  have hd:decide ((n,a,d)=(n,b,e))=false:=by
   have:a≠b:=fun h=>h4 (by rw[h])
   simp[this]
  have hc:¬ cmpN (val a) (val b)=0:=fun h=>h4 (ze2.1 h)
  rw[hd]
  generalize cmpN (val a) (val b)=k at *
  simp -implicitDefEqProofs[hn,h2,h3,c1,hc]
 have hab:=zme a b h2 h4
 subst hab
 have hk:cmpN (val a) (val a)=0:=ze2.2 rfl
 rw[hk]at c1
 by_cases h5:val d=val e
 case neg=>
  have hd:decide ((n,a,d)=(n,a,e))=false:=by
   have:d≠e:=fun h=>h5 (by rw[h])
   simp[this]
  have hc:¬ cmpN (val d) (val e)=0:=fun h=>h5 (ze2.1 h)
  rw[hd]
  generalize cmpN (val d) (val e)=k at *
  simp -implicitDefEqProofs[hn,h3,c1,c2,hc]
 have hde:=zme d e h3 h5
 subst hde
 have hk2:cmpN (val d) (val d)=0:=ze2.2 rfl
 rw[hk2]at c2
 have hd:decide ((n,a,d)=(n,a,d))=true:=by simp
 rw[hd]
 simp -implicitDefEqProofs[hn,c1,c2]
def stPw(a:List UInt32)(k i:Nat):St:=⟨[(0,.sl (u32s a) .an),(5,.sl (u32s (ofN (val a^i))) .an),(7,.i .i64 k),(8,.i .i64 i)],[],2⟩
theorem zic(a:List UInt32)(k:Nat)(hk:k≤8)(ha:a.length≤1100):callF T 219 [.sl (u32s a) .an,.i .i64 k]=some (.sl (u32s (ofN (val a^k))) .an):=by
 have h:loopN T 0 0 (.norm false [5]) l219_0 (stPw a k 0)=some (.n,⟨[(5,.sl (u32s (ofN (val a^k))) .an)],[],2⟩):=by
  refine za1 (stPw a k) k _ (fun i hi=>?_) ?_
  ·have hl:=zfh (L:=1100) (Nat.le_trans (zac a) ha) i
   have c:=zd3 (T:=T) (ofN (val a^i)) a (by omega) (by omega)
   rw[zaf,←Nat.pow_succ]at c
   have hw:=zct hi (by omega)
   unfold stPw
   generalize ofN (val a^i)=M at *
   generalize ofN (val a^(i+1))=M' at *
   simp -implicitDefEqProofs[l219_0,hi,hw,c]
  ·unfold stPw
   generalize ofN (val a^k)=M at *
   constructor<;>simp -implicitDefEqProofs[l219_0]
 have ho:=zfx (T:=T) 1 (by decide)
 unfold stPw at h
 rw[Nat.pow_zero]at h
 simp only[Int.natCast_zero]at h
 generalize ofN 1=O at *
 rw[f219 _ rfl,b219]
 generalize ofN (val a^k)=M at *
 simp -implicitDefEqProofs[ho,h]
def powR(q:Rat)(e:Int):Rat×Bool:=if -8≤e∧e≤8∧¬ (e<0∧q=0) then (powZ q e,true) else (0,false)
theorem z26(q:Rat)(t:Nat):fz (q^t)=(decide (q.num<0)&&decide (t%2=1)&&decide (q.num.natAbs^t≠0),ofN (q.num.natAbs^t),ofN (q.den^t)):=by
 have h:=zrp q.num t
 unfold fz
 rw[Rat.num_pow,Rat.den_pow,←h,zny,znz]
theorem zxy(q:Rat)(t:Nat)(hq:q≠0):fz (q^t)⁻¹=(decide (q.num<0)&&decide (t%2=1)&&decide (q.den^t≠0),ofN (q.den^t),ofN (q.num.natAbs^t)):=by
 have h:=zrp q.num t
 have hn:q.num≠0:=fun h=>hq (Rat.num_eq_zero.1 h)
 have hz:q.num^t≠0:=Int.pow_ne_zero hn
 have hd:q.den^t≠0:=Nat.pos_iff_ne_zero.1 (Nat.pow_pos q.den_pos)
 have ha:q.num.natAbs^t≠0:=Nat.pos_iff_ne_zero.1 (Nat.pow_pos (Int.natAbs_pos.2 hn))
 have e1:(q^t)⁻¹.num=(q.num^t).sign*((q.den^t:Nat):Int):=by rw[Rat.num_inv,Rat.num_pow,Rat.den_pow]
 have e2:(q^t)⁻¹.den=q.num.natAbs^t:=by rw[Rat.den_inv,Rat.num_pow,if_neg hz,Int.natAbs_pow]
 have e3:((q.num^t).sign*((q.den^t:Nat):Int)).natAbs=q.den^t:=by
  rw[Int.natAbs_mul,Int.natAbs_sign_of_ne_zero hz,Nat.one_mul,Int.natAbs_natCast]
 have e4:decide ((q.num^t).sign*((q.den^t:Nat):Int)<0)=decide (q.num^t<0):=by
  rw[decide_eq_decide]
  rcases Int.lt_trichotomy (q.num^t) 0 with h1 | h1 | h1
  ·rw[Int.sign_eq_neg_one_of_neg h1]
   constructor
   ·intro _;exact h1
   ·intro _;omega
  ·exact absurd h1 hz
  ·rw[Int.sign_eq_one_of_pos h1]
   constructor
   ·intro _;omega
   ·intro _;omega
 have e5:decide (q.num^t<0)=(decide (q.num<0)&&decide (t%2=1)):=by
  rw[←h,zny,decide_eq_true ha,Bool.and_true]
 unfold fz
 rw[e1,e2,e3,e4,e5,decide_eq_true hd,Bool.and_true]
theorem zi8(x:Fz)(e:Int)(hx:fsz x≤1000):callF T 220 [efz x,.i .i64 e]=some (.tup [efz (fz (powR (fv x) e).1),.b (powR (fv x) e).2]):=by
 have h0:=zf4 (T:=T)
 have hsg:=zrj (T:=T) x (by omega)
 have hn:=zbq (T:=T) x (by omega)
 have hs:=zbo (x:=x) (L:=1000) hx (by decide)
 have l1:=ze8 (fv x)
 have l2:=ze9 (fv x)
 unfold powR
 rw[f220 _ rfl,b220]
 by_cases h1:e < -8
 ·rw[if_neg (by omega)]
  generalize fz 0=Z at *
  simp -implicitDefEqProofs[h0,h1]
 by_cases h2:8<e
 ·rw[if_neg (by omega)]
  generalize fz 0=Z at *
  simp -implicitDefEqProofs[h0,h1,h2]
 obtain⟨q,hq⟩:∃q,q=fv x:=⟨_,rfl⟩
 rw[←hq]at hsg hn hs l1 l2 ⊢
 clear hq
 have e':fz q=(decide (q.num<0),ofN q.num.natAbs,ofN q.den):=rfl
 rw[e']at hn
 have hA:(ofN q.num.natAbs).length≤1100:=by omega
 have hD:(ofN q.den).length≤1100:=by omega
 have pA:∀k:Nat,k≤8→callF T 219 [.sl (u32s (ofN q.num.natAbs)) .an,.i .i64 k]=some (.sl (u32s (ofN (q.num.natAbs^k))) .an):=fun k hk=>by
  have:=zic (T:=T) (ofN q.num.natAbs) k hk hA
  rwa [zaf]at this
 have pD:∀k:Nat,k≤8→callF T 219 [.sl (u32s (ofN q.den)) .an,.i .i64 k]=some (.sl (u32s (ofN (q.den^k))) .an):=fun k hk=>by
  have:=zic (T:=T) (ofN q.den) k hk hD
  rwa [zaf]at this
 have lA:∀k:Nat,k≤8→(ofN (q.num.natAbs^k)).length≤1000000:=fun k hk=>by
  have:=zfh hA k
  have:k*1100≤8*1100:=Nat.mul_le_mul_right _ hk
  omega
 have lD:∀k:Nat,k≤8→(ofN (q.den^k)).length≤1000000:=fun k hk=>by
  have:=zfh hD k
  have:k*1100≤8*1100:=Nat.mul_le_mul_right _ hk
  omega
 have hodd:∀k:Nat,k≤8→(((k:Int).tmod 2) == 1)=decide (k%2=1):=fun k hk=>by
  have e:(k:Int).tmod 2=((k%2:Nat):Int):=by rw[show (2:Int)=((2:Nat):Int) from rfl,←Int.ofNat_tmod]
  rw[e,Bool.eq_iff_iff]
  simp
  omega
 by_cases h3:e<0
 case neg=>
  obtain⟨n,rfl⟩:∃n:Nat,e=n:=⟨e.toNat,by omega⟩
  have hn8:n≤8:=by omega
  rw[if_pos (by omega)]
  have hw:IntKind.wrap .i64 (-(n:Int))=-(n:Int):=zad _ (by omega)
  have cA:=pA n hn8
  have cD:=pD n hn8
  have ho:=hodd n hn8
  have hnorm:=zfp (T:=T) (decide (q.num<0)&&decide (n%2=1)) (ofN (q.num.natAbs^n)) (lA n hn8)
  rw[show wv (decide (q.num<0)&&decide (n%2=1)) (ofN (q.num.natAbs^n))=sg (decide (q.num<0)&&decide (n%2=1)) (q.num.natAbs^n) by unfold wv;rw[zaf],zvj]at hnorm
  have hf:=z26 q n
  have hz:powZ q (n:Int)=q^n:=Rat.zpow_natCast q n
  simp only[hz]
  rw[hf]
  clear hf hz pA pD lA lD hodd hsg e'
  have h4:¬ (8:Int)<n:=by omega
  have h5:¬ ((n:Int) < -(n:Int)):=by omega
  have h6:¬ (n:Int)<0:=by omega
  have h1':¬ (n:Int) < -8:=by omega
  generalize ofN (q.num.natAbs^n)=AP at *
  generalize ofN (q.den^n)=DP at *
  generalize decide (q.num.natAbs^n≠0)=NZ at *
  generalize ofN q.num.natAbs=A at *
  generalize ofN q.den=D at *
  generalize decide (q.num<0)=NG at *
  generalize decide (n%2=1)=OD at *
  cases NG with
  | false=>
   simp only[Bool.false_and]at hnorm ⊢
   simp -implicitDefEqProofs[h0,hn,h4,h5,h6,h1',hw,mm2,cA,cD,ho,hnorm]
  | true=>
   simp only[Bool.true_and]at hnorm ⊢
   cases OD with
   | false=>simp -implicitDefEqProofs[h0,hn,h4,h5,h6,h1',hw,mm2,cA,cD,ho,hnorm]
   | true=>simp -implicitDefEqProofs[h0,hn,h4,h5,h6,h1',hw,mm2,cA,cD,ho,hnorm]
 by_cases h7:q=0
 ·rw[if_neg (by intro h;exact h.2.2 ⟨h3,h7⟩)]
  have hs0:sgQ q=0:=zjm.2 h7
  rw[hs0]at hsg
  generalize fz 0=Z at *
  have h4:¬ (8:Int)<e:=by omega
  simp -implicitDefEqProofs[h0,h1,h4,h3,hsg]
 rw[if_pos (by refine⟨by omega,by omega,fun h=>h7 h.2⟩)]
 obtain⟨n,rfl⟩:∃n:Nat,e=-(n:Int):=⟨(-e).toNat,by omega⟩
 have hn8:n≤8:=by omega
 have hsz:¬ sgQ q=0:=fun h=>h7 (zjm.1 h)
 have hw:IntKind.wrap .i64 (n:Int)=(n:Int):=zad _ (by omega)
 have cA:=pA n hn8
 have cD:=pD n hn8
 have ho:=hodd n hn8
 have hnorm:=zfp (T:=T) (decide (q.num<0)&&decide (n%2=1)) (ofN (q.den^n)) (lD n hn8)
 rw[show wv (decide (q.num<0)&&decide (n%2=1)) (ofN (q.den^n))=sg (decide (q.num<0)&&decide (n%2=1)) (q.den^n) by unfold wv;rw[zaf],zvj]at hnorm
 have hf:=zxy q n h7
 have hz:powZ q (-(n:Int))=(q^n)⁻¹:=by unfold powZ;rw[Rat.zpow_neg,Rat.zpow_natCast]
 simp only[hz]
 rw[hf]
 clear hf hz pA pD lA lD hodd e'
 have h4:¬ (8:Int) < -(n:Int):=by omega
 have h5:(-(n:Int)<(n:Int)):=by omega
 have h1':¬ -(n:Int) < -8:=by omega
 have h6:(n:Int)≠0:=by omega
 have h6':0<(n:Int):=by omega
 have h6'':0<n:=by omega
 have h1'':¬ 8<n:=by omega
 generalize ofN (q.num.natAbs^n)=AP at *
 generalize ofN (q.den^n)=DP at *
 generalize decide (q.den^n≠0)=NZ at *
 generalize ofN q.num.natAbs=A at *
 generalize ofN q.den=D at *
 generalize decide (q.num<0)=NG at *
 generalize decide (n%2=1)=OD at *
 generalize sgQ q=SG at *
 cases NG with
 | false=>
  simp only[Bool.false_and]at hnorm ⊢
  simp -implicitDefEqProofs[h0,hn,h3,h4,h5,h6,h6',h6'',h1',h1'',hw,mm2,cA,cD,ho,hnorm,hsg,hsz]
 | true=>
  simp only[Bool.true_and]at hnorm ⊢
  cases OD with
  | false=>simp -implicitDefEqProofs[h0,hn,h3,h4,h5,h6,h6',h6'',h1',h1'',hw,mm2,cA,cD,ho,hnorm,hsg,hsz]
  | true=>simp -implicitDefEqProofs[h0,hn,h3,h4,h5,h6,h6',h6'',h1',h1'',hw,mm2,cA,cD,ho,hnorm,hsg,hsz]
end
@[simp] theorem zym(l:List Int):(ints l).length=l.length:=by simp[ints]
@[simp] theorem zabm(l:List Int):wkL (ints l)=ints l:=by rw[zcq];simp[ints,wkR,wkA]
@[simp] theorem z6v(l:List Int)(i:Nat)(h:i<(ints l).length):(ints l)[i]=[.i .i64 (l[i]'(by simpa using h))]:=by simp[ints]
@[simp] theorem z3s(l:List Int)(n:Nat):(ints l).take n=ints (l.take n):=by simp[ints]
@[simp] theorem z6w:ints []=[]:=rfl
section
variable{T:Tbl}[CLimb T][CNat T][CProd T][CTwos T][CQuot T][CQuotD T][CWhole T][CCommon T][CFrac T][CFrac3 T][CTape T]
theorem zcb(i m:Int):callF T 435 [.i .i64 i,.i .i64 m]=some (.b (belowB i m)):=by
 rw[f435 _ rfl,b435]
 unfold belowB
 by_cases h:0≤i
 ·by_cases h2:i<m<;>simp -implicitDefEqProofs[h,h2]
 ·simp -implicitDefEqProofs[h]
theorem zyn(i:Ins):callF T 437 [.agg (celI i)]=some (.agg [.i .i64 i.op,.i .i64 i.a,.i .i64 i.b]):=by
 rw[f437 _ rfl,b437]
 simp -implicitDefEqProofs
theorem zpe(x:Fz)(hx:fsz x≤10000):callF T 438 [efz x]=some (.b (blankF x)):=by
 obtain⟨n,a,d⟩:=x
 rw[f438 _ rfl,b438]
 unfold blankF
 cases n with
 | true=>simp -implicitDefEqProofs
 | false=>
  by_cases h:a=[]
  ·subst h
   by_cases h2:d=[]
   ·subst h2
    simp -implicitDefEqProofs
   ·have e2:d.isEmpty=false:=by cases d<;>simp_all
    simp -implicitDefEqProofs[h2,e2]
  ·have e2:a.isEmpty=false:=by cases a<;>simp_all
   simp -implicitDefEqProofs[h,e2]
theorem zpf(i:Ins):callF T 439 [.agg (celI i)]=some (.sl (ints (readsI i)) .an):=by
 obtain⟨op,a,b,n⟩:=i
 rw[f439 _ rfl,b439]
 unfold readsI
 simp only
 by_cases h6:op=6
 ·subst h6
  simp -implicitDefEqProofs[ints]
 by_cases h11:op=11
 ·subst h11
  simp -implicitDefEqProofs[ints]
 rw[if_neg (by omega)]
 by_cases h7:op=7
 ·subst h7
  simp -implicitDefEqProofs[ints]
 by_cases h8:op=8
 ·subst h8
  simp -implicitDefEqProofs[ints]
 by_cases h9:op=9
 ·subst h9
  simp -implicitDefEqProofs[ints]
 by_cases h10:op=10
 ·subst h10
  simp -implicitDefEqProofs[ints]
 rw[if_neg (by omega)]
 simp -implicitDefEqProofs[h6,h7,h8,h9,h10,h11]
theorem zsv(i:Ins):(readsI i).length≤2:=by
 unfold readsI
 split
 ·simp
 ·split<;>simp
def stMy(t:Tp)(p:Nat)(x:Ins)(i:Nat):St:=
 ⟨[(1,.i .i64 p),(2,.ptr (.loc 2) 1 4 0 0),(5,.ptr (.loc 5) 2 6 0 0),(30,.sl (ints (readsI x)) .an),(31,.i .i64 (readsI x).length),(32,.i .i64 i)],
  [(.loc 2,⟨1,.str,4,[[.sl (rowI t.code) .an,.sl (ints t.outs) .an,.i .i64 t.dim,.i .i64 t.par]]⟩),(.loc 5,⟨2,.str,6,[celI x]⟩)],4⟩
theorem zva(t:Tp)(p:Nat)(x:Ins):loopN T 0 0 (.norm false [2,5]) l434_0 (stMy t p x 0) =
  if ((readsI x).all fun r=>belowB r p)=true then some (.n,⟨[(2,.ptr (.loc 2) 1 4 0 0),(5,.ptr (.loc 5) 2 6 0 0)],
   [(.loc 2,⟨1,.str,4,[[.sl (rowI t.code) .an,.sl (ints t.outs) .an,.i .i64 t.dim,.i .i64 t.par]]⟩),(.loc 5,⟨2,.str,6,[celI x]⟩)],4⟩)
  else some (.r,⟨[(4,.b false)],[],2⟩):=by
 have hlen:=zsv x
 refine zbr (stMy t p x) (readsI x).length (fun i=>if (((readsI x).drop i).all fun r=>belowB r p)=true then some (.n,_) else some (.r,_)) (fun i hi=>?_) ?_
 ·have hg:(readsI x)[i]? = some ((readsI x)[i]'hi):=List.getElem?_eq_getElem hi
  have hws:=zct hi (by omega)
  have hd:(readsI x).drop i=(readsI x)[i]'hi::(readsI x).drop (i+1):=List.drop_eq_getElem_cons hi
  have cb:=zcb (T:=T) ((readsI x)[i]'hi) p
  have hi':(i:Int)<(readsI x).length:=by omega
  by_cases hb:belowB ((readsI x)[i]'hi) p=true
  ·left
   rw[hb]at cb
   refine⟨?_,by rw[hd];simp only[List.all_cons,hb,Bool.true_and]⟩
   unfold stMy
   generalize readsI x=R at *
   simp -implicitDefEqProofs[l434_0,hi,hi',hg,hws,cb]
  ·right
   have hb':belowB ((readsI x)[i]'hi) p=false:=by simpa using hb
   rw[hb']at cb
   have hall:(((readsI x).drop i).all fun r=>belowB r p)=false:=by rw[hd,List.all_cons,hb'];rfl
   simp only[hall,Bool.false_eq_true,if_false]
   unfold stMy
   clear hall hd
   generalize readsI x=R at *
   constructor<;>simp -implicitDefEqProofs[l434_0,hi,hi',hg,cb]
 ·simp only[List.drop_length,List.all_nil,if_true]
  unfold stMy
  generalize readsI x=R at *
  constructor<;>simp -implicitDefEqProofs[l434_0]
theorem zvb(t:Tp)(p:Nat)(x:Ins)(hx:t.code[p]? = some x)(hf:fsz x.n≤10000)(hl:t.code.length≤4294967296):callF T 434 [etp t,.i .i64 p]=some (.b (mayI t.dim t.par p x)):=by
 have hp:=zar hx
 have hp2:(p:Int)<t.code.length:=by omega
 have ho:=zyn (T:=T) x
 have hbl:=zpe (T:=T) x.n hf
 have hrd:=zpf (T:=T) x
 have hlo:=zva (T:=T) t p x
 have hrt:=zou (T:=T) x.n hf
 unfold mayI
 unfold stMy at hlo
 simp only[Int.natCast_zero]at hlo
 have cy:=zcb (T:=T) x.a t.dim
 have cp:=zcb (T:=T) x.a t.par
 have hr2:(((readsI x).length:Int) == 2)=decide ((readsI x).length=2):=by
  rw[Bool.eq_iff_iff]
  simp
  omega
 rw[f434 _ rfl,b434]
 generalize readsI x=R at *
 generalize rightF x.n=RT at *
 generalize blankF x.n=BL at *
 generalize belowB x.a t.dim=B1 at *
 generalize belowB x.a t.par=B2 at *
 generalize (R.all fun r=>belowB r p)=AL at *
 obtain⟨code,outs,dim,par⟩:=t
 obtain⟨op,a,b,n⟩:=x
 dsimp only at hx hp hp2 ho hbl hrd hlo hrt cy cp ⊢
 have hxe:=(List.getElem?_eq_some_iff.1 hx).2
 clear hf hl
 by_cases h1:op=1
 ·subst h1
  by_cases ha:a=0
  ·subst ha
   by_cases hb:b=0
   ·subst hb
    simp -implicitDefEqProofs[hp,hp2,hx,hxe,ho,hrt]
   ·simp -implicitDefEqProofs[hp,hp2,hx,hxe,ho,hrt,hb]
  ·simp -implicitDefEqProofs[hp,hp2,hx,hxe,ho,hrt,ha]
 rw[if_neg h1]
 cases BL with
 | false=>simp -implicitDefEqProofs[hp,hp2,hx,hxe,h1,hbl]
 | true=>
 cases AL with
 | false=>
  simp only[Bool.false_eq_true,if_false]at hlo
  simp -implicitDefEqProofs[hp,hp2,hx,hxe,h1,hbl,hrd,hlo]
 | true=>
 simp only[if_true]at hlo
 by_cases h2:op=2
 ·subst h2
  by_cases ha:a=0
  ·subst ha
   by_cases hb:b=0
   ·subst hb
    simp -implicitDefEqProofs[hp,hp2,hx,hxe,ho,hbl,hrd,hlo]
   ·simp -implicitDefEqProofs[hp,hp2,hx,hxe,ho,hbl,hrd,hlo,hb]
  ·simp -implicitDefEqProofs[hp,hp2,hx,hxe,ho,hbl,hrd,hlo,ha]
 by_cases h3:op=3
 ·subst h3
  cases B1 with
  | false=>simp -implicitDefEqProofs[hp,hp2,hx,hxe,hbl,hrd,hlo,cy]
  | true=>
   by_cases hb:b=0
   ·subst hb
    simp -implicitDefEqProofs[hp,hp2,hx,hxe,hbl,hrd,hlo,cy]
   ·simp -implicitDefEqProofs[hp,hp2,hx,hxe,hbl,hrd,hlo,cy,hb]
 by_cases h4:op=4
 ·subst h4
  cases B2 with
  | false=>simp -implicitDefEqProofs[hp,hp2,hx,hxe,hbl,hrd,hlo,cp]
  | true=>
   by_cases hb:b=0
   ·subst hb
    simp -implicitDefEqProofs[hp,hp2,hx,hxe,hbl,hrd,hlo,cp]
   ·simp -implicitDefEqProofs[hp,hp2,hx,hxe,hbl,hrd,hlo,cp,hb]
 by_cases h6:op=6
 ·subst h6
  by_cases hb:b=0
  ·subst hb
   simp -implicitDefEqProofs[hp,hp2,hx,hxe,hbl,hrd,hlo]
  ·simp -implicitDefEqProofs[hp,hp2,hx,hxe,hbl,hrd,hlo,hb]
 by_cases h11:op=11
 ·subst h11
  by_cases hb:-8≤b
  ·by_cases hb2:b≤8
   ·simp -implicitDefEqProofs[hp,hp2,hx,hxe,hbl,hrd,hlo,hb,hb2]
   ·simp -implicitDefEqProofs[hp,hp2,hx,hxe,hbl,hrd,hlo,hb,hb2]
  ·simp -implicitDefEqProofs[hp,hp2,hx,hxe,hbl,hrd,hlo,hb]
 simp -implicitDefEqProofs[hp,hp2,hx,hxe,h1,h2,h3,h4,h6,h11,hbl,hrd,hlo,hr2]
end
section
variable{T:Tbl}[CLimb T][CNat T][CProd T][CTwos T][CQuot T][CQuotD T][CWhole T][CCommon T][CFrac T][CFrac3 T][CTape T]
structure Small (t:Tp):Prop where
 code:t.code.length≤4294967296
 outs:t.outs.length≤4294967296
 ns:∀i∈t.code,fsz i.n≤10000
 d1:-9223372036854775808≤t.dim
 d2:t.dim<9223372036854775808
theorem zpg(t:Tp)(hs:Small t):callF T 433 [etp t]=some (.b (wholeT t)):=by
 obtain⟨h1,h2,_,d1,d2⟩:=hs
 have c0:callF T 435 [.i .i64 (IntKind.wrap .i64 (t.dim-1)),.i .i64 6]=some (.b (belowB (t.dim-1) 6)):=by
  rw[zcb]
  congr 2
  by_cases hm:t.dim=-9223372036854775808
  ·rw[hm]
   decide
  ·rw[zad _ (by omega)]
 have c1:=zcb (T:=T) t.par 7
 unfold wholeT
 obtain⟨code,outs,dim,par⟩:=t
 dsimp only at *
 have e1:((outs.length:Int) == dim)=decide ((outs.length:Int)=dim):=rfl
 rw[f433 _ rfl,b433]
 generalize belowB (dim-1) 6=B1 at *
 generalize belowB par 7=B2 at *
 cases B1 with
 | false=>simp -implicitDefEqProofs[c0]
 | true=>
 cases B2 with
 | false=>simp -implicitDefEqProofs[c0,c1]
 | true=>
 by_cases ho:(outs.length:Int)=dim
 ·by_cases hc:code.length≤300
  ·have hc':(code.length:Int)≤300:=by omega
   simp -implicitDefEqProofs[c0,c1,ho,hc,hc']
  ·have hc':300<(code.length:Int):=by omega
   simp -implicitDefEqProofs[c0,c1,ho,hc,hc']
 ·simp -implicitDefEqProofs[c0,c1,ho]
def bxT(t:Tp):Box:=⟨1,.str,4,[[.sl (rowI t.code) .an,.sl (ints t.outs) .an,.i .i64 t.dim,.i .i64 t.par]]⟩
def stW1(t:Tp)(i:Nat):St:=⟨[(1,.ptr (.loc 1) 1 4 0 0),(11,.i .i64 t.code.length),(12,.i .i64 i)],[(.loc 1,bxT t)],3⟩
theorem zmm(t:Tp)(hs:Small t):loopN T 0 0 (.norm false [1]) l430_0 (stW1 t 0) =
  if firstI t.dim t.par 0 t.code=-1 then some (.n,⟨[(1,.ptr (.loc 1) 1 4 0 0)],[(.loc 1,bxT t)],3⟩) else some (.r,⟨[(2,.i .i64 (firstI t.dim t.par 0 t.code))],[],2⟩):=by
 have hc:=hs.code
 have e0:t.code.drop 0=t.code:=rfl
 rw[←e0]
 refine zbr (stW1 t) t.code.length (fun i=>if firstI t.dim t.par i (t.code.drop i)=-1 then some (.n,_) else some (.r,⟨[(2,.i .i64 (firstI t.dim t.par i (t.code.drop i)))],[],2⟩)) (fun i hi=>?_) ?_
 ·have hg:t.code[i]? = some (t.code[i]'hi):=List.getElem?_eq_getElem hi
  have hws:=zct hi (by omega)
  have hd:t.code.drop i=t.code[i]'hi::t.code.drop (i+1):=List.drop_eq_getElem_cons hi
  have cm:=zvb (T:=T) t i _ hg (hs.ns _ (List.getElem_mem hi)) hc
  have hi':(i:Int)<t.code.length:=by omega
  have hf:firstI t.dim t.par i (t.code.drop i)=if mayI t.dim t.par i (t.code[i]'hi) then firstI t.dim t.par (i+1) (t.code.drop (i+1)) else i:=by rw[hd];rfl
  by_cases hb:mayI t.dim t.par i (t.code[i]'hi)=true
  ·left
   rw[hb]at cm
   rw[if_pos hb]at hf
   refine⟨?_,by simp only[hf]⟩
   unfold stW1 bxT
   clear hf hd
   simp -implicitDefEqProofs[l430_0,hi,hi',hws,cm]
  ·right
   have hb':mayI t.dim t.par i (t.code[i]'hi)=false:=by simpa using hb
   rw[hb']at cm
   rw[if_neg hb]at hf
   have hne:¬ (i:Int)=-1:=by omega
   simp only[hf,if_neg hne]
   unfold stW1 bxT
   clear hf hd
   constructor<;>simp -implicitDefEqProofs[l430_0,hi,hi',cm]
 ·have hf:firstI t.dim t.par t.code.length (t.code.drop t.code.length)=-1:=by rw[List.drop_length];rfl
  simp only[hf,if_true]
  unfold stW1 bxT
  constructor<;>simp -implicitDefEqProofs[l430_0]
def stW2(t:Tp)(i:Nat):St:=⟨[(1,.ptr (.loc 1) 1 4 0 0),(22,.sl (ints t.outs) .an),(23,.i .i64 t.outs.length),(24,.i .i64 i)],[(.loc 1,bxT t)],3⟩
theorem zmn(t:Tp)(hs:Small t):loopN T 0 2 (.norm false []) l430_1 (stW2 t 0) =
  if (t.outs.all fun o=>belowB o t.code.length)=true then some (.n,⟨[],[],2⟩) else some (.r,⟨[(2,.i .i64 t.code.length)],[],2⟩):=by
 have hc:=hs.outs
 refine zbr (stW2 t) t.outs.length (fun i=>if ((t.outs.drop i).all fun o=>belowB o t.code.length)=true then some (.n,_) else some (.r,_)) (fun i hi=>?_) ?_
 ·have hg:t.outs[i]? = some (t.outs[i]'hi):=List.getElem?_eq_getElem hi
  have hws:=zct hi (by omega)
  have hd:t.outs.drop i=t.outs[i]'hi::t.outs.drop (i+1):=List.drop_eq_getElem_cons hi
  have cm:=zcb (T:=T) (t.outs[i]'hi) t.code.length
  have hi':(i:Int)<t.outs.length:=by omega
  by_cases hb:belowB (t.outs[i]'hi) t.code.length=true
  ·left
   rw[hb]at cm
   refine⟨?_,by rw[hd];simp only[List.all_cons,hb,Bool.true_and]⟩
   unfold stW2 bxT
   clear hd
   simp -implicitDefEqProofs[l430_1,hi,hi',hg,hws,cm]
  ·right
   have hb':belowB (t.outs[i]'hi) t.code.length=false:=by simpa using hb
   rw[hb']at cm
   have hall:((t.outs.drop i).all fun o=>belowB o t.code.length)=false:=by rw[hd,List.all_cons,hb'];rfl
   simp only[hall,Bool.false_eq_true,if_false]
   unfold stW2 bxT
   clear hall hd
   constructor<;>simp -implicitDefEqProofs[l430_1,hi,hi',hg,cm]
 ·simp only[List.drop_length,List.all_nil,if_true]
  unfold stW2 bxT
  constructor<;>simp -implicitDefEqProofs[l430_1]
theorem zph(t:Tp)(hs:Small t):callF T 430 [etp t]=some (.i .i64 (wrongT t)):=by
 have cw:=zpg (T:=T) t hs
 have h1:=zmm (T:=T) t hs
 have h2:=zmn (T:=T) t hs
 unfold wrongT
 unfold stW1 bxT at h1
 unfold stW2 bxT at h2
 simp only[Int.natCast_zero]at h1 h2
 generalize hfi:firstI t.dim t.par 0 t.code=F at *
 generalize hal:(t.outs.all fun o=>belowB o t.code.length)=AL at *
 generalize hwt:wholeT t=W at *
 obtain⟨code,outs,dim,par⟩:=t
 dsimp only at *
 rw[f430 _ rfl,b430]
 cases W with
 | false=>simp -implicitDefEqProofs[cw]
 | true=>
 by_cases hf:F=-1
 ·subst hf
  cases AL with
  | false=>
   simp only[Bool.false_eq_true,if_false]at h2
   simp -implicitDefEqProofs[cw,h1,h2]
  | true=>
   simp only[if_true]at h1 h2
   simp -implicitDefEqProofs[cw,h1,h2]
 ·rw[if_neg hf]at h1
  simp -implicitDefEqProofs[cw,h1,hf]
theorem zbs(t:Tp)(hs:Small t):callF T 421 [etp t]=some (.b (okT t)):=by
 have cw:=zph (T:=T) t hs
 have e:(wrongT t == -1)=okT t:=rfl
 rw[f421 _ rfl,b421,←e]
 generalize wrongT t=W at *
 obtain⟨code,outs,dim,par⟩:=t
 simp -implicitDefEqProofs[cw]
end
def limI(n:Int):Int:=if n<0 then 0 else if 4096<n then 4096 else n
abbrev bxG(g:Nat)(s p L:Int):Box:=⟨g,.str,3,[[.i .i64 s,.i .i64 p,.i .i64 L]]⟩
def cntS(s:Int):Int:=IntKind.wrap .i64 (s+1)
def cntP(p:Int)(x:Fz):Int:=if p<(sizF x:Int) then (sizF x:Int) else p
section
variable{T:Tbl}[CLimb T][CNat T][CProd T][CTwos T][CQuot T][CQuotD T][CWhole T][CCommon T][CFrac T][CFrac3 T][CFrac5 T][CPow T][CTape T][CGauge T][CEval T]
theorem zov(x:Fz)(hx:fsz x≤10000):callF T 223 [efz x]=some (.i .i64 (sizF x)):=by
 have h1:=zd6 x
 have h2:=zeo x
 have c1:=znp (T:=T) x.2.1 (by omega)
 have c2:=znp (T:=T) x.2.2 (by omega)
 have b1:=zns (x:=val x.2.1) (k:=10000) (Nat.le_trans (zac x.2.1) (by omega))
 have b2:=zns (x:=val x.2.2) (k:=10000) (Nat.le_trans (zac x.2.2) (by omega))
 have w:IntKind.wrap .i64 ((blen (val x.2.1):Int)+(blen (val x.2.2):Int))=((sizF x:Nat):Int):=by
  have e:((sizF x:Nat):Int)=(blen (val x.2.1):Int)+(blen (val x.2.2):Int):=by unfold sizF;omega
  rw[e]
  exact zad _ (by omega)
 rw[f223 _ rfl,b223]
 generalize sizF x=S at *
 generalize blen (val x.2.1)=B1 at *
 generalize blen (val x.2.2)=B2 at *
 simp -implicitDefEqProofs[c1,c2,w]
theorem zkv(n:Int):callH T 406 [.i .i64 n] []=some (.ptr (.loc 7) 1 3 0 0,[(.loc 7,bxG 1 0 0 (limI n))]):=by
 unfold limI
 rw[f406 _ _ rfl,b406]
 by_cases h1:n<0
 ·simp -implicitDefEqProofs[h1,mm2]
 ·by_cases h2:4096<n
  ·simp -implicitDefEqProofs[h1,h2,mm2]
  ·simp -implicitDefEqProofs[h1,h2,mm2]
theorem zow(s p L k:Int):callH T 426 [.ptr (.bor 0) 0 3 0 0,.i .i64 k] [(.bor 0,bxG 0 s p L)]=some (.tup [],[(.bor 0,bxG 0 (cntS s) (if p<k then k else p) L)]):=by
 unfold cntS
 rw[f426 _ _ rfl,b426]
 by_cases h1:p<k
 ·simp -implicitDefEqProofs[h1,mm2]
 ·simp -implicitDefEqProofs[h1,mm2]
theorem zfi(s p L:Int)(x:Fz)(hx:fsz x≤10000):callH T 411 [.ptr (.bor 0) 0 3 0 0,efz x] [(.bor 0,bxG 0 s p L)]=some (.b (decide ((sizF x:Int)≤L)),[(.bor 0,bxG 0 (cntS s) (cntP p x) L)]):=by
 have h1:=zov (T:=T) x hx
 have h2:=zow (T:=T) s p L (sizF x)
 unfold cntP
 rw[f411 _ _ rfl,b411]
 generalize cntS s=s' at *
 generalize (if p<(sizF x:Int) then (sizF x:Int) else p)=p' at *
 generalize (sizF x:Int)=z at *
 simp -implicitDefEqProofs[h1,h2]
def stEn(l:List Fz)(i:Nat):St:=⟨[(3,.bs (.loc 3) 1 3 0 i),(6,.sl (rowF l) .an),(7,.i .i64 l.length),(8,.i .i64 i)],[(.loc 3,⟨1,.own,3,rowF (nrm (l.take i))⟩)],3⟩
theorem zid(l:List Fz)(hl:l.length≤1000)(hw:∀x∈l,fsz x≤1000):callF T 420 [.sl (rowF l) .an]=some (.sl (rowF (nrm l)) .an):=by
 have h:loopN T 0 0 (.norm false [3]) l420_0 (stEn l 0)=some (.n,⟨[(3,.bs (.loc 3) 1 3 0 l.length)],[(.loc 3,⟨1,.own,3,rowF (nrm l)⟩)],3⟩):=by
  refine za1 (stEn l) l.length _ (fun i hi=>?_) ?_
  ·have hg:l[i]? = some (l[i]'hi):=List.getElem?_eq_getElem hi
   have hws:=zct hi (by omega)
   have hn:=zbq (T:=T) (l[i]'hi) (Nat.le_trans (hw _ (List.getElem_mem hi)) (by decide))
   have e:nrm (l.take (i+1))=nrm (l.take i)++[fz (fv (l[i]'hi))]:=zb8 l _ hi
   have hp:=zcj (m:=nrm (l.take i)) (n:=i) (by simp[nrm];omega) (fz (fv (l[i]'hi)))
   have hml:(nrm (l.take i)).length=i:=by simp[nrm];omega
   unfold stEn
   rw[e]
   clear e
   generalize nrm (l.take i)=M at *
   generalize fz (fv (l[i]'hi))=z at *
   have hb:i≤4294967295:=by omega
   simp -implicitDefEqProofs[l420_0,hi,hg,hws,hn,hp,hml,hb]
  ·unfold stEn
   rw[List.take_of_length_le (Nat.le_refl _)]
   generalize nrm l=M
   constructor<;>simp -implicitDefEqProofs[l420_0]
 unfold stEn at h
 simp[nrm]at h
 have ht:List.take l.length (List.map (fun x=>fz (fv x)) l)=List.map (fun x=>fz (fv x)) l:=List.take_of_length_le (by simp)
 rw[f420 _ rfl,b420]
 simp -implicitDefEqProofs[h,nrm,ht]
structure PoS (x:PoF) (B:Nat):Prop where
 t:fsz x.t≤B
 y:∀u∈x.y,fsz u≤B
 p:∀u∈x.p,fsz u≤B
 yl:x.y.length≤1000
 pl:x.p.length≤1000
theorem zxz(x:PoF):x.v.f=⟨fz (fv x.t),nrm x.y,nrm x.p⟩:=by
 unfold PoF.v Po.f
 rw[zmk,zmk]
theorem zg4(x:PoF)(h:PoS x 1000):callF T 405 [ept x]=some (ept x.v.f):=by
 have h1:=zbq (T:=T) x.t (Nat.le_trans h.t (by decide))
 have h2:=zid (T:=T) x.y h.yl h.y
 have h3:=zid (T:=T) x.p h.pl h.p
 rw[zxz]
 obtain⟨t,y,p⟩:=x
 dsimp only at *
 rw[f405 _ rfl,b405]
 generalize fz (fv t)=t' at *
 generalize nrm y=y' at *
 generalize nrm p=p' at *
 simp -implicitDefEqProofs[h1,h2,h3]
end
def longT(t:Tp)(many words:Nat):Bool:=((t.code.take many).any fun i=>decide (words<fsz i.n)) || decide (many<t.code.length) || decide (many<t.outs.length)
theorem zg6{t:Tp}{many words:Nat}(h:longT t many words=false):t.code.length≤many∧t.outs.length≤many∧∀i∈t.code,fsz i.n≤words:=by
 unfold longT at h
 simp only[Bool.or_eq_false_iff,decide_eq_false_iff_not,List.any_eq_false,decide_eq_true_eq]at h
 obtain⟨⟨h1,h2⟩,h3⟩:=h
 rw[List.take_of_length_le (by omega)]at h1
 exact⟨by omega,by omega,fun x hx=>by have:=h1 x hx;omega⟩
def longP(x:PoF)(many words:Nat):Bool:=decide (words<fsz x.t) || longB x.y many words || longB x.p many words
theorem zej{x:PoF}{many words:Nat}(h:longP x many words=false)(hm:many≤1000):PoS x words:=by
 unfold longP at h
 simp only[Bool.or_eq_false_iff,decide_eq_false_iff_not]at h
 obtain⟨⟨h1,h2⟩,h3⟩:=h
 obtain⟨a1,a2⟩:=zhc h2
 obtain⟨b1,b2⟩:=zhc h3
 exact⟨by omega,a2,b2,by omega,by omega⟩
section
variable{T:Tbl}[CRef02 T][CRef04 T][CRef05 T][CRef07 T][CRef06 T][CRef08 T][CRef09 T][CRef11 T][CLaw09 T][CLaw11 T][CLaw24 T]
def stLT(t:Tp)(many words i:Nat):St:=⟨[(1,.i .i64 many),(2,.i .i64 words),(3,.ptr (.loc 3) 1 4 0 0),(7,.i .i64 i)],[(.loc 3,bxT t)],3⟩
def enLT(t:Tp)(many:Nat):Ex×St:=(.n,⟨[(1,.i .i64 many),(3,.ptr (.loc 3) 1 4 0 0)],[(.loc 3,bxT t)],3⟩)
theorem zoy(t:Tp)(many words:Nat)(hm:many≤1000) :
  loopN T 0 0 (.norm false [1,3]) l379_0 (stLT t many words 0)=if (t.code.take many).any (fun i=>decide (words<fsz i.n))=true then some (.r,⟨[(6,.b true)],[],2⟩) else some (enLT t many):=by
 have e0:t.code.take many=(t.code.take many).drop 0:=rfl
 rw[e0]
 obtain⟨n,hn⟩:∃n,n=(t.code.take many).length:=⟨_,rfl⟩
 have hn':n≤many∧n≤t.code.length∧(n=many∨n=t.code.length):=by rw[hn,List.length_take];omega
 refine zbr (stLT t many words) n (fun i=>if ((t.code.take many).drop i).any (fun x=>decide (words<fsz x.n))=true then some (.r,⟨[(6,.b true)],[],2⟩) else some (enLT t many)) (fun i hi=>?_) ?_
 ·have h1:i<t.code.length:=by omega
  have h2:(i:Int)<t.code.length:=by omega
  have h3:i<many:=by omega
  have h4:(i:Int)<many:=by omega
  have hg:t.code[i]? = some (t.code[i]'h1):=List.getElem?_eq_getElem h1
  have hws2:=zct h3 (by omega)
  have c:=zc2 (T:=T) (t.code[i]'h1).n words
  have key:((t.code.take many).drop i).any (fun x=>decide (words<fsz x.n))=(decide (words<fsz (t.code[i]'h1).n) || ((t.code.take many).drop (i+1)).any fun x=>decide (words<fsz x.n)):=by
   rw[List.drop_eq_getElem_cons (by rw[←hn];exact hi),List.any_cons,List.getElem_take]
  by_cases he:words<fsz (t.code[i]'h1).n
  ·right
   rw[if_pos (by rw[key,decide_eq_true he,Bool.true_or])]
   rw[decide_eq_true he]at c
   unfold stLT bxT
   clear key he hn hn'
   constructor<;>simp -implicitDefEqProofs[l379_0,h1,h2,h3,h4,hg,c]
  ·left
   refine⟨?_,by simp only[key,decide_eq_false he,Bool.false_or]⟩
   rw[decide_eq_false he]at c
   unfold stLT bxT
   clear key he hn hn'
   simp -implicitDefEqProofs[l379_0,h1,h2,h3,h4,hg,hws2,c]
 ·rw[List.drop_of_length_le (by omega),if_neg (by simp)]
  unfold stLT enLT bxT
  by_cases hc:n<t.code.length
  ·have h5:n=many:=by omega
   have h6:(n:Int)<t.code.length:=by omega
   subst h5
   constructor<;>simp -implicitDefEqProofs[l379_0,hc,h6]
  ·have h5:¬ (n:Int)<t.code.length:=by omega
   constructor<;>simp -implicitDefEqProofs[l379_0,hc,h5]
theorem zoz(t:Tp)(many words:Nat)(hm:many≤1000):callF T 379 [etp t,.i .i64 many,.i .i64 words]=some (.b (longT t many words)):=by
 have h:=zoy (T:=T) t many words hm
 unfold stLT enLT bxT at h
 simp only[Int.natCast_zero]at h
 unfold longT
 generalize ((t.code.take many).any fun i=>decide (words<fsz i.n))=B at *
 obtain⟨code,outs,dim,par⟩:=t
 dsimp only at *
 rw[f379 _ rfl,b379]
 cases B with
 | true=>
  rw[if_pos rfl]at h
  simp -implicitDefEqProofs[h]
 | false=>
  rw[if_neg (by decide)]at h
  by_cases h1:many<code.length
  ·have h2:(many:Int)<code.length:=by omega
   simp -implicitDefEqProofs[h,h1,h2]
  ·have h2:¬ (many:Int)<code.length:=by omega
   have e:decide ((many:Int)<outs.length)=decide (many<outs.length):=by
    by_cases h3:many<outs.length
    ·rw[decide_eq_true h3,decide_eq_true (by omega)]
    ·rw[decide_eq_false h3,decide_eq_false (by omega)]
   simp -implicitDefEqProofs[h,h1,h2,e]
theorem zfj(x:PoF)(many words:Nat)(hm:many≤1000):callF T 380 [ept x,.i .i64 many,.i .i64 words]=some (.b (longP x many words)):=by
 have c1:=zc2 (T:=T) x.t words
 have c2:=zhb (T:=T) x.y many words hm
 have c3:=zhb (T:=T) x.p many words hm
 unfold longP
 generalize decide (words<fsz x.t)=B1 at *
 generalize longB x.y many words=B2 at *
 generalize longB x.p many words=B3 at *
 obtain⟨⟨n,a,d⟩,y,p⟩:=x
 dsimp only at *
 rw[f380 _ rfl,b380]
 cases B1<;>cases B2<;>simp -implicitDefEqProofs[c1,c2,c3]
theorem zja(x:PoF)(hy:x.y.length≤1000)(hp:x.p.length≤1000):callF T 383 [ept x]=some (ept x):=by
 have c1:=zf6 (T:=T) x.t
 have c2:=znm (T:=T) x.y (by omega)
 have c3:=znm (T:=T) x.p (by omega)
 obtain⟨⟨n,a,d⟩,y,p⟩:=x
 dsimp only at *
 rw[f383 _ rfl,b383]
 simp -implicitDefEqProofs[c1,c2,c3]
@[simp] theorem zabi(l:List Int):Option.all (fun r=>decide (r.length=1)) (ints l).head? = true:=by cases l<;>rfl
def fC:BId:=.fld (.loc 3) 0
def stTT(t:Tp)(i:Nat):St:=⟨[(1,.ptr (.loc 1) 1 4 0 0),(2,.ptr (.loc 2) 2 4 0 0),(3,.ptr (.loc 3) 3 4 0 0),(4,.i .i64 i)],
 [(.loc 1,bxT t),(.loc 2,⟨2,.str,4,[[.sl [] .an,.sl [] .an,.i .i64 0,.i .i64 0]]⟩),(.loc 3,⟨3,.str,4,[[.bs fC 4 6 0 i,.bs (.loc 13) 5 1 0 t.outs.length,.i .i64 t.dim,.i .i64 t.par]]⟩),(fC,⟨4,.own,6,rowI (t.code.take i)⟩),(.loc 13,⟨5,.own,1,ints t.outs⟩)],7⟩
theorem zru(t:Tp)(i:Nat)(hi:i<t.code.length)(hl:t.code.length≤1000):evX (orc T) T 0 l382_0 (stTT t i)=some (.n,stTT t (i+1)):=by
 have hws:=zct hi (by omega)
 have hb:i≤4294967295:=by omega
 have hg:t.code[i]? = some (t.code[i]'hi):=List.getElem?_eq_getElem hi
 have hn:=zf6 (T:=T) (t.code[i]'hi).n
 have hi':(i:Int)<t.code.length:=by omega
 have hml:(t.code.take i).length=i:=by simp;omega
 have ht:List.take i (t.code.take i)=t.code.take i:=List.take_of_length_le (by omega)
 have e:=take_succ t.code hi
 have hp:=ztf hml (t.code[i]'hi)
 rw[ht]at hp
 unfold stTT bxT fC
 rw[e]
 clear e
 generalize t.code.take i=M at *
 simp -implicitDefEqProofs[l382_0,hi,hi',hws,hb,hg,hn,hml,ht,hp]
theorem zui(t:Tp)(hl:t.code.length≤1000):loopN T 0 0 (.norm false [2,3]) l382_0 (stTT t 0) =
  some (.n,⟨[(2,.ptr (.loc 2) 1 4 0 0),(3,.ptr (.loc 3) 2 4 0 0)],[(.loc 2,⟨1,.str,4,[[.sl [] .an,.sl [] .an,.i .i64 0,.i .i64 0]]⟩),(.loc 3,⟨2,.str,4,[[.bs fC 3 6 0 t.code.length,.bs (.loc 13) 4 1 0 t.outs.length,.i .i64 t.dim,.i .i64 t.par]]⟩),(fC,⟨3,.own,6,rowI t.code⟩),(.loc 13,⟨4,.own,1,ints t.outs⟩)],6⟩):=by
 refine za1 (stTT t) t.code.length _ (fun i hi=>zru t i hi hl) ?_
 unfold stTT bxT fC
 rw[List.take_of_length_le (Nat.le_refl _)]
 constructor<;>simp -implicitDefEqProofs[l382_0]
theorem zuj(t:Tp)(hl:t.code.length≤1000)(ho:t.outs.length≤1000):callF T 382 [etp t]=some (etp t):=by
 have ht:List.take t.code.length t.code=t.code:=List.take_of_length_le (by omega)
 have hs:List.take t.outs.length t.outs=t.outs:=List.take_of_length_le (by omega)
 have h:=zui (T:=T) t hl
 unfold stTT bxT fC at h
 simp only[Int.natCast_zero,List.take_zero,zvo]at h
 obtain⟨code,outs,dim,par⟩:=t
 dsimp only at *
 have ho2:outs.length≤4294967296:=by omega
 rw[f382 _ rfl,b382]
 simp -implicitDefEqProofs[ht,hs,ho2,h]
end
class CLaw26 (T:Tbl):Prop where
theorem zml{q:Rat}{e:Int}(h1:-8≤e)(h2:e≤8):powR q e=if e<0∧q=0 then (0,false) else (powZ q e,true):=by
 unfold powR
 by_cases h:e<0∧q=0
 ·rw[if_pos h,if_neg (by intro hh;exact hh.2.2 h)]
 ·rw[if_neg h,if_pos ⟨h1,h2,h⟩]
abbrev mD:AV:=.agg [.dead]
section
variable{T:Tbl}[CLimb T][CNat T][CProd T][CTwos T][CQuot T][CQuotD T][CWhole T][CCommon T][CFrac T][CFrac3 T][CFrac5 T][CPow T][CTape T][CGauge T][CEval T][CRun T][CIfc T]
theorem zabl(x:Fz)(hx:fsz x≤1000):callF T 445 [mD,efz x]=some (efz (fz (fv x))):=by
 have h:=zbq (T:=T) x (by omega)
 rw[f445 _ rfl,b445]
 generalize fz (fv x)=z at *
 simp -implicitDefEqProofs[h]
theorem z3l(x:Fz)(hx:fsz x≤1000):callF T 444 [mD,efz x]=some (efz (fz (-fv x))):=by
 have h:=zi6 (T:=T) x (by omega)
 rw[f444 _ rfl,b444]
 generalize fz (-fv x)=z at *
 simp -implicitDefEqProofs[h]
theorem z3m(x y:Fz)(hx:fsz x≤1000)(hy:fsz y≤1000):callF T 441 [mD,efz x,efz y]=some (efz (fz (fv x+fv y))):=by
 have h:=zd2 (T:=T) x y hx hy
 rw[f441 _ rfl,b441]
 generalize fz (fv x+fv y)=z at *
 simp -implicitDefEqProofs[h]
theorem z3n(x y:Fz)(hx:fsz x≤1000)(hy:fsz y≤1000):callF T 448 [mD,efz x,efz y]=some (efz (fz (fv x-fv y))):=by
 have h:=zf5 (T:=T) x y hx hy
 rw[f448 _ rfl,b448]
 generalize fz (fv x-fv y)=z at *
 simp -implicitDefEqProofs[h]
theorem z3o(x y:Fz)(hx:fsz x≤1000)(hy:fsz y≤1000):callF T 443 [mD,efz x,efz y]=some (efz (fz (fv x*fv y))):=by
 have h:=zdc (T:=T) x y hx hy
 rw[f443 _ rfl,b443]
 generalize fz (fv x*fv y)=z at *
 simp -implicitDefEqProofs[h]
theorem z3p(x y:Fz)(hx:fsz x≤1000)(hy:fsz y≤1000):callF T 447 [mD,efz x,efz y]=some (.tup [efz (fz (fv x/fv y)),.b (decide (fv y≠0))]):=by
 have h:=zi7 (T:=T) x y hx hy
 rw[f447 _ rfl,b447]
 generalize fz (fv x/fv y)=z at *
 generalize decide (fv y≠0)=ok at *
 simp -implicitDefEqProofs[h]
theorem z3q(x:Fz)(e:Int)(hx:fsz x≤1000):callF T 446 [mD,efz x,.i .i64 e]=some (.tup [efz (fz (powR (fv x) e).1),.b (powR (fv x) e).2]):=by
 have h:=zi8 (T:=T) x e hx
 rw[f446 _ rfl,b446]
 generalize fz (powR (fv x) e).1=z at *
 generalize (powR (fv x) e).2=ok at *
 simp -implicitDefEqProofs[h]
theorem zsm(s p L:Int)(x:Fz)(hx:fsz x≤10000):callH T 442 [.agg [.ptr (.bor 0) 0 3 0 0],efz x] [(.bor 0,bxG 0 s p L)]=some (.b (decide ((sizF x:Int)≤L)),[(.bor 0,bxG 0 (cntS s) (cntP p x) L)]):=by
 have h:=zfi (T:=T) s p L x hx
 rw[f442 _ _ rfl,b442]
 generalize cntS s=s' at *
 generalize cntP p x=p' at *
 simp -implicitDefEqProofs[h]
theorem zu5(i:Ins)(P:Po)(hop:i.op=1∨i.op=2∨i.op=3∨i.op=4)(hn:fsz i.n≤1000)(hy:i.op=3→0≤i.a∧i.a<P.y.length)(hp:i.op=4→0≤i.a∧i.a<P.p.length) :
  callF T 431 [mD,.agg (celI i),ept P.f]=some (efz (fz (valI P [] i).1)):=by
 have h1:=zabl (T:=T) i.n hn
 obtain⟨op,a,b,n⟩:=i
 obtain⟨t,y,p⟩:=P
 dsimp only at *
 unfold valI Po.f
 dsimp only
 rw[f431 _ rfl,b431]
 rcases hop with rfl | rfl | rfl | rfl
 ·show _=some (efz (fz (fv n)))
  generalize fz (fv n)=z at *
  generalize fzs y=Y at *
  generalize fzs p=PP at *
  generalize fz t=tt at *
  simp -implicitDefEqProofs[h1]
 ·show _=some (efz (fz t))
  generalize fzs y=Y at *
  generalize fzs p=PP at *
  generalize fz t=tt at *
  simp -implicitDefEqProofs
 ·obtain⟨k,rfl⟩:∃k:Nat,a=k:=⟨a.toNat,by have:=(hy rfl).1;omega⟩
  have hk:k<y.length:=by have:=(hy rfl).2;omega
  have hk':(k:Int)<y.length:=by omega
  have hg:(fzs y)[k]? = some (fz (y[k]'hk)):=zfn (List.getElem?_eq_getElem hk)
  have hge:=(List.getElem?_eq_some_iff.1 hg).2
  have hl:(fzs y).length=y.length:=zag y
  have e:gI y (k:Int)=y[k]'hk:=by simp[gI,List.getD,List.getElem?_eq_getElem hk]
  show _=some (efz (fz (gI _ _)))
  rw[e]
  generalize fzs y=Y at *
  generalize fzs p=PP at *
  generalize fz t=tt at *
  generalize fz (y[k]'hk)=z at *
  simp -implicitDefEqProofs[hk,hk',hg,hge,hl]
 ·obtain⟨k,rfl⟩:∃k:Nat,a=k:=⟨a.toNat,by have:=(hp rfl).1;omega⟩
  have hk:k<p.length:=by have:=(hp rfl).2;omega
  have hk':(k:Int)<p.length:=by omega
  have hg:(fzs p)[k]? = some (fz (p[k]'hk)):=zfn (List.getElem?_eq_getElem hk)
  have hge:=(List.getElem?_eq_some_iff.1 hg).2
  have hl:(fzs p).length=p.length:=zag p
  have e:gI p (k:Int)=p[k]'hk:=by simp[gI,List.getD,List.getElem?_eq_getElem hk]
  show _=some (efz (fz (gI _ _)))
  rw[e]
  generalize fzs y=Y at *
  generalize fzs p=PP at *
  generalize fz t=tt at *
  generalize fz (p[k]'hk)=z at *
  simp -implicitDefEqProofs[hk,hk',hg,hge,hl]
theorem zsn{D:List Rat}{a:Int}(h:0≤a∧a<D.length):∃k:Nat,a=k∧(k:Int)<D.length∧k<D.length∧(fzs D)[k]? = some (fz (gI D a)):=by
 obtain⟨k,rfl⟩:∃k:Nat,a=k:=⟨a.toNat,by omega⟩
 have hk:k<D.length:=by omega
 refine⟨k,rfl,by omega,hk,?_⟩
 have e:gI D (k:Int)=D[k]'hk:=by simp[gI,List.getD,List.getElem?_eq_getElem hk]
 rw[e]
 exact zfn (List.getElem?_eq_getElem hk)
theorem zcu{D:List Rat}{a:Int}{B:Nat}(hB:1≤B)(h:∀q∈D,sz q≤B):sz (gI D a)≤B:=by
 unfold gI List.getD
 cases hx:D[a.toNat]? with
 | none=>exact Nat.le_trans (Nat.le_of_eq zhm) hB
 | some q=>exact h q (List.mem_of_getElem? hx)
theorem zu6(i:Ins)(P:Po)(D:List Rat)(dim par:Int)(hm:mayI dim par D.length i=true)(hd:(P.y.length:Int)=dim)(hp:(P.p.length:Int)=par)(hn:fsz i.n≤1000)(hD:∀q∈D,sz q≤1000) :
  callF T 422 [mD,.agg (celI i),ept P.f,.sl (rowF (fzs D)) .an]=some (.tup [efz (fz (valI P D i).1),.b (valI P D i).2]):=by
 have hop:=zin hm
 by_cases hleaf:i.op=1∨i.op=2∨i.op=3∨i.op=4
 ·have h1:=zu5 (T:=T) i P hleaf hn (fun h=>by have:=z3z hm h;omega) (fun h=>by have:=z30 hm h;omega)
  have e:valI P D i=((valI P [] i).1,true):=by
   unfold valI
   rcases hleaf with h | h | h | h<;>simp[h]
  rw[e]
  generalize fz (valI P [] i).1=z at *
  generalize fzs D=DD at *
  obtain⟨op,a,b,n⟩:=i
  generalize P.f=Q at *
  obtain⟨⟨t0,t1,t2⟩,y,p⟩:=Q
  dsimp only at *
  rw[f422 _ rfl,b422]
  rcases hleaf with rfl | rfl | rfl | rfl<;>simp -implicitDefEqProofs[h1]
 have ha:=ztg hm (by omega)
 obtain⟨k,hk1,hk2,hk3,hka⟩:=zsn ha
 have sa:fsz (fz (gI D i.a))≤1000:=zcu (by decide) hD
 have hkae:=(List.getElem?_eq_some_iff.1 hka).2
 have hl:(fzs D).length=D.length:=zag D
 have c6:=z3l (T:=T) (fz (gI D i.a)) sa
 have c11:=z3q (T:=T) (fz (gI D i.a)) i.b sa
 rw[zb9]at c6 c11
 by_cases h6:i.op=6
 ·have e:valI P D i=(-gI D i.a,true):=by simp[valI,h6]
  rw[e]
  generalize fz (-gI D i.a)=z at *
  generalize fz (gI D i.a)=u at *
  generalize fzs D=DD at *
  obtain⟨op,a,b,n⟩:=i
  generalize P.f=Q at *
  obtain⟨⟨t0,t1,t2⟩,y,p⟩:=Q
  dsimp only at *
  subst h6 hk1
  rw[f422 _ rfl,b422]
  simp -implicitDefEqProofs[hk2,hk3,hka,hkae,hl,c6]
 by_cases h11:i.op=11
 ·have hb:=zti hm h11
  have e:valI P D i=powR (gI D i.a) i.b:=by simp[valI,h11,zml hb.1 hb.2]
  rw[e]
  generalize fz (powR (gI D i.a) i.b).1=z at *
  generalize (powR (gI D i.a) i.b).2=ok at *
  generalize fz (gI D i.a)=u at *
  generalize fzs D=DD at *
  obtain⟨op,a,b,n⟩:=i
  generalize P.f=Q at *
  obtain⟨⟨t0,t1,t2⟩,y,p⟩:=Q
  dsimp only at *
  subst h11 hk1
  rw[f422 _ rfl,b422]
  simp -implicitDefEqProofs[hk2,hk3,hka,hkae,hl,c11]
 have hb:=zth hm (by omega)
 obtain⟨j,hj1,hj2,hj3,hjb⟩:=zsn hb
 have sb:fsz (fz (gI D i.b))≤1000:=zcu (by decide) hD
 have hjbe:=(List.getElem?_eq_some_iff.1 hjb).2
 have c7:=z3m (T:=T) (fz (gI D i.a)) (fz (gI D i.b)) sa sb
 have c8:=z3n (T:=T) (fz (gI D i.a)) (fz (gI D i.b)) sa sb
 have c9:=z3o (T:=T) (fz (gI D i.a)) (fz (gI D i.b)) sa sb
 have c10:=z3p (T:=T) (fz (gI D i.a)) (fz (gI D i.b)) sa sb
 rw[zb9,zb9]at c7 c8 c9 c10
 have e7:i.op=7→valI P D i=(gI D i.a+gI D i.b,true):=fun h=>by simp[valI,h]
 have e8:i.op=8→valI P D i=(gI D i.a-gI D i.b,true):=fun h=>by simp[valI,h]
 have e9:i.op=9→valI P D i=(gI D i.a*gI D i.b,true):=fun h=>by simp[valI,h]
 have e10:i.op=10→valI P D i=(gI D i.a/gI D i.b,decide (gI D i.b≠0)):=fun h=>by simp[valI,h]
 generalize gI D i.a=A at *
 generalize gI D i.b=B at *
 generalize fz A=u at *
 generalize fz B=v at *
 generalize valI P D i=V at *
 generalize fzs D=DD at *
 obtain⟨op,a,b,n⟩:=i
 generalize P.f=Q at *
 obtain⟨⟨t0,t1,t2⟩,y,p⟩:=Q
 dsimp only at *
 subst hk1 hj1
 rw[f422 _ rfl,b422]
 rcases(show op=7∨op=8∨op=9∨op=10 by omega) with rfl | rfl | rfl | rfl
 ·rw[e7 rfl]
  generalize fz (A+B)=z at *
  simp -implicitDefEqProofs[hk2,hk3,hka,hkae,hj2,hj3,hjb,hjbe,hl,c7]
 ·rw[e8 rfl]
  generalize fz (A-B)=z at *
  simp -implicitDefEqProofs[hk2,hk3,hka,hkae,hj2,hj3,hjb,hjbe,hl,c8]
 ·rw[e9 rfl]
  generalize fz (A*B)=z at *
  simp -implicitDefEqProofs[hk2,hk3,hka,hkae,hj2,hj3,hjb,hjbe,hl,c9]
 ·rw[e10 rfl]
  generalize fz (A/B)=z at *
  generalize decide (B≠0)=ok at *
  simp -implicitDefEqProofs[hk2,hk3,hka,hkae,hj2,hj3,hjb,hjbe,hl,c10]
end
theorem znt{n b:Nat}(h:blen n≤b):(ofN n).length≤b/32+1:=by
 refine zam ?_
 unfold blen at h
 split at h
 ·rename_i h0
  subst h0
  exact Nat.pow_pos (by decide)
 ·rename_i h0
  have h1:n<2^(n.log2+1):=(Nat.log2_lt h0).1 (Nat.lt_succ_self _)
  have h3:(4294967296:Nat)^(b/32+1)=2^(32*(b/32+1)):=by rw[Nat.pow_mul]
  have h2:2^(n.log2+1)≤2^(32*(b/32+1)):=Nat.pow_le_pow_right (by decide) (by omega)
  omega
theorem zfo{q:Rat}{b:Nat}(h:sizQ q≤b):sz q≤b/32+1:=by
 unfold sizQ sizF fz at h
 rw[zaf,zaf]at h
 exact Nat.max_le.2 ⟨znt (Nat.le_trans (Nat.le_add_right _ _) h),znt (Nat.le_trans (Nat.le_add_left _ _) h)⟩
theorem zwa(q:Rat)(n:Nat):sz (q^n)≤n*sz q+1:=by
 unfold sz
 rw[Rat.num_pow,Rat.den_pow,Int.natAbs_pow]
 exact Nat.max_le.2 ⟨zfh (Nat.le_max_left _ _) n,zfh (Nat.le_max_right _ _) n⟩
theorem zhf{q:Rat}{e:Int}{B:Nat}(hq:sz q≤B)(h1:-8≤e)(h2:e≤8):sz (powZ q e)≤8*B+1:=by
 unfold powZ
 rcases Int.le_total 0 e with h | h
 ·obtain⟨n,rfl⟩:∃n:Nat,e=n:=⟨e.toNat,by omega⟩
  rw[Rat.zpow_natCast]
  have:=zwa q n
  have h3:n*sz q≤8*B:=Nat.mul_le_mul (by omega) hq
  omega
 ·obtain⟨n,rfl⟩:∃n:Nat,e=-(n:Int):=⟨(-e).toNat,by omega⟩
  rw[Rat.zpow_neg,Rat.zpow_natCast]
  have:=zwa q n
  have h3:n*sz q≤8*B:=Nat.mul_le_mul (by omega) hq
  have:=zwk (q^n)
  omega
structure PvS (P:Po) (B:Nat):Prop where
 t:sz P.t≤B
 y:∀q∈P.y,sz q≤B
 p:∀q∈P.p,sz q≤B
theorem zso{P:Po}{D:List Rat}{i:Ins}{dim par:Int}{p:Nat}(hm:mayI dim par p i=true)(hP:PvS P 1000)(hn:fsz i.n≤1000)(hD:∀q∈D,sz q≤129):sz (valI P D i).1≤2000:=by
 have ga:=zcu (D:=D) (a:=i.a) (B:=129) (by decide) hD
 have gb:=zcu (D:=D) (a:=i.b) (B:=129) (by decide) hD
 have gy:=zcu (D:=P.y) (a:=i.a) (B:=1000) (by decide) hP.y
 have gp:=zcu (D:=P.p) (a:=i.a) (B:=1000) (by decide) hP.p
 have gn:=zbo (x:=i.n) (L:=1000) hn (by decide)
 have gt:=hP.t
 rcases zin hm with h | h | h | h | h | h | h | h | h | h
 ·simp[valI,h];omega
 ·simp[valI,h];omega
 ·simp[valI,h];omega
 ·simp[valI,h];omega
 ·simp[valI,h,zta];omega
 ·have:=zhn (gI D i.a) (gI D i.b);simp[valI,h];omega
 ·have:=zn1 (gI D i.a) (gI D i.b);simp[valI,h];omega
 ·have:=zcl (gI D i.a) (gI D i.b);simp[valI,h];omega
 ·have:=zik (gI D i.a) (gI D i.b);simp[valI,h];omega
 ·obtain⟨e1,e2⟩:=zti hm h
  have h1:=zhf ga e1 e2
  by_cases hc:i.b<0∧gI D i.a=0
  ·simp[valI,h,hc,zhm]
  ·simp only[valI,h]
   simp only[hc]
   simp
   omega
def runG(lim:Nat)(P:Po):List Ins→List Rat→Int→Int→Int×Int
 | [],_,s,p=>(s,p)
 | i::r,D,s,p=>if (valI P D i).2=false then (s,p) else if lim<sizQ (valI P D i).1 then (cntS s,cntP p (fz (valI P D i).1)) else runG lim P r (D++[(valI P D i).1]) (cntS s) (cntP p (fz (valI P D i).1))
theorem zhg(lim:Nat)(P:Po)(i:Ins)(r:List Ins)(D:List Rat)(s p:Int):runG lim P (i::r) D s p=if (valI P D i).2=false then (s,p) else if lim<sizQ (valI P D i).1 then (cntS s,cntP p (fz (valI P D i).1)) else runG lim P r (D++[(valI P D i).1]) (cntS s) (cntP p (fz (valI P D i).1)):=rfl
abbrev bxM:Box:=⟨3,.str,1,[[.ptr (.bor 0) 0 3 0 0]]⟩
abbrev bxP(g:Nat)(x:PoF):Box:=⟨g,.str,5,[[.b x.t.1,.sl (u32s x.t.2.1) .an,.sl (u32s x.t.2.2) .an,.sl (rowF x.y) .an,.sl (rowF x.p) .an]]⟩
abbrev bxF(g:Nat)(a b c d:Int):Box:=⟨g,.str,4,[[.i .i64 a,.i .i64 b,.i .i64 c,.i .i64 d]]⟩
def stRun(Q:PoF)(L:Int)(code:List Ins)(i:Nat)(D:List Fz)(s p:Int)(kd:Kind):St:=
 ⟨[(3,.ptr (.loc 3) 3 1 0 0),(5,.ptr (.loc 5) 4 5 0 0),(7,.ptr (.loc 7) 5 4 0 0),(8,.bs (.loc 8) 6 3 0 i),(34,.sl (rowI code) .an),(35,.i .i64 code.length),(36,.i .i64 i)],
  [(.bor 0,bxG 0 s p L),(.loc 3,bxM),(.loc 5,bxP 4 Q),(.loc 7,bxF 5 0 0 0 0),(.loc 8,⟨6,kd,3,rowF D⟩)],8⟩
def endN(n:Nat)(D:List Fz)(s p L:Int)(kd:Kind):Ex×St:=(.n,⟨[(7,.ptr (.loc 7) 3 4 0 0),(8,.bs (.loc 8) 4 3 0 n)],[(.bor 0,bxG 0 s p L),(.loc 7,bxF 3 0 0 0 0),(.loc 8,⟨4,kd,3,rowF D⟩)],6⟩)
def endR(kind at_ s p L:Int):Ex×St:=(.r,⟨[(6,.sl [] .an),(7,.ptr (.loc 7) 3 4 0 0)],[(.bor 0,bxG 0 s p L),(.loc 7,bxF 3 kind 0 0 at_)],5⟩)
section
variable{T:Tbl}[CLimb T][CNat T][CProd T][CTwos T][CQuot T][CQuotD T][CWhole T][CCommon T][CFrac T][CFrac3 T][CFrac5 T][CPow T][CTape T][CGauge T][CEval T][CRun T][CIfc T]
theorem zu7{kd:Kind}(hk:kd=.own∨kd=.sh)(x:Ins)(Q:PoF)(L:Int)(code:List Ins)(i:Nat)(D:List Fz)(s p:Int)(v:Fz)(hi:i<code.length)(hc:code.length≤1000)(hg:code[i]? = some x)(hdl:D.length=i)(hv:fsz v≤10000)
  (c:callF T 422 [mD,.agg (celI x),ept Q,.sl (rowF D) .an]=some (.tup [efz v,.b true])) (hf:(sizF v:Int)≤L) :
  evX (orc T) T 1 l407_0 (stRun Q L code i D s p kd)=some (.n,stRun Q L code (i+1) (D++[v]) (cntS s) (cntP p v) .sh):=by
 have hf2:=zsm (T:=T) s p L v hv
 rw[decide_eq_true hf]at hf2
 have hws:=zct hi (by omega)
 have hge:=(List.getElem?_eq_some_iff.1 hg).2
 have ht:List.take i D=D:=List.take_of_length_le (by omega)
 have hp:wkL (rowF D++[celF v])=rowF (D++[v]):=by rw[zlj,ztb]
 have hi':(i:Int)<code.length:=by omega
 have hb:i≤4294967295:=by omega
 generalize cntS s=s' at *
 generalize cntP p v=p' at *
 unfold stRun
 obtain⟨⟨q0,q1,q2⟩,qy,qp⟩:=Q
 rcases hk with rfl | rfl<;>simp -implicitDefEqProofs[l407_0,hi,hi',hg,hge,hws,c,hf2,hp,hdl,hb,ht]
theorem zyi{kd:Kind}(hk:kd=.own∨kd=.sh)(x:Ins)(Q:PoF)(L:Int)(code:List Ins)(i:Nat)(D:List Fz)(s p:Int)(v:Fz)(hi:i<code.length)(hc:code.length≤1000)(hg:code[i]? = some x)(hdl:D.length=i)
  (c:callF T 422 [mD,.agg (celI x),ept Q,.sl (rowF D) .an]=some (.tup [efz v,.b false])) :
  evX (orc T) T 1 l407_0 (stRun Q L code i D s p kd)=some (endR 3 i s p L):=by
 have hge:=(List.getElem?_eq_some_iff.1 hg).2
 have ht:List.take i D=D:=List.take_of_length_le (by omega)
 have hi':(i:Int)<code.length:=by omega
 unfold stRun endR
 obtain⟨⟨q0,q1,q2⟩,qy,qp⟩:=Q
 rcases hk with rfl | rfl<;>simp -implicitDefEqProofs[l407_0,hi,hi',hg,hge,c,hdl,ht]
theorem zyj{kd:Kind}(hk:kd=.own∨kd=.sh)(x:Ins)(Q:PoF)(L:Int)(code:List Ins)(i:Nat)(D:List Fz)(s p:Int)(v:Fz)(hi:i<code.length)(hc:code.length≤1000)(hg:code[i]? = some x)(hdl:D.length=i)(hv:fsz v≤10000)
  (c:callF T 422 [mD,.agg (celI x),ept Q,.sl (rowF D) .an]=some (.tup [efz v,.b true])) (hf:¬ (sizF v:Int)≤L) :
  evX (orc T) T 1 l407_0 (stRun Q L code i D s p kd)=some (endR 6 i (cntS s) (cntP p v) L):=by
 have hf2:=zsm (T:=T) s p L v hv
 rw[decide_eq_false hf]at hf2
 have hge:=(List.getElem?_eq_some_iff.1 hg).2
 have ht:List.take i D=D:=List.take_of_length_le (by omega)
 have hi':(i:Int)<code.length:=by omega
 generalize cntS s=s' at *
 generalize cntP p v=p' at *
 unfold stRun endR
 obtain⟨⟨q0,q1,q2⟩,qy,qp⟩:=Q
 rcases hk with rfl | rfl<;>simp -implicitDefEqProofs[l407_0,hi,hi',hg,hge,c,hf2,hdl,ht]
theorem z3r{kd:Kind}(hk:kd=.own∨kd=.sh)(Q:PoF)(L:Int)(code:List Ins)(D:List Fz)(s p:Int):isEx (evX (orc T) T 1 l407_0 (stRun Q L code code.length D s p kd))=true ∧
  finX 1 0 (.norm false [7,8]) (evX (orc T) T 1 l407_0 (stRun Q L code code.length D s p kd))=some (endN code.length D s p L kd):=by
 unfold stRun endN
 obtain⟨⟨q0,q1,q2⟩,qy,qp⟩:=Q
 rcases hk with rfl | rfl<;>constructor<;>simp -implicitDefEqProofs[l407_0]
theorem zsp(kind at_ s p L:Int):finX 1 0 (.norm false [7,8]) (some (endR kind at_ s p L))=some (endR kind at_ s p L):=by
 unfold endR
 simp -implicitDefEqProofs
def kdE(kd:Kind)(l:List Ins):Kind:=if l=[] then kd else .sh
def endRun(lim:Nat)(P:Po)(code l:List Ins)(D:List Rat)(s p:Int)(kd:Kind):Ex×St:=
 if (runR lim P l D).2.1=0 then endN code.length (fzs (runR lim P l D).1) (runG lim P l D s p).1 (runG lim P l D s p).2 lim (kdE kd l)
 else endR (runR lim P l D).2.1 (runR lim P l D).2.2 (runG lim P l D s p).1 (runG lim P l D s p).2 lim
theorem znu(P:Po)(lim:Nat)(hlim:lim≤4096)(t:Tp)(ht:OkTp t)(hn:∀i∈t.code,fsz i.n≤1000)(hd:(P.y.length:Int)=t.dim)(hp:(P.p.length:Int)=t.par)(hP:PvS P 1000)(s p:Int) :
  loopN T 1 0 (.norm false [7,8]) l407_0 (stRun P.f lim t.code 0 [] s p .own)=some (endRun lim P t.code t.code [] s p .own):=by
 have hc:=ht.cl
 have key:=zbk (T:=T) (k:=1) (id:=0) (g2:=.norm false [7,8]) (c:=l407_0) (fun x:Nat×List Rat×(Int×Int)×Kind=>stRun P.f lim t.code x.1 (fzs x.2.1) x.2.2.1.1 x.2.2.1.2 x.2.2.2)
  (fun x=>x.1≤t.code.length∧x.2.1.length=x.1∧(∀q∈x.2.1,sz q≤129)∧(x.2.2.2=.own∨x.2.2.2=.sh)) (fun x=>t.code.length-x.1)
  (fun x=>some (endRun lim P t.code (t.code.drop x.1) x.2.1 x.2.2.1.1 x.2.2.1.2 x.2.2.2)) ?_ (0,[],(s,p),.own) ⟨Nat.zero_le _,rfl,by simp,.inl rfl⟩
 ·exact key
 rintro⟨i,D,⟨s,p⟩,kd⟩ ⟨hi,hdl,hD,hk⟩
 dsimp only at *
 by_cases hlt:i<t.code.length
 ·have hg:t.code[i]? = some (t.code[i]'hlt):=List.getElem?_eq_getElem hlt
  have hmem:=List.getElem_mem hlt
  have hm:=ht.may i _ hg
  have hdr:t.code.drop i=t.code[i]'hlt::t.code.drop (i+1):=List.drop_eq_getElem_cons hlt
  generalize hx:t.code[i]'hlt=x at *
  have hm':mayI t.dim t.par D.length x=true:=by rw[hdl];exact hm
  have c:=zu6 (T:=T) x P D t.dim t.par hm' hd hp (hn x hmem) (fun q hq=>Nat.le_trans (hD q hq) (by decide))
  have hvs:fsz (fz (valI P D x).1)≤10000:=Nat.le_trans (zso hm' hP (hn x hmem) hD) (by decide)
  have hfl:(fzs D).length=i:=by rw[zag,hdl]
  have hout:endRun lim P t.code (t.code.drop i) D s p kd=endRun lim P t.code (x::t.code.drop (i+1)) D s p kd:=by rw[hdr]
  rw[hout]
  cases hok:(valI P D x).2 with
  | false=>
   right
   rw[hok]at c
   have e:=zyi (T:=T) hk x P.f lim t.code i (fzs D) s p _ hlt (by omega) hg hfl c
   rw[e,zsp]
   refine⟨rfl,?_⟩
   have hR:runR lim P (x::t.code.drop (i+1)) D=([],3,i):=by rw[zcm,if_pos hok,hdl]
   have hG:runG lim P (x::t.code.drop (i+1)) D s p=(s,p):=by rw[zhg,if_pos hok]
   unfold endRun
   rw[hR,hG]
   rfl
  | true=>
   rw[hok]at c
   by_cases hfit:sizQ (valI P D x).1≤lim
   ·left
    have e:=zu7 (T:=T) hk x P.f lim t.code i (fzs D) s p _ hlt (by omega) hg hfl hvs c (by unfold sizQ at hfit;omega)
    refine⟨(i+1,D++[(valI P D x).1],(cntS s,cntP p (fz (valI P D x).1)),.sh),⟨by omega,by simp[hdl],fun q hq=>?_,.inr rfl⟩,by show t.code.length-(i+1)<t.code.length-i;omega,?_,?_⟩
    ·rcases List.mem_append.1 hq with h | h
     ·exact hD q h
     ·rw[List.mem_singleton.1 h]
      have:=zfo hfit
      have:lim/32≤128:=by omega
      omega
    ·rw[e]
     simp[fzs]
    ·dsimp only
     congr 1
     have hR:runR lim P (x::t.code.drop (i+1)) D=runR lim P (t.code.drop (i+1)) (D++[(valI P D x).1]):=by rw[zcm,if_neg (by rw[hok];decide),if_neg (by omega)]
     have hG:runG lim P (x::t.code.drop (i+1)) D s p=runG lim P (t.code.drop (i+1)) (D++[(valI P D x).1]) (cntS s) (cntP p (fz (valI P D x).1)):=by rw[zhg,if_neg (by rw[hok];decide),if_neg (by omega)]
     unfold endRun
     rw[hR,hG]
     have e1:kdE kd (x::t.code.drop (i+1))=.sh:=by simp[kdE]
     have e2:∀l,kdE .sh l=.sh:=by intro l;simp[kdE]
     rw[e1,e2]
   ·right
    have e:=zyj (T:=T) hk x P.f lim t.code i (fzs D) s p _ hlt (by omega) hg hfl hvs c (by unfold sizQ at hfit;omega)
    rw[e,zsp]
    refine⟨rfl,?_⟩
    have hR:runR lim P (x::t.code.drop (i+1)) D=([],6,i):=by rw[zcm,if_neg (by rw[hok];decide),if_pos (by omega),hdl]
    have hG:runG lim P (x::t.code.drop (i+1)) D s p=(cntS s,cntP p (fz (valI P D x).1)):=by rw[zhg,if_neg (by rw[hok];decide),if_pos (by omega)]
    unfold endRun
    rw[hR,hG]
    rfl
 ·right
  have hi2:i=t.code.length:=by omega
  subst hi2
  have e:=z3r (T:=T) hk P.f lim t.code (fzs D) s p
  refine⟨e.1,?_⟩
  rw[e.2,List.drop_length]
  unfold endRun
  simp[runR,runG,kdE]
end
def fitT(t:Tp)(y p:Nat):Bool:=okT t&&decide ((y:Int)=t.dim)&&decide ((p:Int)=t.par)
def tapeR(lim:Nat)(t:Tp)(P:Po):List Rat×Nat×Nat:=if fitT t P.y.length P.p.length=true then runR lim P t.code [] else ([],2,0)
def outsR(t:Tp)(D:List Rat):List Rat:=t.outs.map (gI D)
def fieldR(lim:Nat)(t:Tp)(P:Po):List Rat×Nat×Nat:=if (tapeR lim t P).2.1=0 then (outsR t (tapeR lim t P).1,0,0) else ([],(tapeR lim t P).2)
structure TpS (t:Tp):Prop where
 small:Small t
 ns:∀i∈t.code,fsz i.n≤1000
abbrev fltA(k s g a:Int):AV:=.agg [.i .i64 k,.i .i64 s,.i .i64 g,.i .i64 a]
theorem zck{t:Tp}{y p:Nat}(h:fitT t y p=true):OkTp t∧(y:Int)=t.dim∧(p:Int)=t.par:=by
 unfold fitT at h
 simp only[Bool.and_eq_true,decide_eq_true_eq]at h
 exact⟨(zep t).1 h.1.1,h.1.2,h.2⟩
section
variable{T:Tbl}[CLimb T][CNat T][CProd T][CTwos T][CQuot T][CQuotD T][CWhole T][CCommon T][CFrac T][CFrac3 T][CFrac5 T][CPow T][CTape T][CGauge T][CEval T][CRun T][CIfc T]
theorem zyk(t:Tp)(Q:PoF)(hs:TpS t)(s p L:Int)(h:fitT t Q.y.length Q.p.length=false) :
  callH T 407 [.agg [.ptr (.bor 0) 0 3 0 0],etp t,ept Q] [(.bor 0,bxG 0 s p L)]=some (.tup [.sl [] .an,fltA 2 0 0 0],[(.bor 0,bxG 0 s p L)]):=by
 have hr:=zbs (T:=T) t hs.small
 unfold fitT at h
 rw[f407 _ _ rfl,b407]
 obtain⟨⟨q0,q1,q2⟩,qy,qp⟩:=Q
 dsimp only at h
 cases hok:okT t with
 | false=>
  rw[hok]at hr
  obtain⟨code,outs,dim,par⟩:=t
  simp -implicitDefEqProofs[hr]
 | true=>
  rw[hok]at hr h
  obtain⟨code,outs,dim,par⟩:=t
  dsimp only at *
  by_cases h1:(qy.length:Int)=dim
  ·by_cases h2:(qp.length:Int)=par
   ·simp[h1,h2]at h
   ·simp -implicitDefEqProofs[hr,h1,h2]
  ·simp -implicitDefEqProofs[hr,h1]
theorem zsq(t:Tp)(P:Po)(hs:TpS t)(lim:Nat)(hlim:lim≤4096)(s p:Int)(hP:PvS P 1000)(h:fitT t P.y.length P.p.length=true)(hk:(runR lim P t.code []).2.1=0) :
  ∃(s' p':Int) (kd:Kind),(kd=.own∨kd=.sh)∧callH T 407 [.agg [.ptr (.bor 0) 0 3 0 0],etp t,ept P.f] [(.bor 0,bxG 0 s p lim)] =
   some (.tup [.bs (.loc 8) 3 3 0 t.code.length,fltA 0 0 0 0],[(.bor 0,bxG 0 s' p' lim),(.loc 8,⟨3,kd,3,rowF (fzs (runR lim P t.code []).1)⟩)]):=by
 obtain⟨hok,h1,h2⟩:=zck h
 have hr:=zbs (T:=T) t hs.small
 have hl:=znu (T:=T) P lim hlim t hok hs.ns h1 h2 hP s p
 rw[(zep t).2 hok]at hr
 unfold endRun at hl
 rw[if_pos hk]at hl
 unfold stRun endN at hl
 simp only[Int.natCast_zero,zfa]at hl
 have hkd:∃kd:Kind,kdE .own t.code=kd∧(kd=.own∨kd=.sh):=by
  unfold kdE
  split
  ·exact⟨_,rfl,.inl rfl⟩
  ·exact⟨_,rfl,.inr rfl⟩
 obtain⟨kd,hkd1,hkd2⟩:=hkd
 rw[hkd1]at hl
 clear hkd1
 have hy:(fzs P.y).length=P.y.length:=zag _
 have hp':(fzs P.p).length=P.p.length:=zag _
 unfold Po.f at *
 generalize (runG lim P t.code [] s p).1=s' at *
 generalize (runG lim P t.code [] s p).2=p' at *
 generalize fzs (runR lim P t.code []).1=D at *
 generalize fzs P.y=Y at *
 generalize fzs P.p=PP at *
 generalize fz P.t=tt at *
 obtain⟨code,outs,dim,par⟩:=t
 dsimp only at *
 refine⟨s',p',kd,hkd2,?_⟩
 rw[f407 _ _ rfl,b407]
 rcases hkd2 with rfl | rfl
 ·simp -implicitDefEqProofs[hr,h1,h2,hy,hp',hl]
 ·simp -implicitDefEqProofs[hr,h1,h2,hy,hp',hl]
theorem zsr(t:Tp)(P:Po)(hs:TpS t)(lim:Nat)(hlim:lim≤4096)(s p:Int)(hP:PvS P 1000)(h:fitT t P.y.length P.p.length=true)(hk:¬ (runR lim P t.code []).2.1=0) :
  ∃(s' p':Int),callH T 407 [.agg [.ptr (.bor 0) 0 3 0 0],etp t,ept P.f] [(.bor 0,bxG 0 s p lim)] =
   some (.tup [.sl [] .an,fltA (runR lim P t.code []).2.1 0 0 (runR lim P t.code []).2.2],[(.bor 0,bxG 0 s' p' lim)]):=by
 obtain⟨hok,h1,h2⟩:=zck h
 have hr:=zbs (T:=T) t hs.small
 have hl:=znu (T:=T) P lim hlim t hok hs.ns h1 h2 hP s p
 rw[(zep t).2 hok]at hr
 unfold endRun at hl
 rw[if_neg hk]at hl
 unfold stRun endR at hl
 simp only[Int.natCast_zero,zfa]at hl
 have hy:(fzs P.y).length=P.y.length:=zag _
 have hp':(fzs P.p).length=P.p.length:=zag _
 unfold Po.f at *
 generalize (runG lim P t.code [] s p).1=s' at *
 generalize (runG lim P t.code [] s p).2=p' at *
 generalize (((runR lim P t.code []).2.1:Nat):Int)=kk at *
 generalize (((runR lim P t.code []).2.2:Nat):Int)=aa at *
 generalize fzs P.y=Y at *
 generalize fzs P.p=PP at *
 generalize fz P.t=tt at *
 obtain⟨code,outs,dim,par⟩:=t
 dsimp only at *
 refine⟨s',p',?_⟩
 rw[f407 _ _ rfl,b407]
 simp -implicitDefEqProofs[hr,h1,h2,hy,hp',hl]
theorem zyl{x:PoF}(h:PoS x 1000):PvS x.v 1000:=by
 refine⟨zbo h.t (by decide),fun q hq=>?_,fun q hq=>?_⟩
 ·obtain⟨u,hu,rfl⟩:=List.mem_map.1 hq
  exact zbo (h.y u hu) (by decide)
 ·obtain⟨u,hu,rfl⟩:=List.mem_map.1 hq
  exact zbo (h.p u hu) (by decide)
def limN(n:Int):Nat:=(limI n).toNat
theorem zss(n:Int):limI n=(limN n:Int)∧limN n≤4096:=by
 unfold limN limI
 split
 ·omega
 ·split<;>omega
theorem zu8(t:Tp)(x:PoF)(bits:Int)(hs:TpS t)(hx:PoS x 1000) :
  callF T 384 [etp t,ept x,.i .i64 bits]=some (.tup [.sl (rowF (fzs (tapeR (limN bits) t x.v).1)) .an,fltA (tapeR (limN bits) t x.v).2.1 0 0 (tapeR (limN bits) t x.v).2.2]):=by
 have hn:=zg4 (T:=T) x hx
 have hg:=zkv (T:=T) bits
 obtain⟨hl1,hl2⟩:=zss bits
 rw[hl1]at hg
 have hP:=zyl hx
 have hlen:x.v.f.y.length=x.v.y.length∧x.v.f.p.length=x.v.p.length:=⟨zag _,zag _⟩
 unfold tapeR
 cases hf:fitT t x.v.y.length x.v.p.length with
 | false=>
  have hm:=zyk (T:=T) t x.v.f hs 0 0 (limN bits) (by rw[hlen.1,hlen.2];exact hf)
  simp only[Bool.false_eq_true,if_false]
  have e0:fzs []=[]:=rfl
  rw[e0,f384 _ rfl,b384]
  generalize x.v.f=Q at *
  obtain⟨code,outs,dim,par⟩:=t
  obtain⟨⟨q0,q1,q2⟩,qy,qp⟩:=Q
  obtain⟨⟨x0,x1,x2⟩,xy,xp⟩:=x
  dsimp only at *
  simp -implicitDefEqProofs[hn,hg,hm]
 | true=>
  simp only[if_true]
  by_cases hk:(runR (limN bits) x.v t.code []).2.1=0
  ·obtain⟨s',p',kd,hkd,hm⟩:=zsq (T:=T) t x.v hs (limN bits) hl2 0 0 hP hf hk
   have e2:=(zho _ _ _ _ hk).1
   have el:(runR (limN bits) x.v t.code []).1.length=t.code.length:=by
    obtain⟨E,h1,h2⟩:=(zho _ _ _ _ hk).2
    rw[h1];simpa using h2
   rw[hk,e2]
   have hfl:(fzs (runR (limN bits) x.v t.code []).1).length=t.code.length:=by rw[zag,el]
   clear el e2 hk
   generalize fzs (runR (limN bits) x.v t.code []).1=D at *
   have ht:List.take t.code.length D=D:=List.take_of_length_le (by omega)
   rw[f384 _ rfl,b384]
   generalize x.v.f=Q at *
   obtain⟨code,outs,dim,par⟩:=t
   obtain⟨⟨q0,q1,q2⟩,qy,qp⟩:=Q
   obtain⟨⟨x0,x1,x2⟩,xy,xp⟩:=x
   dsimp only at *
   rcases hkd with rfl | rfl
   ·simp -implicitDefEqProofs[hn,hg,hm,hfl,ht]
   ·simp -implicitDefEqProofs[hn,hg,hm,hfl,ht]
  ·obtain⟨s',p',hm⟩:=zsr (T:=T) t x.v hs (limN bits) hl2 0 0 hP hf hk
   have e1:=(ztj _ _ _ _ hk).1
   have e0:fzs []=[]:=rfl
   rw[e1,e0]
   clear e1 hk
   generalize (((runR (limN bits) x.v t.code []).2.1:Nat):Int)=kk at *
   generalize (((runR (limN bits) x.v t.code []).2.2:Nat):Int)=aa at *
   rw[f384 _ rfl,b384]
   generalize x.v.f=Q at *
   obtain⟨code,outs,dim,par⟩:=t
   obtain⟨⟨q0,q1,q2⟩,qy,qp⟩:=Q
   obtain⟨⟨x0,x1,x2⟩,xy,xp⟩:=x
   dsimp only at *
   simp -implicitDefEqProofs[hn,hg,hm]
def stOu(D:List Fz)(outs:List Int)(E:List Fz)(i:Nat)(kd:Kind):St:=
 ⟨[(1,.sl (rowF D) .an),(5,.bs (.loc 5) 1 3 0 i),(20,.sl (ints outs) .an),(21,.i .i64 outs.length),(22,.i .i64 i)],[(.loc 5,⟨1,.own,3,rowF (E.take i)⟩)],3⟩
theorem zu9(t:Tp)(D:List Rat)(hs:TpS t)(hok:okT t=true)(hl:D.length=t.code.length)(hD:∀q∈D,sz q≤1000) :
  callF T 409 [etp t,.sl (rowF (fzs D)) .an]=some (.sl (rowF (fzs (outsR t D))) .an):=by
 have hr:=zbs (T:=T) t hs.small
 rw[hok]at hr
 have hO:=(zep t).1 hok
 have hcl:=hO.cl
 have hol:t.outs.length≤6:=by have:=hO.ol;have:=hO.d2;omega
 have hel:(outsR t D).length=t.outs.length:=by simp[outsR]
 have hloop:loopN T 0 0 (.norm false [5]) l409_0 (stOu (fzs D) t.outs (fzs (outsR t D)) 0 .own)=some (.n,⟨[(5,.bs (.loc 5) 1 3 0 t.outs.length)],[(.loc 5,⟨1,.own,3,rowF (fzs (outsR t D))⟩)],3⟩):=by
  refine za1 (fun i=>stOu (fzs D) t.outs (fzs (outsR t D)) i .own) t.outs.length _ (fun i hi=>?_) ?_
  ·have hg:t.outs[i]? = some (t.outs[i]'hi):=List.getElem?_eq_getElem hi
   have hge:=(List.getElem?_eq_some_iff.1 hg).2
   have hws:=zct hi (by omega)
   have hmem:=List.getElem_mem hi
   obtain⟨o1,o2⟩:=hO.outs _ hmem
   obtain⟨k,hk1,hk2,hk3,hka⟩:=zsn (D:=D) (a:=t.outs[i]'hi) ⟨o1,by omega⟩
   have hkae:=(List.getElem?_eq_some_iff.1 hka).2
   have sa:fsz (fz (gI D (t.outs[i]'hi)))≤1000:=zcu (by decide) hD
   have cn:=zbq (T:=T) (fz (gI D (t.outs[i]'hi))) (by omega)
   rw[zb9]at cn
   have hx:(fzs (outsR t D))[i]? = some (fz (gI D (t.outs[i]'hi))):=zfn (by simp[outsR,hg])
   have e:(fzs (outsR t D)).take (i+1)=(fzs (outsR t D)).take i++[fz (gI D (t.outs[i]'hi))]:=by
    rw[List.take_add_one,hx]
    rfl
   have hml:((fzs (outsR t D)).take i).length=i:=by rw[List.length_take,zag,hel];omega
   have hp:=zcj (m:=(fzs (outsR t D)).take i) hml (fz (gI D (t.outs[i]'hi)))
   have hfl:(fzs D).length=D.length:=zag D
   have hi':(i:Int)<t.outs.length:=by omega
   have hb:i≤4294967295:=by omega
   show evX (orc T) T 0 l409_0 (stOu _ _ _ i .own)=some (.n,stOu _ _ _ (i+1) .own)
   unfold stOu
   rw[e]
   clear e hx
   generalize (fzs (outsR t D)).take i=M at *
   generalize fz (gI D (t.outs[i]'hi))=z at *
   generalize fzs D=DD at *
   generalize t.outs[i]'hi=o at *
   subst hk1
   simp -implicitDefEqProofs[l409_0,hi,hi',hg,hge,hws,hk2,hk3,hka,hkae,hfl,cn,hp,hml,hb]
  ·have e:(fzs (outsR t D)).take t.outs.length=fzs (outsR t D):=List.take_of_length_le (by rw[zag,hel];omega)
   show isEx (evX (orc T) T 0 l409_0 (stOu _ _ _ t.outs.length .own))=true∧finX 0 0 _ (evX (orc T) T 0 l409_0 (stOu _ _ _ t.outs.length .own))=_
   unfold stOu
   rw[e]
   generalize fzs (outsR t D)=M at *
   generalize fzs D=DD at *
   constructor<;>simp -implicitDefEqProofs[l409_0]
 unfold stOu at hloop
 simp only[Int.natCast_zero,List.take_zero,zfa]at hloop
 have hfl:(fzs D).length=t.code.length:=by rw[zag,hl]
 have hfo:(fzs (outsR t D)).length=t.outs.length:=by rw[zag,hel]
 generalize fzs (outsR t D)=M at *
 generalize fzs D=DD at *
 have ht:List.take t.outs.length M=M:=List.take_of_length_le (by omega)
 clear hO hok hol hcl hel
 obtain⟨code,outs,dim,par⟩:=t
 dsimp only at *
 rw[f409 _ rfl,b409]
 simp -implicitDefEqProofs[hr,hfl,hloop,hfo,ht]
theorem zst{lim:Nat}{P:Po}(hlim:lim≤4096):∀(l:List Ins) (D:List Rat),(∀q∈D,sz q≤129)→∀q∈(runR lim P l D).1,sz q≤129
 | [],D,h=>h
 | i::r,D,h=>by
  rw[zcm]
  split
  ·simp
  ·split
   ·simp
   ·rename_i hf
    refine zst hlim r _ fun q hq=>?_
    rcases List.mem_append.1 hq with hq | hq
    ·exact h q hq
    ·rw[List.mem_singleton.1 hq]
     have:=zfo (q:=(valI P D i).1) (b:=lim) (by omega)
     omega
theorem zsu(t:Tp)(x:PoF)(bits:Int)(hs:TpS t)(hx:PoS x 1000) :
  callF T 389 [etp t,ept x,.i .i64 bits]=some (.tup [.sl (rowF (fzs (fieldR (limN bits) t x.v).1)) .an,fltA (fieldR (limN bits) t x.v).2.1 0 0 (fieldR (limN bits) t x.v).2.2]):=by
 have h:=zu8 (T:=T) t x bits hs hx
 have hlim:=(zss bits).2
 have e0:fzs []=[]:=rfl
 unfold fieldR
 by_cases hk:(tapeR (limN bits) t x.v).2.1=0
 ·rw[if_pos hk]
  have hf:fitT t x.v.y.length x.v.p.length=true:=by
   cases hf:fitT t x.v.y.length x.v.p.length with
   | true=>rfl
   | false=>unfold tapeR at hk;rw[hf]at hk;simp at hk
  have e1:tapeR (limN bits) t x.v=runR (limN bits) x.v t.code []:=by unfold tapeR;rw[if_pos hf]
  rw[e1]at h hk ⊢
  have e2:=(zho _ _ _ _ hk).1
  have el:(runR (limN bits) x.v t.code []).1.length=t.code.length:=by
   obtain⟨E,h1,h2⟩:=(zho _ _ _ _ hk).2
   rw[h1];simpa using h2
  have ho:=zu9 (T:=T) t (runR (limN bits) x.v t.code []).1 hs ((zep t).2 (zck hf).1) el (fun q hq=>Nat.le_trans (zst hlim _ _ (by simp) q hq) (by decide))
  rw[hk,e2]at h
  clear e1 e2 el hk hf
  generalize fzs (outsR t (runR (limN bits) x.v t.code []).1)=M at *
  generalize fzs (runR (limN bits) x.v t.code []).1=D at *
  obtain⟨code,outs,dim,par⟩:=t
  obtain⟨⟨x0,x1,x2⟩,xy,xp⟩:=x
  dsimp only at *
  rw[f389 _ rfl,b389]
  simp -implicitDefEqProofs[h,ho]
 ·rw[if_neg hk,e0]
  have hk':¬ (((tapeR (limN bits) t x.v).2.1:Nat):Int)=0:=by omega
  clear hk
  generalize (((tapeR (limN bits) t x.v).2.1:Nat):Int)=kk at *
  generalize (((tapeR (limN bits) t x.v).2.2:Nat):Int)=aa at *
  generalize fzs (tapeR (limN bits) t x.v).1=D at *
  obtain⟨code,outs,dim,par⟩:=t
  obtain⟨⟨x0,x1,x2⟩,xy,xp⟩:=x
  rw[f389 _ rfl,b389]
  simp -implicitDefEqProofs[h,hk']
end
def headT(t:Tp)(n:Nat):Tp:=⟨t.code.take n,List.replicate t.outs.length 0,t.dim,t.par⟩
theorem zabj{t:Tp}{many words:Nat}(h:longT t many words=false)(hm:many≤1000)(hw:words≤1000)(d1:-9223372036854775808≤t.dim)(d2:t.dim<9223372036854775808):TpS t:=by
 obtain⟨h1,h2,h3⟩:=zg6 h
 exact⟨⟨by omega,by omega,fun i hi=>by have:=h3 i hi;omega,d1,d2⟩,fun i hi=>by have:=h3 i hi;omega⟩
def t62:Tp:=⟨[⟨3,0,0,(false,[],[])⟩,⟨2,0,0,(false,[],[])⟩,⟨10,0,1,(false,[],[])⟩],[2],1,0⟩
def p62:PoF:=⟨fz 2,[fz 6],[]⟩
def p60:PoF:=⟨(false,[],[]),[fz 6],[]⟩
def bmp(l:List Rat)(i:Int)(x:Rat):List Rat:=l.set i.toNat (gI l i+x)
def turnW(D:List Rat)(x:Ins)(r:Rat):Rat:=if 0<x.b then powZ (gI D x.a) (x.b-1) else if x.b<0 then r/gI D x.a else 0
def thrC(D:List Rat)(x:Ins)(r c:Rat)(co:List Rat):List Rat:=
 if x.op=6 then bmp co x.a (-c)
 else if x.op=7 then bmp (bmp co x.a c) x.b c
 else if x.op=8 then bmp (bmp co x.a c) x.b (-c)
 else if x.op=9 then bmp (bmp co x.a (c*gI D x.b)) x.b (c*gI D x.a)
 else if x.op=10 then bmp (bmp co x.a (c/gI D x.b)) x.b (-(c/gI D x.b*r))
 else if x.op=11 then bmp co x.a (c*(x.b*turnW D x r))
 else co
def thrG(x:Ins)(c:Rat)(g:Po):Po:=
 if x.op=2 then ⟨g.t+c,g.y,g.p⟩ else if x.op=3 then ⟨g.t,bmp g.y x.a c,g.p⟩ else if x.op=4 then ⟨g.t,g.y,bmp g.p x.a c⟩ else g
def backR(lim:Nat)(code:List Ins)(D:List Rat):Nat→List Rat→Po→(List Rat×Po)×Option Nat
 | 0,co,g=>((co,g),none)
 | n+1,co,g=>
  match code[n]? with
  | none=>((co,g),none)
  | some x=>if lim<sizQ (gI co n) then ((co,g),some n) else backR lim code D n (thrC D x (gI D n) (gI co n) co) (thrG x (gI co n) g)
def backL(code:List Ins)(D:List Rat):Nat→List Rat→Po→List Rat×Po
 | 0,co,g=>(co,g)
 | n+1,co,g=>
  match code[n]? with
  | none=>(co,g)
  | some x=>backL code D n (thrC D x (gI D n) (gI co n) co) (thrG x (gI co n) g)
def sendQ:List Int→List Rat→List Rat→List Rat
 | o::os,w::ws,co=>sendQ os ws (bmp co o w)
 | _,_,co=>co
def firstL(lim:Nat):List Rat→Nat→Option Nat
 | [],_=>none
 | q::l,k=>if lim<sizQ q then some k else firstL lim l (k+1)
def zeroP(d p:Nat):Po:=⟨0,List.replicate d 0,List.replicate p 0⟩
def allP(g:Po):List Rat:=g.t::(g.y++g.p)
def backT(lim:Nat)(t:Tp)(P:Po)(w:List Rat):Po×Nat×Nat×Nat:=
 if w.length≠t.outs.length then (zeroP 0 0,2,0,0)
 else if (tapeR lim t P).2.1≠0 then (zeroP 0 0,(tapeR lim t P).2.1,0,(tapeR lim t P).2.2)
 else
  match backR lim t.code (tapeR lim t P).1 t.code.length (sendQ t.outs w (List.replicate t.code.length 0)) (zeroP t.dim.toNat t.par.toNat) with
  | (_,some i)=>(zeroP 0 0,6,2,i)
  | (s,none)=>match firstL lim (allP s.2) 0 with | some k=>(zeroP 0 0,6,3,k) | none=>(s.2,0,0,0)
def addQL(l m:List Rat):List Rat:=List.zipWith (· + ·) l m
def addPo(g h:Po):Po:=⟨g.t+h.t,addQL g.y h.y,addQL g.p h.p⟩
@[simp] theorem zlg(l m:List Rat)(h:l.length=m.length):(addQL l m).length=l.length:=by simp[addQL,h]
theorem zwf(l m:List Rat)(h:l.length=m.length)(i:Int):gI (addQL l m) i=gI l i+gI m i:=by
 unfold gI addQL
 rw[List.getD_eq_getElem?_getD,List.getD_eq_getElem?_getD,List.getD_eq_getElem?_getD,List.getElem?_zipWith]
 by_cases hk:i.toNat<l.length
 ·rw[List.getElem?_eq_getElem hk,List.getElem?_eq_getElem (by omega)]
  rfl
 ·rw[List.getElem?_eq_none (by omega),List.getElem?_eq_none (by omega)]
  simp[Rat.add_zero]
theorem z29(p:List Rat)(l:List Fz):addP p l=addQL p (l.map fv):=by
 unfold addP addQL
 rw[List.zipWith_map_right]
section
variable{T:Tbl}[CLimb T][CNat T][CProd T][CTwos T][CQuot T][CQuotD T][CWhole T][CCommon T][CFrac T][CDigits T][CText T][CJoin T][CRow T]
theorem zjb(a b:List Fz)(ha:a.length≤1000)(hb:b.length≤1000)(za:∀x∈a,fsz x≤400)(zb:∀x∈b,fsz x≤400) :
  callF T 267 [.sl [[.sl (rowF a) .an],[.sl (rowF b) .an]] .an]=some (if b.length=a.length then .tup [.sl (rowF (fzs (addP (a.map fv) b))) .an,.b true] else .tup [.sl [] .an,.b false]):=by
 by_cases h:b.length=a.length
 ·rw[if_pos h]
  exact zyh (T:=T) a [b] ha (by simp) (B:=400) za (fun r hr x hx=>by rw[List.mem_singleton.1 hr]at hx;exact zb x hx) (by decide) (by simp) (fun r hr=>by rw[List.mem_singleton.1 hr];exact h)
 ·rw[if_neg h]
  exact zk9 (T:=T) a b [] ha (fun x hx=>Nat.le_trans (za x hx) (by decide)) (by decide) h
end
section
variable{T:Tbl}[CLimb T][CNat T][CProd T][CTwos T][CQuot T][CQuotD T][CWhole T][CCommon T][CFrac T][CFrac3 T][CFrac5 T][CPow T][CTape T][CGauge T][CEval T][CRun T][CIfc T][CDigits T][CText T][CJoin T][CRow T]
variable[CRef02 T][CRef04 T][CRef05 T][CRef07 T][CRef06 T][CRef08 T][CRef09 T][CRef11 T][CLaw09 T][CLaw11 T][CLaw24 T][CLaw27l T]
abbrev eway(x y:PoF)(bits:Int):AV:=.agg [.b x.t.1,.sl (u32s x.t.2.1) .an,.sl (u32s x.t.2.2) .an,.sl (rowF x.y) .an,.sl (rowF x.p) .an,.b y.t.1,.sl (u32s y.t.2.1) .an,.sl (u32s y.t.2.2) .an,.sl (rowF y.y) .an,.sl (rowF y.p) .an,.i .i64 bits]
def longW(x y:PoF)(bits:Int):Bool:=longP x 6 2 || longP y 6 2 || decide (500<bits)
theorem zo0(x y:PoF)(bits:Int):callF T 385 [eway x y bits]=some (.b (longW x y bits)):=by
 have c1:callF T 380 [ept x,.i .i64 6,.i .i64 2]=some (.b (longP x 6 2)):=zfj (T:=T) x 6 2 (by decide)
 have c2:callF T 380 [ept y,.i .i64 6,.i .i64 2]=some (.b (longP y 6 2)):=zfj (T:=T) y 6 2 (by decide)
 unfold longW
 generalize longP x 6 2=B1 at *
 generalize longP y 6 2=B2 at *
 obtain⟨⟨x0,x1,x2⟩,xy,xp⟩:=x
 obtain⟨⟨y0,y1,y2⟩,yy,yp⟩:=y
 rw[f385 _ rfl,b385]
 cases B1<;>cases B2<;>simp -implicitDefEqProofs[c1,c2]
end
class CPull (T:Tbl):Prop where
def zeroG(d p:Int):PoF:=⟨fz 0,List.replicate (cap300 d) (fz 0),List.replicate (cap300 p) (fz 0)⟩
section
variable{T:Tbl}[CLimb T][CNat T][CProd T][CTwos T][CQuot T][CQuotD T][CWhole T][CCommon T][CFrac T][CFrac3 T][CFrac5 T][CPow T][CDigits T][CText T][CJoin T][CRow T][CPull T]
structure Bk where
 t:Tp
 done:List Fz
 co:List Fz
 g:PoF
abbrev bkH(b:Bk):Heap:=
 [(.bor 0,⟨0,.str,11,[[.sl (rowI b.t.code) .an,.sl (ints b.t.outs) .an,.i .i64 b.t.dim,.i .i64 b.t.par,.sl (rowF b.done) .an,.bs (.bor 1) 1 3 0 b.co.length,.b b.g.t.1,.sl (u32s b.g.t.2.1) .an,.sl (u32s b.g.t.2.2) .an,
   .bs (.bor 2) 2 3 0 b.g.y.length,.bs (.bor 3) 3 3 0 b.g.p.length]]⟩),
  (.bor 1,⟨1,.own,3,rowF b.co⟩),(.bor 2,⟨2,.own,3,rowF b.g.y⟩),(.bor 3,⟨3,.own,3,rowF b.g.p⟩)]
abbrev bkP:AV:=.ptr (.bor 0) 0 11 0 0
end
abbrev blk:Fz:=(false,[],[])
def bmpF(co:List Fz)(k:Nat)(q:Rat):List Fz:=co.set k (fz (fv (co.getD k blk)+q))
abbrev bkN(n ny np:Nat)(b:Bk):Heap:=
 [(.bor 0,⟨0,.str,11,[[.sl (rowI b.t.code) .an,.sl (ints b.t.outs) .an,.i .i64 b.t.dim,.i .i64 b.t.par,.sl (rowF b.done) .an,.bs (.bor 1) 1 3 0 n,.b b.g.t.1,.sl (u32s b.g.t.2.1) .an,.sl (u32s b.g.t.2.2) .an,
   .bs (.bor 2) 2 3 0 ny,.bs (.bor 3) 3 3 0 np]]⟩),
  (.bor 1,⟨1,.own,3,rowF b.co⟩),(.bor 2,⟨2,.own,3,rowF b.g.y⟩),(.bor 3,⟨3,.own,3,rowF b.g.p⟩)]
section
variable{T:Tbl}[CLimb T][CNat T][CProd T][CTwos T][CQuot T][CQuotD T][CWhole T][CCommon T][CFrac T][CFrac3 T][CFrac5 T][CPow T][CDigits T][CText T][CJoin T][CRow T][CPull T]
theorem zv5(e:Int)(h1:-8≤e)(h2:e≤8):sz (e:Rat)≤1:=by
 have h:e=-8∨e=-7∨e=-6∨e=-5∨e=-4∨e=-3∨e=-2∨e=-1∨e=0∨e=1∨e=2∨e=3∨e=4∨e=5∨e=6∨e=7∨e=8:=by omega
 unfold sz
 rw[Rat.num_intCast,Rat.den_intCast]
 refine Nat.max_le.2 ⟨?_,by decide +kernel⟩
 refine zam ?_
 rw[Nat.pow_one]
 omega
end
def slopeI(B:Po)(V S:List Rat)(x:Ins)(v:Rat):Rat:=
 if x.op=1 then 0
 else if x.op=3 then gI B.y x.a
 else if x.op=4 then gI B.p x.a
 else if x.op=6 then -gI S x.a
 else if x.op=7 then gI S x.a+gI S x.b
 else if x.op=8 then gI S x.a-gI S x.b
 else if x.op=9 then gI S x.a*gI V x.b+gI V x.a*gI S x.b
 else if x.op=10 then (gI S x.a-v*gI S x.b)/gI V x.b
 else if x.op=11 then x.b*turnW V x v*gI S x.a
 else B.t
def runD(lim:Nat)(P B:Po):List Ins→List Rat→List Rat→List Rat×List Rat×Nat×Nat×Nat
 | [],V,S=>(V,S,0,0,0)
 | i::r,V,S=>
  if (valI P V i).2=false then ([],[],3,0,V.length)
  else if lim<sizQ (valI P V i).1 then ([],[],6,0,V.length)
  else if lim<sizQ (slopeI B V S i (valI P V i).1) then ([],[],6,1,V.length)
  else runD lim P B r (V++[(valI P V i).1]) (S++[slopeI B V S i (valI P V i).1])
theorem zdt(lim:Nat)(P B:Po)(i:Ins)(r:List Ins)(V S:List Rat):runD lim P B (i::r) V S =
  if (valI P V i).2=false then ([],[],3,0,V.length)
  else if lim<sizQ (valI P V i).1 then ([],[],6,0,V.length)
  else if lim<sizQ (slopeI B V S i (valI P V i).1) then ([],[],6,1,V.length)
  else runD lim P B r (V++[(valI P V i).1]) (S++[slopeI B V S i (valI P V i).1]):=rfl
def slopesG(B:Po)(V:List Rat):List Ins→List Rat→List Rat
 | [],S=>S
 | i::r,S=>slopesG B V r (S++[slopeI B V S i (gI V S.length)])
theorem zn2{A C:List Rat}{i:Int}(h0:0≤i)(h:i<A.length):gI (A++C) i=gI A i:=by
 unfold gI
 rw[List.getD_eq_getElem?_getD,List.getD_eq_getElem?_getD,List.getElem?_append_left (by omega)]
theorem zwm{dim par:Int}{p:Nat}{x:Ins}(hm:mayI dim par p x=true){A C:List Rat}(hA:A.length=p) :
  ((x.op=6∨x.op=11∨(7≤x.op∧x.op≤10))→gI (A++C) x.a=gI A x.a)∧((7≤x.op∧x.op≤10)→gI (A++C) x.b=gI A x.b):=
 ⟨fun h=>by have:=ztg hm h;exact zn2 this.1 (by omega),fun h=>by have:=zth hm h;exact zn2 this.1 (by omega)⟩
theorem zpp{dim par:Int}{p:Nat}{x:Ins}(hm:mayI dim par p x=true)(B:Po){A C S E:List Rat}(hA:A.length=p)(hS:S.length=p)(v:Rat):slopeI B (A++C) (S++E) x v=slopeI B A S x v:=by
 obtain⟨ga,gb⟩:=zwm hm hA (C:=C)
 obtain⟨sa,sb⟩:=zwm hm hS (C:=E)
 rcases zin hm with h | h | h | h | h | h | h | h | h | h
 ·simp[slopeI,h]
 ·simp[slopeI,h]
 ·simp[slopeI,h]
 ·simp[slopeI,h]
 ·simp[slopeI,h,sa (by omega)]
 ·simp[slopeI,h,sa (by omega),sb (by omega)]
 ·simp[slopeI,h,sa (by omega),sb (by omega)]
 ·simp[slopeI,h,ga (by omega),gb (by omega),sa (by omega),sb (by omega)]
 ·simp[slopeI,h,gb (by omega),sa (by omega),sb (by omega)]
 ·simp[slopeI,h,turnW,ga (by omega),sa (by omega)]
theorem ztc(A:List Rat)(x:Rat):gI (A++[x]) (A.length:Nat)=x:=by
 unfold gI
 rw[List.getD_eq_getElem?_getD,Int.toNat_natCast,List.getElem?_append_right (Nat.le_refl _),Nat.sub_self]
 rfl
theorem zmq(lim:Nat)(P B:Po)(dim par:Int):∀(l:List Ins) (V S:List Rat),V.length=S.length→(∀(k:Nat) (x:Ins),l[k]? = some x→mayI dim par (V.length+k:Nat) x=true)→(runD lim P B l V S).2.2.1=0 →
  ∃V' S',runD lim P B l V S=(V++V',S++S',0,0,0)∧V'.length=l.length∧S'.length=l.length∧runR lim P l V=(V++V',0,0)∧(∀q∈S',sizQ q≤lim) ∧
   ∀(k:Nat) (x:Ins),l[k]? = some x→gI (S++S') (V.length+k:Nat)=slopeI B (V++V') (S++S') x (gI (V++V') (V.length+k:Nat))
 | [],V,S,_,_,_=>⟨[],[],by simp[runD],rfl,rfl,by simp[runR],by simp,fun k x hx=>by simp at hx⟩
 | i::r,V,S,hl,hm,h=>by
  rw[zdt]at h
  by_cases h1:(valI P V i).2=false
  ·rw[if_pos h1]at h;cases h
  rw[if_neg h1]at h
  by_cases h2:lim<sizQ (valI P V i).1
  ·rw[if_pos h2]at h;cases h
  rw[if_neg h2]at h
  by_cases h3:lim<sizQ (slopeI B V S i (valI P V i).1)
  ·rw[if_pos h3]at h;cases h
  rw[if_neg h3]at h
  obtain⟨V',S',e1,e2,e3,e4,e5,e6⟩:=zmq lim P B dim par r (V++[(valI P V i).1]) (S++[slopeI B V S i (valI P V i).1]) (by simp[hl]) (fun k x hx=>by
   have:=hm (k+1) x (by simpa using hx)
   rw[List.length_append,List.length_cons,List.length_nil]
   rwa [show V.length+(0+1)+k=V.length+(k+1) by omega]) h
  have hm0:=hm 0 i rfl
  rw[Nat.add_zero]at hm0
  refine⟨(valI P V i).1::V',slopeI B V S i (valI P V i).1::S',?_,by simp[e2],by simp[e3],?_,?_,?_⟩
  ·rw[zdt,if_neg h1,if_neg h2,if_neg h3,e1]
   simp
  ·rw[zcm,if_neg h1,if_neg h2,e4]
   simp
  ·intro q hq
   rcases List.mem_cons.1 hq with rfl | hq
   ·omega
   ·exact e5 q hq
  ·intro k x hx
   have a1:V++(valI P V i).1::V'=(V++[(valI P V i).1])++V':=by simp
   have a2:S++slopeI B V S i (valI P V i).1::S'=(S++[slopeI B V S i (valI P V i).1])++S':=by simp
   cases k with
   | zero=>
    have hx':i=x:=by simpa using hx
    subst hx'
    rw[zpp hm0 B rfl hl.symm,Nat.add_zero,a1,a2]
    generalize slopeI B V S i=sl
    have g2:gI (V++[(valI P V i).1]++V') (V.length:Nat)=(valI P V i).1:=by rw[zn2 (by omega) (by simp;omega),ztc]
    have g1:∀z,gI (S++[z]++S') (V.length:Nat)=z:=fun z=>by rw[hl,zn2 (by omega) (by simp;omega),ztc]
    rw[g2,g1]
   | succ k=>
    have:=e6 k x (by simpa using hx)
    rw[List.length_append,List.length_cons,List.length_nil,show V.length+(0+1)+k=V.length+(k+1) by omega]at this
    rw[a1,a2]
    exact this
def sumT(S:List Rat):Nat→List Rat→Rat
 | 0,_=>0
 | n+1,co=>sumT S n co+gI co n*gI S n
def dotW:List Rat→List Rat→Rat
 | a::l,b::m=>a*b+dotW l m
 | _,_=>0
def meet(g B:Po):Rat:=g.t*B.t+(dotW g.y B.y+dotW g.p B.p)
structure Comb (c:Rat) (a b B:Po):Prop where
 t:B.t=c*a.t+b.t
 y:∀i,gI B.y i=c*gI a.y i+gI b.y i
 p:∀i,gI B.p i=c*gI a.p i+gI b.p i
theorem ztd{dim par:Int}{n:Nat}{x:Ins}(hm:mayI dim par n x=true){c:Rat}{A B C:Po}(hB:Comb c A B C)(V S1 S2 S:List Rat)(v:Rat)(ih:∀i:Int,0≤i→i<n→gI S i=c*gI S1 i+gI S2 i) :
  slopeI C V S x v=c*slopeI A V S1 x v+slopeI B V S2 x v:=by
 have ia:(x.op=6∨x.op=11∨(7≤x.op∧x.op≤10))→gI S x.a=c*gI S1 x.a+gI S2 x.a:=fun h=>ih _ (ztg hm h).1 (ztg hm h).2
 have ib:(7≤x.op∧x.op≤10)→gI S x.b=c*gI S1 x.b+gI S2 x.b:=fun h=>ih _ (zth hm h).1 (zth hm h).2
 rcases zin hm with h | h | h | h | h | h | h | h | h | h
 ·simp only[slopeI,h,Int.reduceEq,if_false,if_true];grind
 ·simp only[slopeI,h,Int.reduceEq,if_false,if_true];exact hB.t
 ·simp only[slopeI,h,Int.reduceEq,if_false,if_true];exact hB.y _
 ·simp only[slopeI,h,Int.reduceEq,if_false,if_true];exact hB.p _
 ·simp only[slopeI,h,Int.reduceEq,if_false,if_true];rw[ia (by omega)];grind
 ·simp only[slopeI,h,Int.reduceEq,if_false,if_true];rw[ia (by omega),ib (by omega)];grind
 ·simp only[slopeI,h,Int.reduceEq,if_false,if_true];rw[ia (by omega),ib (by omega)];grind
 ·simp only[slopeI,h,Int.reduceEq,if_false,if_true];rw[ia (by omega),ib (by omega)];grind
 ·simp only[slopeI,h,Int.reduceEq,if_false,if_true];rw[ia (by omega),ib (by omega),Rat.div_def,Rat.div_def,Rat.div_def];grind
 ·simp only[slopeI,h,Int.reduceEq,if_false,if_true];rw[ia (by omega)];grind
theorem zpq{dim par:Int}{code:List Ins}(hm:∀(k:Nat) (x:Ins),code[k]? = some x→mayI dim par (k:Nat) x=true){c:Rat}{A B C:Po}(hB:Comb c A B C){V S1 S2 S:List Rat}
  (h1:∀(k:Nat) (x:Ins),code[k]? = some x→gI S1 (k:Nat)=slopeI A V S1 x (gI V (k:Nat)))
  (h2:∀(k:Nat) (x:Ins),code[k]? = some x→gI S2 (k:Nat)=slopeI B V S2 x (gI V (k:Nat)))
  (h3:∀(k:Nat) (x:Ins),code[k]? = some x→gI S (k:Nat)=slopeI C V S x (gI V (k:Nat))):∀k:Nat,k<code.length→gI S (k:Nat)=c*gI S1 (k:Nat)+gI S2 (k:Nat):=by
 intro k
 induction k using Nat.strongRecOn with
 | _ k ih=>
  intro hk
  obtain⟨x,hx⟩:∃x,code[k]? = some x:=⟨_,List.getElem?_eq_getElem hk⟩
  rw[h1 k x hx,h2 k x hx,h3 k x hx]
  refine ztd (hm k x hx) hB V S1 S2 S _ fun i h0 hi=>?_
  obtain⟨j,rfl⟩:∃j:Nat,i=j:=⟨i.toNat,by omega⟩
  exact ih j (by omega) (by omega)
def pushT(lim:Nat)(t:Tp)(P B:Po):List Rat×List Rat×Nat×Nat×Nat:=
 if P.y.length=B.y.length∧P.p.length=B.p.length∧fitT t P.y.length P.p.length=true then runD lim P B t.code [] [] else ([],[],2,0,0)
theorem zdi{lim:Nat}{t:Tp}{P B:Po}(h:(pushT lim t P B).2.2.1=0):OkTp t∧(P.y.length:Int)=t.dim∧(P.p.length:Int)=t.par∧B.y.length=P.y.length∧B.p.length=P.p.length ∧
  (pushT lim t P B).2.2=(0,0,0)∧tapeR lim t P=((pushT lim t P B).1,0,0)∧(pushT lim t P B).1.length=t.code.length∧(pushT lim t P B).2.1.length=t.code.length∧(∀q∈(pushT lim t P B).2.1,sizQ q≤lim) ∧
  ∀(k:Nat) (x:Ins),t.code[k]? = some x→gI (pushT lim t P B).2.1 (k:Nat)=slopeI B (pushT lim t P B).1 (pushT lim t P B).2.1 x (gI (pushT lim t P B).1 (k:Nat)):=by
 unfold pushT at h ⊢
 by_cases hc:P.y.length=B.y.length∧P.p.length=B.p.length∧fitT t P.y.length P.p.length=true
 ·rw[if_pos hc]at h ⊢
  obtain⟨hok,hd,hp⟩:=zck hc.2.2
  obtain⟨V',S',e1,e2,e3,e4,e5,e6⟩:=zmq lim P B t.dim t.par t.code [] [] rfl (fun k x hx=>by
   have:=hok.may k x hx
   rwa [List.length_nil,Nat.zero_add]) h
  rw[List.nil_append,List.nil_append]at e1
  rw[List.nil_append]at e4
  have e7:tapeR lim t P=(V',0,0):=by unfold tapeR;rw[if_pos hc.2.2,e4]
  rw[e1]
  refine⟨hok,hd,hp,hc.1.symm,hc.2.1.symm,rfl,e7,e2,e3,e5,fun k x hx=>?_⟩
  have:=e6 k x hx
  rw[List.nil_append,List.nil_append,List.length_nil,Nat.zero_add]at this
  exact this
 ·rw[if_neg hc]at h;cases h
theorem zvn{lim:Nat}{t:Tp}{P A B C:Po}{c:Rat}(hB:Comb c A B C)(h1:(pushT lim t P A).2.2.1=0)(h2:(pushT lim t P B).2.2.1=0)(h3:(pushT lim t P C).2.2.1=0) :
  (pushT lim t P A).1=(pushT lim t P B).1∧(pushT lim t P C).1=(pushT lim t P A).1∧∀k:Nat,k<t.code.length→gI (pushT lim t P C).2.1 (k:Nat)=c*gI (pushT lim t P A).2.1 (k:Nat)+gI (pushT lim t P B).2.1 (k:Nat):=by
 obtain⟨hok,_,_,_,_,_,a1,_,_,_,a2⟩:=zdi h1
 obtain⟨_,_,_,_,_,_,b1,_,_,_,b2⟩:=zdi h2
 obtain⟨_,_,_,_,_,_,c1,_,_,_,c2⟩:=zdi h3
 have e1:(pushT lim t P B).1=(pushT lim t P A).1:=by rw[a1]at b1;exact(congrArg Prod.fst b1).symm
 have e2:(pushT lim t P C).1=(pushT lim t P A).1:=by rw[a1]at c1;exact(congrArg Prod.fst c1).symm
 rw[e1]at b2
 rw[e2]at c2
 exact⟨e1.symm,e2,zpq hok.may hB a2 b2 c2⟩
abbrev Du:=Fz×Fz
abbrev celD(x:Du):List AV:=[.b x.1.1,.sl (u32s x.1.2.1) .an,.sl (u32s x.1.2.2) .an,.b x.2.1,.sl (u32s x.2.2.1) .an,.sl (u32s x.2.2.2) .an]
abbrev edu(x:Du):AV:=.agg (celD x)
def rowD(l:List Du):List (List AV):=l.map celD
@[simp] theorem zyw(l:List Du):(rowD l).length=l.length:=by simp[rowD]
@[simp] theorem zs6(l:List Du):wkL (rowD l)=rowD l:=by rw[zcq];simp[rowD,wkR,wkA]
@[simp] theorem z6x(l:List Du)(i:Nat)(h:i<(rowD l).length):(rowD l)[i]=celD (l[i]'(by simpa using h)):=by simp[rowD]
theorem zlh(l:List Du)(x:Du):rowD l++[celD x]=rowD (l++[x]):=by simp[rowD]
@[simp] theorem z3v(l:List Du)(n:Nat):(rowD l).take n=rowD (l.take n):=by simp[rowD]
@[simp] theorem zjl:rowD []=[]:=rfl
theorem zs7{m:List Du}{n:Nat}(h:m.length=n)(x:Du):wkL (rowD (List.take n m)++[celD x])=rowD (m++[x]):=by
 rw[List.take_of_length_le (by omega),zlh,zs6]
def zipD:List Rat→List Rat→List Du
 | v::V,s::S=>(fz v,fz s)::zipD V S
 | _,_=>[]
theorem zaw:∀{V S:List Rat},V.length=S.length→(zipD V S).length=V.length
 | [],[],_=>rfl
 | [],_::_,h=>by simp at h
 | _::_,[],h=>by simp at h
 | _::_,_::_,h=>by simp[zipD,zaw (Nat.succ.inj h)]
theorem zn0:∀{V S:List Rat} {k:Nat},V.length=S.length→k<V.length→(zipD V S)[k]? = some (fz (gI V (k:Nat)),fz (gI S (k:Nat)))
 | [],_,_,_,h=>by simp at h
 | _::_,[],_,h,_=>by simp at h
 | _::_,_::_,0,_,_=>rfl
 | _::V,_::S,k+1,hl,h=>by
  have:=zn0 (V:=V) (S:=S) (k:=k) (Nat.succ.inj hl) (by simpa using h)
  simpa[zipD,gI]using this
theorem zli:∀{V S:List Rat} (v s:Rat),V.length=S.length→zipD (V++[v]) (S++[s])=zipD V S++[(fz v,fz s)]
 | [],[],_,_,_=>rfl
 | [],_::_,_,_,h=>by simp at h
 | _::_,[],_,_,h=>by simp at h
 | _::_,_::_,v,s,h=>by simp[zipD,zli v s (Nat.succ.inj h)]
structure PoD where
 t:Du
 y:List Du
 p:List Du
def dua(P B:Po):PoD:=⟨(fz P.t,fz B.t),zipD P.y B.y,zipD P.p B.p⟩
abbrev epd(x:PoD):AV:=.agg [.b x.t.1.1,.sl (u32s x.t.1.2.1) .an,.sl (u32s x.t.1.2.2) .an,.b x.t.2.1,.sl (u32s x.t.2.2.1) .an,.sl (u32s x.t.2.2.2) .an,.sl (rowD x.y) .an,.sl (rowD x.p) .an]
theorem zhk{V S:List Rat}{a:Int}(h:0≤a∧a<V.length)(hl:V.length=S.length):∃k:Nat,a=k∧(k:Int)<V.length∧k<V.length∧(zipD V S)[k]? = some (fz (gI V a),fz (gI S a)):=by
 obtain⟨k,rfl⟩:∃k:Nat,a=k:=⟨a.toNat,by omega⟩
 exact⟨k,rfl,h.2,by omega,zn0 hl (by omega)⟩
theorem zs8{B:Po}{V S:List Rat}{x:Ins}{dim par:Int}{p:Nat}(hm:mayI dim par p x=true)(hB:PvS B 1000)(hV:∀q∈V,sz q≤129)(hS:∀q∈S,sz q≤129)(v:Rat)(hv:x.op=10∨x.op=11→sz v≤1100):sz (slopeI B V S x v)≤2000:=by
 have ga:=zcu (D:=V) (a:=x.a) (B:=129) (by decide) hV
 have gb:=zcu (D:=V) (a:=x.b) (B:=129) (by decide) hV
 have sa:=zcu (D:=S) (a:=x.a) (B:=129) (by decide) hS
 have sb:=zcu (D:=S) (a:=x.b) (B:=129) (by decide) hS
 have gy:=zcu (D:=B.y) (a:=x.a) (B:=1000) (by decide) hB.y
 have gp:=zcu (D:=B.p) (a:=x.a) (B:=1000) (by decide) hB.p
 have gt:=hB.t
 rcases zin hm with h | h | h | h | h | h | h | h | h | h
 ·simp[slopeI,h,zhm]
 ·simp[slopeI,h];omega
 ·simp[slopeI,h];omega
 ·simp[slopeI,h];omega
 ·simp[slopeI,h,zta];omega
 ·have:=zhn (gI S x.a) (gI S x.b);simp[slopeI,h];omega
 ·have:=zn1 (gI S x.a) (gI S x.b);simp[slopeI,h];omega
 ·have a1:=zcl (gI S x.a) (gI V x.b)
  have a2:=zcl (gI V x.a) (gI S x.b)
  have:=zhn (gI S x.a*gI V x.b) (gI V x.a*gI S x.b)
  simp[slopeI,h];omega
 ·have hv:=hv (.inl h)
  have a1:=zcl v (gI S x.b)
  have a2:=zn1 (gI S x.a) (v*gI S x.b)
  have:=zik (gI S x.a-v*gI S x.b) (gI V x.b)
  simp[slopeI,h];omega
 ·obtain⟨e1,e2⟩:=zti hm h
  have hv:=hv (.inr h)
  have ht:sz (turnW V x v)≤1229:=by
   unfold turnW
   split
   ·exact Nat.le_trans (zhf ga (by omega) (by omega)) (by decide)
   ·split
    ·have:=zik v (gI V x.a);omega
    ·rw[zhm];decide
  have hb:sz (x.b:Rat)≤1:=zv5 x.b e1 e2
  have a1:=zcl (x.b:Rat) (turnW V x v)
  have:=zcl ((x.b:Rat)*turnW V x v) (gI S x.a)
  simp[slopeI,h];omega
abbrev mD2:AV:=.agg [.dead,.dead]
abbrev noD:Du:=((false,[],[]),(false,[],[]))
section
variable{T:Tbl}[CLimb T][CNat T][CProd T][CTwos T][CQuot T][CQuotD T][CWhole T][CCommon T][CFrac T][CFrac3 T][CFrac5 T][CPow T][CTape T][CGauge T][CEval T][CPush T][CIfc2 T]
theorem zabk(x:Fz)(hx:fsz x≤1000):callF T 453 [mD2,efz x]=some (edu (fz (fv x),fz 0)):=by
 have h:=zbq (T:=T) x (by omega)
 have h0:=zf4 (T:=T)
 rw[f453 _ rfl,b453]
 generalize fz (fv x)=z at *
 generalize fz 0=z0 at *
 simp -implicitDefEqProofs[h,h0]
theorem z3a(x:Du)(hx:fsz x.1≤1000)(hy:fsz x.2≤1000):callF T 452 [mD2,edu x]=some (edu (fz (-fv x.1),fz (-fv x.2))):=by
 have h:=zi6 (T:=T) x.1 (by omega)
 have h2:=zi6 (T:=T) x.2 (by omega)
 rw[f452 _ rfl,b452]
 generalize fz (-fv x.1)=z at *
 generalize fz (-fv x.2)=z0 at *
 simp -implicitDefEqProofs[h,h2]
theorem z3b(x y:Du)(h1:fsz x.1≤1000)(h2:fsz x.2≤1000)(h3:fsz y.1≤1000)(h4:fsz y.2≤1000):callF T 449 [mD2,edu x,edu y]=some (edu (fz (fv x.1+fv y.1),fz (fv x.2+fv y.2))):=by
 have h:=zd2 (T:=T) x.1 y.1 h1 h3
 have h':=zd2 (T:=T) x.2 y.2 h2 h4
 rw[f449 _ rfl,b449]
 generalize fz (fv x.1+fv y.1)=z at *
 generalize fz (fv x.2+fv y.2)=z0 at *
 simp -implicitDefEqProofs[h,h']
theorem z3c(x y:Du)(h1:fsz x.1≤1000)(h2:fsz x.2≤1000)(h3:fsz y.1≤1000)(h4:fsz y.2≤1000):callF T 456 [mD2,edu x,edu y]=some (edu (fz (fv x.1-fv y.1),fz (fv x.2-fv y.2))):=by
 have h:=zf5 (T:=T) x.1 y.1 h1 h3
 have h':=zf5 (T:=T) x.2 y.2 h2 h4
 rw[f456 _ rfl,b456]
 generalize fz (fv x.1-fv y.1)=z at *
 generalize fz (fv x.2-fv y.2)=z0 at *
 simp -implicitDefEqProofs[h,h']
theorem z3d(x y:Du)(h1:fsz x.1≤400)(h2:fsz x.2≤400)(h3:fsz y.1≤400)(h4:fsz y.2≤400):callF T 451 [mD2,edu x,edu y]=some (edu (fz (fv x.1*fv y.1),fz (fv x.2*fv y.1+fv x.1*fv y.2))):=by
 have m1:=zdc (T:=T) x.1 y.1 (by omega) (by omega)
 have m2:=zdc (T:=T) x.2 y.1 (by omega) (by omega)
 have m3:=zdc (T:=T) x.1 y.2 (by omega) (by omega)
 have s1:=zcl (fv x.2) (fv y.1)
 have s2:=zcl (fv x.1) (fv y.2)
 have v1:=zbo h1 (by decide)
 have v2:=zbo h2 (by decide)
 have v3:=zbo h3 (by decide)
 have v4:=zbo h4 (by decide)
 have ad:=zd2 (T:=T) (fz (fv x.2*fv y.1)) (fz (fv x.1*fv y.2)) (by rw[zb4];omega) (by rw[zb4];omega)
 rw[zb9,zb9]at ad
 clear s1 s2 v1 v2 v3 v4
 rw[f451 _ rfl,b451]
 generalize fz (fv x.2*fv y.1+fv x.1*fv y.2)=z at *
 generalize fz (fv x.1*fv y.1)=z0 at *
 generalize fz (fv x.2*fv y.1)=z1 at *
 generalize fz (fv x.1*fv y.2)=z2 at *
 simp -implicitDefEqProofs[m1,m2,m3,ad]
theorem z3e(x y:Du)(h1:fsz x.1≤129)(h2:fsz x.2≤129)(h3:fsz y.1≤129)(h4:fsz y.2≤129):callF T 455 [mD2,edu x,edu y] =
  some (if fv y.1≠0 then .tup [edu (fz (fv x.1/fv y.1),fz ((fv x.2-fv x.1/fv y.1*fv y.2)/fv y.1)),.b true] else .tup [edu noD,.b false]):=by
 have q1:=zi7 (T:=T) x.1 y.1 (by omega) (by omega)
 have v1:=zbo h1 (by decide)
 have v2:=zbo h2 (by decide)
 have v3:=zbo h3 (by decide)
 have v4:=zbo h4 (by decide)
 have s1:=zik (fv x.1) (fv y.1)
 have s2:=zcl (fv x.1/fv y.1) (fv y.2)
 have s3:=zn1 (fv x.2) (fv x.1/fv y.1*fv y.2)
 have m1:=zdc (T:=T) (fz (fv x.1/fv y.1)) y.2 (by rw[zb4];omega) (by omega)
 rw[zb9]at m1
 have u1:=zf5 (T:=T) x.2 (fz (fv x.1/fv y.1*fv y.2)) (by omega) (by rw[zb4];omega)
 rw[zb9]at u1
 have q2:=zi7 (T:=T) (fz (fv x.2-fv x.1/fv y.1*fv y.2)) y.1 (by rw[zb4];omega) (by omega)
 rw[zb9]at q2
 clear s1 s2 s3 v1 v2 v3 v4
 rw[f455 _ rfl,b455]
 generalize fz ((fv x.2-fv x.1/fv y.1*fv y.2)/fv y.1)=z1 at *
 generalize fz (fv x.2-fv x.1/fv y.1*fv y.2)=z2 at *
 generalize fz (fv x.1/fv y.1*fv y.2)=z3 at *
 generalize fz (fv x.1/fv y.1)=z4 at *
 by_cases hz:fv y.1=0
 ·rw[if_neg (by simp[hz])]
  rw[hz]at q1
  simp -implicitDefEqProofs[q1]
 ·rw[if_pos hz]
  rw[decide_eq_true hz]at q1 q2
  simp -implicitDefEqProofs[q1,m1,u1,q2]
def turnE(q:Rat)(e:Int)(v:Rat):Rat:=if 0<e then powZ q (e-1) else if e<0 then v/q else 0
theorem z3f(x:Du)(e:Int)(he:-8≤e)(he':e≤8)(h1:fsz x.1≤129)(h2:fsz x.2≤129):callF T 454 [mD2,edu x,.i .i64 e] =
  some (if e<0∧fv x.1=0 then .tup [edu noD,.b false] else .tup [edu (fz (powZ (fv x.1) e),fz ((e:Rat)*turnE (fv x.1) e (powZ (fv x.1) e)*fv x.2)),.b true]):=by
 have c0:=zf4 (T:=T)
 have ce:=zi5 (T:=T) e (by omega) (by omega)
 have cp:=zi8 (T:=T) x.1 e (by omega)
 rw[zml he he']at cp
 have v1:=zbo h1 (by decide)
 have v2:=zbo h2 (by decide)
 have ze:=zv5 e he he'
 by_cases hz:e<0∧fv x.1=0
 ·rw[if_pos hz]at cp ⊢
  rw[f454 _ rfl,b454]
  generalize fz 0=z0 at *
  simp -implicitDefEqProofs[cp]
 rw[if_neg hz]at cp ⊢
 have zp:sz (powZ (fv x.1) e)≤1033:=zhf v1 he he'
 have fin:∀q:Rat,sz q≤1162→callF T 217 [efz (fz (e:Rat)),efz (fz q)]=some (efz (fz (e*q)))∧callF T 217 [efz (fz (e*q)),efz x.2]=some (efz (fz (e*q*fv x.2))):=by
  intro q hq
  have z1:=zcl (e:Rat) q
  have m1:=zg3 (T:=T) (fz (e:Rat)) (fz q) (by rw[zb4];omega) (by rw[zb4];omega)
  have m2:=zg3 (T:=T) (fz (e*q)) x.2 (by rw[zb4];omega) (by omega)
  rw[zb9,zb9]at m1
  rw[zb9]at m2
  exact⟨m1,m2⟩
 unfold turnE
 by_cases h0:0<e
 ·have cp2:=zi8 (T:=T) x.1 (e-1) (by omega)
  rw[zml (q:=fv x.1) (e:=e-1) (by omega) (by omega),if_neg (by omega)]at cp2
  have z2:sz (powZ (fv x.1) (e-1))≤1162:=Nat.le_trans (zhf v1 (by omega) (by omega)) (by decide)
  obtain⟨m1,m2⟩:=fin _ z2
  rw[if_pos h0]
  have hw:IntKind.wrap .i64 (e-1)=e-1:=zad _ (by omega)
  have hn:¬ e<0:=by omega
  clear fin v1 v2 ze zp z2 hz
  generalize fz (e*powZ (fv x.1) (e-1)*fv x.2)=y1 at *
  generalize fz (e*powZ (fv x.1) (e-1))=y2 at *
  generalize fz (powZ (fv x.1) (e-1))=y3 at *
  generalize fz (powZ (fv x.1) e)=y4 at *
  generalize fz (e:Rat)=y5 at *
  generalize fz 0=z0 at *
  rw[f454 _ rfl,b454]
  simp -implicitDefEqProofs[c0,ce,cp,cp2,m1,m2,h0,hw,hn]
 ·rw[if_neg h0]
  by_cases hn:e<0
  ·have z3:=zik (powZ (fv x.1) e) (fv x.1)
   have cq:=zku (T:=T) (fz (powZ (fv x.1) e)) x.1 (by rw[zb4];omega) (by omega)
   rw[zb9]at cq
   obtain⟨m1,m2⟩:=fin (powZ (fv x.1) e/fv x.1) (by omega)
   rw[if_pos hn]
   clear fin v1 v2 ze zp z3 hz
   generalize decide (fv x.1≠0)=bb at *
   generalize fz (e*(powZ (fv x.1) e/fv x.1)*fv x.2)=y1 at *
   generalize fz (e*(powZ (fv x.1) e/fv x.1))=y2 at *
   generalize fz (powZ (fv x.1) e/fv x.1)=y3 at *
   generalize fz (powZ (fv x.1) e)=y4 at *
   generalize fz (e:Rat)=y5 at *
   generalize fz 0=z0 at *
   rw[f454 _ rfl,b454]
   simp -implicitDefEqProofs[c0,ce,cp,cq,m1,m2,h0,hn]
  ·obtain⟨m1,m2⟩:=fin 0 (by decide +kernel)
   rw[if_neg hn]
   clear fin v1 v2 ze zp hz
   generalize fz (e*0*fv x.2)=y1 at *
   generalize fz (e*0)=y2 at *
   generalize fz (powZ (fv x.1) e)=y4 at *
   generalize fz (e:Rat)=y5 at *
   generalize fz 0=z0 at *
   rw[f454 _ rfl,b454]
   simp -implicitDefEqProofs[c0,ce,cp,m1,m2,h0,hn]
theorem zx4(i:Ins)(P B:Po)(hop:i.op=1∨i.op=2∨i.op=3∨i.op=4)(hn:fsz i.n≤1000)(hy:i.op=3→0≤i.a∧i.a<P.y.length)(hp:i.op=4→0≤i.a∧i.a<P.p.length)(ly:P.y.length=B.y.length)(lp:P.p.length=B.p.length) :
  callF T 436 [mD2,.agg (celI i),epd (dua P B)]=some (edu (fz (valI P [] i).1,fz (slopeI B [] [] i 0))):=by
 have h1:=zabk (T:=T) i.n hn
 obtain⟨op,a,b,n⟩:=i
 obtain⟨t,y,p⟩:=P
 obtain⟨t',y',p'⟩:=B
 dsimp only at *
 unfold valI slopeI dua
 dsimp only
 rw[f436 _ rfl,b436]
 rcases hop with rfl | rfl | rfl | rfl
 ·show _=some (edu (fz (fv n),fz 0))
  generalize fz (fv n)=z at *
  generalize fz 0=z0 at *
  generalize zipD y y'=Y at *
  generalize zipD p p'=PP at *
  generalize fz t=tt at *
  generalize fz t'=tt' at *
  simp -implicitDefEqProofs[h1]
 ·show _=some (edu (fz t,fz t'))
  generalize zipD y y'=Y at *
  generalize zipD p p'=PP at *
  generalize fz t=tt at *
  generalize fz t'=tt' at *
  simp -implicitDefEqProofs
 ·obtain⟨k,e,hk',hk,hg⟩:=zhk (hy rfl) ly
  subst e
  have hge:=(List.getElem?_eq_some_iff.1 hg).2
  have hl:(zipD y y').length=y.length:=zaw ly
  show _=some (edu (fz (gI y k),fz (gI y' k)))
  generalize zipD y y'=Y at *
  generalize zipD p p'=PP at *
  generalize fz t=tt at *
  generalize fz t'=tt' at *
  generalize fz (gI y k)=z at *
  generalize fz (gI y' k)=z' at *
  simp -implicitDefEqProofs[hk,hk',hg,hge,hl]
 ·obtain⟨k,e,hk',hk,hg⟩:=zhk (hp rfl) lp
  subst e
  have hge:=(List.getElem?_eq_some_iff.1 hg).2
  have hl:(zipD p p').length=p.length:=zaw lp
  show _=some (edu (fz (gI p k),fz (gI p' k)))
  generalize zipD y y'=Y at *
  generalize zipD p p'=PP at *
  generalize fz t=tt at *
  generalize fz t'=tt' at *
  generalize fz (gI p k)=z at *
  generalize fz (gI p' k)=z' at *
  simp -implicitDefEqProofs[hk,hk',hg,hge,hl]
theorem zx5(i:Ins)(P B:Po)(V S:List Rat)(dim par:Int)(hm:mayI dim par V.length i=true)(hd:(P.y.length:Int)=dim)(hp:(P.p.length:Int)=par)(ly:P.y.length=B.y.length)(lp:P.p.length=B.p.length)(lS:V.length=S.length)(hn:fsz i.n≤1000)(hV:∀q∈V,sz q≤129)(hS:∀q∈S,sz q≤129) :
  ∃w:Du,callF T 432 [mD2,.agg (celI i),epd (dua P B),.sl (rowD (zipD V S)) .an]=some (.tup [edu w,.b (valI P V i).2])∧((valI P V i).2=true→w=(fz (valI P V i).1,fz (slopeI B V S i (valI P V i).1))):=by
 have hop:=zin hm
 by_cases hleaf:i.op=1∨i.op=2∨i.op=3∨i.op=4
 ·have h1:=zx4 (T:=T) i P B hleaf hn (fun h=>by have:=z3z hm h;omega) (fun h=>by have:=z30 hm h;omega) ly lp
  have e:valI P V i=((valI P [] i).1,true):=by
   unfold valI
   rcases hleaf with h | h | h | h<;>simp[h]
  have e2:∀v,slopeI B V S i v=slopeI B [] [] i 0:=by
   intro v
   unfold slopeI
   rcases hleaf with h | h | h | h<;>simp[h]
  rw[e,e2]
  refine⟨_,?_,fun _=>rfl⟩
  generalize fz (valI P [] i).1=z at *
  generalize fz (slopeI B [] [] i 0)=z' at *
  generalize zipD V S=DD at *
  obtain⟨op,a,b,n⟩:=i
  generalize dua P B=Q at *
  obtain⟨⟨⟨t0,t1,t2⟩,⟨t3,t4,t5⟩⟩,y,p⟩:=Q
  clear e e2 hm hop hd hp ly lp lS hV hS
  dsimp only at *
  rw[f432 _ rfl,b432]
  rcases hleaf with rfl | rfl | rfl | rfl<;>simp -implicitDefEqProofs[h1]
 have ha:=ztg hm (by omega)
 obtain⟨k,hk1,hk2,hk3,hka⟩:=zhk ha lS
 have sa:fsz (fz (gI V i.a))≤129:=zcu (by decide) hV
 have sa':fsz (fz (gI S i.a))≤129:=zcu (by decide) hS
 have hkae:=(List.getElem?_eq_some_iff.1 hka).2
 have hl:(zipD V S).length=V.length:=zaw lS
 have c6:=z3a (T:=T) (fz (gI V i.a),fz (gI S i.a)) (by dsimp only;omega) (by dsimp only;omega)
 dsimp only at c6
 rw[zb9,zb9]at c6
 by_cases h6:i.op=6
 ·have e:valI P V i=(-gI V i.a,true):=by simp[valI,h6]
  have e2:∀v,slopeI B V S i v=-gI S i.a:=by intro v;simp[slopeI,h6]
  rw[e,e2]
  refine⟨_,?_,fun _=>rfl⟩
  generalize fz (-gI V i.a)=z at *
  generalize fz (-gI S i.a)=z' at *
  generalize fz (gI V i.a)=u at *
  generalize fz (gI S i.a)=u' at *
  generalize zipD V S=DD at *
  obtain⟨op,a,b,n⟩:=i
  generalize dua P B=Q at *
  obtain⟨⟨⟨t0,t1,t2⟩,⟨t3,t4,t5⟩⟩,y,p⟩:=Q
  clear e e2 hm hop hd hp ly lp hV hS hleaf
  dsimp only at *
  subst h6 hk1
  rw[f432 _ rfl,b432]
  simp -implicitDefEqProofs[hk2,hk3,hka,hkae,hl,c6]
 by_cases h11:i.op=11
 ·have hb:=zti hm h11
  have c11:=z3f (T:=T) (fz (gI V i.a),fz (gI S i.a)) i.b hb.1 hb.2 sa sa'
  dsimp only at c11
  rw[zb9,zb9]at c11
  have e:valI P V i=if i.b<0∧gI V i.a=0 then (0,false) else (powZ (gI V i.a) i.b,true):=by simp[valI,h11]
  have e2:∀v,slopeI B V S i v=i.b*turnE (gI V i.a) i.b v*gI S i.a:=by intro v;simp[slopeI,h11,turnW,turnE]
  by_cases hz:i.b<0∧gI V i.a=0
  ·rw[if_pos hz]at e c11
   rw[e]
   refine⟨noD,?_,fun h=>by cases h⟩
   generalize fz (gI V i.a)=u at *
   generalize fz (gI S i.a)=u' at *
   generalize zipD V S=DD at *
   obtain⟨op,a,b,n⟩:=i
   generalize dua P B=Q at *
   obtain⟨⟨⟨t0,t1,t2⟩,⟨t3,t4,t5⟩⟩,y,p⟩:=Q
   clear e e2 hm hop hd hp ly lp hV hS hleaf
   dsimp only at *
   subst h11 hk1
   rw[f432 _ rfl,b432]
   simp -implicitDefEqProofs[hk2,hk3,hka,hkae,hl,c11]
  ·rw[if_neg hz]at e c11
   rw[e,e2]
   dsimp only
   refine⟨_,?_,fun _=>rfl⟩
   generalize fz (i.b*turnE (gI V i.a) i.b (powZ (gI V i.a) i.b)*gI S i.a)=z' at *
   generalize fz (powZ (gI V i.a) i.b)=z at *
   generalize fz (gI V i.a)=u at *
   generalize fz (gI S i.a)=u' at *
   generalize zipD V S=DD at *
   obtain⟨op,a,b,n⟩:=i
   generalize dua P B=Q at *
   obtain⟨⟨⟨t0,t1,t2⟩,⟨t3,t4,t5⟩⟩,y,p⟩:=Q
   clear e e2 hm hop hd hp ly lp hV hS hleaf
   dsimp only at *
   subst h11 hk1
   rw[f432 _ rfl,b432]
   simp -implicitDefEqProofs[hk2,hk3,hka,hkae,hl,c11]
 have hb:=zth hm (by omega)
 obtain⟨j,hj1,hj2,hj3,hjb⟩:=zhk hb lS
 have sb:fsz (fz (gI V i.b))≤129:=zcu (by decide) hV
 have sb':fsz (fz (gI S i.b))≤129:=zcu (by decide) hS
 have hjbe:=(List.getElem?_eq_some_iff.1 hjb).2
 have c7:=z3b (T:=T) (fz (gI V i.a),fz (gI S i.a)) (fz (gI V i.b),fz (gI S i.b)) (by dsimp only;omega) (by dsimp only;omega) (by dsimp only;omega) (by dsimp only;omega)
 have c8:=z3c (T:=T) (fz (gI V i.a),fz (gI S i.a)) (fz (gI V i.b),fz (gI S i.b)) (by dsimp only;omega) (by dsimp only;omega) (by dsimp only;omega) (by dsimp only;omega)
 have c9:=z3d (T:=T) (fz (gI V i.a),fz (gI S i.a)) (fz (gI V i.b),fz (gI S i.b)) (by dsimp only;omega) (by dsimp only;omega) (by dsimp only;omega) (by dsimp only;omega)
 have c10:=z3e (T:=T) (fz (gI V i.a),fz (gI S i.a)) (fz (gI V i.b),fz (gI S i.b)) sa sa' sb sb'
 dsimp only at c7 c8 c9 c10
 rw[zb9,zb9,zb9,zb9]at c7 c8 c9 c10
 have e7:i.op=7→valI P V i=(gI V i.a+gI V i.b,true)∧∀v,slopeI B V S i v=gI S i.a+gI S i.b:=fun h=>by simp[valI,slopeI,h]
 have e8:i.op=8→valI P V i=(gI V i.a-gI V i.b,true)∧∀v,slopeI B V S i v=gI S i.a-gI S i.b:=fun h=>by simp[valI,slopeI,h]
 have e9:i.op=9→valI P V i=(gI V i.a*gI V i.b,true)∧∀v,slopeI B V S i v=gI S i.a*gI V i.b+gI V i.a*gI S i.b:=fun h=>by simp[valI,slopeI,h]
 have e10:i.op=10→valI P V i=(gI V i.a/gI V i.b,decide (gI V i.b≠0))∧∀v,slopeI B V S i v=(gI S i.a-v*gI S i.b)/gI V i.b:=fun h=>by simp[valI,slopeI,h]
 clear hm hd hp ly lp hV hS sa sa' sb sb' c6
 generalize gI V i.a=A at *
 generalize gI V i.b=C at *
 generalize gI S i.a=A' at *
 generalize gI S i.b=C' at *
 generalize fz A=u at *
 generalize fz C=v at *
 generalize fz A'=u' at *
 generalize fz C'=v' at *
 generalize valI P V i=W at *
 generalize slopeI B V S i=sl at *
 generalize zipD V S=DD at *
 obtain⟨op,a,b,n⟩:=i
 generalize dua P B=Q at *
 obtain⟨⟨⟨t0,t1,t2⟩,⟨t3,t4,t5⟩⟩,y,p⟩:=Q
 dsimp only at *
 subst hk1 hj1
 rw[f432 _ rfl,b432]
 rcases(show op=7∨op=8∨op=9∨op=10 by omega) with rfl | rfl | rfl | rfl
 ·rw[(e7 rfl).1,(e7 rfl).2]
  refine⟨_,?_,fun _=>rfl⟩
  clear e7 e8 e9 e10 c8 c9 c10
  generalize fz (A+C)=z at *
  generalize fz (A'+C')=z' at *
  simp -implicitDefEqProofs[hk2,hk3,hka,hkae,hj2,hj3,hjb,hjbe,hl,c7]
 ·rw[(e8 rfl).1,(e8 rfl).2]
  refine⟨_,?_,fun _=>rfl⟩
  clear e7 e8 e9 e10 c7 c9 c10
  generalize fz (A-C)=z at *
  generalize fz (A'-C')=z' at *
  simp -implicitDefEqProofs[hk2,hk3,hka,hkae,hj2,hj3,hjb,hjbe,hl,c8]
 ·rw[(e9 rfl).1,(e9 rfl).2]
  refine⟨_,?_,fun _=>rfl⟩
  clear e7 e8 e9 e10 c7 c8 c10
  generalize fz (A*C)=z at *
  generalize fz (A'*C+A*C')=z' at *
  simp -implicitDefEqProofs[hk2,hk3,hka,hkae,hj2,hj3,hjb,hjbe,hl,c9]
 ·rw[(e10 rfl).1,(e10 rfl).2]
  clear e7 e8 e9 e10 c7 c8 c9
  by_cases hz:C=0
  ·refine⟨noD,?_,fun h=>by simp[hz]at h⟩
   rw[if_neg (by simp[hz])]at c10
   have hd:decide (C≠0)=false:=by simp[hz]
   rw[hd]
   simp -implicitDefEqProofs[hk2,hk3,hka,hkae,hj2,hj3,hjb,hjbe,hl,c10]
  ·refine⟨_,?_,fun _=>rfl⟩
   rw[if_pos hz]at c10
   have hd:decide (C≠0)=true:=by simp[hz]
   rw[hd]
   generalize fz (A/C)=z at *
   generalize fz ((A'-A/C*C')/C)=z' at *
   simp -implicitDefEqProofs[hk2,hk3,hka,hkae,hj2,hj3,hjb,hjbe,hl,c10]
end
abbrev bxS(g:Nat)(st:Int):Box:=⟨g,.str,1,[[.i .i64 st]]⟩
abbrev duM(T:Tbl):AV:=.agg [.ptr (.bor 0) 0 3 0 0,.fnp (tyNum T 500424) (.bor 1) 1 1 0 0]
def fitD(x:Du)(L:Int):Bool:=decide ((sizF x.1:Int)≤L)&&decide ((sizF x.2:Int)≤L)
def stgD(x:Du)(L st:Int):Int:=if (sizF x.1:Int)≤L∧¬ (sizF x.2:Int)≤L then 1 else st
def cntD(x:Du)(L s:Int):Int:=if (sizF x.1:Int)≤L then cntS (cntS s) else cntS s
def pkD(x:Du)(L p:Int):Int:=if (sizF x.1:Int)≤L then cntP (cntP p x.1) x.2 else cntP p x.1
section
variable{T:Tbl}[CLimb T][CNat T][CProd T][CTwos T][CQuot T][CQuotD T][CWhole T][CCommon T][CFrac T][CFrac3 T][CFrac5 T][CPow T][CTape T][CGauge T][CEval T][CPush T][CIfc2 T][CFn424 T]
theorem zr5(st:Int):callH T 424 [.ptr (.bor 0) 0 1 0 0] [(.bor 0,bxS 0 st)]=some (.tup [],[(.bor 0,bxS 0 1)]):=by
 rw[f424 _ _ rfl,b424]
 simp -implicitDefEqProofs
theorem zx6(s p L st:Int)(x:Du)(h1:fsz x.1≤10000)(h2:fsz x.2≤10000) :
  callH T 450 [duM T,edu x] [(.bor 0,bxG 0 s p L),(.bor 1,bxS 1 st)]=some (.b (fitD x L),[(.bor 0,bxG 0 (cntD x L s) (pkD x L p) L),(.bor 1,bxS 1 (stgD x L st))]):=by
 have g1:=zfi (T:=T) s p L x.1 h1
 have g2:=zfi (T:=T) (cntS s) (cntP p x.1) L x.2 h2
 have sl:=zr5 (T:=T) st
 by_cases k1:(sizF x.1:Int)≤L
 ·by_cases k2:(sizF x.2:Int)≤L
  ·have f1:fitD x L=true:=by simp[fitD,k1,k2]
   have f2:stgD x L st=st:=by simp only[stgD,k1,k2];rfl
   have f3:cntD x L s=cntS (cntS s):=by simp only[cntD,k1,if_true]
   have f4:pkD x L p=cntP (cntP p x.1) x.2:=by simp only[pkD,k1,if_true]
   rw[decide_eq_true k1]at g1
   rw[decide_eq_true k2]at g2
   rw[f1,f2,f3,f4]
   clear f1 f2 f3 f4 k1 k2
   generalize cntS (cntS s)=s2 at *
   generalize cntS s=s1 at *
   generalize cntP (cntP p x.1) x.2=p2 at *
   generalize cntP p x.1=p1 at *
   rw[f450 _ _ rfl,b450]
   simp -implicitDefEqProofs[g1,g2]
  ·have f1:fitD x L=false:=by simp[fitD,k2]
   have f2:stgD x L st=1:=by unfold stgD;rw[if_pos ⟨k1,k2⟩]
   have f3:cntD x L s=cntS (cntS s):=by simp only[cntD,k1,if_true]
   have f4:pkD x L p=cntP (cntP p x.1) x.2:=by simp only[pkD,k1,if_true]
   rw[decide_eq_true k1]at g1
   rw[decide_eq_false k2]at g2
   rw[f1,f2,f3,f4]
   clear f1 f2 f3 f4 k1 k2
   generalize cntS (cntS s)=s2 at *
   generalize cntS s=s1 at *
   generalize cntP (cntP p x.1) x.2=p2 at *
   generalize cntP p x.1=p1 at *
   rw[f450 _ _ rfl,b450]
   simp -implicitDefEqProofs[g1,g2,sl]
 ·have f1:fitD x L=false:=by simp[fitD,k1]
  have f2:stgD x L st=st:=by unfold stgD;rw[if_neg (fun h=>k1 h.1)]
  have f3:cntD x L s=cntS s:=by unfold cntD;rw[if_neg k1]
  have f4:pkD x L p=cntP p x.1:=by unfold pkD;rw[if_neg k1]
  rw[decide_eq_false k1]at g1
  rw[f1,f2,f3,f4]
  clear f1 f2 f3 f4 k1 g2
  generalize cntS s=s1 at *
  generalize cntP p x.1=p1 at *
  rw[f450 _ _ rfl,b450]
  simp -implicitDefEqProofs[g1]
end
abbrev bxM2(T:Tbl)(g:Nat):Box:=⟨g,.str,2,[[.ptr (.bor 0) 0 3 0 0,.fnp (tyNum T 500424) (.bor 1) 1 1 0 0]]⟩
abbrev bxPD(g:Nat)(x:PoD):Box:=⟨g,.str,8,[[.b x.t.1.1,.sl (u32s x.t.1.2.1) .an,.sl (u32s x.t.1.2.2) .an,.b x.t.2.1,.sl (u32s x.t.2.2.1) .an,.sl (u32s x.t.2.2.2) .an,.sl (rowD x.y) .an,.sl (rowD x.p) .an]]⟩
def stPu(T:Tbl)(Q:PoD)(L:Int)(code:List Ins)(i:Nat)(D:List Du)(s p:Int)(kd:Kind):St:=
 ⟨[(3,.ptr (.loc 3) 5 2 0 0),(5,.ptr (.loc 5) 6 8 0 0),(7,.ptr (.loc 7) 7 4 0 0),(8,.bs (.loc 8) 8 6 0 i),(34,.sl (rowI code) .an),(35,.i .i64 code.length),(36,.i .i64 i)],
  [(.bor 0,bxG 0 s p L),(.bor 1,bxS 1 0),(.loc 3,bxM2 T 5),(.loc 5,bxPD 6 Q),(.loc 7,bxF 7 0 0 0 0),(.loc 8,⟨8,kd,6,rowD D⟩)],10⟩
def endPu(n:Nat)(D:List Du)(s p L:Int)(kd:Kind):Ex×St:=(.n,⟨[(7,.ptr (.loc 7) 5 4 0 0),(8,.bs (.loc 8) 6 6 0 n)],[(.bor 0,bxG 0 s p L),(.bor 1,bxS 1 0),(.loc 7,bxF 5 0 0 0 0),(.loc 8,⟨6,kd,6,rowD D⟩)],8⟩)
def endPr(kind at_ st s p L:Int):Ex×St:=(.r,⟨[(6,.sl [] .an),(7,.ptr (.loc 7) 5 4 0 0)],[(.bor 0,bxG 0 s p L),(.bor 1,bxS 1 st),(.loc 7,bxF 5 kind 0 0 at_)],7⟩)
section
variable{T:Tbl}[CLimb T][CNat T][CProd T][CTwos T][CQuot T][CQuotD T][CWhole T][CCommon T][CFrac T][CFrac3 T][CFrac5 T][CPow T][CTape T][CGauge T][CEval T][CPush T][CIfc2 T][CFn424 T]
theorem zu1{kd:Kind}(hk:kd=.own∨kd=.sh)(x:Ins)(Q:PoD)(L:Int)(code:List Ins)(i:Nat)(D:List Du)(s p s' p':Int)(v:Du)(hi:i<code.length)(hc:code.length≤1000)(hg:code[i]? = some x)(hdl:D.length=i)
  (c:callF T 432 [mD2,.agg (celI x),epd Q,.sl (rowD D) .an]=some (.tup [edu v,.b true]))
  (hf:callH T 450 [duM T,edu v] [(.bor 0,bxG 0 s p L),(.bor 1,bxS 1 0)]=some (.b true,[(.bor 0,bxG 0 s' p' L),(.bor 1,bxS 1 0)])) :
  evX (orc T) T 2 l425_0 (stPu T Q L code i D s p kd)=some (.n,stPu T Q L code (i+1) (D++[v]) s' p' .sh):=by
 have hws:=zct hi (by omega)
 have hge:=(List.getElem?_eq_some_iff.1 hg).2
 have ht:List.take i D=D:=List.take_of_length_le (by omega)
 have hp:wkL (rowD D++[celD v])=rowD (D++[v]):=by rw[zlh,zs6]
 have hi':(i:Int)<code.length:=by omega
 have hb:i≤4294967295:=by omega
 unfold stPu
 obtain⟨⟨⟨q0,q1,q2⟩,⟨q3,q4,q5⟩⟩,qy,qp⟩:=Q
 rcases hk with rfl | rfl<;>simp -implicitDefEqProofs[l425_0,hi,hi',hg,hge,hws,c,hf,hp,hdl,hb,ht]
theorem zx7{kd:Kind}(hk:kd=.own∨kd=.sh)(x:Ins)(Q:PoD)(L:Int)(code:List Ins)(i:Nat)(D:List Du)(s p:Int)(v:Du)(hi:i<code.length)(hc:code.length≤1000)(hg:code[i]? = some x)(hdl:D.length=i)
  (c:callF T 432 [mD2,.agg (celI x),epd Q,.sl (rowD D) .an]=some (.tup [edu v,.b false])) :
  evX (orc T) T 2 l425_0 (stPu T Q L code i D s p kd)=some (endPr 3 i 0 s p L):=by
 have hge:=(List.getElem?_eq_some_iff.1 hg).2
 have ht:List.take i D=D:=List.take_of_length_le (by omega)
 have hi':(i:Int)<code.length:=by omega
 unfold stPu endPr
 obtain⟨⟨⟨q0,q1,q2⟩,⟨q3,q4,q5⟩⟩,qy,qp⟩:=Q
 rcases hk with rfl | rfl<;>simp -implicitDefEqProofs[l425_0,hi,hi',hg,hge,c,hdl,ht]
theorem zr6{kd:Kind}(hk:kd=.own∨kd=.sh)(x:Ins)(Q:PoD)(L:Int)(code:List Ins)(i:Nat)(D:List Du)(s p s' p' st:Int)(v:Du)(hi:i<code.length)(hc:code.length≤1000)(hg:code[i]? = some x)(hdl:D.length=i)
  (c:callF T 432 [mD2,.agg (celI x),epd Q,.sl (rowD D) .an]=some (.tup [edu v,.b true]))
  (hf:callH T 450 [duM T,edu v] [(.bor 0,bxG 0 s p L),(.bor 1,bxS 1 0)]=some (.b false,[(.bor 0,bxG 0 s' p' L),(.bor 1,bxS 1 st)])) :
  evX (orc T) T 2 l425_0 (stPu T Q L code i D s p kd)=some (endPr 6 i st s' p' L):=by
 have hge:=(List.getElem?_eq_some_iff.1 hg).2
 have ht:List.take i D=D:=List.take_of_length_le (by omega)
 have hi':(i:Int)<code.length:=by omega
 unfold stPu endPr
 obtain⟨⟨⟨q0,q1,q2⟩,⟨q3,q4,q5⟩⟩,qy,qp⟩:=Q
 rcases hk with rfl | rfl<;>simp -implicitDefEqProofs[l425_0,hi,hi',hg,hge,c,hf,hdl,ht]
theorem z3g{kd:Kind}(hk:kd=.own∨kd=.sh)(Q:PoD)(L:Int)(code:List Ins)(D:List Du)(s p:Int):isEx (evX (orc T) T 2 l425_0 (stPu T Q L code code.length D s p kd))=true ∧
  finX 2 0 (.norm false [7,8]) (evX (orc T) T 2 l425_0 (stPu T Q L code code.length D s p kd))=some (endPu code.length D s p L kd):=by
 unfold stPu endPu
 obtain⟨⟨⟨q0,q1,q2⟩,⟨q3,q4,q5⟩⟩,qy,qp⟩:=Q
 rcases hk with rfl | rfl<;>constructor<;>simp -implicitDefEqProofs[l425_0]
theorem zmh(kind at_ st s p L:Int):finX 2 0 (.norm false [7,8]) (some (endPr kind at_ st s p L))=some (endPr kind at_ st s p L):=by
 unfold endPr
 simp -implicitDefEqProofs
def EndPu(R:List Rat×List Rat×Nat×Nat×Nat)(n:Nat)(lim:Nat)(r:Ex×St):Prop:=
 ∃s p:Int,(R.2.2.1=0∧∃kd:Kind,(kd=.own∨kd=.sh)∧r=endPu n (zipD R.1 R.2.1) s p lim kd)∨(R.2.2.1≠0∧r=endPr R.2.2.1 R.2.2.2.2 R.2.2.2.1 s p lim)
theorem zr7(P B:Po)(lim:Nat)(hlim:lim≤4096)(t:Tp)(ht:OkTp t)(hn:∀i∈t.code,fsz i.n≤1000)(hd:(P.y.length:Int)=t.dim)(hp:(P.p.length:Int)=t.par)(ly:P.y.length=B.y.length)(lp:P.p.length=B.p.length)(hP:PvS P 1000)(hB:PvS B 1000)(s p:Int) :
  ∃r,EndPu (runD lim P B t.code [] []) t.code.length lim r∧loopN T 2 0 (.norm false [7,8]) l425_0 (stPu T (dua P B) lim t.code 0 [] s p .own)=some r:=by
 have hc:=ht.cl
 generalize hR:runD lim P B t.code [] []=R
 have key:=zbb (T:=T) (k:=2) (id:=0) (g2:=.norm false [7,8]) (c:=l425_0) (fun x:Nat×List Rat×List Rat×(Int×Int)×Kind=>stPu T (dua P B) lim t.code x.1 (zipD x.2.1 x.2.2.1) x.2.2.2.1.1 x.2.2.2.1.2 x.2.2.2.2)
  (fun x=>x.1≤t.code.length∧x.2.1.length=x.1∧x.2.2.1.length=x.1∧(∀q∈x.2.1,sz q≤129)∧(∀q∈x.2.2.1,sz q≤129)∧(x.2.2.2.2=.own∨x.2.2.2.2=.sh)∧runD lim P B (t.code.drop x.1) x.2.1 x.2.2.1=R) (fun x=>t.code.length-x.1)
  (EndPu R t.code.length lim) ?_ (0,[],[],(s,p),.own) ⟨Nat.zero_le _,rfl,rfl,by simp,by simp,.inl rfl,hR⟩
 ·exact key
 rintro⟨i,V,S,⟨s,p⟩,kd⟩ ⟨hi,hVl,hSl,hV,hS,hk,hr⟩
 dsimp only at *
 by_cases hlt:i<t.code.length
 ·have hg:t.code[i]? = some (t.code[i]'hlt):=List.getElem?_eq_getElem hlt
  have hmem:=List.getElem_mem hlt
  have hm:=ht.may i _ hg
  have hdr:t.code.drop i=t.code[i]'hlt::t.code.drop (i+1):=List.drop_eq_getElem_cons hlt
  generalize hx:t.code[i]'hlt=x at *
  rw[hdr,zdt]at hr
  have hm':mayI t.dim t.par V.length x=true:=by rw[hVl];exact hm
  obtain⟨w,c,hw⟩:=zx5 (T:=T) x P B V S t.dim t.par hm' hd hp ly lp (hVl.trans hSl.symm) (hn x hmem) hV hS
  have hfl:(zipD V S).length=i:=by rw[zaw (hVl.trans hSl.symm),hVl]
  cases hok:(valI P V x).2 with
  | false=>
   right
   rw[hok]at c
   rw[if_pos hok]at hr
   have e:=zx7 (T:=T) hk x (dua P B) lim t.code i (zipD V S) s p w hlt (by omega) hg hfl c
   refine⟨_,⟨s,p,.inr ⟨?_,rfl⟩⟩,?_,?_⟩
   ·rw[←hr];simp
   ·rw[e];rfl
   ·rw[e,zmh,←hr,hVl];rfl
  | true=>
   rw[hok]at c
   rw[hw hok]at c
   rw[if_neg (by rw[hok];decide)]at hr
   have hvs:sz (valI P V x).1≤2000:=zso hm' hP (hn x hmem) hV
   have hv2:x.op=10∨x.op=11→sz (valI P V x).1≤1100:=by
    intro h
    have ga:=zcu (D:=V) (a:=x.a) (B:=129) (by decide) hV
    have gb:=zcu (D:=V) (a:=x.b) (B:=129) (by decide) hV
    rcases h with h | h
    ·have:=zik (gI V x.a) (gI V x.b);simp[valI,h];omega
    ·obtain⟨e1,e2⟩:=zti hm' h
     have h1:=zhf ga e1 e2
     by_cases hz:x.b<0∧gI V x.a=0
     ·simp[valI,h,hz,zhm]
     ·simp only[valI,h]
      simp only[hz]
      simp
      omega
   have hss:sz (slopeI B V S x (valI P V x).1)≤2000:=zs8 hm' hB hV hS _ hv2
   have hf:=zx6 (T:=T) s p lim 0 (fz (valI P V x).1,fz (slopeI B V S x (valI P V x).1)) (by show fsz (fz _)≤_;rw[zb4];omega) (by show fsz (fz _)≤_;rw[zb4];omega)
   have q1:sizF (fz (valI P V x).1)=sizQ (valI P V x).1:=rfl
   have q2:sizF (fz (slopeI B V S x (valI P V x).1))=sizQ (slopeI B V S x (valI P V x).1):=rfl
   by_cases hfit:sizQ (valI P V x).1≤lim
   ·rw[if_neg (by omega)]at hr
    by_cases hfi2:sizQ (slopeI B V S x (valI P V x).1)≤lim
    ·left
     rw[if_neg (by omega)]at hr
     have f1:fitD (fz (valI P V x).1,fz (slopeI B V S x (valI P V x).1)) lim=true:=by unfold fitD;dsimp only;rw[q1,q2];simp;omega
     have f2:stgD (fz (valI P V x).1,fz (slopeI B V S x (valI P V x).1)) lim 0=0:=by unfold stgD;rw[if_neg (fun h=>h.2 (by dsimp only;rw[q2];omega))]
     rw[f1,f2]at hf
     have e:=zu1 (T:=T) hk x (dua P B) lim t.code i (zipD V S) s p _ _ _ hlt (by omega) hg hfl c hf
     refine⟨(i+1,V++[(valI P V x).1],S++[slopeI B V S x (valI P V x).1],(cntD (fz (valI P V x).1,fz (slopeI B V S x (valI P V x).1)) lim s,pkD (fz (valI P V x).1,fz (slopeI B V S x (valI P V x).1)) lim p),.sh),⟨by omega,by simp[hVl],by simp[hSl],fun q hq=>?_,fun q hq=>?_,.inr rfl,hr⟩,by show t.code.length-(i+1)<t.code.length-i;omega,?_⟩
     ·rcases List.mem_append.1 hq with h | h
      ·exact hV q h
      ·rw[List.mem_singleton.1 h]
       have:=zfo hfit
       have:lim/32≤128:=by omega
       omega
     ·rcases List.mem_append.1 hq with h | h
      ·exact hS q h
      ·rw[List.mem_singleton.1 h]
       have:=zfo hfi2
       have:lim/32≤128:=by omega
       omega
     ·rw[e,zli _ _ (hVl.trans hSl.symm)]
    ·right
     rw[if_pos (by omega)]at hr
     have f1:fitD (fz (valI P V x).1,fz (slopeI B V S x (valI P V x).1)) lim=false:=by unfold fitD;dsimp only;rw[q1,q2];simp;omega
     have f2:stgD (fz (valI P V x).1,fz (slopeI B V S x (valI P V x).1)) lim 0=1:=by unfold stgD;rw[if_pos ⟨by dsimp only;rw[q1];omega,by dsimp only;rw[q2];omega⟩]
     rw[f1,f2]at hf
     generalize cntD (fz (valI P V x).1,fz (slopeI B V S x (valI P V x).1)) (lim:Int) s=c' at hf
     generalize pkD (fz (valI P V x).1,fz (slopeI B V S x (valI P V x).1)) (lim:Int) p=p' at hf
     have e:=zr6 (T:=T) hk x (dua P B) lim t.code i (zipD V S) s p _ _ _ _ hlt (by omega) hg hfl c hf
     exact⟨endPr 6 (i:Nat) 1 c' p' lim,⟨c',p',.inr ⟨by rw[←hr];simp,by rw[←hr,hVl];rfl⟩⟩,by rw[e];rfl,by rw[e,zmh]⟩
   ·right
    rw[if_pos (by omega)]at hr
    have f1:fitD (fz (valI P V x).1,fz (slopeI B V S x (valI P V x).1)) lim=false:=by unfold fitD;dsimp only;rw[q1,q2];simp;omega
    have f2:stgD (fz (valI P V x).1,fz (slopeI B V S x (valI P V x).1)) lim 0=0:=by unfold stgD;rw[if_neg (fun h=>hfit (by have:=h.1;dsimp only at this;rw[q1]at this;omega))]
    rw[f1,f2]at hf
    generalize cntD (fz (valI P V x).1,fz (slopeI B V S x (valI P V x).1)) (lim:Int) s=c' at hf
    generalize pkD (fz (valI P V x).1,fz (slopeI B V S x (valI P V x).1)) (lim:Int) p=p' at hf
    have e:=zr6 (T:=T) hk x (dua P B) lim t.code i (zipD V S) s p _ _ _ _ hlt (by omega) hg hfl c hf
    exact⟨endPr 6 (i:Nat) 0 c' p' lim,⟨c',p',.inr ⟨by rw[←hr];simp,by rw[←hr,hVl];rfl⟩⟩,by rw[e];rfl,by rw[e,zmh]⟩
 ·right
  have hi2:i=t.code.length:=by omega
  subst hi2
  rw[List.drop_length]at hr
  have e:=z3g (T:=T) hk (dua P B) lim t.code (zipD V S) s p
  have hr':R=(V,S,0,0,0):=hr.symm
  rw[hr']
  exact⟨_,⟨s,p,.inl ⟨rfl,kd,hk,rfl⟩⟩,e.1,e.2⟩
end
theorem zje:∀(V S:List Rat),(fzs V).zip (fzs S)=zipD V S
 | [],[]=>rfl
 | [],_::_=>rfl
 | _::_,[]=>rfl
 | v::V,s::S=>by
  have:=zje V S
  show (fz v,fz s)::(fzs V).zip (fzs S)=_
  rw[this]
  rfl
def fieldD(lim:Nat)(t:Tp)(P B:Po):List Rat×List Rat×Nat×Nat×Nat:=
 if (pushT lim t P B).2.2.1=0 then (outsR t (pushT lim t P B).1,outsR t (pushT lim t P B).2.1,0,0,0) else ([],[],(pushT lim t P B).2.2)
theorem zr8{lim:Nat}{P B:Po}{K:Nat}(hlim:lim/32+1≤K):∀(l:List Ins) (V S:List Rat),(∀q∈V,sz q≤K)→(∀q∈S,sz q≤K)→(∀q∈(runD lim P B l V S).1,sz q≤K)∧∀q∈(runD lim P B l V S).2.1,sz q≤K
 | [],V,S,h1,h2=>⟨h1,h2⟩
 | i::r,V,S,h1,h2=>by
  rw[zdt]
  split
  ·simp
  ·split
   ·simp
   ·split
    ·simp
    ·rename_i f1 f2 f3
     refine zr8 hlim r _ _ (fun q hq=>?_) (fun q hq=>?_)
     ·rcases List.mem_append.1 hq with hq | hq
      ·exact h1 q hq
      ·rw[List.mem_singleton.1 hq]
       have:=zfo (q:=(valI P V i).1) (b:=lim) (by omega)
       omega
     ·rcases List.mem_append.1 hq with hq | hq
      ·exact h2 q hq
      ·rw[List.mem_singleton.1 hq]
       have:=zfo (q:=slopeI B V S i (valI P V i).1) (b:=lim) (by omega)
       omega
theorem zg8{lim:Nat}{t:Tp}{P B:Po}(hlim:lim/32+1≤48):(∀q∈(fieldD lim t P B).1,sz q≤48)∧∀q∈(fieldD lim t P B).2.1,sz q≤48:=by
 have hp:(∀q∈(pushT lim t P B).1,sz q≤48)∧∀q∈(pushT lim t P B).2.1,sz q≤48:=by
  unfold pushT
  split
  ·exact zr8 hlim _ _ _ (by simp) (by simp)
  ·simp
 unfold fieldD
 split
 ·constructor
  ·intro q hq
   obtain⟨o,_,rfl⟩:=List.mem_map.1 hq
   exact zcu (by decide) hp.1
  ·intro q hq
   obtain⟨o,_,rfl⟩:=List.mem_map.1 hq
   exact zcu (by decide) hp.2
 ·simp
def stPi(V S:List Fz)(i:Nat):St:=
 ⟨[(1,.sl (rowF S) .an),(6,.bs (.loc 6) 1 6 0 i),(14,.sl (rowF V) .an),(15,.i .i64 V.length),(16,.i .i64 i)],[(.loc 6,⟨1,.own,6,rowD ((V.zip S).take i)⟩)],3⟩
section
variable{T:Tbl}[CLimb T][CNat T][CProd T][CTwos T][CQuot T][CQuotD T][CWhole T][CCommon T][CFrac T][CFrac3 T][CFrac5 T][CPow T][CTape T][CGauge T][CEval T][CPush T][CIfc2 T][CFn424 T]
theorem zr9(V S:List Fz)(hl:V.length=S.length)(hb:V.length≤1000) :
  loopN T 0 0 (.norm false [6]) l423_0 (stPi V S 0)=some (.n,⟨[(6,.bs (.loc 6) 1 6 0 V.length)],[(.loc 6,⟨1,.own,6,rowD (V.zip S)⟩)],3⟩):=by
 have zl:(V.zip S).length=V.length:=by rw[List.length_zip];omega
 refine za1 (fun i=>stPi V S i) V.length _ (fun i hi=>?_) ?_
 ·have hg:V[i]? = some (V[i]'hi):=List.getElem?_eq_getElem hi
  have hge:=(List.getElem?_eq_some_iff.1 hg).2
  have hs:i<S.length:=by omega
  have hg2:S[i]? = some (S[i]'hs):=List.getElem?_eq_getElem hs
  have hge2:=(List.getElem?_eq_some_iff.1 hg2).2
  have hws:=zct hi (by omega)
  have hx:(V.zip S)[i]? = some (V[i]'hi,S[i]'hs):=by rw[List.getElem?_eq_getElem (by omega),List.getElem_zip]
  have e:(V.zip S).take (i+1)=(V.zip S).take i++[(V[i]'hi,S[i]'hs)]:=by
   rw[List.take_add_one,hx]
   rfl
  have hml:((V.zip S).take i).length=i:=by rw[List.length_take];omega
  have hp:=zs7 (m:=(V.zip S).take i) hml (V[i]'hi,S[i]'hs)
  have hi':(i:Int)<V.length:=by omega
  have hs':(i:Int)<S.length:=by omega
  have hb':i≤4294967295:=by omega
  show evX (orc T) T 0 l423_0 (stPi _ _ i)=some (.n,stPi _ _ (i+1))
  unfold stPi
  rw[e]
  clear e hx
  generalize (V.zip S).take i=M at *
  generalize V[i]'hi=v at *
  generalize S[i]'hs=s at *
  simp -implicitDefEqProofs[l423_0,hi,hi',hs,hs',hg,hge,hg2,hge2,hws,hp,hml,hb']
 ·have e:(V.zip S).take V.length=V.zip S:=List.take_of_length_le (by omega)
  show isEx (evX (orc T) T 0 l423_0 (stPi _ _ V.length))=true∧finX 0 0 _ (evX (orc T) T 0 l423_0 (stPi _ _ V.length))=_
  unfold stPi
  rw[e]
  generalize V.zip S=M at *
  constructor<;>simp -implicitDefEqProofs[l423_0]
theorem zk1(V S:List Fz)(hb:V.length≤1000) :
  callF T 423 [.sl (rowF V) .an,.sl (rowF S) .an]=some (if V.length=S.length then .tup [.sl (rowD (V.zip S)) .an,.b true] else .tup [.sl [] .an,.b false]):=by
 by_cases hl:V.length=S.length
 ·rw[if_pos hl]
  have h:=zr9 (T:=T) V S hl hb
  unfold stPi at h
  simp only[Int.natCast_zero,List.take_zero,zjl]at h
  have zl:(V.zip S).length=V.length:=by rw[List.length_zip];omega
  have hl':(V.length:Int)=S.length:=by omega
  have ht:(V.zip S).take V.length=V.zip S:=List.take_of_length_le (by omega)
  generalize V.zip S=M at *
  rw[f423 _ rfl,b423]
  simp -implicitDefEqProofs[h,hl.symm,zl,ht]
 ·rw[if_neg hl]
  have hl':¬ (V.length:Int)=S.length:=by omega
  rw[f423 _ rfl,b423]
  simp -implicitDefEqProofs[hl,hl']
theorem z3h(t:Tp)(Q:PoD)(hs:TpS t)(s p L:Int)(h:fitT t Q.y.length Q.p.length=false) :
  callH T 425 [duM T,etp t,epd Q] [(.bor 0,bxG 0 s p L),(.bor 1,bxS 1 0)]=some (.tup [.sl [] .an,fltA 2 0 0 0],[(.bor 0,bxG 0 s p L),(.bor 1,bxS 1 0)]):=by
 have hr:=zbs (T:=T) t hs.small
 unfold fitT at h
 rw[f425 _ _ rfl,b425]
 obtain⟨⟨⟨q0,q1,q2⟩,⟨q3,q4,q5⟩⟩,qy,qp⟩:=Q
 dsimp only at h
 cases hok:okT t with
 | false=>
  rw[hok]at hr
  obtain⟨code,outs,dim,par⟩:=t
  simp -implicitDefEqProofs[hr]
 | true=>
  rw[hok]at hr h
  obtain⟨code,outs,dim,par⟩:=t
  dsimp only at *
  by_cases h1:(qy.length:Int)=dim
  ·by_cases h2:(qp.length:Int)=par
   ·simp[h1,h2]at h
   ·simp -implicitDefEqProofs[hr,h1,h2]
  ·simp -implicitDefEqProofs[hr,h1]
theorem zu2(t:Tp)(P B:Po)(hs:TpS t)(lim:Nat)(hlim:lim≤4096)(s p:Int)(hP:PvS P 1000)(hB:PvS B 1000)(ly:P.y.length=B.y.length)(lp:P.p.length=B.p.length)(h:fitT t P.y.length P.p.length=true)(hk:(runD lim P B t.code [] []).2.2.1=0) :
  ∃(s' p':Int) (kd:Kind),(kd=.own∨kd=.sh)∧callH T 425 [duM T,etp t,epd (dua P B)] [(.bor 0,bxG 0 s p lim),(.bor 1,bxS 1 0)] =
   some (.tup [.bs (.loc 8) 5 6 0 t.code.length,fltA 0 0 0 0],[(.bor 0,bxG 0 s' p' lim),(.bor 1,bxS 1 0),(.loc 8,⟨5,kd,6,rowD (zipD (runD lim P B t.code [] []).1 (runD lim P B t.code [] []).2.1)⟩)]):=by
 obtain⟨hok,h1,h2⟩:=zck h
 have hr:=zbs (T:=T) t hs.small
 obtain⟨r,⟨s',p',hend⟩,hl⟩:=zr7 (T:=T) P B lim hlim t hok hs.ns h1 h2 ly lp hP hB s p
 rw[(zep t).2 hok]at hr
 rcases hend with ⟨_,kd,hkd,rfl⟩ | ⟨hne,_⟩
 ·unfold stPu endPu at hl
  have e0:zipD [] []=[]:=rfl
  simp only[Int.natCast_zero,e0,zjl]at hl
  have hy:(zipD P.y B.y).length=P.y.length:=zaw ly
  have hp':(zipD P.p B.p).length=P.p.length:=zaw lp
  unfold dua at *
  generalize zipD (runD lim P B t.code [] []).1 (runD lim P B t.code [] []).2.1=D at *
  generalize zipD P.y B.y=Y at *
  generalize zipD P.p B.p=PP at *
  generalize fz P.t=tt at *
  generalize fz B.t=tt' at *
  obtain⟨code,outs,dim,par⟩:=t
  dsimp only at *
  refine⟨s',p',kd,hkd,?_⟩
  rw[f425 _ _ rfl,b425]
  rcases hkd with rfl | rfl
  ·simp -implicitDefEqProofs[hr,h1,h2,hy,hp',hl]
  ·simp -implicitDefEqProofs[hr,h1,h2,hy,hp',hl]
 ·exact absurd hk hne
theorem zu3(t:Tp)(P B:Po)(hs:TpS t)(lim:Nat)(hlim:lim≤4096)(s p:Int)(hP:PvS P 1000)(hB:PvS B 1000)(ly:P.y.length=B.y.length)(lp:P.p.length=B.p.length)(h:fitT t P.y.length P.p.length=true)(hk:¬ (runD lim P B t.code [] []).2.2.1=0) :
  ∃(s' p':Int),callH T 425 [duM T,etp t,epd (dua P B)] [(.bor 0,bxG 0 s p lim),(.bor 1,bxS 1 0)] =
   some (.tup [.sl [] .an,fltA (runD lim P B t.code [] []).2.2.1 0 0 (runD lim P B t.code [] []).2.2.2.2],[(.bor 0,bxG 0 s' p' lim),(.bor 1,bxS 1 (runD lim P B t.code [] []).2.2.2.1)]):=by
 obtain⟨hok,h1,h2⟩:=zck h
 have hr:=zbs (T:=T) t hs.small
 obtain⟨r,⟨s',p',hend⟩,hl⟩:=zr7 (T:=T) P B lim hlim t hok hs.ns h1 h2 ly lp hP hB s p
 rw[(zep t).2 hok]at hr
 rcases hend with ⟨h0,_⟩ | ⟨_,rfl⟩
 ·exact absurd h0 hk
 ·unfold stPu endPr at hl
  have e0:zipD [] []=[]:=rfl
  simp only[Int.natCast_zero,e0,zjl]at hl
  have hy:(zipD P.y B.y).length=P.y.length:=zaw ly
  have hp':(zipD P.p B.p).length=P.p.length:=zaw lp
  unfold dua at *
  generalize (((runD lim P B t.code [] []).2.2.1:Nat):Int)=kk at *
  generalize (((runD lim P B t.code [] []).2.2.2.1:Nat):Int)=st at *
  generalize (((runD lim P B t.code [] []).2.2.2.2:Nat):Int)=aa at *
  generalize zipD P.y B.y=Y at *
  generalize zipD P.p B.p=PP at *
  generalize fz P.t=tt at *
  generalize fz B.t=tt' at *
  obtain⟨code,outs,dim,par⟩:=t
  dsimp only at *
  refine⟨s',p',?_⟩
  rw[f425 _ _ rfl,b425]
  simp -implicitDefEqProofs[hr,h1,h2,hy,hp',hl]
end
section
variable{T:Tbl}[CLimb T][CNat T][CProd T][CTwos T][CQuot T][CQuotD T][CWhole T][CCommon T][CFrac T][CFrac3 T][CFrac5 T][CPow T][CTape T][CGauge T][CEval T][CPush T][CIfc2 T][CFn424 T]
theorem zsa(t:Tp)(x y:PoF)(bits:Int)(hs:TpS t)(hx:PoS x 1000)(hy:PoS y 1000) :
  callF T 408 [etp t,ept x,ept y,.i .i64 bits]=some (.tup [.sl (rowD (zipD (pushT (limN bits) t x.v y.v).1 (pushT (limN bits) t x.v y.v).2.1)) .an,
   fltA (pushT (limN bits) t x.v y.v).2.2.1 0 (pushT (limN bits) t x.v y.v).2.2.2.1 (pushT (limN bits) t x.v y.v).2.2.2.2]):=by
 have hn:=zg4 (T:=T) x hx
 have hn2:=zg4 (T:=T) y hy
 have hg:=zkv (T:=T) bits
 obtain⟨hl1,hl2⟩:=zss bits
 rw[hl1]at hg
 have hP:=zyl hx
 have hB:=zyl hy
 have xl:x.v.y.length=x.y.length:=List.length_map _
 have xp:x.v.p.length=x.p.length:=List.length_map _
 have p1:=zk1 (T:=T) x.v.f.y y.v.f.y (by show (fzs _).length≤_;rw[zag,xl];exact hx.yl)
 have p2:=zk1 (T:=T) x.v.f.p y.v.f.p (by show (fzs _).length≤_;rw[zag,xp];exact hx.pl)
 have z1:x.v.f.y.zip y.v.f.y=zipD x.v.y y.v.y:=zje _ _
 have z2:x.v.f.p.zip y.v.f.p=zipD x.v.p y.v.p:=zje _ _
 have l1:x.v.f.y.length=x.v.y.length∧y.v.f.y.length=y.v.y.length:=⟨zag _,zag _⟩
 have l2:x.v.f.p.length=x.v.p.length∧y.v.f.p.length=y.v.p.length:=⟨zag _,zag _⟩
 rw[z1,l1.1,l1.2]at p1
 rw[z2,l2.1,l2.2]at p2
 have ed:dua x.v y.v=⟨(x.v.f.t,y.v.f.t),zipD x.v.y y.v.y,zipD x.v.p y.v.p⟩:=rfl
 by_cases a1:x.v.y.length=y.v.y.length
 ·rw[if_pos a1]at p1
  by_cases a2:x.v.p.length=y.v.p.length
  ·rw[if_pos a2]at p2
   cases hf:fitT t x.v.y.length x.v.p.length with
   | false=>
    have e:pushT (limN bits) t x.v y.v=([],[],2,0,0):=by unfold pushT;rw[if_neg (fun h=>by rw[hf]at h;exact absurd h.2.2 (by decide))]
    have hm:=z3h (T:=T) t (dua x.v y.v) hs 0 0 (limN bits) (by rw[ed];dsimp only;rw[zaw a1,zaw a2];exact hf)
    rw[e]
    have e0:zipD [] []=[]:=rfl
    dsimp only
    rw[ed]at hm
    rw[e0,f408 _ rfl,b408]
    clear e ed z1 z2 l1 l2 hP hB xl xp hf hl1 hl2 hx hy hs a1 a2
    generalize zipD x.v.y y.v.y=Zy at *
    generalize zipD x.v.p y.v.p=Zp at *
    generalize x.v.f=X at *
    generalize y.v.f=Y at *
    obtain⟨code,outs,dim,par⟩:=t
    obtain⟨⟨q0,q1,q2⟩,qy,qp⟩:=X
    obtain⟨⟨r0,r1,r2⟩,ry,rp⟩:=Y
    obtain⟨⟨x0,x1,x2⟩,xy,xp⟩:=x
    obtain⟨⟨y0,y1,y2⟩,yy,yp⟩:=y
    dsimp only at *
    simp -implicitDefEqProofs[hn,hn2,hg,hm,p1,p2]
   | true=>
    have e:pushT (limN bits) t x.v y.v=runD (limN bits) x.v y.v t.code [] []:=by unfold pushT;rw[if_pos ⟨a1,a2,hf⟩]
    rw[e]
    by_cases hk:(runD (limN bits) x.v y.v t.code [] []).2.2.1=0
    ·obtain⟨s',p',kd,hkd,hm⟩:=zu2 (T:=T) t x.v y.v hs (limN bits) hl2 0 0 hP hB a1 a2 hf hk
     obtain⟨V',S',e1,e2,e3,_⟩:=zmq (limN bits) x.v y.v t.dim t.par t.code [] [] rfl (fun k i hi=>by
      have:=(zck hf).1.may k i hi
      rwa [List.length_nil,Nat.zero_add]) hk
     rw[List.nil_append,List.nil_append]at e1
     rw[e1]at hm ⊢
     dsimp only at hm ⊢
     have hfl:(zipD V' S').length=t.code.length:=by rw[zaw (e2.trans e3.symm),e2]
     have ht:List.take t.code.length (zipD V' S')=zipD V' S':=List.take_of_length_le (by omega)
     rw[ed]at hm
     rw[f408 _ rfl,b408]
     clear e e1 e2 e3 hk ed z1 z2 l1 l2 hP hB xl xp hf hl1 hl2 hx hy hs a1 a2
     generalize zipD V' S'=D at *
     generalize zipD x.v.y y.v.y=Zy at *
     generalize zipD x.v.p y.v.p=Zp at *
     generalize x.v.f=X at *
     generalize y.v.f=Y at *
     obtain⟨code,outs,dim,par⟩:=t
     obtain⟨⟨q0,q1,q2⟩,qy,qp⟩:=X
     obtain⟨⟨r0,r1,r2⟩,ry,rp⟩:=Y
     obtain⟨⟨x0,x1,x2⟩,xy,xp⟩:=x
     obtain⟨⟨y0,y1,y2⟩,yy,yp⟩:=y
     dsimp only at *
     rcases hkd with rfl | rfl
     ·simp -implicitDefEqProofs[hn,hn2,hg,hm,p1,p2,hfl,ht]
     ·simp -implicitDefEqProofs[hn,hn2,hg,hm,p1,p2,hfl,ht]
    ·obtain⟨s',p',hm⟩:=zu3 (T:=T) t x.v y.v hs (limN bits) hl2 0 0 hP hB a1 a2 hf hk
     have en:∀(l:List Ins) (V S:List Rat),¬ (runD (limN bits) x.v y.v l V S).2.2.1=0→zipD (runD (limN bits) x.v y.v l V S).1 (runD (limN bits) x.v y.v l V S).2.1=[]:=by
      intro l
      induction l with
      | nil=>intro V S h;exact absurd rfl h
      | cons i r ih=>
       intro V S h
       rw[zdt]at h ⊢
       split
       ·rfl
       ·rename_i h1
        rw[if_neg h1]at h
        split
        ·rfl
        ·rename_i h2
         rw[if_neg h2]at h
         split
         ·rfl
         ·rename_i h3
          rw[if_neg h3]at h
          exact ih _ _ h
     rw[en _ _ _ hk]
     rw[ed]at hm
     rw[f408 _ rfl,b408]
     clear en e hk ed z1 z2 l1 l2 hP hB xl xp hf hl1 hl2 hx hy hs a1 a2
     generalize (((runD (limN bits) x.v y.v t.code [] []).2.2.1:Nat):Int)=kk at *
     generalize (((runD (limN bits) x.v y.v t.code [] []).2.2.2.1:Nat):Int)=st at *
     generalize (((runD (limN bits) x.v y.v t.code [] []).2.2.2.2:Nat):Int)=aa at *
     generalize zipD x.v.y y.v.y=Zy at *
     generalize zipD x.v.p y.v.p=Zp at *
     generalize x.v.f=X at *
     generalize y.v.f=Y at *
     obtain⟨code,outs,dim,par⟩:=t
     obtain⟨⟨q0,q1,q2⟩,qy,qp⟩:=X
     obtain⟨⟨r0,r1,r2⟩,ry,rp⟩:=Y
     obtain⟨⟨x0,x1,x2⟩,xy,xp⟩:=x
     obtain⟨⟨y0,y1,y2⟩,yy,yp⟩:=y
     dsimp only at *
     simp -implicitDefEqProofs[hn,hn2,hg,hm,p1,p2]
  ·rw[if_neg a2]at p2
   have e:pushT (limN bits) t x.v y.v=([],[],2,0,0):=by unfold pushT;rw[if_neg (fun h=>a2 h.2.1)]
   rw[e]
   have e0:zipD [] []=[]:=rfl
   dsimp only
   rw[e0,f408 _ rfl,b408]
   clear e ed z1 z2 l1 l2 hP hB xl xp hl1 hl2 hx hy hs a1 a2
   generalize zipD x.v.y y.v.y=Zy at *
   generalize x.v.f=X at *
   generalize y.v.f=Y at *
   obtain⟨code,outs,dim,par⟩:=t
   obtain⟨⟨q0,q1,q2⟩,qy,qp⟩:=X
   obtain⟨⟨r0,r1,r2⟩,ry,rp⟩:=Y
   obtain⟨⟨x0,x1,x2⟩,xy,xp⟩:=x
   obtain⟨⟨y0,y1,y2⟩,yy,yp⟩:=y
   dsimp only at *
   simp -implicitDefEqProofs[hn,hn2,p1,p2]
 ·rw[if_neg a1]at p1
  have e:pushT (limN bits) t x.v y.v=([],[],2,0,0):=by unfold pushT;rw[if_neg (fun h=>a1 h.1)]
  rw[e]
  have e0:zipD [] []=[]:=rfl
  dsimp only
  have p2':∃(Z:List Du) (b:Bool),callF T 423 [.sl (rowF x.v.f.p) .an,.sl (rowF y.v.f.p) .an]=some (.tup [.sl (rowD Z) .an,.b b]):=by
   by_cases a2:x.v.p.length=y.v.p.length
   ·rw[if_pos a2]at p2;exact⟨_,_,p2⟩
   ·rw[if_neg a2]at p2;exact⟨[],_,p2⟩
  obtain⟨Z,b,p2'⟩:=p2'
  rw[e0,f408 _ rfl,b408]
  clear e ed z1 z2 l1 l2 hP hB xl xp hl1 hl2 hx hy hs a1 p2
  generalize x.v.f=X at *
  generalize y.v.f=Y at *
  obtain⟨code,outs,dim,par⟩:=t
  obtain⟨⟨q0,q1,q2⟩,qy,qp⟩:=X
  obtain⟨⟨r0,r1,r2⟩,ry,rp⟩:=Y
  obtain⟨⟨x0,x1,x2⟩,xy,xp⟩:=x
  obtain⟨⟨y0,y1,y2⟩,yy,yp⟩:=y
  dsimp only at *
  cases b<;>simp -implicitDefEqProofs[hn,hn2,p1,p2']
end
section
variable{T:Tbl}[CLimb T][CNat T][CProd T][CTwos T][CQuot T][CQuotD T][CWhole T][CCommon T][CFrac T][CFrac3 T][CFrac5 T][CPow T][CTape T][CGauge T][CEval T][CPush T][CIfc2 T][CFn424 T]
def stFd(D:List Du)(outs:List Int)(A C:List Fz)(i:Nat):St:=
 ⟨[(8,.bs (.loc 8) 1 3 0 i),(9,.bs (.loc 9) 2 3 0 i),(10,.ptr (.loc 10) 3 4 0 0),(11,.sl (rowD D) .an),(27,.sl (ints outs) .an),(28,.i .i64 outs.length),(29,.i .i64 i)],
  [(.loc 8,⟨1,.own,3,rowF (A.take i)⟩),(.loc 9,⟨2,.own,3,rowF (C.take i)⟩),(.loc 10,bxF 3 0 0 0 0)],5⟩
theorem zo8(V S:List Rat)(outs:List Int)(hl:V.length=S.length)(ho:outs.length≤1000)(hr:∀o∈outs,0≤o∧o<V.length) :
  loopN T 0 0 (.norm false [8,9,10]) l388_0 (stFd (zipD V S) outs (fzs (outs.map (gI V))) (fzs (outs.map (gI S))) 0) =
   some (.n,⟨[(8,.bs (.loc 8) 1 3 0 outs.length),(9,.bs (.loc 9) 2 3 0 outs.length),(10,.ptr (.loc 10) 3 4 0 0)],
    [(.loc 8,⟨1,.own,3,rowF (fzs (outs.map (gI V)))⟩),(.loc 9,⟨2,.own,3,rowF (fzs (outs.map (gI S)))⟩),(.loc 10,bxF 3 0 0 0 0)],5⟩):=by
 have el:∀V:List Rat,(fzs (outs.map (gI V))).length=outs.length:=fun V=>by rw[zag,List.length_map]
 refine za1 (fun i=>stFd (zipD V S) outs (fzs (outs.map (gI V))) (fzs (outs.map (gI S))) i) outs.length _ (fun i hi=>?_) ?_
 ·have hg:outs[i]? = some (outs[i]'hi):=List.getElem?_eq_getElem hi
  have hge:=(List.getElem?_eq_some_iff.1 hg).2
  have hws:=zct hi (by omega)
  have hmem:=List.getElem_mem hi
  obtain⟨k,hk1,hk2,hk3,hka⟩:=zhk (hr _ hmem) hl
  have hkae:=(List.getElem?_eq_some_iff.1 hka).2
  have step:∀V:List Rat,(fzs (outs.map (gI V))).take (i+1)=(fzs (outs.map (gI V))).take i++[fz (gI V (outs[i]'hi))]:=fun V=>by
   have hx:(fzs (outs.map (gI V)))[i]? = some (fz (gI V (outs[i]'hi))):=zfn (by simp[hg])
   rw[List.take_add_one,hx]
   rfl
  have hml:∀V:List Rat,((fzs (outs.map (gI V))).take i).length=i:=fun V=>by rw[List.length_take,el];omega
  have hp1:=zcj (hml V) (fz (gI V (outs[i]'hi)))
  have hp2:=zcj (hml S) (fz (gI S (outs[i]'hi)))
  have m1:=hml V
  have m2:=hml S
  have hfl:(zipD V S).length=V.length:=zaw hl
  have hi':(i:Int)<outs.length:=by omega
  have hb:i≤4294967295:=by omega
  show evX (orc T) T 0 l388_0 (stFd _ _ _ _ i)=some (.n,stFd _ _ _ _ (i+1))
  unfold stFd
  rw[step V,step S]
  clear step hml el
  generalize (fzs (outs.map (gI V))).take i=M at *
  generalize (fzs (outs.map (gI S))).take i=N at *
  generalize fz (gI V (outs[i]'hi))=z at *
  generalize fz (gI S (outs[i]'hi))=z' at *
  generalize zipD V S=DD at *
  generalize outs[i]'hi=o at *
  subst hk1
  simp -implicitDefEqProofs[l388_0,hi,hi',hg,hge,hws,hk2,hk3,hka,hkae,hfl,hp1,hp2,m1,m2,hb]
 ·have e:∀V:List Rat,(fzs (outs.map (gI V))).take outs.length=fzs (outs.map (gI V)):=fun V=>List.take_of_length_le (by rw[el];omega)
  show isEx (evX (orc T) T 0 l388_0 (stFd _ _ _ _ outs.length))=true∧finX 0 0 _ (evX (orc T) T 0 l388_0 (stFd _ _ _ _ outs.length))=_
  unfold stFd
  rw[e V,e S]
  generalize fzs (outs.map (gI V))=M at *
  generalize fzs (outs.map (gI S))=N at *
  generalize zipD V S=DD at *
  constructor<;>simp -implicitDefEqProofs[l388_0]
theorem zd4(t:Tp)(x y:PoF)(bits:Int)(hs:TpS t)(hx:PoS x 1000)(hy:PoS y 1000) :
  callF T 388 [etp t,ept x,ept y,.i .i64 bits]=some (.tup [.sl (rowF (fzs (fieldD (limN bits) t x.v y.v).1)) .an,.sl (rowF (fzs (fieldD (limN bits) t x.v y.v).2.1)) .an,
   fltA (fieldD (limN bits) t x.v y.v).2.2.1 0 (fieldD (limN bits) t x.v y.v).2.2.2.1 (fieldD (limN bits) t x.v y.v).2.2.2.2]):=by
 have h:=zsa (T:=T) t x y bits hs hx hy
 have e0:fzs []=[]:=rfl
 unfold fieldD
 by_cases hk:(pushT (limN bits) t x.v y.v).2.2.1=0
 ·obtain⟨hok,_,_,_,_,e1,_,n1,n2,_,_⟩:=zdi hk
  rw[if_pos hk]
  rw[e1]at h
  have hl:=zo8 (T:=T) (pushT (limN bits) t x.v y.v).1 (pushT (limN bits) t x.v y.v).2.1 t.outs (n1.trans n2.symm) (by have:=hok.ol;have:=hok.d2;omega) (fun o ho=>by rw[n1];exact hok.outs o ho)
  unfold stFd at hl
  simp only[Int.natCast_zero,List.take_zero,zfa]at hl
  have el:∀V:List Rat,(fzs (t.outs.map (gI V))).length=t.outs.length:=fun V=>by rw[zag,List.length_map]
  have f1:=el (pushT (limN bits) t x.v y.v).1
  have f2:=el (pushT (limN bits) t x.v y.v).2.1
  unfold outsR
  dsimp only at h ⊢
  clear e1 n1 n2 hk hok el hs hx hy
  generalize fzs (t.outs.map (gI (pushT (limN bits) t x.v y.v).1))=A at *
  generalize fzs (t.outs.map (gI (pushT (limN bits) t x.v y.v).2.1))=C at *
  generalize zipD (pushT (limN bits) t x.v y.v).1 (pushT (limN bits) t x.v y.v).2.1=D at *
  have t1:List.take t.outs.length A=A:=List.take_of_length_le (by omega)
  have t2:List.take t.outs.length C=C:=List.take_of_length_le (by omega)
  obtain⟨code,outs,dim,par⟩:=t
  obtain⟨⟨x0,x1,x2⟩,xy,xp⟩:=x
  obtain⟨⟨y0,y1,y2⟩,yy,yp⟩:=y
  dsimp only at *
  rw[f388 _ rfl,b388]
  simp -implicitDefEqProofs[h,hl,f1,f2,t1,t2]
 ·rw[if_neg hk,e0]
  have hk':¬ (((pushT (limN bits) t x.v y.v).2.2.1:Nat):Int)=0:=by omega
  clear hk
  generalize (((pushT (limN bits) t x.v y.v).2.2.1:Nat):Int)=kk at *
  generalize (((pushT (limN bits) t x.v y.v).2.2.2.1:Nat):Int)=st at *
  generalize (((pushT (limN bits) t x.v y.v).2.2.2.2:Nat):Int)=aa at *
  generalize zipD (pushT (limN bits) t x.v y.v).1 (pushT (limN bits) t x.v y.v).2.1=D at *
  obtain⟨code,outs,dim,par⟩:=t
  obtain⟨⟨x0,x1,x2⟩,xy,xp⟩:=x
  obtain⟨⟨y0,y1,y2⟩,yy,yp⟩:=y
  rw[f388 _ rfl,b388]
  simp -implicitDefEqProofs[h,hk']
end
def alongP(c:Fz)(a b:PoF):PoF:=⟨fz (fv c*fv a.t+fv b.t),if b.y.length=a.y.length then fzs (addQL (sclR (fv c) (a.y.map fv)) (b.y.map fv)) else [],if b.p.length=a.p.length then fzs (addQL (sclR (fv c) (a.p.map fv)) (b.p.map fv)) else []⟩
def alongB(a b:PoF):Bool:=decide (b.y.length=a.y.length)&&decide (b.p.length=a.p.length)
theorem zv6(c:Rat)(l:List Rat)(i:Int):gI (sclR c l) i=c*gI l i:=by
 unfold gI sclR
 rw[List.getD_eq_getElem?_getD,List.getD_eq_getElem?_getD,List.getElem?_map]
 cases l[i.toNat]? with
 | none=>simp
 | some x=>rfl
theorem zdd(c:Rat)(l:List Rat):(sclR c l).length=l.length:=by simp[sclR]
theorem zv7(c:Rat)(l m:List Fz):addP ((scl c l).map fv) m=addQL (sclR c (l.map fv)) (m.map fv):=by
 rw[zy1,zk8,z29]
theorem zrv{l m:List Rat}{q:Rat}(h:q∈addQL l m):∃a∈l,∃b∈m,q=a+b:=by
 unfold addQL at h
 induction l generalizing m with
 | nil=>simp at h
 | cons a l ih=>
  cases m with
  | nil=>simp at h
  | cons b m=>
   rw[List.zipWith_cons_cons]at h
   rcases List.mem_cons.1 h with rfl | h
   ·exact⟨a,List.mem_cons_self,b,List.mem_cons_self,rfl⟩
   ·obtain⟨x,hx,y,hy,e⟩:=ih h
    exact⟨x,List.mem_cons_of_mem _ hx,y,List.mem_cons_of_mem _ hy,e⟩
theorem zuk{c:Fz}{a b:PoF}(hc:fsz c≤2)(ha:PoS a 2)(hb:PoS b 2):PoS (alongP c a b) 1000:=by
 have zc:=zbo hc (by decide)
 have one:∀(l m:List Fz),(∀u∈l,fsz u≤2)→(∀u∈m,fsz u≤2)→∀u∈(if m.length=l.length then fzs (addQL (sclR (fv c) (l.map fv)) (m.map fv)) else []),fsz u≤1000:=by
  intro l m hl hm u hu
  split at hu
  ·obtain⟨q,hq,rfl⟩:=List.mem_map.1 hu
   obtain⟨x,hx,y,hy,rfl⟩:=zrv hq
   obtain⟨x',hx',rfl⟩:=List.mem_map.1 hx
   obtain⟨x2,hx2,rfl⟩:=List.mem_map.1 hx'
   obtain⟨y2,hy2,rfl⟩:=List.mem_map.1 hy
   rw[zb4]
   have:=zhn (fv c*fv x2) (fv y2)
   have:=zcl (fv c) (fv x2)
   have:=zbo (hl x2 hx2) (by decide)
   have:=zbo (hm y2 hy2) (by decide)
   omega
  ·cases hu
 have len:∀(l m:List Fz),l.length≤1000→(if m.length=l.length then fzs (addQL (sclR (fv c) (l.map fv)) (m.map fv)) else []).length≤1000:=by
  intro l m hl
  split
  ·rename_i h
   rw[zag,zlg _ _ (by rw[zdd,List.length_map,List.length_map,h]),zdd,List.length_map]
   exact hl
  ·exact Nat.zero_le _
 refine⟨?_,one _ _ ha.y hb.y,one _ _ ha.p hb.p,len _ _ ha.yl,len _ _ ha.pl⟩
 show fsz (fz _)≤_
 rw[zb4]
 have:=zhn (fv c*fv a.t) (fv b.t)
 have:=zcl (fv c) (fv a.t)
 have:=zbo ha.t (by decide)
 have:=zbo hb.t (by decide)
 omega
theorem zmf{c:Fz}{a b:PoF}(h:alongB a b=true):Comb (fv c) a.v b.v (alongP c a b).v:=by
 unfold alongB at h
 simp only[Bool.and_eq_true,decide_eq_true_eq]at h
 unfold alongP PoF.v
 dsimp only
 rw[if_pos h.1,if_pos h.2,zb9,zk8,zk8]
 refine⟨rfl,fun i=>?_,fun i=>?_⟩
 ·dsimp only
  rw[zwf _ _ (by rw[zdd,List.length_map,List.length_map,h.1]),zv6]
 ·dsimp only
  rw[zwf _ _ (by rw[zdd,List.length_map,List.length_map,h.2]),zv6]
theorem zul{t:Tp}{c:Rat}{a b s:List Rat}(hok:OkTp t)(h:∀k:Nat,k<t.code.length→gI s (k:Nat)=c*gI a (k:Nat)+gI b (k:Nat)):outsR t s=addQL (sclR c (outsR t a)) (outsR t b):=by
 unfold outsR addQL sclR
 rw[List.map_map,List.zipWith_map_left,List.zipWith_map_right]
 have e:List.zipWith (fun x y=>((fun x=>c*x)∘gI a) x+gI b y) t.outs t.outs=t.outs.map fun o=>c*gI a o+gI b o:=by
  rw[List.zipWith_self]
  rfl
 rw[e]
 refine List.map_congr_left fun o ho=>?_
 obtain⟨o1,o2⟩:=hok.outs o ho
 obtain⟨k,rfl⟩:∃k:Nat,o=k:=⟨o.toNat,by omega⟩
 exact h k (by omega)
section
variable{T:Tbl}[CLimb T][CNat T][CProd T][CTwos T][CQuot T][CQuotD T][CWhole T][CCommon T][CFrac T][CFrac3 T][CFrac5 T][CPow T][CTape T][CGauge T][CEval T][CRun T][CIfc T][CDigits T][CText T][CJoin T][CRow T][CPush T][CIfc2 T][CFn424 T]
variable[CRef02 T][CRef04 T][CRef05 T][CRef07 T][CRef06 T][CRef08 T][CRef09 T][CRef11 T][CLaw09 T][CLaw11 T][CLaw24 T][CLaw27l T][CLaw27 T]
theorem zmg(a b:PoF)(c:Fz)(ha:PoS a 2)(hb:PoS b 2)(hc:fsz c≤2):callF T 387 [ept a,efz c,ept b]=some (.tup [ept (alongP c a b),.b (alongB a b)]):=by
 have zc:=zbo hc (by decide)
 have s1:=zhd (T:=T) c (by omega) a.y ha.yl (fun u hu=>Nat.le_trans (ha.y u hu) (by decide))
 have s2:=zhd (T:=T) c (by omega) a.p ha.pl (fun u hu=>Nat.le_trans (ha.p u hu) (by decide))
 have d1:=zjb (T:=T) (scl (fv c) a.y) b.y (by rw[zc1];exact ha.yl) hb.yl (fun u hu=>Nat.le_trans (zrq zc ha.y (by decide) u hu) (by decide)) (fun u hu=>Nat.le_trans (hb.y u hu) (by decide))
 have d2:=zjb (T:=T) (scl (fv c) a.p) b.p (by rw[zc1];exact ha.pl) hb.pl (fun u hu=>Nat.le_trans (zrq zc ha.p (by decide) u hu) (by decide)) (fun u hu=>Nat.le_trans (hb.p u hu) (by decide))
 rw[zv7,zc1]at d1 d2
 have z1:=zcl (fv c) (fv a.t)
 have z2:=zbo ha.t (by decide)
 have m1:=zdc (T:=T) c a.t (by omega) (by have:=ha.t;omega)
 have m2:=zd2 (T:=T) (fz (fv c*fv a.t)) b.t (by rw[zb4];omega) (by have:=hb.t;omega)
 rw[zb9]at m2
 unfold alongP alongB
 clear z1 z2 zc ha hb hc
 generalize fz (fv c*fv a.t+fv b.t)=y1 at *
 generalize fz (fv c*fv a.t)=y2 at *
 generalize scl (fv c) a.y=y3 at *
 generalize scl (fv c) a.p=y4 at *
 generalize fzs (addQL (sclR (fv c) (a.y.map fv)) (b.y.map fv))=y5 at *
 generalize fzs (addQL (sclR (fv c) (a.p.map fv)) (b.p.map fv))=y6 at *
 obtain⟨⟨a0,a1,a2⟩,ay,ap⟩:=a
 obtain⟨⟨b0,b1,b2⟩,bY,bp⟩:=b
 obtain⟨c0,c1,c2⟩:=c
 obtain⟨u0,u1,u2⟩:=y1
 obtain⟨w0,w1,w2⟩:=y2
 rw[f387 _ rfl,b387]
 by_cases h1:bY.length=ay.length
 ·rw[if_pos h1]at d1 ⊢
  rw[decide_eq_true h1]
  by_cases h2:bp.length=ap.length
  ·rw[if_pos h2]at d2 ⊢
   rw[decide_eq_true h2]
   simp -implicitDefEqProofs[s1,s2,d1,d2,m1,m2]
  ·rw[if_neg h2]at d2 ⊢
   rw[decide_eq_false h2]
   simp -implicitDefEqProofs[s1,s2,d1,d2,m1,m2]
 ·rw[if_neg h1]at d1 ⊢
  rw[decide_eq_false h1]
  by_cases h2:bp.length=ap.length
  ·rw[if_pos h2]at d2 ⊢
   simp -implicitDefEqProofs[s1,s2,d1,d2,m1,m2]
  ·rw[if_neg h2]at d2 ⊢
   simp -implicitDefEqProofs[s1,s2,d1,d2,m1,m2]
def t27:Tp:=⟨[⟨3,0,0,(false,[],[])⟩,⟨11,0,2,(false,[],[])⟩],[1],1,0⟩
def pA27:PoF:=⟨(false,[],[]),[fz 3],[]⟩
def pB27:PoF:=⟨(false,[],[]),[fz 1],[]⟩
theorem zek:callF T 386 []=some (.b true):=by
 have k1:=zi5 (T:=T) 1 (by decide) (by decide)
 have k3:=zi5 (T:=T) 3 (by decide) (by decide)
 have q1:((1:Int):Rat)=1:=rfl
 have q3:((3:Int):Rat)=3:=rfl
 rw[q1]at k1
 rw[q3]at k3
 have hs:TpS t27:=⟨⟨by decide,by decide,fun i hi=>by
  simp only[t27,List.mem_cons,List.not_mem_nil,or_false]at hi
  rcases hi with rfl | rfl<;>decide,by decide,by decide⟩,fun i hi=>by
  simp only[t27,List.mem_cons,List.not_mem_nil,or_false]at hi
  rcases hi with rfl | rfl<;>decide⟩
 have f1:fsz (fz 1)≤1000:=by decide +kernel
 have f3:fsz (fz 3)≤1000:=by decide +kernel
 have a1:=zd4 (T:=T) t27 pA27 pB27 100 hs ⟨by decide,fun u hu=>by rw[List.mem_singleton.1 hu];exact f3,fun u hu=>(by cases hu),by decide,by decide⟩ ⟨by decide,fun u hu=>by rw[List.mem_singleton.1 hu];exact f1,fun u hu=>(by cases hu),by decide,by decide⟩
 have e1:fieldD (limN 100) t27 pA27.v pB27.v=([9],[6],0,0,0):=by decide +kernel
 rw[e1]at a1
 have s1:∀q∈[(9:Rat)],sz q≤1:=by
  intro q hq
  rw[List.mem_singleton.1 hq]
  exact z27 (by decide) (by decide)
 have s2:∀q∈[(6:Rat)],sz q≤1:=by
  intro q hq
  rw[List.mem_singleton.1 hq]
  exact z27 (by decide) (by decide)
 have t1:=znr (T:=T) (fzs [9]) (by decide) (fun x hx=>Nat.le_trans (ze3 s1 x hx) (by decide))
 have t2:=znr (T:=T) (fzs [6]) (by decide) (fun x hx=>Nat.le_trans (ze3 s2 x hx) (by decide))
 have et1:List.intercalate [44] (txts (fzs [9]))=[57]:=by decide +kernel
 have et2:List.intercalate [44] (txts (fzs [6]))=[54]:=by decide +kernel
 rw[et1]at t1
 rw[et2]at t2
 clear e1 s1 s2 et1 et2 hs f1 f3 q1 q3
 generalize fzs [9]=R9 at *
 generalize fzs [6]=R6 at *
 unfold pA27 pB27 at a1
 generalize fz 1=F1 at *
 generalize fz 3=F3 at *
 replace a1:callF T 388 [.agg [.sl [[.i .i64 3,.i .i64 0,.i .i64 0,.b false,.sl [] .an,.sl [] .an],[.i .i64 11,.i .i64 0,.i .i64 2,.b false,.sl [] .an,.sl [] .an]] .an,.sl [[.i .i64 1]] .an,.i .i64 1,.i .i64 0],
  .agg [.b false,.sl [] .an,.sl [] .an,.sl [[.b F3.1,.sl (u32s F3.2.1) .an,.sl (u32s F3.2.2) .an]] .an,.sl [] .an],.agg [.b false,.sl [] .an,.sl [] .an,.sl [[.b F1.1,.sl (u32s F1.2.1) .an,.sl (u32s F1.2.2) .an]] .an,.sl [] .an],.i .i64 100]=some (.tup [.sl (rowF R9) .an,.sl (rowF R6) .an,fltA 0 0 0 0]):=a1
 rw[f386 _ rfl,b386]
 simp -implicitDefEqProofs[k1,k3,a1,t1,t2]
theorem zf7(t:Tp)(x y z S:PoF)(bits:Int)(c:Fz)(ok:Bool)(k1 k2 k3 s1 s2 s3 a1 a2 a3 k4 s4 a4:Int)(V1 A1 V2 A2 V3 A3 R:List Fz)
  (c1:callF T 379 [etp t,.i .i64 12,.i .i64 2]=some (.b false)) (c2:callF T 385 [eway x y bits]=some (.b false)) (c3:callF T 380 [ept z,.i .i64 6,.i .i64 2]=some (.b false)) (c4:callF T 247 [efz c,.i .i64 2]=some (.b false))
  (t1:callF T 382 [etp t]=some (etp t)) (t2:callF T 383 [ept x]=some (ept x)) (t3:callF T 383 [ept y]=some (ept y)) (t4:callF T 383 [ept z]=some (ept z)) (t5:callF T 248 [efz c]=some (efz c))
  (al:callF T 387 [ept y,efz c,ept z]=some (.tup [ept S,.b ok]))
  (p1:callF T 388 [etp t,ept x,ept y,.i .i64 1500]=some (.tup [.sl (rowF V1) .an,.sl (rowF A1) .an,fltA k1 0 s1 a1]))
  (p2:callF T 388 [etp t,ept x,ept z,.i .i64 1500]=some (.tup [.sl (rowF V2) .an,.sl (rowF A2) .an,fltA k2 0 s2 a2]))
  (p3:callF T 388 [etp t,ept x,ept S,.i .i64 1500]=some (.tup [.sl (rowF V3) .an,.sl (rowF A3) .an,fltA k3 0 s3 a3]))
  (p4:callF T 389 [etp t,ept x,.i .i64 1500]=some (.tup [.sl (rowF R) .an,fltA k4 0 s4 a4]))
  (h:ok=false∨¬ k1=0∨(k1=0∧s1=0∧a1=0∧¬ k2=0)∨(k1=0∧s1=0∧a1=0∧k2=0∧s2=0∧a2=0∧¬ k3=0)) :
  callF T 373 [etp t,eway x y bits,ept z,efz c]=some (.b true):=by
 have cw:=zek (T:=T)
 obtain⟨code,outs,dim,par⟩:=t
 obtain⟨⟨x0,x1,x2⟩,xy,xp⟩:=x
 obtain⟨⟨y0,y1,y2⟩,yy,yp⟩:=y
 obtain⟨⟨z0,z1,z2⟩,zy,zp⟩:=z
 obtain⟨⟨w0,w1,w2⟩,wy,wp⟩:=S
 obtain⟨d0,d1,d2⟩:=c
 rw[f373 _ rfl,b373]
 cases ok with
 | false=>simp -implicitDefEqProofs[c1,c2,c3,c4,cw,t1,t2,t3,t4,t5,al,p1,p2,p3,p4]
 | true=>
  rcases h with h | h | ⟨rfl,rfl,rfl,h⟩ | ⟨rfl,rfl,rfl,rfl,rfl,rfl,h⟩
  ·cases h
  ·simp -implicitDefEqProofs[c1,c2,c3,c4,cw,t1,t2,t3,t4,t5,al,p1,p2,p3,p4,h]
  ·simp -implicitDefEqProofs[c1,c2,c3,c4,cw,t1,t2,t3,t4,t5,al,p1,p2,p3,p4,h]
  ·simp -implicitDefEqProofs[c1,c2,c3,c4,cw,t1,t2,t3,t4,t5,al,p1,p2,p3,p4,h]
theorem z28(t:Tp)(x y z S:PoF)(bits:Int)(c:Fz)(V A1 A2 A3 C:List Fz)
  (c1:callF T 379 [etp t,.i .i64 12,.i .i64 2]=some (.b false)) (c2:callF T 385 [eway x y bits]=some (.b false)) (c3:callF T 380 [ept z,.i .i64 6,.i .i64 2]=some (.b false)) (c4:callF T 247 [efz c,.i .i64 2]=some (.b false))
  (t1:callF T 382 [etp t]=some (etp t)) (t2:callF T 383 [ept x]=some (ept x)) (t3:callF T 383 [ept y]=some (ept y)) (t4:callF T 383 [ept z]=some (ept z)) (t5:callF T 248 [efz c]=some (efz c))
  (al:callF T 387 [ept y,efz c,ept z]=some (.tup [ept S,.b true]))
  (p1:callF T 388 [etp t,ept x,ept y,.i .i64 1500]=some (.tup [.sl (rowF V) .an,.sl (rowF A1) .an,fltA 0 0 0 0]))
  (p2:callF T 388 [etp t,ept x,ept z,.i .i64 1500]=some (.tup [.sl (rowF V) .an,.sl (rowF A2) .an,fltA 0 0 0 0]))
  (p3:callF T 388 [etp t,ept x,ept S,.i .i64 1500]=some (.tup [.sl (rowF V) .an,.sl (rowF A3) .an,fltA 0 0 0 0]))
  (p4:callF T 389 [etp t,ept x,.i .i64 1500]=some (.tup [.sl (rowF V) .an,fltA 0 0 0 0]))
  (s1:callF T 269 [efz c,.sl (rowF A1) .an]=some (.sl (rowF C) .an))
  (s2:callF T 267 [.sl [[.sl (rowF C) .an],[.sl (rowF A2) .an]] .an]=some (.tup [.sl (rowF A3) .an,.b true]))
  (q1:callF T 265 [.sl (rowF A3) .an,.sl (rowF A3) .an]=some (.b true)) (q2:callF T 265 [.sl (rowF V) .an,.sl (rowF V) .an]=some (.b true)) :
  callF T 373 [etp t,eway x y bits,ept z,efz c]=some (.b true):=by
 have cw:=zek (T:=T)
 obtain⟨code,outs,dim,par⟩:=t
 obtain⟨⟨x0,x1,x2⟩,xy,xp⟩:=x
 obtain⟨⟨y0,y1,y2⟩,yy,yp⟩:=y
 obtain⟨⟨z0,z1,z2⟩,zy,zp⟩:=z
 obtain⟨⟨w0,w1,w2⟩,wy,wp⟩:=S
 obtain⟨d0,d1,d2⟩:=c
 rw[f373 _ rfl,b373]
 simp -implicitDefEqProofs[c1,c2,c3,c4,cw,t1,t2,t3,t4,t5,al,p1,p2,p3,p4,s1,s2,q1,q2]
theorem zkw(t:Tp)(x y:PoF)(bits:Int)(z:PoF)(c:Fz)(d1:-9223372036854775808≤t.dim)(d2:t.dim<9223372036854775808) :
  callF T 373 [etp t,eway x y bits,ept z,efz c]=some (.b true):=by
 have cw:=zek (T:=T)
 have c1:callF T 379 [etp t,.i .i64 12,.i .i64 2]=some (.b (longT t 12 2)):=zoz (T:=T) t 12 2 (by decide)
 have c2:=zo0 (T:=T) x y bits
 have c3:callF T 380 [ept z,.i .i64 6,.i .i64 2]=some (.b (longP z 6 2)):=zfj (T:=T) z 6 2 (by decide)
 have c4:callF T 247 [efz c,.i .i64 2]=some (.b (decide (2<fsz c))):=zc2 (T:=T) c 2
 by_cases hL:(longT t 12 2 || longW x y bits || longP z 6 2 || decide (2<fsz c))=true
 ·generalize longT t 12 2=B1 at *
  generalize longW x y bits=B2 at *
  generalize longP z 6 2=B3 at *
  generalize decide (2<fsz c)=B4 at *
  obtain⟨code,outs,dim,par⟩:=t
  obtain⟨⟨x0,x1,x2⟩,xy,xp⟩:=x
  obtain⟨⟨y0,y1,y2⟩,yy,yp⟩:=y
  obtain⟨⟨z0,z1,z2⟩,zy,zp⟩:=z
  obtain⟨e0,e1,e2⟩:=c
  dsimp only at *
  rw[f373 _ rfl,b373]
  cases B1 with
  | true=>simp -implicitDefEqProofs[c1,cw]
  | false=>
   cases B2 with
   | true=>simp -implicitDefEqProofs[c1,c2,cw]
   | false=>
    cases B3 with
    | true=>simp -implicitDefEqProofs[c1,c2,c3,cw]
    | false=>
     cases B4 with
     | true=>simp -implicitDefEqProofs[c1,c2,c3,c4,cw]
     | false=>simp at hL
 simp only[Bool.or_eq_true,not_or,Bool.not_eq_true]at hL
 obtain⟨⟨⟨h1,h2⟩,h3⟩,h4⟩:=hL
 have hs:=zabj h1 (by decide) (by decide) d1 d2
 obtain⟨hc1,hc2,_⟩:=zg6 h1
 have h2':=h2
 unfold longW at h2'
 simp only[Bool.or_eq_false_iff]at h2'
 have up:∀{v:PoF},PoS v 2→PoS v 1000:=fun h=>⟨Nat.le_trans h.t (by decide),fun u hu=>Nat.le_trans (h.y u hu) (by decide),fun u hu=>Nat.le_trans (h.p u hu) (by decide),h.yl,h.pl⟩
 have hx:=zej h2'.1.1 (by decide)
 have hy:=zej h2'.1.2 (by decide)
 have hz:=zej h3 (by decide)
 have hc:fsz c≤2:=by have:=of_decide_eq_false h4;omega
 rw[h1]at c1
 rw[h2]at c2
 rw[h3]at c3
 rw[h4]at c4
 have t1:=zuj (T:=T) t (by omega) (by omega)
 have t2:=zja (T:=T) x hx.yl hx.pl
 have t3:=zja (T:=T) y hy.yl hy.pl
 have t4:=zja (T:=T) z hz.yl hz.pl
 have t5:=zf6 (T:=T) c
 have al:=zmg (T:=T) y z c hy hz hc
 have hlim:limN 1500=1500:=by decide
 have p1:=zd4 (T:=T) t x y 1500 hs (up hx) (up hy)
 have p2:=zd4 (T:=T) t x z 1500 hs (up hx) (up hz)
 have p3:=zd4 (T:=T) t x (alongP c y z) 1500 hs (up hx) (zuk hc hy hz)
 have p4:=zsu (T:=T) t x 1500 hs (up hx)
 rw[hlim]at p1 p2 p3 p4
 have zero:∀{B:Po},(fieldD 1500 t x.v B).2.2.1=0→(pushT 1500 t x.v B).2.2.1=0∧(fieldD 1500 t x.v B).2.2=(0,0,0):=by
  intro B h
  unfold fieldD at h ⊢
  by_cases hk:(pushT 1500 t x.v B).2.2.1=0
  ·rw[if_pos hk];exact⟨hk,rfl⟩
  ·rw[if_neg hk]at h;exact absurd h hk
 by_cases hok:alongB y z=true
 ·by_cases k1:(fieldD 1500 t x.v y.v).2.2.1=0
  ·obtain⟨g1,e1⟩:=zero k1
   by_cases k2:(fieldD 1500 t x.v z.v).2.2.1=0
   ·obtain⟨g2,e2⟩:=zero k2
    by_cases k3:(fieldD 1500 t x.v (alongP c y z).v).2.2.1=0
    ·obtain⟨g3,e3⟩:=zero k3
     obtain⟨l1,l2,l3⟩:=zvn (zmf (c:=c) hok) g1 g2 g3
     obtain⟨okt,_,_,_,_,_,r1,n1,n2,b1,_⟩:=zdi g1
     obtain⟨_,_,_,_,_,_,_,m1,m2,b2,_⟩:=zdi g2
     obtain⟨_,_,_,_,_,_,_,o1,o2,b3,_⟩:=zdi g3
     have hout:=zul okt l3
     have z1:=zg8 (t:=t) (P:=x.v) (B:=y.v) (lim:=1500) (by decide)
     have z2:=zg8 (t:=t) (P:=x.v) (B:=z.v) (lim:=1500) (by decide)
     have z3:=zg8 (t:=t) (P:=x.v) (B:=(alongP c y z).v) (lim:=1500) (by decide)
     have hr:fieldR 1500 t x.v=(outsR t (pushT 1500 t x.v y.v).1,0,0):=by unfold fieldR;rw[r1];rfl
     have i1:fieldD 1500 t x.v y.v=(outsR t (pushT 1500 t x.v y.v).1,outsR t (pushT 1500 t x.v y.v).2.1,0,0,0):=by unfold fieldD;rw[if_pos g1]
     have i2:fieldD 1500 t x.v z.v=(outsR t (pushT 1500 t x.v y.v).1,outsR t (pushT 1500 t x.v z.v).2.1,0,0,0):=by unfold fieldD;rw[if_pos g2,l1]
     have i3:fieldD 1500 t x.v (alongP c y z).v=(outsR t (pushT 1500 t x.v y.v).1,outsR t (pushT 1500 t x.v (alongP c y z).v).2.1,0,0,0):=by unfold fieldD;rw[if_pos g3,l2]
     rw[i1]at p1 z1
     rw[i2]at p2 z2
     rw[i3]at p3 z3
     rw[hr]at p4
     rw[hok]at al
     dsimp only at p1 p2 p3 p4 z1 z2 z3
     have hol:∀D:List Rat,(outsR t D).length=t.outs.length:=fun D=>by simp[outsR]
     have s1:=zhd (T:=T) c (by omega) (fzs (outsR t (pushT 1500 t x.v y.v).2.1)) (by rw[zag,hol];omega) (fun u hu=>Nat.le_trans (ze3 z1.2 u hu) (by decide))
     have s2:=zjb (T:=T) (scl (fv c) (fzs (outsR t (pushT 1500 t x.v y.v).2.1))) (fzs (outsR t (pushT 1500 t x.v z.v).2.1)) (by rw[zc1,zag,hol];omega) (by rw[zag,hol];omega)
      (fun u hu=>Nat.le_trans (zrq (zbo hc (by decide)) (fun u hu=>ze3 z1.2 u hu) (by decide) u hu) (by decide)) (fun u hu=>Nat.le_trans (ze3 z2.2 u hu) (by decide))
     rw[if_pos (by rw[zc1,zag,zag,hol,hol]),zv7,zk8,zk8,←hout]at s2
     have q1:=znq (T:=T) (fzs (outsR t (pushT 1500 t x.v (alongP c y z).v).2.1)) (fzs (outsR t (pushT 1500 t x.v (alongP c y z).v).2.1)) (by rw[zag,hol];omega) (fun u hu=>Nat.le_trans (ze3 z3.2 u hu) (by decide)) (fun u hu=>Nat.le_trans (ze3 z3.2 u hu) (by decide))
     have q2:=znq (T:=T) (fzs (outsR t (pushT 1500 t x.v y.v).1)) (fzs (outsR t (pushT 1500 t x.v y.v).1)) (by rw[zag,hol];omega) (fun u hu=>Nat.le_trans (ze3 z1.1 u hu) (by decide)) (fun u hu=>Nat.le_trans (ze3 z1.1 u hu) (by decide))
     rw[decide_eq_true rfl]at q1 q2
     exact z28 (T:=T) t x y z _ bits c _ _ _ _ _ c1 c2 c3 c4 t1 t2 t3 t4 t5 al p1 p2 p3 p4 s1 s2 q1 q2
    ·have f1:=congrArg (fun q:Nat×Nat×Nat=>(q.2.1,q.2.2)) e1
     refine zf7 (T:=T) t x y z _ bits c _ _ _ _ _ _ _ _ _ _ _ _ _ _ _ _ _ _ _ _ c1 c2 c3 c4 t1 t2 t3 t4 t5 al p1 p2 p3 p4 (.inr (.inr (.inr ⟨?_,?_,?_,?_,?_,?_,?_⟩)))
     ·rw[e1];rfl
     ·rw[e1];rfl
     ·rw[e1];rfl
     ·rw[e2];rfl
     ·rw[e2];rfl
     ·rw[e2];rfl
     ·omega
   ·refine zf7 (T:=T) t x y z _ bits c _ _ _ _ _ _ _ _ _ _ _ _ _ _ _ _ _ _ _ _ c1 c2 c3 c4 t1 t2 t3 t4 t5 al p1 p2 p3 p4 (.inr (.inr (.inl ⟨?_,?_,?_,?_⟩)))
    ·rw[e1];rfl
    ·rw[e1];rfl
    ·rw[e1];rfl
    ·omega
  ·exact zf7 (T:=T) t x y z _ bits c _ _ _ _ _ _ _ _ _ _ _ _ _ _ _ _ _ _ _ _ c1 c2 c3 c4 t1 t2 t3 t4 t5 al p1 p2 p3 p4 (.inr (.inl (by omega)))
 ·exact zf7 (T:=T) t x y z _ bits c _ _ _ _ _ _ _ _ _ _ _ _ _ _ _ _ _ _ _ _ c1 c2 c3 c4 t1 t2 t3 t4 t5 al p1 p2 p3 p4 (.inl (by simpa using hok))
end
end Go.Ab