/-
  A calculus of values, boxes and code, and what functions of the program compute, proved in it.
  Conditions: none beyond those that the theorems state. (Part 7.)
-/
import Derived.Test.YtfgfjicelfagcabGreatDoorPart6

set_option linter.unusedSectionVars false
set_option linter.unusedVariables false
set_option linter.unusedSimpArgs false
set_option linter.unnecessarySimpa false

namespace Go.Ab
theorem zo0:∀(a b:List UInt32),a.length=b.length→val a=val b→a=b
 | [],[],_,_=>rfl
 | x::a,y::b,hl,hv=>by
  simp only[zas]at hv;have hx:=zam x;have hy:=zam y;have h1:x.toNat=y.toNat:=by omega
  have h2:val a=val b:=by omega
  rw[UInt32.toNat_inj.1 h1,zo0 a b (by simpa using hl) h2]
 | [],_::_,hl,_=>by simp at hl
 | _::_,[],hl,_=>by simp at hl
theorem zfi{x y:Nat}:Zfm x y=0↔x=y:=by
 grind[Zfm]
theorem zwa(z:Int):∀t:Nat,sg (decide (z<0)&&decide (t%2=1)) (z.natAbs^t)=z^t
 | 0=>by simp[sg]
 | t+1=>by
  have ih:=zwa z t;have hz:sg (decide (z<0)) z.natAbs=z:=by
   unfold sg;by_cases h:z<0
   ·simp only[h,decide_true,if_true];omega
   ·simp only[h,decide_false,Y8,if_false];omega
  have hm:=z1h (decide (z<0)&&decide (t%2=1)) (decide (z<0)) (z.natAbs^t) z.natAbs;rw[ih,hz]at hm;rw[Int.pow_succ,←hm,Yai];rcases Nat.mod_two_eq_zero_or_one t with h | h
  ·have h2:(t+1)%2=1:=by omega
   rw[h,h2];cases decide (z<0)<;>rfl
  ·have h2:(t+1)%2=0:=by omega
   rw[h,h2];cases decide (z<0)<;>rfl
theorem zf4{x L:Nat}(h:(ofN x).length≤L):∀t:Nat,(ofN (x^t)).length≤t*L+1
 | 0=>by rw[Yd9,zex];simp
 | t+1=>by
  have ih:=zf4 h t;have:=zbv ih h
  grind
section
variable{T:Tbl}[Z5 T][Zo T][Zy T][Zz T][Zq T][Zu T][Zj T][Zn T][Zs T][Z6 T]
theorem zsl(x:Fz)(hx:fsz x≤10000):Za T 208 [efz x]=some (.b (Zhv x)):=by
 have hn:=zc1 (T:=T) x hx;have hs:=zgk (x:=x) (L:=10000) hx (by decide);have l1:=zfr (fv x);have l2:=zfs (fv x);unfold Zhv;have e':fz (fv x)=(decide ((fv x).num<0),ofN (fv x).num.natAbs,ofN (fv x).den):=rfl;rw[e']at hn ⊢;obtain⟨n,a,d⟩:=x;have la:=zei (n,a,d);have ld:=zew (n,a,d);simp only at la ld;generalize decide ((fv (n,a,d)).num<0)=m at *
 generalize ofN (fv (n,a,d)).num.natAbs=b at *
 generalize ofN (fv (n,a,d)).den=e at *
 have c1:=zf6 (T:=T) a b (by omega) (by omega);have c2:=zf6 (T:=T) d e (by omega) (by omega);rw[zab Z6.h208 rfl,b208];by_cases h1:n=m
 case neg=>
  have hd:decide ((n,a,d)=(m,b,e))=false:=by grind
  have hb:(n == m)=false:=by grind
  rw[hd];simp -implicitDefEqProofs[hn,hb]
 subst h1;by_cases h2:a.length=b.length
 case neg=>
  have hd:decide ((n,a,d)=(n,b,e))=false:=by
   grind
  have hb:((a.length:Int) == b.length)=false:=by grind
  rw[hd];simp -implicitDefEqProofs[hn,hb]
 by_cases h3:d.length=e.length
 case neg=>
  have hd:decide ((n,a,d)=(n,b,e))=false:=by
   grind
  have hb:((d.length:Int) == e.length)=false:=by grind
  rw[hd];simp -implicitDefEqProofs[hn,h2,hb]
 by_cases h4:val a=val b
 case neg=>
  have hd:decide ((n,a,d)=(n,b,e))=false:=by
   grind
  have hc:¬ Zfm (val a) (val b)=0:=fun h=>h4 (zfi.1 h);rw[hd];simp -implicitDefEqProofs[hn,h2,h3,c1,hc]
 have hab:=zo0 a b h2 h4;subst hab;have hk:Zfm (val a) (val a)=0:=zfi.2 rfl;rw[hk]at c1;by_cases h5:val d=val e
 case neg=>
  have hd:decide ((n,a,d)=(n,a,e))=false:=by
   grind
  have hc:¬ Zfm (val d) (val e)=0:=fun h=>h5 (zfi.1 h);rw[hd];simp -implicitDefEqProofs[hn,h3,c1,c2,hc]
 have hde:=zo0 d e h3 h5;subst hde;have hk2:Zfm (val d) (val d)=0:=zfi.2 rfl;rw[hk2]at c2;have hd:decide ((n,a,d)=(n,a,d))=true:=by simp
 simp -implicitDefEqProofs[hn,c1,c2]
def Zkr(a:List UInt32)(k i:Nat):St:=⟨[(0,.sl (Zb a) .an),(5,.sl (Zb (ofN (val a^i))) .an),(7,.i .i64 k),(8,.i .i64 i)],[],2⟩
theorem zjn(a:List UInt32)(k:Nat)(hk:k≤8)(ha:a.length≤1100):Za T 219 [.sl (Zb a) .an,.i .i64 k]=some (.sl (Zb (ofN (val a^k))) .an):=by
 have h:Zp T 0 0 (.norm false [5]) l219_0 (Zkr a k 0)=some (.n,⟨[(5,.sl (Zb (ofN (val a^k))) .an)],[],2⟩):=by
  refine zat (Zkr a k) k _ (fun i hi=>?_) ?_
  ·have hl:=zf4 (L:=1100) (Yc (zad a) ha) i;have c:=zef (T:=T) (ofN (val a^i)) a (by omega) (by omega);rw[zae,←Yai]at c;have hw:=zbj hi (by omega);unfold Zkr;simp -implicitDefEqProofs[l219_0,hi,hw,c]
  ·unfold Zkr;constructor<;>simp -implicitDefEqProofs[l219_0]
 have ho:=zgg (T:=T) 1 (by decide);unfold Zkr at h;rw[Yd9]at h;simp only[Yy]at h;rw[zab Z6.h219 rfl,b219];simp -implicitDefEqProofs[ho,h]
def Zfa(q:Rat)(e:Int):Rat×Bool:=if -8≤e∧e≤8∧¬ (e<0∧q=0) then (Zh0 q e,true) else (0,false)
theorem z9c(q:Rat)(t:Nat):fz (q^t)=(decide (q.num<0)&&decide (t%2=1)&&decide (q.num.natAbs^t≠0),ofN (q.num.natAbs^t),ofN (q.den^t)):=by
 grind[zwa,fz,Rat.num_pow,Rat.den_pow,zq3,zq4]
theorem z3j(q:Rat)(t:Nat)(hq:q≠0):fz (q^t)⁻¹=(decide (q.num<0)&&decide (t%2=1)&&decide (q.den^t≠0),ofN (q.den^t),ofN (q.num.natAbs^t)):=by
 have h:=zwa q.num t;have hn:q.num≠0:=fun h=>hq (Rat.num_eq_zero.1 h);have hz:q.num^t≠0:=Int.pow_ne_zero hn;have hd:q.den^t≠0:=Nat.pos_iff_ne_zero.1 (Ybn q.den_pos);have ha:q.num.natAbs^t≠0:=Nat.pos_iff_ne_zero.1 (Ybn (Int.natAbs_pos.2 hn));have e1:(q^t)⁻¹.num=(q.num^t).sign*((q.den^t:Nat):Int):=by simp_all
 have e2:(q^t)⁻¹.den=q.num.natAbs^t:=by simp_all
 grind[Int.sign_eq_neg_one_of_neg,zq3,fz]
theorem zqq(x:Fz)(e:Int)(hx:fsz x≤1000):Za T 220 [efz x,.i .i64 e]=some (.tup [efz (fz (Zfa (fv x) e).1),.b (Zfa (fv x) e).2]):=by
 have h0:=zgq (T:=T);have hsg:=zv2 (T:=T) x (by omega);have hn:=zc1 (T:=T) x (by omega);have hs:=zgk (x:=x) (L:=1000) hx (by decide);have l1:=zfr (fv x);have l2:=zfs (fv x);unfold Zfa;rw[zab Z6.h220 rfl,b220];by_cases h1:e < -8
 ·rw[if_neg (by omega)];simp -implicitDefEqProofs[h0,h1]
 by_cases h2:8<e
 ·rw[if_neg (by omega)];simp -implicitDefEqProofs[h0,h1,h2]
 obtain⟨q,hq⟩:∃q,q=fv x:=⟨_,rfl⟩;rw[←hq]at hsg hn hs l1 l2 ⊢;clear hq;have e':fz q=(decide (q.num<0),ofN q.num.natAbs,ofN q.den):=rfl;rw[e']at hn;have hA:(ofN q.num.natAbs).length≤1100:=by omega
 have hD:(ofN q.den).length≤1100:=by omega
 have pA:∀k:Nat,k≤8→Za T 219 [.sl (Zb (ofN q.num.natAbs)) .an,.i .i64 k]=some (.sl (Zb (ofN (q.num.natAbs^k))) .an):=fun k hk=>by
  grind[zjn,zae]
 have pD:∀k:Nat,k≤8→Za T 219 [.sl (Zb (ofN q.den)) .an,.i .i64 k]=some (.sl (Zb (ofN (q.den^k))) .an):=fun k hk=>by
  grind[zjn,zae]
 have lA:∀k:Nat,k≤8→(ofN (q.num.natAbs^k)).length≤1000000:=fun k hk=>by
  have:=zf4 hA k;omega
 have lD:∀k:Nat,k≤8→(ofN (q.den^k)).length≤1000000:=fun k hk=>by
  have:=zf4 hD k;omega
 have hodd:∀k:Nat,k≤8→(((k:Int).tmod 2) == 1)=decide (k%2=1):=fun k hk=>by
  have e:(k:Int).tmod 2=((k%2:Nat):Int):=by rw[show (2:Int)=((2:Nat):Int) from rfl,←Int.ofNat_tmod]
  rw[e,Ybs];simp;omega
 by_cases h3:e<0
 case neg=>
  obtain⟨n,rfl⟩:∃n:Nat,e=n:=⟨e.toNat,by omega⟩;have hn8:n≤8:=by omega
  rw[if_pos (by omega)];have hw:IntKind.wrap .i64 (-(n:Int))=-(n:Int):=zac _ (by omega);have cA:=pA n hn8;have cD:=pD n hn8;have ho:=hodd n hn8;have hnorm:=zga (T:=T) (decide (q.num<0)&&decide (n%2=1)) (ofN (q.num.natAbs^n)) (lA n hn8);rw[show wv (decide (q.num<0)&&decide (n%2=1)) (ofN (q.num.natAbs^n))=sg (decide (q.num<0)&&decide (n%2=1)) (q.num.natAbs^n) by unfold wv;rw[zae],z0h]at hnorm;have hf:=z9c q n;have hz:Zh0 q (n:Int)=q^n:=Yc3 q n;simp only[hz];rw[hf];have h4:¬ (8:Int)<n:=by omega
  have h5:¬ ((n:Int) < -(n:Int)):=by omega
  have h6:¬ (n:Int)<0:=by omega
  have h1':¬ (n:Int) < -8:=by omega
  generalize decide (q.num<0)=NG at *
  generalize decide (n%2=1)=OD at *
  cases NG with
  | false=>
   simp only[Yed]at hnorm ⊢;simp -implicitDefEqProofs[hn,h4,h5,h6,h1',hw,mm2,cA,cD,hnorm]
  | true=>
   simp only[Yco]at hnorm ⊢;cases OD with
   | false=>simp -implicitDefEqProofs[hn,h4,h5,h6,h1',hw,mm2,cA,cD,ho,hnorm]
   | true=>simp -implicitDefEqProofs[hn,h4,h5,h6,h1',hw,mm2,cA,cD,ho,hnorm]
 by_cases h7:q=0
 ·rw[if_neg (by grind)];have hs0:sgQ q=0:=zk5.2 h7;rw[hs0]at hsg;generalize fz 0=Z at *
  have h4:¬ (8:Int)<e:=by omega
  simp -implicitDefEqProofs[h0,h1,h4,h3,hsg]
 rw[if_pos (by grind)];obtain⟨n,rfl⟩:∃n:Nat,e=-(n:Int):=⟨(-e).toNat,by omega⟩;have hn8:n≤8:=by omega
 have hsz:¬ sgQ q=0:=fun h=>h7 (zk5.1 h);have hw:IntKind.wrap .i64 (n:Int)=(n:Int):=zac _ (by omega);have cA:=pA n hn8;have cD:=pD n hn8;have ho:=hodd n hn8;have hnorm:=zga (T:=T) (decide (q.num<0)&&decide (n%2=1)) (ofN (q.den^n)) (lD n hn8);rw[show wv (decide (q.num<0)&&decide (n%2=1)) (ofN (q.den^n))=sg (decide (q.num<0)&&decide (n%2=1)) (q.den^n) by unfold wv;rw[zae],z0h]at hnorm;have hf:=z3j q n h7;have hz:Zh0 q (-(n:Int))=(q^n)⁻¹:=by unfold Zh0;rw[Rat.zpow_neg,Yc3]
 simp only[hz];rw[hf];clear hf hz pA pD lA lD hodd e';have h4:¬ (8:Int) < -(n:Int):=by omega
 have h5:(-(n:Int)<(n:Int)):=by omega
 have h1':¬ -(n:Int) < -8:=by omega
 have h6:(n:Int)≠0:=by omega
 have h6':0<(n:Int):=by omega
 have h6'':0<n:=by omega
 have h1'':¬ 8<n:=by omega
 generalize ofN (q.num.natAbs^n)=AP at *
 generalize ofN (q.den^n)=DP at *
 generalize decide (q.den^n≠0)=NZ at *
 generalize ofN q.num.natAbs=A at *
 generalize ofN q.den=D at *
 generalize decide (q.num<0)=NG at *
 generalize decide (n%2=1)=OD at *
 generalize sgQ q=SG at *
 cases NG with
 | false=>
  simp only[Yed]at hnorm ⊢;simp -implicitDefEqProofs[hn,h4,h5,h6'',h1',hw,mm2,cA,cD,hnorm,hsg,hsz]
 | true=>
  simp only[Yco]at hnorm ⊢;cases OD with
  | false=>simp -implicitDefEqProofs[hn,h4,h5,h6'',h1',hw,mm2,cA,cD,ho,hnorm,hsg,hsz]
  | true=>simp -implicitDefEqProofs[hn,h4,h5,h6'',h1',hw,mm2,cA,cD,ho,hnorm,hsg,hsz]
end
@[simp] theorem z30(l:List Int):(ints l).length=l.length:=by simp[ints]
@[simp] theorem zaih(l:List Int):wkL (ints l)=ints l:=by rw[zb4];simp[ints,wkR,wkA]
@[simp] theorem zadd(l:List Int)(i:Nat)(h:i<(ints l).length):(ints l)[i]=[.i .i64 (l[i]'(by simpa using h))]:=by simp[ints]
@[simp] theorem zade:ints []=[]:=rfl
section
variable{T:Tbl}[Z5 T][Zo T][Zy T][Zz T][Zq T][Zu T][Zj T][Zn T][Zs T][Z6 T][Zaa T]
theorem zcr(i m:Int):Za T 435 [.i .i64 i,.i .i64 m]=some (.b (Zw i m)):=by
 rw[zab Zaa.h435 rfl,b435];unfold Zw;by_cases h:0≤i
 ·by_cases h2:i<m<;>simp -implicitDefEqProofs[h,h2]
 ·simp -implicitDefEqProofs[h]
theorem z32(i:Ins):Za T 437 [.agg (Zeb i)]=some (.agg [.i .i64 i.op,.i .i64 i.a,.i .i64 i.b]):=by
 rw[zab Zaa.h437 rfl,b437];simp -implicitDefEqProofs
theorem zs3(x:Fz)(hx:fsz x≤10000):Za T 438 [efz x]=some (.b (Zhw x)):=by
 obtain⟨n,a,d⟩:=x;rw[zab Zaa.h438 rfl,b438];unfold Zhw;cases n with
 | true=>simp -implicitDefEqProofs
 | false=>
  by_cases h:a=[]
  ·subst h;by_cases h2:d=[]
   ·subst h2;simp -implicitDefEqProofs
   ·have e2:d.isEmpty=false:=by cases d<;>simp_all
    simp -implicitDefEqProofs[h2,e2]
  ·have e2:a.isEmpty=false:=by cases a<;>simp_all
   simp -implicitDefEqProofs[h,e2]
theorem zs4(i:Ins):Za T 439 [.agg (Zeb i)]=some (.sl (ints (Z2 i)) .an):=by
 obtain⟨op,a,b,n⟩:=i;rw[zab Zaa.h439 rfl,b439];unfold Z2;simp only;by_cases h6:op=6
 ·subst h6;simp -implicitDefEqProofs[ints]
 by_cases h11:op=11
 ·subst h11;simp -implicitDefEqProofs[ints]
 rw[if_neg (by omega)];by_cases h7:op=7
 ·subst h7;simp -implicitDefEqProofs[ints]
 by_cases h8:op=8
 ·subst h8;simp -implicitDefEqProofs[ints]
 by_cases h9:op=9
 ·subst h9;simp -implicitDefEqProofs[ints]
 by_cases h10:op=10
 ·subst h10;simp -implicitDefEqProofs[ints]
 rw[if_neg (by omega)];simp -implicitDefEqProofs[h6,h7,h8,h9,h10,h11]
theorem zw7(i:Ins):(Z2 i).length≤2:=by
 unfold Z2;split
 ·simp
 ·split<;>simp
def Zj1(t:Tp)(p:Nat)(x:Ins)(i:Nat):St:=
 ⟨[(1,.i .i64 p),(2,.ptr (.loc 2) 1 4 0 0),(5,.ptr (.loc 5) 2 6 0 0),(30,.sl (ints (Z2 x)) .an),(31,.i .i64 (Z2 x).length),(32,.i .i64 i)],
  [(.loc 2,⟨1,.str,4,[[.sl (Zcz t.code) .an,.sl (ints t.outs) .an,.i .i64 t.dim,.i .i64 t.par]]⟩),(.loc 5,⟨2,.str,6,[Zeb x]⟩)],4⟩
theorem zz3(t:Tp)(p:Nat)(x:Ins):Zp T 0 0 (.norm false [2,5]) l434_0 (Zj1 t p x 0) =
  if ((Z2 x).all fun r=>Zw r p)=true then some (.n,⟨[(2,.ptr (.loc 2) 1 4 0 0),(5,.ptr (.loc 5) 2 6 0 0)],
   [(.loc 2,⟨1,.str,4,[[.sl (Zcz t.code) .an,.sl (ints t.outs) .an,.i .i64 t.dim,.i .i64 t.par]]⟩),(.loc 5,⟨2,.str,6,[Zeb x]⟩)],4⟩)
  else some (.r,⟨[(4,.b false)],[],2⟩):=by
 have hlen:=zw7 x;refine zaw (Zj1 t p x) (Z2 x).length (fun i=>if (((Z2 x).drop i).all fun r=>Zw r p)=true then some (.n,_) else some (.r,_)) (fun i hi=>?_) ?_
 ·have hg:(Z2 x)[i]? = some ((Z2 x)[i]'hi):=Ya hi;have hws:=zbj hi (by omega);have hd:(Z2 x).drop i=(Z2 x)[i]'hi::(Z2 x).drop (i+1):=Ym hi;have cb:=zcr (T:=T) ((Z2 x)[i]'hi) p;have hi':(i:Int)<(Z2 x).length:=by omega
  by_cases hb:Zw ((Z2 x)[i]'hi) p=true
  ·left;rw[hb]at cb;refine⟨?_,by rw[hd];simp only[Ybx,hb,Yco]⟩;unfold Zj1;generalize Z2 x=R at *
   simp -implicitDefEqProofs[l434_0,hi,hi',hg,hws,cb]
  ·right;have hb':Zw ((Z2 x)[i]'hi) p=false:=by simpa using hb
   rw[hb']at cb;have hall:(((Z2 x).drop i).all fun r=>Zw r p)=false:=by rw[hd,Ybx,hb'];rfl
   simp only[hall,Y8,if_false];unfold Zj1;clear hall hd;generalize Z2 x=R at *
   constructor<;>simp -implicitDefEqProofs[l434_0,hi,hi',hg,cb]
 ·simp only[Y2,Yd5,if_true];unfold Zj1;generalize Z2 x=R at *
  constructor<;>simp -implicitDefEqProofs[l434_0]
theorem zz4(t:Tp)(p:Nat)(x:Ins)(hx:t.code[p]? = some x)(hf:fsz x.n≤10000)(hl:t.code.length≤4294967296):Za T 434 [etp t,.i .i64 p]=some (.b (Zbq t.dim t.par p x)):=by
 have hp:=zbw hx;have hp2:(p:Int)<t.code.length:=by omega
 have ho:=z32 (T:=T) x;have hbl:=zs3 (T:=T) x.n hf;have hrd:=zs4 (T:=T) x;have hlo:=zz3 (T:=T) t p x;have hrt:=zsl (T:=T) x.n hf;unfold Zbq;unfold Zj1 at hlo;simp only[Yy]at hlo;have cy:=zcr (T:=T) x.a t.dim;have cp:=zcr (T:=T) x.a t.par;have hr2:(((Z2 x).length:Int) == 2)=decide ((Z2 x).length=2):=by
  rw[Ybs];simp;omega
 rw[zab Zaa.h434 rfl,b434];generalize Z2 x=R at *
 generalize Zhv x.n=RT at *
 generalize Zhw x.n=BL at *
 generalize Zw x.a t.dim=B1 at *
 generalize Zw x.a t.par=B2 at *
 generalize (R.all fun r=>Zw r p)=AL at *
 obtain⟨code,outs,dim,par⟩:=t;obtain⟨op,a,b,n⟩:=x;dsimp only at hx hp hp2 ho hbl hrd hlo hrt cy cp ⊢;have hxe:=(Ye.1 hx).2;clear hf hl;by_cases h1:op=1
 ·subst h1;by_cases ha:a=0
  ·subst ha;by_cases hb:b=0
   ·subst hb;simp -implicitDefEqProofs[hp,hp2,hx,hxe,ho,hrt]
   ·simp -implicitDefEqProofs[hp,hp2,hx,hxe,ho,hrt,hb]
  ·simp -implicitDefEqProofs[hp,hp2,hx,hxe,ho,hrt,ha]
 rw[if_neg h1];cases BL with
 | false=>simp -implicitDefEqProofs[hp,hp2,hx,hxe,h1,hbl]
 | true=>
 cases AL with
 | false=>
  simp only[Y8,if_false]at hlo;simp -implicitDefEqProofs[hp,hp2,hx,hxe,h1,hbl,hrd,hlo]
 | true=>
 simp only[if_true]at hlo;by_cases h2:op=2
 ·subst h2;by_cases ha:a=0
  ·subst ha;by_cases hb:b=0
   ·subst hb;simp -implicitDefEqProofs[hp,hp2,hx,hxe,ho,hbl,hrd,hlo]
   ·simp -implicitDefEqProofs[hp,hp2,hx,hxe,ho,hbl,hrd,hlo,hb]
  ·simp -implicitDefEqProofs[hp,hp2,hx,hxe,ho,hbl,hrd,hlo,ha]
 by_cases h3:op=3
 ·subst h3;cases B1 with
  | false=>simp -implicitDefEqProofs[hp,hp2,hx,hxe,hbl,hrd,hlo,cy]
  | true=>
   by_cases hb:b=0
   ·subst hb;simp -implicitDefEqProofs[hp,hp2,hx,hxe,hbl,hrd,hlo,cy]
   ·simp -implicitDefEqProofs[hp,hp2,hx,hxe,hbl,hrd,hlo,cy,hb]
 by_cases h4:op=4
 ·subst h4;cases B2 with
  | false=>simp -implicitDefEqProofs[hp,hp2,hx,hxe,hbl,hrd,hlo,cp]
  | true=>
   by_cases hb:b=0
   ·subst hb;simp -implicitDefEqProofs[hp,hp2,hx,hxe,hbl,hrd,hlo,cp]
   ·simp -implicitDefEqProofs[hp,hp2,hx,hxe,hbl,hrd,hlo,cp,hb]
 by_cases h6:op=6
 ·subst h6;by_cases hb:b=0
  ·subst hb;simp -implicitDefEqProofs[hp,hp2,hx,hxe,hbl,hrd,hlo]
  ·simp -implicitDefEqProofs[hp,hp2,hx,hxe,hbl,hrd,hlo,hb]
 by_cases h11:op=11
 ·subst h11;by_cases hb:-8≤b
  ·by_cases hb2:b≤8
   ·simp -implicitDefEqProofs[hp,hp2,hx,hxe,hbl,hrd,hlo,hb,hb2]
   ·simp -implicitDefEqProofs[hp,hp2,hx,hxe,hbl,hrd,hlo,hb,hb2]
  ·simp -implicitDefEqProofs[hp,hp2,hx,hxe,hbl,hrd,hlo,hb]
 simp -implicitDefEqProofs[hp,hp2,hx,hxe,h1,h2,h3,h4,h6,h11,hbl,hrd,hlo,hr2]
end
section
variable{T:Tbl}[Z5 T][Zo T][Zy T][Zz T][Zq T][Zu T][Zj T][Zn T][Zs T][Z6 T][Zaa T]
structure Small (t:Tp):Prop where
 code:t.code.length≤4294967296
 outs:t.outs.length≤4294967296
 ns:∀i∈t.code,fsz i.n≤10000
 d1:-9223372036854775808≤t.dim
 d2:t.dim<9223372036854775808
theorem zs5(t:Tp)(hs:Small t):Za T 433 [etp t]=some (.b (Zen t)):=by
 obtain⟨h1,h2,_,d1,d2⟩:=hs;have c0:Za T 435 [.i .i64 (IntKind.wrap .i64 (t.dim-1)),.i .i64 6]=some (.b (Zw (t.dim-1) 6)):=by
  rw[zcr];congr 2;by_cases hm:t.dim=-9223372036854775808
  ·rw[hm]
   decide
  ·rw[zac _ (by omega)]
 have c1:=zcr (T:=T) t.par 7;unfold Zen;obtain⟨code,outs,dim,par⟩:=t;dsimp only at *
 have e1:((outs.length:Int) == dim)=decide ((outs.length:Int)=dim):=rfl;rw[zab Zaa.h433 rfl,b433];generalize Zw (dim-1) 6=B1 at *
 generalize Zw par 7=B2 at *
 cases B1 with
 | false=>simp -implicitDefEqProofs[c0]
 | true=>
 cases B2 with
 | false=>simp -implicitDefEqProofs[c0,c1]
 | true=>
 by_cases ho:(outs.length:Int)=dim
 ·by_cases hc:code.length≤300
  ·have hc':(code.length:Int)≤300:=by omega
   simp -implicitDefEqProofs[c0,c1,ho,hc,hc']
  ·have hc':300<(code.length:Int):=by omega
   simp -implicitDefEqProofs[c0,c1,ho,hc,hc']
 ·simp -implicitDefEqProofs[c0,c1,ho]
def bxT(t:Tp):Box:=⟨1,.str,4,[[.sl (Zcz t.code) .an,.sl (ints t.outs) .an,.i .i64 t.dim,.i .i64 t.par]]⟩
def Zj2(t:Tp)(i:Nat):St:=⟨[(1,.ptr (.loc 1) 1 4 0 0),(11,.i .i64 t.code.length),(12,.i .i64 i)],[(.loc 1,bxT t)],3⟩
theorem zpa(t:Tp)(hs:Small t):Zp T 0 0 (.norm false [1]) l430_0 (Zj2 t 0) =
  if Zca t.dim t.par 0 t.code=-1 then some (.n,⟨[(1,.ptr (.loc 1) 1 4 0 0)],[(.loc 1,bxT t)],3⟩) else some (.r,⟨[(2,.i .i64 (Zca t.dim t.par 0 t.code))],[],2⟩):=by
 have hc:=hs.code;have e0:t.code.drop 0=t.code:=rfl;rw[←e0];refine zaw (Zj2 t) t.code.length (fun i=>if Zca t.dim t.par i (t.code.drop i)=-1 then some (.n,_) else some (.r,⟨[(2,.i .i64 (Zca t.dim t.par i (t.code.drop i)))],[],2⟩)) (fun i hi=>?_) ?_
 ·have hg:t.code[i]? = some (t.code[i]'hi):=Ya hi;have hws:=zbj hi (by omega);have hd:t.code.drop i=t.code[i]'hi::t.code.drop (i+1):=Ym hi;have cm:=zz4 (T:=T) t i _ hg (hs.ns _ (Ys hi)) hc;have hi':(i:Int)<t.code.length:=by omega
  have hf:Zca t.dim t.par i (t.code.drop i)=if Zbq t.dim t.par i (t.code[i]'hi) then Zca t.dim t.par (i+1) (t.code.drop (i+1)) else i:=by rw[hd];rfl
  by_cases hb:Zbq t.dim t.par i (t.code[i]'hi)=true
  ·left;rw[hb]at cm;rw[if_pos hb]at hf;refine⟨?_,by simp only[hf]⟩;unfold Zj2 bxT;clear hf hd;simp -implicitDefEqProofs[l430_0,hi,hi',hws,cm]
  ·right;have hb':Zbq t.dim t.par i (t.code[i]'hi)=false:=by simpa using hb
   rw[hb']at cm;rw[if_neg hb]at hf;have hne:¬ (i:Int)=-1:=by omega
   simp only[hf,if_neg hne];unfold Zj2 bxT;clear hf hd;constructor<;>simp -implicitDefEqProofs[l430_0,hi,hi',cm]
 ·have hf:Zca t.dim t.par t.code.length (t.code.drop t.code.length)=-1:=by rw[Y2];rfl
  simp only[hf,if_true];unfold Zj2 bxT;constructor<;>simp -implicitDefEqProofs[l430_0]
def Zj3(t:Tp)(i:Nat):St:=⟨[(1,.ptr (.loc 1) 1 4 0 0),(22,.sl (ints t.outs) .an),(23,.i .i64 t.outs.length),(24,.i .i64 i)],[(.loc 1,bxT t)],3⟩
theorem zpb(t:Tp)(hs:Small t):Zp T 0 2 (.norm false []) l430_1 (Zj3 t 0) =
  if (t.outs.all fun o=>Zw o t.code.length)=true then some (.n,⟨[],[],2⟩) else some (.r,⟨[(2,.i .i64 t.code.length)],[],2⟩):=by
 have hc:=hs.outs;refine zaw (Zj3 t) t.outs.length (fun i=>if ((t.outs.drop i).all fun o=>Zw o t.code.length)=true then some (.n,_) else some (.r,_)) (fun i hi=>?_) ?_
 ·have hg:t.outs[i]? = some (t.outs[i]'hi):=Ya hi;have hws:=zbj hi (by omega);have hd:t.outs.drop i=t.outs[i]'hi::t.outs.drop (i+1):=Ym hi;have cm:=zcr (T:=T) (t.outs[i]'hi) t.code.length;have hi':(i:Int)<t.outs.length:=by omega
  by_cases hb:Zw (t.outs[i]'hi) t.code.length=true
  ·left;rw[hb]at cm;refine⟨?_,by rw[hd];simp only[Ybx,hb,Yco]⟩;unfold Zj3 bxT;clear hd;simp -implicitDefEqProofs[l430_1,hi,hi',hg,hws,cm]
  ·right;have hb':Zw (t.outs[i]'hi) t.code.length=false:=by simpa using hb
   rw[hb']at cm;have hall:((t.outs.drop i).all fun o=>Zw o t.code.length)=false:=by rw[hd,Ybx,hb'];rfl
   simp only[hall,Y8,if_false];unfold Zj3 bxT;clear hall hd;constructor<;>simp -implicitDefEqProofs[l430_1,hi,hi',hg,cm]
 ·simp only[Y2,Yd5,if_true];unfold Zj3 bxT;constructor<;>simp -implicitDefEqProofs[l430_1]
theorem zs6(t:Tp)(hs:Small t):Za T 430 [etp t]=some (.i .i64 (Zgp t)):=by
 have cw:=zs5 (T:=T) t hs;have h1:=zpa (T:=T) t hs;have h2:=zpb (T:=T) t hs;unfold Zgp;unfold Zj2 bxT at h1;unfold Zj3 bxT at h2;simp only[Yy]at h1 h2;generalize hfi:Zca t.dim t.par 0 t.code=F at *
 generalize hal:(t.outs.all fun o=>Zw o t.code.length)=AL at *
 generalize hwt:Zen t=W at *
 obtain⟨code,outs,dim,par⟩:=t;dsimp only at *
 rw[zab Zaa.h430 rfl,b430];cases W with
 | false=>simp -implicitDefEqProofs[cw]
 | true=>
 by_cases hf:F=-1
 ·subst hf;cases AL with
  | false=>
   simp only[Y8,if_false]at h2;simp -implicitDefEqProofs[cw,h1,h2]
  | true=>
   simp only[if_true]at h1 h2;simp -implicitDefEqProofs[cw,h1,h2]
 ·rw[if_neg hf]at h1;simp -implicitDefEqProofs[cw,h1,hf]
theorem zeg(t:Tp)(hs:Small t):Za T 421 [etp t]=some (.b (okT t)):=by
 have cw:=zs6 (T:=T) t hs;have e:(Zgp t == -1)=okT t:=rfl;rw[zab Zaa.h421 rfl,b421,←e];generalize Zgp t=W at *
 obtain⟨code,outs,dim,par⟩:=t;simp -implicitDefEqProofs[cw]
end
def Zcc(n:Int):Int:=if n<0 then 0 else if 4096<n then 4096 else n
abbrev bxG(g:Nat)(s p L:Int):Box:=⟨g,.str,3,[[.i .i64 s,.i .i64 p,.i .i64 L]]⟩
def Zdv(s:Int):Int:=IntKind.wrap .i64 (s+1)
def Zek(p:Int)(x:Fz):Int:=if p<(Zd9 x:Int) then (Zd9 x:Int) else p
section
variable{T:Tbl}[Z5 T][Zo T][Zy T][Zz T][Zq T][Zu T][Zj T][Zn T][Zs T][Z6 T][Zan T][Zcl T][Zaa T][Zaf T][Zbc T]
theorem zsm(x:Fz)(hx:fsz x≤10000):Za T 223 [efz x]=some (.i .i64 (Zd9 x)):=by
 have h1:=zei x;have h2:=zew x;have c1:=zqw (T:=T) x.2.1 (by omega);have c2:=zqw (T:=T) x.2.2 (by omega);have b1:=zqx (x:=val x.2.1) (k:=10000) (Yc (zad x.2.1) (by omega));have b2:=zqx (x:=val x.2.2) (k:=10000) (Yc (zad x.2.2) (by omega));have w:IntKind.wrap .i64 ((Za6 (val x.2.1):Int)+(Za6 (val x.2.2):Int))=((Zd9 x:Nat):Int):=by
  have e:((Zd9 x:Nat):Int)=(Za6 (val x.2.1):Int)+(Za6 (val x.2.2):Int):=by unfold Zd9;omega
  rw[e];exact zac _ (by omega)
 rw[zab Zan.h223 rfl,b223];generalize Zd9 x=S at *
 generalize Za6 (val x.2.1)=B1 at *
 generalize Za6 (val x.2.2)=B2 at *
 simp -implicitDefEqProofs[c1,c2,w]
theorem zfj(n:Int):Z0 T 406 [.i .i64 n] []=some (.ptr (.loc 7) 1 3 0 0,[(.loc 7,bxG 1 0 0 (Zcc n))]):=by
 unfold Zcc;rw[zal Zaf.h406 rfl,b406];by_cases h1:n<0
 ·simp -implicitDefEqProofs[h1,mm2]
 ·by_cases h2:4096<n
  ·simp -implicitDefEqProofs[h1,h2,mm2]
  ·simp -implicitDefEqProofs[h1,h2,mm2]
theorem zsn(s p L k:Int):Z0 T 426 [.ptr (.bor 0) 0 3 0 0,.i .i64 k] [(.bor 0,bxG 0 s p L)]=some (.tup [],[(.bor 0,bxG 0 (Zdv s) (if p<k then k else p) L)]):=by
 unfold Zdv;rw[zal Zaf.h426 rfl,b426];by_cases h1:p<k
 ·simp -implicitDefEqProofs[h1,mm2]
 ·simp -implicitDefEqProofs[h1,mm2]
theorem zf5(s p L:Int)(x:Fz)(hx:fsz x≤10000):Z0 T 411 [.ptr (.bor 0) 0 3 0 0,efz x] [(.bor 0,bxG 0 s p L)]=some (.b (decide ((Zd9 x:Int)≤L)),[(.bor 0,bxG 0 (Zdv s) (Zek p x) L)]):=by
 have h1:=zsm (T:=T) x hx;have h2:=zsn (T:=T) s p L (Zd9 x);unfold Zek;rw[zal Zaf.h411 rfl,b411];generalize Zdv s=s' at *
 generalize (if p<(Zd9 x:Int) then (Zd9 x:Int) else p)=p' at *
 generalize (Zd9 x:Int)=z at *
 simp -implicitDefEqProofs[h1,h2]
def Zks(l:List Fz)(i:Nat):St:=⟨[(3,.bs (.loc 3) 1 3 0 i),(6,.sl (Zf l) .an),(7,.i .i64 l.length),(8,.i .i64 i)],[(.loc 3,⟨1,.own,3,Zf (nrm (l.take i))⟩)],3⟩
theorem zjo(l:List Fz)(hl:l.length≤1000)(hw:∀x∈l,fsz x≤1000):Za T 420 [.sl (Zf l) .an]=some (.sl (Zf (nrm l)) .an):=by
 have h:Zp T 0 0 (.norm false [3]) l420_0 (Zks l 0)=some (.n,⟨[(3,.bs (.loc 3) 1 3 0 l.length)],[(.loc 3,⟨1,.own,3,Zf (nrm l)⟩)],3⟩):=by
  refine zat (Zks l) l.length _ (fun i hi=>?_) ?_
  ·have hg:l[i]? = some (l[i]'hi):=Ya hi;have hws:=zbj hi (by omega);have hn:=zc1 (T:=T) (l[i]'hi) (Yc (hw _ (Ys hi)) (by decide));have e:nrm (l.take (i+1))=nrm (l.take i)++[fz (fv (l[i]'hi))]:=zfo l _ hi;have hp:=zh6 (m:=nrm (l.take i)) (n:=i) (by simp[nrm];omega) (fz (fv (l[i]'hi)));have hml:(nrm (l.take i)).length=i:=by simp[nrm];omega
   unfold Zks;rw[e];clear e;generalize nrm (l.take i)=M at *
   generalize fz (fv (l[i]'hi))=z at *
   have hb:i≤4294967295:=by omega
   simp -implicitDefEqProofs[l420_0,hi,hg,hws,hn,hp,hml,hb]
  ·unfold Zks;rw[Yb (Yd _)];generalize nrm l=M;constructor<;>simp -implicitDefEqProofs[l420_0]
 unfold Zks at h;simp[nrm]at h;have ht:List.take l.length (List.map (fun x=>fz (fv x)) l)=List.map (fun x=>fz (fv x)) l:=Yb (by simp);rw[zab Zbc.h420 rfl,b420];simp -implicitDefEqProofs[h,nrm,ht]
structure PoS (x:PoF) (B:Nat):Prop where
 t:fsz x.t≤B
 y:∀u∈x.y,fsz u≤B
 p:∀u∈x.p,fsz u≤B
 yl:x.y.length≤1000
 pl:x.p.length≤1000
theorem z3k(x:PoF):x.v.f=⟨fz (fv x.t),nrm x.y,nrm x.p⟩:=by
 unfold PoF.v Po.f;rw[zw0,zw0]
theorem zfk(x:PoF)(h:PoS x 1000):Za T 405 [ept x]=some (ept x.v.f):=by
 have h1:=zc1 (T:=T) x.t (Yc h.t (by decide));have h2:=zjo (T:=T) x.y h.yl h.y;have h3:=zjo (T:=T) x.p h.pl h.p;rw[z3k];obtain⟨t,y,p⟩:=x;dsimp only at *
 rw[zab Zbc.h405 rfl,b405];generalize fz (fv t)=t' at *
 generalize nrm y=y' at *
 generalize nrm p=p' at *
 simp -implicitDefEqProofs[h1,h2,h3]
end
theorem z3v{q:Rat}{e:Int}(h1:-8≤e)(h2:e≤8):Zfa q e=if e<0∧q=0 then (0,false) else (Zh0 q e,true):=by
 unfold Zfa;by_cases h:e<0∧q=0
 ·rw[if_pos h,if_neg (by intro hh;exact hh.2.2 h)]
 ·rw[if_neg h,if_pos ⟨h1,h2,h⟩]
abbrev mD:AV:=.agg [.dead]
section
variable{T:Tbl}[Z5 T][Zo T][Zy T][Zz T][Zq T][Zu T][Zj T][Zn T][Zs T][Z6 T][Zan T][Zcl T][Zaa T][Zaf T][Zbc T][Za2 T][Zix T]
theorem zaif(x:Fz)(hx:fsz x≤1000):Za T 445 [mD,efz x]=some (efz (fz (fv x))):=by
 have h:=zc1 (T:=T) x (by omega);rw[zab Za2.h445 rfl,b445];generalize fz (fv x)=z at *
 simp -implicitDefEqProofs[h]
theorem z9i(x:Fz)(hx:fsz x≤1000):Za T 444 [mD,efz x]=some (efz (fz (-fv x))):=by
 have h:=zql (T:=T) x (by omega);rw[zab Za2.h444 rfl,b444];generalize fz (-fv x)=z at *
 simp -implicitDefEqProofs[h]
theorem z9j(x y:Fz)(hx:fsz x≤1000)(hy:fsz y≤1000):Za T 441 [mD,efz x,efz y]=some (efz (fz (fv x+fv y))):=by
 have h:=zqm (T:=T) x y hx hy;rw[zab Za2.h441 rfl,b441];generalize fz (fv x+fv y)=z at *
 simp -implicitDefEqProofs[h]
theorem z9k(x y:Fz)(hx:fsz x≤1000)(hy:fsz y≤1000):Za T 448 [mD,efz x,efz y]=some (efz (fz (fv x-fv y))):=by
 have h:=zqn (T:=T) x y hx hy;rw[zab Za2.h448 rfl,b448];generalize fz (fv x-fv y)=z at *
 simp -implicitDefEqProofs[h]
theorem z9l(x y:Fz)(hx:fsz x≤1000)(hy:fsz y≤1000):Za T 443 [mD,efz x,efz y]=some (efz (fz (fv x*fv y))):=by
 have h:=zqo (T:=T) x y hx hy;rw[zab Za2.h443 rfl,b443];generalize fz (fv x*fv y)=z at *
 simp -implicitDefEqProofs[h]
theorem z9m(x y:Fz)(hx:fsz x≤1000)(hy:fsz y≤1000):Za T 447 [mD,efz x,efz y]=some (.tup [efz (fz (fv x/fv y)),.b (decide (fv y≠0))]):=by
 have h:=zqp (T:=T) x y hx hy;rw[zab Za2.h447 rfl,b447];generalize fz (fv x/fv y)=z at *
 generalize decide (fv y≠0)=ok at *
 simp -implicitDefEqProofs[h]
theorem z9n(x:Fz)(e:Int)(hx:fsz x≤1000):Za T 446 [mD,efz x,.i .i64 e]=some (.tup [efz (fz (Zfa (fv x) e).1),.b (Zfa (fv x) e).2]):=by
 have h:=zqq (T:=T) x e hx;rw[zab Za2.h446 rfl,b446];generalize fz (Zfa (fv x) e).1=z at *
 generalize (Zfa (fv x) e).2=ok at *
 simp -implicitDefEqProofs[h]
theorem zw1(s p L:Int)(x:Fz)(hx:fsz x≤10000):Z0 T 442 [.agg [.ptr (.bor 0) 0 3 0 0],efz x] [(.bor 0,bxG 0 s p L)]=some (.b (decide ((Zd9 x:Int)≤L)),[(.bor 0,bxG 0 (Zdv s) (Zek p x) L)]):=by
 have h:=zf5 (T:=T) s p L x hx;rw[zal Za2.h442 rfl,b442];generalize Zdv s=s' at *
 generalize Zek p x=p' at *
 simp -implicitDefEqProofs[h]
theorem zzz(i:Ins)(P:Po)(hop:i.op=1∨i.op=2∨i.op=3∨i.op=4)(hn:fsz i.n≤1000)(hy:i.op=3→0≤i.a∧i.a<P.y.length)(hp:i.op=4→0≤i.a∧i.a<P.p.length) :
  Za T 431 [mD,.agg (Zeb i),ept P.f]=some (efz (fz (Zr P [] i).1)):=by
 have h1:=zaif (T:=T) i.n hn;obtain⟨op,a,b,n⟩:=i;obtain⟨t,y,p⟩:=P;dsimp only at *
 unfold Zr Po.f;dsimp only;rw[zab Za2.h431 rfl,b431];rcases hop with rfl | rfl | rfl | rfl
 ·show _=some (efz (fz (fv n)));generalize fz (fv n)=z at *
  generalize fzs y=Y at *
  generalize fzs p=PP at *
  generalize fz t=tt at *
  simp -implicitDefEqProofs[h1]
 ·show _=some (efz (fz t));generalize fzs y=Y at *
  generalize fzs p=PP at *
  generalize fz t=tt at *
  simp -implicitDefEqProofs
 ·obtain⟨k,rfl⟩:∃k:Nat,a=k:=⟨a.toNat,by have:=(hy rfl).1;omega⟩;have hk:k<y.length:=by have:=(hy rfl).2;omega
  have hk':(k:Int)<y.length:=by omega
  have hg:(fzs y)[k]? = some (fz (y[k]'hk)):=zkx (Ya hk);have hge:=(Ye.1 hg).2;have hl:(fzs y).length=y.length:=zar y;have e:gI y (k:Int)=y[k]'hk:=by simp[gI,List.getD,Ya hk]
  show _=some (efz (fz (gI _ _)));rw[e];generalize fzs y=Y at *
  generalize fzs p=PP at *
  generalize fz t=tt at *
  generalize fz (y[k]'hk)=z at *
  simp -implicitDefEqProofs[hk,hk',hg,hge,hl]
 ·obtain⟨k,rfl⟩:∃k:Nat,a=k:=⟨a.toNat,by have:=(hp rfl).1;omega⟩;have hk:k<p.length:=by have:=(hp rfl).2;omega
  have hk':(k:Int)<p.length:=by omega
  have hg:(fzs p)[k]? = some (fz (p[k]'hk)):=zkx (Ya hk);have hge:=(Ye.1 hg).2;have hl:(fzs p).length=p.length:=zar p;have e:gI p (k:Int)=p[k]'hk:=by simp[gI,List.getD,Ya hk]
  show _=some (efz (fz (gI _ _)));rw[e];generalize fzs y=Y at *
  generalize fzs p=PP at *
  generalize fz t=tt at *
  generalize fz (p[k]'hk)=z at *
  simp -implicitDefEqProofs[hk,hk',hg,hge,hl]
theorem zjt{D:List Rat}{a:Int}(h:0≤a∧a<D.length):∃k:Nat,a=k∧(k:Int)<D.length∧k<D.length∧(fzs D)[k]? = some (fz (gI D a)):=by
 obtain⟨k,rfl⟩:∃k:Nat,a=k:=⟨a.toNat,by omega⟩;have hk:k<D.length:=by omega
 refine⟨k,rfl,by omega,hk,?_⟩;have e:gI D (k:Int)=D[k]'hk:=by simp[gI,List.getD,Ya hk]
 rw[e];exact zkx (Ya hk)
theorem zh7{D:List Rat}{a:Int}{B:Nat}(hB:1≤B)(h:∀q∈D,sz q≤B):sz (gI D a)≤B:=by
 unfold gI List.getD;cases hx:D[a.toNat]? with
 | none=>exact Yc (Nat.le_of_eq zxq) hB
 | some q=>exact h q (Yg hx)
theorem zz0(i:Ins)(P:Po)(D:List Rat)(dim par:Int)(hm:Zbq dim par D.length i=true)(hd:(P.y.length:Int)=dim)(hp:(P.p.length:Int)=par)(hn:fsz i.n≤1000)(hD:∀q∈D,sz q≤1000) :
  Za T 422 [mD,.agg (Zeb i),ept P.f,.sl (Zf (fzs D)) .an]=some (.tup [efz (fz (Zr P D i).1),.b (Zr P D i).2]):=by
 have hop:=zx4 hm;by_cases hleaf:i.op=1∨i.op=2∨i.op=3∨i.op=4
 ·have h1:=zzz (T:=T) i P hleaf hn (fun h=>by have:=zaim hm h;omega) (fun h=>by have:=zain hm h;omega);have e:Zr P D i=((Zr P [] i).1,true):=by
   unfold Zr;rcases hleaf with h | h | h | h<;>simp[h]
  rw[e];generalize fz (Zr P [] i).1=z at *
  generalize fzs D=DD at *
  obtain⟨op,a,b,n⟩:=i;generalize P.f=Q at *
  obtain⟨⟨t0,t1,t2⟩,y,p⟩:=Q;dsimp only at *
  rw[zab Za2.h422 rfl,b422];rcases hleaf with rfl | rfl | rfl | rfl<;>simp -implicitDefEqProofs[h1]
 have ha:=z94 hm (by omega);obtain⟨k,hk1,hk2,hk3,hka⟩:=zjt ha;have sa:fsz (fz (gI D i.a))≤1000:=zh7 (by decide) hD;have hkae:=(Ye.1 hka).2;have hl:(fzs D).length=D.length:=zar D;have c6:=z9i (T:=T) (fz (gI D i.a)) sa;have c11:=z9n (T:=T) (fz (gI D i.a)) i.b sa;rw[zpg]at c6 c11;by_cases h6:i.op=6
 ·have e:Zr P D i=(-gI D i.a,true):=by simp[Zr,h6]
  rw[e];generalize fz (-gI D i.a)=z at *
  generalize fz (gI D i.a)=u at *
  generalize fzs D=DD at *
  obtain⟨op,a,b,n⟩:=i;generalize P.f=Q at *
  obtain⟨⟨t0,t1,t2⟩,y,p⟩:=Q;dsimp only at *
  subst h6 hk1;rw[zab Za2.h422 rfl,b422];simp -implicitDefEqProofs[hk2,hk3,hka,hkae,hl,c6]
 by_cases h11:i.op=11
 ·have hb:=z96 hm h11;have e:Zr P D i=Zfa (gI D i.a) i.b:=by simp[Zr,h11,z3v hb.1 hb.2]
  rw[e];generalize fz (Zfa (gI D i.a) i.b).1=z at *
  generalize (Zfa (gI D i.a) i.b).2=ok at *
  generalize fz (gI D i.a)=u at *
  generalize fzs D=DD at *
  obtain⟨op,a,b,n⟩:=i;generalize P.f=Q at *
  obtain⟨⟨t0,t1,t2⟩,y,p⟩:=Q;dsimp only at *
  subst h11 hk1;rw[zab Za2.h422 rfl,b422];simp -implicitDefEqProofs[hk2,hk3,hka,hkae,hl,c11]
 have hb:=z95 hm (by omega);obtain⟨j,hj1,hj2,hj3,hjb⟩:=zjt hb;have sb:fsz (fz (gI D i.b))≤1000:=zh7 (by decide) hD;have hjbe:=(Ye.1 hjb).2;have c7:=z9j (T:=T) (fz (gI D i.a)) (fz (gI D i.b)) sa sb;have c8:=z9k (T:=T) (fz (gI D i.a)) (fz (gI D i.b)) sa sb;have c9:=z9l (T:=T) (fz (gI D i.a)) (fz (gI D i.b)) sa sb;have c10:=z9m (T:=T) (fz (gI D i.a)) (fz (gI D i.b)) sa sb;rw[zpg,zpg]at c7 c8 c9 c10;have e7:i.op=7→Zr P D i=(gI D i.a+gI D i.b,true):=fun h=>by simp[Zr,h]
 have e8:i.op=8→Zr P D i=(gI D i.a-gI D i.b,true):=fun h=>by simp[Zr,h]
 have e9:i.op=9→Zr P D i=(gI D i.a*gI D i.b,true):=fun h=>by simp[Zr,h]
 have e10:i.op=10→Zr P D i=(gI D i.a/gI D i.b,decide (gI D i.b≠0)):=fun h=>by simp[Zr,h]
 generalize gI D i.a=A at *
 generalize gI D i.b=B at *
 generalize fz A=u at *
 generalize fz B=v at *
 generalize Zr P D i=V at *
 generalize fzs D=DD at *
 obtain⟨op,a,b,n⟩:=i;generalize P.f=Q at *
 obtain⟨⟨t0,t1,t2⟩,y,p⟩:=Q;dsimp only at *
 subst hk1 hj1;rw[zab Za2.h422 rfl,b422];rcases(show op=7∨op=8∨op=9∨op=10 by omega) with rfl | rfl | rfl | rfl
 ·rw[e7 rfl];generalize fz (A+B)=z at *
  simp -implicitDefEqProofs[hk2,hk3,hka,hkae,hj2,hj3,hjb,hjbe,hl,c7]
 ·rw[e8 rfl];generalize fz (A-B)=z at *
  simp -implicitDefEqProofs[hk2,hk3,hka,hkae,hj2,hj3,hjb,hjbe,hl,c8]
 ·rw[e9 rfl];generalize fz (A*B)=z at *
  simp -implicitDefEqProofs[hk2,hk3,hka,hkae,hj2,hj3,hjb,hjbe,hl,c9]
 ·rw[e10 rfl];generalize fz (A/B)=z at *
  generalize decide (B≠0)=ok at *
  simp -implicitDefEqProofs[hk2,hk3,hka,hkae,hj2,hj3,hjb,hjbe,hl,c10]
end
theorem zqy{n b:Nat}(h:Za6 n≤b):(ofN n).length≤b/32+1:=by
 refine zap ?_;unfold Za6 at h;split at h
 ·grind
 ·rename_i h0;have h1:n<2^(n.log2+1):=(Ydt h0).1 (Yv _);have h3:(4294967296:Nat)^(b/32+1)=2^(32*(b/32+1)):=by rw[Ycs]
  have h2:2^(n.log2+1)≤2^(32*(b/32+1)):=Y7 (by decide) (by omega);omega
theorem zo8{q:Rat}{b:Nat}(h:Zck q≤b):sz q≤b/32+1:=by
 unfold Zck Zd9 fz at h;rw[zae,zae]at h;exact Ydo.2 ⟨zqy (Yc (Nat.le_add_right _ _) h),zqy (Yc (Nat.le_add_left _ _) h)⟩
theorem z1d(q:Rat)(n:Nat):sz (q^n)≤n*sz q+1:=by
 unfold sz;rw[Rat.num_pow,Rat.den_pow,Int.natAbs_pow];exact Ydo.2 ⟨zf4 (Yeb _ _) n,zf4 (Yd0 _ _) n⟩
theorem zw2{q:Rat}{e:Int}{B:Nat}(hq:sz q≤B)(h1:-8≤e)(h2:e≤8):sz (Zh0 q e)≤8*B+1:=by
 unfold Zh0;rcases Int.le_total 0 e with h | h
 ·obtain⟨n,rfl⟩:∃n:Nat,e=n:=⟨e.toNat,by omega⟩;rw[Yc3];have:=z1d q n;have h3:n*sz q≤8*B:=Ych (by omega) hq;omega
 ·obtain⟨n,rfl⟩:∃n:Nat,e=-(n:Int):=⟨(-e).toNat,by omega⟩;rw[Rat.zpow_neg,Yc3];have:=z1d q n;have h3:n*sz q≤8*B:=Ych (by omega) hq;have:=z1q (q^n);omega
structure PvS (P:Po) (B:Nat):Prop where
 t:sz P.t≤B
 y:∀q∈P.y,sz q≤B
 p:∀q∈P.p,sz q≤B
theorem z3w{P:Po}{D:List Rat}{i:Ins}{dim par:Int}{p:Nat}(hm:Zbq dim par p i=true)(hP:PvS P 1000)(hn:fsz i.n≤1000)(hD:∀q∈D,sz q≤129):sz (Zr P D i).1≤2000:=by
 have ga:=zh7 (D:=D) (a:=i.a) (B:=129) (by decide) hD;have gb:=zh7 (D:=D) (a:=i.b) (B:=129) (by decide) hD;have gy:=zh7 (D:=P.y) (a:=i.a) (B:=1000) (by decide) hP.y;have gp:=zh7 (D:=P.p) (a:=i.a) (B:=1000) (by decide) hP.p;have gn:=zgk (x:=i.n) (L:=1000) hn (by decide);have gt:=hP.t;rcases zx4 hm with h | h | h | h | h | h | h | h | h | h
 ·simp[Zr,h];omega
 ·simp[Zr,h];omega
 ·simp[Zr,h];omega
 ·simp[Zr,h];omega
 ·simp[Zr,h,zxt];omega
 ·grind[zxr,Zr]
 ·grind[z1p,Zr]
 ·grind[zxs,Zr]
 ·grind[z1r,Zr]
 ·obtain⟨e1,e2⟩:=z96 hm h;have h1:=zw2 ga e1 e2
  grind[Zr]
def Zg4(lim:Nat)(P:Po):List Ins→List Rat→Int→Int→Int×Int
 | [],_,s,p=>(s,p)
 | i::r,D,s,p=>if (Zr P D i).2=false then (s,p) else if lim<Zck (Zr P D i).1 then (Zdv s,Zek p (fz (Zr P D i).1)) else Zg4 lim P r (D++[(Zr P D i).1]) (Zdv s) (Zek p (fz (Zr P D i).1))
theorem zh8(lim:Nat)(P:Po)(i:Ins)(r:List Ins)(D:List Rat)(s p:Int):Zg4 lim P (i::r) D s p=if (Zr P D i).2=false then (s,p) else if lim<Zck (Zr P D i).1 then (Zdv s,Zek p (fz (Zr P D i).1)) else Zg4 lim P r (D++[(Zr P D i).1]) (Zdv s) (Zek p (fz (Zr P D i).1)):=rfl
abbrev bxM:Box:=⟨3,.str,1,[[.ptr (.bor 0) 0 3 0 0]]⟩
abbrev bxP(g:Nat)(x:PoF):Box:=⟨g,.str,5,[[.b x.t.1,.sl (Zb x.t.2.1) .an,.sl (Zb x.t.2.2) .an,.sl (Zf x.y) .an,.sl (Zf x.p) .an]]⟩
abbrev bxF(g:Nat)(a b c d:Int):Box:=⟨g,.str,4,[[.i .i64 a,.i .i64 b,.i .i64 c,.i .i64 d]]⟩
def Zdn(Q:PoF)(L:Int)(code:List Ins)(i:Nat)(D:List Fz)(s p:Int)(kd:Kind):St:=
 ⟨[(3,.ptr (.loc 3) 3 1 0 0),(5,.ptr (.loc 5) 4 5 0 0),(7,.ptr (.loc 7) 5 4 0 0),(8,.bs (.loc 8) 6 3 0 i),(34,.sl (Zcz code) .an),(35,.i .i64 code.length),(36,.i .i64 i)],
  [(.bor 0,bxG 0 s p L),(.loc 3,bxM),(.loc 5,bxP 4 Q),(.loc 7,bxF 5 0 0 0 0),(.loc 8,⟨6,kd,3,Zf D⟩)],8⟩
def Zlf(n:Nat)(D:List Fz)(s p L:Int)(kd:Kind):Ex×St:=(.n,⟨[(7,.ptr (.loc 7) 3 4 0 0),(8,.bs (.loc 8) 4 3 0 n)],[(.bor 0,bxG 0 s p L),(.loc 7,bxF 3 0 0 0 0),(.loc 8,⟨4,kd,3,Zf D⟩)],6⟩)
def Zin(kind at_ s p L:Int):Ex×St:=(.r,⟨[(6,.sl [] .an),(7,.ptr (.loc 7) 3 4 0 0)],[(.bor 0,bxG 0 s p L),(.loc 7,bxF 3 kind 0 0 at_)],5⟩)
section
variable{T:Tbl}[Z5 T][Zo T][Zy T][Zz T][Zq T][Zu T][Zj T][Zn T][Zs T][Z6 T][Zan T][Zcl T][Zaa T][Zaf T][Zbc T][Za2 T][Zix T]
theorem zz1{kd:Kind}(hk:kd=.own∨kd=.sh)(x:Ins)(Q:PoF)(L:Int)(code:List Ins)(i:Nat)(D:List Fz)(s p:Int)(v:Fz)(hi:i<code.length)(hc:code.length≤1000)(hg:code[i]? = some x)(hdl:D.length=i)(hv:fsz v≤10000)
  (c:Za T 422 [mD,.agg (Zeb x),ept Q,.sl (Zf D) .an]=some (.tup [efz v,.b true])) (hf:(Zd9 v:Int)≤L) :
  evX (orc T) T 1 l407_0 (Zdn Q L code i D s p kd)=some (.n,Zdn Q L code (i+1) (D++[v]) (Zdv s) (Zek p v) .sh):=by
 have hf2:=zw1 (T:=T) s p L v hv;rw[decide_eq_true hf]at hf2;have hws:=zbj hi (by omega);have hge:=(Ye.1 hg).2;have ht:List.take i D=D:=Yb (by omega);have hp:wkL (Zf D++[Zem v])=Zf (D++[v]):=by rw[zik,zph]
 have hi':(i:Int)<code.length:=by omega
 have hb:i≤4294967295:=by omega
 unfold Zdn;rcases hk with rfl | rfl<;>simp -implicitDefEqProofs[l407_0,hi,hi',hge,hws,c,hf2,hp,hdl,hb,ht]
theorem z3x{kd:Kind}(hk:kd=.own∨kd=.sh)(x:Ins)(Q:PoF)(L:Int)(code:List Ins)(i:Nat)(D:List Fz)(s p:Int)(v:Fz)(hi:i<code.length)(hc:code.length≤1000)(hg:code[i]? = some x)(hdl:D.length=i)
  (c:Za T 422 [mD,.agg (Zeb x),ept Q,.sl (Zf D) .an]=some (.tup [efz v,.b false])) :
  evX (orc T) T 1 l407_0 (Zdn Q L code i D s p kd)=some (Zin 3 i s p L):=by
 have hge:=(Ye.1 hg).2;have ht:List.take i D=D:=Yb (by omega);have hi':(i:Int)<code.length:=by omega
 unfold Zdn Zin;rcases hk with rfl | rfl<;>simp -implicitDefEqProofs[l407_0,hi,hi',hge,c,hdl,ht]
theorem z3y{kd:Kind}(hk:kd=.own∨kd=.sh)(x:Ins)(Q:PoF)(L:Int)(code:List Ins)(i:Nat)(D:List Fz)(s p:Int)(v:Fz)(hi:i<code.length)(hc:code.length≤1000)(hg:code[i]? = some x)(hdl:D.length=i)(hv:fsz v≤10000)
  (c:Za T 422 [mD,.agg (Zeb x),ept Q,.sl (Zf D) .an]=some (.tup [efz v,.b true])) (hf:¬ (Zd9 v:Int)≤L) :
  evX (orc T) T 1 l407_0 (Zdn Q L code i D s p kd)=some (Zin 6 i (Zdv s) (Zek p v) L):=by
 have hf2:=zw1 (T:=T) s p L v hv;rw[decide_eq_false hf]at hf2;have hge:=(Ye.1 hg).2;have ht:List.take i D=D:=Yb (by omega);have hi':(i:Int)<code.length:=by omega
 unfold Zdn Zin;rcases hk with rfl | rfl<;>simp -implicitDefEqProofs[l407_0,hi,hi',hge,c,hf2,hdl,ht]
theorem z9o{kd:Kind}(hk:kd=.own∨kd=.sh)(Q:PoF)(L:Int)(code:List Ins)(D:List Fz)(s p:Int):Zei (evX (orc T) T 1 l407_0 (Zdn Q L code code.length D s p kd))=true ∧
  Zdr 1 0 (.norm false [7,8]) (evX (orc T) T 1 l407_0 (Zdn Q L code code.length D s p kd))=some (Zlf code.length D s p L kd):=by
 unfold Zdn Zlf;obtain⟨⟨q0,q1,q2⟩,qy,qp⟩:=Q;rcases hk with rfl | rfl<;>constructor<;>simp -implicitDefEqProofs[l407_0]
theorem zw3(kind at_ s p L:Int):Zdr 1 0 (.norm false [7,8]) (some (Zin kind at_ s p L))=some (Zin kind at_ s p L):=by
 unfold Zin
 simp_all
def kdE(kd:Kind)(l:List Ins):Kind:=if l=[] then kd else .sh
def Zdw(lim:Nat)(P:Po)(code l:List Ins)(D:List Rat)(s p:Int)(kd:Kind):Ex×St:=
 if (Zd lim P l D).2.1=0 then Zlf code.length (fzs (Zd lim P l D).1) (Zg4 lim P l D s p).1 (Zg4 lim P l D s p).2 lim (kdE kd l)
 else Zin (Zd lim P l D).2.1 (Zd lim P l D).2.2 (Zg4 lim P l D s p).1 (Zg4 lim P l D s p).2 lim
theorem zqz(P:Po)(lim:Nat)(hlim:lim≤4096)(t:Tp)(ht:OkTp t)(hn:∀i∈t.code,fsz i.n≤1000)(hd:(P.y.length:Int)=t.dim)(hp:(P.p.length:Int)=t.par)(hP:PvS P 1000)(s p:Int) :
  Zp T 1 0 (.norm false [7,8]) l407_0 (Zdn P.f lim t.code 0 [] s p .own)=some (Zdw lim P t.code t.code [] s p .own):=by
 have hc:=ht.cl;have key:=zbm (T:=T) (k:=1) (id:=0) (g2:=.norm false [7,8]) (c:=l407_0) (fun x:Nat×List Rat×(Int×Int)×Kind=>Zdn P.f lim t.code x.1 (fzs x.2.1) x.2.2.1.1 x.2.2.1.2 x.2.2.2)
  (fun x=>x.1≤t.code.length∧x.2.1.length=x.1∧(∀q∈x.2.1,sz q≤129)∧(x.2.2.2=.own∨x.2.2.2=.sh)) (fun x=>t.code.length-x.1)
  (fun x=>some (Zdw lim P t.code (t.code.drop x.1) x.2.1 x.2.2.1.1 x.2.2.1.2 x.2.2.2)) ?_ (0,[],(s,p),.own) ⟨Y1 _,rfl,by simp,.inl rfl⟩
 ·exact key
 rintro⟨i,D,⟨s,p⟩,kd⟩ ⟨hi,hdl,hD,hk⟩
 by_cases hlt:i<t.code.length
 ·have hg:t.code[i]? = some (t.code[i]'hlt):=Ya hlt;have hmem:=Ys hlt;have hm:=ht.may i _ hg;have hdr:t.code.drop i=t.code[i]'hlt::t.code.drop (i+1):=Ym hlt;generalize hx:t.code[i]'hlt=x at *
  have hm':Zbq t.dim t.par D.length x=true:=by grind
  have c:=zz0 (T:=T) x P D t.dim t.par hm' hd hp (hn x hmem) (fun q hq=>Yc (hD q hq) (by decide));have hvs:fsz (fz (Zr P D x).1)≤10000:=Yc (z3w hm' hP (hn x hmem) hD) (by decide);have hfl:(fzs D).length=i:=by simp_all
  have hout:Zdw lim P t.code (t.code.drop i) D s p kd=Zdw lim P t.code (x::t.code.drop (i+1)) D s p kd:=by grind
  cases hok:(Zr P D x).2 with
  | false=>
   right;rw[hok]at c;have e:=z3x (T:=T) hk x P.f lim t.code i (fzs D) s p _ hlt (by omega) hg hfl c;rw[e,zw3];refine⟨rfl,?_⟩
   grind[zbs,zh8,Zdw]
  | true=>
   rw[hok]at c;by_cases hfit:Zck (Zr P D x).1≤lim
   ·left;have e:=zz1 (T:=T) hk x P.f lim t.code i (fzs D) s p _ hlt (by omega) hg hfl hvs c (by unfold Zck at hfit;omega);refine⟨(i+1,D++[(Zr P D x).1],(Zdv s,Zek p (fz (Zr P D x).1)),.sh),⟨by omega,by grind,fun q hq=>?_,.inr rfl⟩,by omega,?_,?_⟩
    ·rcases Yr.1 hq with h | h
     ·grind
     ·rw[Yad.1 h];have:=zo8 hfit;omega
    ·rw[e];simp[fzs]
    ·congr 1;have hR:Zd lim P (x::t.code.drop (i+1)) D=Zd lim P (t.code.drop (i+1)) (D++[(Zr P D x).1]):=by grind[zbs]
     grind[zh8,Zdw,kdE]
   ·right;have e:=z3y (T:=T) hk x P.f lim t.code i (fzs D) s p _ hlt (by omega) hg hfl hvs c (by unfold Zck at hfit;omega);rw[e,zw3];refine⟨rfl,?_⟩
    grind[zbs,zh8,Zdw]
 grind[z9o,Zdw,Zd,Zg4,kdE]
end
def Zcj(P:Po)(ls:List Rat)(x:Nd):Rat:=if x.op=1 then ((val x.n:Nat):Rat) else if x.op=3 then gI P.y x.i else if x.op=4 then gI P.p x.i else if x.op=5 then gI ls x.i else P.t
def unV(x:Nd)(a:Rat):Rat×Bool:=if x.op=6 then (-a,true) else Zfa a x.i
def biV(op:Int)(a b:Rat):Rat×Bool:=if op=7 then (a+b,true) else if op=8 then (a-b,true) else if op=9 then (a*b,true) else (a/b,decide (b≠0))
def Zbd(lim:Nat)(v:Rat×Bool)(i:Nat):Rat×Nat×Nat:=if v.2=false then (0,3,i) else if lim<Zck v.1 then (0,6,i) else (v.1,0,0)
def Zam(P:Po)(ls:List Rat)(s:List Rat)(x:Nd):(Rat×Bool)×List Rat:=
 if arN x.op=0 then ((Zcj P ls x,true),s) else if arN x.op=1 then (unV x (s.headD 0),s.tail) else (biV x.op (s.tail.headD 0) (s.headD 0),s.tail.tail)
def Zv(lim:Nat)(P:Po)(ls:List Rat):Nat→List Rat→List Nd→Rat×Nat×Nat
 | _,s,[]=>(s.headD 0,0,0)
 | i,s,x::r=>if (Zbd lim (Zam P ls s x).1 i).2.1≠0 then Zbd lim (Zam P ls s x).1 i else Zv lim P ls (i+1) ((Zam P ls s x).1.1::(Zam P ls s x).2) r
def evT(lim:Nat)(P:Po)(ls:List Rat):Tre→Nat→Rat×Nat×Nat
 | .leaf x,i=>Zbd lim (Zcj P ls x,true) i
 | .un x a,i=>if (evT lim P ls a i).2.1≠0 then evT lim P ls a i else Zbd lim (unV x (evT lim P ls a i).1) (i+a.flat.length)
 | .bin x a b,i=>if (evT lim P ls a i).2.1≠0 then evT lim P ls a i else if (evT lim P ls b (i+a.flat.length)).2.1≠0 then evT lim P ls b (i+a.flat.length)
   else Zbd lim (biV x.op (evT lim P ls a i).1 (evT lim P ls b (i+a.flat.length)).1) (i+a.flat.length+b.flat.length)
theorem zgc{lim:Nat}{v:Rat×Bool}{i:Nat}(h:(Zbd lim v i).2.1=0):v.2=true∧Zck v.1≤lim∧Zbd lim v i=(v.1,0,0):=by
 unfold Zbd at h ⊢;by_cases h1:v.2=false
 ·rw[if_pos h1]at h;exact absurd h (by simp)
 ·rw[if_neg h1]at h ⊢;by_cases h2:lim<Zck v.1
  ·rw[if_pos h2]at h;exact absurd h (by simp)
  ·rw[if_neg h2];exact⟨by simpa using h1,by omega,rfl⟩
theorem znm{lim:Nat}{v:Rat×Bool}{i:Nat}(h:(Zbd lim v i).2.1≠0):(Zbd lim v i).1=0∧(Zbd lim v i).2.2=i:=by
 unfold Zbd at h ⊢;split
 ·exact⟨rfl,rfl⟩
 ·next h1=>
  rw[if_neg h1]at h;split
  ·exact⟨rfl,rfl⟩
  ·next h2=>
   rw[if_neg h2]at h;exact absurd rfl h
theorem zfq(lim:Nat)(P:Po)(ls:List Rat):∀(t:Tre),t.ok→∀(i:Nat) (s:List Rat) (r:List Nd),Zv lim P ls i s (t.flat++r)=if (evT lim P ls t i).2.1≠0 then evT lim P ls t i else Zv lim P ls (i+t.flat.length) ((evT lim P ls t i).1::s) r
 | .leaf x,h,i,s,r=>by
  have e:arN x.op=0:=h;show Zv lim P ls i s (x::r)=_;have es:Zam P ls s x=((Zcj P ls x,true),s):=by unfold Zam;rw[if_pos e]
  rw[Zv,es];show (if (Zbd lim (Zcj P ls x,true) i).2.1≠0 then _ else _)=if (Zbd lim (Zcj P ls x,true) i).2.1≠0 then Zbd lim (Zcj P ls x,true) i else _
  by_cases hk:(Zbd lim (Zcj P ls x,true) i).2.1=0
  ·rw[if_neg (by simpa using hk),if_neg (by simpa using hk)];have:=(zgc hk).2.2;show Zv lim P ls (i+1) (Zcj P ls x::s) r=Zv lim P ls (i+1) ((Zbd lim (Zcj P ls x,true) i).1::s) r;rw[this]
  ·rw[if_pos hk,if_pos hk]
 | .un x a,h,i,s,r=>by
  have e:arN x.op=1:=h.1;rw[Tre.flat,Y5,zfq lim P ls a h.2];by_cases ha:(evT lim P ls a i).2.1=0
  ·rw[if_neg (by simpa using ha)];have ee:evT lim P ls (.un x a) i=Zbd lim (unV x (evT lim P ls a i).1) (i+a.flat.length):=by show (if _ then _ else _)=_;rw[if_neg (by simpa using ha)]
   rw[ee];show Zv lim P ls (i+a.flat.length) ((evT lim P ls a i).1::s) (x::r)=_;have es:Zam P ls ((evT lim P ls a i).1::s) x=(unV x (evT lim P ls a i).1,s):=by unfold Zam;rw[if_neg (by omega),if_pos e];rfl
   rw[Zv,es];by_cases hk:(Zbd lim (unV x (evT lim P ls a i).1) (i+a.flat.length)).2.1=0
   ·rw[if_neg (by simpa using hk),if_neg (by simpa using hk),(zgc hk).2.2,Yq]
    rfl
   ·rw[if_pos hk,if_pos hk]
  ·rw[if_pos ha];have ee:evT lim P ls (.un x a) i=evT lim P ls a i:=by show (if _ then _ else _)=_;rw[if_pos ha]
   rw[ee,if_pos ha]
 | .bin x a b,h,i,s,r=>by
  have e:arN x.op=2:=h.1;rw[Tre.flat,Y5,zfq lim P ls a h.2.1];by_cases ha:(evT lim P ls a i).2.1=0
  ·rw[if_neg (by simpa using ha),Y5,zfq lim P ls b h.2.2];by_cases hb:(evT lim P ls b (i+a.flat.length)).2.1=0
   ·rw[if_neg (by simpa using hb)];have ee:evT lim P ls (.bin x a b) i=Zbd lim (biV x.op (evT lim P ls a i).1 (evT lim P ls b (i+a.flat.length)).1) (i+a.flat.length+b.flat.length):=by
     show (if _ then _ else _)=_;rw[if_neg (by simpa using ha),if_neg (by simpa using hb)]
    rw[ee];show Zv lim P ls (i+a.flat.length+b.flat.length) ((evT lim P ls b (i+a.flat.length)).1::(evT lim P ls a i).1::s) (x::r)=_;have es:Zam P ls ((evT lim P ls b (i+a.flat.length)).1::(evT lim P ls a i).1::s) x=(biV x.op (evT lim P ls a i).1 (evT lim P ls b (i+a.flat.length)).1,s):=by
     unfold Zam;rw[if_neg (by omega),if_neg (by omega)];rfl
    rw[Zv,es];by_cases hk:(Zbd lim (biV x.op (evT lim P ls a i).1 (evT lim P ls b (i+a.flat.length)).1) (i+a.flat.length+b.flat.length)).2.1=0
    ·rw[if_neg (by simpa using hk),if_neg (by simpa using hk),(zgc hk).2.2,Yq,Yq];simp only[Yaq]
     rfl
    ·rw[if_pos hk,if_pos hk]
   ·rw[if_pos hb];have ee:evT lim P ls (.bin x a b) i=evT lim P ls b (i+a.flat.length):=by show (if _ then _ else _)=_;rw[if_neg (by simpa using ha),if_pos hb]
    rw[ee,if_pos hb]
  ·rw[if_pos ha];have ee:evT lim P ls (.bin x a b) i=evT lim P ls a i:=by show (if _ then _ else _)=_;rw[if_pos ha]
   rw[ee,if_pos ha]
theorem z1j{lim:Nat}{P:Po}{ls:List Rat}:∀{t:Tre} {i:Nat},(evT lim P ls t i).2.1=0→(evT lim P ls t i).2.2=0∧Zck (evT lim P ls t i).1≤lim
 | .leaf x,i,h=>by
  have:=zgc (show (Zbd lim (Zcj P ls x,true) i).2.1=0 from h);show (Zbd lim (Zcj P ls x,true) i).2.2=0∧Zck (Zbd lim (Zcj P ls x,true) i).1≤lim;rw[this.2.2];exact⟨rfl,this.2.1⟩
 | .un x a,i,h=>by
  unfold evT at h ⊢;split
  ·next ha=>rw[if_pos ha]at h;exact absurd h ha
  ·next ha=>
   rw[if_neg ha]at h;have:=zgc h;rw[this.2.2];exact⟨rfl,this.2.1⟩
 | .bin x a b,i,h=>by
  unfold evT at h ⊢;split
  ·next ha=>rw[if_pos ha]at h;exact absurd h ha
  ·next ha=>
   rw[if_neg ha]at h;split
   ·next hb=>rw[if_pos hb]at h;exact absurd h hb
   ·next hb=>
    rw[if_neg hb]at h;have:=zgc h;rw[this.2.2];exact⟨rfl,this.2.1⟩
theorem zxm(lim:Nat)(P:Po)(ls:List Rat)(t:Tre)(h:t.ok)(i:Nat):Zv lim P ls i [] t.flat=evT lim P ls t i:=by
 have:=zfq lim P ls t h i [] [];rw[Ya5]at this;rw[this];by_cases hk:(evT lim P ls t i).2.1=0
 ·rw[if_neg (by simpa using hk)];show ((evT lim P ls t i).1,0,0)=_;have:=(z1j hk).1;exact Prod.ext rfl (Prod.ext hk.symm this.symm)
 ·rw[if_pos hk]
theorem z0j{P:Po}{ls:List Rat}{x:Nd}(hP:PvS P 1000)(hls:∀q∈ls,sz q≤1000)(hx:x.n.length≤1000):sz (Zcj P ls x)≤1000:=by
 unfold Zcj;split
 ·unfold sz;have h1:=zad x.n;have e1:((val x.n:Nat):Rat).num.natAbs=val x.n:=by simp
  have e2:((val x.n:Nat):Rat).den=1:=by simp
  rw[e1,e2,zex];exact Ydo.2 ⟨by omega,by decide⟩
 ·split
  ·exact zh7 (by decide) hP.y
  ·split
   ·exact zh7 (by decide) hP.p
   ·split
    ·exact zh7 (by decide) hls
    ·exact hP.t
theorem z9w{x:Nd}{a:Rat}(ha:sz a≤129):sz (unV x a).1≤2000:=by
 unfold unV;split
 ·simp only[zxt];omega
 ·unfold Zfa;split
  ·next h=>
   have:=zw2 ha h.1 h.2.1;show sz (Zh0 a x.i)≤2000;omega
  ·simp[zxq]
theorem z9x{op:Int}{a b:Rat}(ha:sz a≤129)(hb:sz b≤129):sz (biV op a b).1≤2000:=by
 unfold biV;split
 ·have:=zxr a b;simp only;omega
 ·split
  ·have:=z1p a b;simp only;omega
  ·split
   ·have:=zxs a b;simp only;omega
   ·have:=z1r a b;simp only;omega
theorem z1k{lim:Nat}{q:Rat}(hl:lim≤4096)(h:Zck q≤lim):sz q≤129:=by
 have:=zo8 h;have:lim/32≤128:=by omega
 omega
def Zmv(lim:Nat)(P:Po)(ls:List Rat):List Rat→List Nd→Int→Int→Int×Int
 | _,[],c,p=>(c,p)
 | s,x::r,c,p=>if (Zam P ls s x).1.2=false then (c,p) else if lim<Zck (Zam P ls s x).1.1 then (Zdv c,Zek p (fz (Zam P ls s x).1.1))
   else Zmv lim P ls ((Zam P ls s x).1.1::(Zam P ls s x).2) r (Zdv c) (Zek p (fz (Zam P ls s x).1.1))
abbrev hpA(gk:Nat)(Q:PoF)(LS:List Fz)(s p L seen:Int)(F:List Fz)(m:Nat):Heap:=
 [(.bor 0,⟨0,.str,9,[[.b Q.t.1,.sl (Zb Q.t.2.1) .an,.sl (Zb Q.t.2.2) .an,.sl (Zf Q.y) .an,.sl (Zf Q.p) .an,.sl (Zf LS) .an,.ptr (.bor 1) 1 3 0 0,.i .i64 seen,.bs (.bor 2) gk 3 0 m]]⟩),(.bor 1,bxG 1 s p L),(.bor 2,⟨gk,.own,3,Zf F⟩)]
abbrev wP:AV:=.ptr (.bor 0) 0 9 0 0
section
variable{T:Tbl}[Z5 T][Zo T][Zy T][Zz T][Zq T][Zu T][Zj T][Zn T][Zs T][Za5 T][Z6 T][Zan T][Zcl T][Zaa T][Zaf T][Zbc T][Z4 T][Zaj T][Zai T][Zb5 T]
theorem zjv(a:List UInt32)(ha:a.length≤10000):Za T 204 [.agg [.b false,.sl (Zb a) .an],.sl [[u32 1]] .an]=some (.tup [efz (fz ((val a:Nat):Rat)),.b true]):=by
 have c1:Za T 70 [.sl [[u32 1]] .an]=some (.b false):=zee (T:=T) [1] (by decide);have c2:Za T 202 [.agg [.b false,.sl (Zb a) .an],.sl [[u32 1]] .an]=some (efz (fz (mkRat (wv false a) 1))):=zoy (T:=T) false a [1] ha (by decide) (by decide);have e:mkRat (wv false a) 1=((val a:Nat):Rat):=by
  rw[Rat.mkRat_one]
  rfl
 rw[e]at c2;rw[zab Za5.h204 rfl,b204];generalize fz ((val a:Nat):Rat)=R at *
 simp -implicitDefEqProofs[c1,c2]
end
section
variable{T:Tbl}[Zai T][Zav T]
theorem zkm(C:List Ins)(L W:List Nat)(x:Ins)(hC:∀y∈C,MkI y)(hx:MkI x)(hn:x.n.2.1.length≤1000)(hl:C.length≤100000) :
  ∃gc,(gc=1∨gc=7)∧Z0 T 650 [cmP,.agg (Zeb x)] (cmH 1 4 C L W)=some (.i .i64 ((Zb9 C x).2:Int),cmH gc 4 (Zb9 C x).1 L W):=by
 unfold Zb9;cases h:Zgd x 0 C with
 | some i=>exact⟨1,.inl rfl,zmt C L W x hC hx hn i h⟩
 | none=>exact⟨7,.inr rfl,zmu C L W x hC hx hn h hl⟩
theorem z09(a:List UInt32):(fz ((val a:Nat):Rat)).2.1.length≤a.length:=by
 have:(fz ((val a:Nat):Rat)).2.1=ofN (val a):=by
  unfold fz;simp
 rw[this];exact zad a
theorem zvt(x:Nd)(hn:x.n.length≤1000):(Zdo x).n.2.1.length≤1000:=by
 unfold Zdo;split
 ·exact Yc (z09 x.n) hn
 ·split
  all_goals exact Y1 _
variable[Z5 T][Zo T][Zy T][Zz T][Zq T][Zu T][Zj T][Zn T][Zs T][Za5 T][Z6 T][Zan T][Zcl T][Zaa T][Zaf T][Zbc T][Z4 T][Zaj T][Zb5 T]
theorem zvu(x:Nd)(hn:x.n.length≤1000):Za T 651 [.agg (Zdl x)]=some (.agg (Zeb (Zdo x))):=by
 have c:=zjv (T:=T) x.n (by omega);obtain⟨op,i,n⟩:=x;dsimp only at *
 unfold Zdo;rw[zab Zav.h651 rfl,b651];by_cases h1:op=1
 ·subst h1;rw[if_pos rfl];generalize fz ((val n:Nat):Rat)=q at *
  obtain⟨q0,q1,q2⟩:=q;simp -implicitDefEqProofs[c]
 ·rw[if_neg h1];by_cases h2:op=2
  ·subst h2;rw[if_pos rfl];simp -implicitDefEqProofs[blk]
  ·rw[if_neg h2];simp -implicitDefEqProofs[h1,h2,blk]
abbrev bxS(g:Nat)(S:List Nat):BId×Box:=(.bor 5,⟨g,.own,1,Zbj S⟩)
theorem zkn(C:List Ins)(L W S:List Nat)(x:Nd)(ho:x.op=5)(h0:0≤x.i)(h1:x.i<L.length)(hn:x.n.length≤1000) :
  Z0 T 649 [cmP,.agg (Zdl x),.bs (.bor 5) 5 1 0 S.length] (cmH 1 4 C L W++[bxS 5 S])=some (.i .i64 (((L[x.i.toNat]?).getD 0:Nat):Int),cmH 1 4 C L W++[bxS 5 S]):=by
 obtain⟨op,i,n⟩:=x;dsimp only at *
 subst ho;obtain⟨j,rfl⟩:∃j:Nat,i=(j:Int):=⟨i.toNat,by omega⟩;have hj:j<L.length:=by omega
 obtain⟨v,hv⟩:∃v,L[j]? = some v:=⟨_,Ya hj⟩;obtain⟨_,hg⟩:=Ye.1 hv;unfold cmH;rw[zal Zav.h649 rfl,b649];simp -implicitDefEqProofs[hj,hv,hg,h1,Zba]
end
section
variable{T:Tbl}[Zai T][Zav T][Z5 T][Zo T][Zy T][Zz T][Zq T][Zu T][Zj T][Zn T][Zs T][Za5 T][Z6 T][Zan T][Zcl T][Zaa T][Zaf T][Zbc T][Z4 T][Zaj T][Zb5 T]
theorem zqj(op a b:Int):Zeb ⟨op,a,b,blk⟩=[.i .i64 op,.i .i64 a,.i .i64 b,.b false,.sl [] .an,.sl [] .an]:=rfl
theorem ziv(C C1:List Ins)(L W S:List Nat)(x:Nd)(gc:Nat)(p:Nat)(hg:gc=1∨gc=7)(ho:x.op≠5)(ha:arN x.op=0)(hn:x.n.length≤1000)
  (c:Z0 T 650 [cmP,.agg (Zeb (Zdo x))] (cmH 1 4 C L W)=some (.i .i64 (p:Int),cmH gc 4 C1 L W)) :
  Z0 T 649 [cmP,.agg (Zdl x),.bs (.bor 5) 5 1 0 S.length] (cmH 1 4 C L W++[bxS 5 S])=some (.i .i64 (p:Int),cmH (if gc=1 then 1 else 8) 4 C1 L W++[bxS 5 S]):=by
 have cl:=zvu (T:=T) x hn;have car:=za9 (T:=T) x.op;rw[ha]at car;generalize Zdo x=y at *
 obtain⟨op,i,n⟩:=x;obtain⟨yo,ya,yb,⟨y0,y1,y2⟩⟩:=y;dsimp only at *
 unfold cmH at *
 rw[zal Zav.h649 rfl,b649];rcases hg with rfl | rfl
 ·simp -implicitDefEqProofs[ho,car,cl,c,Zba]
 ·simp -implicitDefEqProofs[ho,car,cl,c,Zba]
theorem zmv(C C1:List Ins)(L W S:List Nat)(x:Nd)(gc:Nat)(p a:Nat)(hg:gc=1∨gc=7)(ho:x.op≠5)(ha:arN x.op=1)(hS:S[S.length-1]? = some a)(hl:S.length≤100000)(hn:x.n.length≤1000)
  (c:Z0 T 650 [cmP,.agg (Zeb ⟨x.op,(a:Int),x.i,blk⟩)] (cmH 1 4 C L W)=some (.i .i64 (p:Int),cmH gc 4 C1 L W)) :
  Z0 T 649 [cmP,.agg (Zdl x),.bs (.bor 5) 5 1 0 S.length] (cmH 1 4 C L W++[bxS 5 S])=some (.i .i64 (p:Int),cmH (if gc=1 then 1 else 8) 4 C1 L W++[bxS 5 S]):=by
 have car:=za9 (T:=T) x.op;rw[ha]at car;obtain⟨h1,h2⟩:=Ye.1 hS;have hw1:IntKind.wrap .i64 ((S.length:Int)-1)=((S.length-1:Nat):Int):=by rw[zac _ (by omega)];omega
 have hlt:((S.length-1:Nat):Int)<S.length:=by omega
 obtain⟨op,i,n⟩:=x;dsimp only at *
 rw[zqj]at c;unfold cmH at *
 rw[zal Zav.h649 rfl,b649];rcases hg with rfl | rfl
 ·simp -implicitDefEqProofs[ho,car,hw1,hlt,h1,h2,hS,c,Zba]
 ·simp -implicitDefEqProofs[ho,car,hw1,hlt,h1,h2,hS,c,Zba]
theorem zko(C C1:List Ins)(L W S:List Nat)(x:Nd)(gc:Nat)(p a b:Nat)(hg:gc=1∨gc=7)(ho:x.op≠5)(ha:arN x.op=2)(h2S:2≤S.length)(hS:S[S.length-1]? = some b)(hS2:S[S.length-2]? = some a)(hl:S.length≤100000)(hn:x.n.length≤1000)
  (c:Z0 T 650 [cmP,.agg (Zeb ⟨x.op,(a:Int),(b:Int),blk⟩)] (cmH 1 4 C L W)=some (.i .i64 (p:Int),cmH gc 4 C1 L W)) :
  Z0 T 649 [cmP,.agg (Zdl x),.bs (.bor 5) 5 1 0 S.length] (cmH 1 4 C L W++[bxS 5 S])=some (.i .i64 (p:Int),cmH (if gc=1 then 1 else 8) 4 C1 L W++[bxS 5 S]):=by
 have car:=za9 (T:=T) x.op;rw[ha]at car;obtain⟨h1,h2⟩:=Ye.1 hS;obtain⟨h3,h4⟩:=Ye.1 hS2;have hw1:IntKind.wrap .i64 ((S.length:Int)-1)=((S.length-1:Nat):Int):=by rw[zac _ (by omega)];omega
 have hw2:IntKind.wrap .i64 ((S.length:Int)-2)=((S.length-2:Nat):Int):=by rw[zac _ (by omega)];omega
 have hlt:((S.length-1:Nat):Int)<S.length:=by omega
 have hlt2:((S.length-2:Nat):Int)<S.length:=by omega
 obtain⟨op,i,n⟩:=x;dsimp only at *
 rw[zqj]at c;unfold cmH at *
 rw[zal Zav.h649 rfl,b649];rcases hg with rfl | rfl
 ·simp -implicitDefEqProofs[ho,car,hw1,hw2,hlt,hlt2,h1,h2,h3,h4,hS,hS2,c,Zba]
 ·simp -implicitDefEqProofs[ho,car,hw1,hw2,hlt,hlt2,h1,h2,h3,h4,hS,hS2,c,Zba]
end
structure NdB (nl:Nat) (n:Nat) (x:Nd):Prop where
 len:x.n.length≤1000
 lt:x.op=5→0≤x.i∧x.i<nl
 ar:0≤arN x.op∧arN x.op≤n
def Zjd(gc gw:Nat)(C:List Ins)(L W S:List Nat)(c:List Nd)(i:Nat):St:=
 ⟨[(0,cmP),(5,.bs (.loc 5) 11 1 0 S.length),(9,.sl (Z1 c) .an),(10,.i .i64 c.length),(11,.i .i64 (i:Int))],cmH gc gw C L W++[(.loc 5,⟨11,.own,1,Zbj S⟩)],13⟩
section
variable{T:Tbl}[Zai T][Zav T][Z5 T][Zo T][Zy T][Zz T][Zq T][Zu T][Zj T][Zn T][Zs T][Za5 T][Z6 T][Zan T][Zcl T][Zaa T][Zaf T][Zbc T][Z4 T][Zaj T][Zb5 T]
theorem zvv(C:List Ins)(L W S:List Nat)(x:Nd)(hC:∀y∈C,MkI y)(hx:NdB L.length S.length x)(hl:C.length≤100000)(hs:S.length≤100000) :
  ∃gc,(gc=1∨gc=8)∧Z0 T 649 [cmP,.agg (Zdl x),.bs (.bor 5) 5 1 0 S.length] (cmH 1 4 C L W++[bxS 5 S])=some (.i .i64 ((ndI L C S x).2:Int),cmH gc 4 (ndI L C S x).1 L W++[bxS 5 S]):=by
 obtain⟨h1,h2,h3,h4⟩:=hx;unfold ndI;by_cases ho:x.op=5
 ·obtain⟨a,b⟩:=h2 ho;rw[if_pos ho];exact⟨1,.inl rfl,zkn C L W S x ho a b h1⟩
 rw[if_neg ho];have g8:∀gc,(gc=1∨gc=7)→((if gc=1 then 1 else 8)=1∨(if gc=1 then 1 else 8)=8):=by
  rintro gc (rfl | rfl)
  ·exact .inl rfl
  ·exact .inr rfl
 rcases zay x.op with ⟨e,_⟩ | ⟨e,_⟩ | ⟨e,_⟩ | ⟨e,_⟩
 ·rw[if_pos e];obtain⟨gc,hg,hc⟩:=zkm (T:=T) C L W (Zdo x) hC (zq6 x) (zvt x h1) hl;exact⟨_,g8 gc hg,ziv C _ L W S x gc _ hg ho e h1 hc⟩
 ·have ho1:x.op≠1:=fun h=>by rw[h]at e;revert e;decide
  rw[if_neg (by omega),if_pos e];obtain⟨a,ha⟩:∃a,S[S.length-1]? = some a:=⟨_,Ya (by omega)⟩;rw[ha,Ybl];obtain⟨gc,hg,hc⟩:=zkm (T:=T) C L W ⟨x.op,(a:Int),x.i,blk⟩ hC ⟨fun h=>absurd h ho1,fun _=>rfl⟩ (Y1 _) hl;exact⟨_,g8 gc hg,zmv C _ L W S x gc _ a hg ho e ha hs h1 hc⟩
 ·have ho1:x.op≠1:=fun h=>by rw[h]at e;revert e;decide
  rw[if_neg (by omega),if_neg (by omega)];obtain⟨b,hb⟩:∃b,S[S.length-1]? = some b:=⟨_,Ya (by omega)⟩;obtain⟨a,ha⟩:∃a,S[S.length-2]? = some a:=⟨_,Ya (by omega)⟩;rw[ha,hb,Ybl,Ybl];obtain⟨gc,hg,hc⟩:=zkm (T:=T) C L W ⟨x.op,(a:Int),(b:Int),blk⟩ hC ⟨fun h=>absurd h ho1,fun _=>rfl⟩ (Y1 _) hl;exact⟨_,g8 gc hg,zko C _ L W S x gc _ a b hg ho e (by omega) hb ha hs h1 hc⟩
 ·omega
theorem zsd(gc gw g1:Nat)(C C1:List Ins)(L W S:List Nat)(c:List Nd)(i p ar:Nat)(x:Nd)(hgc:gc=1∨gc=7)(hgw:gw=4∨gw=10)(hg1:g1=1∨g1=8)(hx:c[i]? = some x)(har:arN x.op=(ar:Int))(harS:ar≤S.length)
  (hcl:c.length≤100000) (hWl:W.length≤100000) (hSl:S.length≤100000) (hn:x.n.length≤1000)
  (hc:Z0 T 649 [cmP,.agg (Zdl x),.bs (.bor 5) 5 1 0 S.length] (cmH 1 4 C L W++[bxS 5 S])=some (.i .i64 (p:Int),cmH g1 4 C1 L W++[bxS 5 S])) :
  evX (orc T) T 5 l648_0 (Zjd gc gw C L W S c i)=some (.n,Zjd (if g1=1 then gc else 7) 10 C1 L (W++[p]) (S.take (S.length-ar)++[p]) c (i+1)):=by
 have car:=za9 (T:=T) x.op;rw[har]at car;obtain⟨hlt,hge⟩:=Ye.1 hx;have hlt':(i:Int)<c.length:=by omega
 have hws:=zbj hlt (by omega);have hsW:=zfm W p;have hsS:=zfm (S.take (S.length-ar)) p;have hsl:(S.take (S.length-ar)).length=S.length-ar:=by rw[Y0];omega
 have htk:(Zbj S).take (S.length-ar)=Zbj (S.take (S.length-ar)):=by unfold Zbj;rw[List.map_take]
 have hw:IntKind.wrap .i64 ((S.length:Int)-(ar:Int))=((S.length-ar:Nat):Int):=by rw[zac _ (by omega)];omega
 have hle:((S.length-ar:Nat):Int)≤S.length:=by omega
 have h32:W.length+1≤4294967296:=by omega
 have h33:S.length-ar+1≤4294967296:=by omega
 have htkW:(Zbj W).take W.length=Zbj W:=Yb (by rw[zc2];exact Yd _);have hn32:x.n.length≤4294967296:=by omega
 have hlS:S.length-ar≤S.length:=Nat.sub_le _ _;obtain⟨op,xi,n⟩:=x;dsimp only at *
 unfold Zjd cmH at *
 simp only[bxS,Ybk,Ybt]at hc;generalize hS1:S.take (S.length-ar)=S1 at *
 generalize hm:S.length-ar=m at *
 rcases hgc with rfl | rfl<;>rcases hgw with rfl | rfl<;>rcases hg1 with rfl | rfl
 all_goals simp -implicitDefEqProofs[l648_0,hlt,hlt',hx,hge,hws,car,hc,hsW,hsS,hsl,htk,hw,hle,h32,h33,hn32,hlS,htkW,Zba]
end
theorem zy4(Ls:List Nat)(C:List Ins)(W:List Nat)(c:List Nd)(i:Nat)(x:Nd)(hx:c[i]? = some x):exQ Ls C W (c.take (i+1))=Zag Ls (exQ Ls C W (c.take i)) x:=by
 rw[Ybq,hx,Yb8,zq5]
theorem zvw(Ls:List Nat)(C:List Ins)(s:List Nat)(x:Nd):(ndI Ls C s x).1.length≤C.length+1:=by
 unfold ndI;split
 ·simp
 ·split
  ·exact(zfp C _).2.1
  ·split
   ·exact(zfp C _).2.1
   ·exact(zfp C _).2.1
section
variable{T:Tbl}[Zai T][Zav T][Z5 T][Zo T][Zy T][Zz T][Zq T][Zu T][Zj T][Zn T][Zs T][Za5 T][Z6 T][Zan T][Zcl T][Zaa T][Zaf T][Zbc T][Z4 T][Zaj T][Zb5 T]
theorem zmw(C:List Ins)(L W:List Nat)(c:List Nd)(hC:∀y∈C,MkI y)(hw:Z7 c=-1)(hlt:∀x∈c,x.op=5→0≤x.i∧x.i<L.length)(hn:thin 1000 c)(hc:c.length≤50000)(hCl:C.length≤50000)(hWl:W.length≤50000) :
  (exQ L C W c).s.length=1∧∃gc,(gc=1∨gc=7)∧Z0 T 648 [cmP,.sl (Z1 c) .an] (cmH 1 4 C L W)=some (.i .i64 ((((exQ L C W c).s[0]?).getD 0:Nat):Int),cmH gc 10 (exQ L C W c).C L (exQ L C W c).W):=by
 have hne:0<c.length:=by
  cases c with
  | nil=>exact absurd hw (by decide)
  | cons x r=>simp
 have hloop:∃r,((exQ L C W c).s.length=1∧∃gc,(gc=1∨gc=7)∧r=((.n,⟨[(5,.bs (.loc 5) 11 1 0 (exQ L C W c).s.length)],cmH gc 10 (exQ L C W c).C L (exQ L C W c).W++[(.loc 5,⟨11,.own,1,Zbj (exQ L C W c).s⟩)],13⟩):Ex×St)) ∧
   Zp T 5 0 (.norm false [5]) l648_0 (Zjd 1 4 C L W [] c 0)=some r:=by
  refine zaz (fun q:Nat×Nat×Nat=>Zjd q.2.1 q.2.2 (exQ L C W (c.take q.1)).C L (exQ L C W (c.take q.1)).W (exQ L C W (c.take q.1)).s c q.1)
   (fun q=>q.1≤c.length∧(q.2.1=1∨q.2.1=7)∧(q.2.2=4∨q.2.2=10)∧(0<q.1→q.2.2=10)∧(exQ L C W (c.take q.1)).s.length≤q.1∧(exQ L C W (c.take q.1)).C.length≤C.length+q.1∧(exQ L C W (c.take q.1)).W.length=W.length+q.1∧∃j,Zt j (exQ L C W (c.take q.1)).s.length (c.drop q.1)=-1)
   (fun q=>c.length-q.1) _ ?_ (0,1,4) ⟨Y1 _,.inl rfl,.inl rfl,fun h=>absurd h (by decide),Yd _,Yd _,rfl,0,hw⟩
  rintro⟨i,gc,gw⟩ ⟨hi,hgc,hgw,hg0,hs,hCi,hWi,j,hwr⟩
  dsimp only at *
  have hmk:∀y∈(exQ L C W (c.take i)).C,MkI y:=zq7 L (c.take i) ⟨C,W,[]⟩ hC;by_cases hil:i<c.length
  ·left;obtain⟨x,hx,hmem⟩:∃x,c[i]? = some x∧x∈c:=⟨c[i]'hil,Ya hil,Ys hil⟩;obtain⟨_,hge⟩:=Ye.1 hx;have hd:c.drop i=x::c.drop (i+1):=by rw[Ym hil,hge]
   have htk:=zy4 L C W c i x hx;rw[hd]at hwr;generalize exQ L C W (c.take i)=q at *
   obtain⟨Cq,Wq,Sq⟩:=q;dsimp only at *
   have h1:¬ (arN x.op<0∨(Sq.length:Int)<arN x.op):=by
    intro hh;unfold Zt at hwr;rw[if_pos hh]at hwr;omega
   have hw2:Zt (j+1) (Sq.length+1-arN x.op) (c.drop (i+1))=-1:=by
    unfold Zt at hwr
    rwa [if_neg h1]at hwr
   obtain⟨g1,hg1,hcall⟩:=zvv (T:=T) Cq L Wq Sq x hmk ⟨hn x hmem,hlt x hmem,by omega,by omega⟩ (by omega) (by omega);obtain⟨ar,har⟩:∃ar:Nat,arN x.op=(ar:Int):=⟨(arN x.op).toNat,by omega⟩;have e:=zsd (T:=T) gc gw g1 Cq _ L Wq Sq c i _ ar x hgc hgw hg1 hx har (by omega) (by omega) (by omega) (by omega) (hn x hmem) hcall;have hst:Zag L ⟨Cq,Wq,Sq⟩ x=⟨(ndI L Cq Sq x).1,Wq++[(ndI L Cq Sq x).2],Sq.take (Sq.length-ar)++[(ndI L Cq Sq x).2]⟩:=by
    unfold Zag;rw[har,Ya8]
   have hnl:=zvw L Cq Sq x;have hsl:(Sq.take (Sq.length-ar)++[(ndI L Cq Sq x).2]).length=Sq.length-ar+1:=by rw[Yq,Y0,Yaj];omega
   rw[hst]at htk;refine⟨(i+1,if g1=1 then gc else 7,10),?_,by dsimp only;omega,?_⟩
   ·dsimp only;rw[htk];dsimp only;refine⟨by omega,?_,.inr rfl,fun _=>rfl,by omega,by omega,by rw[Yq,Yaj];omega,j+1,?_⟩
    ·split
     ·exact hgc
     ·exact .inr rfl
    ·rw[hsl,←hw2];congr 1;omega
   ·dsimp only;rw[htk];exact e
  ·right;have hic:i=c.length:=by omega
   subst hic;rw[Ybm]at *
   rw[Y2]at hwr;have h10:=hg0 hne;have hs1:(exQ L C W c).s.length=1:=by
    unfold Zt at hwr;split at hwr
    ·omega
    ·omega
   refine⟨_,⟨hs1,gc,hgc,rfl⟩,?_⟩;subst h10;generalize exQ L C W c=q at *
   obtain⟨Cq,Wq,Sq⟩:=q;dsimp only at *
   unfold Zjd cmH;rcases hgc with rfl | rfl
   ·constructor<;>simp -implicitDefEqProofs[l648_0,Zba]
   ·constructor<;>simp -implicitDefEqProofs[l648_0,Zba]
 obtain⟨r,⟨hs1,gc,hgc,rfl⟩,hr⟩:=hloop;refine⟨hs1,gc,hgc,?_⟩;generalize exQ L C W c=q at *
 obtain⟨Cq,Wq,Sq⟩:=q;dsimp only at *
 obtain⟨v,rfl⟩:=Ybe.1 hs1;unfold Zjd cmH at hr;unfold cmH;rw[zal Zav.h648 rfl,b648];simp -implicitDefEqProofs at hr;have hnv:Zbj [v]=[[.i .i64 (v:Int)]]:=rfl;rw[hnv]at hr;rcases hgc with rfl | rfl
 ·simp -implicitDefEqProofs[hr,Zba]
 ·simp -implicitDefEqProofs[hr,Zba]
end
abbrev mkB:BId:=.fld (.loc 25) 3
abbrev Zkp(g:Nat)(C:List Ins)(L W:List Nat):Heap:=
 [(mkB,⟨g,.str,4,[[.bs (.fld mkB 0) (g+1) 6 0 C.length,.fnp 0 (.fld (.loc 25) 1) (g+2) 2 0 0,.bs (.fld mkB 2) (g+3) 1 0 L.length,.bs (.fld mkB 3) (g+4) 1 0 W.length]]⟩),
  (.fld mkB 0,⟨g+1,.own,6,Zcz C⟩),(.fld (.loc 25) 1,⟨g+2,.mp,2,Zg6 0 C⟩),(.fld mkB 2,⟨g+3,.own,1,Zbj L⟩),(.fld mkB 3,⟨g+4,.own,1,Zbj W⟩)]
abbrev bx4(g:Nat):BId×Box:=(.loc 4,⟨g,.str,4,[[.sl [] .an,.sl [] .an,.i .i64 0,.i .i64 0]]⟩)
abbrev bx6(g:Nat):BId×Box:=(.loc 6,⟨g,.str,4,[[.i .i64 0,.i .i64 0,.i .i64 0,.i .i64 0]]⟩)
def Zje(f:Fd)(pars:Int)(C:List Ins)(L W:List Nat)(i:Nat):St:=
 ⟨[(1,.i .i64 pars),(2,.ptr (.loc 2) 1 2 0 0),(4,.ptr (.loc 4) 2 4 0 0),(6,.ptr (.loc 6) 3 4 0 0),(8,.ptr mkB 4 4 0 0),(27,.sl (Z3 f.lets) .an),(28,.i .i64 f.lets.length),(29,.i .i64 (i:Int))],
  [(.loc 2,⟨1,.str,2,[[.sl (Z3 f.lets) .an,.sl (Zak f.outs) .an]]⟩),bx4 2,bx6 3]++Zkp 4 C L W,10⟩
def Zjf(n:Nat)(Os:List (List Nd))(pars:Int)(C:List Ins)(L W Q:List Nat)(i:Nat):St:=
 ⟨[(4,.ptr (.loc 4) 1 4 0 0),(6,.ptr (.loc 6) 2 4 0 0),(8,.ptr mkB 3 4 0 0),(11,.ptr (.loc 11) 8 4 0 0),(53,.sl (Zak Os) .an),(54,.i .i64 Os.length),(55,.i .i64 (i:Int))],
  [bx4 1,bx6 2]++Zkp 3 C L W++[(.loc 11,⟨8,.str,4,[[.sl [] .an,.bs (.fld (.loc 11) 1) 9 1 0 Q.length,.i .i64 (n:Int),.i .i64 pars]]⟩),(.fld (.loc 11) 1,⟨9,.own,1,Zbj Q⟩)],11⟩
section
variable{T:Tbl}[Zai T][Zav T]
theorem zhx(f:Fd)(pars:Int)(C C1:List Ins)(L W W1:List Nat)(i p gc:Nat)(x:Lt)(hgc:gc=1∨gc=7)(hx:f.lets[i]? = some x)(hl:f.lets.length≤100000)(hL:L.length≤100000)(hc:x.code.length≤100000)
  (c:Z0 T 648 [cmP,.sl (Z1 x.code) .an] (cmH 1 4 C L W)=some (.i .i64 (p:Int),cmH gc 10 C1 L W1)) :
  evX (orc T) T 0 l644_0 (Zje f pars C L W i)=some (.n,Zje f pars C1 (L++[p]) W1 (i+1)):=by
 obtain⟨hlt,hge⟩:=Ye.1 hx;have hlt':(i:Int)<f.lets.length:=by omega
 have hws:=zbj hlt (by omega);have hsL:=zfm L p;have htkL:(Zbj L).take L.length=Zbj L:=Yb (by rw[zc2];exact Yd _);have h32:L.length+1≤4294967296:=by omega
 obtain⟨Ls,O⟩:=f;obtain⟨nm,code⟩:=x;dsimp only at *
 unfold Zje;unfold cmH at c;rcases hgc with rfl | rfl
 ·simp -implicitDefEqProofs[l644_0,hlt,hlt',hx,hge,hws,c,hsL,htkL,h32,Zba]
 ·simp -implicitDefEqProofs[l644_0,hlt,hlt',hx,hge,hws,c,hsL,htkL,h32,Zba]
theorem zhy(n:Nat)(Os:List (List Nd))(pars:Int)(C C1:List Ins)(L W W1 Q:List Nat)(i p gc:Nat)(x:List Nd)(hgc:gc=1∨gc=7)(hx:Os[i]? = some x)(hl:Os.length≤100000)(hQ:Q.length≤100000)(hc:x.length≤100000)
  (c:Z0 T 648 [cmP,.sl (Z1 x) .an] (cmH 1 4 C L W)=some (.i .i64 (p:Int),cmH gc 10 C1 L W1)) :
  evX (orc T) T 0 l644_1 (Zjf n Os pars C L W Q i)=some (.n,Zjf n Os pars C1 L W1 (Q++[p]) (i+1)):=by
 obtain⟨hlt,hge⟩:=Ye.1 hx;have hlt':(i:Int)<Os.length:=by omega
 have hws:=zbj hlt (by omega);have hsQ:=zfm Q p;have htkQ:(Zbj Q).take Q.length=Zbj Q:=Yb (by rw[zc2];exact Yd _);have h32:Q.length+1≤4294967296:=by omega
 unfold Zjf;unfold cmH at c;rcases hgc with rfl | rfl
 ·simp -implicitDefEqProofs[l644_1,hlt,hlt',hx,hge,hws,c,hsQ,htkQ,h32,Zba]
 ·simp -implicitDefEqProofs[l644_1,hlt,hlt',hx,hge,hws,c,hsQ,htkQ,h32,Zba]
end
abbrev Zm9(z:Fz):Box:=⟨7,.str,3,[[.b z.1,.sl (Zb z.2.1) .an,.sl (Zb z.2.2) .an]]⟩
abbrev Zna(a b c d:Int):Box:=⟨8,.str,4,[[.i .i64 a,.i .i64 b,.i .i64 c,.i .i64 d]]⟩
abbrev hqA(gk:Nat)(Q:PoF)(LS:List Fz)(s p L seen:Int)(F:List Fz)(m:Nat)(z:Fz)(a b c d:Int):Heap:=
 [(.bor 0,⟨0,.str,9,[[.b Q.t.1,.sl (Zb Q.t.2.1) .an,.sl (Zb Q.t.2.2) .an,.sl (Zf Q.y) .an,.sl (Zf Q.p) .an,.sl (Zf LS) .an,.ptr (.bor 1) 1 3 0 0,.i .i64 seen,.bs (.bor 2) gk 3 0 m]]⟩),(.bor 1,bxG 1 s p L),(.bor 2,⟨gk,.own,3,Zf F⟩),(.loc 4,Zm9 z),(.loc 5,Zna a b c d)]
def Zpf(gk:Nat)(Q:PoF)(LS:List Fz)(s p L seen:Int)(F:List Fz)(m:Nat)(code:List Nd)(i:Nat):St:=
 ⟨[(0,wP),(4,.ptr (.loc 4) 7 3 0 0),(5,.ptr (.loc 5) 8 4 0 0),(18,.sl (Z1 code) .an),(19,.i .i64 code.length),(20,.i .i64 i)],hqA gk Q LS s p L seen F m (false,[],[]) 0 0 0 0,10⟩
def Zmf(gk:Nat)(Q:PoF)(LS:List Fz)(s p L seen:Int)(F:List Fz)(m:Nat):Ex×St:=
 (.n,⟨[(0,wP),(4,.ptr (.loc 4) 7 3 0 0),(5,.ptr (.loc 5) 8 4 0 0)],hqA gk Q LS s p L seen F m (false,[],[]) 0 0 0 0,10⟩)
def Zmg(gk:Nat)(Q:PoF)(LS:List Fz)(s p L seen:Int)(F:List Fz)(m:Nat)(kind at_:Int):Ex×St:=
 (.r,⟨[(4,.ptr (.loc 4) 7 3 0 0),(5,.ptr (.loc 5) 8 4 0 0)],hqA gk Q LS s p L seen F m (fz 0) kind 0 0 at_,10⟩)
theorem z9b{dim pars lets:Int}{x:Nd}(h:okN dim pars lets x=true):(x.op=3→0≤x.i∧x.i<dim)∧(x.op=4→0≤x.i∧x.i<pars)∧(x.op=5→0≤x.i∧x.i<lets):=by
 unfold okN at h;refine⟨fun ho=>?_,fun ho=>?_,fun ho=>?_⟩
 all_goals
  rw[ho]at h;rw[if_neg (by decide)]at h;split at h
  ·cases h
  ·simpa[Zgf]using h
section
variable{T:Tbl}[Z5 T][Zo T][Zy T][Zz T][Zq T][Zu T][Zj T][Zn T][Zs T][Za5 T][Z6 T][Zan T][Zcl T][Zaa T][Zaf T][Zbc T][Z4 T][Zaj T][Zai T][Zb5 T]
def Zn9(P:Po)(lim:Nat)(ls:List Rat)(n:Nat)(R:Rat×Nat×Nat)(r:Ex×St):Prop:=
 (R.2.1=0∧∃gk s p F,(gk=2∨gk=6)∧F[0]? = some (fz R.1)∧F.length≤5000∧r=Zmf gk P.f (fzs ls) s p lim n F 1) ∨
 (R.2.1≠0∧∃gk s p seen F m,(gk=2∨gk=6)∧r=Zmg gk P.f (fzs ls) s p lim seen F m R.2.1 R.2.2)
end
theorem zjw(lim:Nat)(P:Po)(ls:List Rat):∀(l:List Nd) (i:Nat) (s:List Rat),(Zv lim P ls i s l).2.1≠0→(Zv lim P ls i s l).1=0
 | [],i,s,h=>absurd rfl h
 | x::r,i,s,h=>by
  unfold Zv at h ⊢;split
  ·next h1=>exact(znm h1).1
  ·next h1=>
   rw[if_neg h1]at h;exact zjw lim P ls r _ _ h
theorem zgt(lim:Nat)(P:Po)(ls:List Rat):∀(l:List Nd) (i:Nat) (s:List Rat),(Zv lim P ls i s l).2.1=0→(Zv lim P ls i s l).2.2=0
 | [],i,s,_=>rfl
 | x::r,i,s,h=>by
  unfold Zv at h ⊢;split
  ·next h1=>rw[if_pos h1]at h;exact absurd h h1
  ·next h1=>
   rw[if_neg h1]at h;exact zgt lim P ls r _ _ h
theorem zsg(b:Int):((Zcc b).toNat:Int)=Zcc b∧(Zcc b).toNat≤4096:=by
 unfold Zcc;split
 ·decide
 ·split
  ·decide
  ·omega
theorem zv1{x:PoF}(h:PoS x 1000):PvS x.v 1000:=by
 refine⟨zgk h.t (by decide),fun q hq=>?_,fun q hq=>?_⟩
 ·obtain⟨u,hu,rfl⟩:=Yz.1 hq;exact zgk (h.y u hu) (by decide)
 ·obtain⟨u,hu,rfl⟩:=Yz.1 hq;exact zgk (h.p u hu) (by decide)
abbrev Zim(a b c d:Int):AV:=.agg [.i .i64 a,.i .i64 b,.i .i64 c,.i .i64 d]
section
variable{T:Tbl}[Zaj T][Zbp T][Zai T][Zb5 T][Z5 T][Zo T][Zbz T][Zc2 T][Zbi T]
theorem zr8(s:List UInt8)(hs:s.length≤100000):Za T 486 [.s s]=some (.b (nameB s)):=by
 have c:=zwi (T:=T) 2 0 s hs;unfold nameB;rw[zab Zbi.h486 rfl,b486];generalize Zel 2 s=B at *
 by_cases h1:s=[116]
 ·subst h1;cases B<;>simp -implicitDefEqProofs
 by_cases h2:s=[121]
 ·subst h2;cases B<;>simp -implicitDefEqProofs
 by_cases h3:s=[112]
 ·subst h3;cases B<;>simp -implicitDefEqProofs
 by_cases h4:s=[108,101,116]
 ·subst h4;cases B<;>simp -implicitDefEqProofs
 cases B<;>simp -implicitDefEqProofs[c,h1,h2,h3,h4]
theorem zoq(L:List Lt)(i:Nat)(hi:i<L.length)(hL:L.length≤100000):Za T 487 [.sl (Z3 L) .an,.i .i64 i]=some (.b (twB (L.take i) (L[i]'hi).name)):=by
 have hlo:Zp T 0 0 (.norm false []) l487_0 ⟨[(0,.sl (Z3 L) .an),(1,.i .i64 i),(6,.i .i64 i),(7,.i .i64 ((0:Nat):Int))],[],2⟩ =
   if twB ((L.take i).drop 0) (L[i]'hi).name=true then some (.r,⟨[(4,.b true)],[],2⟩) else some (.n,⟨[],[],2⟩):=by
  refine zaw (fun k=>⟨[(0,.sl (Z3 L) .an),(1,.i .i64 i),(6,.i .i64 i),(7,.i .i64 ((k:Nat):Int))],[],2⟩) i
   (fun k=>if twB ((L.take i).drop k) (L[i]'hi).name=true then some (.r,_) else some (.n,_)) (fun k hk=>?_) ?_
  ·have hk1:k<L.length:=by omega
   have hg:L[k]? = some (L[k]'hk1):=Ya hk1;have hgi:L[i]? = some (L[i]'hi):=Ya hi;have hk2:k<(L.take i).length:=by rw[Y0];omega
   have hd:(L.take i).drop k=(L.take i)[k]'hk2::(L.take i).drop (k+1):=Ym hk2;have hx2:(L.take i)[k]'hk2=L[k]'hk1:=by simp
   rw[hx2]at hd;have hws:=zbj hk (by omega);have hk':(k:Int)<i:=by omega
   have hi':(i:Int)<L.length:=by omega
   have hk1':(k:Int)<L.length:=by omega
   generalize hx:L[k]'hk1=x at *
   generalize hy:L[i]'hi=y at *
   obtain⟨xn,xc⟩:=x;obtain⟨yn,yc⟩:=y;by_cases hc:xn=yn
   ·right;rw[if_pos (by rw[hd];simp[twB,hc])];clear hd;constructor<;>simp -implicitDefEqProofs[l487_0,hk,hk',hk1,hk1',hi,hi',hg,hgi,hx,hy,hc]
   ·left;refine⟨?_,by rw[hd];simp[twB,hc]⟩;clear hd;simp -implicitDefEqProofs[l487_0,hk,hk',hk1,hk1',hi,hi',hg,hgi,hx,hy,hc,hws]
  ·rw[Ya4 (by rw[Y0];omega)];simp only[twB,Yd7,Y8,if_false];constructor<;>simp -implicitDefEqProofs[l487_0]
 rw[Ybp]at hlo;simp only[Yy]at hlo;rw[zab Zbi.h487 rfl,b487];generalize twB (L.take i) (L[i]'hi).name=B at *
 cases B with
 | true=>
  rw[if_pos rfl]at hlo;simp -implicitDefEqProofs[hlo]
 | false=>
  rw[if_neg (by decide)]at hlo;simp -implicitDefEqProofs[hlo]
theorem zjl(c:List Nd)(num dim pars lets:Int)(hl:c.length≤50000)(hn:thin 1000 c):Za T 488 [.sl (Z1 c) .an,.i .i64 num,.i .i64 dim,.i .i64 pars,.i .i64 lets] =
  some (if 0≤ptA dim pars lets c then Zim 2 num 0 (ptA dim pars lets c) else Zim 0 0 0 0):=by
 have c1:=zpc (T:=T) c dim pars lets (by omega) hn;have c2:=ztb (T:=T) c hl;have hp:=znw dim pars lets c;unfold ptA;rw[zab Zbi.h488 rfl,b488];generalize Zip c=d at *
 generalize Za0 dim pars lets c=p at *
 by_cases h:p<0
 ·by_cases hd:40<d
  ·have hd':(40:Int)<d:=by omega
   have hnl:¬ (c.length:Int)<0:=by omega
   have h0:(0:Int)≤c.length:=by omega
   rw[if_pos (show p<0∧40<d from ⟨h,hd⟩),if_pos h0];simp -implicitDefEqProofs[c1,c2,h,hd,hd',hnl]
  ·have hd':¬ (40:Int)<d:=by omega
   have h0:¬ 0≤p:=by omega
   rw[if_neg (show ¬ (p<0∧40<d) from fun hh=>hd hh.2),if_neg h0];simp -implicitDefEqProofs[c1,c2,h,hd,hd']
 ·have h0:0≤p:=by omega
  rw[if_neg (show ¬ (p<0∧40<d) from fun hh=>h hh.1),if_pos h0];simp -implicitDefEqProofs[c1,c2,h]
theorem zor(f:Fd)(dim pars:Int)(h1:f.lets.length≤100000)(h2:f.outs.length≤100000)(hn:Zcn 1000 50000 f)(hs:Zaw f≤4294967295):Za T 485 [efd f,.i .i64 dim,.i .i64 pars]=some (.b (whB f dim pars)):=by
 have c:=zw8 (T:=T) f h1 h2 (fun c hc=>⟨Yc (hn c hc).1 (by decide),(hn c hc).2⟩) hs;unfold whB;generalize Zaw f=S at *
 obtain⟨L,O⟩:=f;dsimp only at *
 rw[zab Zbi.h485 rfl,b485];by_cases g1:1≤dim
 ·by_cases g2:dim≤6
  ·by_cases g3:0≤pars
   ·by_cases g4:pars≤6
    ·by_cases g5:(O.length:Int)=dim
     ·by_cases g6:L.length≤10
      ·have g6':(L.length:Int)≤10:=by omega
       by_cases g7:S≤300
       ·have g7':(S:Int)≤300:=by omega
        simp -implicitDefEqProofs[g1,g2,g3,g4,g5,g6,g6',g7,g7',c]
       ·have g7':¬ (S:Int)≤300:=by omega
        simp -implicitDefEqProofs[g1,g2,g3,g4,g5,g6,g6',g7,g7',c]
      ·have g6':¬ (L.length:Int)≤10:=by omega
       simp -implicitDefEqProofs[g1,g2,g3,g4,g5,g6,g6',c]
     ·simp -implicitDefEqProofs[g1,g2,g3,g4,g5,c]
    ·simp -implicitDefEqProofs[g1,g2,g3,g4,c]
   ·simp -implicitDefEqProofs[g1,g2,g3,c]
  ·simp -implicitDefEqProofs[g1,g2,c]
 ·simp -implicitDefEqProofs[g1,c]
end
abbrev Zes(g:Nat)(f:Fd):Box:=⟨g,.str,2,[[.sl (Z3 f.lets) .an,.sl (Zak f.outs) .an]]⟩
def Ze6(q:Option (Int×Int×Int)):AV:=match q with
 | some (a,b,c)=>Zim 2 a b c
 | none=>Zim 0 0 0 0
def Ziy(a b c:Int):Option (Ex×St):=some (.r,⟨[(6,.ptr (.loc 6) 1 4 0 0)],[(.loc 6,⟨1,.str,4,[[.i .i64 2,.i .i64 a,.i .i64 b,.i .i64 c]]⟩)],3⟩)
section
variable{T:Tbl}[Zaj T][Zbp T][Zai T][Zb5 T][Z5 T][Zo T][Zbz T][Zc2 T][Zbi T]
def Zkn(f:Fd)(dim pars:Int)(i:Nat):St:=⟨[(1,.i .i64 dim),(2,.i .i64 pars),(3,.ptr (.loc 3) 1 2 0 0),(6,.ptr (.loc 6) 2 4 0 0),(20,.sl (Z3 f.lets) .an),(21,.i .i64 f.lets.length),(22,.i .i64 i)],[(.loc 3,Zes 1 f),(.loc 6,⟨2,.str,4,[[.i .i64 0,.i .i64 0,.i .i64 0,.i .i64 0]]⟩)],4⟩
theorem zr9(f:Fd)(dim pars:Int)(h1:f.lets.length≤10)(hn:Zcn 1000 50000 f)(hs:∀x∈f.lets,x.name.length≤100000) :
  Zp T 0 0 (.norm false [1,2,3,6]) l477_0 (Zkn f dim pars 0)=match Zhz dim pars f.lets 0 f.lets with
   | some (a,b,c)=>Ziy a b c
   | none=>some (.n,⟨[(1,.i .i64 dim),(2,.i .i64 pars),(3,.ptr (.loc 3) 1 2 0 0),(6,.ptr (.loc 6) 2 4 0 0)],[(.loc 3,Zes 1 f),(.loc 6,⟨2,.str,4,[[.i .i64 0,.i .i64 0,.i .i64 0,.i .i64 0]]⟩)],4⟩):=by
 have:=zaw (T:=T) (k:=0) (id:=0) (g2:=.norm false [1,2,3,6]) (c:=l477_0) (Zkn f dim pars) f.lets.length
  (fun i=>match Zhz dim pars f.lets i (f.lets.drop i) with
   | some (a,b,c)=>Ziy a b c
   | none=>some (.n,⟨[(1,.i .i64 dim),(2,.i .i64 pars),(3,.ptr (.loc 3) 1 2 0 0),(6,.ptr (.loc 6) 2 4 0 0)],[(.loc 3,Zes 1 f),(.loc 6,⟨2,.str,4,[[.i .i64 0,.i .i64 0,.i .i64 0,.i .i64 0]]⟩)],4⟩)) (fun i hi=>?_) ?_
 ·simpa using this
 ·have hg:f.lets[i]? = some (f.lets[i]'hi):=Ya hi;have hd:f.lets.drop i=f.lets[i]'hi::f.lets.drop (i+1):=Ym hi;have hi':(i:Int)<f.lets.length:=by omega
  have hws:=zbj hi (by omega);have hw1:IntKind.wrap .i64 ((i:Int)+1)=(i:Int)+1:=zac _ (by omega);obtain⟨hc1,hc2⟩:=hn (f.lets[i]'hi).code (Yr.2 (.inl (Yz.2 ⟨_,Ys hi,rfl⟩)));have k1:=zr8 (T:=T) (f.lets[i]'hi).name (hs _ (Ys hi));have k2:=zoq (T:=T) f.lets i hi (by omega);have k3:=zjl (T:=T) (f.lets[i]'hi).code ((i:Int)+1) dim pars i hc1 hc2;have hp0:ptA dim pars i (f.lets[i]'hi).code<0∨0≤ptA dim pars i (f.lets[i]'hi).code:=by omega
  rw[hd,Zhz];obtain⟨L,O⟩:=f;dsimp only at *
  clear hd hn hs hc1 hc2;generalize hx:L[i]'hi=x at *
  obtain⟨nm,code⟩:=x;dsimp only at *
  unfold Zkn Zes Ziy;dsimp only;rw[hws]at hw1;generalize ptA dim pars i code=p at *
  generalize twB (L.take i) nm=B at *
  cases hA:nameB nm with
  | false=>
   right;rw[hA]at k1;rw[if_pos (.inl rfl)];constructor<;>simp -implicitDefEqProofs[l477_0,hi,hi',hg,hx,k1,hws]
  | true=>
   rw[hA]at k1;cases B with
   | true=>
    right;rw[if_pos (.inr rfl)];constructor<;>simp -implicitDefEqProofs[l477_0,hi,hi',hg,hx,k1,k2,hws]
   | false=>
    rw[if_neg (by simp)];rcases hp0 with hp0 | hp0
    ·left;have hp1:¬ 0≤p:=by omega
     rw[if_neg hp1]at k3 ⊢;refine⟨?_,rfl⟩;simp -implicitDefEqProofs[l477_0,hi,hi',hg,hx,k1,k2,k3,hws]
    ·right;rw[if_pos hp0]at k3 ⊢;constructor<;>simp -implicitDefEqProofs[l477_0,hi,hi',hg,hx,k1,k2,k3,hws]
 ·rw[Y2,Zhz];unfold Zkn Zes;constructor<;>simp -implicitDefEqProofs[l477_0]
def Zko(f:Fd)(dim pars:Int)(i:Nat):St:=⟨[(1,.i .i64 dim),(2,.i .i64 pars),(3,.ptr (.loc 3) 1 2 0 0),(6,.ptr (.loc 6) 2 4 0 0),(54,.sl (Zak f.outs) .an),(55,.i .i64 f.outs.length),(56,.i .i64 i)],[(.loc 3,Zes 1 f),(.loc 6,⟨2,.str,4,[[.i .i64 0,.i .i64 0,.i .i64 0,.i .i64 0]]⟩)],4⟩
theorem zsa(f:Fd)(dim pars:Int)(h1:f.lets.length≤10)(h2:f.outs.length≤10)(hn:Zcn 1000 50000 f) :
  Zp T 0 2 (.norm false [6]) l477_1 (Zko f dim pars 0)=match Ziq dim pars f.lets.length 0 f.outs with
   | some (a,b,c)=>Ziy a b c
   | none=>some (.n,⟨[(6,.ptr (.loc 6) 1 4 0 0)],[(.loc 6,⟨1,.str,4,[[.i .i64 0,.i .i64 0,.i .i64 0,.i .i64 0]]⟩)],3⟩):=by
 have:=zaw (T:=T) (k:=0) (id:=2) (g2:=.norm false [6]) (c:=l477_1) (Zko f dim pars) f.outs.length
  (fun i=>match Ziq dim pars f.lets.length i (f.outs.drop i) with
   | some (a,b,c)=>Ziy a b c
   | none=>some (.n,⟨[(6,.ptr (.loc 6) 1 4 0 0)],[(.loc 6,⟨1,.str,4,[[.i .i64 0,.i .i64 0,.i .i64 0,.i .i64 0]]⟩)],3⟩)) (fun i hi=>?_) ?_
 ·simpa using this
 ·have hg:f.outs[i]? = some (f.outs[i]'hi):=Ya hi;have hd:f.outs.drop i=f.outs[i]'hi::f.outs.drop (i+1):=Ym hi;have hi':(i:Int)<f.outs.length:=by omega
  have hws:=zbj hi (by omega);have hw1:IntKind.wrap .i64 ((f.lets.length:Int)+i)=(f.lets.length:Int)+i:=zac _ (by omega);have hw2:IntKind.wrap .i64 ((f.lets.length:Int)+i+1)=(f.lets.length:Int)+i+1:=zac _ (by omega);have hw3:(((f.lets.length+i:Nat):Int)+1)=(f.lets.length:Int)+i+1:=by omega
  obtain⟨hc1,hc2⟩:=hn (f.outs[i]'hi) (Yr.2 (.inr (Ys hi)));have k3:=zjl (T:=T) (f.outs[i]'hi) ((f.lets.length:Int)+i+1) dim pars f.lets.length hc1 hc2;have hp0:ptA dim pars f.lets.length (f.outs[i]'hi)<0∨0≤ptA dim pars f.lets.length (f.outs[i]'hi):=by omega
  rw[hd,Ziq,hw3];obtain⟨L,O⟩:=f;dsimp only at *
  clear hd hn hc1 hc2 hw3;generalize hx:O[i]'hi=x at *
  unfold Zko Zes Ziy;dsimp only;generalize ptA dim pars L.length x=p at *
  rcases hp0 with hp0 | hp0
  ·left;have hp1:¬ 0≤p:=by omega
   rw[if_neg hp1]at k3 ⊢;refine⟨?_,rfl⟩;simp -implicitDefEqProofs[l477_1,hi,hi',hg,hx,k3,hws,hw1,hw2]
  ·right;rw[if_pos hp0]at k3 ⊢;constructor<;>simp -implicitDefEqProofs[l477_1,hi,hi',hg,hx,k3,hws,hw1,hw2]
 ·rw[Y2,Ziq];unfold Zko Zes;constructor<;>simp -implicitDefEqProofs[l477_1]
theorem zca(f:Fd)(dim pars:Int)(h1:f.lets.length≤100000)(h2:f.outs.length≤100000)(hn:Zcn 1000 50000 f)(hz:Zaw f≤4294967295)(hs:∀x∈f.lets,x.name.length≤100000) :
  Za T 477 [efd f,.i .i64 dim,.i .i64 pars]=some (Ze6 (Zeu f dim pars)):=by
 have c:=zor (T:=T) f dim pars h1 h2 hn hz;unfold Zeu;cases hW:whB f dim pars with
 | false=>
  rw[hW]at c;rw[if_pos rfl];unfold Ze6;obtain⟨L,O⟩:=f;dsimp only at *
  rw[zab Zbi.h477 rfl,b477];simp -implicitDefEqProofs[c]
 | true=>
  rw[hW]at c;rw[if_neg (by decide)];have hW2:(1≤dim∧dim≤6∧0≤pars∧pars≤6∧(f.outs.length:Int)=dim∧f.lets.length≤10∧Zaw f≤300):=by simpa[whB]using hW
  have a1:=zr9 (T:=T) f dim pars hW2.2.2.2.2.2.1 hn hs;have a2:=zsa (T:=T) f dim pars hW2.2.2.2.2.2.1 (by omega) hn;generalize Zhz dim pars f.lets 0 f.lets=X at *
  generalize Ziq dim pars f.lets.length 0 f.outs=Y at *
  unfold Zkn Zes Ziy at a1;unfold Zko Zes Ziy at a2;simp only[Yy]at a1 a2;obtain⟨L,O⟩:=f;dsimp only at *
  clear hW2 hn hs hz;rw[zab Zbi.h477 rfl,b477];obtain _ | ⟨x1,x2,x3⟩:=X
  ·dsimp only at a1 ⊢;obtain _ | ⟨y1,y2,y3⟩:=Y
   ·dsimp only at a2;unfold Ze6;simp -implicitDefEqProofs[c,a1,a2]
   ·dsimp only at a2;unfold Ze6;simp -implicitDefEqProofs[c,a1,a2]
  ·dsimp only at a1 ⊢;unfold Ze6;simp -implicitDefEqProofs[c,a1]
end
structure Fq where
 C:List Ins
 W:List Nat
 P:List Nat
def ltQ(q:Fq)(c:List Nd):Fq:=let r:=exQ q.P q.C q.W c;⟨r.C,r.W,q.P++[(r.s[0]?).getD 0]⟩
def Zau(L:List (List Nd)):Fq:=L.foldl ltQ ⟨[],[],[]⟩
def ouQ(Ls:List Nat)(q:Fq)(c:List Nd):Fq:=let r:=exQ Ls q.C q.W c;⟨r.C,r.W,q.P++[(r.s[0]?).getD 0]⟩
def Zc9(q:Fq)(O:List (List Nd)):Fq:=O.foldl (ouQ q.P) ⟨q.C,q.W,[]⟩
theorem zfg(L:List (List Nd))(c:List Nd):Zau (L++[c])=ltQ (Zau L) c:=by simp[Zau]
theorem zfh(q:Fq)(O:List (List Nd))(c:List Nd):Zc9 q (O++[c])=ouQ q.P (Zc9 q O) c:=by simp[Zc9]
theorem zkp(Ls:List Nat)(C:List Ins)(W:List Nat)(c:List Nd):(exQ Ls C W c).C.length≤C.length+c.length∧(exQ Ls C W c).W.length=W.length+c.length:=by
 induction c using zey with
 | nil=>exact⟨Yd _,rfl⟩
 | append_singleton c x ih=>
  rw[zq5];have:=zvw Ls (exQ Ls C W c).C (exQ Ls C W c).s x;refine⟨?_,?_⟩
  ·show (ndI Ls (exQ Ls C W c).C (exQ Ls C W c).s x).1.length≤_;rw[Yq,Yaj];omega
  ·show ((exQ Ls C W c).W++[_]).length=_;rw[Yq,Yq,Yaj,Yaj,ih.2];omega
theorem zed(L:List (List Nd)):(Zau L).P.length=L.length∧(Zau L).C.length≤(L.map List.length).sum∧(Zau L).W.length=(L.map List.length).sum:=by
 induction L using zey with
 | nil=>exact⟨rfl,Yd _,rfl⟩
 | append_singleton L c ih=>
  rw[zfg];obtain⟨h1,h2,h3⟩:=ih;have:=zkp (Zau L).P (Zau L).C (Zau L).W c;refine⟨?_,?_,?_⟩
  ·show ((Zau L).P++[_]).length=_;simp[h1]
  ·show (exQ (Zau L).P (Zau L).C (Zau L).W c).C.length≤_;rw[Yap,Yay];simp;omega
  ·show (exQ (Zau L).P (Zau L).C (Zau L).W c).W.length=_;rw[Yap,Yay];simp;omega
theorem zvx(L:List (List Nd)):∀y∈(Zau L).C,MkI y:=by
 induction L using zey with
 | nil=>intro y hy;cases hy
 | append_singleton L c ih=>rw[zfg];exact zq7 _ c ⟨_,_,[]⟩ ih
theorem zqk(q:Fq)(O:List (List Nd)):(Zc9 q O).P.length=O.length∧(Zc9 q O).C.length≤q.C.length+(O.map List.length).sum∧(Zc9 q O).W.length=q.W.length+(O.map List.length).sum:=by
 induction O using zey with
 | nil=>exact⟨rfl,Yd _,rfl⟩
 | append_singleton O c ih=>
  rw[zfh];obtain⟨h1,h2,h3⟩:=ih;have:=zkp q.P (Zc9 q O).C (Zc9 q O).W c;refine⟨?_,?_,?_⟩
  ·show ((Zc9 q O).P++[_]).length=_;simp[h1]
  ·show (exQ q.P (Zc9 q O).C (Zc9 q O).W c).C.length≤_;rw[Yap,Yay];simp;omega
  ·show (exQ q.P (Zc9 q O).C (Zc9 q O).W c).W.length=_;rw[Yap,Yay];simp;omega
theorem z3c(q:Fq)(O:List (List Nd))(h:∀y∈q.C,MkI y):∀y∈(Zc9 q O).C,MkI y:=by
 induction O using zey with
 | nil=>exact h
 | append_singleton O c ih=>rw[zfh];exact zq7 _ c ⟨_,_,[]⟩ ih
def Zaz(f:Fd):Fq:=Zc9 (Zau (f.lets.map (·.code))) f.outs
def Zfk(f:Fd)(pars:Int):Tp:=⟨(Zaz f).C,(Zaz f).P.map fun(n:Nat)=>(n:Int),f.outs.length,pars⟩
theorem zhz(l:List (List Nd))(i:Nat):((l.take i).map List.length).sum≤(l.map List.length).sum:=by
 conv=>rhs;rw[←Yaw i l,Yap,Yay]
 omega
section
variable{T:Tbl}[Zai T][Zav T][Z5 T][Zo T][Zy T][Zz T][Zq T][Zu T][Zj T][Zn T][Zs T][Za5 T][Z6 T][Zan T][Zcl T][Zaa T][Zaf T][Zbc T][Z4 T][Zaj T][Zb5 T]
theorem zvy(f:Fd)(dim pars:Int)(hF:FineD f dim pars)(hn:Zcn 1000 50000 f) :
  Zp T 0 0 (.norm false [1,2,4,6,8]) l644_0 (Zje f pars [] [] [] 0) =
   some (.n,⟨[(1,.i .i64 pars),(2,.ptr (.loc 2) 1 2 0 0),(4,.ptr (.loc 4) 2 4 0 0),(6,.ptr (.loc 6) 3 4 0 0),(8,.ptr mkB 4 4 0 0)],
    [(.loc 2,⟨1,.str,2,[[.sl (Z3 f.lets) .an,.sl (Zak f.outs) .an]]⟩),bx4 2,bx6 3]++Zkp 4 (Zau (f.lets.map (·.code))).C (Zau (f.lets.map (·.code))).P (Zau (f.lets.map (·.code))).W,10⟩):=by
 have hsz:=hF.wh.2.2.2.2.2.2;have h10:=hF.wh.2.2.2.2.2.1;have hsum:((f.lets.map (·.code)).map List.length).sum≤300:=by
  unfold Zaw codesD at hsz;rw[Yap,Yay]at hsz;omega
 refine zat (T:=T) (k:=0) (id:=0) (g2:=.norm false [1,2,4,6,8]) (c:=l644_0) (fun i=>Zje f pars (Zau ((f.lets.map (·.code)).take i)).C (Zau ((f.lets.map (·.code)).take i)).P (Zau ((f.lets.map (·.code)).take i)).W i) f.lets.length _ (fun i hi=>?_) ?_
 ·obtain⟨x,hx,hmem⟩:∃x,f.lets[i]? = some x∧x∈f.lets:=⟨f.lets[i]'hi,Ya hi,Ys hi⟩;have hxc:(f.lets.map (·.code))[i]? = some x.code:=by rw[Yak,hx];rfl
  have htk:Zau ((f.lets.map (·.code)).take (i+1))=ltQ (Zau ((f.lets.map (·.code)).take i)) x.code:=by rw[Ybq,hxc,Yb8,zfg]
  obtain⟨h1,h2,h3⟩:=zed ((f.lets.map (·.code)).take i);have hs:=zhz (f.lets.map (·.code)) i;have hmk:=zvx ((f.lets.map (·.code)).take i);have hil:((f.lets.map (·.code)).take i).length=i:=by rw[Y0,Yat];omega
  obtain⟨t,ht,hte,hok⟩:=za6 (hF.lets i x hx);have hwr:Z7 x.code=-1:=by rw[←hte];exact zcc ht
  have hcl:=hF.len x.code (zj2 hmem);have hth:=(hn x.code (zj2 hmem)).2;rw[htk];generalize Zau ((f.lets.map (·.code)).take i)=q at *
  obtain⟨Cq,Wq,Pq⟩:=q;dsimp only at *
  obtain⟨_,gc,hgc,hc⟩:=zmw (T:=T) Cq Pq Wq x.code hmk hwr (fun y hy ho=>by
   have:=zk7 (hok y hy) ho;omega) hth (by omega) (by omega) (by omega)
  exact zhx f pars Cq _ Pq Wq _ i _ gc x hgc hx (by omega) (by omega) (by omega) hc
 ·rw[show f.lets.length=(f.lets.map (·.code)).length by simp,Ybm];unfold Zje;rw[show (f.lets.map (·.code)).length=f.lets.length by simp];generalize Zau (f.lets.map (·.code))=q;obtain⟨Cq,Wq,Pq⟩:=q;constructor<;>simp -implicitDefEqProofs[l644_0]
theorem zvz(f:Fd)(dim pars:Int)(hF:FineD f dim pars)(hn:Zcn 1000 50000 f) :
  Zp T 0 2 (.norm false [4,6,8,11]) l644_1 (Zjf f.outs.length f.outs pars (Zau (f.lets.map (·.code))).C (Zau (f.lets.map (·.code))).P (Zau (f.lets.map (·.code))).W [] 0) =
   some (.n,⟨[(4,.ptr (.loc 4) 1 4 0 0),(6,.ptr (.loc 6) 2 4 0 0),(8,.ptr mkB 3 4 0 0),(11,.ptr (.loc 11) 8 4 0 0)],
    [bx4 1,bx6 2]++Zkp 3 (Zaz f).C (Zau (f.lets.map (·.code))).P (Zaz f).W++[(.loc 11,⟨8,.str,4,[[.sl [] .an,.bs (.fld (.loc 11) 1) 9 1 0 (Zaz f).P.length,.i .i64 (f.outs.length:Int),.i .i64 pars]]⟩),(.fld (.loc 11) 1,⟨9,.own,1,Zbj (Zaz f).P⟩)],11⟩):=by
 have hsz:=hF.wh.2.2.2.2.2.2;have h10:=hF.wh.2.2.2.2.2.1;have hod:=hF.wh.2.2.2.2.1;have hd6:=hF.wh.2.1;have hsum:((f.lets.map (·.code)).map List.length).sum+(f.outs.map List.length).sum≤300:=by
  unfold Zaw codesD at hsz;rw[Yap,Yay]at hsz;omega
 obtain⟨l1,l2,l3⟩:=zed (f.lets.map (·.code));rw[Yat]at l1;have lmk:=zvx (f.lets.map (·.code));unfold Zaz;generalize Zau (f.lets.map (·.code))=q0 at *
 refine zat (T:=T) (k:=0) (id:=2) (g2:=.norm false [4,6,8,11]) (c:=l644_1) (fun i=>Zjf f.outs.length f.outs pars (Zc9 q0 (f.outs.take i)).C q0.P (Zc9 q0 (f.outs.take i)).W (Zc9 q0 (f.outs.take i)).P i) f.outs.length _ (fun i hi=>?_) ?_
 ·obtain⟨x,hx,hmem⟩:∃x,f.outs[i]? = some x∧x∈f.outs:=⟨f.outs[i]'hi,Ya hi,Ys hi⟩;have htk:Zc9 q0 (f.outs.take (i+1))=ouQ q0.P (Zc9 q0 (f.outs.take i)) x:=by rw[Ybq,hx,Yb8,zfh]
  obtain⟨h1,h2,h3⟩:=zqk q0 (f.outs.take i);have hs:=zhz f.outs i;have hmk:=z3c q0 (f.outs.take i) lmk;have hil:(f.outs.take i).length=i:=by rw[Y0];omega
  obtain⟨t,ht,hte,hok⟩:=za6 (hF.outs x hmem);have hwr:Z7 x=-1:=by rw[←hte];exact zcc ht
  have hcl:=hF.len x (zj3 hmem);have hth:=(hn x (zj3 hmem)).2;rw[htk];generalize Zc9 q0 (f.outs.take i)=q at *
  obtain⟨Cq,Wq,Pq⟩:=q;dsimp only at *
  obtain⟨_,gc,hgc,hc⟩:=zmw (T:=T) Cq q0.P Wq x hmk hwr (fun y hy ho=>by
   have:=zk7 (hok y hy) ho;omega) hth (by omega) (by omega) (by omega)
  exact zhy f.outs.length f.outs pars Cq _ q0.P Wq _ Pq i _ gc x hgc hx (by omega) (by omega) (by omega) hc
 ·rw[Ybm];unfold Zjf;generalize Zc9 q0 f.outs=q;obtain⟨Cq,Wq,Pq⟩:=q;obtain⟨C0,W0,P0⟩:=q0;constructor<;>simp -implicitDefEqProofs[l644_1]
end
def scW:Nat→List Nat→Option Nat
 | n,[]=>some n
 | n,p::r=>if n<p then none else scW (if p=n then n+1 else n) r
theorem zgu:∀(W:List Nat) (n p:Nat),scW n (W++[p])=(scW n W).bind fun m=>if m<p then none else some (if p=m then m+1 else m)
 | [],n,p=>rfl
 | q::W,n,p=>by
  show (if n<q then none else scW _ (W++[p]))=(if n<q then none else scW _ W).bind _;by_cases h:n<q
  ·rw[if_pos h,if_pos h];rfl
  ·rw[if_neg h,if_neg h,zgu W]
structure InvC (dim par:Int) (C:List Ins) (W:List Nat):Prop where
 nd:C.Nodup
 may:∀(k:Nat) (i:Ins),C[k]? = some i→Zbq dim par k i=true
 sc:scW 0 W=some C.length
theorem z0n{dim par:Int}{C:List Ins}{W:List Nat}(h:InvC dim par C W)(x:Ins)(hx:Zbq dim par C.length x=true):InvC dim par (Zb9 C x).1 (W++[(Zb9 C x).2]):=by
 unfold Zb9;cases hi:Zgd x 0 C with
 | some i=>
  have:=zk4 x C 0 i hi;refine⟨h.nd,h.may,?_⟩;rw[zgu,h.sc,Yac,if_neg (by dsimp only;omega),if_neg (by dsimp only;omega)]
 | none=>
  have hm:=znl x C 0 hi;refine⟨?_,fun k i hk=>?_,?_⟩
  ·show (C++[x]).Nodup;rw[List.nodup_append];refine⟨h.nd,by simp,fun a ha b hb=>?_⟩;rw[Yad]at hb;subst hb;exact fun e=>hm (e▸ha)
  ·replace hk:(C++[x])[k]? = some i:=hk;by_cases hkl:k<C.length
   ·rw[Yo hkl]at hk;exact h.may k i hk
   ·rw[Yh (by omega)]at hk;have hk0:k-C.length=0:=by
     obtain⟨h1,_⟩:=Ye.1 hk;simp only[Yaj]at h1;omega
    rw[hk0,Ybb,Option.some.injEq]at hk;subst hk;have:k=C.length:=by omega
    rw[this];exact hx
  ·show scW 0 (W++[C.length])=some (C++[x]).length;rw[zgu,h.sc,Yac,if_neg (by omega),if_pos rfl,Yq,Yaj]
theorem zde:Zhw blk=true:=rfl
theorem zxv{dim par:Int}{Ls:List Nat}{C:List Ins}{W s:List Nat}{x:Nd}(h:InvC dim par C W)(hL:∀l∈Ls,l<C.length)(hs:∀p∈s,p<C.length)(hok:okN dim par Ls.length x=true)(har:0≤arN x.op∧arN x.op≤s.length) :
  InvC dim par (ndI Ls C s x).1 (W++[(ndI Ls C s x).2])∧C.length≤(ndI Ls C s x).1.length∧(ndI Ls C s x).2<(ndI Ls C s x).1.length:=by
 have hget:∀(l:List Nat) (k:Nat),(∀p∈l,p<C.length)→k<l.length→(l[k]?).getD 0<C.length:=by
  intro l k hl hk;rw[Ya hk,Ybl];exact hl _ (Ys hk)
 unfold ndI;unfold okN at hok;by_cases h5:x.op=5
 ·rw[if_pos h5];simp only[h5,Zgf]at hok;have hi:0≤x.i∧x.i<Ls.length:=by
   revert hok;split<;>simp;omega
  have hp:=hget Ls x.i.toNat hL (by omega);refine⟨⟨h.nd,h.may,?_⟩,Yd _,hp⟩;rw[zgu,h.sc,Yac,if_neg (by dsimp only;omega),if_neg (by dsimp only;omega)]
 rw[if_neg h5];have fin:∀y,Zbq dim par C.length y=true→InvC dim par (Zb9 C y).1 (W++[(Zb9 C y).2])∧C.length≤(Zb9 C y).1.length∧(Zb9 C y).2<(Zb9 C y).1.length:=fun y hy=>
  ⟨z0n h y hy,(zfp C y).1,(zfp C y).2.2⟩
 rcases zay x.op with ⟨h0,ho⟩ | ⟨h0,ho⟩ | ⟨h0,ho⟩ | ⟨h0,ho⟩
 ·rw[if_pos h0];refine fin _ ?_;unfold Zdo;by_cases h1:x.op=1
  ·rw[if_pos h1];simp[Zbq,Zhv]
  ·rw[if_neg h1];rw[if_neg h1]at hok;by_cases h2:x.op=2
   ·rw[if_pos h2];simp[Zbq,zde,Z2]
   ·rw[if_neg h2];have h34:x.op=3∨x.op=4:=by omega
    rcases h34 with e | e
    ·have hb:Zw x.i dim=true:=by
      simp[e,Zgf]at hok;simp[Zw];omega
     simp[Zbq,zde,Z2,e,hb]
    ·have hb:Zw x.i par=true:=by
      simp[e,Zgf]at hok;simp[Zw];omega
     simp[Zbq,zde,Z2,e,hb]
 ·have h01:¬ arN x.op=0:=by omega
  rw[if_neg h01,if_pos h0];refine fin _ ?_;have hp:=hget s (s.length-1) hs (by omega);generalize (s[s.length-1]?).getD 0=p at *
  have hb:Zw (p:Int) (C.length:Int)=true:=by simp[Zw];omega
  rcases ho with e | e
  ·have hi:x.i=0:=by
    simp[e]at hok;exact hok.2
   simp[Zbq,zde,Z2,e,hb,hi]
  ·have hi:-8≤x.i∧x.i≤8:=by
    simp[e]at hok;omega
   simp[Zbq,zde,Z2,e,hb,hi]
 ·have h01:¬ arN x.op=0:=by omega
  have h02:¬ arN x.op=1:=by omega
  rw[if_neg h01,if_neg h02];refine fin _ ?_;have hp:=hget s (s.length-1) hs (by omega);have hq:=hget s (s.length-2) hs (by omega);generalize (s[s.length-1]?).getD 0=p at *
  generalize (s[s.length-2]?).getD 0=q at *
  have hb:Zw (p:Int) (C.length:Int)=true:=by simp[Zw];omega
  have hc:Zw (q:Int) (C.length:Int)=true:=by simp[Zw];omega
  have e:x.op=7∨x.op=8∨x.op=9∨x.op=10:=by omega
  rcases e with e | e | e | e<;>simp[Zbq,zde,Z2,e,hb,hc]
 ·omega
theorem znr{dim par:Int}{Ls:List Nat}:∀(c:List Nd) (q:Mq) (j:Nat),InvC dim par q.C q.W→(∀l∈Ls,l<q.C.length)→(∀p∈q.s,p<q.C.length)→(∀x∈c,okN dim par Ls.length x=true)→Zt j q.s.length c=-1 →
  InvC dim par (c.foldl (Zag Ls) q).C (c.foldl (Zag Ls) q).W∧q.C.length≤(c.foldl (Zag Ls) q).C.length∧(∀p∈(c.foldl (Zag Ls) q).s,p<(c.foldl (Zag Ls) q).C.length)∧(c.foldl (Zag Ls) q).s.length=1
 | [],q,j,h,hL,hs,hok,hw=>by
  refine⟨h,Yd _,hs,?_⟩;unfold Zt at hw;show q.s.length=1;by_cases h1:q.s.length=1
  ·exact h1
  ·exfalso;have:¬ (q.s.length:Int)=1:=by omega
   simp only[h1,this,if_false]at hw;omega
 | x::c,q,j,h,hL,hs,hok,hw=>by
  obtain⟨Cq,Wq,Sq⟩:=q;dsimp only at *
  have h1:¬ (arN x.op<0∨(Sq.length:Int)<arN x.op):=by
   intro hh;unfold Zt at hw;rw[if_pos hh]at hw;omega
  have hw2:Zt (j+1) (Sq.length+1-arN x.op) c=-1:=by
   unfold Zt at hw
   rwa [if_neg h1]at hw
  obtain⟨ar,har⟩:∃ar:Nat,arN x.op=(ar:Int):=⟨(arN x.op).toNat,by omega⟩;obtain⟨n1,n2,n3⟩:=zxv h hL hs (hok x Yp) ⟨by omega,by omega⟩;have hst:Zag Ls ⟨Cq,Wq,Sq⟩ x=⟨(ndI Ls Cq Sq x).1,Wq++[(ndI Ls Cq Sq x).2],Sq.take (Sq.length-ar)++[(ndI Ls Cq Sq x).2]⟩:=by
   unfold Zag;rw[har,Ya8]
  have hsl:(Sq.take (Sq.length-ar)++[(ndI Ls Cq Sq x).2]).length=Sq.length-ar+1:=by rw[Yq,Y0,Yaj];omega
  rw[Yax,hst];obtain⟨m1,m2,m3,m4⟩:=znr (dim:=dim) (par:=par) (Ls:=Ls) c ⟨(ndI Ls Cq Sq x).1,Wq++[(ndI Ls Cq Sq x).2],Sq.take (Sq.length-ar)++[(ndI Ls Cq Sq x).2]⟩ (j+1) n1
   (fun l hl=>Yl (hL l hl) n2)
   (fun p hp=>by
    rcases Yr.1 hp with hp | hp
    ·exact Yl (hs p (Ya3 hp)) n2
    ·rw[Yad]at hp;rw[hp];exact n3)
   (fun y hy=>hok y (Yj _ hy))
   (by
    dsimp only;rw[hsl,←hw2];congr 1;omega)
  exact⟨m1,Yc n2 m2,m3,m4⟩
theorem zk6{dim par:Int}{Ls:List Nat}{C:List Ins}{W:List Nat}(c:List Nd)(h:InvC dim par C W)(hL:∀l∈Ls,l<C.length)(hp:Za0 dim par Ls.length c<0) :
  InvC dim par (exQ Ls C W c).C (exQ Ls C W c).W∧C.length≤(exQ Ls C W c).C.length∧((exQ Ls C W c).s[0]?).getD 0<(exQ Ls C W c).C.length:=by
 obtain⟨t,ht,hte,hok⟩:=za6 hp;have hwr:Z7 c=-1:=by rw[←hte];exact zcc ht
 obtain⟨h1,h2,h3,h4⟩:=znr (dim:=dim) (par:=par) (Ls:=Ls) c ⟨C,W,[]⟩ 0 h hL (fun p hp=>by cases hp) hok hwr;refine⟨h1,h2,?_⟩;unfold exQ;rw[Ya (by omega),Ybl];exact h3 _ (Ys _)
structure InvF (dim par:Int) (q:Fq):Prop where
 inv:InvC dim par q.C q.W
 pl:∀p∈q.P,p<q.C.length
theorem zq8{dim par:Int}(L:List (List Nd))(h:∀(k:Nat) c,L[k]? = some c→Za0 dim par (k:Nat) c<0):InvF dim par (Zau L):=by
 induction L using zey with
 | nil=>exact⟨⟨Yec,(fun k i hk=>by cases hk),rfl⟩,fun p hp=>by cases hp⟩
 | append_singleton L c ih=>
  have h0:=ih fun k d hd=>h k d (by
   obtain⟨hk,_⟩:=Ye.1 hd;rw[Yo hk];exact hd)
  have hc:=h L.length c (by rw[Yh (Yd _),Ycf];rfl);rw[←(zed L).1]at hc;obtain⟨e1,e2,e3⟩:=zk6 c h0.inv h0.pl hc;rw[zfg];refine⟨e1,fun p hp=>?_⟩;rcases Yr.1 hp with hp | hp
  ·exact Yl (h0.pl p hp) e2
  ·rw[Yad]at hp;rw[hp];exact e3
theorem z0o{dim par:Int}(q:Fq)(O:List (List Nd))(h0:InvF dim par q)(h:∀c∈O,Za0 dim par q.P.length c<0):InvF dim par (Zc9 q O)∧q.C.length≤(Zc9 q O).C.length:=by
 induction O using zey with
 | nil=>exact⟨⟨h0.inv,fun p hp=>by cases hp⟩,Yd _⟩
 | append_singleton O c ih=>
  obtain⟨h1,h2⟩:=ih fun d hd=>h d (Y4 _ hd);obtain⟨e1,e2,e3⟩:=zk6 c h1.inv (fun p hp=>Yl (h0.pl p hp) h2) (h c (by simp));rw[zfh];refine⟨⟨e1,fun p hp=>?_⟩,Yc h2 e2⟩;rcases Yr.1 hp with hp | hp
  ·exact Yl (h1.pl p hp) e2
  ·rw[Yad]at hp;rw[hp];exact e3
theorem z0p{f:Fd}{dim par:Int}(hF:FineD f dim par):InvF dim par (Zaz f):=by
 have h0:=zq8 (dim:=dim) (par:=par) (f.lets.map (·.code)) fun k c hk=>by
  rw[Yak]at hk;obtain⟨x,hx,rfl⟩:=Yaa.1 hk;exact hF.lets k x hx
 refine(z0o _ f.outs h0 fun c hc=>?_).1;rw[(zed _).1,Yat];exact hF.outs c hc
theorem zq9{f:Fd}:(Zaz f).C.length≤Zaw f∧(Zaz f).W.length=Zaw f∧(Zaz f).P.length=f.outs.length:=by
 obtain⟨a1,a2,a3⟩:=zed (f.lets.map (·.code));obtain⟨b1,b2,b3⟩:=zqk (Zau (f.lets.map (·.code))) f.outs;unfold Zaz Zaw codesD;rw[Yap,Yay];exact⟨by omega,by omega,b1⟩
theorem z4i{f:Fd}{par:Int}(hF:FineD f f.outs.length par):okT (Zfk f par)=true:=by
 have hi:=z0p hF;obtain⟨l1,l2,l3⟩:=zq9 (f:=f);obtain⟨w1,w2,w3,w4,w5,w6,w7⟩:=hF.wh;rw[zgd];refine⟨w1,w2,w3,w4,?_,?_,hi.inv.may,fun o ho=>?_⟩
 ·show (((Zaz f).P.map _).length:Int)=_;rw[Yat,l3]
  rfl
 ·exact Yc l1 w7
 ·obtain⟨p,hp,rfl⟩:=Yz.1 ho;have:=hi.pl p hp;refine⟨by omega,?_⟩;show (p:Int)<((Zaz f).C.length:Int);omega
def Zbv(lim:Nat)(P:Po):Nat→List Rat→List (List Nd)→Nat×List Rat×Nat×Nat
 | n,ls,[]=>(n,ls,0,0)
 | n,ls,c::r=>if (Zv lim P ls n [] c).2.1≠0 then (n,ls,(Zv lim P ls n [] c).2.1,(Zv lim P ls n [] c).2.2) else Zbv lim P (n+c.length) (ls++[(Zv lim P ls n [] c).1]) r
def Zc4(lim:Nat)(P:Po)(ls:List Rat):Nat→List Rat→List (List Nd)→List Rat×Nat×Nat
 | _,os,[]=>(os,0,0)
 | n,os,c::r=>if (Zv lim P ls n [] c).2.1≠0 then ([],(Zv lim P ls n [] c).2.1,(Zv lim P ls n [] c).2.2) else Zc4 lim P ls (n+c.length) (os++[(Zv lim P ls n [] c).1]) r
def evD(lim:Nat)(P:Po)(f:Fd):List Rat×Nat×Nat:=
 if (Zbv lim P 0 [] (f.lets.map (·.code))).2.2.1≠0 then ([],(Zbv lim P 0 [] (f.lets.map (·.code))).2.2) else Zc4 lim P (Zbv lim P 0 [] (f.lets.map (·.code))).2.1 (Zbv lim P 0 [] (f.lets.map (·.code))).1 [] f.outs
def Zfz(t:Tp)(y p:Nat):Bool:=okT t&&decide ((y:Int)=t.dim)&&decide ((p:Int)=t.par)
def Zb0(lim:Nat)(t:Tp)(P:Po):List Rat×Nat×Nat:=if Zfz t P.y.length P.p.length=true then Zd lim P t.code [] else ([],2,0)
def Zci(t:Tp)(D:List Rat):List Rat:=t.outs.map (gI D)
def Zf0(lim:Nat)(t:Tp)(P:Po):List Rat×Nat×Nat:=if (Zb0 lim t P).2.1=0 then (Zci t (Zb0 lim t P).1,0,0) else ([],(Zb0 lim t P).2)
structure TpS (t:Tp):Prop where
 small:Small t
 ns:∀i∈t.code,fsz i.n≤1000
abbrev Zi4(k s g a:Int):AV:=.agg [.i .i64 k,.i .i64 s,.i .i64 g,.i .i64 a]
theorem zh9{t:Tp}{y p:Nat}(h:Zfz t y p=true):OkTp t∧(y:Int)=t.dim∧(p:Int)=t.par:=by
 grind[Zfz,zgd]
section
variable{T:Tbl}[Z5 T][Zo T][Zy T][Zz T][Zq T][Zu T][Zj T][Zn T][Zs T][Z6 T][Zan T][Zcl T][Zaa T][Zaf T][Zbc T][Za2 T][Zix T]
theorem z3z(t:Tp)(Q:PoF)(hs:TpS t)(s p L:Int)(h:Zfz t Q.y.length Q.p.length=false) :
  Z0 T 407 [.agg [.ptr (.bor 0) 0 3 0 0],etp t,ept Q] [(.bor 0,bxG 0 s p L)]=some (.tup [.sl [] .an,Zi4 2 0 0 0],[(.bor 0,bxG 0 s p L)]):=by
 have hr:=zeg (T:=T) t hs.small;unfold Zfz at h;rw[zal Za2.h407 rfl,b407];obtain⟨⟨q0,q1,q2⟩,qy,qp⟩:=Q;cases hok:okT t with
 | false=>
  rw[hok]at hr;simp -implicitDefEqProofs[hr]
 | true=>
  rw[hok]at hr h;obtain⟨code,outs,dim,par⟩:=t;by_cases h1:(qy.length:Int)=dim
  ·by_cases h2:(qp.length:Int)=par
   ·grind
   ·simp -implicitDefEqProofs[hr,h1,h2]
  ·simp -implicitDefEqProofs[hr,h1]
theorem zw4(t:Tp)(P:Po)(hs:TpS t)(lim:Nat)(hlim:lim≤4096)(s p:Int)(hP:PvS P 1000)(h:Zfz t P.y.length P.p.length=true)(hk:(Zd lim P t.code []).2.1=0) :
  ∃(s' p':Int) (kd:Kind),(kd=.own∨kd=.sh)∧Z0 T 407 [.agg [.ptr (.bor 0) 0 3 0 0],etp t,ept P.f] [(.bor 0,bxG 0 s p lim)] =
   some (.tup [.bs (.loc 8) 3 3 0 t.code.length,Zi4 0 0 0 0],[(.bor 0,bxG 0 s' p' lim),(.loc 8,⟨3,kd,3,Zf (fzs (Zd lim P t.code []).1)⟩)]):=by
 obtain⟨hok,h1,h2⟩:=zh9 h;have hr:=zeg (T:=T) t hs.small;have hl:=zqz (T:=T) P lim hlim t hok hs.ns h1 h2 hP s p;rw[(zgd t).2 hok]at hr;unfold Zdw at hl;rw[if_pos hk]at hl;unfold Zdn Zlf at hl;simp only[Yy,zdr]at hl;have hkd:∃kd:Kind,kdE .own t.code=kd∧(kd=.own∨kd=.sh):=by
  grind[kdE]
 obtain⟨kd,hkd1,hkd2⟩:=hkd;rw[hkd1]at hl;have hy:(fzs P.y).length=P.y.length:=zar _;have hp':(fzs P.p).length=P.p.length:=zar _;unfold Po.f at *
 generalize (Zg4 lim P t.code [] s p).1=s' at *
 generalize (Zg4 lim P t.code [] s p).2=p' at *
 obtain⟨code,outs,dim,par⟩:=t;rw[zal Za2.h407 rfl,b407];rcases hkd2 with rfl | rfl
 ·simp -implicitDefEqProofs[hr,h1,h2,hy,hp',hl]
 ·simp -implicitDefEqProofs[hr,h1,h2,hy,hp',hl]
theorem zw5(t:Tp)(P:Po)(hs:TpS t)(lim:Nat)(hlim:lim≤4096)(s p:Int)(hP:PvS P 1000)(h:Zfz t P.y.length P.p.length=true)(hk:¬ (Zd lim P t.code []).2.1=0) :
  ∃(s' p':Int),Z0 T 407 [.agg [.ptr (.bor 0) 0 3 0 0],etp t,ept P.f] [(.bor 0,bxG 0 s p lim)] =
   some (.tup [.sl [] .an,Zi4 (Zd lim P t.code []).2.1 0 0 (Zd lim P t.code []).2.2],[(.bor 0,bxG 0 s' p' lim)]):=by
 obtain⟨hok,h1,h2⟩:=zh9 h;have hr:=zeg (T:=T) t hs.small;have hl:=zqz (T:=T) P lim hlim t hok hs.ns h1 h2 hP s p;rw[(zgd t).2 hok]at hr;unfold Zdw at hl;rw[if_neg hk]at hl;unfold Zdn Zin at hl;simp only[Yy,zdr]at hl;have hy:(fzs P.y).length=P.y.length:=zar _;have hp':(fzs P.p).length=P.p.length:=zar _;unfold Po.f at *
 generalize (Zg4 lim P t.code [] s p).1=s' at *
 generalize (Zg4 lim P t.code [] s p).2=p' at *
 obtain⟨code,outs,dim,par⟩:=t;rw[zal Za2.h407 rfl,b407];simp -implicitDefEqProofs[hr,h1,h2,hy,hp',hl]
theorem zaig{x:PoF}(h:PoS x 1000):PvS x.v 1000:=by
 refine⟨zgk h.t (by decide),fun q hq=>?_,fun q hq=>?_⟩
 ·obtain⟨u,hu,rfl⟩:=Yz.1 hq;exact zgk (h.y u hu) (by decide)
 ·obtain⟨u,hu,rfl⟩:=Yz.1 hq;exact zgk (h.p u hu) (by decide)
def Zb1(n:Int):Nat:=(Zcc n).toNat
theorem zw6(n:Int):Zcc n=(Zb1 n:Int)∧Zb1 n≤4096:=by
 grind[Zb1,Zcc]
theorem zky(t:Tp)(x:PoF)(bits:Int)(hs:TpS t)(hx:PoS x 1000) :
  Za T 384 [etp t,ept x,.i .i64 bits]=some (.tup [.sl (Zf (fzs (Zb0 (Zb1 bits) t x.v).1)) .an,Zi4 (Zb0 (Zb1 bits) t x.v).2.1 0 0 (Zb0 (Zb1 bits) t x.v).2.2]):=by
 have hn:=zfk (T:=T) x hx;have hg:=zfj (T:=T) bits;obtain⟨hl1,hl2⟩:=zw6 bits;rw[hl1]at hg;have hP:=zaig hx;have hlen:x.v.f.y.length=x.v.y.length∧x.v.f.p.length=x.v.p.length:=⟨zar _,zar _⟩;unfold Zb0;cases hf:Zfz t x.v.y.length x.v.p.length with
 | false=>
  have hm:=z3z (T:=T) t x.v.f hs 0 0 (Zb1 bits) (by grind);simp only[Y8,if_false];have e0:fzs []=[]:=rfl;rw[e0,zab Za2.h384 rfl,b384];generalize x.v.f=Q at *
  obtain⟨⟨q0,q1,q2⟩,qy,qp⟩:=Q;simp -implicitDefEqProofs[hn,hg,hm]
 | true=>
  simp only[if_true];by_cases hk:(Zd (Zb1 bits) x.v t.code []).2.1=0
  ·obtain⟨s',p',kd,hkd,hm⟩:=zw4 (T:=T) t x.v hs (Zb1 bits) hl2 0 0 hP hf hk;have e2:=(ze0 _ _ _ _ hk).1;have el:(Zd (Zb1 bits) x.v t.code []).1.length=t.code.length:=by
    grind[ze0]
   rw[hk,e2];have hfl:(fzs (Zd (Zb1 bits) x.v t.code []).1).length=t.code.length:=by simp_all
   generalize fzs (Zd (Zb1 bits) x.v t.code []).1=D at *
   have ht:List.take t.code.length D=D:=Yb (by omega);rw[zab Za2.h384 rfl,b384];generalize x.v.f=Q at *
   obtain⟨⟨q0,q1,q2⟩,qy,qp⟩:=Q;rcases hkd with rfl | rfl
   ·simp -implicitDefEqProofs[hn,hg,hm,hfl,ht]
   ·simp -implicitDefEqProofs[hn,hg,hm,hfl,ht]
  ·obtain⟨s',p',hm⟩:=zw5 (T:=T) t x.v hs (Zb1 bits) hl2 0 0 hP hf hk;have e1:=(zx5 _ _ _ _ hk).1;have e0:fzs []=[]:=rfl;rw[e1,e0];rw[zab Za2.h384 rfl,b384];generalize x.v.f=Q at *
   obtain⟨⟨q0,q1,q2⟩,qy,qp⟩:=Q;simp -implicitDefEqProofs[hn,hg,hm]
def Zky(D:List Fz)(outs:List Int)(E:List Fz)(i:Nat)(kd:Kind):St:=
 ⟨[(1,.sl (Zf D) .an),(5,.bs (.loc 5) 1 3 0 i),(20,.sl (ints outs) .an),(21,.i .i64 outs.length),(22,.i .i64 i)],[(.loc 5,⟨1,.own,3,Zf (E.take i)⟩)],3⟩
theorem zz2(t:Tp)(D:List Rat)(hs:TpS t)(hok:okT t=true)(hl:D.length=t.code.length)(hD:∀q∈D,sz q≤1000) :
  Za T 409 [etp t,.sl (Zf (fzs D)) .an]=some (.sl (Zf (fzs (Zci t D))) .an):=by
 have hr:=zeg (T:=T) t hs.small;rw[hok]at hr;have hO:=(zgd t).1 hok;have hcl:=hO.cl;have hol:t.outs.length≤6:=by have:=hO.ol;have:=hO.d2;omega
 have hel:(Zci t D).length=t.outs.length:=by simp[Zci]
 have hloop:Zp T 0 0 (.norm false [5]) l409_0 (Zky (fzs D) t.outs (fzs (Zci t D)) 0 .own)=some (.n,⟨[(5,.bs (.loc 5) 1 3 0 t.outs.length)],[(.loc 5,⟨1,.own,3,Zf (fzs (Zci t D))⟩)],3⟩):=by
  refine zat (fun i=>Zky (fzs D) t.outs (fzs (Zci t D)) i .own) t.outs.length _ (fun i hi=>?_) ?_
  ·have hg:t.outs[i]? = some (t.outs[i]'hi):=Ya hi;have hge:=(Ye.1 hg).2;have hws:=zbj hi (by omega);have hmem:=Ys hi;obtain⟨o1,o2⟩:=hO.outs _ hmem;obtain⟨k,hk1,hk2,hk3,hka⟩:=zjt (D:=D) (a:=t.outs[i]'hi) ⟨o1,by omega⟩;have hkae:=(Ye.1 hka).2;have sa:fsz (fz (gI D (t.outs[i]'hi)))≤1000:=zh7 (by decide) hD;have cn:=zc1 (T:=T) (fz (gI D (t.outs[i]'hi))) (by omega);rw[zpg]at cn;have hx:(fzs (Zci t D))[i]? = some (fz (gI D (t.outs[i]'hi))):=zkx (by simp[Zci,hg]);have e:(fzs (Zci t D)).take (i+1)=(fzs (Zci t D)).take i++[fz (gI D (t.outs[i]'hi))]:=by
    rw[Ybq,hx]
    rfl
   have hml:((fzs (Zci t D)).take i).length=i:=by grind
   have hp:=zh6 (m:=(fzs (Zci t D)).take i) hml (fz (gI D (t.outs[i]'hi)));have hfl:(fzs D).length=D.length:=zar D;have hi':(i:Int)<t.outs.length:=by omega
   have hb:i≤4294967295:=by omega
   unfold Zky;rw[e];generalize t.outs[i]'hi=o at *
   subst hk1;simp -implicitDefEqProofs[l409_0,hi,hi',hge,hws,hk2,hk3,hkae,hfl,cn,hp,hml,hb]
  ·have e:(fzs (Zci t D)).take t.outs.length=fzs (Zci t D):=Yb (by simp_all);unfold Zky;rw[e];constructor<;>simp -implicitDefEqProofs[l409_0]
 unfold Zky at hloop;simp only[Yy,Yct,zdr]at hloop;have hfl:(fzs D).length=t.code.length:=by simp_all
 have hfo:(fzs (Zci t D)).length=t.outs.length:=by simp_all
 generalize fzs (Zci t D)=M at *
 have ht:List.take t.outs.length M=M:=Yb (by omega);obtain⟨code,outs,dim,par⟩:=t;rw[zab Za2.h409 rfl,b409];simp -implicitDefEqProofs[hr,hfl,hloop,hfo,ht]
theorem zo9{lim:Nat}{P:Po}(hlim:lim≤4096):∀(l:List Ins) (D:List Rat),(∀q∈D,sz q≤129)→∀q∈(Zd lim P l D).1,sz q≤129
 | [],D,h=>h
 | i::r,D,h=>by
  rw[zbs];split
  ·simp
  ·split
   ·simp
   ·refine zo9 hlim r _ fun q hq=>?_;rcases Yr.1 hq with hq | hq
    ·exact h q hq
    ·rw[Yad.1 hq];have:=zo8 (q:=(Zr P D i).1) (b:=lim) (by omega);omega
theorem znd(t:Tp)(x:PoF)(bits:Int)(hs:TpS t)(hx:PoS x 1000) :
  Za T 389 [etp t,ept x,.i .i64 bits]=some (.tup [.sl (Zf (fzs (Zf0 (Zb1 bits) t x.v).1)) .an,Zi4 (Zf0 (Zb1 bits) t x.v).2.1 0 0 (Zf0 (Zb1 bits) t x.v).2.2]):=by
 have h:=zky (T:=T) t x bits hs hx;have hlim:=(zw6 bits).2;have e0:fzs []=[]:=rfl;unfold Zf0;by_cases hk:(Zb0 (Zb1 bits) t x.v).2.1=0
 ·rw[if_pos hk];have hf:Zfz t x.v.y.length x.v.p.length=true:=by
   grind[Zb0]
  have e1:Zb0 (Zb1 bits) t x.v=Zd (Zb1 bits) x.v t.code []:=by unfold Zb0;grind
  rw[e1]at h hk ⊢;have e2:=(ze0 _ _ _ _ hk).1;have el:(Zd (Zb1 bits) x.v t.code []).1.length=t.code.length:=by
   grind[ze0]
  have ho:=zz2 (T:=T) t (Zd (Zb1 bits) x.v t.code []).1 hs ((zgd t).2 (zh9 hf).1) el (fun q hq=>Yc (zo9 hlim _ _ (by simp) q hq) (by decide));rw[hk,e2]at h;rw[zab Za2.h389 rfl,b389];simp -implicitDefEqProofs[h,ho]
 ·rw[if_neg hk,e0];have hk':¬ (((Zb0 (Zb1 bits) t x.v).2.1:Nat):Int)=0:=by omega
  generalize (((Zb0 (Zb1 bits) t x.v).2.1:Nat):Int)=kk at *
  rw[zab Za2.h389 rfl,b389];simp -implicitDefEqProofs[h,hk']
end
def bmp(l:List Rat)(i:Int)(x:Rat):List Rat:=l.set i.toNat (gI l i+x)
def Zlu(D:List Rat)(x:Ins)(r:Rat):Rat:=if 0<x.b then Zh0 (gI D x.a) (x.b-1) else if x.b<0 then r/gI D x.a else 0
def Zmr(D:List Rat)(x:Ins)(r c:Rat)(co:List Rat):List Rat:=
 if x.op=6 then bmp co x.a (-c)
 else if x.op=7 then bmp (bmp co x.a c) x.b c
 else if x.op=8 then bmp (bmp co x.a c) x.b (-c)
 else if x.op=9 then bmp (bmp co x.a (c*gI D x.b)) x.b (c*gI D x.a)
 else if x.op=10 then bmp (bmp co x.a (c/gI D x.b)) x.b (-(c/gI D x.b*r))
 else if x.op=11 then bmp co x.a (c*(x.b*Zlu D x r))
 else co
def Zms(x:Ins)(c:Rat)(g:Po):Po:=
 if x.op=2 then ⟨g.t+c,g.y,g.p⟩ else if x.op=3 then ⟨g.t,bmp g.y x.a c,g.p⟩ else if x.op=4 then ⟨g.t,g.y,bmp g.p x.a c⟩ else g
def Zlv(lim:Nat)(code:List Ins)(D:List Rat):Nat→List Rat→Po→(List Rat×Po)×Option Nat
 | 0,co,g=>((co,g),none)
 | n+1,co,g=>
  match code[n]? with
  | none=>((co,g),none)
  | some x=>if lim<Zck (gI co n) then ((co,g),some n) else Zlv lim code D n (Zmr D x (gI D n) (gI co n) co) (Zms x (gI co n) g)
def Zmt(code:List Ins)(D:List Rat):Nat→List Rat→Po→List Rat×Po
 | 0,co,g=>(co,g)
 | n+1,co,g=>
  match code[n]? with
  | none=>(co,g)
  | some x=>Zmt code D n (Zmr D x (gI D n) (gI co n) co) (Zms x (gI co n) g)
def Zlw:List Int→List Rat→List Rat→List Rat
 | o::os,w::ws,co=>Zlw os ws (bmp co o w)
 | _,_,co=>co
def Zk2(lim:Nat):List Rat→Nat→Option Nat
 | [],_=>none
 | q::l,k=>if lim<Zck q then some k else Zk2 lim l (k+1)
def Zi6(d p:Nat):Po:=⟨0,List.replicate d 0,List.replicate p 0⟩
def Znw(g:Po):List Rat:=g.t::(g.y++g.p)
def Zo3(lim:Nat)(t:Tp)(P:Po)(w:List Rat):Po×Nat×Nat×Nat:=
 if w.length≠t.outs.length then (Zi6 0 0,2,0,0)
 else if (Zb0 lim t P).2.1≠0 then (Zi6 0 0,(Zb0 lim t P).2.1,0,(Zb0 lim t P).2.2)
 else
  match Zlv lim t.code (Zb0 lim t P).1 t.code.length (Zlw t.outs w (List.replicate t.code.length 0)) (Zi6 t.dim.toNat t.par.toNat) with
  | (_,some i)=>(Zi6 0 0,6,2,i)
  | (s,none)=>match Zk2 lim (Znw s.2) 0 with | some k=>(Zi6 0 0,6,3,k) | none=>(s.2,0,0,0)
def Zlx(l m:List Rat):List Rat:=List.zipWith (· + ·) l m
def Zo4(g h:Po):Po:=⟨g.t+h.t,Zlx g.y h.y,Zlx g.p h.p⟩
def Zjn(B:Po)(V S:List Rat)(x:Ins)(v:Rat):Rat:=
 if x.op=1 then 0
 else if x.op=3 then gI B.y x.a
 else if x.op=4 then gI B.p x.a
 else if x.op=6 then -gI S x.a
 else if x.op=7 then gI S x.a+gI S x.b
 else if x.op=8 then gI S x.a-gI S x.b
 else if x.op=9 then gI S x.a*gI V x.b+gI V x.a*gI S x.b
 else if x.op=10 then (gI S x.a-v*gI S x.b)/gI V x.b
 else if x.op=11 then x.b*Zlu V x v*gI S x.a
 else B.t
def Zn4(lim:Nat)(P B:Po):List Ins→List Rat→List Rat→List Rat×List Rat×Nat×Nat×Nat
 | [],V,S=>(V,S,0,0,0)
 | i::r,V,S=>
  if (Zr P V i).2=false then ([],[],3,0,V.length)
  else if lim<Zck (Zr P V i).1 then ([],[],6,0,V.length)
  else if lim<Zck (Zjn B V S i (Zr P V i).1) then ([],[],6,1,V.length)
  else Zn4 lim P B r (V++[(Zr P V i).1]) (S++[Zjn B V S i (Zr P V i).1])
def Zlh(B:Po)(V:List Rat):List Ins→List Rat→List Rat
 | [],S=>S
 | i::r,S=>Zlh B V r (S++[Zjn B V S i (gI V S.length)])
theorem zxw{A C:List Rat}{i:Int}(h0:0≤i)(h:i<A.length):gI (A++C) i=gI A i:=by
 unfold gI;rw[Ya2,Ya2,Yo (by omega)]
theorem z91{dim par:Int}{p:Nat}{x:Ins}(hm:Zbq dim par p x=true){A C:List Rat}(hA:A.length=p) :
  ((x.op=6∨x.op=11∨(7≤x.op∧x.op≤10))→gI (A++C) x.a=gI A x.a)∧((7≤x.op∧x.op≤10)→gI (A++C) x.b=gI A x.b):=
 ⟨fun h=>by have:=z94 hm h;exact zxw this.1 (by omega),fun h=>by have:=z95 hm h;exact zxw this.1 (by omega)⟩
theorem z0q{dim par:Int}{p:Nat}{x:Ins}(hm:Zbq dim par p x=true)(P:Po){A C:List Rat}(hA:A.length=p):Zr P (A++C) x=Zr P A x:=by
 obtain⟨ga,gb⟩:=z91 hm hA (C:=C);rcases zx4 hm with h | h | h | h | h | h | h | h | h | h
 ·simp[Zr,h]
 ·simp[Zr,h]
 ·simp[Zr,h]
 ·simp[Zr,h]
 ·simp[Zr,h,ga (by omega)]
 ·simp[Zr,h,ga (by omega),gb (by omega)]
 ·simp[Zr,h,ga (by omega),gb (by omega)]
 ·simp[Zr,h,ga (by omega),gb (by omega)]
 ·simp[Zr,h,ga (by omega),gb (by omega)]
 ·simp[Zr,h,ga (by omega)]
theorem z4j(A:List Rat)(x:Rat):gI (A++[x]) (A.length:Nat)=x:=by
 unfold gI;rw[Ya2,Ya8,Yh (Yd _),Ycf]
 rfl
def sumT(S:List Rat):Nat→List Rat→Rat
 | 0,_=>0
 | n+1,co=>sumT S n co+gI co n*gI S n
def dotW:List Rat→List Rat→Rat
 | a::l,b::m=>a*b+dotW l m
 | _,_=>0
def meet(g B:Po):Rat:=g.t*B.t+(dotW g.y B.y+dotW g.p B.p)
abbrev plV(D:List Rat)(p:Nat):Rat:=gI D (p:Int)
theorem zxx{D:List Rat}{p:Nat}{v:Rat}(h:D[p]? = some v):plV D p=v:=by
 show gI D (p:Int)=v;unfold gI;rw[Ya8,Ya2,h]
 rfl
theorem z4k{D E:List Rat}{p:Nat}(h:p<D.length):plV (D++E) p=plV D p:=zxw (by omega) (by omega)
theorem zil{D E:List Rat}{L:List Nat}(h:∀l∈L,l<D.length):L.map (plV (D++E))=L.map (plV D):=List.map_congr_left fun l hl=>z4k (h l hl)
theorem zk8{lim:Nat}{P:Po}:∀(l:List Ins) (D:List Rat),(Zd lim P l D).2.1=0→∀(k:Nat) (y:Ins),l[k]? = some y →
  ∃A v E,(Zd lim P l D).1=A++v::E∧A.length=D.length+k∧Zr P A y=(v,true)∧Zck v≤lim
 | [],D,_,k,y,hk=>by cases hk
 | i::r,D,h,k,y,hk=>by
  rw[zbs]at h ⊢;by_cases h1:(Zr P D i).2=false
  ·rw[if_pos h1]at h;exact absurd h (by simp)
  ·rw[if_neg h1]at h ⊢;by_cases h2:lim<Zck (Zr P D i).1
   ·rw[if_pos h2]at h;exact absurd h (by simp)
   ·rw[if_neg h2]at h ⊢;cases k with
    | zero=>
     obtain⟨_,E,e2,_⟩:=ze0 lim P r _ h;rw[Ybb,Option.some.injEq]at hk;subst hk;refine⟨D,(Zr P D i).1,E,?_,rfl,Prod.ext rfl (by simpa using h1),by omega⟩;rw[e2];simp
    | succ k=>
     rw[Ya1]at hk;obtain⟨A,v,E,a1,a2,a3,a4⟩:=zk8 r _ h k y hk;refine⟨A,v,E,a1,?_,a3,a4⟩;rw[a2,Yq,Yaj];omega
theorem zft{lim:Nat}{P:Po}{C:List Ins}(h:(Zd lim P C []).2.1=0):(Zd lim P C []).1.length=C.length:=by
 obtain⟨_,E,e2,e3⟩:=ze0 lim P C [] h;rw[e2,Ybt,e3]
theorem z4l{lim:Nat}{P:Po}{dim par:Int}{C:List Ins}(hm:∀(k:Nat) (i:Ins),C[k]? = some i→Zbq dim par k i=true)(hr:(Zd lim P C []).2.1=0)(y:Ins)(n:Nat) :
  ((Zbd lim (Zr P (Zd lim P C []).1 y) n).2.1=0→(Zd lim P (Zb9 C y).1 []).2.1=0∧plV (Zd lim P (Zb9 C y).1 []).1 (Zb9 C y).2=(Zr P (Zd lim P C []).1 y).1∧∃E,(Zd lim P (Zb9 C y).1 []).1=(Zd lim P C []).1++E) ∧
  ((Zbd lim (Zr P (Zd lim P C []).1 y) n).2.1≠0→Zd lim P (Zb9 C y).1 []=([],(Zbd lim (Zr P (Zd lim P C []).1 y) n).2.1,(Zb9 C y).2)):=by
 have hl:=zft hr;unfold Zb9;cases hi:Zgd y 0 C with
 | some i=>
  obtain⟨_,h2,h3⟩:=zk4 y C 0 i hi;rw[Nat.sub_zero]at h3;obtain⟨A,v,E,a1,a2,a3,a4⟩:=zk8 C [] hr i y h3;rw[Yas,Yan]at a2;have hv:Zr P (Zd lim P C []).1 y=(v,true):=by rw[a1,z0q (hm i y h3) P a2,a3]
  have hf:Zbd lim (Zr P (Zd lim P C []).1 y) n=(v,0,0):=by
   rw[hv];unfold Zbd;rw[if_neg (by simp),if_neg (by dsimp only;omega)]
  rw[hf];refine⟨fun _=>⟨hr,?_,[],by simp⟩,fun h=>absurd rfl h⟩;rw[hv];refine zxx ?_;rw[a1,Yh (by dsimp only;omega),a2];simp
 | none=>
  dsimp only;have ha:=zez lim P C [y] [];rw[if_pos hr,zbs]at ha;rw[ha];generalize (Zd lim P C []).1=D at *
  unfold Zbd;by_cases h1:(Zr P D y).2=false
  ·rw[if_pos h1,if_pos h1];exact⟨fun h=>absurd h (by simp),fun _=>by rw[hl]⟩
  ·rw[if_neg h1,if_neg h1];by_cases h2:lim<Zck (Zr P D y).1
   ·rw[if_pos h2,if_pos h2];exact⟨fun h=>absurd h (by simp),fun _=>by rw[hl]⟩
   ·rw[if_neg h2,if_neg h2];refine⟨fun _=>⟨rfl,?_,[_],rfl⟩,fun h=>absurd rfl h⟩;show plV (D++[(Zr P D y).1]) C.length=_;rw[←hl];exact z4j D _
theorem z92{lim:Nat}{P:Po}{dim par:Int}{Ls:List Nat}{C:List Ins}{W s:List Nat}{x:Nd}(h:InvC dim par C W)(hL:∀l∈Ls,l<C.length)(hs:∀p∈s,p<C.length)(hok:okN dim par Ls.length x=true)(har:0≤arN x.op∧arN x.op≤s.length)(hr:(Zd lim P C []).2.1=0)(n:Nat) :
  ((Zbd lim (Zam P (Ls.map (plV (Zd lim P C []).1)) (s.reverse.map (plV (Zd lim P C []).1)) x).1 n).2.1=0 →
   (Zd lim P (ndI Ls C s x).1 []).2.1=0∧plV (Zd lim P (ndI Ls C s x).1 []).1 (ndI Ls C s x).2=(Zam P (Ls.map (plV (Zd lim P C []).1)) (s.reverse.map (plV (Zd lim P C []).1)) x).1.1∧∃E,(Zd lim P (ndI Ls C s x).1 []).1=(Zd lim P C []).1++E) ∧
  ((Zbd lim (Zam P (Ls.map (plV (Zd lim P C []).1)) (s.reverse.map (plV (Zd lim P C []).1)) x).1 n).2.1≠0 →
   Zd lim P (ndI Ls C s x).1 []=([],(Zbd lim (Zam P (Ls.map (plV (Zd lim P C []).1)) (s.reverse.map (plV (Zd lim P C []).1)) x).1 n).2.1,(ndI Ls C s x).2)):=by
 have hl:=zft hr;by_cases h5:x.op=5
 ·have e1:ndI Ls C s x=(C,(Ls[x.i.toNat]?).getD 0):=by unfold ndI;rw[if_pos h5]
  have hi:0≤x.i∧x.i<Ls.length:=by
   unfold okN at hok;simp only[h5,Zgf]at hok;revert hok;split<;>simp;omega
  have hlt:x.i.toNat<Ls.length:=by omega
  have hmem:=hL _ (Ys hlt);have e2:(Zam P (Ls.map (plV (Zd lim P C []).1)) (s.reverse.map (plV (Zd lim P C []).1)) x).1=(plV (Zd lim P C []).1 (Ls[x.i.toNat]'hlt),true):=by
   unfold Zam;rw[h5,if_pos (by decide)];unfold Zcj;rw[h5,if_neg (by decide),if_neg (by decide),if_neg (by decide),if_pos rfl];refine Prod.ext ?_ rfl;show gI (Ls.map (plV (Zd lim P C []).1)) x.i=_;unfold gI;rw[Ya2,Yak,Ya hlt]
   rfl
  rw[e1,e2,Ya hlt,Ybl];generalize Ls[x.i.toNat]'hlt=p at *
  obtain⟨A,v,E,a1,a2,a3,a4⟩:=zk8 C [] hr p _ (Ya hmem);rw[Yas,Yan]at a2;have hv:plV (Zd lim P C []).1 p=v:=zxx (by
   rw[a1,Yh (by omega),a2];simp)
  have hf:Zbd lim (plV (Zd lim P C []).1 p,true) n=(v,0,0):=by
   rw[hv];unfold Zbd;rw[if_neg (by simp),if_neg (by dsimp only;omega)]
  rw[hf];exact⟨fun _=>⟨hr,rfl,[],by simp⟩,fun h=>absurd rfl h⟩
 ·-- an instruction is put
  have hget:∀k,1≤k→k≤s.length→((s.reverse.map (plV (Zd lim P C []).1)).drop (k-1)).headD 0=plV (Zd lim P C []).1 ((s[s.length-k]?).getD 0):=fun k k1 k2=>by
   have:s.length-k<s.length:=by omega
   rw[List.headD_eq_head?_getD,List.head?_drop,Yak,List.getElem?_reverse (by omega),Ya (show s.length-1-(k-1)<s.length by omega),Ya this];have:s.length-1-(k-1)=s.length-k:=by omega
   simp only[this,Yb0,Ybl]
  have key:∃y,ndI Ls C s x=Zb9 C y∧Zr P (Zd lim P C []).1 y=(Zam P (Ls.map (plV (Zd lim P C []).1)) (s.reverse.map (plV (Zd lim P C []).1)) x).1:=by
   unfold ndI;rw[if_neg h5];unfold Zam;rcases zay x.op with ⟨h0,ho⟩ | ⟨h0,ho⟩ | ⟨h0,ho⟩ | ⟨h0,ho⟩
   ·rw[if_pos h0,if_pos h0];refine⟨_,rfl,?_⟩;unfold Zdo Zcj;by_cases h1:x.op=1
    ·rw[if_pos h1,if_pos h1];simp[Zr]
    ·rw[if_neg h1,if_neg h1];by_cases h2:x.op=2
     ·rw[if_pos h2];simp[Zr,h2]
     ·rw[if_neg h2];have h34:x.op=3∨x.op=4:=by omega
      rcases h34 with e | e<;>simp[Zr,e]
   ·have h01:¬ arN x.op=0:=by omega
    have g1:=hget 1 (by omega) (by omega);rw[Ycf,Ybp]at g1;rw[if_neg h01,if_neg h01,if_pos h0,if_pos h0];refine⟨_,rfl,?_⟩;dsimp only;rw[g1];generalize (s[s.length-1]?).getD 0=p at *
    unfold unV;rcases ho with e | e
    ·simp[Zr,e]
    ·have hi:-8≤x.i∧x.i≤8:=by
      unfold okN at hok;simp[e]at hok;omega
     unfold Zfa;by_cases hz:x.i<0∧plV (Zd lim P C []).1 p=0
     ·rw[e,if_neg (by decide),if_neg (fun hh=>hh.2.2 hz)];simp[Zr,hz]
     ·rw[e,if_neg (by decide),if_pos ⟨hi.1,hi.2,hz⟩];simp only[Zr];rw[if_neg (by decide),if_neg (by decide),if_neg (by decide),if_neg (by decide),if_neg (by decide),if_neg (by decide),if_neg (by decide),if_neg (by decide),if_pos trivial,if_neg hz]
   ·have h01:¬ arN x.op=0:=by omega
    have h02:¬ arN x.op=1:=by omega
    have g1:=hget 1 (by omega) (by omega);have g2:=hget 2 (by omega) (by omega);rw[Ycf,Ybp]at g1;rw[show 2-1=1 from rfl,Ydv]at g2;rw[if_neg h01,if_neg h01,if_neg h02,if_neg h02];refine⟨_,rfl,?_⟩;dsimp only;rw[g1,g2];generalize (s[s.length-1]?).getD 0=p at *
    generalize (s[s.length-2]?).getD 0=q at *
    have e:x.op=7∨x.op=8∨x.op=9∨x.op=10:=by omega
    rcases e with e | e | e | e<;>simp[Zr,biV,e]
   ·omega
  obtain⟨y,e1,e2⟩:=key;rw[e1,←e2];exact z4l h.may hr y n
def StQ(lim:Nat)(P:Po)(C:List Ins)(W:List Nat)(k n:Nat):Prop:=k≠0∧∃p,W[n]? = some p∧Zd lim P C []=([],k,p)
theorem StQ.ext{lim:Nat}{P:Po}{C:List Ins}{W:List Nat}{k n:Nat}(h:StQ lim P C W k n)(E:List Ins)(F:List Nat):StQ lim P (C++E) (W++F) k n:=by
 obtain⟨h0,p,h1,h2⟩:=h;refine⟨h0,p,?_,?_⟩
 ·obtain⟨hl,_⟩:=Ye.1 h1;rw[Yo hl];exact h1
 ·rw[zez,h2,if_neg h0]
theorem zk9(C:List Ins)(x:Ins):∃E,(Zb9 C x).1=C++E:=by
 unfold Zb9;split
 ·exact⟨[],by simp⟩
 ·exact⟨[x],rfl⟩
theorem z4m(Ls:List Nat)(C:List Ins)(s:List Nat)(x:Nd):∃E,(ndI Ls C s x).1=C++E:=by
 unfold ndI;split
 ·exact⟨[],by simp⟩
 ·split
  ·exact zk9 C _
  ·split
   ·exact zk9 C _
   ·exact zk9 C _
theorem zla{Ls:List Nat}:∀(c:List Nd) (q:Mq),∃E F,(c.foldl (Zag Ls) q).C=q.C++E∧(c.foldl (Zag Ls) q).W=q.W++F
 | [],q=>⟨[],[],by simp,by simp⟩
 | x::c,q=>by
  obtain⟨E,F,h1,h2⟩:=zla c (Zag Ls q x);obtain⟨E0,h0⟩:=z4m Ls q.C q.s x;refine⟨E0++E,[(ndI Ls q.C q.s x).2]++F,?_,?_⟩
  ·rw[Yax,h1];show (ndI Ls q.C q.s x).1++E=_;rw[h0,Y5]
  ·rw[Yax,h2];show (q.W++[_])++F=_;rw[Y5]
theorem zra{lim:Nat}{P:Po}{dim par:Int}{Ls:List Nat}:∀(c:List Nd) (q:Mq) (j:Nat),InvC dim par q.C q.W→(∀l∈Ls,l<q.C.length)→(∀p∈q.s,p<q.C.length)→(∀x∈c,okN dim par Ls.length x=true)→Zt j q.s.length c=-1→(Zd lim P q.C []).2.1=0 →
  ((Zv lim P (Ls.map (plV (Zd lim P q.C []).1)) q.W.length (q.s.reverse.map (plV (Zd lim P q.C []).1)) c).2.1=0→(Zd lim P (c.foldl (Zag Ls) q).C []).2.1=0∧(∃E,(Zd lim P (c.foldl (Zag Ls) q).C []).1=(Zd lim P q.C []).1++E) ∧
   plV (Zd lim P (c.foldl (Zag Ls) q).C []).1 (((c.foldl (Zag Ls) q).s[0]?).getD 0)=(Zv lim P (Ls.map (plV (Zd lim P q.C []).1)) q.W.length (q.s.reverse.map (plV (Zd lim P q.C []).1)) c).1) ∧
  ((Zv lim P (Ls.map (plV (Zd lim P q.C []).1)) q.W.length (q.s.reverse.map (plV (Zd lim P q.C []).1)) c).2.1≠0→StQ lim P (c.foldl (Zag Ls) q).C (c.foldl (Zag Ls) q).W
   (Zv lim P (Ls.map (plV (Zd lim P q.C []).1)) q.W.length (q.s.reverse.map (plV (Zd lim P q.C []).1)) c).2.1 (Zv lim P (Ls.map (plV (Zd lim P q.C []).1)) q.W.length (q.s.reverse.map (plV (Zd lim P q.C []).1)) c).2.2)
 | [],q,j,h,hL,hs,hok,hw,hr=>by
  obtain⟨Cq,Wq,Sq⟩:=q;dsimp only at *
  have h1:Sq.length=1:=by
   unfold Zt at hw;by_cases h1:Sq.length=1
   ·exact h1
   ·exfalso;have:¬ (Sq.length:Int)=1:=by omega
    simp only[this,if_false]at hw;omega
  obtain⟨p,rfl⟩:∃p,Sq=[p]:=Ybe.1 h1;refine⟨fun _=>⟨hr,⟨[],by simp⟩,rfl⟩,fun hh=>absurd rfl hh⟩
 | x::c,q,j,h,hL,hs,hok,hw,hr=>by
  obtain⟨Cq,Wq,Sq⟩:=q;dsimp only at *
  have hl:=zft hr;have h1:¬ (arN x.op<0∨(Sq.length:Int)<arN x.op):=by
   intro hh;unfold Zt at hw;rw[if_pos hh]at hw;omega
  have hw2:Zt (j+1) (Sq.length+1-arN x.op) c=-1:=by
   unfold Zt at hw
   rwa [if_neg h1]at hw
  obtain⟨ar,har⟩:∃ar:Nat,arN x.op=(ar:Int):=⟨(arN x.op).toNat,by omega⟩;obtain⟨n1,n2,n3⟩:=zxv h hL hs (hok x Yp) ⟨by omega,by omega⟩;have hst:Zag Ls ⟨Cq,Wq,Sq⟩ x=⟨(ndI Ls Cq Sq x).1,Wq++[(ndI Ls Cq Sq x).2],Sq.take (Sq.length-ar)++[(ndI Ls Cq Sq x).2]⟩:=by
   unfold Zag;rw[har,Ya8]
  have hsl:(Sq.take (Sq.length-ar)++[(ndI Ls Cq Sq x).2]).length=Sq.length-ar+1:=by rw[Yq,Y0,Yaj];omega
  have sim:=z92 (lim:=lim) (P:=P) h hL hs (hok x Yp) ⟨by omega,by omega⟩ hr Wq.length;have esk:(Zam P (Ls.map (plV (Zd lim P Cq []).1)) (Sq.reverse.map (plV (Zd lim P Cq []).1)) x).2=(Sq.take (Sq.length-ar)).reverse.map (plV (Zd lim P Cq []).1):=by
   rw[List.reverse_take,show Sq.length-(Sq.length-ar)=ar by omega,List.map_drop];unfold Zam;rcases zay x.op with ⟨h0,_⟩ | ⟨h0,_⟩ | ⟨h0,_⟩ | ⟨h0,_⟩
   ·rw[if_pos h0];have:ar=0:=by omega
    subst this;rfl
   ·rw[if_neg (by omega),if_pos h0];have:ar=1:=by omega
    subst this;rw[Ydv]
   ·rw[if_neg (by omega),if_neg (by omega)];have:ar=2:=by omega
    subst this;show List.tail (List.tail _)=_;rw[←Ydv,←Ydv,Ydn]
   ·omega
  rw[Yax,hst,Zv,esk];by_cases hk:(Zbd lim (Zam P (Ls.map (plV (Zd lim P Cq []).1)) (Sq.reverse.map (plV (Zd lim P Cq []).1)) x).1 Wq.length).2.1=0
  ·obtain⟨s1,s2,E,s3⟩:=sim.1 hk;have ih:=zra (lim:=lim) (P:=P) (dim:=dim) (par:=par) (Ls:=Ls) c ⟨(ndI Ls Cq Sq x).1,Wq++[(ndI Ls Cq Sq x).2],Sq.take (Sq.length-ar)++[(ndI Ls Cq Sq x).2]⟩ (j+1) n1
    (fun l hl=>Yl (hL l hl) n2)
    (fun p hp=>by
     rcases Yr.1 hp with hp | hp
     ·exact Yl (hs p (Ya3 hp)) n2
     ·rw[Yad]at hp;rw[hp];exact n3)
    (fun y hy=>hok y (Yj _ hy))
    (by
     dsimp only;rw[hsl,←hw2];congr 1;omega) s1
   dsimp only at ih;have m1:Ls.map (plV (Zd lim P (ndI Ls Cq Sq x).1 []).1)=Ls.map (plV (Zd lim P Cq []).1):=by
    rw[s3];exact zil fun l hl'=>by rw[hl];exact hL l hl'
   have m2:(Sq.take (Sq.length-ar)++[(ndI Ls Cq Sq x).2]).reverse.map (plV (Zd lim P (ndI Ls Cq Sq x).1 []).1)=(Zam P (Ls.map (plV (Zd lim P Cq []).1)) (Sq.reverse.map (plV (Zd lim P Cq []).1)) x).1.1::(Sq.take (Sq.length-ar)).reverse.map (plV (Zd lim P Cq []).1):=by
    rw[List.reverse_append,List.reverse_singleton,List.singleton_append,Y3,s2,s3];refine congrArg _ (zil fun l hl'=>?_);rw[hl];exact hs l (Ya3 (Yc5.1 hl'))
   rw[m1,m2,Yq,Yaj]at ih;rw[if_neg (by simpa using hk)];refine⟨fun hR=>?_,ih.2⟩;obtain⟨a1,⟨E',a2⟩,a3⟩:=ih.1 hR;exact⟨a1,⟨E++E',by rw[a2,s3,Y5]⟩,a3⟩
  ·rw[if_pos hk];refine⟨fun hR=>absurd hR hk,fun _=>?_⟩;obtain⟨E,F,f1,f2⟩:=zla (Ls:=Ls) c ⟨(ndI Ls Cq Sq x).1,Wq++[(ndI Ls Cq Sq x).2],Sq.take (Sq.length-ar)++[(ndI Ls Cq Sq x).2]⟩;rw[f1,f2];refine StQ.ext ⟨hk,(ndI Ls Cq Sq x).2,?_,sim.2 hk⟩ E F;rw[(znm hk).2];dsimp only;rw[Yh (Yd _),Ycf]
   rfl
theorem zxy{lim:Nat}{P:Po}{dim par:Int}{Ls:List Nat}{C:List Ins}{W:List Nat}(c:List Nd)(h:InvC dim par C W)(hL:∀l∈Ls,l<C.length)(hp:Za0 dim par Ls.length c<0)(hr:(Zd lim P C []).2.1=0) :
  ((Zv lim P (Ls.map (plV (Zd lim P C []).1)) W.length [] c).2.1=0→(Zd lim P (exQ Ls C W c).C []).2.1=0∧(∃E,(Zd lim P (exQ Ls C W c).C []).1=(Zd lim P C []).1++E) ∧
   plV (Zd lim P (exQ Ls C W c).C []).1 (((exQ Ls C W c).s[0]?).getD 0)=(Zv lim P (Ls.map (plV (Zd lim P C []).1)) W.length [] c).1) ∧
  ((Zv lim P (Ls.map (plV (Zd lim P C []).1)) W.length [] c).2.1≠0→StQ lim P (exQ Ls C W c).C (exQ Ls C W c).W (Zv lim P (Ls.map (plV (Zd lim P C []).1)) W.length [] c).2.1 (Zv lim P (Ls.map (plV (Zd lim P C []).1)) W.length [] c).2.2):=by
 obtain⟨t,ht,hte,hok⟩:=za6 hp;have hwr:Z7 c=-1:=by rw[←hte];exact zcc ht
 exact zra (lim:=lim) (P:=P) (dim:=dim) (par:=par) (Ls:=Ls) c ⟨C,W,[]⟩ 0 h hL (fun p hp=>by cases hp) hok hwr hr
theorem zxz(Ls:List Nat)(C:List Ins)(W:List Nat)(c:List Nd):∃E F,(exQ Ls C W c).C=C++E∧(exQ Ls C W c).W=W++F:=zla c ⟨C,W,[]⟩
theorem zrb:∀(L:List (List Nd)) (q:Fq),∃E F,(L.foldl ltQ q).C=q.C++E∧(L.foldl ltQ q).W=q.W++F
 | [],q=>⟨[],[],by simp,by simp⟩
 | c::L,q=>by
  obtain⟨E,F,h1,h2⟩:=zrb L (ltQ q c);obtain⟨E0,F0,h3,h4⟩:=zxz q.P q.C q.W c;refine⟨E0++E,F0++F,?_,?_⟩
  ·rw[Yax,h1];show (exQ q.P q.C q.W c).C++E=_;rw[h3,Y5]
  ·rw[Yax,h2];show (exQ q.P q.C q.W c).W++F=_;rw[h4,Y5]
theorem zlb(Ls:List Nat):∀(O:List (List Nd)) (q:Fq),∃E F,(O.foldl (ouQ Ls) q).C=q.C++E∧(O.foldl (ouQ Ls) q).W=q.W++F
 | [],q=>⟨[],[],by simp,by simp⟩
 | c::O,q=>by
  obtain⟨E,F,h1,h2⟩:=zlb Ls O (ouQ Ls q c);obtain⟨E0,F0,h3,h4⟩:=zxz Ls q.C q.W c;refine⟨E0++E,F0++F,?_,?_⟩
  ·rw[Yax,h1];show (exQ Ls q.C q.W c).C++E=_;rw[h3,Y5]
  ·rw[Yax,h2];show (exQ Ls q.C q.W c).W++F=_;rw[h4,Y5]
theorem zx0{lim:Nat}{P:Po}{dim par:Int}:∀(L:List (List Nd)) (q:Fq),InvF dim par q→(Zd lim P q.C []).2.1=0→(∀(k:Nat) c,L[k]? = some c→Za0 dim par ((q.P.length+k:Nat):Int) c<0) →
  ((Zbv lim P q.W.length (q.P.map (plV (Zd lim P q.C []).1)) L).2.2.1=0→(Zd lim P (L.foldl ltQ q).C []).2.1=0∧(Zbv lim P q.W.length (q.P.map (plV (Zd lim P q.C []).1)) L).1=(L.foldl ltQ q).W.length ∧
   (Zbv lim P q.W.length (q.P.map (plV (Zd lim P q.C []).1)) L).2.1=(L.foldl ltQ q).P.map (plV (Zd lim P (L.foldl ltQ q).C []).1)) ∧
  ((Zbv lim P q.W.length (q.P.map (plV (Zd lim P q.C []).1)) L).2.2.1≠0→StQ lim P (L.foldl ltQ q).C (L.foldl ltQ q).W (Zbv lim P q.W.length (q.P.map (plV (Zd lim P q.C []).1)) L).2.2.1 (Zbv lim P q.W.length (q.P.map (plV (Zd lim P q.C []).1)) L).2.2.2)
 | [],q,h,hr,hp=>⟨fun _=>⟨hr,rfl,rfl⟩,fun hh=>absurd rfl hh⟩
 | c::L,q,h,hr,hp=>by
  have hc:=hp 0 c rfl;rw[Yab]at hc;have hl:=zft hr;obtain⟨e1,e2,e3⟩:=zk6 c h.inv h.pl hc;obtain⟨g1,g2⟩:=zxy (lim:=lim) (P:=P) c h.inv h.pl hc hr;have hW:=(zkp q.P q.C q.W c).2;rw[Yax,Zbv];by_cases hk:(Zv lim P (q.P.map (plV (Zd lim P q.C []).1)) q.W.length [] c).2.1=0
  ·obtain⟨s1,⟨E,s2⟩,s3⟩:=g1 hk;rw[if_neg (by simpa using hk)];have hI:InvF dim par (ltQ q c):=⟨e1,fun p hp=>by
    rcases Yr.1 hp with hp | hp
    ·exact Yl (h.pl p hp) e2
    ·rw[Yad]at hp;rw[hp];exact e3⟩
   have ih:=zx0 (lim:=lim) (P:=P) L (ltQ q c) hI s1 fun k d hd=>by
    have:=hp (k+1) d (by rw[Ya1];exact hd);have e:(ltQ q c).P.length=q.P.length+1:=by show (q.P++[_]).length=_;rw[Yq,Yaj]
    rw[e,show q.P.length+1+k=q.P.length+(k+1) by omega];exact this
   have m1:(ltQ q c).W.length=q.W.length+c.length:=hW;have m2:(ltQ q c).P.map (plV (Zd lim P (ltQ q c).C []).1)=q.P.map (plV (Zd lim P q.C []).1)++[(Zv lim P (q.P.map (plV (Zd lim P q.C []).1)) q.W.length [] c).1]:=by
    show (q.P++[((exQ q.P q.C q.W c).s[0]?).getD 0]).map (plV (Zd lim P (exQ q.P q.C q.W c).C []).1)=_;rw[Yap,List.map_singleton,s3,s2];congr 1;exact zil fun l hl'=>by rw[hl];exact h.pl l hl'
   rw[m1,m2]at ih;exact ih
  ·rw[if_pos hk];refine⟨fun hh=>absurd hh hk,fun _=>?_⟩;obtain⟨E,F,f1,f2⟩:=zrb L (ltQ q c);rw[f1,f2];exact StQ.ext (g2 hk) E F
theorem zx1{lim:Nat}{P:Po}{dim par:Int}(Ls:List Nat):∀(O:List (List Nd)) (q:Fq),InvF dim par q→(∀l∈Ls,l<q.C.length)→(Zd lim P q.C []).2.1=0→(∀c∈O,Za0 dim par (Ls.length:Int) c<0) →
  ((Zc4 lim P (Ls.map (plV (Zd lim P q.C []).1)) q.W.length (q.P.map (plV (Zd lim P q.C []).1)) O).2.1=0→(Zd lim P (O.foldl (ouQ Ls) q).C []).2.1=0 ∧
   Zc4 lim P (Ls.map (plV (Zd lim P q.C []).1)) q.W.length (q.P.map (plV (Zd lim P q.C []).1)) O=((O.foldl (ouQ Ls) q).P.map (plV (Zd lim P (O.foldl (ouQ Ls) q).C []).1),0,0)) ∧
  ((Zc4 lim P (Ls.map (plV (Zd lim P q.C []).1)) q.W.length (q.P.map (plV (Zd lim P q.C []).1)) O).2.1≠0→StQ lim P (O.foldl (ouQ Ls) q).C (O.foldl (ouQ Ls) q).W (Zc4 lim P (Ls.map (plV (Zd lim P q.C []).1)) q.W.length (q.P.map (plV (Zd lim P q.C []).1)) O).2.1 (Zc4 lim P (Ls.map (plV (Zd lim P q.C []).1)) q.W.length (q.P.map (plV (Zd lim P q.C []).1)) O).2.2)
 | [],q,h,hLs,hr,hp=>⟨fun _=>⟨hr,rfl⟩,fun hh=>absurd rfl hh⟩
 | c::O,q,h,hLs,hr,hp=>by
  have hc:=hp c Yp;have hl:=zft hr;obtain⟨e1,e2,e3⟩:=zk6 c h.inv hLs hc;obtain⟨g1,g2⟩:=zxy (lim:=lim) (P:=P) c h.inv hLs hc hr;have hW:=(zkp Ls q.C q.W c).2;rw[Yax,Zc4];by_cases hk:(Zv lim P (Ls.map (plV (Zd lim P q.C []).1)) q.W.length [] c).2.1=0
  ·obtain⟨s1,⟨E,s2⟩,s3⟩:=g1 hk;rw[if_neg (by simpa using hk)];have hI:InvF dim par (ouQ Ls q c):=⟨e1,fun p hp=>by
    rcases Yr.1 hp with hp | hp
    ·exact Yl (h.pl p hp) e2
    ·rw[Yad]at hp;rw[hp];exact e3⟩
   have ih:=zx1 (lim:=lim) (P:=P) Ls O (ouQ Ls q c) hI (fun l hl'=>Yl (hLs l hl') e2) s1 fun d hd=>hp d (Yj _ hd);have m1:(ouQ Ls q c).W.length=q.W.length+c.length:=hW;have m2:(ouQ Ls q c).P.map (plV (Zd lim P (ouQ Ls q c).C []).1)=q.P.map (plV (Zd lim P q.C []).1)++[(Zv lim P (Ls.map (plV (Zd lim P q.C []).1)) q.W.length [] c).1]:=by
    show (q.P++[((exQ Ls q.C q.W c).s[0]?).getD 0]).map (plV (Zd lim P (exQ Ls q.C q.W c).C []).1)=_;rw[Yap,List.map_singleton,s3,s2];congr 1;exact zil fun l hl'=>by rw[hl];exact h.pl l hl'
   have m3:Ls.map (plV (Zd lim P (ouQ Ls q c).C []).1)=Ls.map (plV (Zd lim P q.C []).1):=by
    show Ls.map (plV (Zd lim P (exQ Ls q.C q.W c).C []).1)=_;rw[s2];exact zil fun l hl'=>by rw[hl];exact hLs l hl'
   rw[m1,m2,m3]at ih;exact ih
  ·rw[if_pos hk];refine⟨fun hh=>absurd hh hk,fun _=>?_⟩;obtain⟨E,F,f1,f2⟩:=zlb Ls O (ouQ Ls q c);rw[f1,f2];exact StQ.ext (g2 hk) E F
theorem zx2{lim:Nat}{P:Po}{f:Fd}{dim par:Int}(hF:FineD f dim par) :
  ((evD lim P f).2.1=0→(Zd lim P (Zaz f).C []).2.1=0∧evD lim P f=((Zaz f).P.map (plV (Zd lim P (Zaz f).C []).1),0,0)) ∧
  ((evD lim P f).2.1≠0→(evD lim P f).1=[]∧StQ lim P (Zaz f).C (Zaz f).W (evD lim P f).2.1 (evD lim P f).2.2):=by
 have h0:∀(k:Nat) c,(f.lets.map (·.code))[k]? = some c→Za0 dim par (k:Nat) c<0:=fun k c hk=>by
  rw[Yak]at hk;obtain⟨x,hx,rfl⟩:=Yaa.1 hk;exact hF.lets k x hx
 have hI:=zq8 (dim:=dim) (par:=par) (f.lets.map (·.code)) h0;have hI0:InvF dim par ⟨[],[],[]⟩:=⟨⟨Yec,(fun k i hk=>by cases hk),rfl⟩,fun p hp=>by cases hp⟩;have hl:=zx0 (lim:=lim) (P:=P) (f.lets.map (·.code)) ⟨[],[],[]⟩ hI0 rfl fun k c hk=>by
  have:=h0 k c hk;simpa using this
 have el:(f.lets.map (·.code)).foldl ltQ ⟨[],[],[]⟩=Zau (f.lets.map (·.code)):=rfl;rw[el]at hl;replace hl:((Zbv lim P 0 [] (f.lets.map (·.code))).2.2.1=0→(Zd lim P (Zau (f.lets.map (·.code))).C []).2.1=0∧(Zbv lim P 0 [] (f.lets.map (·.code))).1=(Zau (f.lets.map (·.code))).W.length ∧
   (Zbv lim P 0 [] (f.lets.map (·.code))).2.1=(Zau (f.lets.map (·.code))).P.map (plV (Zd lim P (Zau (f.lets.map (·.code))).C []).1)) ∧
  ((Zbv lim P 0 [] (f.lets.map (·.code))).2.2.1≠0→StQ lim P (Zau (f.lets.map (·.code))).C (Zau (f.lets.map (·.code))).W (Zbv lim P 0 [] (f.lets.map (·.code))).2.2.1 (Zbv lim P 0 [] (f.lets.map (·.code))).2.2.2):=hl
 have hP:=(zed (f.lets.map (·.code))).1;rw[Yat]at hP;have ef:Zaz f=f.outs.foldl (ouQ (Zau (f.lets.map (·.code))).P) ⟨(Zau (f.lets.map (·.code))).C,(Zau (f.lets.map (·.code))).W,[]⟩:=rfl;unfold evD;rw[ef];generalize Zau (f.lets.map (·.code))=q at *
 by_cases hk:(Zbv lim P 0 [] (f.lets.map (·.code))).2.2.1=0
 ·obtain⟨a1,a2,a3⟩:=hl.1 hk;rw[if_neg (by simpa using hk),a2,a3];have ho:=zx1 (lim:=lim) (P:=P) (dim:=dim) (par:=par) q.P f.outs ⟨q.C,q.W,[]⟩ ⟨hI.inv,fun p hp=>by cases hp⟩ hI.pl a1 fun c hc=>by rw[hP];exact hF.outs c hc
  refine⟨ho.1,fun hh=>⟨?_,ho.2 hh⟩⟩;have key:∀(ls:List Rat) (O:List (List Nd)) (n:Nat) (os:List Rat),(Zc4 lim P ls n os O).2.1≠0→(Zc4 lim P ls n os O).1=[]:=by
   intro ls O
   induction O with
   | nil=>intro n os h;exact absurd rfl h
   | cons c r ih=>
    intro n os h;unfold Zc4 at h ⊢;split
    ·rfl
    ·next hh=>rw[if_neg hh]at h;exact ih _ _ h
  exact key _ _ _ _ hh
 ·rw[if_pos hk];refine⟨fun hh=>absurd hh hk,fun _=>⟨rfl,?_⟩⟩;obtain⟨E,F,f1,f2⟩:=zlb q.P f.outs ⟨q.C,q.W,[]⟩;rw[f1,f2];exact StQ.ext (hl.2 hk) E F
class Zm2 (T:Tbl):Prop where
end Go.Ab
section
namespace Go.Ab
end Go.Ab
end
namespace Go.Ab
def Zoj(t:Tp)(many words:Nat):Bool:=((t.code.take many).any fun i=>decide (words<fsz i.n)) || decide (many<t.code.length) || decide (many<t.outs.length)
def Zi1(x:PoF)(many words:Nat):Bool:=decide (words<fsz x.t) || Zfb x.y many words || Zfb x.p many words
theorem zo2{x:PoF}{many words:Nat}(h:Zi1 x many words=false)(hm:many≤1000):PoS x words:=by
 unfold Zi1 at h;simp only[Ycg,decide_eq_false_iff_not]at h;obtain⟨⟨h1,h2⟩,h3⟩:=h;obtain⟨a1,a2⟩:=zh5 h2;obtain⟨b1,b2⟩:=zh5 h3;exact⟨by omega,a2,b2,by omega,by omega⟩
section
variable{T:Tbl}[Zb6 T][Zb7 T][Zbo T][Zb8 T][Zc3 T][Zdf T][Zcg T][Zch T][Zds T][Zdt T][Zej T]
def Zpj(t:Tp)(many words i:Nat):St:=⟨[(1,.i .i64 many),(2,.i .i64 words),(3,.ptr (.loc 3) 1 4 0 0),(7,.i .i64 i)],[(.loc 3,bxT t)],3⟩
def Zpk(t:Tp)(many:Nat):Ex×St:=(.n,⟨[(1,.i .i64 many),(3,.ptr (.loc 3) 1 4 0 0)],[(.loc 3,bxT t)],3⟩)
theorem zsq(x:PoF)(many words:Nat)(hm:many≤1000):Za T 380 [ept x,.i .i64 many,.i .i64 words]=some (.b (Zi1 x many words)):=by
 have c1:=zf9 (T:=T) x.t words;have c2:=zh4 (T:=T) x.y many words hm;have c3:=zh4 (T:=T) x.p many words hm;unfold Zi1;generalize decide (words<fsz x.t)=B1 at *
 generalize Zfb x.y many words=B2 at *
 generalize Zfb x.p many words=B3 at *
 obtain⟨⟨n,a,d⟩,y,p⟩:=x;dsimp only at *
 rw[zab Zej.h380 rfl,b380];cases B1<;>cases B2<;>simp -implicitDefEqProofs[c1,c2,c3]
theorem zzc(x:PoF)(hy:x.y.length≤1000)(hp:x.p.length≤1000):Za T 383 [ept x]=some (ept x):=by
 have c1:=zqr (T:=T) x.t;have c2:=zqs (T:=T) x.y (by omega);have c3:=zqs (T:=T) x.p (by omega);obtain⟨⟨n,a,d⟩,y,p⟩:=x;dsimp only at *
 rw[zab Zej.h383 rfl,b383];simp -implicitDefEqProofs[c1,c2,c3]
@[simp] theorem zaid(l:List Int):Option.all (fun r=>decide (r.length=1)) (ints l).head? = true:=by cases l<;>rfl
def fC:BId:=.fld (.loc 3) 0
def Zpl(t:Tp)(i:Nat):St:=⟨[(1,.ptr (.loc 1) 1 4 0 0),(2,.ptr (.loc 2) 2 4 0 0),(3,.ptr (.loc 3) 3 4 0 0),(4,.i .i64 i)],
 [(.loc 1,bxT t),(.loc 2,⟨2,.str,4,[[.sl [] .an,.sl [] .an,.i .i64 0,.i .i64 0]]⟩),(.loc 3,⟨3,.str,4,[[.bs fC 4 6 0 i,.bs (.loc 13) 5 1 0 t.outs.length,.i .i64 t.dim,.i .i64 t.par]]⟩),(fC,⟨4,.own,6,Zcz (t.code.take i)⟩),(.loc 13,⟨5,.own,1,ints t.outs⟩)],7⟩
end
def Zok(t:Tp)(n:Nat):Tp:=⟨t.code.take n,List.replicate t.outs.length 0,t.dim,t.par⟩
def t62:Tp:=⟨[⟨3,0,0,(false,[],[])⟩,⟨2,0,0,(false,[],[])⟩,⟨10,0,1,(false,[],[])⟩],[2],1,0⟩
def p62:PoF:=⟨fz 2,[fz 6],[]⟩
def p60:PoF:=⟨(false,[],[]),[fz 6],[]⟩
section
variable{T:Tbl}[Z5 T][Zo T][Zy T][Zz T][Zq T][Zu T][Zj T][Zn T][Zs T][Z6 T][Zan T][Zcl T][Zaa T][Zaf T][Zbc T][Za2 T][Zix T][Zb3 T][Zai T][Zbz T][Zdu T]
variable[Zb6 T][Zb7 T][Zbo T][Zb8 T][Zc3 T][Zdf T][Zcg T][Zch T][Zds T][Zdt T][Zej T][Zgm T]
theorem zo3:Za T 381 []=some (.b true):=by
 have k6:=zoz (T:=T) 6 (by decide) (by decide);have k2:=zoz (T:=T) 2 (by decide) (by decide);have q6:((6:Int):Rat)=6:=rfl;have q2:((2:Int):Rat)=2:=rfl;rw[q6]at k6;rw[q2]at k2;have hs:TpS t62:=⟨⟨by decide,by decide,fun i hi=>by
  simp only[t62,Y6,Ydy,or_false]at hi;rcases hi with rfl | rfl | rfl<;>decide,by decide,by decide⟩,fun i hi=>by
  simp only[t62,Y6,Ydy,or_false]at hi;rcases hi with rfl | rfl | rfl<;>decide⟩
 have f6:fsz (fz 6)≤1000:=by decide +kernel
 have f2:fsz (fz 2)≤1000:=by decide +kernel
 have h6:∀u∈[fz 6],fsz u≤1000:=fun u hu=>by rw[Yad.1 hu];exact f6
 have a1:=zky (T:=T) t62 p62 100 hs ⟨f2,h6,by simp[p62],by decide,by decide⟩;have a2:=zky (T:=T) t62 p60 100 hs ⟨by decide,h6,by simp[p60],by decide,by decide⟩;have e1:Zb0 (Zb1 100) t62 p62.v=([6,2,3],0,0):=by decide +kernel
 have e2:Zb0 (Zb1 100) t62 p60.v=([],3,2):=by decide +kernel
 rw[e1]at a1;rw[e2]at a2;have s1:∀q∈[(6:Rat),2,3],sz q≤1:=by
  intro q hq;simp only[Y6,Ydy,or_false]at hq;rcases hq with rfl | rfl | rfl<;>exact zaic (by decide) (by decide)
 have tx:=zzy (T:=T) (fzs [6,2,3]) (by decide) (fun x hx=>Yc (z9d s1 x hx) (by decide));have et:List.intercalate [44] (Zet (fzs [6,2,3]))=[54,44,50,44,51]:=by decide +kernel
 rw[et]at tx;have e0:fzs []=[]:=rfl;rw[e0]at a2;clear e1 e2 s1 et e0 hs f6 f2 h6 q6 q2;unfold p62 at a1;unfold p60 at a2;generalize fzs [6,2,3]=A at *
 generalize fz 6=F6 at *
 generalize fz 2=F2 at *
 replace a1:Za T 384 [.agg [.sl [[.i .i64 3,.i .i64 0,.i .i64 0,.b false,.sl [] .an,.sl [] .an],[.i .i64 2,.i .i64 0,.i .i64 0,.b false,.sl [] .an,.sl [] .an],[.i .i64 10,.i .i64 0,.i .i64 1,.b false,.sl [] .an,.sl [] .an]] .an,.sl [[.i .i64 2]] .an,.i .i64 1,.i .i64 0],
  .agg [.b F2.1,.sl (Zb F2.2.1) .an,.sl (Zb F2.2.2) .an,.sl [[.b F6.1,.sl (Zb F6.2.1) .an,.sl (Zb F6.2.2) .an]] .an,.sl [] .an],.i .i64 100]=some (.tup [.sl (Zf A) .an,Zi4 0 0 0 0]):=a1
 replace a2:Za T 384 [.agg [.sl [[.i .i64 3,.i .i64 0,.i .i64 0,.b false,.sl [] .an,.sl [] .an],[.i .i64 2,.i .i64 0,.i .i64 0,.b false,.sl [] .an,.sl [] .an],[.i .i64 10,.i .i64 0,.i .i64 1,.b false,.sl [] .an,.sl [] .an]] .an,.sl [[.i .i64 2]] .an,.i .i64 1,.i .i64 0],
  .agg [.b false,.sl [] .an,.sl [] .an,.sl [[.b F6.1,.sl (Zb F6.2.1) .an,.sl (Zb F6.2.2) .an]] .an,.sl [] .an],.i .i64 100]=some (.tup [.sl [] .an,Zi4 3 0 0 2]):=a2
 rw[zab Zgm.h381 rfl,b381];simp -implicitDefEqProofs[a1,a2,tx,k6,k2]
 done
end
theorem zy5(Q:List Nat):ints (Q.map fun(n:Nat)=>(n:Int))=Zbj Q:=by simp[ints,Zbj]
section
variable{T:Tbl}[Zai T][Zav T][Z5 T][Zo T][Zy T][Zz T][Zq T][Zu T][Zj T][Zn T][Zs T][Za5 T][Z6 T][Zan T][Zcl T][Zaa T][Zaf T][Zbc T][Z4 T][Zaj T][Zb5 T]
theorem zse:Z0 T 647 [] []=some (.ptr (.loc 3) 1 4 0 0,[(.loc 3,⟨1,.str,4,[[.sl [] .nl,.fnp 0 (.loc 1) 2 2 0 0,.sl [] .nl,.sl [] .nl]]⟩),(.loc 1,⟨2,.mp,2,[]⟩)]):=by
 rw[zal Zav.h647 rfl,b647];simp -implicitDefEqProofs[Zba]
variable[Zbp T][Zbz T][Zc2 T][Zbi T]
theorem ziw(f:Fd)(pars:Int)(h1:f.lets.length≤100000)(h2:f.outs.length≤100000)(hn:Zcn 1000 50000 f)(hz:Zaw f≤4294967295)(hs:∀x∈f.lets,x.name.length≤100000)(q:Int×Int×Int)(hq:Zeu f f.outs.length pars=some q) :
  Za T 644 [efd f,.i .i64 pars]=some (.tup [etp ⟨[],[],0,0⟩,.sl [] .an,Ze6 (some q)]):=by
 have c:=zca (T:=T) f f.outs.length pars h1 h2 hn hz hs;rw[hq]at c;obtain⟨q1,q2,q3⟩:=q;unfold Ze6 at c ⊢;obtain⟨L,O⟩:=f;dsimp only at *
 clear hq hn hz hs;rw[zab Zav.h644 rfl,b644];simp -implicitDefEqProofs[c]
theorem zsf(f:Fd)(pars:Int)(h1:f.lets.length≤100000)(h2:f.outs.length≤100000)(hn:Zcn 1000 50000 f)(hz:Zaw f≤4294967295)(hs:∀x∈f.lets,x.name.length≤100000)(hq:Zeu f f.outs.length pars=none) :
  Za T 644 [efd f,.i .i64 pars]=some (.tup [etp (Zfk f pars),.sl (Zbj (Zaz f).W) .an,Ze6 none]):=by
 have c:=zca (T:=T) f f.outs.length pars h1 h2 hn hz hs;rw[hq]at c;have hF:=zd7 hq;have l1:=zvy (T:=T) f f.outs.length pars hF hn;have l2:=zvz (T:=T) f f.outs.length pars hF hn;have hb:=zse (T:=T);unfold Zfk;unfold Ze6 at c ⊢;unfold Zje at l1;unfold Zjf at l2;dsimp only[etp];rw[zy5];have htW:(Zbj (Zaz f).W).take (Zaz f).W.length=Zbj (Zaz f).W:=Yb (by rw[zc2];exact Yd _);have htP:(Zbj (Zaz f).P).take (Zaz f).P.length=Zbj (Zaz f).P:=Yb (by rw[zc2];exact Yd _);have htC:(Zcz (Zaz f).C).take (Zaz f).C.length=Zcz (Zaz f).C:=Yb (by rw[zpj];exact Yd _);generalize Zau (f.lets.map (·.code))=q0 at *
 generalize Zaz f=q1 at *
 obtain⟨C0,W0,P0⟩:=q0;obtain⟨C1,W1,P1⟩:=q1;obtain⟨L,O⟩:=f;dsimp only at *
 clear hq hn hz hs hF;simp only[Zkp,mkB,bx4,bx6,Nat.reduceAdd,Ybk,Ybt,z0i,zzs,Yas,show Zcz []=[] from rfl]at l1 l2;rw[show (((0:Nat):Int))=0 from rfl]at l1 l2;rw[zab Zav.h644 rfl,b644];simp -implicitDefEqProofs[c,hb,l1,l2,htW,htP,htC,Zba]
end
section
variable{T:Tbl}[Ze4 T]
def Zp7(l:List Nd)(p:Nat×Int):St:=⟨[(0,.sl (Z1 l) .an),(3,.i .i64 p.2),(4,.i .i64 p.1)],[],2⟩
def Zo0(l:List Nd)(many words:Int):Bool:=decide (many<l.length) || (l.take many.toNat).any fun x=>decide (words<x.n.length)
theorem zjs(l:List Nd)(many words:Nat)(hl:l.length≤4294967296∨many≤4294967295)(hm:many≤4294967295):Za T 10 [.sl (Z1 l) .an,.i .i64 many,.i .i64 words]=some (.b (decide (many<l.length) || (l.take many).any fun x=>decide (words<x.n.length))):=by
 have hlo:Zp T 0 0 (.norm false [0,1]) l10_0 ⟨[(0,.sl (Z1 l) .an),(1,.i .i64 many),(2,.i .i64 words),(7,.i .i64 ((0:Nat):Int))],[],2⟩ =
   if ((l.take many).drop 0).any (fun x=>decide (words<x.n.length))=true then some (.r,⟨[(6,.b true)],[],2⟩) else some (.n,⟨[(0,.sl (Z1 l) .an),(1,.i .i64 many)],[],2⟩):=by
  refine zaw (fun i=>⟨[(0,.sl (Z1 l) .an),(1,.i .i64 many),(2,.i .i64 words),(7,.i .i64 ((i:Nat):Int))],[],2⟩) (l.take many).length
   (fun i=>if ((l.take many).drop i).any (fun x=>decide (words<x.n.length))=true then some (.r,_) else some (.n,_)) (fun i hi=>?_) ?_
  ·have hi1:=hi;rw[Y0]at hi1;have h:i<l.length:=by omega
   have h':(i:Int)<l.length:=by omega
   have h2:i<many:=by omega
   have h2':(i:Int)<many:=by omega
   have hg:l[i]? = some (l[i]'h):=Ya h;have hd:(l.take many).drop i=(l.take many)[i]'hi::(l.take many).drop (i+1):=Ym hi;have hx2:(l.take many)[i]'hi=l[i]'h:=by simp
   rw[hx2]at hd;have hws:=zbj h2 (by omega);generalize hx:l[i]'h=x at *
   by_cases hc:words<x.n.length
   ·right;rw[if_pos (by rw[hd];simp[hc])];have hc':(words:Int)<x.n.length:=by omega
    clear hd;constructor<;>simp -implicitDefEqProofs[l10_0,h,h',h2,h2',hg,hx,hc,hc']
   ·left;have hc':¬ (words:Int)<x.n.length:=by omega
    refine⟨?_,by rw[hd];simp[hc]⟩;clear hd;simp -implicitDefEqProofs[l10_0,h,h',h2,h2',hg,hx,hc,hc',hws]
  ·rw[Y2,Y0];simp only[Yd7,Y8,if_false];by_cases h:l.length≤many
   ·rw[Nat.min_eq_right h];constructor<;>simp -implicitDefEqProofs[l10_0]
   ·rw[Yb4 (by omega)];have h2:many<l.length:=by omega
    have h2':(many:Int)<l.length:=by omega
    constructor<;>simp -implicitDefEqProofs[l10_0,h2,h2']
 rw[Ybp]at hlo;simp only[Yy]at hlo;rw[zab Ze4.h10 rfl,b10];generalize (l.take many).any (fun x=>decide (words<x.n.length))=B at *
 cases B with
 | true=>
  rw[if_pos rfl]at hlo;simp -implicitDefEqProofs[hlo]
 | false=>
  rw[if_neg (by decide)]at hlo;by_cases h:many<l.length
  ·have h':(many:Int)<l.length:=by omega
   simp -implicitDefEqProofs[hlo,h,h']
  ·have h':¬ (many:Int)<l.length:=by omega
   simp -implicitDefEqProofs[hlo,h,h']
variable[Zb6 T][Zb7 T][Zbo T][Zb8 T]
def Zp8(l:List Nd)(dim pars lets w:Int)(i:Nat):St:=⟨[(0,.sl (Z1 l) .an),(1,.i .i64 dim),(2,.i .i64 pars),(3,.i .i64 lets),(9,.i .i64 w),(10,.i .i64 i)],[],2⟩
end
section
variable{T:Tbl}[Ze4 T]
def Tre.parts:Tre→List (List Nd)
 | .leaf _=>[]
 | .un _ a=>[a.flat]
 | .bin _ a b=>[a.flat,b.flat]
end
def lgN(l:List Nd)(many words:Nat):Bool:=decide (many<l.length) || (l.take many).any fun x=>decide (words<x.n.length)
def lgL(nodes words:Nat)(x:Lt):Bool:=decide (100<x.name.length) || lgN x.code nodes words
def lgF(f:Fd)(many nodes words:Nat):Bool:=decide (many<f.lets.length) || decide (many<f.outs.length) || f.lets.any (lgL nodes words) || f.outs.any fun c=>lgN c nodes words
section
variable{T:Tbl}[Ze4 T][Ze5 T]
def Zku(f:Fd)(nodes words i:Nat):St:=⟨[(2,.i .i64 nodes),(3,.i .i64 words),(4,.ptr (.loc 4) 1 2 0 0),(9,.i .i64 i)],[(.loc 4,⟨1,.str,2,[[.sl (Z3 f.lets) .an,.sl (Zak f.outs) .an]]⟩)],3⟩
def Zkv(f:Fd)(nodes words i:Nat):St:=⟨[(2,.i .i64 nodes),(3,.i .i64 words),(4,.ptr (.loc 4) 1 2 0 0),(10,.i .i64 i)],[(.loc 4,⟨1,.str,2,[[.sl (Z3 f.lets) .an,.sl (Zak f.outs) .an]]⟩)],3⟩
theorem zwv(f:Fd)(nodes words:Nat)(hnd:nodes≤4294967295)(hl:f.lets.length≤100000) :
  Zp T 0 0 (.norm false [2,3,4]) l466_0 (Zku f nodes words 0)=if f.lets.any (lgL nodes words)=true then some (.r,⟨[(8,.b true)],[],2⟩) else some (.n,⟨[(2,.i .i64 nodes),(3,.i .i64 words),(4,.ptr (.loc 4) 1 2 0 0)],[(.loc 4,⟨1,.str,2,[[.sl (Z3 f.lets) .an,.sl (Zak f.outs) .an]]⟩)],3⟩):=by
 have:=zaw (T:=T) (k:=0) (id:=0) (g2:=.norm false [2,3,4]) (c:=l466_0) (Zku f nodes words) f.lets.length
  (fun i=>if (f.lets.drop i).any (lgL nodes words)=true then some (.r,⟨[(8,.b true)],[],2⟩) else some (.n,⟨[(2,.i .i64 nodes),(3,.i .i64 words),(4,.ptr (.loc 4) 1 2 0 0)],[(.loc 4,⟨1,.str,2,[[.sl (Z3 f.lets) .an,.sl (Zak f.outs) .an]]⟩)],3⟩)) (fun i hi=>?_) ?_
 ·simpa using this
 ·have hg:f.lets[i]? = some (f.lets[i]'hi):=Ya hi;have hd:f.lets.drop i=f.lets[i]'hi::f.lets.drop (i+1):=Ym hi;have hi':(i:Int)<f.lets.length:=by omega
  have hws:=zbj hi (by omega);have c:=zjs (T:=T) (f.lets[i]'hi).code nodes words (.inr hnd) hnd;rw[hd,Yef];unfold Zku;obtain⟨L,O⟩:=f;dsimp only at *
  clear hd;generalize hx:L[i]'hi=x at *
  obtain⟨nm,code⟩:=x;dsimp only at *
  unfold lgL;dsimp only
  change Za T 10 _=some (.b (lgN code nodes words)) at c
  generalize lgN code nodes words=B at *
  by_cases h1:100<nm.length
  ·right;have h1':(100:Int)<nm.length:=by omega
   rw[if_pos (by simp[h1])];constructor<;>simp -implicitDefEqProofs[l466_0,hi,hi',hg,hx,h1,h1']
  ·have h1':¬ (100:Int)<nm.length:=by omega
   cases B with
   | true=>
    right;rw[if_pos (by simp)];constructor<;>simp -implicitDefEqProofs[l466_0,hi,hi',hg,hx,h1,h1',c]
   | false=>
    left;refine⟨?_,by simp[h1]⟩;simp -implicitDefEqProofs[l466_0,hi,hi',hg,hx,h1,h1',c,hws]
 ·rw[Y2,Yd7,if_neg (by decide)];unfold Zku;constructor<;>simp -implicitDefEqProofs[l466_0]
theorem zww(f:Fd)(nodes words:Nat)(hnd:nodes≤4294967295)(hl:f.outs.length≤100000) :
  Zp T 0 2 (.norm false []) l466_1 (Zkv f nodes words 0)=if f.outs.any (fun c=>lgN c nodes words)=true then some (.r,⟨[(8,.b true)],[],2⟩) else some (.n,⟨[],[],2⟩):=by
 have:=zaw (T:=T) (k:=0) (id:=2) (g2:=.norm false []) (c:=l466_1) (Zkv f nodes words) f.outs.length
  (fun i=>if (f.outs.drop i).any (fun c=>lgN c nodes words)=true then some (.r,⟨[(8,.b true)],[],2⟩) else some (.n,⟨[],[],2⟩)) (fun i hi=>?_) ?_
 ·simpa using this
 ·have hg:f.outs[i]? = some (f.outs[i]'hi):=Ya hi;have hd:f.outs.drop i=f.outs[i]'hi::f.outs.drop (i+1):=Ym hi;have hi':(i:Int)<f.outs.length:=by omega
  have hws:=zbj hi (by omega);have c:=zjs (T:=T) (f.outs[i]'hi) nodes words (.inr hnd) hnd;rw[hd,Yef];unfold Zkv;obtain⟨L,O⟩:=f;dsimp only at *
  clear hd;generalize hx:O[i]'hi=code at *
  change Za T 10 _=some (.b (lgN code nodes words)) at c
  generalize lgN code nodes words=B at *
  cases B with
  | true=>
   right;rw[if_pos (by simp)];constructor<;>simp -implicitDefEqProofs[l466_1,hi,hi',hg,hx,c]
  | false=>
   left;refine⟨?_,by simp⟩;simp -implicitDefEqProofs[l466_1,hi,hi',hg,hx,c,hws]
 ·rw[Y2,Yd7,if_neg (by decide)];unfold Zkv;constructor<;>simp -implicitDefEqProofs[l466_1]
theorem zo6(f:Fd)(many nodes words:Nat)(hm:many≤100000)(hnd:nodes≤4294967295):Za T 466 [efd f,.i .i64 many,.i .i64 nodes,.i .i64 words]=some (.b (lgF f many nodes words)):=by
 unfold lgF;by_cases h1:many<f.lets.length
 ·obtain⟨L,O⟩:=f;dsimp only at *
  have h1':(many:Int)<L.length:=by omega
  rw[zab Ze5.h466 rfl,b466];simp -implicitDefEqProofs[h1,h1']
 by_cases h2:many<f.outs.length
 ·obtain⟨L,O⟩:=f;dsimp only at *
  have h1':¬ (many:Int)<L.length:=by omega
  have h2':(many:Int)<O.length:=by omega
  rw[zab Ze5.h466 rfl,b466];simp -implicitDefEqProofs[h1,h1',h2,h2']
 have a:=zwv (T:=T) f nodes words hnd (by omega);have b:=zww (T:=T) f nodes words hnd (by omega);unfold Zku at a;unfold Zkv at b;obtain⟨L,O⟩:=f;dsimp only at *
 have h1':¬ (many:Int)<L.length:=by omega
 have h2':¬ (many:Int)<O.length:=by omega
 simp only[Yy]at a b;rw[zab Ze5.h466 rfl,b466];generalize L.any (lgL nodes words)=A at *
 generalize (O.any fun c=>lgN c nodes words)=B at *
 cases A with
 | true=>
  rw[if_pos rfl]at a;simp -implicitDefEqProofs[h1,h1',h2,h2',a]
 | false=>
  rw[if_neg (by decide)]at a;cases B with
  | true=>
   rw[if_pos rfl]at b;simp -implicitDefEqProofs[h1,h1',h2,h2',a,b]
  | false=>
   rw[if_neg (by decide)]at b;simp -implicitDefEqProofs[h1,h1',h2,h2',a,b]
end
section
variable{T:Tbl}[Ze3 T]
theorem zqt(l:List Nd)(hl:l.length≤4294967295):Za T 13 [.sl (Z1 l) .an]=some (.sl (Z1 l) .an):=by
 have hlo:Zp T 0 0 (.norm false [3]) l13_0 ⟨[(0,.sl (Z1 l) .an),(3,.bs (.loc 3) 1 3 0 0),(4,.i .i64 0)],[(.loc 3,⟨1,.own,3,[]⟩)],3⟩ =
   some (.n,⟨[(3,.bs (.loc 3) 1 3 0 l.length)],[(.loc 3,⟨1,.own,3,Z1 l⟩)],3⟩):=by
  have:=zat (T:=T) (k:=0) (id:=0) (g2:=.norm false [3]) (c:=l13_0) (fun i=>⟨[(0,.sl (Z1 l) .an),(3,.bs (.loc 3) 1 3 0 i),(4,.i .i64 (i:Int))],[(.loc 3,⟨1,.own,3,Z1 (l.take i)⟩)],3⟩) l.length
   (some (.n,⟨[(3,.bs (.loc 3) 1 3 0 l.length)],[(.loc 3,⟨1,.own,3,Z1 l⟩)],3⟩)) (fun i hi=>?_) ?_
  ·simpa using this
  ·have hg:l[i]? = some (l[i]'hi):=Ya hi;have hi':(i:Int)<l.length:=by omega
   have hws:=zbj hi (by omega);have hs:l.take (i+1)=l.take i++[l[i]'hi]:=by rw[Ybd hi]
   have hp:=zns (n:=i) (show (l.take i).length=i by rw[Y0];omega) (l[i]'hi);have hle:i≤(l.take i).length:=by rw[Y0];omega
   have h32:i+1≤4294967296:=by omega
   rw[hs];generalize hx:l[i]'hi=x at *
   generalize l.take i=m at *
   obtain⟨op,j,n⟩:=x;clear hs;simp -implicitDefEqProofs[l13_0,hi,hi',hg,hx,hws,hp,hle,h32]
  ·constructor<;>simp -implicitDefEqProofs[l13_0]
 rw[zab Ze3.h13 rfl,b13];simp -implicitDefEqProofs[hlo]
end
theorem zsp(m:List (List Nd))(x:List Nd):wkL (Zak m++[[.sl (Z1 x) .an]])=Zak (m++[x]):=by rw[znt,zx7]
theorem zo1(m:List Lt)(x:Lt):wkL (Z3 m++[[.s x.name,.sl (Z1 x.code) .an]])=Z3 (m++[x]):=by
 have:Z3 m++[Zi7 x]=Z3 (m++[x]):=zth m x;rw[show [[AV.s x.name,.sl (Z1 x.code) .an]]=[Zi7 x] from rfl,this,z0k]
section
variable{T:Tbl}[Ze3 T][Zgl T]
abbrev hpT(L:List Lt)(O:List (List Nd))(A:List Lt)(B:List (List Nd)):Heap:=
 [(.loc 1,⟨1,.str,2,[[.sl (Z3 L) .an,.sl (Zak O) .an]]⟩),(.loc 2,⟨2,.str,2,[[.sl [] .an,.sl [] .an]]⟩),
  (.loc 3,⟨3,.str,2,[[.bs ((BId.loc 3).fld 0) 4 2 0 A.length,.bs ((BId.loc 3).fld 1) 5 1 0 B.length]]⟩),((BId.loc 3).fld 0,⟨4,.own,2,Z3 A⟩),((BId.loc 3).fld 1,⟨5,.own,1,Zak B⟩)]
theorem zza(L:List Lt)(O:List (List Nd))(hn:∀x∈L,x.code.length≤4294967295)(h1:L.length≤100000) :
  Zp T 0 0 (.norm false [1,2,3]) l468_0 ⟨[(1,.ptr (.loc 1) 1 2 0 0),(2,.ptr (.loc 2) 2 2 0 0),(3,.ptr (.loc 3) 3 2 0 0),(4,.i .i64 ((0:Nat):Int))],hpT L O (L.take 0) [],7⟩ =
   some (.n,⟨[(1,.ptr (.loc 1) 1 2 0 0),(2,.ptr (.loc 2) 2 2 0 0),(3,.ptr (.loc 3) 3 2 0 0)],hpT L O L [],7⟩):=by
 refine zat (fun i=>⟨[(1,.ptr (.loc 1) 1 2 0 0),(2,.ptr (.loc 2) 2 2 0 0),(3,.ptr (.loc 3) 3 2 0 0),(4,.i .i64 ((i:Nat):Int))],hpT L O (L.take i) [],7⟩) L.length _ (fun i hi=>?_) ?_
 ·have hg:L[i]? = some (L[i]'hi):=Ya hi;have hi':(i:Int)<L.length:=by omega
  have hws:=zbj hi (by omega);have hs:L.take (i+1)=L.take i++[L[i]'hi]:=by rw[Ybd hi]
  have hml:(L.take i).length=i:=by rw[Y0];omega
  have hp:=zo1 (L.take i) (L[i]'hi);have h32:i+1≤4294967296:=by omega
  have c:=zqt (T:=T) (L[i]'hi).code (hn _ (Ys hi));rw[hs];generalize hx:L[i]'hi=x at *
  generalize L.take i=m at *
  obtain⟨nm,code⟩:=x;unfold hpT;rw[Yq,hml];have ht:List.take i (Z3 m)=Z3 m:=Yb (by rw[zgh];omega);dsimp only at *
  clear hs hn;simp -implicitDefEqProofs[l468_0,hi,hi',hg,hx,hws,hp,h32,c,hml,ht]
 ·rw[Ybm];constructor<;>simp -implicitDefEqProofs[l468_0]
theorem zzb(L:List Lt)(O:List (List Nd))(hn:∀c∈O,c.length≤4294967295)(h1:O.length≤100000) :
  Zp T 0 2 (.norm false [2,3]) l468_1 ⟨[(1,.ptr (.loc 1) 1 2 0 0),(2,.ptr (.loc 2) 2 2 0 0),(3,.ptr (.loc 3) 3 2 0 0),(5,.i .i64 ((0:Nat):Int))],hpT L O L (O.take 0),7⟩ =
   some (.n,⟨[(2,.ptr (.loc 2) 1 2 0 0),(3,.ptr (.loc 3) 2 2 0 0)],[(.loc 2,⟨1,.str,2,[[.sl [] .an,.sl [] .an]]⟩),
  (.loc 3,⟨2,.str,2,[[.bs ((BId.loc 3).fld 0) 3 2 0 L.length,.bs ((BId.loc 3).fld 1) 4 1 0 O.length]]⟩),((BId.loc 3).fld 0,⟨3,.own,2,Z3 L⟩),((BId.loc 3).fld 1,⟨4,.own,1,Zak O⟩)],6⟩):=by
 refine zat (fun i=>⟨[(1,.ptr (.loc 1) 1 2 0 0),(2,.ptr (.loc 2) 2 2 0 0),(3,.ptr (.loc 3) 3 2 0 0),(5,.i .i64 ((i:Nat):Int))],hpT L O L (O.take i),7⟩) O.length _ (fun i hi=>?_) ?_
 ·have hg:O[i]? = some (O[i]'hi):=Ya hi;have hi':(i:Int)<O.length:=by omega
  have hws:=zbj hi (by omega);have hs:O.take (i+1)=O.take i++[O[i]'hi]:=by rw[Ybd hi]
  have hml:(O.take i).length=i:=by rw[Y0];omega
  have hp:=zsp (O.take i) (O[i]'hi);have h32:i+1≤4294967296:=by omega
  have c:=zqt (T:=T) (O[i]'hi) (hn _ (Ys hi));rw[hs];generalize hx:O[i]'hi=x at *
  generalize O.take i=m at *
  unfold hpT;rw[Yq,hml];have ht:List.take i (Zak m)=Zak m:=Yb (by rw[zim];omega);clear hs hn;simp -implicitDefEqProofs[l468_1,hi,hi',hg,hx,hws,hp,h32,c,hml,ht]
 ·rw[Ybm];constructor<;>simp -implicitDefEqProofs[l468_1]
theorem zks(f:Fd)(hn:∀c∈codesD f,c.length≤4294967295)(h1:f.lets.length≤100000)(h2:f.outs.length≤100000):Za T 468 [efd f]=some (efd f):=by
 obtain⟨L,O⟩:=f;dsimp only at h1 h2;have a:=zza (T:=T) L O (fun x hx=>hn _ (Yr.2 (.inl (Yz.2 ⟨x,hx,rfl⟩)))) h1;have b:=zzb (T:=T) L O (fun c hc=>hn _ (Yr.2 (.inr hc))) h2;simp only[hpT,Yct,Yas,zxn,z0r,Yy]at a b;rw[zab Zgl.h468 rfl,b468];have e1:List.take L.length (Z3 L)=Z3 L:=Yb (by rw[zgh];exact Yd _);have e2:List.take O.length (Zak O)=Zak O:=Yb (by rw[zim];exact Yd _);simp -implicitDefEqProofs[a,b,e1,e2]
end
abbrev hpB(gk:Nat)(Q:PoF)(LS:List Fz)(s p L seen:Int)(F:List Fz)(m:Nat):Heap:=
 [(.bor 0,⟨0,.str,9,[[.b Q.t.1,.sl (Zb Q.t.2.1) .an,.sl (Zb Q.t.2.2) .an,.sl (Zf Q.y) .an,.sl (Zf Q.p) .an,.bs (.bor 1) 1 3 0 LS.length,.ptr (.bor 2) 2 3 0 0,.i .i64 seen,.bs (.bor 3) gk 3 0 m]]⟩),(.bor 1,⟨1,.own,3,Zf LS⟩),(.bor 2,bxG 2 s p L),(.bor 3,⟨gk,.own,3,Zf F⟩)]
section
variable{T:Tbl}[Z5 T][Zo T][Zy T][Zz T][Zq T][Zu T][Zj T][Zn T][Zs T][Za5 T][Z6 T][Zan T][Zcl T][Zaa T][Zaf T][Zbc T][Z4 T][Zaj T][Zai T][Zb5 T]
theorem z35(Q:PoF)(LS:List Fz)(s p L seen:Int)(F:List Fz)(m:Nat)(x:Fz)(hx:F[m]? = some x)(hm:m≤100000):Z0 T 490 [wP] (hpB 3 Q LS s p L seen F (m+1))=some (efz x,hpB 3 Q LS s p L seen F m):=by
 obtain⟨hlt,hge⟩:=Ye.1 hx;have hw:IntKind.wrap .i64 (m:Int)=m:=zac _ (by omega);have h1:(m:Int)<(m:Int)+1:=by omega
 have h2:(m:Int)≤(m:Int)+1:=by omega
 obtain⟨⟨q0,q1,q2⟩,qy,qp⟩:=Q;obtain⟨x0,x1,x2⟩:=x;rw[zal Z4.h490 rfl,b490];simp -implicitDefEqProofs[hx,hge,hlt,hw,h1,h2]
theorem z9s(P:Po)(ls:List Rat)(s p L seen:Int)(F:List Fz)(m:Nat)(x:Nd)(ha:arN x.op=0)(hn:x.n.length≤1000)(hy:x.op=3→0≤x.i∧x.i<P.y.length)(hp:x.op=4→0≤x.i∧x.i<P.p.length)(hl:x.op=5→0≤x.i∧x.i<ls.length) :
  Z0 T 489 [wP,.agg (Zdl x)] (hpB 3 P.f (fzs ls) s p L seen F m)=some (efz (fz (Zcj P ls x)),hpB 3 P.f (fzs ls) s p L seen F m):=by
 have hop:x.op=1∨x.op=2∨x.op=3∨x.op=4∨x.op=5:=by rcases zay x.op with ⟨e,h⟩ | ⟨e,h⟩ | ⟨e,h⟩ | ⟨e,h⟩<;>omega
 have c1:=zjv (T:=T) x.n (by omega);obtain⟨op,i,n⟩:=x;obtain⟨t,y,pp⟩:=P;dsimp only at *
 unfold Zcj Po.f;dsimp only;rw[zal Z4.h489 rfl,b489];rcases hop with rfl | rfl | rfl | rfl | rfl
 ·show _=some (efz (fz ((val n:Nat):Rat)),_);generalize fz ((val n:Nat):Rat)=z at *
  generalize fzs y=Y at *
  generalize fzs pp=PP at *
  generalize fzs ls=LL at *
  generalize fz t=tt at *
  obtain⟨t0,t1,t2⟩:=tt;simp -implicitDefEqProofs[c1]
 ·show _=some (efz (fz t),_);generalize fzs y=Y at *
  generalize fzs pp=PP at *
  generalize fzs ls=LL at *
  generalize fz t=tt at *
  obtain⟨t0,t1,t2⟩:=tt;simp -implicitDefEqProofs
 ·obtain⟨k,rfl,g1,g2,g3⟩:=zjt (hy rfl);have g4:=(Ye.1 g3).2;have hl2:(fzs y).length=y.length:=zar y;show _=some (efz (fz (gI y (k:Int))),_);generalize fz (gI y (k:Int))=z at *
  generalize fzs y=Y at *
  generalize fzs pp=PP at *
  generalize fzs ls=LL at *
  generalize fz t=tt at *
  obtain⟨t0,t1,t2⟩:=tt;simp -implicitDefEqProofs[g1,g2,g3,g4,hl2]
 ·obtain⟨k,rfl,g1,g2,g3⟩:=zjt (hp rfl);have g4:=(Ye.1 g3).2;have hl2:(fzs pp).length=pp.length:=zar pp;show _=some (efz (fz (gI pp (k:Int))),_);generalize fz (gI pp (k:Int))=z at *
  generalize fzs y=Y at *
  generalize fzs pp=PP at *
  generalize fzs ls=LL at *
  generalize fz t=tt at *
  obtain⟨t0,t1,t2⟩:=tt;simp -implicitDefEqProofs[g1,g2,g3,g4,hl2]
 ·obtain⟨k,rfl,g1,g2,g3⟩:=zjt (hl rfl);have g4:=(Ye.1 g3).2;have hl2:(fzs ls).length=ls.length:=zar ls;show _=some (efz (fz (gI ls (k:Int))),_);generalize fz (gI ls (k:Int))=z at *
  generalize fzs y=Y at *
  generalize fzs pp=PP at *
  generalize fzs ls=LL at *
  generalize fz t=tt at *
  obtain⟨t0,t1,t2⟩:=tt;simp -implicitDefEqProofs[g1,g2,g3,g4,hl2]
theorem zz9(Q:PoF)(LS:List Fz)(s p L seen:Int)(F:List Fz)(m:Nat)(x:Nd)(ha:arN x.op=0)(v:Fz)
  (c:Z0 T 489 [wP,.agg (Zdl x)] (hpB 3 Q LS s p L seen F m)=some (efz v,hpB 3 Q LS s p L seen F m)) :
  Z0 T 484 [wP,.agg (Zdl x)] (hpB 3 Q LS s p L seen F m)=some (.tup [efz v,.b true],hpB 3 Q LS s p L seen F m):=by
 have ca:=za9 (T:=T) x.op;rw[ha]at ca;obtain⟨⟨q0,q1,q2⟩,qy,qp⟩:=Q;obtain⟨op,i,n⟩:=x;rw[zal Z4.h484 rfl,b484];simp -implicitDefEqProofs[ca,c]
theorem z0a(Q:PoF)(LS:List Fz)(s p L seen:Int)(F:List Fz)(m:Nat)(x:Nd)(ha:arN x.op=1)(a:Rat)(hz:sz a≤129)(hx:F[m]? = some (fz a))(hm:m≤100000) :
  Z0 T 484 [wP,.agg (Zdl x)] (hpB 3 Q LS s p L seen F (m+1))=some (.tup [efz (fz (unV x a).1),.b (unV x a).2],hpB 3 Q LS s p L seen F m):=by
 have ca:=za9 (T:=T) x.op;rw[ha]at ca;have hop:x.op=6∨x.op=11:=by rcases zay x.op with ⟨e,h⟩ | ⟨e,h⟩ | ⟨e,h⟩ | ⟨e,h⟩<;>omega
 have cp:=z35 (T:=T) Q LS s p L seen F m (fz a) hx hm;have c6:=zql (T:=T) (fz a) (by rw[znp];omega);have c11:=zqq (T:=T) (fz a) x.i (by rw[znp];omega);rw[zpg]at c6 c11;obtain⟨⟨q0,q1,q2⟩,qy,qp⟩:=Q;obtain⟨op,i,n⟩:=x;dsimp only at *
 unfold unV;dsimp only;rw[zal Z4.h484 rfl,b484];rcases hop with rfl | rfl
 ·rw[if_pos rfl];dsimp only;generalize fz (-a)=z at *
  generalize fz a=u at *
  simp -implicitDefEqProofs[ca,cp,c6]
 ·rw[if_neg (by decide)];generalize fz (Zfa a i).1=z at *
  generalize (Zfa a i).2=ok at *
  generalize fz a=u at *
  simp -implicitDefEqProofs[ca,cp,c11]
theorem z0b(Q:PoF)(LS:List Fz)(s p L seen:Int)(F:List Fz)(m:Nat)(x:Nd)(ha:arN x.op=2)(a b:Rat)(hza:sz a≤129)(hzb:sz b≤129)(hx:F[m]? = some (fz a))(hx2:F[m+1]? = some (fz b))(hm:m≤90000) :
  Z0 T 484 [wP,.agg (Zdl x)] (hpB 3 Q LS s p L seen F (m+2))=some (.tup [efz (fz (biV x.op a b).1),.b (biV x.op a b).2],hpB 3 Q LS s p L seen F m):=by
 have ca:=za9 (T:=T) x.op;rw[ha]at ca;have hop:x.op=7∨x.op=8∨x.op=9∨x.op=10:=by rcases zay x.op with ⟨e,h⟩ | ⟨e,h⟩ | ⟨e,h⟩ | ⟨e,h⟩<;>omega
 have cp:=z35 (T:=T) Q LS s p L seen F m (fz a) hx (by omega);have cp2:=z35 (T:=T) Q LS s p L seen F (m+1) (fz b) hx2 (by omega);have sa:fsz (fz a)≤1000:=by rw[znp];omega
 have sb:fsz (fz b)≤1000:=by rw[znp];omega
 have c7:=zqm (T:=T) (fz a) (fz b) sa sb;have c8:=zqn (T:=T) (fz a) (fz b) sa sb;have c9:=zqo (T:=T) (fz a) (fz b) sa sb;have c10:=zqp (T:=T) (fz a) (fz b) sa sb;rw[zpg,zpg]at c7 c8 c9 c10;obtain⟨⟨q0,q1,q2⟩,qy,qp⟩:=Q;obtain⟨op,i,n⟩:=x;dsimp only at *
 unfold biV;rw[zal Z4.h484 rfl,b484];rcases hop with rfl | rfl | rfl | rfl
 ·rw[if_pos rfl];dsimp only;generalize fz (a+b)=z at *
  generalize fz a=u at *
  generalize fz b=w at *
  simp -implicitDefEqProofs[ca,cp,cp2,c7]
 ·rw[if_neg (by decide),if_pos rfl];dsimp only;generalize fz (a-b)=z at *
  generalize fz a=u at *
  generalize fz b=w at *
  simp -implicitDefEqProofs[ca,cp,cp2,c8]
 ·rw[if_neg (by decide),if_neg (by decide),if_pos rfl];dsimp only;generalize fz (a*b)=z at *
  generalize fz a=u at *
  generalize fz b=w at *
  simp -implicitDefEqProofs[ca,cp,cp2,c9]
 ·rw[if_neg (by decide),if_neg (by decide),if_neg (by decide)];dsimp only;generalize fz (a/b)=z at *
  generalize decide (b≠0)=ok at *
  generalize fz a=u at *
  generalize fz b=w at *
  simp -implicitDefEqProofs[ca,cp,cp2,c10]
end
abbrev Znb(z:Fz):Box:=⟨9,.str,3,[[.b z.1,.sl (Zb z.2.1) .an,.sl (Zb z.2.2) .an]]⟩
abbrev Znc(a b c d:Int):Box:=⟨10,.str,4,[[.i .i64 a,.i .i64 b,.i .i64 c,.i .i64 d]]⟩
abbrev hqB(gk:Nat)(Q:PoF)(LS:List Fz)(s p L seen:Int)(F:List Fz)(m:Nat)(z:Fz)(a b c d:Int):Heap:=
 [(.bor 0,⟨0,.str,9,[[.b Q.t.1,.sl (Zb Q.t.2.1) .an,.sl (Zb Q.t.2.2) .an,.sl (Zf Q.y) .an,.sl (Zf Q.p) .an,.bs (.bor 1) 1 3 0 LS.length,.ptr (.bor 2) 2 3 0 0,.i .i64 seen,.bs (.bor 3) gk 3 0 m]]⟩),(.bor 1,⟨1,.own,3,Zf LS⟩),(.bor 2,bxG 2 s p L),(.bor 3,⟨gk,.own,3,Zf F⟩),(.loc 4,Znb z),(.loc 5,Znc a b c d)]
def Ze7(gk:Nat)(Q:PoF)(LS:List Fz)(s p L seen:Int)(F:List Fz)(m:Nat)(code:List Nd)(i:Nat):St:=
 ⟨[(0,wP),(4,.ptr (.loc 4) 9 3 0 0),(5,.ptr (.loc 5) 10 4 0 0),(18,.sl (Z1 code) .an),(19,.i .i64 code.length),(20,.i .i64 i)],hqB gk Q LS s p L seen F m (false,[],[]) 0 0 0 0,12⟩
def Ziz(gk:Nat)(Q:PoF)(LS:List Fz)(s p L seen:Int)(F:List Fz)(m:Nat):Ex×St:=
 (.n,⟨[(0,wP),(4,.ptr (.loc 4) 9 3 0 0),(5,.ptr (.loc 5) 10 4 0 0)],hqB gk Q LS s p L seen F m (false,[],[]) 0 0 0 0,12⟩)
def Ze8(gk:Nat)(Q:PoF)(LS:List Fz)(s p L seen:Int)(F:List Fz)(m:Nat)(kind at_:Int):Ex×St:=
 (.r,⟨[(4,.ptr (.loc 4) 9 3 0 0),(5,.ptr (.loc 5) 10 4 0 0)],hqB gk Q LS s p L seen F m (fz 0) kind 0 0 at_,12⟩)
theorem zf3(m:List Fz)(v:Fz):wkL (Zf m++[[.b v.1,.sl (Zb v.2.1) .an,.sl (Zb v.2.2) .an]])=Zf (m++[v]):=by
 have:Zf m++[Zem v]=Zf (m++[v]):=zik m v;rw[show [[AV.b v.1,.sl (Zb v.2.1) .an,.sl (Zb v.2.2) .an]]=[Zem v] from rfl,this,zph]
section
variable{T:Tbl}[Z5 T][Zo T][Zy T][Zz T][Zq T][Zu T][Zj T][Zn T][Zs T][Za5 T][Z6 T][Zan T][Zcl T][Zaa T][Zaf T][Zbc T][Z4 T][Zaj T][Zai T][Zb5 T]
theorem zsb{gk:Nat}(hk:gk=3∨gk=8)(Q:PoF)(LS:List Fz)(s p L seen:Int)(F:List Fz)(m m2:Nat)(code:List Nd)(i:Nat)(x:Nd)(v:Fz)(hx:code[i]? = some x)(hl:code.length≤100000)(hm:m2≤F.length)(hF:F.length≤100000)(hs:0≤seen)(hs2:seen≤100000)(hv:fsz v≤10000)
  (c:Z0 T 484 [wP,.agg (Zdl x)] (hpB 3 Q LS s p L seen F m)=some (.tup [efz v,.b true],hpB 3 Q LS s p L seen F m2)) (hf:(Zd9 v:Int)≤L) :
  evX (orc T) T 4 l473_0 (Ze7 gk Q LS s p L seen F m code i)=some (.n,Ze7 8 Q LS (Zdv s) (Zek p v) L (seen+1) (F.take m2++[v]) (m2+1) code (i+1)):=by
 have cg:=zf5 (T:=T) s p L v hv;rw[decide_eq_true hf]at cg;obtain⟨hlt,hge⟩:=Ye.1 hx;have hlt':(i:Int)<code.length:=by omega
 have hws:=zbj hlt (by omega);have hw:IntKind.wrap .i64 (seen+1)=seen+1:=zac _ (by omega);have hpu:=zf3 (F.take m2) v;have htl:(F.take m2).length=m2:=by rw[Y0];omega
 have h32:m2+1≤4294967296:=by omega
 generalize Zdv s=s' at *
 generalize Zek p v=p' at *
 obtain⟨⟨q0,q1,q2⟩,qy,qp⟩:=Q;obtain⟨op,xi,n⟩:=x;obtain⟨v0,v1,v2⟩:=v;unfold Ze7;rcases hk with rfl | rfl
 ·simp -implicitDefEqProofs[l473_0,hlt,hlt',hx,hge,hws,c,cg,hw,hpu,hm,h32]
 ·simp -implicitDefEqProofs[l473_0,hlt,hlt',hx,hge,hws,c,cg,hw,hpu,hm,h32]
theorem zvr{gk:Nat}(hk:gk=3∨gk=8)(Q:PoF)(LS:List Fz)(s p L seen:Int)(F:List Fz)(m m2:Nat)(code:List Nd)(i:Nat)(x:Nd)(v:Fz)(hx:code[i]? = some x)
  (c:Z0 T 484 [wP,.agg (Zdl x)] (hpB 3 Q LS s p L seen F m)=some (.tup [efz v,.b false],hpB 3 Q LS s p L seen F m2)) :
  evX (orc T) T 4 l473_0 (Ze7 gk Q LS s p L seen F m code i)=some (Ze8 gk Q LS s p L seen F m2 3 seen):=by
 have c0:=zgq (T:=T);obtain⟨hlt,hge⟩:=Ye.1 hx;have hlt':(i:Int)<code.length:=by omega
 unfold Ze7 Ze8;generalize fz 0=Z at *
 obtain⟨z0,z1,z2⟩:=Z;obtain⟨⟨q0,q1,q2⟩,qy,qp⟩:=Q;obtain⟨op,xi,n⟩:=x;obtain⟨v0,v1,v2⟩:=v;rcases hk with rfl | rfl
 ·simp -implicitDefEqProofs[l473_0,hlt,hlt',hx,hge,c,c0]
 ·simp -implicitDefEqProofs[l473_0,hlt,hlt',hx,hge,c,c0]
theorem zvs{gk:Nat}(hk:gk=3∨gk=8)(Q:PoF)(LS:List Fz)(s p L seen:Int)(F:List Fz)(m m2:Nat)(code:List Nd)(i:Nat)(x:Nd)(v:Fz)(hx:code[i]? = some x)(hv:fsz v≤10000)
  (c:Z0 T 484 [wP,.agg (Zdl x)] (hpB 3 Q LS s p L seen F m)=some (.tup [efz v,.b true],hpB 3 Q LS s p L seen F m2)) (hf:¬ (Zd9 v:Int)≤L) :
  evX (orc T) T 4 l473_0 (Ze7 gk Q LS s p L seen F m code i)=some (Ze8 gk Q LS (Zdv s) (Zek p v) L seen F m2 6 seen):=by
 have c0:=zgq (T:=T);have cg:=zf5 (T:=T) s p L v hv;rw[decide_eq_false hf]at cg;obtain⟨hlt,hge⟩:=Ye.1 hx;have hlt':(i:Int)<code.length:=by omega
 generalize Zdv s=s' at *
 generalize Zek p v=p' at *
 unfold Ze7 Ze8;generalize fz 0=Z at *
 obtain⟨z0,z1,z2⟩:=Z;obtain⟨⟨q0,q1,q2⟩,qy,qp⟩:=Q;obtain⟨op,xi,n⟩:=x;obtain⟨v0,v1,v2⟩:=v;rcases hk with rfl | rfl
 ·simp -implicitDefEqProofs[l473_0,hlt,hlt',hx,hge,c,cg,c0]
 ·simp -implicitDefEqProofs[l473_0,hlt,hlt',hx,hge,c,cg,c0]
theorem zy2{gk:Nat}(hk:gk=3∨gk=8)(Q:PoF)(LS:List Fz)(s p L seen:Int)(F:List Fz)(m:Nat)(code:List Nd) :
  Zei (evX (orc T) T 4 l473_0 (Ze7 gk Q LS s p L seen F m code code.length))=true∧Zdr 4 0 (.norm false [0,4,5]) (evX (orc T) T 4 l473_0 (Ze7 gk Q LS s p L seen F m code code.length))=some (Ziz gk Q LS s p L seen F m):=by
 obtain⟨⟨q0,q1,q2⟩,qy,qp⟩:=Q;unfold Ze7 Ziz;rcases hk with rfl | rfl<;>constructor<;>simp -implicitDefEqProofs[l473_0]
end
section
variable{T:Tbl}[Z5 T][Zo T][Zy T][Zz T][Zq T][Zu T][Zj T][Zn T][Zs T][Za5 T][Z6 T][Zan T][Zcl T][Zaa T][Zaf T][Zbc T][Z4 T][Zaj T][Zai T][Zb5 T]
theorem z1a(gk:Nat)(Q:PoF)(LS:List Fz)(s p L seen:Int)(F:List Fz)(m:Nat)(kind at_:Int):Zdr 4 0 (.norm false [0,4,5]) (some (Ze8 gk Q LS s p L seen F m kind at_))=some (Ze8 gk Q LS s p L seen F m kind at_):=by
 unfold Ze8;simp -implicitDefEqProofs
def Zlq(P:Po)(lim:Nat)(ls:List Rat)(n:Nat)(R:Rat×Nat×Nat)(r:Ex×St):Prop:=
 (R.2.1=0∧∃gk s p F,(gk=3∨gk=8)∧F[0]? = some (fz R.1)∧F.length≤5000∧r=Ziz gk P.f (fzs ls) s p lim n F 1) ∨
 (R.2.1≠0∧∃gk s p seen F m,(gk=3∨gk=8)∧r=Ze8 gk P.f (fzs ls) s p lim seen F m R.2.1 R.2.2)
theorem zou(P:Po)(lim:Nat)(hlim:lim≤4096)(ls:List Rat)(hP:PvS P 1000)(hls:∀q∈ls,sz q≤1000)(code:List Nd)(hl:code.length≤3000)(hok:∀x∈code,okN P.y.length P.p.length ls.length x=true)(hn:thin 1000 code)(hwr:Z7 code=-1)(n0:Nat)(hn0:n0≤10000)(s0 p0:Int)(F0:List Fz)(hF0:F0.length≤5000) :
  ∃r,Zlq P lim ls (n0+code.length) (Zv lim P ls n0 [] code) r∧Zp T 4 0 (.norm false [0,4,5]) l473_0 (Ze7 3 P.f (fzs ls) s0 p0 lim n0 F0 0 code 0)=some r:=by
 refine zaz (fun x:Nat×List Rat×Nat×(Int×Int)×List Fz=>Ze7 x.2.2.1 P.f (fzs ls) x.2.2.2.1.1 x.2.2.2.1.2 lim ((n0+x.1:Nat):Int) x.2.2.2.2 x.2.1.length code x.1)
  (fun x=>x.1≤code.length∧(x.2.2.1=3∨x.2.2.1=8)∧x.2.2.2.2.take x.2.1.length=fzs x.2.1.reverse∧x.2.1.length≤x.2.2.2.2.length∧x.2.2.2.2.length≤5000∧(∀q∈x.2.1,sz q≤129)∧x.2.1.length≤x.1∧(∃j,Zt j x.2.1.length (code.drop x.1)=-1)∧Zv lim P ls (n0+x.1) x.2.1 (code.drop x.1)=Zv lim P ls n0 [] code)
  (fun x=>code.length-x.1) _ ?_ (0,[],3,(s0,p0),F0) ⟨Y1 _,.inl rfl,rfl,Y1 _,hF0,by simp,Yd _,⟨0,hwr⟩,rfl⟩
 rintro⟨i,s,gk,⟨c,p⟩,F⟩ ⟨hi,hk,hF,hsF,hFl,hz,hsi,⟨j,hw⟩,hW⟩
 dsimp only at *
 by_cases hlt:i<code.length
 ·have hx:code[i]? = some (code[i]'hlt):=Ya hlt;have hd:code.drop i=code[i]'hlt::code.drop (i+1):=Ym hlt;have hmem:=Ys hlt;generalize code[i]'hlt=x at *
  rw[hd]at hw hW;have hxn:=hn x hmem;have hxo:=z9b (hok x hmem);have h1:¬ (arN x.op<0∨(s.length:Int)<arN x.op):=by
   intro hh;unfold Zt at hw;rw[if_pos hh]at hw;omega
  have hw2:Zt (j+1) (s.length+1-arN x.op) (code.drop (i+1))=-1:=by
   unfold Zt at hw
   rwa [if_neg h1]at hw
  -- one round,by what the node makes of the stack
  have round:∀(v:Rat) (ok:Bool) (s':List Rat),Zam P ls s x=((v,ok),s')→sz v≤2000→s'.length≤s.length→(s'.length:Int)=s.length-arN x.op→(∀q∈s',q∈s)→F.take s'.length=fzs s'.reverse →
    Z0 T 484 [wP,.agg (Zdl x)] (hpB 3 P.f (fzs ls) c p lim ((n0+i:Nat):Int) F s.length)=some (.tup [efz (fz v),.b ok],hpB 3 P.f (fzs ls) c p lim ((n0+i:Nat):Int) F s'.length) →
    (∃y:Nat×List Rat×Nat×(Int×Int)×List Fz,(y.1≤code.length∧(y.2.2.1=3∨y.2.2.1=8)∧y.2.2.2.2.take y.2.1.length=fzs y.2.1.reverse∧y.2.1.length≤y.2.2.2.2.length∧y.2.2.2.2.length≤5000∧(∀q∈y.2.1,sz q≤129)∧y.2.1.length≤y.1∧(∃j,Zt j y.2.1.length (code.drop y.1)=-1)∧Zv lim P ls (n0+y.1) y.2.1 (code.drop y.1)=Zv lim P ls n0 [] code)∧code.length-y.1<code.length-i ∧
     evX (orc T) T 4 l473_0 (Ze7 gk P.f (fzs ls) c p lim ((n0+i:Nat):Int) F s.length code i)=some (.n,Ze7 y.2.2.1 P.f (fzs ls) y.2.2.2.1.1 y.2.2.2.1.2 lim ((n0+y.1:Nat):Int) y.2.2.2.2 y.2.1.length code y.1)) ∨
    (∃r,Zlq P lim ls (n0+code.length) (Zv lim P ls n0 [] code) r∧Zei (evX (orc T) T 4 l473_0 (Ze7 gk P.f (fzs ls) c p lim ((n0+i:Nat):Int) F s.length code i))=true ∧
     Zdr 4 0 (.norm false [0,4,5]) (evX (orc T) T 4 l473_0 (Ze7 gk P.f (fzs ls) c p lim ((n0+i:Nat):Int) F s.length code i))=some r):=by
   intro v ok s' hst hv hs's hlen hsub hF' hc;have hvf:fsz (fz v)≤10000:=by rw[znp];omega
   rw[Zv,hst]at hW;dsimp only at hW;cases ok with
   | false=>
    right;have e:=zvr (T:=T) hk P.f (fzs ls) c p lim ((n0+i:Nat):Int) F s.length s'.length code i x (fz v) hx hc;have ef:Zbd lim (v,false) (n0+i)=(0,3,n0+i):=rfl;rw[ef]at hW;rw[if_pos (by simp)]at hW;refine⟨Ze8 gk P.f (fzs ls) c p lim ((n0+i:Nat):Int) F s'.length 3 ((n0+i:Nat):Int),.inr ?_,by rw[e];rfl,by rw[e,z1a]⟩;rw[←hW];exact⟨by simp,gk,c,p,_,F,_,hk,rfl⟩
   | true=>
    by_cases hfit:Zck v≤lim
    ·left;have ef:Zbd lim (v,true) (n0+i)=(v,0,0):=by unfold Zbd;rw[if_neg (by simp),if_neg (by dsimp only;omega)]
     rw[ef]at hW;rw[if_neg (by simp)]at hW;have e:=zsb (T:=T) hk P.f (fzs ls) c p lim ((n0+i:Nat):Int) F s.length s'.length code i x (fz v) hx (by omega) (by omega) (by omega) (by omega) (by omega) hvf hc (by unfold Zck at hfit;omega);have hn1:((n0+i:Nat):Int)+1=((n0+(i+1):Nat):Int):=by omega
     rw[hn1]at e;have hl1:(F.take s'.length++[fz v]).length=s'.length+1:=by rw[Yq,Y0];simp only[Yi,Yas];omega
     refine⟨(i+1,v::s',8,(Zdv c,Zek p (fz v)),F.take s'.length++[fz v]),⟨by dsimp only;omega,.inr rfl,?_,?_,?_,?_,?_,⟨j+1,?_⟩,?_⟩,by dsimp only;omega,e⟩
     ·dsimp only;rw[Yi,Yb (by omega),hF'];simp[fzs]
     ·dsimp only;rw[Yi,hl1];exact Yd _
     ·dsimp only;rw[hl1];omega
     ·intro q hq;rcases Y6.1 hq with rfl | hq
      ·exact z1k hlim hfit
      ·exact hz q (hsub q hq)
     ·dsimp only;rw[Yi];omega
     ·dsimp only;rw[←hw2];congr 1;rw[Yi];omega
     ·dsimp only;rw[←hW];congr 1
    ·right;have ef:Zbd lim (v,true) (n0+i)=(0,6,n0+i):=by unfold Zbd;rw[if_neg (by simp),if_pos (by dsimp only;omega)]
     rw[ef]at hW;rw[if_pos (by simp)]at hW;have e:=zvs (T:=T) hk P.f (fzs ls) c p lim ((n0+i:Nat):Int) F s.length s'.length code i x (fz v) hx hvf hc (by unfold Zck at hfit;omega);refine⟨Ze8 gk P.f (fzs ls) (Zdv c) (Zek p (fz v)) lim ((n0+i:Nat):Int) F s'.length 6 ((n0+i:Nat):Int),.inr ?_,by rw[e];rfl,by rw[e,z1a]⟩;rw[←hW];exact⟨by simp,gk,_,_,_,F,_,hk,rfl⟩
  rcases zay x.op with ⟨e,ho⟩ | ⟨e,ho⟩ | ⟨e,ho⟩ | ⟨e,ho⟩
  ·have hst:Zam P ls s x=((Zcj P ls x,true),s):=by unfold Zam;rw[if_pos e]
   have cl:=z9s (T:=T) P ls c p lim ((n0+i:Nat):Int) F s.length x e hxn hxo.1 hxo.2.1 hxo.2.2;exact round _ true s hst (by have:=z0j (P:=P) hP hls hxn;omega) (Yd _) (by rw[e];omega) (fun q hq=>hq) hF (zz9 P.f (fzs ls) c p lim _ F s.length x e _ cl)
  ·cases s with
   | nil=>exfalso;apply h1;right;rw[e];decide
   | cons a s1=>
    have hst:Zam P ls (a::s1) x=(unV x a,s1):=by unfold Zam;rw[if_neg (by omega),if_pos e];rfl
    have hza:=hz a (by simp);have hFa:F[s1.length]? = some (fz a):=by
     have:(F.take (a::s1).length)[s1.length]? = some (fz a):=by rw[hF];simp[fzs]
     rwa [Y9,if_pos (by simp)]at this
    have hF1:F.take s1.length=fzs s1.reverse:=by
     have:(F.take (a::s1).length).take s1.length=fzs s1.reverse:=by rw[hF];simp[fzs]
     rwa [List.take_take,Yb4 (by simp)]at this
    have cv:=z0a (T:=T) P.f (fzs ls) c p lim ((n0+i:Nat):Int) F s1.length x e a hza hFa (by rw[Yi]at hsi;omega);exact round (unV x a).1 (unV x a).2 s1 hst (z9w hza) (by simp) (by rw[e,Yi];omega) (fun q hq=>by simp[hq]) hF1 cv
  ·cases s with
   | nil=>exfalso;apply h1;right;rw[e];decide
   | cons b s0=>
   cases s0 with
   | nil=>exfalso;apply h1;right;rw[e];simp
   | cons a s1=>
    have hst:Zam P ls (b::a::s1) x=(biV x.op a b,s1):=by unfold Zam;rw[if_neg (by omega),if_neg (by omega)];rfl
    have hza:=hz a (by simp);have hzb:=hz b (by simp);have hFa:F[s1.length]? = some (fz a):=by
     have:(F.take (b::a::s1).length)[s1.length]? = some (fz a):=by rw[hF];simp[fzs]
     rwa [Y9,if_pos (by simp only[Yi];omega)]at this
    have hFb:F[s1.length+1]? = some (fz b):=by
     have:(F.take (b::a::s1).length)[s1.length+1]? = some (fz b):=by rw[hF];simp[fzs]
     rwa [Y9,if_pos (by simp)]at this
    have hF1:F.take s1.length=fzs s1.reverse:=by
     have:(F.take (b::a::s1).length).take s1.length=fzs s1.reverse:=by rw[hF];simp[fzs]
     rwa [List.take_take,Yb4 (by simp;omega)]at this
    have cv:=z0b (T:=T) P.f (fzs ls) c p lim ((n0+i:Nat):Int) F s1.length x e a b hza hzb hFa hFb (by simp only[Yi]at hsi;omega);exact round (biV x.op a b).1 (biV x.op a b).2 s1 hst (z9x hza hzb) (by simp;omega) (by rw[e,Yi,Yi];omega) (fun q hq=>by simp[hq]) hF1 cv
  ·exfalso;apply h1;left;omega
 ·right;have hi2:i=code.length:=by omega
  subst hi2;rw[Y2]at hw hW;have hs1:s.length=1:=by
   unfold Zt at hw;split at hw
   ·omega
   ·omega
  obtain⟨v,rfl⟩:=Ybe.1 hs1;have e:=zy2 (T:=T) hk P.f (fzs ls) c p lim ((n0+code.length:Nat):Int) F 1 code;refine⟨Ziz gk P.f (fzs ls) c p lim ((n0+code.length:Nat):Int) F 1,.inl ?_,e.1,e.2⟩;have hR:Zv lim P ls (n0+code.length) [v] []=(v,0,0):=rfl;rw[hR]at hW;rw[←hW];have hFa:F[0]? = some (fz v):=by
   have:(F.take [v].length)[0]? = some (fz v):=by rw[hF];simp[fzs]
   rwa [Y9,if_pos (by simp)]at this
  exact⟨rfl,gk,c,p,F,hk,hFa,hFl,rfl⟩
end
section
variable{T:Tbl}[Z5 T][Zo T][Zy T][Zz T][Zq T][Zu T][Zj T][Zn T][Zs T][Za5 T][Z6 T][Zan T][Zcl T][Zaa T][Zaf T][Zbc T][Z4 T][Zaj T][Zai T][Zb5 T]
theorem zic(P:Po)(lim:Nat)(hlim:lim≤4096)(ls:List Rat)(hP:PvS P 1000)(hls:∀q∈ls,sz q≤1000)(code:List Nd)(hl:code.length≤3000)(hok:∀x∈code,okN P.y.length P.p.length ls.length x=true)(hn:thin 1000 code)(hwr:Z7 code=-1)(n0:Nat)(hn0:n0≤10000)(s0 p0:Int)(F0:List Fz)(m0:Nat)(hF0:F0.length≤5000) :
  ∃(gk:Nat) (s p seen:Int) (F:List Fz) (m:Nat),(gk=3∨gk=8)∧((Zv lim P ls n0 [] code).2.1=0→seen=((n0+code.length:Nat):Int)∧F.length≤5000) ∧
   Z0 T 473 [wP,.sl (Z1 code) .an] (hpB 3 P.f (fzs ls) s0 p0 lim n0 F0 m0)=some (.tup [efz (fz (Zv lim P ls n0 [] code).1),.agg [.i .i64 (Zv lim P ls n0 [] code).2.1,.i .i64 0,.i .i64 0,.i .i64 (Zv lim P ls n0 [] code).2.2]],hpB gk P.f (fzs ls) s p lim seen F m):=by
 obtain⟨r,hq,hlo⟩:=zou (T:=T) P lim hlim ls hP hls code hl hok hn hwr n0 hn0 s0 p0 F0 hF0;have hst:=zjw lim P ls code n0 [];have hat:=zgt lim P ls code n0 [];generalize Zv lim P ls n0 [] code=R at *
 obtain⟨v,kind,at_⟩:=R;dsimp only at *
 unfold Ze7 at hlo;have he:hqB 3 P.f (fzs ls) s0 p0 lim n0 F0 0 (false,[],[]) 0 0 0 0=[(.bor 0,⟨0,.str,9,[[.b P.f.t.1,.sl (Zb P.f.t.2.1) .an,.sl (Zb P.f.t.2.2) .an,.sl (Zf P.f.y) .an,.sl (Zf P.f.p) .an,.bs (.bor 1) 1 3 0 (fzs ls).length,.ptr (.bor 2) 2 3 0 0,.i .i64 n0,.bs (.bor 3) 3 3 0 0]]⟩),(.bor 1,⟨1,.own,3,Zf (fzs ls)⟩),(.bor 2,bxG 2 s0 p0 lim),(.bor 3,⟨3,.own,3,Zf F0⟩),(.loc 4,⟨9,.str,3,[[.b false,.sl [] .an,.sl [] .an]]⟩),(.loc 5,⟨10,.str,4,[[.i .i64 0,.i .i64 0,.i .i64 0,.i .i64 0]]⟩)]:=rfl;rw[he]at hlo;clear he;simp only[Yy]at hlo;rcases hq with ⟨h0,gk,s,p,F,hk,hF,hFl,rfl⟩ | ⟨h0,gk,s,p,seen,F,m,hk,rfl⟩
 ·dsimp only at h0 hF;subst h0;refine⟨gk,s,p,_,F,1,hk,fun _=>⟨rfl,hFl⟩,?_⟩;have ha:=hat rfl;subst ha;have hge:=(Ye.1 hF).2;have hlt:=(Ye.1 hF).1;unfold Ziz at hlo;generalize P.f=Q at *
  obtain⟨⟨q0,q1,q2⟩,qy,qp⟩:=Q;generalize fzs ls=LS at *
  generalize fz v=V at *
  obtain⟨v0,v1,v2⟩:=V;rw[zal Z4.h473 rfl,b473];clear hP hls hok hst hat hlim;rcases hk with rfl | rfl
  ·simp -implicitDefEqProofs[hlo,hF,hge,hlt]
  ·simp -implicitDefEqProofs[hlo,hF,hge,hlt]
 ·dsimp only at h0;refine⟨gk,s,p,seen,F,m,hk,fun h=>absurd h h0,?_⟩;have hv:=hst h0;subst hv;unfold Ze8 at hlo;dsimp only at hlo;generalize P.f=Q at *
  obtain⟨⟨q0,q1,q2⟩,qy,qp⟩:=Q;generalize fzs ls=LS at *
  generalize fz 0=V at *
  obtain⟨v0,v1,v2⟩:=V;rw[zal Z4.h473 rfl,b473];clear hP hls hok hst hat hlim;rcases hk with rfl | rfl
  ·simp -implicitDefEqProofs[hlo]
  ·simp -implicitDefEqProofs[hlo]
end
section
variable{T:Tbl}[Z5 T][Zo T][Zy T][Zz T][Zq T][Zu T][Zj T][Zn T][Zs T][Za5 T][Z6 T][Zan T][Zcl T][Zaa T][Zaf T][Zbc T][Z4 T][Zaj T][Zai T][Zb5 T][Zbp T][Zbz T][Zc2 T][Zbi T]
theorem zep(f:Fd)(x:PoF)(bits:Int)(h1:f.lets.length≤100000)(h2:f.outs.length≤100000)(hn:Zcn 1000 50000 f)(hz:Zaw f≤4294967295)(hs:∀x∈f.lets,x.name.length≤100000)(q:Int×Int×Int)(hq:Zeu f x.y.length x.p.length=some q) :
  Za T 467 [efd f,ept x,.i .i64 bits]=some (.tup [.sl [] .an,Zim 2 q.1 q.2.1 q.2.2]):=by
 have c:=zca (T:=T) f x.y.length x.p.length h1 h2 hn hz hs;rw[hq]at c;obtain⟨q1,q2,q3⟩:=q;unfold Ze6 at c;obtain⟨L,O⟩:=f;obtain⟨⟨t0,t1,t2⟩,y,p⟩:=x;dsimp only at *
 clear hq hn hz hs;rw[zab Z4.h467 rfl,b467];simp -implicitDefEqProofs[c]
abbrev hpE(f:Fd)(gk:Nat)(Q:PoF)(LS:List Fz)(s p L seen:Int)(F:List Fz)(m:Nat):Heap:=
 [(.loc 3,Zes 1 f),(.loc 7,⟨2,.str,4,[[.i .i64 0,.i .i64 0,.i .i64 0,.i .i64 0]]⟩),
  (.loc 36,⟨3,.str,9,[[.b Q.t.1,.sl (Zb Q.t.2.1) .an,.sl (Zb Q.t.2.2) .an,.sl (Zf Q.y) .an,.sl (Zf Q.p) .an,.bs ((BId.loc 36).fld 5) 4 3 0 LS.length,.ptr ((BId.loc 34).fld 7) 5 3 0 0,.i .i64 seen,.bs ((BId.loc 36).fld 8) gk 3 0 m]]⟩),
  ((BId.loc 36).fld 5,⟨4,.own,3,Zf LS⟩),((BId.loc 34).fld 7,bxG 5 s p L),((BId.loc 36).fld 8,⟨gk,.own,3,Zf F⟩)]
def Ze9(f:Fd)(Q:PoF)(LS:List Fz)(s p L seen:Int)(F:List Fz)(m i:Nat):St:=
 ⟨[(3,.ptr (.loc 3) 1 2 0 0),(7,.ptr (.loc 7) 2 4 0 0),(9,.ptr (.loc 36) 3 9 0 0),(38,.sl (Z3 f.lets) .an),(39,.i .i64 f.lets.length),(40,.i .i64 i)],hpE f 6 Q LS s p L seen F m,8⟩
def Zhp(f:Fd)(Q:PoF)(LS:List Fz)(s p L seen:Int)(F:List Fz)(m:Nat):Ex×St:=
 (.n,⟨[(3,.ptr (.loc 3) 1 2 0 0),(7,.ptr (.loc 7) 2 4 0 0),(9,.ptr (.loc 36) 3 9 0 0)],hpE f 6 Q LS s p L seen F m,8⟩)
def Zfs(kind at_:Int):Ex×St:=
 (.r,⟨[(6,.sl [] .an),(7,.ptr (.loc 7) 1 4 0 0)],[(.loc 7,⟨1,.str,4,[[.i .i64 kind,.i .i64 0,.i .i64 0,.i .i64 at_]]⟩)],3⟩)
theorem zy6(f:Fd)(Q:PoF)(LS:List Fz)(s p L seen:Int)(F:List Fz)(m i:Nat)(hi:i<f.lets.length)(hf:f.lets.length≤10)(hLS:LS.length=i)(V:Fz)(gk:Nat)(s2 p2 seen2:Int)(F2:List Fz)(m2:Nat)(hk:gk=3∨gk=8)
  (c5:Z0 T 473 [wP,.sl (Z1 (f.lets[i]'hi).code) .an] (hpB 3 Q LS s p L seen F m)=some (.tup [efz V,.agg [.i .i64 0,.i .i64 0,.i .i64 0,.i .i64 0]],hpB gk Q LS s2 p2 L seen2 F2 m2)) :
  evX (orc T) T 0 l467_0 (Ze9 f Q LS s p L seen F m i)=some (.n,Ze9 f Q (LS++[V]) s2 p2 L seen2 F2 m2 (i+1)):=by
 have hg:f.lets[i]? = some (f.lets[i]'hi):=Ya hi;have hi':(i:Int)<f.lets.length:=by omega
 have hws:=zbj hi (by omega);have hp:=zf3 LS V;have hle:i+1≤4294967296:=by omega
 unfold Ze9 hpE Zes;simp only[hpB]at c5;obtain⟨L0,O⟩:=f;obtain⟨⟨q0,q1,q2⟩,qy,qp⟩:=Q;obtain⟨v0,v1,v2⟩:=V;dsimp only at *
 generalize hx:L0[i]'hi=x at *
 obtain⟨nm,code⟩:=x;dsimp only at *
 rw[Yq];simp only[hLS]at c5 ⊢;have ht:List.take i LS=LS:=by rw[←hLS,Ybm]
 rcases hk with rfl | rfl
 ·simp -implicitDefEqProofs[l467_0,hi,hi',hg,hx,hws,c5,bxG,hLS,ht,hp,hle]
 ·simp -implicitDefEqProofs[l467_0,hi,hi',hg,hx,hws,c5,bxG,hLS,ht,hp,hle]
theorem z3d(f:Fd)(Q:PoF)(LS:List Fz)(s p L seen:Int)(F:List Fz)(m i:Nat)(hi:i<f.lets.length)(hf:f.lets.length≤10)(V:Fz)(gk:Nat)(s2 p2 seen2:Int)(F2:List Fz)(m2:Nat)(hk:gk=3∨gk=8)(kind at_:Int)(hne:kind≠0)
  (c5:Z0 T 473 [wP,.sl (Z1 (f.lets[i]'hi).code) .an] (hpB 3 Q LS s p L seen F m)=some (.tup [efz V,.agg [.i .i64 kind,.i .i64 0,.i .i64 0,.i .i64 at_]],hpB gk Q LS s2 p2 L seen2 F2 m2)) :
  Zei (evX (orc T) T 0 l467_0 (Ze9 f Q LS s p L seen F m i))=true∧Zdr 0 0 (.norm false [3,7,9]) (evX (orc T) T 0 l467_0 (Ze9 f Q LS s p L seen F m i))=some (Zfs kind at_):=by
 have hg:f.lets[i]? = some (f.lets[i]'hi):=Ya hi;have hi':(i:Int)<f.lets.length:=by omega
 unfold Ze9 hpE Zes Zfs;simp only[hpB]at c5;obtain⟨L0,O⟩:=f;obtain⟨⟨q0,q1,q2⟩,qy,qp⟩:=Q;obtain⟨v0,v1,v2⟩:=V;dsimp only at *
 generalize hx:L0[i]'hi=x at *
 obtain⟨nm,code⟩:=x;dsimp only at *
 rcases hk with rfl | rfl
 ·constructor<;>simp -implicitDefEqProofs[l467_0,hi,hi',hg,hx,c5,bxG,hne]
 ·constructor<;>simp -implicitDefEqProofs[l467_0,hi,hi',hg,hx,c5,bxG,hne]
theorem z89(f:Fd)(Q:PoF)(LS:List Fz)(s p L seen:Int)(F:List Fz)(m:Nat) :
  Zei (evX (orc T) T 0 l467_0 (Ze9 f Q LS s p L seen F m f.lets.length))=true∧Zdr 0 0 (.norm false [3,7,9]) (evX (orc T) T 0 l467_0 (Ze9 f Q LS s p L seen F m f.lets.length))=some (Zhp f Q LS s p L seen F m):=by
 unfold Ze9 hpE Zes Zhp hpE Zes;obtain⟨L0,O⟩:=f;obtain⟨⟨q0,q1,q2⟩,qy,qp⟩:=Q;dsimp only at *
 constructor<;>simp -implicitDefEqProofs[l467_0,bxG]
abbrev hpO(gk:Nat)(Q:PoF)(LS:List Fz)(s p L seen:Int)(F:List Fz)(m:Nat)(OS:List Fz):Heap:=
 [(.loc 7,⟨1,.str,4,[[.i .i64 0,.i .i64 0,.i .i64 0,.i .i64 0]]⟩),
  (.loc 36,⟨2,.str,9,[[.b Q.t.1,.sl (Zb Q.t.2.1) .an,.sl (Zb Q.t.2.2) .an,.sl (Zf Q.y) .an,.sl (Zf Q.p) .an,.bs ((BId.loc 36).fld 5) 3 3 0 LS.length,.ptr ((BId.loc 34).fld 7) 4 3 0 0,.i .i64 seen,.bs ((BId.loc 36).fld 8) gk 3 0 m]]⟩),
  ((BId.loc 36).fld 5,⟨3,.own,3,Zf LS⟩),((BId.loc 34).fld 7,bxG 4 s p L),((BId.loc 36).fld 8,⟨gk,.own,3,Zf F⟩),(.loc 14,⟨6,.own,3,Zf OS⟩)]
def Zfy(O:List (List Nd))(Q:PoF)(LS:List Fz)(s p L seen:Int)(F:List Fz)(m:Nat)(OS:List Fz)(i:Nat):St:=
 ⟨[(7,.ptr (.loc 7) 1 4 0 0),(9,.ptr (.loc 36) 2 9 0 0),(14,.bs (.loc 14) 6 3 0 OS.length),(67,.sl (Zak O) .an),(68,.i .i64 O.length),(69,.i .i64 i)],hpO 5 Q LS s p L seen F m OS,8⟩
def Zi0(OS:List Fz):Ex×St:=
 (.n,⟨[(7,.ptr (.loc 7) 1 4 0 0),(14,.bs (.loc 14) 2 3 0 OS.length)],[(.loc 7,⟨1,.str,4,[[.i .i64 0,.i .i64 0,.i .i64 0,.i .i64 0]]⟩),(.loc 14,⟨2,.own,3,Zf OS⟩)],4⟩)
theorem zy7(O:List (List Nd))(Q:PoF)(LS:List Fz)(s p L seen:Int)(F:List Fz)(m:Nat)(OS:List Fz)(i:Nat)(hi:i<O.length)(hf:O.length≤10)(hLS:OS.length=i)(V:Fz)(gk:Nat)(s2 p2 seen2:Int)(F2:List Fz)(m2:Nat)(hk:gk=3∨gk=8)
  (c5:Z0 T 473 [wP,.sl (Z1 (O[i]'hi)) .an] (hpB 3 Q LS s p L seen F m)=some (.tup [efz V,.agg [.i .i64 0,.i .i64 0,.i .i64 0,.i .i64 0]],hpB gk Q LS s2 p2 L seen2 F2 m2)) :
  evX (orc T) T 0 l467_1 (Zfy O Q LS s p L seen F m OS i)=some (.n,Zfy O Q LS s2 p2 L seen2 F2 m2 (OS++[V]) (i+1)):=by
 have hg:O[i]? = some (O[i]'hi):=Ya hi;have hi':(i:Int)<O.length:=by omega
 have hws:=zbj hi (by omega);have hp:=zf3 OS V;have hle:i+1≤4294967296:=by omega
 unfold Zfy hpO;simp only[hpB]at c5;obtain⟨⟨q0,q1,q2⟩,qy,qp⟩:=Q;obtain⟨v0,v1,v2⟩:=V;dsimp only at *
 generalize hx:O[i]'hi=x at *
 rw[Yq];simp only[hLS]at ⊢;have ht:List.take i OS=OS:=by rw[←hLS,Ybm]
 rcases hk with rfl | rfl
 ·simp -implicitDefEqProofs[l467_1,hi,hi',hg,hx,hws,c5,bxG,hLS,ht,hp,hle]
 ·simp -implicitDefEqProofs[l467_1,hi,hi',hg,hx,hws,c5,bxG,hLS,ht,hp,hle]
theorem z3e(O:List (List Nd))(Q:PoF)(LS:List Fz)(s p L seen:Int)(F:List Fz)(m:Nat)(OS:List Fz)(i:Nat)(hi:i<O.length)(hf:O.length≤10)(V:Fz)(gk:Nat)(s2 p2 seen2:Int)(F2:List Fz)(m2:Nat)(hk:gk=3∨gk=8)(kind at_:Int)(hne:kind≠0)
  (c5:Z0 T 473 [wP,.sl (Z1 (O[i]'hi)) .an] (hpB 3 Q LS s p L seen F m)=some (.tup [efz V,.agg [.i .i64 kind,.i .i64 0,.i .i64 0,.i .i64 at_]],hpB gk Q LS s2 p2 L seen2 F2 m2)) :
  Zei (evX (orc T) T 0 l467_1 (Zfy O Q LS s p L seen F m OS i))=true∧Zdr 0 2 (.norm false [7,14]) (evX (orc T) T 0 l467_1 (Zfy O Q LS s p L seen F m OS i))=some (Zfs kind at_):=by
 have hg:O[i]? = some (O[i]'hi):=Ya hi;have hi':(i:Int)<O.length:=by omega
 unfold Zfy hpO Zfs;simp only[hpB]at c5;obtain⟨⟨q0,q1,q2⟩,qy,qp⟩:=Q;obtain⟨v0,v1,v2⟩:=V;dsimp only at *
 generalize hx:O[i]'hi=x at *
 rcases hk with rfl | rfl
 ·constructor<;>simp -implicitDefEqProofs[l467_1,hi,hi',hg,hx,c5,bxG,hne]
 ·constructor<;>simp -implicitDefEqProofs[l467_1,hi,hi',hg,hx,c5,bxG,hne]
theorem z9a(O:List (List Nd))(Q:PoF)(LS:List Fz)(s p L seen:Int)(F:List Fz)(m:Nat)(OS:List Fz) :
  Zei (evX (orc T) T 0 l467_1 (Zfy O Q LS s p L seen F m OS O.length))=true∧Zdr 0 2 (.norm false [7,14]) (evX (orc T) T 0 l467_1 (Zfy O Q LS s p L seen F m OS O.length))=some (Zi0 OS):=by
 unfold Zfy hpO Zi0;obtain⟨⟨q0,q1,q2⟩,qy,qp⟩:=Q;dsimp only at *
 constructor<;>simp -implicitDefEqProofs[l467_1,bxG]
theorem zmx(f:Fd)(x:PoF)(bits:Int)(hx:PoS x 1000)(h1:f.lets.length≤100000)(h2:f.outs.length≤100000)(hn:Zcn 1000 50000 f)(hz:Zaw f≤4294967295)(hs:∀x∈f.lets,x.name.length≤100000)(hq:Zeu f x.y.length x.p.length=none)
  (kind at_:Int) (hlo:Zp T 0 0 (.norm false [3,7,9]) l467_0 (Ze9 f x.v.f [] 0 0 (Zcc bits) 0 [] 0 0)=some (Zfs kind at_)) :
  Za T 467 [efd f,ept x,.i .i64 bits]=some (.tup [.sl [] .an,Zim kind 0 0 at_]):=by
 have c:=zca (T:=T) f x.y.length x.p.length h1 h2 hn hz hs;rw[hq]at c;unfold Ze6 at c;have c2:=zfk (T:=T) x hx;have c4:=zfj (T:=T) bits;unfold Ze9 Zfs hpE Zes bxG at hlo;generalize Zcc bits=LI at *
 generalize x.v.f=Q at *
 obtain⟨L,O⟩:=f;obtain⟨⟨t0,t1,t2⟩,y,p⟩:=x;obtain⟨⟨q0,q1,q2⟩,qy,qp⟩:=Q;dsimp only at *
 clear hq hn hz hs hx;rw[zab Z4.h467 rfl,b467];simp only[Yy,Yas,zdr]at hlo;simp -implicitDefEqProofs[c,c2,c4,hlo,bxG]
theorem zmy(f:Fd)(x:PoF)(bits:Int)(hx:PoS x 1000)(h1:f.lets.length≤100000)(h2:f.outs.length≤100000)(hn:Zcn 1000 50000 f)(hz:Zaw f≤4294967295)(hs:∀x∈f.lets,x.name.length≤100000)(hq:Zeu f x.y.length x.p.length=none)
  (LS:List Fz) (s p:Int) (seen:Int) (F:List Fz) (m:Nat) (hlo:Zp T 0 0 (.norm false [3,7,9]) l467_0 (Ze9 f x.v.f [] 0 0 (Zcc bits) 0 [] 0 0)=some (Zhp f x.v.f LS s p (Zcc bits) seen F m))
  (kind at_:Int) (hl2:Zp T 0 2 (.norm false [7,14]) l467_1 (Zfy f.outs x.v.f LS s p (Zcc bits) seen F m [] 0)=some (Zfs kind at_)) :
  Za T 467 [efd f,ept x,.i .i64 bits]=some (.tup [.sl [] .an,Zim kind 0 0 at_]):=by
 have c:=zca (T:=T) f x.y.length x.p.length h1 h2 hn hz hs;rw[hq]at c;unfold Ze6 at c;have c2:=zfk (T:=T) x hx;have c4:=zfj (T:=T) bits;unfold Ze9 Zhp hpE Zes bxG at hlo;unfold Zfy Zfs hpO bxG at hl2;generalize Zcc bits=LI at *
 generalize x.v.f=Q at *
 obtain⟨L,O⟩:=f;obtain⟨⟨t0,t1,t2⟩,y,p⟩:=x;obtain⟨⟨q0,q1,q2⟩,qy,qp⟩:=Q;dsimp only at *
 clear hq hn hz hs hx;rw[zab Z4.h467 rfl,b467];simp only[Yy,Yas,zdr]at hlo hl2;simp -implicitDefEqProofs[c,c2,c4,hlo,hl2,bxG]
theorem zmz(f:Fd)(x:PoF)(bits:Int)(hx:PoS x 1000)(h1:f.lets.length≤100000)(h2:f.outs.length≤100000)(hn:Zcn 1000 50000 f)(hz:Zaw f≤4294967295)(hs:∀x∈f.lets,x.name.length≤100000)(hq:Zeu f x.y.length x.p.length=none)
  (LS:List Fz) (s p:Int) (seen:Int) (F:List Fz) (m:Nat) (hlo:Zp T 0 0 (.norm false [3,7,9]) l467_0 (Ze9 f x.v.f [] 0 0 (Zcc bits) 0 [] 0 0)=some (Zhp f x.v.f LS s p (Zcc bits) seen F m))
  (OS:List Fz) (hl2:Zp T 0 2 (.norm false [7,14]) l467_1 (Zfy f.outs x.v.f LS s p (Zcc bits) seen F m [] 0)=some (Zi0 OS)) :
  Za T 467 [efd f,ept x,.i .i64 bits]=some (.tup [.sl (Zf OS) .an,Zim 0 0 0 0]):=by
 have c:=zca (T:=T) f x.y.length x.p.length h1 h2 hn hz hs;rw[hq]at c;unfold Ze6 at c;have c2:=zfk (T:=T) x hx;have c4:=zfj (T:=T) bits;unfold Ze9 Zhp hpE Zes bxG at hlo;unfold Zfy Zi0 hpO bxG at hl2;generalize Zcc bits=LI at *
 generalize x.v.f=Q at *
 obtain⟨L,O⟩:=f;obtain⟨⟨t0,t1,t2⟩,y,p⟩:=x;obtain⟨⟨q0,q1,q2⟩,qy,qp⟩:=Q;dsimp only at *
 clear hq hn hz hs hx;rw[zab Z4.h467 rfl,b467];simp only[Yy,Yas,zdr]at hlo hl2;simp -implicitDefEqProofs[c,c2,c4,hlo,hl2,bxG]
end
def Zd8(l:List (List Nd)):Nat:=(l.map List.length).sum
@[simp] theorem zm0(c:List Nd)(l:List (List Nd)):Zd8 (c::l)=c.length+Zd8 l:=rfl
theorem z3f{lim:Nat}(hlim:lim≤4096){P:Po}{ls:List Rat}{dim pars lets:Int}{c:List Nd}{n:Nat}(h:Za0 dim pars lets c<0)(h0:(Zv lim P ls n [] c).2.1=0):sz (Zv lim P ls n [] c).1≤1000:=by
 obtain⟨t,ht,rfl,_⟩:=za6 h;rw[zxm _ _ _ _ ht]at h0 ⊢;have:=z1k hlim (z1j h0).2;omega
section
variable{T:Tbl}[Z5 T][Zo T][Zy T][Zz T][Zq T][Zu T][Zj T][Zn T][Zs T][Za5 T][Z6 T][Zan T][Zcl T][Zaa T][Zaf T][Zbc T][Z4 T][Zaj T][Zai T][Zb5 T][Zbp T][Zbz T][Zc2 T][Zbi T]
theorem z3g(f:Fd)(P:Po)(lim:Nat)(hlim:lim≤4096)(hP:PvS P 1000)(hF:FineD f P.y.length P.p.length)(hn:Zcn 1000 50000 f) :
  ∃r,(((Zbv lim P 0 [] (f.lets.map (·.code))).2.2.1=0∧∃s p F m,F.length≤5000∧(Zbv lim P 0 [] (f.lets.map (·.code))).2.1.length=f.lets.length∧(∀q∈(Zbv lim P 0 [] (f.lets.map (·.code))).2.1,sz q≤1000)∧(Zbv lim P 0 [] (f.lets.map (·.code))).1≤Zd8 (f.lets.map (·.code)) ∧
    r=Zhp f P.f (fzs (Zbv lim P 0 [] (f.lets.map (·.code))).2.1) s p lim ((Zbv lim P 0 [] (f.lets.map (·.code))).1:Nat) F m) ∨
   ((Zbv lim P 0 [] (f.lets.map (·.code))).2.2.1≠0∧r=Zfs (Zbv lim P 0 [] (f.lets.map (·.code))).2.2.1 (Zbv lim P 0 [] (f.lets.map (·.code))).2.2.2)) ∧
   Zp T 0 0 (.norm false [3,7,9]) l467_0 (Ze9 f P.f [] 0 0 lim 0 [] 0 0)=some r:=by
 refine zaz (fun q:Nat×List Rat×Nat×(Int×Int)×List Fz×Nat=>Ze9 f P.f (fzs q.2.1) q.2.2.2.1.1 q.2.2.2.1.2 lim (q.2.2.1:Nat) q.2.2.2.2.1 q.2.2.2.2.2 q.1)
  (fun q=>q.1≤f.lets.length∧q.2.1.length=q.1∧(∀u∈q.2.1,sz u≤1000)∧q.2.2.2.2.1.length≤5000∧q.2.2.1+Zd8 ((f.lets.drop q.1).map (·.code))≤Zd8 (f.lets.map (·.code))∧Zbv lim P q.2.2.1 q.2.1 ((f.lets.drop q.1).map (·.code))=Zbv lim P 0 [] (f.lets.map (·.code)))
  (fun q=>f.lets.length-q.1) _ ?_ (0,[],0,(0,0),[],0) ⟨Y1 _,rfl,by simp,by simp,by simp,rfl⟩
 rintro⟨i,ls,n0,⟨s,p⟩,F,m⟩ ⟨hi,hls,hsz,hFl,hsum,hev⟩
 dsimp only at *
 obtain⟨w1,w2,w3,w4,w5,w6,w7⟩:=hF.wh;have hS:Zd8 (f.lets.map (·.code))≤300:=by
  have:Zaw f=Zd8 (f.lets.map (·.code))+Zd8 f.outs:=by unfold Zaw codesD Zd8;rw[Yap,Yay]
  omega
 by_cases hlt:i<f.lets.length
 ·have hd:f.lets.drop i=f.lets[i]'hlt::f.lets.drop (i+1):=Ym hlt;have hpl:=hF.lets i _ (Ya hlt);have hth:=hn (f.lets[i]'hlt).code (Yr.2 (.inl (Yz.2 ⟨_,Ys hlt,rfl⟩)));rw[hd,Y3,zm0]at hsum;rw[hd,Y3,Zbv]at hev;obtain⟨t,ht,ee,hok⟩:=za6 hpl;obtain⟨gk,s2,p2,seen2,F2,m2,hk,h5a,c5⟩:=zic (T:=T) P lim hlim ls hP hsz (f.lets[i]'hlt).code (by omega) (by rw[hls];exact hok) hth.2 (by rw[←ee];exact zcc ht) n0 (by omega) s p F m hFl;by_cases h0:(Zv lim P ls n0 [] (f.lets[i]'hlt).code).2.1=0
  ·left;have hat:=zgt lim P ls _ _ _ h0;have hsv:=z3f hlim hpl h0;rw[if_neg (by simpa using h0)]at hev;obtain⟨h5b,h5c⟩:=h5a h0;rw[h0,hat]at c5;have:=zy6 (T:=T) f P.f (fzs ls) s p lim (n0:Nat) F m i hlt w6 (by rw[zar];exact hls) _ gk s2 p2 seen2 F2 m2 hk c5;refine⟨(i+1,ls++[(Zv lim P ls n0 [] (f.lets[i]'hlt).code).1],n0+(f.lets[i]'hlt).code.length,(s2,p2),F2,m2),⟨by dsimp only;omega,by simp[hls],?_,h5c,by dsimp only;omega,hev⟩,by dsimp only;omega,?_⟩
   ·intro u hu;rcases Yr.1 hu with hu | hu
    ·exact hsz u hu
    ·rw[Yad.1 hu];exact hsv
   ·rw[this,h5b];simp[fzs]
  ·right;rw[if_pos h0]at hev;rw[←hev];have hk0:((Zv lim P ls n0 [] (f.lets[i]'hlt).code).2.1:Int)≠0:=by omega
   exact⟨_,.inr ⟨h0,rfl⟩,z3d (T:=T) f P.f (fzs ls) s p lim (n0:Nat) F m i hlt w6 _ gk s2 p2 seen2 F2 m2 hk _ _ hk0 c5⟩
 ·right;have hil:i=f.lets.length:=by omega
  subst hil;rw[Y2,Yca,Zbv]at hev;rw[←hev];rw[Y2,Yca]at hsum;exact⟨_,.inl ⟨rfl,s,p,F,m,hFl,hls,hsz,by have:Zd8 []=0:=rfl;dsimp only;omega,rfl⟩,z89 (T:=T) f P.f (fzs ls) s p lim (n0:Nat) F m⟩
theorem z3h(f:Fd)(P:Po)(lim:Nat)(hlim:lim≤4096)(hP:PvS P 1000)(hF:FineD f P.y.length P.p.length)(hn:Zcn 1000 50000 f)(ls:List Rat)(hll:ls.length=f.lets.length)(hls:∀q∈ls,sz q≤1000)(n0:Nat)(hn0:n0≤300)(s p:Int)(F:List Fz)(m:Nat)(hFl:F.length≤5000) :
  ∃r,(((Zc4 lim P ls n0 [] f.outs).2.1=0∧r=Zi0 (fzs (Zc4 lim P ls n0 [] f.outs).1)) ∨
   ((Zc4 lim P ls n0 [] f.outs).2.1≠0∧(Zc4 lim P ls n0 [] f.outs).1=[]∧r=Zfs (Zc4 lim P ls n0 [] f.outs).2.1 (Zc4 lim P ls n0 [] f.outs).2.2)) ∧
   Zp T 0 2 (.norm false [7,14]) l467_1 (Zfy f.outs P.f (fzs ls) s p lim (n0:Nat) F m [] 0)=some r:=by
 refine zaz (fun q:Nat×List Rat×Nat×(Int×Int)×List Fz×Nat=>Zfy f.outs P.f (fzs ls) q.2.2.2.1.1 q.2.2.2.1.2 lim (q.2.2.1:Nat) q.2.2.2.2.1 q.2.2.2.2.2 (fzs q.2.1) q.1)
  (fun q=>q.1≤f.outs.length∧q.2.1.length=q.1∧q.2.2.2.2.1.length≤5000∧q.2.2.1+Zd8 (f.outs.drop q.1)≤n0+Zd8 f.outs∧Zc4 lim P ls q.2.2.1 q.2.1 (f.outs.drop q.1)=Zc4 lim P ls n0 [] f.outs)
  (fun q=>f.outs.length-q.1) _ ?_ (0,[],n0,(s,p),F,m) ⟨Y1 _,rfl,hFl,by simp,rfl⟩
 rintro⟨i,os,n1,⟨s,p⟩,F,m⟩ ⟨hi,hos,hFl,hsum,hev⟩
 dsimp only at *
 obtain⟨w1,w2,w3,w4,w5,w6,w7⟩:=hF.wh;have hS:Zd8 f.outs≤300:=by
  have:Zaw f=Zd8 (f.lets.map (·.code))+Zd8 f.outs:=by unfold Zaw codesD Zd8;rw[Yap,Yay]
  omega
 by_cases hlt:i<f.outs.length
 ·have hd:f.outs.drop i=f.outs[i]'hlt::f.outs.drop (i+1):=Ym hlt;have hpl:=hF.outs _ (Ys hlt);have hth:=hn (f.outs[i]'hlt) (Yr.2 (.inr (Ys hlt)));rw[hd,zm0]at hsum;rw[hd,Zc4]at hev;obtain⟨t,ht,ee,hok⟩:=za6 hpl;obtain⟨gk,s2,p2,seen2,F2,m2,hk,h5a,c5⟩:=zic (T:=T) P lim hlim ls hP hls (f.outs[i]'hlt) (by omega) (by rw[hll];exact hok) hth.2 (by rw[←ee];exact zcc ht) n1 (by omega) s p F m hFl;by_cases h0:(Zv lim P ls n1 [] (f.outs[i]'hlt)).2.1=0
  ·left;have hat:=zgt lim P ls _ _ _ h0;rw[if_neg (by simpa using h0)]at hev;obtain⟨h5b,h5c⟩:=h5a h0;rw[h0,hat]at c5;have:=zy7 (T:=T) f.outs P.f (fzs ls) s p lim (n1:Nat) F m (fzs os) i hlt (by omega) (by rw[zar];exact hos) _ gk s2 p2 seen2 F2 m2 hk c5;refine⟨(i+1,os++[(Zv lim P ls n1 [] (f.outs[i]'hlt)).1],n1+(f.outs[i]'hlt).length,(s2,p2),F2,m2),⟨by dsimp only;omega,by simp[hos],h5c,by dsimp only;omega,hev⟩,by dsimp only;omega,?_⟩;rw[this,h5b];simp[fzs]
  ·right;rw[if_pos h0]at hev;rw[←hev];have hk0:((Zv lim P ls n1 [] (f.outs[i]'hlt)).2.1:Int)≠0:=by omega
   exact⟨_,.inr ⟨h0,rfl,rfl⟩,z3e (T:=T) f.outs P.f (fzs ls) s p lim (n1:Nat) F m (fzs os) i hlt (by omega) _ gk s2 p2 seen2 F2 m2 hk _ _ hk0 c5⟩
 ·right;have hil:i=f.outs.length:=by omega
  subst hil;rw[Y2,Zc4]at hev;rw[←hev];exact⟨_,.inl ⟨rfl,rfl⟩,z9a (T:=T) f.outs P.f (fzs ls) s p lim (n1:Nat) F m (fzs os)⟩
theorem zkq(f:Fd)(x:PoF)(bits:Int)(hx:PoS x 1000)(h1:f.lets.length≤100000)(h2:f.outs.length≤100000)(hn:Zcn 1000 50000 f)(hz:Zaw f≤4294967295)(hs:∀x∈f.lets,x.name.length≤100000)(hq:Zeu f x.y.length x.p.length=none) :
  Za T 467 [efd f,ept x,.i .i64 bits]=some (.tup [.sl (Zf (fzs (evD (Zcc bits).toNat x.v f).1)) .an,Zim (evD (Zcc bits).toNat x.v f).2.1 0 0 (evD (Zcc bits).toNat x.v f).2.2]):=by
 obtain⟨hl1,hl2⟩:=zsg bits;have hyl:x.v.y.length=x.y.length:=by simp[PoF.v]
 have hpl:x.v.p.length=x.p.length:=by simp[PoF.v]
 have hF:=zd7 hq;rw[←hyl,←hpl]at hF;have hfz:fzs []=[]:=rfl;obtain⟨r,hr,hlo⟩:=z3g (T:=T) f x.v (Zcc bits).toNat hl2 (zv1 hx) hF hn;rw[hl1]at hlo hr;unfold evD;rcases hr with ⟨h0,s,p,F,m,hFl,hll,hls,hn0,rfl⟩ | ⟨h0,rfl⟩
 ·rw[if_neg (by simpa using h0)];have hS:Zd8 (f.lets.map (·.code))≤300:=by
   have:Zaw f=Zd8 (f.lets.map (·.code))+Zd8 f.outs:=by unfold Zaw codesD Zd8;rw[Yap,Yay]
   have:=hF.wh.2.2.2.2.2.2;omega
  obtain⟨r2,hr2,hlo2⟩:=z3h (T:=T) f x.v (Zcc bits).toNat hl2 (zv1 hx) hF hn _ hll hls _ (Yc hn0 hS) s p F m hFl;rw[hl1]at hlo2;rcases hr2 with ⟨g0,rfl⟩ | ⟨g0,g1,rfl⟩
  ·have:=zmz (T:=T) f x bits hx h1 h2 hn hz hs hq _ s p _ F m hlo _ hlo2;rw[this,g0];have hat:(Zc4 (Zcc bits).toNat x.v (Zbv (Zcc bits).toNat x.v 0 [] (f.lets.map (·.code))).2.1 (Zbv (Zcc bits).toNat x.v 0 [] (f.lets.map (·.code))).1 [] f.outs).2.2=0:=by
    clear hlo2 hlo this;generalize (Zbv (Zcc bits).toNat x.v 0 [] (f.lets.map (·.code))).2.1=ls at *
    generalize (Zbv (Zcc bits).toNat x.v 0 [] (f.lets.map (·.code))).1=n at *
    generalize f.outs=O at *
    have:∀(O:List (List Nd)) (n:Nat) (os:List Rat),(Zc4 (Zcc bits).toNat x.v ls n os O).2.1=0→(Zc4 (Zcc bits).toNat x.v ls n os O).2.2=0:=by
     intro O
     induction O with
     | nil=>intro n os h;rfl
     | cons c r ih=>
      intro n os h;unfold Zc4 at h ⊢;split
      ·next hh=>rw[if_pos hh]at h;exact absurd h hh
      ·next hh=>rw[if_neg hh]at h;exact ih _ _ h
    exact this _ _ _ g0
   rw[hat]
   rfl
  ·have:=zmy (T:=T) f x bits hx h1 h2 hn hz hs hq _ s p _ F m hlo _ _ hlo2;rw[this,g1]
   rfl
 ·rw[if_pos h0];have:=zmx (T:=T) f x bits hx h1 h2 hn hz hs hq _ _ hlo;rw[this,hfz]
  rfl
end
theorem znq{l:List Nd}{many words:Nat}(h:lgN l many words=false):l.length≤many∧thin words l:=by
 unfold lgN at h;have h1:l.length≤many:=by
  simp only[Ycg,decide_eq_false_iff_not]at h;omega
 refine⟨h1,fun x hx=>?_⟩;rw[Yb h1]at h;simp only[Ycg,List.any_eq_false,decide_eq_true_eq]at h;have:=h.2 x hx;omega
theorem zxu{f:Fd}{many nodes words:Nat}(h:lgF f many nodes words=false):f.lets.length≤many∧f.outs.length≤many∧(∀x∈f.lets,x.name.length≤100)∧∀c∈codesD f,c.length≤nodes∧thin words c:=by
 unfold lgF at h;simp only[Ycg,decide_eq_false_iff_not,List.any_eq_false]at h;obtain⟨⟨⟨h1,h2⟩,h3⟩,h4⟩:=h;refine⟨by omega,by omega,fun x hx=>?_,fun c hc=>?_⟩
 ·have:=h3 x hx;unfold lgL at this;simp only[Yb3,decide_eq_true_eq,not_or]at this;omega
 ·rcases Yr.1 hc with hc | hc
  ·obtain⟨x,hx,rfl⟩:=Yz.1 hc;have:=h3 x hx;unfold lgL at this;simp only[Yb3,not_or,Bool.not_eq_true]at this;exact znq this.2
  ·have:=h4 c hc;simp only[Bool.not_eq_true]at this;exact znq this
theorem ztl{l:List (List Nd)}{B:Nat}(h:∀c∈l,c.length≤B):(l.map List.length).sum≤l.length*B:=by
 induction l with
 | nil=>simp
 | cons c r ih=>
  have h1:=h c (by simp);have h2:=ih fun d hd=>h d (by simp[hd]);rw[Y3,Ydu,Yi,Nat.succ_mul];omega
theorem zwf(x:Nd)(hn:x.n.length≤2):fsz (Zdo x).n≤1000:=by
 unfold Zdo;split
 ·have h1:=z09 x.n;have h2:(fz ((val x.n:Nat):Rat)).2.2=[1]:=by
   unfold fz;simp
   decide +kernel
  show fsz (fz ((val x.n:Nat):Rat))≤1000;unfold fsz;rw[h2];simp only[Yi,Yas];omega
 ·split
  ·show fsz blk≤1000
   decide
  ·show fsz blk≤1000
   decide
theorem zo4{C:List Ins}{x:Ins}(hC:∀y∈C,fsz y.n≤1000)(hx:fsz x.n≤1000):∀y∈(Zb9 C x).1,fsz y.n≤1000:=by
 unfold Zb9;split
 ·exact hC
 ·intro y hy;rcases Yr.1 hy with h | h
  ·exact hC y h
  ·rw[Yad]at h;rw[h];exact hx
theorem z9e{Ls:List Nat}{C:List Ins}{s:List Nat}{x:Nd}(hC:∀y∈C,fsz y.n≤1000)(hn:x.n.length≤2):∀y∈(ndI Ls C s x).1,fsz y.n≤1000:=by
 have hb:fsz blk≤1000:=by decide
 unfold ndI;split
 ·exact hC
 ·split
  ·exact zo4 hC (zwf x hn)
  ·split
   ·exact zo4 hC hb
   ·exact zo4 hC hb
theorem zwg{Ls:List Nat}:∀(c:List Nd) (q:Mq),(∀y∈q.C,fsz y.n≤1000)→thin 2 c→∀y∈(c.foldl (Zag Ls) q).C,fsz y.n≤1000
 | [],q,h,_=>h
 | x::c,q,h,hl=>zwg c (Zag Ls q x) (z9e h (hl x Yp)) fun y hy=>hl y (Yj _ hy)
theorem z3m{f:Fd}(h:∀c∈codesD f,thin 2 c):∀y∈(Zaz f).C,fsz y.n≤1000:=by
 have h1:∀(L:List (List Nd)) (q:Fq),(∀y∈q.C,fsz y.n≤1000)→(∀c∈L,thin 2 c)→∀y∈(L.foldl ltQ q).C,fsz y.n≤1000:=by
  intro L
  induction L with
  | nil=>intro q hq _;exact hq
  | cons c L ih=>intro q hq hL;exact ih (ltQ q c) (zwg c ⟨q.C,q.W,[]⟩ hq (hL c Yp)) fun d hd=>hL d (Yj _ hd)
 have h2:∀(Ls:List Nat) (L:List (List Nd)) (q:Fq),(∀y∈q.C,fsz y.n≤1000)→(∀c∈L,thin 2 c)→∀y∈(L.foldl (ouQ Ls) q).C,fsz y.n≤1000:=by
  intro Ls L
  induction L with
  | nil=>intro q hq _;exact hq
  | cons c L ih=>intro q hq hL;exact ih (ouQ Ls q c) (zwg c ⟨q.C,q.W,[]⟩ hq (hL c Yp)) fun d hd=>hL d (Yj _ hd)
 unfold codesD at h;exact h2 _ f.outs _ (h1 _ _ (fun y hy=>by cases hy) fun c hc=>h c (Y4 _ hc)) fun c hc=>h c (Yw _ hc)
theorem zm1{lim:Nat}{t:Tp}{P:Po}(h:Zfz t P.y.length P.p.length=false):Zf0 lim t P=([],2,0):=by
 have e:Zb0 lim t P=([],2,0):=by unfold Zb0;rw[h];rfl
 unfold Zf0;rw[e,if_neg (by decide)]
section
variable{T:Tbl}[Zai T][Zav T][Z5 T][Zo T][Zy T][Zz T][Zq T][Zu T][Zj T][Zn T][Zs T][Za5 T][Z6 T][Zan T][Zcl T][Zaa T][Zaf T][Zbc T][Z4 T][Zaj T][Zb5 T][Zbp T][Zbz T][Zc2 T][Zbi T][Ze4 T][Ze5 T][Ze3 T][Zgl T]
 [Za2 T] [Zix T] [Zb3 T] [Zdu T] [Zb6 T] [Zb7 T] [Zbo T] [Zb8 T] [Zc3 T] [Zdf T] [Zcg T] [Zch T] [Zds T] [Zdt T] [Zej T] [Zgm T] [Zcv T]
theorem zsr(f:Fd)(x:PoF)(bits:Int):Za T 676 [efd f,ept x,.i .i64 bits]=some (.b true):=by
 have hw:=zo3 (T:=T);have cl:=zo6 (T:=T) f 6 15 2 (by decide) (by decide);have cl2:=zsq (T:=T) x 6 2 (by decide);simp only[Int.cast_ofNat_Int]at cl cl2;cases hL:lgF f 6 15 2 with
 | true=>
  rw[hL]at cl;obtain⟨L,O⟩:=f;obtain⟨⟨x0,x1,x2⟩,xy,xp⟩:=x;rw[zab Zcv.h676 rfl,b676];simp -implicitDefEqProofs[hw,cl]
 | false=>
 rw[hL]at cl;obtain⟨g1,g2,g3,g4⟩:=zxu hL;clear hL;cases hP:Zi1 x 6 2 with
 | true=>
  rw[hP]at cl2;obtain⟨L,O⟩:=f;obtain⟨⟨x0,x1,x2⟩,xy,xp⟩:=x;rw[zab Zcv.h676 rfl,b676];simp -implicitDefEqProofs[hw,cl,cl2]
 | false=>
 rw[hP]at cl2;have hx0:=zo2 hP (by decide);have hx:PoS x 1000:=⟨Yc hx0.t (by decide),fun u hu=>Yc (hx0.y u hu) (by decide),fun u hu=>Yc (hx0.p u hu) (by decide),hx0.yl,hx0.pl⟩;clear hP hx0;by_cases hb:400<bits
 ·obtain⟨L,O⟩:=f;obtain⟨⟨x0,x1,x2⟩,xy,xp⟩:=x;rw[zab Zcv.h676 rfl,b676];simp -implicitDefEqProofs[hw,cl,cl2,hb]
 have hlen:(codesD f).length≤12:=by unfold codesD;rw[Yq,Yat];omega
 have hz:Zaw f≤4294967295:=by
  have:=ztl (l:=codesD f) (B:=15) fun c hc=>(g4 c hc).1;unfold Zaw;have:=Yae 15 hlen;omega
 have hn:Zcn 1000 50000 f:=fun c hc=>⟨Yc (g4 c hc).1 (by decide),fun u hu=>Yc ((g4 c hc).2 u hu) (by decide)⟩;have hs:∀u∈f.lets,u.name.length≤100000:=fun u hu=>Yc (g3 u hu) (by decide);have t1:=zks (T:=T) f (fun c hc=>Yc (g4 c hc).1 (by decide)) (by omega) (by omega);have t3:=zzc (T:=T) x hx.yl hx.pl;have hyl:x.v.y.length=x.y.length:=by simp[PoF.v]
 have hpl:x.v.p.length=x.p.length:=by simp[PoF.v]
 have hfs:=z3m (f:=f) fun c hc=>(g4 c hc).2;have e0:fzs []=[]:=rfl;cases hq:Zeu f f.outs.length x.p.length with
 | some q=>
  have c1:=ziw (T:=T) f x.p.length (by omega) (by omega) hn hz hs q hq;obtain⟨q',hq'⟩:∃q',Zeu f x.y.length x.p.length=some q':=by
   cases h:Zeu f x.y.length x.p.length with
   | some q'=>exact⟨q',rfl⟩
   | none=>
    have hF:=zd7 h;have e:=hF.wh.2.2.2.2.1;rw[←e]at h;rw[h]at hq;cases hq
  have c2:=znd (T:=T) ⟨[],[],0,0⟩ x bits ⟨⟨by simp,by simp,by simp,by decide,by decide⟩,by simp⟩ hx;rw[zm1 (by unfold Zfz;rfl),e0]at c2;replace c2:Za T 389 [.agg [.sl [] .an,.sl [] .an,.i .i64 0,.i .i64 0],ept x,.i .i64 bits]=some (.tup [.sl [] .an,Zi4 2 0 0 0]):=c2;have c3:=zep (T:=T) f x bits (by omega) (by omega) hn hz hs q' hq';obtain⟨q1,q2,q3⟩:=q;obtain⟨p1,p2,p3⟩:=q';unfold Ze6 at c1;dsimp only at c3;dsimp only[etp]at c1 c2;clear hq hn hz hs g1 g2 g3 g4 hlen hx hyl hpl hfs hq';obtain⟨L,O⟩:=f;obtain⟨⟨x0,x1,x2⟩,xy,xp⟩:=x
  try dsimp only at *
  rw[zab Zcv.h676 rfl,b676];simp -implicitDefEqProofs[hw,cl,cl2,hb,t1,t3,c1,c2,c3]
 | none=>
  have c1:=zsf (T:=T) f x.p.length (by omega) (by omega) hn hz hs hq;have hF:=zd7 hq;have hok:=z4i hF;obtain⟨n1,n2,n3⟩:=zq9 (f:=f);obtain⟨w1,w2,w3,w4,w5,w6,w7⟩:=hF.wh;have hcl:(Zfk f x.p.length).code.length≤300:=Yc n1 w7;have hol:(Zfk f x.p.length).outs.length≤1000:=by
   show ((Zaz f).P.map _).length≤_;rw[Yat,n3];omega
  have hT:TpS (Zfk f x.p.length):=⟨⟨Yc hcl (by decide),Yc hol (by decide),fun y hy=>Yc (hfs y hy) (by decide),by show -9223372036854775808≤(f.outs.length:Int);omega,by show (f.outs.length:Int)<_;omega⟩,hfs⟩;have c2:=znd (T:=T) (Zfk f x.p.length) x bits hT hx;by_cases hy:x.y.length=f.outs.length
  ·have hfit:Zfz (Zfk f x.p.length) x.v.y.length x.v.p.length=true:=by
    unfold Zfz;rw[hok,hyl,hpl,hy];show (true&&decide ((f.outs.length:Int)=(f.outs.length:Int))&&decide ((x.p.length:Int)=(x.p.length:Int)))=true;simp
   have hq2:Zeu f x.y.length x.p.length=none:=by rw[hy];exact hq
   have c3:=zkq (T:=T) f x bits hx (by omega) (by omega) hn hz hs hq2;obtain⟨s1,s2⟩:=zx2 (lim:=Zb1 bits) (P:=x.v) hF;have hlim:=(zw6 bits).2;have eR:Zb0 (Zb1 bits) (Zfk f x.p.length) x.v=Zd (Zb1 bits) x.v (Zaz f).C []:=by unfold Zb0;rw[hfit];rfl
   have eo:∀D,Zci (Zfk f x.p.length) D=(Zaz f).P.map (plV D):=fun D=>by
    unfold Zci Zfk;rw[Ycw]
    rfl
   unfold Zf0 at c2;rw[eR,eo]at c2;rw[show (Zcc bits).toNat=Zb1 bits from rfl]at c3;by_cases hk:(evD (Zb1 bits) x.v f).2.1=0
   ·obtain⟨r1,r2⟩:=s1 hk;rw[if_pos r1]at c2;rw[r2]at c3;have hsz:∀u∈fzs ((Zaz f).P.map (plV (Zd (Zb1 bits) x.v (Zaz f).C []).1)),fsz u≤1000:=fun u hu=>by
     obtain⟨v,hv,rfl⟩:=Yz.1 hu;obtain⟨p,_,rfl⟩:=Yz.1 hv;exact zh7 (by decide) fun q hq=>Yc (zo9 hlim _ _ (by simp) q hq) (by decide)
    have hfl:(fzs ((Zaz f).P.map (plV (Zd (Zb1 bits) x.v (Zaz f).C []).1))).length≤1000:=by
     rw[zar,Yat,n3];omega
    have c4:=zzx (T:=T) _ _ hfl hsz hsz;rw[decide_eq_true rfl]at c4;generalize fzs ((Zaz f).P.map (plV (Zd (Zb1 bits) x.v (Zaz f).C []).1))=D at *
    have hyI:(x.y.length:Int)=f.outs.length:=by omega
    unfold Ze6 at c1;dsimp only[etp]at c1 c2;clear hq hn hz hs g1 g2 g3 g4 hlen hF hok n1 n2 n3 w1 w2 w3 w4 w5 w6 w7 hfs hcl hol hT hfit hq2 s1 s2 eR eo hk r1 r2 hsz hfl hx hyl hpl;generalize Zfk f x.p.length=t at *
    generalize Zaz f=q at *
    obtain⟨Cq,Wq,Pq⟩:=q;obtain⟨code,outs,dim,par⟩:=t;obtain⟨L,O⟩:=f;obtain⟨⟨x0,x1,x2⟩,xy,xp⟩:=x;dsimp only at *
    rw[zab Zcv.h676 rfl,b676];simp -implicitDefEqProofs[hw,cl,cl2,hb,t1,t3,c1,c2,c3,c4,hyI,hy]
   ·obtain⟨r0,r1,p,r2,r3⟩:=s2 hk;rw[r3,if_neg r1,e0]at c2;rw[r0,e0]at c3;dsimp only at c2;obtain⟨hnl,hnp⟩:=Ye.1 r2;generalize (evD (Zb1 bits) x.v f).2.1=k at *
    generalize (evD (Zb1 bits) x.v f).2.2=n at *
    have hkI:¬ (k:Int)=0:=by omega
    have hnI:(n:Int)<((Zaz f).W.length:Int):=by omega
    have hyI:(x.y.length:Int)=f.outs.length:=by omega
    unfold Ze6 at c1;dsimp only[etp]at c1 c2;clear hq hn hz hs g1 g2 g3 g4 hlen hF hok n1 n2 n3 w1 w2 w3 w4 w5 w6 w7 hfs hcl hol hT hfit hq2 s1 s2 eR eo r0 r3 hx hyl hpl;generalize Zfk f x.p.length=t at *
    generalize Zaz f=q at *
    obtain⟨Cq,Wq,Pq⟩:=q;obtain⟨code,outs,dim,par⟩:=t;obtain⟨L,O⟩:=f;obtain⟨⟨x0,x1,x2⟩,xy,xp⟩:=x;dsimp only at *
    rw[zab Zcv.h676 rfl,b676];simp -implicitDefEqProofs[hw,cl,cl2,hb,t1,t3,c1,c2,c3,hyI,hy,hkI,hnI,hnl,hnp,r1]
  ·have hfit:Zfz (Zfk f x.p.length) x.v.y.length x.v.p.length=false:=by
    unfold Zfz;rw[hyl];have:decide ((x.y.length:Int)=(Zfk f x.p.length).dim)=false:=decide_eq_false (by show ¬ (x.y.length:Int)=(f.outs.length:Int);omega);rw[this,Bool.and_false,Yed]
   rw[zm1 hfit,e0]at c2;obtain⟨q',hq'⟩:∃q',Zeu f x.y.length x.p.length=some q':=by
    cases h:Zeu f x.y.length x.p.length with
    | some q'=>exact⟨q',rfl⟩
    | none=>
     have e:=(zd7 h).wh.2.2.2.2.1;omega
   have c3:=zep (T:=T) f x bits (by omega) (by omega) hn hz hs q' hq';have hyI:¬ (x.y.length:Int)=f.outs.length:=by omega
   obtain⟨p1,p2,p3⟩:=q';unfold Ze6 at c1;dsimp only at c3;dsimp only[etp]at c1 c2;clear hq hn hz hs g1 g2 g3 g4 hlen hF hok n1 n2 n3 w1 w2 w3 w4 w5 w6 w7 hfs hcl hol hT hfit hq' hx hyl hpl;generalize Zfk f x.p.length=t at *
   generalize Zaz f=q at *
   obtain⟨Cq,Wq,Pq⟩:=q;obtain⟨code,outs,dim,par⟩:=t;obtain⟨L,O⟩:=f;obtain⟨⟨x0,x1,x2⟩,xy,xp⟩:=x;dsimp only at *
   rw[zab Zcv.h676 rfl,b676];simp -implicitDefEqProofs[hw,cl,cl2,hb,t1,t3,c1,c2,c3,hyI,hy]
end
end Go.Ab