/-
  A calculus of values, boxes and code, and what functions of the program compute, proved in it.
  Conditions: none beyond those that the theorems state. (Part 7.)
-/
import Derived.Test.YtjhilbodpmnbmaaGreatDoorPart6
import Derived.Lib.IndexAny
import Derived.Lib.Bytealg

set_option linter.unusedSectionVars false
set_option linter.unusedVariables false
set_option linter.unusedSimpArgs false
set_option linter.unnecessarySimpa false

namespace Go.Ab
theorem zvr(z:Int):∀t:Nat,sg (decide (z<0)&&decide (t%2=1)) (z.natAbs^t)=z^t
 | 0=>by simp[sg]
 | t+1=>by
  have ih:=zvr z t;have hz:sg (decide (z<0)) z.natAbs=z:=by
   unfold sg;by_cases h:z<0
   ·simp only[h,decide_true,if_true];omega
   ·simp only[h,decide_false,Y8,if_false];omega
  have hm:=zno (decide (z<0)&&decide (t%2=1)) (decide (z<0)) (z.natAbs^t) z.natAbs;rw[ih,hz]at hm;rw[Int.pow_succ,←hm,Yy];congr 1;rcases Nat.mod_two_eq_zero_or_one t with h | h
  ·have h2:(t+1)%2=1:=by omega
   rw[h,h2];cases decide (z<0)<;>rfl
  ·have h2:(t+1)%2=0:=by omega
   rw[h,h2];cases decide (z<0)<;>rfl
theorem zf9{x L:Nat}(h:(ofN x).length≤L):∀t:Nat,(ofN (x^t)).length≤t*L+1
 | 0=>by rw[Yc1,ze7];simp
 | t+1=>by
  have ih:=zf9 h t;have:=zax ih h;rw[Yy,Nat.succ_mul];omega
section
variable{T:Tbl}[Zad T][Zp T][Z0 T][Z3 T][Zq T][Zu T][Zl T][Zo T][Zr T][Zam T]
def Zjz(a:List UInt32)(k i:Nat):St:=⟨[(0,.sl (Za a) .an),(5,.sl (Za (ofN (val a^i))) .an),(7,.i .i64 k),(8,.i .i64 i)],[],2⟩
theorem zjr(a:List UInt32)(k:Nat)(hk:k≤8)(ha:a.length≤1100):Zb T 219 [.sl (Za a) .an,.i .i64 k]=some (.sl (Za (ofN (val a^k))) .an):=by
 have h:Ze T 0 0 (.norm false [5]) l219_0 (Zjz a k 0)=some (.n,⟨[(5,.sl (Za (ofN (val a^k))) .an)],[],2⟩):=by
  refine zan (Zjz a k) k _ (fun i hi=>?_) ?_
  ·have hl:=zf9 (L:=1100) (Yf (zad a) ha) i;have c:=zek (T:=T) (ofN (val a^i)) a (by omega) (by omega);rw[zae,←Yy]at c;have hw:=za8 hi (by omega);unfold Zjz;generalize ofN (val a^i)=M at *
   generalize ofN (val a^(i+1))=M' at *
   simp -implicitDefEqProofs[l219_0,hi,hw,c]
  ·unfold Zjz;generalize ofN (val a^k)=M at *
   constructor<;>simp -implicitDefEqProofs[l219_0]
 have ho:=zh0 (T:=T) 1 (by decide);unfold Zjz at h;rw[Yc1]at h;simp only[Yr]at h;generalize ofN 1=O at *
 rw[zab Zam.h219 rfl,b219];generalize ofN (val a^k)=M at *
 simp -implicitDefEqProofs[ho,h]
def Zfe(q:Rat)(e:Int):Rat×Bool:=if -8≤e∧e≤8∧¬ (e<0∧q=0) then (Zg0 q e,true) else (0,false)
theorem z8w(q:Rat)(t:Nat):fz (q^t)=(decide (q.num<0)&&decide (t%2=1)&&decide (q.num.natAbs^t≠0),ofN (q.num.natAbs^t),ofN (q.den^t)):=by
 have h:=zvr q.num t;unfold fz;rw[Yfk,Rat.den_pow,←h,zqw,zqx]
theorem z26(q:Rat)(t:Nat)(hq:q≠0):fz (q^t)⁻¹=(decide (q.num<0)&&decide (t%2=1)&&decide (q.den^t≠0),ofN (q.den^t),ofN (q.num.natAbs^t)):=by
 have h:=zvr q.num t;have hn:q.num≠0:=fun h=>hq (Rat.num_eq_zero.1 h);have hz:q.num^t≠0:=Int.pow_ne_zero hn;have hd:q.den^t≠0:=Nat.pos_iff_ne_zero.1 (Ya4 q.den_pos);have ha:q.num.natAbs^t≠0:=Nat.pos_iff_ne_zero.1 (Ya4 (Int.natAbs_pos.2 hn));have e1:(q^t)⁻¹.num=(q.num^t).sign*((q.den^t:Nat):Int):=by rw[Rat.num_inv,Yfk,Rat.den_pow]
 have e2:(q^t)⁻¹.den=q.num.natAbs^t:=by rw[Rat.den_inv,Yfk,if_neg hz,Int.natAbs_pow]
 have e3:((q.num^t).sign*((q.den^t:Nat):Int)).natAbs=q.den^t:=by
  rw[Yes,Yek hz,Yc2,Yer]
 have e4:decide ((q.num^t).sign*((q.den^t:Nat):Int)<0)=decide (q.num^t<0):=by
  rw[decide_eq_decide];rcases Int.lt_trichotomy (q.num^t) 0 with h1 | h1 | h1
  ·rw[Int.sign_eq_neg_one_of_neg h1];constructor
   ·intro _;exact h1
   ·intro _;omega
  ·exact absurd h1 hz
  ·rw[Int.sign_eq_one_of_pos h1];constructor
   ·intro _;omega
   ·intro _;omega
 have e5:decide (q.num^t<0)=(decide (q.num<0)&&decide (t%2=1)):=by
  rw[←h,zqw,decide_eq_true ha,Ydo]
 unfold fz;rw[e1,e2,e3,e4,e5,decide_eq_true hd,Ydo]
theorem zqh(x:Fz)(e:Int)(hx:fsz x≤1000):Zb T 220 [efz x,.i .i64 e]=some (.tup [efz (fz (Zfe (fv x) e).1),.b (Zfe (fv x) e).2]):=by
 have h0:=zdp (T:=T);have hsg:=zvj (T:=T) x (by omega);have hn:=zhv (T:=T) x (by omega);have hs:=ztg (x:=x) (L:=1000) hx (by decide);have l1:=zkb (fv x);have l2:=zkc (fv x);unfold Zfe;rw[zab Zam.h220 rfl,b220];by_cases h1:e < -8
 ·rw[if_neg (by omega)];generalize fz 0=Z at *
  simp -implicitDefEqProofs[h0,h1]
 by_cases h2:8<e
 ·rw[if_neg (by omega)];generalize fz 0=Z at *
  simp -implicitDefEqProofs[h0,h1,h2]
 obtain⟨q,hq⟩:∃q,q=fv x:=⟨_,rfl⟩;rw[←hq]at hsg hn hs l1 l2 ⊢;clear hq;have e':fz q=(decide (q.num<0),ofN q.num.natAbs,ofN q.den):=rfl;rw[e']at hn;have hA:(ofN q.num.natAbs).length≤1100:=by omega
 have hD:(ofN q.den).length≤1100:=by omega
 have pA:∀k:Nat,k≤8→Zb T 219 [.sl (Za (ofN q.num.natAbs)) .an,.i .i64 k]=some (.sl (Za (ofN (q.num.natAbs^k))) .an):=fun k hk=>by
  have:=zjr (T:=T) (ofN q.num.natAbs) k hk hA
  rwa [zae]at this
 have pD:∀k:Nat,k≤8→Zb T 219 [.sl (Za (ofN q.den)) .an,.i .i64 k]=some (.sl (Za (ofN (q.den^k))) .an):=fun k hk=>by
  have:=zjr (T:=T) (ofN q.den) k hk hD
  rwa [zae]at this
 have lA:∀k:Nat,k≤8→(ofN (q.num.natAbs^k)).length≤1000000:=fun k hk=>by
  have:=zf9 hA k;have:k*1100≤8*1100:=Yaf _ hk;omega
 have lD:∀k:Nat,k≤8→(ofN (q.den^k)).length≤1000000:=fun k hk=>by
  have:=zf9 hD k;have:k*1100≤8*1100:=Yaf _ hk;omega
 have hodd:∀k:Nat,k≤8→(((k:Int).tmod 2) == 1)=decide (k%2=1):=fun k hk=>by
  have e:(k:Int).tmod 2=((k%2:Nat):Int):=by rw[show (2:Int)=((2:Nat):Int) from rfl,←Int.ofNat_tmod]
  rw[e,Yca];simp;omega
 by_cases h3:e<0
 case neg=>
  obtain⟨n,rfl⟩:∃n:Nat,e=n:=⟨e.toNat,by omega⟩;have hn8:n≤8:=by omega
  rw[if_pos (by omega)];have hw:IntKind.wrap .i64 (-(n:Int))=-(n:Int):=zac _ (by omega);have cA:=pA n hn8;have cD:=pD n hn8;have ho:=hodd n hn8;have hnorm:=zgf (T:=T) (decide (q.num<0)&&decide (n%2=1)) (ofN (q.num.natAbs^n)) (lA n hn8);rw[show wv (decide (q.num<0)&&decide (n%2=1)) (ofN (q.num.natAbs^n))=sg (decide (q.num<0)&&decide (n%2=1)) (q.num.natAbs^n) by unfold wv;rw[zae],zxl]at hnorm;have hf:=z8w q n;have hz:Zg0 q (n:Int)=q^n:=Ycu q n;simp only[hz];rw[hf];clear hf hz pA pD lA lD hodd hsg e';have h4:¬ (8:Int)<n:=by omega
  have h5:¬ ((n:Int) < -(n:Int)):=by omega
  have h6:¬ (n:Int)<0:=by omega
  have h1':¬ (n:Int) < -8:=by omega
  generalize ofN (q.num.natAbs^n)=AP at *
  generalize ofN (q.den^n)=DP at *
  generalize decide (q.num.natAbs^n≠0)=NZ at *
  generalize ofN q.num.natAbs=A at *
  generalize ofN q.den=D at *
  generalize decide (q.num<0)=NG at *
  generalize decide (n%2=1)=OD at *
  cases NG with
  | false=>
   simp only[Yfg]at hnorm ⊢;simp -implicitDefEqProofs[h0,hn,h4,h5,h6,h1',hw,mm2,cA,cD,ho,hnorm]
  | true=>
   simp only[Yeb]at hnorm ⊢;cases OD with
   | false=>simp -implicitDefEqProofs[h0,hn,h4,h5,h6,h1',hw,mm2,cA,cD,ho,hnorm]
   | true=>simp -implicitDefEqProofs[h0,hn,h4,h5,h6,h1',hw,mm2,cA,cD,ho,hnorm]
 by_cases h7:q=0
 ·rw[if_neg (by intro h;exact h.2.2 ⟨h3,h7⟩)];have hs0:sgQ q=0:=zg2.2 h7;rw[hs0]at hsg;generalize fz 0=Z at *
  have h4:¬ (8:Int)<e:=by omega
  simp -implicitDefEqProofs[h0,h1,h4,h3,hsg]
 rw[if_pos (by refine⟨by omega,by omega,fun h=>h7 h.2⟩)];obtain⟨n,rfl⟩:∃n:Nat,e=-(n:Int):=⟨(-e).toNat,by omega⟩;have hn8:n≤8:=by omega
 have hsz:¬ sgQ q=0:=fun h=>h7 (zg2.1 h);have hw:IntKind.wrap .i64 (n:Int)=(n:Int):=zac _ (by omega);have cA:=pA n hn8;have cD:=pD n hn8;have ho:=hodd n hn8;have hnorm:=zgf (T:=T) (decide (q.num<0)&&decide (n%2=1)) (ofN (q.den^n)) (lD n hn8);rw[show wv (decide (q.num<0)&&decide (n%2=1)) (ofN (q.den^n))=sg (decide (q.num<0)&&decide (n%2=1)) (q.den^n) by unfold wv;rw[zae],zxl]at hnorm;have hf:=z26 q n h7;have hz:Zg0 q (-(n:Int))=(q^n)⁻¹:=by unfold Zg0;rw[Rat.zpow_neg,Ycu]
 simp only[hz];rw[hf];clear hf hz pA pD lA lD hodd e';have h4:¬ (8:Int) < -(n:Int):=by omega
 have h5:(-(n:Int)<(n:Int)):=by omega
 have h1':¬ -(n:Int) < -8:=by omega
 have h6:(n:Int)≠0:=by omega
 have h6':0<(n:Int):=by omega
 have h6'':0<n:=by omega
 have h1'':¬ 8<n:=by omega
 generalize ofN (q.num.natAbs^n)=AP at *
 generalize ofN (q.den^n)=DP at *
 generalize decide (q.den^n≠0)=NZ at *
 generalize ofN q.num.natAbs=A at *
 generalize ofN q.den=D at *
 generalize decide (q.num<0)=NG at *
 generalize decide (n%2=1)=OD at *
 generalize sgQ q=SG at *
 cases NG with
 | false=>
  simp only[Yfg]at hnorm ⊢;simp -implicitDefEqProofs[h0,hn,h3,h4,h5,h6,h6',h6'',h1',h1'',hw,mm2,cA,cD,ho,hnorm,hsg,hsz]
 | true=>
  simp only[Yeb]at hnorm ⊢;cases OD with
  | false=>simp -implicitDefEqProofs[h0,hn,h3,h4,h5,h6,h6',h6'',h1',h1'',hw,mm2,cA,cD,ho,hnorm,hsg,hsz]
  | true=>simp -implicitDefEqProofs[h0,hn,h3,h4,h5,h6,h6',h6'',h1',h1'',hw,mm2,cA,cD,ho,hnorm,hsg,hsz]
end
@[simp] theorem zacq:ints []=[]:=rfl
section
variable{T:Tbl}[Zad T][Zp T][Z0 T][Z3 T][Zq T][Zu T][Zl T][Zo T][Zr T][Zam T][Zcd T]
def Zox(t:Tp)(p:Nat)(x:Ins)(i:Nat):St:=
 ⟨[(1,.i .i64 p),(2,.ptr (.loc 2) 1 4 0 0),(5,.ptr (.loc 5) 2 6 0 0),(30,.sl (ints (Zhy x)) .an),(31,.i .i64 (Zhy x).length),(32,.i .i64 i)],
  [(.loc 2,⟨1,.str,4,[[.sl (Zjc t.code) .an,.sl (ints t.outs) .an,.i .i64 t.dim,.i .i64 t.par]]⟩),(.loc 5,⟨2,.str,6,[Zl7 x]⟩)],4⟩
end
section
variable{T:Tbl}[Zad T][Zp T][Z0 T][Z3 T][Zq T][Zu T][Zl T][Zo T][Zr T][Zam T][Zcd T]
structure Small (t:Tp):Prop where
 code:t.code.length≤4294967296
 outs:t.outs.length≤4294967296
 ns:∀i∈t.code,fsz i.n≤10000
 d1:-9223372036854775808≤t.dim
 d2:t.dim<9223372036854775808
def bxT(t:Tp):Box:=⟨1,.str,4,[[.sl (Zjc t.code) .an,.sl (ints t.outs) .an,.i .i64 t.dim,.i .i64 t.par]]⟩
def Zoy(t:Tp)(i:Nat):St:=⟨[(1,.ptr (.loc 1) 1 4 0 0),(11,.i .i64 t.code.length),(12,.i .i64 i)],[(.loc 1,bxT t)],3⟩
def Zoz(t:Tp)(i:Nat):St:=⟨[(1,.ptr (.loc 1) 1 4 0 0),(22,.sl (ints t.outs) .an),(23,.i .i64 t.outs.length),(24,.i .i64 i)],[(.loc 1,bxT t)],3⟩
end
def Za4(n:Int):Int:=if n<0 then 0 else if 4096<n then 4096 else n
abbrev bxG(g:Nat)(s p L:Int):Box:=⟨g,.str,3,[[.i .i64 s,.i .i64 p,.i .i64 L]]⟩
def Zdr(s:Int):Int:=IntKind.wrap .i64 (s+1)
def Zea(p:Int)(x:Fz):Int:=if p<(Zcv x:Int) then (Zcv x:Int) else p
section
variable{T:Tbl}[Zad T][Zp T][Z0 T][Z3 T][Zq T][Zu T][Zl T][Zo T][Zr T][Zam T][Za6 T][Zcz T][Zcd T][Zar T][Zbv T]
theorem zr4(x:Fz)(hx:fsz x≤10000):Zb T 223 [efz x]=some (.i .i64 (Zcv x)):=by
 have h1:=zcj x;have h2:=zcv x;have c1:=zqn (T:=T) x.2.1 (by omega);have c2:=zqn (T:=T) x.2.2 (by omega);have b1:=zg0 (x:=val x.2.1) (k:=10000) (Yf (zad x.2.1) (by omega));have b2:=zg0 (x:=val x.2.2) (k:=10000) (Yf (zad x.2.2) (by omega));have w:IntKind.wrap .i64 ((Zao (val x.2.1):Int)+(Zao (val x.2.2):Int))=((Zcv x:Nat):Int):=by
  have e:((Zcv x:Nat):Int)=(Zao (val x.2.1):Int)+(Zao (val x.2.2):Int):=by unfold Zcv;omega
  rw[e];exact zac _ (by omega)
 rw[zab Za6.h223 rfl,b223];generalize Zcv x=S at *
 generalize Zao (val x.2.1)=B1 at *
 generalize Zao (val x.2.2)=B2 at *
 simp -implicitDefEqProofs[c1,c2,w]
theorem zfn(n:Int):Z6 T 406 [.i .i64 n] []=some (.ptr (.loc 7) 1 3 0 0,[(.loc 7,bxG 1 0 0 (Za4 n))]):=by
 unfold Za4;rw[zao Zar.h406 rfl,b406];by_cases h1:n<0
 ·simp -implicitDefEqProofs[h1,mm2]
 ·by_cases h2:4096<n
  ·simp -implicitDefEqProofs[h1,h2,mm2]
  ·simp -implicitDefEqProofs[h1,h2,mm2]
theorem zr5(s p L k:Int):Z6 T 426 [.ptr (.bor 0) 0 3 0 0,.i .i64 k] [(.bor 0,bxG 0 s p L)]=some (.tup [],[(.bor 0,bxG 0 (Zdr s) (if p<k then k else p) L)]):=by
 unfold Zdr;rw[zao Zar.h426 rfl,b426];by_cases h1:p<k
 ·simp -implicitDefEqProofs[h1,mm2]
 ·simp -implicitDefEqProofs[h1,mm2]
theorem zei(s p L:Int)(x:Fz)(hx:fsz x≤10000):Z6 T 411 [.ptr (.bor 0) 0 3 0 0,efz x] [(.bor 0,bxG 0 s p L)]=some (.b (decide ((Zcv x:Int)≤L)),[(.bor 0,bxG 0 (Zdr s) (Zea p x) L)]):=by
 have h1:=zr4 (T:=T) x hx;have h2:=zr5 (T:=T) s p L (Zcv x);unfold Zea;rw[zao Zar.h411 rfl,b411];generalize Zdr s=s' at *
 generalize (if p<(Zcv x:Int) then (Zcv x:Int) else p)=p' at *
 generalize (Zcv x:Int)=z at *
 simp -implicitDefEqProofs[h1,h2]
def Zj0(l:List Fz)(i:Nat):St:=⟨[(3,.bs (.loc 3) 1 3 0 i),(6,.sl (Zd l) .an),(7,.i .i64 l.length),(8,.i .i64 i)],[(.loc 3,⟨1,.own,3,Zd (nrm (l.take i))⟩)],3⟩
theorem zga(l:List Fz)(hl:l.length≤1000)(hw:∀x∈l,fsz x≤1000):Zb T 420 [.sl (Zd l) .an]=some (.sl (Zd (nrm l)) .an):=by
 have h:Ze T 0 0 (.norm false [3]) l420_0 (Zj0 l 0)=some (.n,⟨[(3,.bs (.loc 3) 1 3 0 l.length)],[(.loc 3,⟨1,.own,3,Zd (nrm l)⟩)],3⟩):=by
  refine zan (Zj0 l) l.length _ (fun i hi=>?_) ?_
  ·have hg:l[i]? = some (l[i]'hi):=Ya hi;have hws:=za8 hi (by omega);have hn:=zhv (T:=T) (l[i]'hi) (Yf (hw _ (Y2 hi)) (by decide));have e:nrm (l.take (i+1))=nrm (l.take i)++[fz (fv (l[i]'hi))]:=zft l _ hi;have hp:=zfs (m:=nrm (l.take i)) (n:=i) (by simp[nrm];omega) (fz (fv (l[i]'hi)));have hml:(nrm (l.take i)).length=i:=by simp[nrm];omega
   unfold Zj0;rw[e];clear e;generalize nrm (l.take i)=M at *
   generalize fz (fv (l[i]'hi))=z at *
   have hb:i≤4294967295:=by omega
   simp -implicitDefEqProofs[l420_0,hi,hg,hws,hn,hp,hml,hb]
  ·unfold Zj0;rw[Yb (Yg _)];generalize nrm l=M;constructor<;>simp -implicitDefEqProofs[l420_0]
 unfold Zj0 at h;simp[nrm]at h;have ht:List.take l.length (List.map (fun x=>fz (fv x)) l)=List.map (fun x=>fz (fv x)) l:=Yb (by simp);rw[zab Zbv.h420 rfl,b420];simp -implicitDefEqProofs[h,nrm,ht]
structure PoS (x:PoF) (B:Nat):Prop where
 t:fsz x.t≤B
 y:∀u∈x.y,fsz u≤B
 p:∀u∈x.p,fsz u≤B
 yl:x.y.length≤1000
 pl:x.p.length≤1000
theorem z27(x:PoF):x.v.f=⟨fz (fv x.t),nrm x.y,nrm x.p⟩:=by
 unfold PoF.v Po.f;rw[zpe,zpe]
theorem zfo(x:PoF)(h:PoS x 1000):Zb T 405 [ept x]=some (ept x.v.f):=by
 have h1:=zhv (T:=T) x.t (Yf h.t (by decide));have h2:=zga (T:=T) x.y h.yl h.y;have h3:=zga (T:=T) x.p h.pl h.p;rw[z27];obtain⟨t,y,p⟩:=x;dsimp only at *
 rw[zab Zbv.h405 rfl,b405];generalize fz (fv t)=t' at *
 generalize nrm y=y' at *
 generalize nrm p=p' at *
 simp -implicitDefEqProofs[h1,h2,h3]
end
abbrev mD:AV:=.agg [.dead]
section
variable{T:Tbl}[Zad T][Zp T][Z0 T][Z3 T][Zq T][Zu T][Zl T][Zo T][Zr T][Zam T][Za6 T][Zcz T][Zcd T][Zar T][Zbv T][Zln T][Zlj T]
theorem zfu{D:List Rat}{a:Int}(h:0≤a∧a<D.length):∃k:Nat,a=k∧(k:Int)<D.length∧k<D.length∧(fzs D)[k]? = some (fz (gI D a)):=by
 obtain⟨k,rfl⟩:∃k:Nat,a=k:=⟨a.toNat,by omega⟩;have hk:k<D.length:=by omega
 refine⟨k,rfl,by omega,hk,?_⟩;have e:gI D (k:Int)=D[k]'hk:=by simp[gI,List.getD,Ya hk]
 rw[e];exact z32 (Ya hk)
theorem z34{D:List Rat}{a:Int}{B:Nat}(hB:1≤B)(h:∀q∈D,sz q≤B):sz (gI D a)≤B:=by
 unfold gI List.getD;cases hx:D[a.toNat]? with
 | none=>exact Yf (Nat.le_of_eq zxt) hB
 | some q=>exact h q (Yj hx)
end
theorem zqr{n b:Nat}(h:Zao n≤b):(ofN n).length≤b/32+1:=by
 refine zas ?_;unfold Zao at h;split at h
 ·rename_i h0;subst h0;exact Ya4 (by decide)
 ·rename_i h0;have h1:n<2^(n.log2+1):=(Ye1 h0).1 (Y6 _);have h3:(4294967296:Nat)^(b/32+1)=2^(32*(b/32+1)):=by rw[Yei]
  have h2:2^(n.log2+1)≤2^(32*(b/32+1)):=Y4 (by decide) (by omega);omega
theorem z35{q:Rat}{b:Nat}(h:Zdt q≤b):sz q≤b/32+1:=by
 unfold Zdt Zcv fz at h;rw[zae,zae]at h;exact Yfc.2 ⟨zqr (Yf (Nat.le_add_right _ _) h),zqr (Yf (Nat.le_add_left _ _) h)⟩
theorem zqs(q:Rat)(n:Nat):sz (q^n)≤n*sz q+1:=by
 unfold sz;rw[Yfk,Rat.den_pow,Int.natAbs_pow];exact Yfc.2 ⟨zf9 (Ydp _ _) n,zf9 (Ydf _ _) n⟩
theorem z36{q:Rat}{e:Int}{B:Nat}(hq:sz q≤B)(h1:-8≤e)(h2:e≤8):sz (Zg0 q e)≤8*B+1:=by
 unfold Zg0;rcases Int.le_total 0 e with h | h
 ·obtain⟨n,rfl⟩:∃n:Nat,e=n:=⟨e.toNat,by omega⟩;rw[Ycu];have:=zqs q n;have h3:n*sz q≤8*B:=Ych (by omega) hq;omega
 ·obtain⟨n,rfl⟩:∃n:Nat,e=-(n:Int):=⟨(-e).toNat,by omega⟩;rw[Rat.zpow_neg,Ycu];have:=zqs q n;have h3:n*sz q≤8*B:=Ych (by omega) hq;have:=zxv (q^n);omega
structure PvS (P:Po) (B:Nat):Prop where
 t:sz P.t≤B
 y:∀q∈P.y,sz q≤B
 p:∀q∈P.p,sz q≤B
def Zka(lim:Nat)(P:Po):List Ins→List Rat→Int→Int→Int×Int
 | [],_,s,p=>(s,p)
 | i::r,D,s,p=>if (Zii P D i).2=false then (s,p) else if lim<Zdt (Zii P D i).1 then (Zdr s,Zea p (fz (Zii P D i).1)) else Zka lim P r (D++[(Zii P D i).1]) (Zdr s) (Zea p (fz (Zii P D i).1))
abbrev bxM:Box:=⟨3,.str,1,[[.ptr (.bor 0) 0 3 0 0]]⟩
abbrev bxP(g:Nat)(x:PoF):Box:=⟨g,.str,5,[[.b x.t.1,.sl (Za x.t.2.1) .an,.sl (Za x.t.2.2) .an,.sl (Zd x.y) .an,.sl (Zd x.p) .an]]⟩
abbrev bxF(g:Nat)(a b c d:Int):Box:=⟨g,.str,4,[[.i .i64 a,.i .i64 b,.i .i64 c,.i .i64 d]]⟩
def Zn0(Q:PoF)(L:Int)(code:List Ins)(i:Nat)(D:List Fz)(s p:Int)(kd:Kind):St:=
 ⟨[(3,.ptr (.loc 3) 3 1 0 0),(5,.ptr (.loc 5) 4 5 0 0),(7,.ptr (.loc 7) 5 4 0 0),(8,.bs (.loc 8) 6 3 0 i),(34,.sl (Zjc code) .an),(35,.i .i64 code.length),(36,.i .i64 i)],
  [(.bor 0,bxG 0 s p L),(.loc 3,bxM),(.loc 5,bxP 4 Q),(.loc 7,bxF 5 0 0 0 0),(.loc 8,⟨6,kd,3,Zd D⟩)],8⟩
def Zmy(n:Nat)(D:List Fz)(s p L:Int)(kd:Kind):Ex×St:=(.n,⟨[(7,.ptr (.loc 7) 3 4 0 0),(8,.bs (.loc 8) 4 3 0 n)],[(.bor 0,bxG 0 s p L),(.loc 7,bxF 3 0 0 0 0),(.loc 8,⟨4,kd,3,Zd D⟩)],6⟩)
def Zmz(kind at_ s p L:Int):Ex×St:=(.r,⟨[(6,.sl [] .an),(7,.ptr (.loc 7) 3 4 0 0)],[(.bor 0,bxG 0 s p L),(.loc 7,bxF 3 kind 0 0 at_)],5⟩)
section
variable{T:Tbl}[Zad T][Zp T][Z0 T][Z3 T][Zq T][Zu T][Zl T][Zo T][Zr T][Zam T][Za6 T][Zcz T][Zcd T][Zar T][Zbv T][Zln T][Zlj T]
def kdE(kd:Kind)(l:List Ins):Kind:=if l=[] then kd else .sh
def Zm0(lim:Nat)(P:Po)(code l:List Ins)(D:List Rat)(s p:Int)(kd:Kind):Ex×St:=
 if (Zki lim P l D).2.1=0 then Zmy code.length (fzs (Zki lim P l D).1) (Zka lim P l D s p).1 (Zka lim P l D s p).2 lim (kdE kd l)
 else Zmz (Zki lim P l D).2.1 (Zki lim P l D).2.2 (Zka lim P l D s p).1 (Zka lim P l D s p).2 lim
end
def Zb2(P:Po)(ls:List Rat)(x:Nd):Rat:=if x.op=1 then ((val x.n:Nat):Rat) else if x.op=3 then gI P.y x.i else if x.op=4 then gI P.p x.i else if x.op=5 then gI ls x.i else P.t
def unV(x:Nd)(a:Rat):Rat×Bool:=if x.op=6 then (-a,true) else Zfe a x.i
def biV(op:Int)(a b:Rat):Rat×Bool:=if op=7 then (a+b,true) else if op=8 then (a-b,true) else if op=9 then (a*b,true) else (a/b,decide (b≠0))
def Za0(lim:Nat)(v:Rat×Bool)(i:Nat):Rat×Nat×Nat:=if v.2=false then (0,3,i) else if lim<Zdt v.1 then (0,6,i) else (v.1,0,0)
def Zae(P:Po)(ls:List Rat)(s:List Rat)(x:Nd):(Rat×Bool)×List Rat:=
 if arN x.op=0 then ((Zb2 P ls x,true),s) else if arN x.op=1 then (unV x (s.headD 0),s.tail) else (biV x.op (s.tail.headD 0) (s.headD 0),s.tail.tail)
def Zf(lim:Nat)(P:Po)(ls:List Rat):Nat→List Rat→List Nd→Rat×Nat×Nat
 | _,s,[]=>(s.headD 0,0,0)
 | i,s,x::r=>if (Za0 lim (Zae P ls s x).1 i).2.1≠0 then Za0 lim (Zae P ls s x).1 i else Zf lim P ls (i+1) ((Zae P ls s x).1.1::(Zae P ls s x).2) r
def evT(lim:Nat)(P:Po)(ls:List Rat):Tre→Nat→Rat×Nat×Nat
 | .leaf x,i=>Za0 lim (Zb2 P ls x,true) i
 | .un x a,i=>if (evT lim P ls a i).2.1≠0 then evT lim P ls a i else Za0 lim (unV x (evT lim P ls a i).1) (i+a.flat.length)
 | .bin x a b,i=>if (evT lim P ls a i).2.1≠0 then evT lim P ls a i else if (evT lim P ls b (i+a.flat.length)).2.1≠0 then evT lim P ls b (i+a.flat.length)
   else Za0 lim (biV x.op (evT lim P ls a i).1 (evT lim P ls b (i+a.flat.length)).1) (i+a.flat.length+b.flat.length)
theorem zgj{lim:Nat}{v:Rat×Bool}{i:Nat}(h:(Za0 lim v i).2.1=0):v.2=true∧Zdt v.1≤lim∧Za0 lim v i=(v.1,0,0):=by
 unfold Za0 at h ⊢;by_cases h1:v.2=false
 ·rw[if_pos h1]at h;exact absurd h (by simp)
 ·rw[if_neg h1]at h ⊢;by_cases h2:lim<Zdt v.1
  ·rw[if_pos h2]at h;exact absurd h (by simp)
  ·rw[if_neg h2];exact⟨by simpa using h1,by omega,rfl⟩
theorem zxn{lim:Nat}{v:Rat×Bool}{i:Nat}(h:(Za0 lim v i).2.1≠0):(Za0 lim v i).1=0∧(Za0 lim v i).2.2=i:=by
 unfold Za0 at h ⊢;split
 ·exact⟨rfl,rfl⟩
 ·next h1=>
  rw[if_neg h1]at h;split
  ·exact⟨rfl,rfl⟩
  ·next h2=>
   rw[if_neg h2]at h;exact absurd rfl h
theorem zfx(lim:Nat)(P:Po)(ls:List Rat):∀(t:Tre),t.ok→∀(i:Nat) (s:List Rat) (r:List Nd),Zf lim P ls i s (t.flat++r)=if (evT lim P ls t i).2.1≠0 then evT lim P ls t i else Zf lim P ls (i+t.flat.length) ((evT lim P ls t i).1::s) r
 | .leaf x,h,i,s,r=>by
  have e:arN x.op=0:=h;show Zf lim P ls i s (x::r)=_;have es:Zae P ls s x=((Zb2 P ls x,true),s):=by unfold Zae;rw[if_pos e]
  rw[Zf,es];show (if (Za0 lim (Zb2 P ls x,true) i).2.1≠0 then _ else _)=if (Za0 lim (Zb2 P ls x,true) i).2.1≠0 then Za0 lim (Zb2 P ls x,true) i else _
  by_cases hk:(Za0 lim (Zb2 P ls x,true) i).2.1=0
  ·rw[if_neg (by simpa using hk),if_neg (by simpa using hk)];have:=(zgj hk).2.2;show Zf lim P ls (i+1) (Zb2 P ls x::s) r=Zf lim P ls (i+1) ((Za0 lim (Zb2 P ls x,true) i).1::s) r;rw[this]
  ·rw[if_pos hk,if_pos hk]
 | .un x a,h,i,s,r=>by
  have e:arN x.op=1:=h.1;rw[Tre.flat,Y7,zfx lim P ls a h.2];by_cases ha:(evT lim P ls a i).2.1=0
  ·rw[if_neg (by simpa using ha)];have ee:evT lim P ls (.un x a) i=Za0 lim (unV x (evT lim P ls a i).1) (i+a.flat.length):=by show (if _ then _ else _)=_;rw[if_neg (by simpa using ha)]
   rw[ee];show Zf lim P ls (i+a.flat.length) ((evT lim P ls a i).1::s) (x::r)=_;have es:Zae P ls ((evT lim P ls a i).1::s) x=(unV x (evT lim P ls a i).1,s):=by unfold Zae;rw[if_neg (by omega),if_pos e];rfl
   rw[Zf,es];by_cases hk:(Za0 lim (unV x (evT lim P ls a i).1) (i+a.flat.length)).2.1=0
   ·rw[if_neg (by simpa using hk),if_neg (by simpa using hk),(zgj hk).2.2,Yk]
    rfl
   ·rw[if_pos hk,if_pos hk]
  ·rw[if_pos ha];have ee:evT lim P ls (.un x a) i=evT lim P ls a i:=by show (if _ then _ else _)=_;rw[if_pos ha]
   rw[ee,if_pos ha]
 | .bin x a b,h,i,s,r=>by
  have e:arN x.op=2:=h.1;rw[Tre.flat,Y7,zfx lim P ls a h.2.1];by_cases ha:(evT lim P ls a i).2.1=0
  ·rw[if_neg (by simpa using ha),Y7,zfx lim P ls b h.2.2];by_cases hb:(evT lim P ls b (i+a.flat.length)).2.1=0
   ·rw[if_neg (by simpa using hb)];have ee:evT lim P ls (.bin x a b) i=Za0 lim (biV x.op (evT lim P ls a i).1 (evT lim P ls b (i+a.flat.length)).1) (i+a.flat.length+b.flat.length):=by
     show (if _ then _ else _)=_;rw[if_neg (by simpa using ha),if_neg (by simpa using hb)]
    rw[ee];show Zf lim P ls (i+a.flat.length+b.flat.length) ((evT lim P ls b (i+a.flat.length)).1::(evT lim P ls a i).1::s) (x::r)=_;have es:Zae P ls ((evT lim P ls b (i+a.flat.length)).1::(evT lim P ls a i).1::s) x=(biV x.op (evT lim P ls a i).1 (evT lim P ls b (i+a.flat.length)).1,s):=by
     unfold Zae;rw[if_neg (by omega),if_neg (by omega)];rfl
    rw[Zf,es];by_cases hk:(Za0 lim (biV x.op (evT lim P ls a i).1 (evT lim P ls b (i+a.flat.length)).1) (i+a.flat.length+b.flat.length)).2.1=0
    ·rw[if_neg (by simpa using hk),if_neg (by simpa using hk),(zgj hk).2.2,Yk,Yk];simp only[Yal]
     rfl
    ·rw[if_pos hk,if_pos hk]
   ·rw[if_pos hb];have ee:evT lim P ls (.bin x a b) i=evT lim P ls b (i+a.flat.length):=by show (if _ then _ else _)=_;rw[if_neg (by simpa using ha),if_pos hb]
    rw[ee,if_pos hb]
  ·rw[if_pos ha];have ee:evT lim P ls (.bin x a b) i=evT lim P ls a i:=by show (if _ then _ else _)=_;rw[if_pos ha]
   rw[ee,if_pos ha]
theorem z1h{lim:Nat}{P:Po}{ls:List Rat}:∀{t:Tre} {i:Nat},(evT lim P ls t i).2.1=0→(evT lim P ls t i).2.2=0∧Zdt (evT lim P ls t i).1≤lim
 | .leaf x,i,h=>by
  have:=zgj (show (Za0 lim (Zb2 P ls x,true) i).2.1=0 from h);show (Za0 lim (Zb2 P ls x,true) i).2.2=0∧Zdt (Za0 lim (Zb2 P ls x,true) i).1≤lim;rw[this.2.2];exact⟨rfl,this.2.1⟩
 | .un x a,i,h=>by
  unfold evT at h ⊢;split
  ·next ha=>rw[if_pos ha]at h;exact absurd h ha
  ·next ha=>
   rw[if_neg ha]at h;have:=zgj h;rw[this.2.2];exact⟨rfl,this.2.1⟩
 | .bin x a b,i,h=>by
  unfold evT at h ⊢;split
  ·next ha=>rw[if_pos ha]at h;exact absurd h ha
  ·next ha=>
   rw[if_neg ha]at h;split
   ·next hb=>rw[if_pos hb]at h;exact absurd h hb
   ·next hb=>
    rw[if_neg hb]at h;have:=zgj h;rw[this.2.2];exact⟨rfl,this.2.1⟩
theorem zxo(lim:Nat)(P:Po)(ls:List Rat)(t:Tre)(h:t.ok)(i:Nat):Zf lim P ls i [] t.flat=evT lim P ls t i:=by
 have:=zfx lim P ls t h i [] [];rw[Ya2]at this;rw[this];by_cases hk:(evT lim P ls t i).2.1=0
 ·rw[if_neg (by simpa using hk)];show ((evT lim P ls t i).1,0,0)=_;have:=(z1h hk).1;exact Prod.ext rfl (Prod.ext hk.symm this.symm)
 ·rw[if_pos hk]
theorem zk9{P:Po}{ls:List Rat}{x:Nd}(hP:PvS P 1000)(hls:∀q∈ls,sz q≤1000)(hx:x.n.length≤1000):sz (Zb2 P ls x)≤1000:=by
 unfold Zb2;split
 ·unfold sz;have h1:=zad x.n;have e1:((val x.n:Nat):Rat).num.natAbs=val x.n:=by simp
  have e2:((val x.n:Nat):Rat).den=1:=by simp
  rw[e1,e2,ze7];exact Yfc.2 ⟨by omega,by decide⟩
 ·split
  ·exact z34 (by decide) hP.y
  ·split
   ·exact z34 (by decide) hP.p
   ·split
    ·exact z34 (by decide) hls
    ·exact hP.t
theorem zxp{x:Nd}{a:Rat}(ha:sz a≤129):sz (unV x a).1≤2000:=by
 unfold unV;split
 ·simp only[zxu];omega
 ·unfold Zfe;split
  ·next h=>
   have:=z36 ha h.1 h.2.1;show sz (Zg0 a x.i)≤2000;omega
  ·simp[zxt]
theorem zxq{op:Int}{a b:Rat}(ha:sz a≤129)(hb:sz b≤129):sz (biV op a b).1≤2000:=by
 unfold biV;split
 ·have:=z1m a b;simp only;omega
 ·split
  ·have:=z9o a b;simp only;omega
  ·split
   ·have:=z1n a b;simp only;omega
   ·have:=z9p a b;simp only;omega
theorem zqy{lim:Nat}{q:Rat}(hl:lim≤4096)(h:Zdt q≤lim):sz q≤129:=by
 have:=z35 h;have:lim/32≤128:=by omega
 omega
def Zl2(lim:Nat)(P:Po)(ls:List Rat):List Rat→List Nd→Int→Int→Int×Int
 | _,[],c,p=>(c,p)
 | s,x::r,c,p=>if (Zae P ls s x).1.2=false then (c,p) else if lim<Zdt (Zae P ls s x).1.1 then (Zdr c,Zea p (fz (Zae P ls s x).1.1))
   else Zl2 lim P ls ((Zae P ls s x).1.1::(Zae P ls s x).2) r (Zdr c) (Zea p (fz (Zae P ls s x).1.1))
abbrev hpA(gk:Nat)(Q:PoF)(LS:List Fz)(s p L seen:Int)(F:List Fz)(m:Nat):Heap:=
 [(.bor 0,⟨0,.str,9,[[.b Q.t.1,.sl (Za Q.t.2.1) .an,.sl (Za Q.t.2.2) .an,.sl (Zd Q.y) .an,.sl (Zd Q.p) .an,.sl (Zd LS) .an,.ptr (.bor 1) 1 3 0 0,.i .i64 seen,.bs (.bor 2) gk 3 0 m]]⟩),(.bor 1,bxG 1 s p L),(.bor 2,⟨gk,.own,3,Zd F⟩)]
abbrev wP:AV:=.ptr (.bor 0) 0 9 0 0
section
variable{T:Tbl}[Zad T][Zp T][Z0 T][Z3 T][Zq T][Zu T][Zl T][Zo T][Zr T][Zbj T][Zam T][Za6 T][Zcz T][Zcd T][Zar T][Zbv T][Zy T][Zaq T][Zay T][Zb7 T]
theorem zj6(a:List UInt32)(ha:a.length≤10000):Zb T 204 [.agg [.b false,.sl (Za a) .an],.sl [[u32 1]] .an]=some (.tup [efz (fz ((val a:Nat):Rat)),.b true]):=by
 have c1:Zb T 70 [.sl [[u32 1]] .an]=some (.b false):=zej (T:=T) [1] (by decide);have c2:Zb T 202 [.agg [.b false,.sl (Za a) .an],.sl [[u32 1]] .an]=some (efz (fz (mkRat (wv false a) 1))):=zox (T:=T) false a [1] ha (by decide) (by decide);have e:mkRat (wv false a) 1=((val a:Nat):Rat):=by
  rw[Rat.mkRat_one]
  rfl
 rw[e]at c2;rw[zab Zbj.h204 rfl,b204];generalize fz ((val a:Nat):Rat)=R at *
 simp -implicitDefEqProofs[c1,c2]
theorem z39(Q:PoF)(LS:List Fz)(s p L seen:Int)(F:List Fz)(m:Nat)(x:Fz)(hx:F[m]? = some x)(hm:m≤100000):Z6 T 490 [wP] (hpA 2 Q LS s p L seen F (m+1))=some (efz x,hpA 2 Q LS s p L seen F m):=by
 obtain⟨hlt,hge⟩:=Ye.1 hx;have hw:IntKind.wrap .i64 (m:Int)=m:=zac _ (by omega);have h1:(m:Int)<(m:Int)+1:=by omega
 have h2:(m:Int)≤(m:Int)+1:=by omega
 obtain⟨⟨q0,q1,q2⟩,qy,qp⟩:=Q;obtain⟨x0,x1,x2⟩:=x;rw[zao Zy.h490 rfl,b490];simp -implicitDefEqProofs[hx,hge,hlt,hw,h1,h2]
theorem z9h(P:Po)(ls:List Rat)(s p L seen:Int)(F:List Fz)(m:Nat)(x:Nd)(ha:arN x.op=0)(hn:x.n.length≤1000)(hy:x.op=3→0≤x.i∧x.i<P.y.length)(hp:x.op=4→0≤x.i∧x.i<P.p.length)(hl:x.op=5→0≤x.i∧x.i<ls.length) :
  Z6 T 489 [wP,.agg (Zcl x)] (hpA 2 P.f (fzs ls) s p L seen F m)=some (efz (fz (Zb2 P ls x)),hpA 2 P.f (fzs ls) s p L seen F m):=by
 have hop:x.op=1∨x.op=2∨x.op=3∨x.op=4∨x.op=5:=by rcases zay x.op with ⟨e,h⟩ | ⟨e,h⟩ | ⟨e,h⟩ | ⟨e,h⟩<;>omega
 have c1:=zj6 (T:=T) x.n (by omega);obtain⟨op,i,n⟩:=x;obtain⟨t,y,pp⟩:=P;dsimp only at *
 unfold Zb2 Po.f;dsimp only;rw[zao Zy.h489 rfl,b489];rcases hop with rfl | rfl | rfl | rfl | rfl
 ·show _=some (efz (fz ((val n:Nat):Rat)),_);generalize fz ((val n:Nat):Rat)=z at *
  generalize fzs y=Y at *
  generalize fzs pp=PP at *
  generalize fzs ls=LL at *
  generalize fz t=tt at *
  obtain⟨t0,t1,t2⟩:=tt;simp -implicitDefEqProofs[c1]
 ·show _=some (efz (fz t),_);generalize fzs y=Y at *
  generalize fzs pp=PP at *
  generalize fzs ls=LL at *
  generalize fz t=tt at *
  obtain⟨t0,t1,t2⟩:=tt;simp -implicitDefEqProofs
 ·obtain⟨k,rfl,g1,g2,g3⟩:=zfu (hy rfl);have g4:=(Ye.1 g3).2;have hl2:(fzs y).length=y.length:=za2 y;show _=some (efz (fz (gI y (k:Int))),_);generalize fz (gI y (k:Int))=z at *
  generalize fzs y=Y at *
  generalize fzs pp=PP at *
  generalize fzs ls=LL at *
  generalize fz t=tt at *
  obtain⟨t0,t1,t2⟩:=tt;simp -implicitDefEqProofs[g1,g2,g3,g4,hl2]
 ·obtain⟨k,rfl,g1,g2,g3⟩:=zfu (hp rfl);have g4:=(Ye.1 g3).2;have hl2:(fzs pp).length=pp.length:=za2 pp;show _=some (efz (fz (gI pp (k:Int))),_);generalize fz (gI pp (k:Int))=z at *
  generalize fzs y=Y at *
  generalize fzs pp=PP at *
  generalize fzs ls=LL at *
  generalize fz t=tt at *
  obtain⟨t0,t1,t2⟩:=tt;simp -implicitDefEqProofs[g1,g2,g3,g4,hl2]
 ·obtain⟨k,rfl,g1,g2,g3⟩:=zfu (hl rfl);have g4:=(Ye.1 g3).2;have hl2:(fzs ls).length=ls.length:=za2 ls;show _=some (efz (fz (gI ls (k:Int))),_);generalize fz (gI ls (k:Int))=z at *
  generalize fzs y=Y at *
  generalize fzs pp=PP at *
  generalize fzs ls=LL at *
  generalize fz t=tt at *
  obtain⟨t0,t1,t2⟩:=tt;simp -implicitDefEqProofs[g1,g2,g3,g4,hl2]
theorem zz9(Q:PoF)(LS:List Fz)(s p L seen:Int)(F:List Fz)(m:Nat)(x:Nd)(ha:arN x.op=0)(v:Fz)
  (c:Z6 T 489 [wP,.agg (Zcl x)] (hpA 2 Q LS s p L seen F m)=some (efz v,hpA 2 Q LS s p L seen F m)) :
  Z6 T 484 [wP,.agg (Zcl x)] (hpA 2 Q LS s p L seen F m)=some (.tup [efz v,.b true],hpA 2 Q LS s p L seen F m):=by
 have ca:=zbr (T:=T) x.op;rw[ha]at ca;obtain⟨⟨q0,q1,q2⟩,qy,qp⟩:=Q;obtain⟨op,i,n⟩:=x;rw[zao Zy.h484 rfl,b484];simp -implicitDefEqProofs[ca,c]
theorem z0a(Q:PoF)(LS:List Fz)(s p L seen:Int)(F:List Fz)(m:Nat)(x:Nd)(ha:arN x.op=1)(a:Rat)(hz:sz a≤129)(hx:F[m]? = some (fz a))(hm:m≤100000) :
  Z6 T 484 [wP,.agg (Zcl x)] (hpA 2 Q LS s p L seen F (m+1))=some (.tup [efz (fz (unV x a).1),.b (unV x a).2],hpA 2 Q LS s p L seen F m):=by
 have ca:=zbr (T:=T) x.op;rw[ha]at ca;have hop:x.op=6∨x.op=11:=by rcases zay x.op with ⟨e,h⟩ | ⟨e,h⟩ | ⟨e,h⟩ | ⟨e,h⟩<;>omega
 have cp:=z39 (T:=T) Q LS s p L seen F m (fz a) hx hm;have c6:=zqc (T:=T) (fz a) (by rw[zcg];omega);have c11:=zqh (T:=T) (fz a) x.i (by rw[zcg];omega);rw[zeq]at c6 c11;obtain⟨⟨q0,q1,q2⟩,qy,qp⟩:=Q;obtain⟨op,i,n⟩:=x;dsimp only at *
 unfold unV;dsimp only;rw[zao Zy.h484 rfl,b484];rcases hop with rfl | rfl
 ·rw[if_pos rfl];dsimp only;generalize fz (-a)=z at *
  generalize fz a=u at *
  simp -implicitDefEqProofs[ca,cp,c6]
 ·rw[if_neg (by decide)];generalize fz (Zfe a i).1=z at *
  generalize (Zfe a i).2=ok at *
  generalize fz a=u at *
  simp -implicitDefEqProofs[ca,cp,c11]
theorem z0b(Q:PoF)(LS:List Fz)(s p L seen:Int)(F:List Fz)(m:Nat)(x:Nd)(ha:arN x.op=2)(a b:Rat)(hza:sz a≤129)(hzb:sz b≤129)(hx:F[m]? = some (fz a))(hx2:F[m+1]? = some (fz b))(hm:m≤90000) :
  Z6 T 484 [wP,.agg (Zcl x)] (hpA 2 Q LS s p L seen F (m+2))=some (.tup [efz (fz (biV x.op a b).1),.b (biV x.op a b).2],hpA 2 Q LS s p L seen F m):=by
 have ca:=zbr (T:=T) x.op;rw[ha]at ca;have hop:x.op=7∨x.op=8∨x.op=9∨x.op=10:=by rcases zay x.op with ⟨e,h⟩ | ⟨e,h⟩ | ⟨e,h⟩ | ⟨e,h⟩<;>omega
 have cp:=z39 (T:=T) Q LS s p L seen F m (fz a) hx (by omega);have cp2:=z39 (T:=T) Q LS s p L seen F (m+1) (fz b) hx2 (by omega);have sa:fsz (fz a)≤1000:=by rw[zcg];omega
 have sb:fsz (fz b)≤1000:=by rw[zcg];omega
 have c7:=zqd (T:=T) (fz a) (fz b) sa sb;have c8:=zqe (T:=T) (fz a) (fz b) sa sb;have c9:=zqf (T:=T) (fz a) (fz b) sa sb;have c10:=zqg (T:=T) (fz a) (fz b) sa sb;rw[zeq,zeq]at c7 c8 c9 c10;obtain⟨⟨q0,q1,q2⟩,qy,qp⟩:=Q;obtain⟨op,i,n⟩:=x;dsimp only at *
 unfold biV;rw[zao Zy.h484 rfl,b484];rcases hop with rfl | rfl | rfl | rfl
 ·rw[if_pos rfl];dsimp only;generalize fz (a+b)=z at *
  generalize fz a=u at *
  generalize fz b=w at *
  simp -implicitDefEqProofs[ca,cp,cp2,c7]
 ·rw[if_neg (by decide),if_pos rfl];dsimp only;generalize fz (a-b)=z at *
  generalize fz a=u at *
  generalize fz b=w at *
  simp -implicitDefEqProofs[ca,cp,cp2,c8]
 ·rw[if_neg (by decide),if_neg (by decide),if_pos rfl];dsimp only;generalize fz (a*b)=z at *
  generalize fz a=u at *
  generalize fz b=w at *
  simp -implicitDefEqProofs[ca,cp,cp2,c9]
 ·rw[if_neg (by decide),if_neg (by decide),if_neg (by decide)];dsimp only;generalize fz (a/b)=z at *
  generalize decide (b≠0)=ok at *
  generalize fz a=u at *
  generalize fz b=w at *
  simp -implicitDefEqProofs[ca,cp,cp2,c10]
end
abbrev Zmf(z:Fz):Box:=⟨7,.str,3,[[.b z.1,.sl (Za z.2.1) .an,.sl (Za z.2.2) .an]]⟩
abbrev Zmg(a b c d:Int):Box:=⟨8,.str,4,[[.i .i64 a,.i .i64 b,.i .i64 c,.i .i64 d]]⟩
abbrev hqA(gk:Nat)(Q:PoF)(LS:List Fz)(s p L seen:Int)(F:List Fz)(m:Nat)(z:Fz)(a b c d:Int):Heap:=
 [(.bor 0,⟨0,.str,9,[[.b Q.t.1,.sl (Za Q.t.2.1) .an,.sl (Za Q.t.2.2) .an,.sl (Zd Q.y) .an,.sl (Zd Q.p) .an,.sl (Zd LS) .an,.ptr (.bor 1) 1 3 0 0,.i .i64 seen,.bs (.bor 2) gk 3 0 m]]⟩),(.bor 1,bxG 1 s p L),(.bor 2,⟨gk,.own,3,Zd F⟩),(.loc 4,Zmf z),(.loc 5,Zmg a b c d)]
def Zel(gk:Nat)(Q:PoF)(LS:List Fz)(s p L seen:Int)(F:List Fz)(m:Nat)(code:List Nd)(i:Nat):St:=
 ⟨[(0,wP),(4,.ptr (.loc 4) 7 3 0 0),(5,.ptr (.loc 5) 8 4 0 0),(18,.sl (Zt code) .an),(19,.i .i64 code.length),(20,.i .i64 i)],hqA gk Q LS s p L seen F m (false,[],[]) 0 0 0 0,10⟩
def Zh4(gk:Nat)(Q:PoF)(LS:List Fz)(s p L seen:Int)(F:List Fz)(m:Nat):Ex×St:=
 (.n,⟨[(0,wP),(4,.ptr (.loc 4) 7 3 0 0),(5,.ptr (.loc 5) 8 4 0 0)],hqA gk Q LS s p L seen F m (false,[],[]) 0 0 0 0,10⟩)
def Zem(gk:Nat)(Q:PoF)(LS:List Fz)(s p L seen:Int)(F:List Fz)(m:Nat)(kind at_:Int):Ex×St:=
 (.r,⟨[(4,.ptr (.loc 4) 7 3 0 0),(5,.ptr (.loc 5) 8 4 0 0)],hqA gk Q LS s p L seen F m (fz 0) kind 0 0 at_,10⟩)
theorem zrw(m:List Fz)(v:Fz):wkL (Zd m++[[.b v.1,.sl (Za v.2.1) .an,.sl (Za v.2.2) .an]])=Zd (m++[v]):=by
 have:Zd m++[Zce v]=Zd (m++[v]):=zfy m v;rw[show [[AV.b v.1,.sl (Za v.2.1) .an,.sl (Za v.2.2) .an]]=[Zce v] from rfl,this,zla]
section
variable{T:Tbl}[Zad T][Zp T][Z0 T][Z3 T][Zq T][Zu T][Zl T][Zo T][Zr T][Zbj T][Zam T][Za6 T][Zcz T][Zcd T][Zar T][Zbv T][Zy T][Zaq T][Zay T][Zb7 T]
theorem zrx{gk:Nat}(hk:gk=2∨gk=6)(Q:PoF)(LS:List Fz)(s p L seen:Int)(F:List Fz)(m m2:Nat)(code:List Nd)(i:Nat)(x:Nd)(v:Fz)(hx:code[i]? = some x)(hl:code.length≤100000)(hm:m2≤F.length)(hF:F.length≤100000)(hs:0≤seen)(hs2:seen≤100000)(hv:fsz v≤10000)
  (c:Z6 T 484 [wP,.agg (Zcl x)] (hpA 2 Q LS s p L seen F m)=some (.tup [efz v,.b true],hpA 2 Q LS s p L seen F m2)) (hf:(Zcv v:Int)≤L) :
  evX (orc T) T 3 l473_0 (Zel gk Q LS s p L seen F m code i)=some (.n,Zel 6 Q LS (Zdr s) (Zea p v) L (seen+1) (F.take m2++[v]) (m2+1) code (i+1)):=by
 have cg:=zei (T:=T) s p L v hv;rw[decide_eq_true hf]at cg;obtain⟨hlt,hge⟩:=Ye.1 hx;have hlt':(i:Int)<code.length:=by omega
 have hws:=za8 hlt (by omega);have hw:IntKind.wrap .i64 (seen+1)=seen+1:=zac _ (by omega);have hpu:=zrw (F.take m2) v;have htl:(F.take m2).length=m2:=by rw[Yx];omega
 have h32:m2+1≤4294967296:=by omega
 generalize Zdr s=s' at *
 generalize Zea p v=p' at *
 obtain⟨⟨q0,q1,q2⟩,qy,qp⟩:=Q;obtain⟨op,xi,n⟩:=x;obtain⟨v0,v1,v2⟩:=v;unfold Zel;rcases hk with rfl | rfl
 ·simp -implicitDefEqProofs[l473_0,hlt,hlt',hx,hge,hws,c,cg,hw,hpu,hm,h32]
 ·simp -implicitDefEqProofs[l473_0,hlt,hlt',hx,hge,hws,c,cg,hw,hpu,hm,h32]
theorem zvc{gk:Nat}(hk:gk=2∨gk=6)(Q:PoF)(LS:List Fz)(s p L seen:Int)(F:List Fz)(m m2:Nat)(code:List Nd)(i:Nat)(x:Nd)(v:Fz)(hx:code[i]? = some x)
  (c:Z6 T 484 [wP,.agg (Zcl x)] (hpA 2 Q LS s p L seen F m)=some (.tup [efz v,.b false],hpA 2 Q LS s p L seen F m2)) :
  evX (orc T) T 3 l473_0 (Zel gk Q LS s p L seen F m code i)=some (Zem gk Q LS s p L seen F m2 3 seen):=by
 have c0:=zdp (T:=T);obtain⟨hlt,hge⟩:=Ye.1 hx;have hlt':(i:Int)<code.length:=by omega
 unfold Zel Zem;generalize fz 0=Z at *
 obtain⟨z0,z1,z2⟩:=Z;obtain⟨⟨q0,q1,q2⟩,qy,qp⟩:=Q;obtain⟨op,xi,n⟩:=x;obtain⟨v0,v1,v2⟩:=v;rcases hk with rfl | rfl
 ·simp -implicitDefEqProofs[l473_0,hlt,hlt',hx,hge,c,c0]
 ·simp -implicitDefEqProofs[l473_0,hlt,hlt',hx,hge,c,c0]
theorem zvd{gk:Nat}(hk:gk=2∨gk=6)(Q:PoF)(LS:List Fz)(s p L seen:Int)(F:List Fz)(m m2:Nat)(code:List Nd)(i:Nat)(x:Nd)(v:Fz)(hx:code[i]? = some x)(hv:fsz v≤10000)
  (c:Z6 T 484 [wP,.agg (Zcl x)] (hpA 2 Q LS s p L seen F m)=some (.tup [efz v,.b true],hpA 2 Q LS s p L seen F m2)) (hf:¬ (Zcv v:Int)≤L) :
  evX (orc T) T 3 l473_0 (Zel gk Q LS s p L seen F m code i)=some (Zem gk Q LS (Zdr s) (Zea p v) L seen F m2 6 seen):=by
 have c0:=zdp (T:=T);have cg:=zei (T:=T) s p L v hv;rw[decide_eq_false hf]at cg;obtain⟨hlt,hge⟩:=Ye.1 hx;have hlt':(i:Int)<code.length:=by omega
 generalize Zdr s=s' at *
 generalize Zea p v=p' at *
 unfold Zel Zem;generalize fz 0=Z at *
 obtain⟨z0,z1,z2⟩:=Z;obtain⟨⟨q0,q1,q2⟩,qy,qp⟩:=Q;obtain⟨op,xi,n⟩:=x;obtain⟨v0,v1,v2⟩:=v;rcases hk with rfl | rfl
 ·simp -implicitDefEqProofs[l473_0,hlt,hlt',hx,hge,c,cg,c0]
 ·simp -implicitDefEqProofs[l473_0,hlt,hlt',hx,hge,c,cg,c0]
theorem zyu{gk:Nat}(hk:gk=2∨gk=6)(Q:PoF)(LS:List Fz)(s p L seen:Int)(F:List Fz)(m:Nat)(code:List Nd) :
  Zbe (evX (orc T) T 3 l473_0 (Zel gk Q LS s p L seen F m code code.length))=true∧Za8 3 0 (.norm false [0,4,5]) (evX (orc T) T 3 l473_0 (Zel gk Q LS s p L seen F m code code.length))=some (Zh4 gk Q LS s p L seen F m):=by
 obtain⟨⟨q0,q1,q2⟩,qy,qp⟩:=Q;unfold Zel Zh4;rcases hk with rfl | rfl<;>constructor<;>simp -implicitDefEqProofs[l473_0]
end
theorem zvh{dim pars lets:Int}{x:Nd}(h:okN dim pars lets x=true):(x.op=3→0≤x.i∧x.i<dim)∧(x.op=4→0≤x.i∧x.i<pars)∧(x.op=5→0≤x.i∧x.i<lets):=by
 unfold okN at h;refine⟨fun ho=>?_,fun ho=>?_,fun ho=>?_⟩
 all_goals
  rw[ho]at h;rw[if_neg (by decide)]at h;split at h
  ·cases h
  ·simpa[Zg8]using h
section
variable{T:Tbl}[Zad T][Zp T][Z0 T][Z3 T][Zq T][Zu T][Zl T][Zo T][Zr T][Zbj T][Zam T][Za6 T][Zcz T][Zcd T][Zar T][Zbv T][Zy T][Zaq T][Zay T][Zb7 T]
theorem z07(gk:Nat)(Q:PoF)(LS:List Fz)(s p L seen:Int)(F:List Fz)(m:Nat)(kind at_:Int):Za8 3 0 (.norm false [0,4,5]) (some (Zem gk Q LS s p L seen F m kind at_))=some (Zem gk Q LS s p L seen F m kind at_):=by
 unfold Zem;simp -implicitDefEqProofs
def Zk0(P:Po)(lim:Nat)(ls:List Rat)(n:Nat)(R:Rat×Nat×Nat)(r:Ex×St):Prop:=
 (R.2.1=0∧∃gk s p F,(gk=2∨gk=6)∧F[0]? = some (fz R.1)∧F.length≤5000∧r=Zh4 gk P.f (fzs ls) s p lim n F 1) ∨
 (R.2.1≠0∧∃gk s p seen F m,(gk=2∨gk=6)∧r=Zem gk P.f (fzs ls) s p lim seen F m R.2.1 R.2.2)
theorem zos(P:Po)(lim:Nat)(hlim:lim≤4096)(ls:List Rat)(hP:PvS P 1000)(hls:∀q∈ls,sz q≤1000)(code:List Nd)(hl:code.length≤3000)(hok:∀x∈code,okN P.y.length P.p.length ls.length x=true)(hn:thin 1000 code)(hwr:Z2 code=-1)(n0:Nat)(hn0:n0≤10000)(s0 p0:Int)(F0:List Fz)(hF0:F0.length≤5000) :
  ∃r,Zk0 P lim ls (n0+code.length) (Zf lim P ls n0 [] code) r∧Ze T 3 0 (.norm false [0,4,5]) l473_0 (Zel 2 P.f (fzs ls) s0 p0 lim n0 F0 0 code 0)=some r:=by
 refine zam (fun x:Nat×List Rat×Nat×(Int×Int)×List Fz=>Zel x.2.2.1 P.f (fzs ls) x.2.2.2.1.1 x.2.2.2.1.2 lim ((n0+x.1:Nat):Int) x.2.2.2.2 x.2.1.length code x.1)
  (fun x=>x.1≤code.length∧(x.2.2.1=2∨x.2.2.1=6)∧x.2.2.2.2.take x.2.1.length=fzs x.2.1.reverse∧x.2.1.length≤x.2.2.2.2.length∧x.2.2.2.2.length≤5000∧(∀q∈x.2.1,sz q≤129)∧x.2.1.length≤x.1∧(∃j,Zs j x.2.1.length (code.drop x.1)=-1)∧Zf lim P ls (n0+x.1) x.2.1 (code.drop x.1)=Zf lim P ls n0 [] code)
  (fun x=>code.length-x.1) _ ?_ (0,[],2,(s0,p0),F0) ⟨Yq _,.inl rfl,rfl,Yq _,hF0,by simp,Yg _,⟨0,hwr⟩,rfl⟩
 rintro⟨i,s,gk,⟨c,p⟩,F⟩ ⟨hi,hk,hF,hsF,hFl,hz,hsi,⟨j,hw⟩,hW⟩
 dsimp only at *
 by_cases hlt:i<code.length
 ·have hx:code[i]? = some (code[i]'hlt):=Ya hlt;have hd:code.drop i=code[i]'hlt::code.drop (i+1):=Yd hlt;have hmem:=Y2 hlt;generalize code[i]'hlt=x at *
  rw[hd]at hw hW;have hxn:=hn x hmem;have hxo:=zvh (hok x hmem);have h1:¬ (arN x.op<0∨(s.length:Int)<arN x.op):=by
   intro hh;unfold Zs at hw;rw[if_pos hh]at hw;omega
  have hw2:Zs (j+1) (s.length+1-arN x.op) (code.drop (i+1))=-1:=by
   unfold Zs at hw
   rwa [if_neg h1]at hw
  -- one round,by what the node makes of the stack
  have round:∀(v:Rat) (ok:Bool) (s':List Rat),Zae P ls s x=((v,ok),s')→sz v≤2000→s'.length≤s.length→(s'.length:Int)=s.length-arN x.op→(∀q∈s',q∈s)→F.take s'.length=fzs s'.reverse →
    Z6 T 484 [wP,.agg (Zcl x)] (hpA 2 P.f (fzs ls) c p lim ((n0+i:Nat):Int) F s.length)=some (.tup [efz (fz v),.b ok],hpA 2 P.f (fzs ls) c p lim ((n0+i:Nat):Int) F s'.length) →
    (∃y:Nat×List Rat×Nat×(Int×Int)×List Fz,(y.1≤code.length∧(y.2.2.1=2∨y.2.2.1=6)∧y.2.2.2.2.take y.2.1.length=fzs y.2.1.reverse∧y.2.1.length≤y.2.2.2.2.length∧y.2.2.2.2.length≤5000∧(∀q∈y.2.1,sz q≤129)∧y.2.1.length≤y.1∧(∃j,Zs j y.2.1.length (code.drop y.1)=-1)∧Zf lim P ls (n0+y.1) y.2.1 (code.drop y.1)=Zf lim P ls n0 [] code)∧code.length-y.1<code.length-i ∧
     evX (orc T) T 3 l473_0 (Zel gk P.f (fzs ls) c p lim ((n0+i:Nat):Int) F s.length code i)=some (.n,Zel y.2.2.1 P.f (fzs ls) y.2.2.2.1.1 y.2.2.2.1.2 lim ((n0+y.1:Nat):Int) y.2.2.2.2 y.2.1.length code y.1)) ∨
    (∃r,Zk0 P lim ls (n0+code.length) (Zf lim P ls n0 [] code) r∧Zbe (evX (orc T) T 3 l473_0 (Zel gk P.f (fzs ls) c p lim ((n0+i:Nat):Int) F s.length code i))=true ∧
     Za8 3 0 (.norm false [0,4,5]) (evX (orc T) T 3 l473_0 (Zel gk P.f (fzs ls) c p lim ((n0+i:Nat):Int) F s.length code i))=some r):=by
   intro v ok s' hst hv hs's hlen hsub hF' hc;have hvf:fsz (fz v)≤10000:=by rw[zcg];omega
   rw[Zf,hst]at hW;dsimp only at hW;cases ok with
   | false=>
    right;have e:=zvc (T:=T) hk P.f (fzs ls) c p lim ((n0+i:Nat):Int) F s.length s'.length code i x (fz v) hx hc;have ef:Za0 lim (v,false) (n0+i)=(0,3,n0+i):=rfl;rw[ef]at hW;rw[if_pos (by simp)]at hW;refine⟨Zem gk P.f (fzs ls) c p lim ((n0+i:Nat):Int) F s'.length 3 ((n0+i:Nat):Int),.inr ?_,by rw[e];rfl,by rw[e,z07]⟩;rw[←hW];exact⟨by simp,gk,c,p,_,F,_,hk,rfl⟩
   | true=>
    by_cases hfit:Zdt v≤lim
    ·left;have ef:Za0 lim (v,true) (n0+i)=(v,0,0):=by unfold Za0;rw[if_neg (by simp),if_neg (by dsimp only;omega)]
     rw[ef]at hW;rw[if_neg (by simp)]at hW;have e:=zrx (T:=T) hk P.f (fzs ls) c p lim ((n0+i:Nat):Int) F s.length s'.length code i x (fz v) hx (by omega) (by omega) (by omega) (by omega) (by omega) hvf hc (by unfold Zdt at hfit;omega);have hn1:((n0+i:Nat):Int)+1=((n0+(i+1):Nat):Int):=by omega
     rw[hn1]at e;have hl1:(F.take s'.length++[fz v]).length=s'.length+1:=by rw[Yk,Yx];simp only[Yc,Yag];omega
     refine⟨(i+1,v::s',6,(Zdr c,Zea p (fz v)),F.take s'.length++[fz v]),⟨by dsimp only;omega,.inr rfl,?_,?_,?_,?_,?_,⟨j+1,?_⟩,?_⟩,by dsimp only;omega,e⟩
     ·dsimp only;rw[Yc,Yb (by omega),hF'];simp[fzs]
     ·dsimp only;rw[Yc,hl1];exact Yg _
     ·dsimp only;rw[hl1];omega
     ·intro q hq;rcases Yaa.1 hq with rfl | hq
      ·exact zqy hlim hfit
      ·exact hz q (hsub q hq)
     ·dsimp only;rw[Yc];omega
     ·dsimp only;rw[←hw2];congr 1;rw[Yc];omega
     ·dsimp only;rw[←hW];congr 1
    ·right;have ef:Za0 lim (v,true) (n0+i)=(0,6,n0+i):=by unfold Za0;rw[if_neg (by simp),if_pos (by dsimp only;omega)]
     rw[ef]at hW;rw[if_pos (by simp)]at hW;have e:=zvd (T:=T) hk P.f (fzs ls) c p lim ((n0+i:Nat):Int) F s.length s'.length code i x (fz v) hx hvf hc (by unfold Zdt at hfit;omega);refine⟨Zem gk P.f (fzs ls) (Zdr c) (Zea p (fz v)) lim ((n0+i:Nat):Int) F s'.length 6 ((n0+i:Nat):Int),.inr ?_,by rw[e];rfl,by rw[e,z07]⟩;rw[←hW];exact⟨by simp,gk,_,_,_,F,_,hk,rfl⟩
  rcases zay x.op with ⟨e,ho⟩ | ⟨e,ho⟩ | ⟨e,ho⟩ | ⟨e,ho⟩
  ·have hst:Zae P ls s x=((Zb2 P ls x,true),s):=by unfold Zae;rw[if_pos e]
   have cl:=z9h (T:=T) P ls c p lim ((n0+i:Nat):Int) F s.length x e hxn hxo.1 hxo.2.1 hxo.2.2;exact round _ true s hst (by have:=zk9 (P:=P) hP hls hxn;omega) (Yg _) (by rw[e];omega) (fun q hq=>hq) hF (zz9 P.f (fzs ls) c p lim _ F s.length x e _ cl)
  ·cases s with
   | nil=>exfalso;apply h1;right;rw[e];decide
   | cons a s1=>
    have hst:Zae P ls (a::s1) x=(unV x a,s1):=by unfold Zae;rw[if_neg (by omega),if_pos e];rfl
    have hza:=hz a (by simp);have hFa:F[s1.length]? = some (fz a):=by
     have:(F.take (a::s1).length)[s1.length]? = some (fz a):=by rw[hF];simp[fzs]
     rwa [Yn,if_pos (by simp)]at this
    have hF1:F.take s1.length=fzs s1.reverse:=by
     have:(F.take (a::s1).length).take s1.length=fzs s1.reverse:=by rw[hF];simp[fzs]
     rwa [Ydc,Ya9 (by simp)]at this
    have cv:=z0a (T:=T) P.f (fzs ls) c p lim ((n0+i:Nat):Int) F s1.length x e a hza hFa (by rw[Yc]at hsi;omega);exact round (unV x a).1 (unV x a).2 s1 hst (zxp hza) (by simp) (by rw[e,Yc];omega) (fun q hq=>by simp[hq]) hF1 cv
  ·cases s with
   | nil=>exfalso;apply h1;right;rw[e];decide
   | cons b s0=>
   cases s0 with
   | nil=>exfalso;apply h1;right;rw[e];simp
   | cons a s1=>
    have hst:Zae P ls (b::a::s1) x=(biV x.op a b,s1):=by unfold Zae;rw[if_neg (by omega),if_neg (by omega)];rfl
    have hza:=hz a (by simp);have hzb:=hz b (by simp);have hFa:F[s1.length]? = some (fz a):=by
     have:(F.take (b::a::s1).length)[s1.length]? = some (fz a):=by rw[hF];simp[fzs]
     rwa [Yn,if_pos (by simp only[Yc];omega)]at this
    have hFb:F[s1.length+1]? = some (fz b):=by
     have:(F.take (b::a::s1).length)[s1.length+1]? = some (fz b):=by rw[hF];simp[fzs]
     rwa [Yn,if_pos (by simp)]at this
    have hF1:F.take s1.length=fzs s1.reverse:=by
     have:(F.take (b::a::s1).length).take s1.length=fzs s1.reverse:=by rw[hF];simp[fzs]
     rwa [Ydc,Ya9 (by simp;omega)]at this
    have cv:=z0b (T:=T) P.f (fzs ls) c p lim ((n0+i:Nat):Int) F s1.length x e a b hza hzb hFa hFb (by simp only[Yc]at hsi;omega);exact round (biV x.op a b).1 (biV x.op a b).2 s1 hst (zxq hza hzb) (by simp;omega) (by rw[e,Yc,Yc];omega) (fun q hq=>by simp[hq]) hF1 cv
  ·exfalso;apply h1;left;omega
 ·right;have hi2:i=code.length:=by omega
  subst hi2;rw[Y0]at hw hW;have hs1:s.length=1:=by
   unfold Zs at hw;split at hw
   ·omega
   ·omega
  obtain⟨v,rfl⟩:=Ybv.1 hs1;have e:=zyu (T:=T) hk P.f (fzs ls) c p lim ((n0+code.length:Nat):Int) F 1 code;refine⟨Zh4 gk P.f (fzs ls) c p lim ((n0+code.length:Nat):Int) F 1,.inl ?_,e.1,e.2⟩;have hR:Zf lim P ls (n0+code.length) [v] []=(v,0,0):=rfl;rw[hR]at hW;rw[←hW];have hFa:F[0]? = some (fz v):=by
   have:(F.take [v].length)[0]? = some (fz v):=by rw[hF];simp[fzs]
   rwa [Yn,if_pos (by simp)]at this
  exact⟨rfl,gk,c,p,F,hk,hFa,hFl,rfl⟩
end
theorem zge(lim:Nat)(P:Po)(ls:List Rat):∀(l:List Nd) (i:Nat) (s:List Rat),(Zf lim P ls i s l).2.1≠0→(Zf lim P ls i s l).1=0
 | [],i,s,h=>absurd rfl h
 | x::r,i,s,h=>by
  unfold Zf at h ⊢;split
  ·next h1=>exact(zxn h1).1
  ·next h1=>
   rw[if_neg h1]at h;exact zge lim P ls r _ _ h
theorem zdr(lim:Nat)(P:Po)(ls:List Rat):∀(l:List Nd) (i:Nat) (s:List Rat),(Zf lim P ls i s l).2.1=0→(Zf lim P ls i s l).2.2=0
 | [],i,s,_=>rfl
 | x::r,i,s,h=>by
  unfold Zf at h ⊢;split
  ·next h1=>rw[if_pos h1]at h;exact absurd h h1
  ·next h1=>
   rw[if_neg h1]at h;exact zdr lim P ls r _ _ h
section
variable{T:Tbl}[Zad T][Zp T][Z0 T][Z3 T][Zq T][Zu T][Zl T][Zo T][Zr T][Zbj T][Zam T][Za6 T][Zcz T][Zcd T][Zar T][Zbv T][Zy T][Zaq T][Zay T][Zb7 T]
theorem zpf(P:Po)(lim:Nat)(hlim:lim≤4096)(ls:List Rat)(hP:PvS P 1000)(hls:∀q∈ls,sz q≤1000)(code:List Nd)(hl:code.length≤3000)(hok:∀x∈code,okN P.y.length P.p.length ls.length x=true)(hn:thin 1000 code)(hwr:Z2 code=-1)(n0:Nat)(hn0:n0≤10000)(s0 p0:Int)(F0:List Fz)(m0:Nat)(hF0:F0.length≤5000) :
  ∃(gk:Nat) (s p seen:Int) (F:List Fz) (m:Nat),(gk=2∨gk=6)∧((Zf lim P ls n0 [] code).2.1=0→seen=((n0+code.length:Nat):Int)∧F.length≤5000) ∧
   Z6 T 473 [wP,.sl (Zt code) .an] (hpA 2 P.f (fzs ls) s0 p0 lim n0 F0 m0)=some (.tup [efz (fz (Zf lim P ls n0 [] code).1),.agg [.i .i64 (Zf lim P ls n0 [] code).2.1,.i .i64 0,.i .i64 0,.i .i64 (Zf lim P ls n0 [] code).2.2]],hpA gk P.f (fzs ls) s p lim seen F m):=by
 obtain⟨r,hq,hlo⟩:=zos (T:=T) P lim hlim ls hP hls code hl hok hn hwr n0 hn0 s0 p0 F0 hF0;have hst:=zge lim P ls code n0 [];have hat:=zdr lim P ls code n0 [];generalize Zf lim P ls n0 [] code=R at *
 obtain⟨v,kind,at_⟩:=R;dsimp only at *
 unfold Zel at hlo;have he:hqA 2 P.f (fzs ls) s0 p0 lim n0 F0 0 (false,[],[]) 0 0 0 0=[(.bor 0,⟨0,.str,9,[[.b P.f.t.1,.sl (Za P.f.t.2.1) .an,.sl (Za P.f.t.2.2) .an,.sl (Zd P.f.y) .an,.sl (Zd P.f.p) .an,.sl (Zd (fzs ls)) .an,.ptr (.bor 1) 1 3 0 0,.i .i64 n0,.bs (.bor 2) 2 3 0 0]]⟩),(.bor 1,bxG 1 s0 p0 lim),(.bor 2,⟨2,.own,3,Zd F0⟩),(.loc 4,⟨7,.str,3,[[.b false,.sl [] .an,.sl [] .an]]⟩),(.loc 5,⟨8,.str,4,[[.i .i64 0,.i .i64 0,.i .i64 0,.i .i64 0]]⟩)]:=rfl;rw[he]at hlo;clear he;simp only[Yr]at hlo;rcases hq with ⟨h0,gk,s,p,F,hk,hF,hFl,rfl⟩ | ⟨h0,gk,s,p,seen,F,m,hk,rfl⟩
 ·dsimp only at h0 hF;subst h0;refine⟨gk,s,p,_,F,1,hk,fun _=>⟨rfl,hFl⟩,?_⟩;have ha:=hat rfl;subst ha;have hge:=(Ye.1 hF).2;have hlt:=(Ye.1 hF).1;unfold Zh4 at hlo;generalize P.f=Q at *
  obtain⟨⟨q0,q1,q2⟩,qy,qp⟩:=Q;generalize fzs ls=LS at *
  generalize fz v=V at *
  obtain⟨v0,v1,v2⟩:=V;rw[zao Zy.h473 rfl,b473];clear hP hls hok hst hat hlim;rcases hk with rfl | rfl
  ·simp -implicitDefEqProofs[hlo,hF,hge,hlt]
  ·simp -implicitDefEqProofs[hlo,hF,hge,hlt]
 ·dsimp only at h0;refine⟨gk,s,p,seen,F,m,hk,fun h=>absurd h h0,?_⟩;have hv:=hst h0;subst hv;unfold Zem at hlo;dsimp only at hlo;generalize P.f=Q at *
  obtain⟨⟨q0,q1,q2⟩,qy,qp⟩:=Q;generalize fzs ls=LS at *
  generalize fz 0=V at *
  obtain⟨v0,v1,v2⟩:=V;rw[zao Zy.h473 rfl,b473];clear hP hls hok hst hat hlim;rcases hk with rfl | rfl
  ·simp -implicitDefEqProofs[hlo]
  ·simp -implicitDefEqProofs[hlo]
end
theorem zf8(b:Int):((Za4 b).toNat:Int)=Za4 b∧(Za4 b).toNat≤4096:=by
 unfold Za4;split
 ·decide
 ·split
  ·decide
  ·omega
theorem zkx{x:PoF}(h:PoS x 1000):PvS x.v 1000:=by
 refine⟨ztg h.t (by decide),fun q hq=>?_,fun q hq=>?_⟩
 ·obtain⟨u,hu,rfl⟩:=Yam.1 hq;exact ztg (h.y u hu) (by decide)
 ·obtain⟨u,hu,rfl⟩:=Yam.1 hq;exact ztg (h.p u hu) (by decide)
abbrev Zf6(a b c d:Int):AV:=.agg [.i .i64 a,.i .i64 b,.i .i64 c,.i .i64 d]
section
variable{T:Tbl}[Zad T][Zp T][Z0 T][Z3 T][Zq T][Zu T][Zl T][Zo T][Zr T][Zbj T][Zam T][Za6 T][Zcz T][Zcd T][Zar T][Zbv T][Zy T][Zaq T][Zay T][Zb7 T]
theorem zmq(code:List Nd)(x:PoF)(lets:List Fz)(bits:Int)(hx:PoS x 1000)(hll:lets.length≤1000)(hls:∀u∈lets,fsz u≤1000)(hl:code.length≤3000)(hn:thin 1000 code)(hb:Za7 x.y.length x.p.length lets.length code<0) :
  Zb T 462 [.sl (Zt code) .an,ept x,.sl (Zd lets) .an,.i .i64 bits] =
   some (.tup [efz (fz (Zf (Za4 bits).toNat x.v (lets.map fv) 0 [] code).1),Zf6 (Zf (Za4 bits).toNat x.v (lets.map fv) 0 [] code).2.1 0 0 (Zf (Za4 bits).toNat x.v (lets.map fv) 0 [] code).2.2]):=by
 have c1:=zif (T:=T) code x.y.length x.p.length lets.length (by omega) hn;have c2:=zfo (T:=T) x hx;have c3:=zga (T:=T) lets hll hls;have c4:=zfn (T:=T) bits;obtain⟨hl1,hl2⟩:=zf8 bits;obtain⟨t,ht,e,hok⟩:=zb5 hb;have hyl:x.v.y.length=x.y.length:=by simp[PoF.v]
 have hpl:x.v.p.length=x.p.length:=by simp[PoF.v]
 have hml:(lets.map fv).length=lets.length:=by simp
 obtain⟨gk,s,p,seen,F,m,hk,_,c5⟩:=zpf (T:=T) x.v (Za4 bits).toNat hl2 (lets.map fv) (zkx hx) (fun q hq=>by
  obtain⟨u,hu,rfl⟩:=Yam.1 hq;exact ztg (hls u hu) (by decide)) code hl (by rw[hyl,hpl,hml];exact hok) hn (by rw[←e];exact zb4 ht) 0 (by decide) 0 0 [] 0 (by decide)
 have en:nrm lets=fzs (lets.map fv):=by simp[nrm,fzs]
 rw[en]at c3;rw[hl1]at c5;generalize Zf (Za4 bits).toNat x.v (lets.map fv) 0 [] code=R at *
 generalize hP:Za7 x.y.length x.p.length lets.length code=pl at *
 have hnp:¬ 0≤pl:=by omega
 generalize Za4 bits=L at *
 generalize fzs (lets.map fv)=LS at *
 generalize x.v.f=Q at *
 obtain⟨⟨t0,t1,t2⟩,y,pp⟩:=x;obtain⟨⟨q0,q1,q2⟩,qy,qp⟩:=Q;obtain⟨v,kind,at_⟩:=R;dsimp only at *
 generalize fz v=V at *
 obtain⟨v0,v1,v2⟩:=V;simp only[hpA,Yr,zbu]at c5;clear hyl hpl hml hok e hx hls en hl1 hl2;rw[zab Zy.h462 rfl,b462];rcases hk with rfl | rfl
 ·simp -implicitDefEqProofs[c1,c2,c3,c4,c5,hnp,bxG]
 ·simp -implicitDefEqProofs[c1,c2,c3,c4,c5,hnp,bxG]
end
section
variable{T:Tbl}[Zaq T][Zbo T][Zay T][Zb7 T][Zad T][Zp T][Zcc T][Zcu T][Zbi T]
theorem zrt(s:List UInt8)(hs:s.length≤100000):Zb T 486 [.s s]=some (.b (nameB s)):=by
 have c:=zvz (T:=T) 2 0 s hs;unfold nameB;rw[zab Zbi.h486 rfl,b486];generalize Zbk 2 s=B at *
 by_cases h1:s=[116]
 ·subst h1;cases B<;>simp -implicitDefEqProofs
 by_cases h2:s=[121]
 ·subst h2;cases B<;>simp -implicitDefEqProofs
 by_cases h3:s=[112]
 ·subst h3;cases B<;>simp -implicitDefEqProofs
 by_cases h4:s=[108,101,116]
 ·subst h4;cases B<;>simp -implicitDefEqProofs
 cases B<;>simp -implicitDefEqProofs[c,h1,h2,h3,h4]
theorem zon(L:List Lt)(i:Nat)(hi:i<L.length)(hL:L.length≤100000):Zb T 487 [.sl (Z7 L) .an,.i .i64 i]=some (.b (twB (L.take i) (L[i]'hi).name)):=by
 have hlo:Ze T 0 0 (.norm false []) l487_0 ⟨[(0,.sl (Z7 L) .an),(1,.i .i64 i),(6,.i .i64 i),(7,.i .i64 ((0:Nat):Int))],[],2⟩ =
   if twB ((L.take i).drop 0) (L[i]'hi).name=true then some (.r,⟨[(4,.b true)],[],2⟩) else some (.n,⟨[],[],2⟩):=by
  refine za4 (fun k=>⟨[(0,.sl (Z7 L) .an),(1,.i .i64 i),(6,.i .i64 i),(7,.i .i64 ((k:Nat):Int))],[],2⟩) i
   (fun k=>if twB ((L.take i).drop k) (L[i]'hi).name=true then some (.r,_) else some (.n,_)) (fun k hk=>?_) ?_
  ·have hk1:k<L.length:=by omega
   have hg:L[k]? = some (L[k]'hk1):=Ya hk1;have hgi:L[i]? = some (L[i]'hi):=Ya hi;have hk2:k<(L.take i).length:=by rw[Yx];omega
   have hd:(L.take i).drop k=(L.take i)[k]'hk2::(L.take i).drop (k+1):=Yd hk2;have hx2:(L.take i)[k]'hk2=L[k]'hk1:=by simp
   rw[hx2]at hd;have hws:=za8 hk (by omega);have hk':(k:Int)<i:=by omega
   have hi':(i:Int)<L.length:=by omega
   have hk1':(k:Int)<L.length:=by omega
   generalize hx:L[k]'hk1=x at *
   generalize hy:L[i]'hi=y at *
   obtain⟨xn,xc⟩:=x;obtain⟨yn,yc⟩:=y;by_cases hc:xn=yn
   ·right;rw[if_pos (by rw[hd];simp[twB,hc])];clear hd;constructor<;>simp -implicitDefEqProofs[l487_0,hk,hk',hk1,hk1',hi,hi',hg,hgi,hx,hy,hc]
   ·left;refine⟨?_,by rw[hd];simp[twB,hc]⟩;clear hd;simp -implicitDefEqProofs[l487_0,hk,hk',hk1,hk1',hi,hi',hg,hgi,hx,hy,hc,hws]
  ·rw[Yak (by rw[Yx];omega)];simp only[twB,Yep,Y8,if_false];constructor<;>simp -implicitDefEqProofs[l487_0]
 rw[Yae]at hlo;simp only[Yr]at hlo;rw[zab Zbi.h487 rfl,b487];generalize twB (L.take i) (L[i]'hi).name=B at *
 cases B with
 | true=>
  rw[if_pos rfl]at hlo;simp -implicitDefEqProofs[hlo]
 | false=>
  rw[if_neg (by decide)]at hlo;simp -implicitDefEqProofs[hlo]
theorem zjp(c:List Nd)(num dim pars lets:Int)(hl:c.length≤50000)(hn:thin 1000 c):Zb T 488 [.sl (Zt c) .an,.i .i64 num,.i .i64 dim,.i .i64 pars,.i .i64 lets] =
  some (if 0≤ptA dim pars lets c then Zf6 2 num 0 (ptA dim pars lets c) else Zf6 0 0 0 0):=by
 have c1:=zif (T:=T) c dim pars lets (by omega) hn;have c2:=zta (T:=T) c hl;have hp:=znx dim pars lets c;unfold ptA;rw[zab Zbi.h488 rfl,b488];generalize Zd3 c=d at *
 generalize Za7 dim pars lets c=p at *
 by_cases h:p<0
 ·by_cases hd:40<d
  ·have hd':(40:Int)<d:=by omega
   have hnl:¬ (c.length:Int)<0:=by omega
   have h0:(0:Int)≤c.length:=by omega
   rw[if_pos (show p<0∧40<d from ⟨h,hd⟩),if_pos h0];simp -implicitDefEqProofs[c1,c2,h,hd,hd',hnl]
  ·have hd':¬ (40:Int)<d:=by omega
   have h0:¬ 0≤p:=by omega
   rw[if_neg (show ¬ (p<0∧40<d) from fun hh=>hd hh.2),if_neg h0];simp -implicitDefEqProofs[c1,c2,h,hd,hd']
 ·have h0:0≤p:=by omega
  rw[if_neg (show ¬ (p<0∧40<d) from fun hh=>h hh.1),if_pos h0];simp -implicitDefEqProofs[c1,c2,h]
theorem zoo(f:Fd)(dim pars:Int)(h1:f.lets.length≤100000)(h2:f.outs.length≤100000)(hn:Zb4 1000 50000 f)(hs:Zau f≤4294967295):Zb T 485 [efd f,.i .i64 dim,.i .i64 pars]=some (.b (whB f dim pars)):=by
 have c:=zw9 (T:=T) f h1 h2 (fun c hc=>⟨Yf (hn c hc).1 (by decide),(hn c hc).2⟩) hs;unfold whB;generalize Zau f=S at *
 obtain⟨L,O⟩:=f;dsimp only at *
 rw[zab Zbi.h485 rfl,b485];by_cases g1:1≤dim
 ·by_cases g2:dim≤6
  ·by_cases g3:0≤pars
   ·by_cases g4:pars≤6
    ·by_cases g5:(O.length:Int)=dim
     ·by_cases g6:L.length≤10
      ·have g6':(L.length:Int)≤10:=by omega
       by_cases g7:S≤300
       ·have g7':(S:Int)≤300:=by omega
        simp -implicitDefEqProofs[g1,g2,g3,g4,g5,g6,g6',g7,g7',c]
       ·have g7':¬ (S:Int)≤300:=by omega
        simp -implicitDefEqProofs[g1,g2,g3,g4,g5,g6,g6',g7,g7',c]
      ·have g6':¬ (L.length:Int)≤10:=by omega
       simp -implicitDefEqProofs[g1,g2,g3,g4,g5,g6,g6',c]
     ·simp -implicitDefEqProofs[g1,g2,g3,g4,g5,c]
    ·simp -implicitDefEqProofs[g1,g2,g3,g4,c]
   ·simp -implicitDefEqProofs[g1,g2,g3,c]
  ·simp -implicitDefEqProofs[g1,g2,c]
 ·simp -implicitDefEqProofs[g1,c]
end
abbrev Zd9(g:Nat)(f:Fd):Box:=⟨g,.str,2,[[.sl (Z7 f.lets) .an,.sl (Z4 f.outs) .an]]⟩
def Zft(q:Option (Int×Int×Int)):AV:=match q with
 | some (a,b,c)=>Zf6 2 a b c
 | none=>Zf6 0 0 0 0
def Zh3(a b c:Int):Option (Ex×St):=some (.r,⟨[(6,.ptr (.loc 6) 1 4 0 0)],[(.loc 6,⟨1,.str,4,[[.i .i64 2,.i .i64 a,.i .i64 b,.i .i64 c]]⟩)],3⟩)
section
variable{T:Tbl}[Zaq T][Zbo T][Zay T][Zb7 T][Zad T][Zp T][Zcc T][Zcu T][Zbi T]
def Zjw(f:Fd)(dim pars:Int)(i:Nat):St:=⟨[(1,.i .i64 dim),(2,.i .i64 pars),(3,.ptr (.loc 3) 1 2 0 0),(6,.ptr (.loc 6) 2 4 0 0),(20,.sl (Z7 f.lets) .an),(21,.i .i64 f.lets.length),(22,.i .i64 i)],[(.loc 3,Zd9 1 f),(.loc 6,⟨2,.str,4,[[.i .i64 0,.i .i64 0,.i .i64 0,.i .i64 0]]⟩)],4⟩
theorem zru(f:Fd)(dim pars:Int)(h1:f.lets.length≤10)(hn:Zb4 1000 50000 f)(hs:∀x∈f.lets,x.name.length≤100000) :
  Ze T 0 0 (.norm false [1,2,3,6]) l477_0 (Zjw f dim pars 0)=match Zec dim pars f.lets 0 f.lets with
   | some (a,b,c)=>Zh3 a b c
   | none=>some (.n,⟨[(1,.i .i64 dim),(2,.i .i64 pars),(3,.ptr (.loc 3) 1 2 0 0),(6,.ptr (.loc 6) 2 4 0 0)],[(.loc 3,Zd9 1 f),(.loc 6,⟨2,.str,4,[[.i .i64 0,.i .i64 0,.i .i64 0,.i .i64 0]]⟩)],4⟩):=by
 have:=za4 (T:=T) (k:=0) (id:=0) (g2:=.norm false [1,2,3,6]) (c:=l477_0) (Zjw f dim pars) f.lets.length
  (fun i=>match Zec dim pars f.lets i (f.lets.drop i) with
   | some (a,b,c)=>Zh3 a b c
   | none=>some (.n,⟨[(1,.i .i64 dim),(2,.i .i64 pars),(3,.ptr (.loc 3) 1 2 0 0),(6,.ptr (.loc 6) 2 4 0 0)],[(.loc 3,Zd9 1 f),(.loc 6,⟨2,.str,4,[[.i .i64 0,.i .i64 0,.i .i64 0,.i .i64 0]]⟩)],4⟩)) (fun i hi=>?_) ?_
 ·simpa using this
 ·have hg:f.lets[i]? = some (f.lets[i]'hi):=Ya hi;have hd:f.lets.drop i=f.lets[i]'hi::f.lets.drop (i+1):=Yd hi;have hi':(i:Int)<f.lets.length:=by omega
  have hws:=za8 hi (by omega);have hw1:IntKind.wrap .i64 ((i:Int)+1)=(i:Int)+1:=zac _ (by omega);obtain⟨hc1,hc2⟩:=hn (f.lets[i]'hi).code (Y5.2 (.inl (Yam.2 ⟨_,Y2 hi,rfl⟩)));have k1:=zrt (T:=T) (f.lets[i]'hi).name (hs _ (Y2 hi));have k2:=zon (T:=T) f.lets i hi (by omega);have k3:=zjp (T:=T) (f.lets[i]'hi).code ((i:Int)+1) dim pars i hc1 hc2;have hp0:ptA dim pars i (f.lets[i]'hi).code<0∨0≤ptA dim pars i (f.lets[i]'hi).code:=by omega
  rw[hd,Zec];obtain⟨L,O⟩:=f;dsimp only at *
  clear hd hn hs hc1 hc2;generalize hx:L[i]'hi=x at *
  obtain⟨nm,code⟩:=x;dsimp only at *
  unfold Zjw Zd9 Zh3;dsimp only;rw[hws]at hw1;generalize ptA dim pars i code=p at *
  generalize twB (L.take i) nm=B at *
  cases hA:nameB nm with
  | false=>
   right;rw[hA]at k1;rw[if_pos (.inl rfl)];constructor<;>simp -implicitDefEqProofs[l477_0,hi,hi',hg,hx,k1,hws]
  | true=>
   rw[hA]at k1;cases B with
   | true=>
    right;rw[if_pos (.inr rfl)];constructor<;>simp -implicitDefEqProofs[l477_0,hi,hi',hg,hx,k1,k2,hws]
   | false=>
    rw[if_neg (by simp)];rcases hp0 with hp0 | hp0
    ·left;have hp1:¬ 0≤p:=by omega
     rw[if_neg hp1]at k3 ⊢;refine⟨?_,rfl⟩;simp -implicitDefEqProofs[l477_0,hi,hi',hg,hx,k1,k2,k3,hws]
    ·right;rw[if_pos hp0]at k3 ⊢;constructor<;>simp -implicitDefEqProofs[l477_0,hi,hi',hg,hx,k1,k2,k3,hws]
 ·rw[Y0,Zec];unfold Zjw Zd9;constructor<;>simp -implicitDefEqProofs[l477_0]
def Zjx(f:Fd)(dim pars:Int)(i:Nat):St:=⟨[(1,.i .i64 dim),(2,.i .i64 pars),(3,.ptr (.loc 3) 1 2 0 0),(6,.ptr (.loc 6) 2 4 0 0),(54,.sl (Z4 f.outs) .an),(55,.i .i64 f.outs.length),(56,.i .i64 i)],[(.loc 3,Zd9 1 f),(.loc 6,⟨2,.str,4,[[.i .i64 0,.i .i64 0,.i .i64 0,.i .i64 0]]⟩)],4⟩
theorem zrv(f:Fd)(dim pars:Int)(h1:f.lets.length≤10)(h2:f.outs.length≤10)(hn:Zb4 1000 50000 f) :
  Ze T 0 2 (.norm false [6]) l477_1 (Zjx f dim pars 0)=match Ze0 dim pars f.lets.length 0 f.outs with
   | some (a,b,c)=>Zh3 a b c
   | none=>some (.n,⟨[(6,.ptr (.loc 6) 1 4 0 0)],[(.loc 6,⟨1,.str,4,[[.i .i64 0,.i .i64 0,.i .i64 0,.i .i64 0]]⟩)],3⟩):=by
 have:=za4 (T:=T) (k:=0) (id:=2) (g2:=.norm false [6]) (c:=l477_1) (Zjx f dim pars) f.outs.length
  (fun i=>match Ze0 dim pars f.lets.length i (f.outs.drop i) with
   | some (a,b,c)=>Zh3 a b c
   | none=>some (.n,⟨[(6,.ptr (.loc 6) 1 4 0 0)],[(.loc 6,⟨1,.str,4,[[.i .i64 0,.i .i64 0,.i .i64 0,.i .i64 0]]⟩)],3⟩)) (fun i hi=>?_) ?_
 ·simpa using this
 ·have hg:f.outs[i]? = some (f.outs[i]'hi):=Ya hi;have hd:f.outs.drop i=f.outs[i]'hi::f.outs.drop (i+1):=Yd hi;have hi':(i:Int)<f.outs.length:=by omega
  have hws:=za8 hi (by omega);have hw1:IntKind.wrap .i64 ((f.lets.length:Int)+i)=(f.lets.length:Int)+i:=zac _ (by omega);have hw2:IntKind.wrap .i64 ((f.lets.length:Int)+i+1)=(f.lets.length:Int)+i+1:=zac _ (by omega);have hw3:(((f.lets.length+i:Nat):Int)+1)=(f.lets.length:Int)+i+1:=by omega
  obtain⟨hc1,hc2⟩:=hn (f.outs[i]'hi) (Y5.2 (.inr (Y2 hi)));have k3:=zjp (T:=T) (f.outs[i]'hi) ((f.lets.length:Int)+i+1) dim pars f.lets.length hc1 hc2;have hp0:ptA dim pars f.lets.length (f.outs[i]'hi)<0∨0≤ptA dim pars f.lets.length (f.outs[i]'hi):=by omega
  rw[hd,Ze0,hw3];obtain⟨L,O⟩:=f;dsimp only at *
  clear hd hn hc1 hc2 hw3;generalize hx:O[i]'hi=x at *
  unfold Zjx Zd9 Zh3;dsimp only;generalize ptA dim pars L.length x=p at *
  rcases hp0 with hp0 | hp0
  ·left;have hp1:¬ 0≤p:=by omega
   rw[if_neg hp1]at k3 ⊢;refine⟨?_,rfl⟩;simp -implicitDefEqProofs[l477_1,hi,hi',hg,hx,k3,hws,hw1,hw2]
  ·right;rw[if_pos hp0]at k3 ⊢;constructor<;>simp -implicitDefEqProofs[l477_1,hi,hi',hg,hx,k3,hws,hw1,hw2]
 ·rw[Y0,Ze0];unfold Zjx Zd9;constructor<;>simp -implicitDefEqProofs[l477_1]
theorem zdn(f:Fd)(dim pars:Int)(h1:f.lets.length≤100000)(h2:f.outs.length≤100000)(hn:Zb4 1000 50000 f)(hz:Zau f≤4294967295)(hs:∀x∈f.lets,x.name.length≤100000) :
  Zb T 477 [efd f,.i .i64 dim,.i .i64 pars]=some (Zft (Zet f dim pars)):=by
 have c:=zoo (T:=T) f dim pars h1 h2 hn hz;unfold Zet;cases hW:whB f dim pars with
 | false=>
  rw[hW]at c;rw[if_pos rfl];unfold Zft;obtain⟨L,O⟩:=f;dsimp only at *
  rw[zab Zbi.h477 rfl,b477];simp -implicitDefEqProofs[c]
 | true=>
  rw[hW]at c;rw[if_neg (by decide)];have hW2:(1≤dim∧dim≤6∧0≤pars∧pars≤6∧(f.outs.length:Int)=dim∧f.lets.length≤10∧Zau f≤300):=by simpa[whB]using hW
  have a1:=zru (T:=T) f dim pars hW2.2.2.2.2.2.1 hn hs;have a2:=zrv (T:=T) f dim pars hW2.2.2.2.2.2.1 (by omega) hn;generalize Zec dim pars f.lets 0 f.lets=X at *
  generalize Ze0 dim pars f.lets.length 0 f.outs=Y at *
  unfold Zjw Zd9 Zh3 at a1;unfold Zjx Zd9 Zh3 at a2;simp only[Yr]at a1 a2;obtain⟨L,O⟩:=f;dsimp only at *
  clear hW2 hn hs hz;rw[zab Zbi.h477 rfl,b477];obtain _ | ⟨x1,x2,x3⟩:=X
  ·dsimp only at a1 ⊢;obtain _ | ⟨y1,y2,y3⟩:=Y
   ·dsimp only at a2;unfold Zft;simp -implicitDefEqProofs[c,a1,a2]
   ·dsimp only at a2;unfold Zft;simp -implicitDefEqProofs[c,a1,a2]
  ·dsimp only at a1 ⊢;unfold Zft;simp -implicitDefEqProofs[c,a1]
end
abbrev hpB(gk:Nat)(Q:PoF)(LS:List Fz)(s p L seen:Int)(F:List Fz)(m:Nat):Heap:=
 [(.bor 0,⟨0,.str,9,[[.b Q.t.1,.sl (Za Q.t.2.1) .an,.sl (Za Q.t.2.2) .an,.sl (Zd Q.y) .an,.sl (Zd Q.p) .an,.bs (.bor 1) 1 3 0 LS.length,.ptr (.bor 2) 2 3 0 0,.i .i64 seen,.bs (.bor 3) gk 3 0 m]]⟩),(.bor 1,⟨1,.own,3,Zd LS⟩),(.bor 2,bxG 2 s p L),(.bor 3,⟨gk,.own,3,Zd F⟩)]
section
variable{T:Tbl}[Zad T][Zp T][Z0 T][Z3 T][Zq T][Zu T][Zl T][Zo T][Zr T][Zbj T][Zam T][Za6 T][Zcz T][Zcd T][Zar T][Zbv T][Zy T][Zaq T][Zay T][Zb7 T]
theorem z4a(Q:PoF)(LS:List Fz)(s p L seen:Int)(F:List Fz)(m:Nat)(x:Fz)(hx:F[m]? = some x)(hm:m≤100000):Z6 T 490 [wP] (hpB 3 Q LS s p L seen F (m+1))=some (efz x,hpB 3 Q LS s p L seen F m):=by
 obtain⟨hlt,hge⟩:=Ye.1 hx;have hw:IntKind.wrap .i64 (m:Int)=m:=zac _ (by omega);have h1:(m:Int)<(m:Int)+1:=by omega
 have h2:(m:Int)≤(m:Int)+1:=by omega
 obtain⟨⟨q0,q1,q2⟩,qy,qp⟩:=Q;obtain⟨x0,x1,x2⟩:=x;rw[zao Zy.h490 rfl,b490];simp -implicitDefEqProofs[hx,hge,hlt,hw,h1,h2]
theorem z9i(P:Po)(ls:List Rat)(s p L seen:Int)(F:List Fz)(m:Nat)(x:Nd)(ha:arN x.op=0)(hn:x.n.length≤1000)(hy:x.op=3→0≤x.i∧x.i<P.y.length)(hp:x.op=4→0≤x.i∧x.i<P.p.length)(hl:x.op=5→0≤x.i∧x.i<ls.length) :
  Z6 T 489 [wP,.agg (Zcl x)] (hpB 3 P.f (fzs ls) s p L seen F m)=some (efz (fz (Zb2 P ls x)),hpB 3 P.f (fzs ls) s p L seen F m):=by
 have hop:x.op=1∨x.op=2∨x.op=3∨x.op=4∨x.op=5:=by rcases zay x.op with ⟨e,h⟩ | ⟨e,h⟩ | ⟨e,h⟩ | ⟨e,h⟩<;>omega
 have c1:=zj6 (T:=T) x.n (by omega);obtain⟨op,i,n⟩:=x;obtain⟨t,y,pp⟩:=P;dsimp only at *
 unfold Zb2 Po.f;dsimp only;rw[zao Zy.h489 rfl,b489];rcases hop with rfl | rfl | rfl | rfl | rfl
 ·show _=some (efz (fz ((val n:Nat):Rat)),_);generalize fz ((val n:Nat):Rat)=z at *
  generalize fzs y=Y at *
  generalize fzs pp=PP at *
  generalize fzs ls=LL at *
  generalize fz t=tt at *
  obtain⟨t0,t1,t2⟩:=tt;simp -implicitDefEqProofs[c1]
 ·show _=some (efz (fz t),_);generalize fzs y=Y at *
  generalize fzs pp=PP at *
  generalize fzs ls=LL at *
  generalize fz t=tt at *
  obtain⟨t0,t1,t2⟩:=tt;simp -implicitDefEqProofs
 ·obtain⟨k,rfl,g1,g2,g3⟩:=zfu (hy rfl);have g4:=(Ye.1 g3).2;have hl2:(fzs y).length=y.length:=za2 y;show _=some (efz (fz (gI y (k:Int))),_);generalize fz (gI y (k:Int))=z at *
  generalize fzs y=Y at *
  generalize fzs pp=PP at *
  generalize fzs ls=LL at *
  generalize fz t=tt at *
  obtain⟨t0,t1,t2⟩:=tt;simp -implicitDefEqProofs[g1,g2,g3,g4,hl2]
 ·obtain⟨k,rfl,g1,g2,g3⟩:=zfu (hp rfl);have g4:=(Ye.1 g3).2;have hl2:(fzs pp).length=pp.length:=za2 pp;show _=some (efz (fz (gI pp (k:Int))),_);generalize fz (gI pp (k:Int))=z at *
  generalize fzs y=Y at *
  generalize fzs pp=PP at *
  generalize fzs ls=LL at *
  generalize fz t=tt at *
  obtain⟨t0,t1,t2⟩:=tt;simp -implicitDefEqProofs[g1,g2,g3,g4,hl2]
 ·obtain⟨k,rfl,g1,g2,g3⟩:=zfu (hl rfl);have g4:=(Ye.1 g3).2;have hl2:(fzs ls).length=ls.length:=za2 ls;show _=some (efz (fz (gI ls (k:Int))),_);generalize fz (gI ls (k:Int))=z at *
  generalize fzs y=Y at *
  generalize fzs pp=PP at *
  generalize fzs ls=LL at *
  generalize fz t=tt at *
  obtain⟨t0,t1,t2⟩:=tt;simp -implicitDefEqProofs[g1,g2,g3,g4,hl2]
theorem z0c(Q:PoF)(LS:List Fz)(s p L seen:Int)(F:List Fz)(m:Nat)(x:Nd)(ha:arN x.op=0)(v:Fz)
  (c:Z6 T 489 [wP,.agg (Zcl x)] (hpB 3 Q LS s p L seen F m)=some (efz v,hpB 3 Q LS s p L seen F m)) :
  Z6 T 484 [wP,.agg (Zcl x)] (hpB 3 Q LS s p L seen F m)=some (.tup [efz v,.b true],hpB 3 Q LS s p L seen F m):=by
 have ca:=zbr (T:=T) x.op;rw[ha]at ca;obtain⟨⟨q0,q1,q2⟩,qy,qp⟩:=Q;obtain⟨op,i,n⟩:=x;rw[zao Zy.h484 rfl,b484];simp -implicitDefEqProofs[ca,c]
theorem z0d(Q:PoF)(LS:List Fz)(s p L seen:Int)(F:List Fz)(m:Nat)(x:Nd)(ha:arN x.op=1)(a:Rat)(hz:sz a≤129)(hx:F[m]? = some (fz a))(hm:m≤100000) :
  Z6 T 484 [wP,.agg (Zcl x)] (hpB 3 Q LS s p L seen F (m+1))=some (.tup [efz (fz (unV x a).1),.b (unV x a).2],hpB 3 Q LS s p L seen F m):=by
 have ca:=zbr (T:=T) x.op;rw[ha]at ca;have hop:x.op=6∨x.op=11:=by rcases zay x.op with ⟨e,h⟩ | ⟨e,h⟩ | ⟨e,h⟩ | ⟨e,h⟩<;>omega
 have cp:=z4a (T:=T) Q LS s p L seen F m (fz a) hx hm;have c6:=zqc (T:=T) (fz a) (by rw[zcg];omega);have c11:=zqh (T:=T) (fz a) x.i (by rw[zcg];omega);rw[zeq]at c6 c11;obtain⟨⟨q0,q1,q2⟩,qy,qp⟩:=Q;obtain⟨op,i,n⟩:=x;dsimp only at *
 unfold unV;dsimp only;rw[zao Zy.h484 rfl,b484];rcases hop with rfl | rfl
 ·rw[if_pos rfl];dsimp only;generalize fz (-a)=z at *
  generalize fz a=u at *
  simp -implicitDefEqProofs[ca,cp,c6]
 ·rw[if_neg (by decide)];generalize fz (Zfe a i).1=z at *
  generalize (Zfe a i).2=ok at *
  generalize fz a=u at *
  simp -implicitDefEqProofs[ca,cp,c11]
theorem z0e(Q:PoF)(LS:List Fz)(s p L seen:Int)(F:List Fz)(m:Nat)(x:Nd)(ha:arN x.op=2)(a b:Rat)(hza:sz a≤129)(hzb:sz b≤129)(hx:F[m]? = some (fz a))(hx2:F[m+1]? = some (fz b))(hm:m≤90000) :
  Z6 T 484 [wP,.agg (Zcl x)] (hpB 3 Q LS s p L seen F (m+2))=some (.tup [efz (fz (biV x.op a b).1),.b (biV x.op a b).2],hpB 3 Q LS s p L seen F m):=by
 have ca:=zbr (T:=T) x.op;rw[ha]at ca;have hop:x.op=7∨x.op=8∨x.op=9∨x.op=10:=by rcases zay x.op with ⟨e,h⟩ | ⟨e,h⟩ | ⟨e,h⟩ | ⟨e,h⟩<;>omega
 have cp:=z4a (T:=T) Q LS s p L seen F m (fz a) hx (by omega);have cp2:=z4a (T:=T) Q LS s p L seen F (m+1) (fz b) hx2 (by omega);have sa:fsz (fz a)≤1000:=by rw[zcg];omega
 have sb:fsz (fz b)≤1000:=by rw[zcg];omega
 have c7:=zqd (T:=T) (fz a) (fz b) sa sb;have c8:=zqe (T:=T) (fz a) (fz b) sa sb;have c9:=zqf (T:=T) (fz a) (fz b) sa sb;have c10:=zqg (T:=T) (fz a) (fz b) sa sb;rw[zeq,zeq]at c7 c8 c9 c10;obtain⟨⟨q0,q1,q2⟩,qy,qp⟩:=Q;obtain⟨op,i,n⟩:=x;dsimp only at *
 unfold biV;rw[zao Zy.h484 rfl,b484];rcases hop with rfl | rfl | rfl | rfl
 ·rw[if_pos rfl];dsimp only;generalize fz (a+b)=z at *
  generalize fz a=u at *
  generalize fz b=w at *
  simp -implicitDefEqProofs[ca,cp,cp2,c7]
 ·rw[if_neg (by decide),if_pos rfl];dsimp only;generalize fz (a-b)=z at *
  generalize fz a=u at *
  generalize fz b=w at *
  simp -implicitDefEqProofs[ca,cp,cp2,c8]
 ·rw[if_neg (by decide),if_neg (by decide),if_pos rfl];dsimp only;generalize fz (a*b)=z at *
  generalize fz a=u at *
  generalize fz b=w at *
  simp -implicitDefEqProofs[ca,cp,cp2,c9]
 ·rw[if_neg (by decide),if_neg (by decide),if_neg (by decide)];dsimp only;generalize fz (a/b)=z at *
  generalize decide (b≠0)=ok at *
  generalize fz a=u at *
  generalize fz b=w at *
  simp -implicitDefEqProofs[ca,cp,cp2,c10]
end
abbrev Zmh(z:Fz):Box:=⟨9,.str,3,[[.b z.1,.sl (Za z.2.1) .an,.sl (Za z.2.2) .an]]⟩
abbrev Zmi(a b c d:Int):Box:=⟨10,.str,4,[[.i .i64 a,.i .i64 b,.i .i64 c,.i .i64 d]]⟩
abbrev hqB(gk:Nat)(Q:PoF)(LS:List Fz)(s p L seen:Int)(F:List Fz)(m:Nat)(z:Fz)(a b c d:Int):Heap:=
 [(.bor 0,⟨0,.str,9,[[.b Q.t.1,.sl (Za Q.t.2.1) .an,.sl (Za Q.t.2.2) .an,.sl (Zd Q.y) .an,.sl (Zd Q.p) .an,.bs (.bor 1) 1 3 0 LS.length,.ptr (.bor 2) 2 3 0 0,.i .i64 seen,.bs (.bor 3) gk 3 0 m]]⟩),(.bor 1,⟨1,.own,3,Zd LS⟩),(.bor 2,bxG 2 s p L),(.bor 3,⟨gk,.own,3,Zd F⟩),(.loc 4,Zmh z),(.loc 5,Zmi a b c d)]
def Zen(gk:Nat)(Q:PoF)(LS:List Fz)(s p L seen:Int)(F:List Fz)(m:Nat)(code:List Nd)(i:Nat):St:=
 ⟨[(0,wP),(4,.ptr (.loc 4) 9 3 0 0),(5,.ptr (.loc 5) 10 4 0 0),(18,.sl (Zt code) .an),(19,.i .i64 code.length),(20,.i .i64 i)],hqB gk Q LS s p L seen F m (false,[],[]) 0 0 0 0,12⟩
def Zh5(gk:Nat)(Q:PoF)(LS:List Fz)(s p L seen:Int)(F:List Fz)(m:Nat):Ex×St:=
 (.n,⟨[(0,wP),(4,.ptr (.loc 4) 9 3 0 0),(5,.ptr (.loc 5) 10 4 0 0)],hqB gk Q LS s p L seen F m (false,[],[]) 0 0 0 0,12⟩)
def Zeo(gk:Nat)(Q:PoF)(LS:List Fz)(s p L seen:Int)(F:List Fz)(m:Nat)(kind at_:Int):Ex×St:=
 (.r,⟨[(4,.ptr (.loc 4) 9 3 0 0),(5,.ptr (.loc 5) 10 4 0 0)],hqB gk Q LS s p L seen F m (fz 0) kind 0 0 at_,12⟩)
theorem zbw(m:List Fz)(v:Fz):wkL (Zd m++[[.b v.1,.sl (Za v.2.1) .an,.sl (Za v.2.2) .an]])=Zd (m++[v]):=by
 have:Zd m++[Zce v]=Zd (m++[v]):=zfy m v;rw[show [[AV.b v.1,.sl (Za v.2.1) .an,.sl (Za v.2.2) .an]]=[Zce v] from rfl,this,zla]
section
variable{T:Tbl}[Zad T][Zp T][Z0 T][Z3 T][Zq T][Zu T][Zl T][Zo T][Zr T][Zbj T][Zam T][Za6 T][Zcz T][Zcd T][Zar T][Zbv T][Zy T][Zaq T][Zay T][Zb7 T]
theorem zry{gk:Nat}(hk:gk=3∨gk=8)(Q:PoF)(LS:List Fz)(s p L seen:Int)(F:List Fz)(m m2:Nat)(code:List Nd)(i:Nat)(x:Nd)(v:Fz)(hx:code[i]? = some x)(hl:code.length≤100000)(hm:m2≤F.length)(hF:F.length≤100000)(hs:0≤seen)(hs2:seen≤100000)(hv:fsz v≤10000)
  (c:Z6 T 484 [wP,.agg (Zcl x)] (hpB 3 Q LS s p L seen F m)=some (.tup [efz v,.b true],hpB 3 Q LS s p L seen F m2)) (hf:(Zcv v:Int)≤L) :
  evX (orc T) T 4 l473_0 (Zen gk Q LS s p L seen F m code i)=some (.n,Zen 8 Q LS (Zdr s) (Zea p v) L (seen+1) (F.take m2++[v]) (m2+1) code (i+1)):=by
 have cg:=zei (T:=T) s p L v hv;rw[decide_eq_true hf]at cg;obtain⟨hlt,hge⟩:=Ye.1 hx;have hlt':(i:Int)<code.length:=by omega
 have hws:=za8 hlt (by omega);have hw:IntKind.wrap .i64 (seen+1)=seen+1:=zac _ (by omega);have hpu:=zbw (F.take m2) v;have htl:(F.take m2).length=m2:=by rw[Yx];omega
 have h32:m2+1≤4294967296:=by omega
 generalize Zdr s=s' at *
 generalize Zea p v=p' at *
 obtain⟨⟨q0,q1,q2⟩,qy,qp⟩:=Q;obtain⟨op,xi,n⟩:=x;obtain⟨v0,v1,v2⟩:=v;unfold Zen;rcases hk with rfl | rfl
 ·simp -implicitDefEqProofs[l473_0,hlt,hlt',hx,hge,hws,c,cg,hw,hpu,hm,h32]
 ·simp -implicitDefEqProofs[l473_0,hlt,hlt',hx,hge,hws,c,cg,hw,hpu,hm,h32]
theorem zve{gk:Nat}(hk:gk=3∨gk=8)(Q:PoF)(LS:List Fz)(s p L seen:Int)(F:List Fz)(m m2:Nat)(code:List Nd)(i:Nat)(x:Nd)(v:Fz)(hx:code[i]? = some x)
  (c:Z6 T 484 [wP,.agg (Zcl x)] (hpB 3 Q LS s p L seen F m)=some (.tup [efz v,.b false],hpB 3 Q LS s p L seen F m2)) :
  evX (orc T) T 4 l473_0 (Zen gk Q LS s p L seen F m code i)=some (Zeo gk Q LS s p L seen F m2 3 seen):=by
 have c0:=zdp (T:=T);obtain⟨hlt,hge⟩:=Ye.1 hx;have hlt':(i:Int)<code.length:=by omega
 unfold Zen Zeo;generalize fz 0=Z at *
 obtain⟨z0,z1,z2⟩:=Z;obtain⟨⟨q0,q1,q2⟩,qy,qp⟩:=Q;obtain⟨op,xi,n⟩:=x;obtain⟨v0,v1,v2⟩:=v;rcases hk with rfl | rfl
 ·simp -implicitDefEqProofs[l473_0,hlt,hlt',hx,hge,c,c0]
 ·simp -implicitDefEqProofs[l473_0,hlt,hlt',hx,hge,c,c0]
theorem zvf{gk:Nat}(hk:gk=3∨gk=8)(Q:PoF)(LS:List Fz)(s p L seen:Int)(F:List Fz)(m m2:Nat)(code:List Nd)(i:Nat)(x:Nd)(v:Fz)(hx:code[i]? = some x)(hv:fsz v≤10000)
  (c:Z6 T 484 [wP,.agg (Zcl x)] (hpB 3 Q LS s p L seen F m)=some (.tup [efz v,.b true],hpB 3 Q LS s p L seen F m2)) (hf:¬ (Zcv v:Int)≤L) :
  evX (orc T) T 4 l473_0 (Zen gk Q LS s p L seen F m code i)=some (Zeo gk Q LS (Zdr s) (Zea p v) L seen F m2 6 seen):=by
 have c0:=zdp (T:=T);have cg:=zei (T:=T) s p L v hv;rw[decide_eq_false hf]at cg;obtain⟨hlt,hge⟩:=Ye.1 hx;have hlt':(i:Int)<code.length:=by omega
 generalize Zdr s=s' at *
 generalize Zea p v=p' at *
 unfold Zen Zeo;generalize fz 0=Z at *
 obtain⟨z0,z1,z2⟩:=Z;obtain⟨⟨q0,q1,q2⟩,qy,qp⟩:=Q;obtain⟨op,xi,n⟩:=x;obtain⟨v0,v1,v2⟩:=v;rcases hk with rfl | rfl
 ·simp -implicitDefEqProofs[l473_0,hlt,hlt',hx,hge,c,cg,c0]
 ·simp -implicitDefEqProofs[l473_0,hlt,hlt',hx,hge,c,cg,c0]
theorem zyv{gk:Nat}(hk:gk=3∨gk=8)(Q:PoF)(LS:List Fz)(s p L seen:Int)(F:List Fz)(m:Nat)(code:List Nd) :
  Zbe (evX (orc T) T 4 l473_0 (Zen gk Q LS s p L seen F m code code.length))=true∧Za8 4 0 (.norm false [0,4,5]) (evX (orc T) T 4 l473_0 (Zen gk Q LS s p L seen F m code code.length))=some (Zh5 gk Q LS s p L seen F m):=by
 obtain⟨⟨q0,q1,q2⟩,qy,qp⟩:=Q;unfold Zen Zh5;rcases hk with rfl | rfl<;>constructor<;>simp -implicitDefEqProofs[l473_0]
end
section
variable{T:Tbl}[Zad T][Zp T][Z0 T][Z3 T][Zq T][Zu T][Zl T][Zo T][Zr T][Zbj T][Zam T][Za6 T][Zcz T][Zcd T][Zar T][Zbv T][Zy T][Zaq T][Zay T][Zb7 T]
theorem z08(gk:Nat)(Q:PoF)(LS:List Fz)(s p L seen:Int)(F:List Fz)(m:Nat)(kind at_:Int):Za8 4 0 (.norm false [0,4,5]) (some (Zeo gk Q LS s p L seen F m kind at_))=some (Zeo gk Q LS s p L seen F m kind at_):=by
 unfold Zeo;simp -implicitDefEqProofs
def Zk1(P:Po)(lim:Nat)(ls:List Rat)(n:Nat)(R:Rat×Nat×Nat)(r:Ex×St):Prop:=
 (R.2.1=0∧∃gk s p F,(gk=3∨gk=8)∧F[0]? = some (fz R.1)∧F.length≤5000∧r=Zh5 gk P.f (fzs ls) s p lim n F 1) ∨
 (R.2.1≠0∧∃gk s p seen F m,(gk=3∨gk=8)∧r=Zeo gk P.f (fzs ls) s p lim seen F m R.2.1 R.2.2)
theorem zot(P:Po)(lim:Nat)(hlim:lim≤4096)(ls:List Rat)(hP:PvS P 1000)(hls:∀q∈ls,sz q≤1000)(code:List Nd)(hl:code.length≤3000)(hok:∀x∈code,okN P.y.length P.p.length ls.length x=true)(hn:thin 1000 code)(hwr:Z2 code=-1)(n0:Nat)(hn0:n0≤10000)(s0 p0:Int)(F0:List Fz)(hF0:F0.length≤5000) :
  ∃r,Zk1 P lim ls (n0+code.length) (Zf lim P ls n0 [] code) r∧Ze T 4 0 (.norm false [0,4,5]) l473_0 (Zen 3 P.f (fzs ls) s0 p0 lim n0 F0 0 code 0)=some r:=by
 refine zam (fun x:Nat×List Rat×Nat×(Int×Int)×List Fz=>Zen x.2.2.1 P.f (fzs ls) x.2.2.2.1.1 x.2.2.2.1.2 lim ((n0+x.1:Nat):Int) x.2.2.2.2 x.2.1.length code x.1)
  (fun x=>x.1≤code.length∧(x.2.2.1=3∨x.2.2.1=8)∧x.2.2.2.2.take x.2.1.length=fzs x.2.1.reverse∧x.2.1.length≤x.2.2.2.2.length∧x.2.2.2.2.length≤5000∧(∀q∈x.2.1,sz q≤129)∧x.2.1.length≤x.1∧(∃j,Zs j x.2.1.length (code.drop x.1)=-1)∧Zf lim P ls (n0+x.1) x.2.1 (code.drop x.1)=Zf lim P ls n0 [] code)
  (fun x=>code.length-x.1) _ ?_ (0,[],3,(s0,p0),F0) ⟨Yq _,.inl rfl,rfl,Yq _,hF0,by simp,Yg _,⟨0,hwr⟩,rfl⟩
 rintro⟨i,s,gk,⟨c,p⟩,F⟩ ⟨hi,hk,hF,hsF,hFl,hz,hsi,⟨j,hw⟩,hW⟩
 dsimp only at *
 by_cases hlt:i<code.length
 ·have hx:code[i]? = some (code[i]'hlt):=Ya hlt;have hd:code.drop i=code[i]'hlt::code.drop (i+1):=Yd hlt;have hmem:=Y2 hlt;generalize code[i]'hlt=x at *
  rw[hd]at hw hW;have hxn:=hn x hmem;have hxo:=zvh (hok x hmem);have h1:¬ (arN x.op<0∨(s.length:Int)<arN x.op):=by
   intro hh;unfold Zs at hw;rw[if_pos hh]at hw;omega
  have hw2:Zs (j+1) (s.length+1-arN x.op) (code.drop (i+1))=-1:=by
   unfold Zs at hw
   rwa [if_neg h1]at hw
  -- one round,by what the node makes of the stack
  have round:∀(v:Rat) (ok:Bool) (s':List Rat),Zae P ls s x=((v,ok),s')→sz v≤2000→s'.length≤s.length→(s'.length:Int)=s.length-arN x.op→(∀q∈s',q∈s)→F.take s'.length=fzs s'.reverse →
    Z6 T 484 [wP,.agg (Zcl x)] (hpB 3 P.f (fzs ls) c p lim ((n0+i:Nat):Int) F s.length)=some (.tup [efz (fz v),.b ok],hpB 3 P.f (fzs ls) c p lim ((n0+i:Nat):Int) F s'.length) →
    (∃y:Nat×List Rat×Nat×(Int×Int)×List Fz,(y.1≤code.length∧(y.2.2.1=3∨y.2.2.1=8)∧y.2.2.2.2.take y.2.1.length=fzs y.2.1.reverse∧y.2.1.length≤y.2.2.2.2.length∧y.2.2.2.2.length≤5000∧(∀q∈y.2.1,sz q≤129)∧y.2.1.length≤y.1∧(∃j,Zs j y.2.1.length (code.drop y.1)=-1)∧Zf lim P ls (n0+y.1) y.2.1 (code.drop y.1)=Zf lim P ls n0 [] code)∧code.length-y.1<code.length-i ∧
     evX (orc T) T 4 l473_0 (Zen gk P.f (fzs ls) c p lim ((n0+i:Nat):Int) F s.length code i)=some (.n,Zen y.2.2.1 P.f (fzs ls) y.2.2.2.1.1 y.2.2.2.1.2 lim ((n0+y.1:Nat):Int) y.2.2.2.2 y.2.1.length code y.1)) ∨
    (∃r,Zk1 P lim ls (n0+code.length) (Zf lim P ls n0 [] code) r∧Zbe (evX (orc T) T 4 l473_0 (Zen gk P.f (fzs ls) c p lim ((n0+i:Nat):Int) F s.length code i))=true ∧
     Za8 4 0 (.norm false [0,4,5]) (evX (orc T) T 4 l473_0 (Zen gk P.f (fzs ls) c p lim ((n0+i:Nat):Int) F s.length code i))=some r):=by
   intro v ok s' hst hv hs's hlen hsub hF' hc;have hvf:fsz (fz v)≤10000:=by rw[zcg];omega
   rw[Zf,hst]at hW;dsimp only at hW;cases ok with
   | false=>
    right;have e:=zve (T:=T) hk P.f (fzs ls) c p lim ((n0+i:Nat):Int) F s.length s'.length code i x (fz v) hx hc;have ef:Za0 lim (v,false) (n0+i)=(0,3,n0+i):=rfl;rw[ef]at hW;rw[if_pos (by simp)]at hW;refine⟨Zeo gk P.f (fzs ls) c p lim ((n0+i:Nat):Int) F s'.length 3 ((n0+i:Nat):Int),.inr ?_,by rw[e];rfl,by rw[e,z08]⟩;rw[←hW];exact⟨by simp,gk,c,p,_,F,_,hk,rfl⟩
   | true=>
    by_cases hfit:Zdt v≤lim
    ·left;have ef:Za0 lim (v,true) (n0+i)=(v,0,0):=by unfold Za0;rw[if_neg (by simp),if_neg (by dsimp only;omega)]
     rw[ef]at hW;rw[if_neg (by simp)]at hW;have e:=zry (T:=T) hk P.f (fzs ls) c p lim ((n0+i:Nat):Int) F s.length s'.length code i x (fz v) hx (by omega) (by omega) (by omega) (by omega) (by omega) hvf hc (by unfold Zdt at hfit;omega);have hn1:((n0+i:Nat):Int)+1=((n0+(i+1):Nat):Int):=by omega
     rw[hn1]at e;have hl1:(F.take s'.length++[fz v]).length=s'.length+1:=by rw[Yk,Yx];simp only[Yc,Yag];omega
     refine⟨(i+1,v::s',8,(Zdr c,Zea p (fz v)),F.take s'.length++[fz v]),⟨by dsimp only;omega,.inr rfl,?_,?_,?_,?_,?_,⟨j+1,?_⟩,?_⟩,by dsimp only;omega,e⟩
     ·dsimp only;rw[Yc,Yb (by omega),hF'];simp[fzs]
     ·dsimp only;rw[Yc,hl1];exact Yg _
     ·dsimp only;rw[hl1];omega
     ·intro q hq;rcases Yaa.1 hq with rfl | hq
      ·exact zqy hlim hfit
      ·exact hz q (hsub q hq)
     ·dsimp only;rw[Yc];omega
     ·dsimp only;rw[←hw2];congr 1;rw[Yc];omega
     ·dsimp only;rw[←hW];congr 1
    ·right;have ef:Za0 lim (v,true) (n0+i)=(0,6,n0+i):=by unfold Za0;rw[if_neg (by simp),if_pos (by dsimp only;omega)]
     rw[ef]at hW;rw[if_pos (by simp)]at hW;have e:=zvf (T:=T) hk P.f (fzs ls) c p lim ((n0+i:Nat):Int) F s.length s'.length code i x (fz v) hx hvf hc (by unfold Zdt at hfit;omega);refine⟨Zeo gk P.f (fzs ls) (Zdr c) (Zea p (fz v)) lim ((n0+i:Nat):Int) F s'.length 6 ((n0+i:Nat):Int),.inr ?_,by rw[e];rfl,by rw[e,z08]⟩;rw[←hW];exact⟨by simp,gk,_,_,_,F,_,hk,rfl⟩
  rcases zay x.op with ⟨e,ho⟩ | ⟨e,ho⟩ | ⟨e,ho⟩ | ⟨e,ho⟩
  ·have hst:Zae P ls s x=((Zb2 P ls x,true),s):=by unfold Zae;rw[if_pos e]
   have cl:=z9i (T:=T) P ls c p lim ((n0+i:Nat):Int) F s.length x e hxn hxo.1 hxo.2.1 hxo.2.2;exact round _ true s hst (by have:=zk9 (P:=P) hP hls hxn;omega) (Yg _) (by rw[e];omega) (fun q hq=>hq) hF (z0c P.f (fzs ls) c p lim _ F s.length x e _ cl)
  ·cases s with
   | nil=>exfalso;apply h1;right;rw[e];decide
   | cons a s1=>
    have hst:Zae P ls (a::s1) x=(unV x a,s1):=by unfold Zae;rw[if_neg (by omega),if_pos e];rfl
    have hza:=hz a (by simp);have hFa:F[s1.length]? = some (fz a):=by
     have:(F.take (a::s1).length)[s1.length]? = some (fz a):=by rw[hF];simp[fzs]
     rwa [Yn,if_pos (by simp)]at this
    have hF1:F.take s1.length=fzs s1.reverse:=by
     have:(F.take (a::s1).length).take s1.length=fzs s1.reverse:=by rw[hF];simp[fzs]
     rwa [Ydc,Ya9 (by simp)]at this
    have cv:=z0d (T:=T) P.f (fzs ls) c p lim ((n0+i:Nat):Int) F s1.length x e a hza hFa (by rw[Yc]at hsi;omega);exact round (unV x a).1 (unV x a).2 s1 hst (zxp hza) (by simp) (by rw[e,Yc];omega) (fun q hq=>by simp[hq]) hF1 cv
  ·cases s with
   | nil=>exfalso;apply h1;right;rw[e];decide
   | cons b s0=>
   cases s0 with
   | nil=>exfalso;apply h1;right;rw[e];simp
   | cons a s1=>
    have hst:Zae P ls (b::a::s1) x=(biV x.op a b,s1):=by unfold Zae;rw[if_neg (by omega),if_neg (by omega)];rfl
    have hza:=hz a (by simp);have hzb:=hz b (by simp);have hFa:F[s1.length]? = some (fz a):=by
     have:(F.take (b::a::s1).length)[s1.length]? = some (fz a):=by rw[hF];simp[fzs]
     rwa [Yn,if_pos (by simp only[Yc];omega)]at this
    have hFb:F[s1.length+1]? = some (fz b):=by
     have:(F.take (b::a::s1).length)[s1.length+1]? = some (fz b):=by rw[hF];simp[fzs]
     rwa [Yn,if_pos (by simp)]at this
    have hF1:F.take s1.length=fzs s1.reverse:=by
     have:(F.take (b::a::s1).length).take s1.length=fzs s1.reverse:=by rw[hF];simp[fzs]
     rwa [Ydc,Ya9 (by simp;omega)]at this
    have cv:=z0e (T:=T) P.f (fzs ls) c p lim ((n0+i:Nat):Int) F s1.length x e a b hza hzb hFa hFb (by simp only[Yc]at hsi;omega);exact round (biV x.op a b).1 (biV x.op a b).2 s1 hst (zxq hza hzb) (by simp;omega) (by rw[e,Yc,Yc];omega) (fun q hq=>by simp[hq]) hF1 cv
  ·exfalso;apply h1;left;omega
 ·right;have hi2:i=code.length:=by omega
  subst hi2;rw[Y0]at hw hW;have hs1:s.length=1:=by
   unfold Zs at hw;split at hw
   ·omega
   ·omega
  obtain⟨v,rfl⟩:=Ybv.1 hs1;have e:=zyv (T:=T) hk P.f (fzs ls) c p lim ((n0+code.length:Nat):Int) F 1 code;refine⟨Zh5 gk P.f (fzs ls) c p lim ((n0+code.length:Nat):Int) F 1,.inl ?_,e.1,e.2⟩;have hR:Zf lim P ls (n0+code.length) [v] []=(v,0,0):=rfl;rw[hR]at hW;rw[←hW];have hFa:F[0]? = some (fz v):=by
   have:(F.take [v].length)[0]? = some (fz v):=by rw[hF];simp[fzs]
   rwa [Yn,if_pos (by simp)]at this
  exact⟨rfl,gk,c,p,F,hk,hFa,hFl,rfl⟩
end
section
variable{T:Tbl}[Zad T][Zp T][Z0 T][Z3 T][Zq T][Zu T][Zl T][Zo T][Zr T][Zbj T][Zam T][Za6 T][Zcz T][Zcd T][Zar T][Zbv T][Zy T][Zaq T][Zay T][Zb7 T]
theorem zii(P:Po)(lim:Nat)(hlim:lim≤4096)(ls:List Rat)(hP:PvS P 1000)(hls:∀q∈ls,sz q≤1000)(code:List Nd)(hl:code.length≤3000)(hok:∀x∈code,okN P.y.length P.p.length ls.length x=true)(hn:thin 1000 code)(hwr:Z2 code=-1)(n0:Nat)(hn0:n0≤10000)(s0 p0:Int)(F0:List Fz)(m0:Nat)(hF0:F0.length≤5000) :
  ∃(gk:Nat) (s p seen:Int) (F:List Fz) (m:Nat),(gk=3∨gk=8)∧((Zf lim P ls n0 [] code).2.1=0→seen=((n0+code.length:Nat):Int)∧F.length≤5000) ∧
   Z6 T 473 [wP,.sl (Zt code) .an] (hpB 3 P.f (fzs ls) s0 p0 lim n0 F0 m0)=some (.tup [efz (fz (Zf lim P ls n0 [] code).1),.agg [.i .i64 (Zf lim P ls n0 [] code).2.1,.i .i64 0,.i .i64 0,.i .i64 (Zf lim P ls n0 [] code).2.2]],hpB gk P.f (fzs ls) s p lim seen F m):=by
 obtain⟨r,hq,hlo⟩:=zot (T:=T) P lim hlim ls hP hls code hl hok hn hwr n0 hn0 s0 p0 F0 hF0;have hst:=zge lim P ls code n0 [];have hat:=zdr lim P ls code n0 [];generalize Zf lim P ls n0 [] code=R at *
 obtain⟨v,kind,at_⟩:=R;dsimp only at *
 unfold Zen at hlo;have he:hqB 3 P.f (fzs ls) s0 p0 lim n0 F0 0 (false,[],[]) 0 0 0 0=[(.bor 0,⟨0,.str,9,[[.b P.f.t.1,.sl (Za P.f.t.2.1) .an,.sl (Za P.f.t.2.2) .an,.sl (Zd P.f.y) .an,.sl (Zd P.f.p) .an,.bs (.bor 1) 1 3 0 (fzs ls).length,.ptr (.bor 2) 2 3 0 0,.i .i64 n0,.bs (.bor 3) 3 3 0 0]]⟩),(.bor 1,⟨1,.own,3,Zd (fzs ls)⟩),(.bor 2,bxG 2 s0 p0 lim),(.bor 3,⟨3,.own,3,Zd F0⟩),(.loc 4,⟨9,.str,3,[[.b false,.sl [] .an,.sl [] .an]]⟩),(.loc 5,⟨10,.str,4,[[.i .i64 0,.i .i64 0,.i .i64 0,.i .i64 0]]⟩)]:=rfl;rw[he]at hlo;clear he;simp only[Yr]at hlo;rcases hq with ⟨h0,gk,s,p,F,hk,hF,hFl,rfl⟩ | ⟨h0,gk,s,p,seen,F,m,hk,rfl⟩
 ·dsimp only at h0 hF;subst h0;refine⟨gk,s,p,_,F,1,hk,fun _=>⟨rfl,hFl⟩,?_⟩;have ha:=hat rfl;subst ha;have hge:=(Ye.1 hF).2;have hlt:=(Ye.1 hF).1;unfold Zh5 at hlo;generalize P.f=Q at *
  obtain⟨⟨q0,q1,q2⟩,qy,qp⟩:=Q;generalize fzs ls=LS at *
  generalize fz v=V at *
  obtain⟨v0,v1,v2⟩:=V;rw[zao Zy.h473 rfl,b473];clear hP hls hok hst hat hlim;rcases hk with rfl | rfl
  ·simp -implicitDefEqProofs[hlo,hF,hge,hlt]
  ·simp -implicitDefEqProofs[hlo,hF,hge,hlt]
 ·dsimp only at h0;refine⟨gk,s,p,seen,F,m,hk,fun h=>absurd h h0,?_⟩;have hv:=hst h0;subst hv;unfold Zeo at hlo;dsimp only at hlo;generalize P.f=Q at *
  obtain⟨⟨q0,q1,q2⟩,qy,qp⟩:=Q;generalize fzs ls=LS at *
  generalize fz 0=V at *
  obtain⟨v0,v1,v2⟩:=V;rw[zao Zy.h473 rfl,b473];clear hP hls hok hst hat hlim;rcases hk with rfl | rfl
  ·simp -implicitDefEqProofs[hlo]
  ·simp -implicitDefEqProofs[hlo]
end
def Zck(lim:Nat)(P:Po):Nat→List Rat→List (List Nd)→Nat×List Rat×Nat×Nat
 | n,ls,[]=>(n,ls,0,0)
 | n,ls,c::r=>if (Zf lim P ls n [] c).2.1≠0 then (n,ls,(Zf lim P ls n [] c).2.1,(Zf lim P ls n [] c).2.2) else Zck lim P (n+c.length) (ls++[(Zf lim P ls n [] c).1]) r
def Zc0(lim:Nat)(P:Po)(ls:List Rat):Nat→List Rat→List (List Nd)→List Rat×Nat×Nat
 | _,os,[]=>(os,0,0)
 | n,os,c::r=>if (Zf lim P ls n [] c).2.1≠0 then ([],(Zf lim P ls n [] c).2.1,(Zf lim P ls n [] c).2.2) else Zc0 lim P ls (n+c.length) (os++[(Zf lim P ls n [] c).1]) r
def evD(lim:Nat)(P:Po)(f:Fd):List Rat×Nat×Nat:=
 if (Zck lim P 0 [] (f.lets.map (·.code))).2.2.1≠0 then ([],(Zck lim P 0 [] (f.lets.map (·.code))).2.2) else Zc0 lim P (Zck lim P 0 [] (f.lets.map (·.code))).2.1 (Zck lim P 0 [] (f.lets.map (·.code))).1 [] f.outs
theorem zxm{dim pars lets:Int}{c:List Nd}(h:ptA dim pars lets c<0):Za7 dim pars lets c<0∧Zd3 c≤40:=by
 unfold ptA at h;by_cases h1:Za7 dim pars lets c<0∧40<Zd3 c
 ·rw[if_pos h1]at h;omega
 ·rw[if_neg h1]at h;exact⟨h,by omega⟩
theorem znp{dim pars:Int}{L:List Lt}:∀(l:List Lt) (i:Nat),Zec dim pars L i l=none→∀k x,l[k]? = some x→ptA dim pars ((i+k:Nat):Int) x.code<0
 | [],i,h,k,x,hk=>by simp at hk
 | y::r,i,h,k,x,hk=>by
  unfold Zec at h;split at h
  ·cases h
  ·split at h
   ·cases h
   ·next h2=>
    cases k with
    | zero=>
     simp only[Yez,Option.some.injEq]at hk;subst hk;rw[Yt];omega
    | succ k=>
     rw[Yco]at hk;have:=znp r (i+1) h k x hk
     rwa [show i+1+k=i+(k+1) by omega]at this
theorem znq{dim pars:Int}{n:Nat}:∀(l:List (List Nd)) (i:Nat),Ze0 dim pars n i l=none→∀c∈l,ptA dim pars n c<0
 | [],i,h,c,hc=>by simp at hc
 | y::r,i,h,c,hc=>by
  unfold Ze0 at h;split at h
  ·cases h
  ·rcases Yaa.1 hc with rfl | hc
   ·omega
   ·exact znq r (i+1) h c hc
structure FineD (f:Fd) (dim pars:Int):Prop where
 wh:1≤dim∧dim≤6∧0≤pars∧pars≤6∧(f.outs.length:Int)=dim∧f.lets.length≤10∧Zau f≤300
 lets:∀k x,f.lets[k]? = some x→Za7 dim pars (k:Nat) x.code<0
 outs:∀c∈f.outs,Za7 dim pars f.lets.length c<0
theorem znr{f:Fd}{dim pars:Int}(h:Zet f dim pars=none):FineD f dim pars:=by
 unfold Zet at h;cases hW:whB f dim pars with
 | false=>rw[hW,if_pos rfl]at h;cases h
 | true=>
  rw[hW,if_neg (by decide)]at h;have hw:=by simpa[whB]using hW
  cases hL:Zec dim pars f.lets 0 f.lets with
  | some q=>rw[hL]at h;cases h
  | none=>
   rw[hL]at h;refine⟨hw,fun k x hk=>?_,fun c hc=>(zxm (znq _ _ h c hc)).1⟩;have:=znp _ _ hL k x hk;rw[Yax]at this;exact(zxm this).1
section
variable{T:Tbl}[Zad T][Zp T][Z0 T][Z3 T][Zq T][Zu T][Zl T][Zo T][Zr T][Zbj T][Zam T][Za6 T][Zcz T][Zcd T][Zar T][Zbv T][Zy T][Zaq T][Zay T][Zb7 T][Zbo T][Zcc T][Zcu T][Zbi T]
theorem zi0(f:Fd)(x:PoF)(bits:Int)(h1:f.lets.length≤100000)(h2:f.outs.length≤100000)(hn:Zb4 1000 50000 f)(hz:Zau f≤4294967295)(hs:∀x∈f.lets,x.name.length≤100000)(q:Int×Int×Int)(hq:Zet f x.y.length x.p.length=some q) :
  Zb T 467 [efd f,ept x,.i .i64 bits]=some (.tup [.sl [] .an,Zf6 2 q.1 q.2.1 q.2.2]):=by
 have c:=zdn (T:=T) f x.y.length x.p.length h1 h2 hn hz hs;rw[hq]at c;obtain⟨q1,q2,q3⟩:=q;unfold Zft at c;obtain⟨L,O⟩:=f;obtain⟨⟨t0,t1,t2⟩,y,p⟩:=x;dsimp only at *
 clear hq hn hz hs;rw[zab Zy.h467 rfl,b467];simp -implicitDefEqProofs[c]
abbrev hpE(f:Fd)(gk:Nat)(Q:PoF)(LS:List Fz)(s p L seen:Int)(F:List Fz)(m:Nat):Heap:=
 [(.loc 3,Zd9 1 f),(.loc 7,⟨2,.str,4,[[.i .i64 0,.i .i64 0,.i .i64 0,.i .i64 0]]⟩),
  (.loc 36,⟨3,.str,9,[[.b Q.t.1,.sl (Za Q.t.2.1) .an,.sl (Za Q.t.2.2) .an,.sl (Zd Q.y) .an,.sl (Zd Q.p) .an,.bs ((BId.loc 36).fld 5) 4 3 0 LS.length,.ptr ((BId.loc 34).fld 7) 5 3 0 0,.i .i64 seen,.bs ((BId.loc 36).fld 8) gk 3 0 m]]⟩),
  ((BId.loc 36).fld 5,⟨4,.own,3,Zd LS⟩),((BId.loc 34).fld 7,bxG 5 s p L),((BId.loc 36).fld 8,⟨gk,.own,3,Zd F⟩)]
def Zep(f:Fd)(Q:PoF)(LS:List Fz)(s p L seen:Int)(F:List Fz)(m i:Nat):St:=
 ⟨[(3,.ptr (.loc 3) 1 2 0 0),(7,.ptr (.loc 7) 2 4 0 0),(9,.ptr (.loc 36) 3 9 0 0),(38,.sl (Z7 f.lets) .an),(39,.i .i64 f.lets.length),(40,.i .i64 i)],hpE f 6 Q LS s p L seen F m,8⟩
def Zgs(f:Fd)(Q:PoF)(LS:List Fz)(s p L seen:Int)(F:List Fz)(m:Nat):Ex×St:=
 (.n,⟨[(3,.ptr (.loc 3) 1 2 0 0),(7,.ptr (.loc 7) 2 4 0 0),(9,.ptr (.loc 36) 3 9 0 0)],hpE f 6 Q LS s p L seen F m,8⟩)
def Ze5(kind at_:Int):Ex×St:=
 (.r,⟨[(6,.sl [] .an),(7,.ptr (.loc 7) 1 4 0 0)],[(.loc 7,⟨1,.str,4,[[.i .i64 kind,.i .i64 0,.i .i64 0,.i .i64 at_]]⟩)],3⟩)
theorem zyx(f:Fd)(Q:PoF)(LS:List Fz)(s p L seen:Int)(F:List Fz)(m i:Nat)(hi:i<f.lets.length)(hf:f.lets.length≤10)(hLS:LS.length=i)(V:Fz)(gk:Nat)(s2 p2 seen2:Int)(F2:List Fz)(m2:Nat)(hk:gk=3∨gk=8)
  (c5:Z6 T 473 [wP,.sl (Zt (f.lets[i]'hi).code) .an] (hpB 3 Q LS s p L seen F m)=some (.tup [efz V,.agg [.i .i64 0,.i .i64 0,.i .i64 0,.i .i64 0]],hpB gk Q LS s2 p2 L seen2 F2 m2)) :
  evX (orc T) T 0 l467_0 (Zep f Q LS s p L seen F m i)=some (.n,Zep f Q (LS++[V]) s2 p2 L seen2 F2 m2 (i+1)):=by
 have hg:f.lets[i]? = some (f.lets[i]'hi):=Ya hi;have hi':(i:Int)<f.lets.length:=by omega
 have hws:=za8 hi (by omega);have hp:=zbw LS V;have hle:i+1≤4294967296:=by omega
 unfold Zep hpE Zd9;simp only[hpB]at c5;obtain⟨L0,O⟩:=f;obtain⟨⟨q0,q1,q2⟩,qy,qp⟩:=Q;obtain⟨v0,v1,v2⟩:=V;dsimp only at *
 generalize hx:L0[i]'hi=x at *
 obtain⟨nm,code⟩:=x;dsimp only at *
 rw[Yk];simp only[hLS]at c5 ⊢;have ht:List.take i LS=LS:=by rw[←hLS,Ya7]
 rcases hk with rfl | rfl
 ·simp -implicitDefEqProofs[l467_0,hi,hi',hg,hx,hws,c5,bxG,hLS,ht,hp,hle]
 ·simp -implicitDefEqProofs[l467_0,hi,hi',hg,hx,hws,c5,bxG,hLS,ht,hp,hle]
theorem z21(f:Fd)(Q:PoF)(LS:List Fz)(s p L seen:Int)(F:List Fz)(m i:Nat)(hi:i<f.lets.length)(hf:f.lets.length≤10)(V:Fz)(gk:Nat)(s2 p2 seen2:Int)(F2:List Fz)(m2:Nat)(hk:gk=3∨gk=8)(kind at_:Int)(hne:kind≠0)
  (c5:Z6 T 473 [wP,.sl (Zt (f.lets[i]'hi).code) .an] (hpB 3 Q LS s p L seen F m)=some (.tup [efz V,.agg [.i .i64 kind,.i .i64 0,.i .i64 0,.i .i64 at_]],hpB gk Q LS s2 p2 L seen2 F2 m2)) :
  Zbe (evX (orc T) T 0 l467_0 (Zep f Q LS s p L seen F m i))=true∧Za8 0 0 (.norm false [3,7,9]) (evX (orc T) T 0 l467_0 (Zep f Q LS s p L seen F m i))=some (Ze5 kind at_):=by
 have hg:f.lets[i]? = some (f.lets[i]'hi):=Ya hi;have hi':(i:Int)<f.lets.length:=by omega
 unfold Zep hpE Zd9 Ze5;simp only[hpB]at c5;obtain⟨L0,O⟩:=f;obtain⟨⟨q0,q1,q2⟩,qy,qp⟩:=Q;obtain⟨v0,v1,v2⟩:=V;dsimp only at *
 generalize hx:L0[i]'hi=x at *
 obtain⟨nm,code⟩:=x;dsimp only at *
 rcases hk with rfl | rfl
 ·constructor<;>simp -implicitDefEqProofs[l467_0,hi,hi',hg,hx,c5,bxG,hne]
 ·constructor<;>simp -implicitDefEqProofs[l467_0,hi,hi',hg,hx,c5,bxG,hne]
theorem z8u(f:Fd)(Q:PoF)(LS:List Fz)(s p L seen:Int)(F:List Fz)(m:Nat) :
  Zbe (evX (orc T) T 0 l467_0 (Zep f Q LS s p L seen F m f.lets.length))=true∧Za8 0 0 (.norm false [3,7,9]) (evX (orc T) T 0 l467_0 (Zep f Q LS s p L seen F m f.lets.length))=some (Zgs f Q LS s p L seen F m):=by
 unfold Zep hpE Zd9 Zgs hpE Zd9;obtain⟨L0,O⟩:=f;obtain⟨⟨q0,q1,q2⟩,qy,qp⟩:=Q;dsimp only at *
 constructor<;>simp -implicitDefEqProofs[l467_0,bxG]
abbrev hpO(gk:Nat)(Q:PoF)(LS:List Fz)(s p L seen:Int)(F:List Fz)(m:Nat)(OS:List Fz):Heap:=
 [(.loc 7,⟨1,.str,4,[[.i .i64 0,.i .i64 0,.i .i64 0,.i .i64 0]]⟩),
  (.loc 36,⟨2,.str,9,[[.b Q.t.1,.sl (Za Q.t.2.1) .an,.sl (Za Q.t.2.2) .an,.sl (Zd Q.y) .an,.sl (Zd Q.p) .an,.bs ((BId.loc 36).fld 5) 3 3 0 LS.length,.ptr ((BId.loc 34).fld 7) 4 3 0 0,.i .i64 seen,.bs ((BId.loc 36).fld 8) gk 3 0 m]]⟩),
  ((BId.loc 36).fld 5,⟨3,.own,3,Zd LS⟩),((BId.loc 34).fld 7,bxG 4 s p L),((BId.loc 36).fld 8,⟨gk,.own,3,Zd F⟩),(.loc 14,⟨6,.own,3,Zd OS⟩)]
def Zfd(O:List (List Nd))(Q:PoF)(LS:List Fz)(s p L seen:Int)(F:List Fz)(m:Nat)(OS:List Fz)(i:Nat):St:=
 ⟨[(7,.ptr (.loc 7) 1 4 0 0),(9,.ptr (.loc 36) 2 9 0 0),(14,.bs (.loc 14) 6 3 0 OS.length),(67,.sl (Z4 O) .an),(68,.i .i64 O.length),(69,.i .i64 i)],hpO 5 Q LS s p L seen F m OS,8⟩
def Zh6(OS:List Fz):Ex×St:=
 (.n,⟨[(7,.ptr (.loc 7) 1 4 0 0),(14,.bs (.loc 14) 2 3 0 OS.length)],[(.loc 7,⟨1,.str,4,[[.i .i64 0,.i .i64 0,.i .i64 0,.i .i64 0]]⟩),(.loc 14,⟨2,.own,3,Zd OS⟩)],4⟩)
theorem zyy(O:List (List Nd))(Q:PoF)(LS:List Fz)(s p L seen:Int)(F:List Fz)(m:Nat)(OS:List Fz)(i:Nat)(hi:i<O.length)(hf:O.length≤10)(hLS:OS.length=i)(V:Fz)(gk:Nat)(s2 p2 seen2:Int)(F2:List Fz)(m2:Nat)(hk:gk=3∨gk=8)
  (c5:Z6 T 473 [wP,.sl (Zt (O[i]'hi)) .an] (hpB 3 Q LS s p L seen F m)=some (.tup [efz V,.agg [.i .i64 0,.i .i64 0,.i .i64 0,.i .i64 0]],hpB gk Q LS s2 p2 L seen2 F2 m2)) :
  evX (orc T) T 0 l467_1 (Zfd O Q LS s p L seen F m OS i)=some (.n,Zfd O Q LS s2 p2 L seen2 F2 m2 (OS++[V]) (i+1)):=by
 have hg:O[i]? = some (O[i]'hi):=Ya hi;have hi':(i:Int)<O.length:=by omega
 have hws:=za8 hi (by omega);have hp:=zbw OS V;have hle:i+1≤4294967296:=by omega
 unfold Zfd hpO;simp only[hpB]at c5;obtain⟨⟨q0,q1,q2⟩,qy,qp⟩:=Q;obtain⟨v0,v1,v2⟩:=V;dsimp only at *
 generalize hx:O[i]'hi=x at *
 rw[Yk];simp only[hLS]at ⊢;have ht:List.take i OS=OS:=by rw[←hLS,Ya7]
 rcases hk with rfl | rfl
 ·simp -implicitDefEqProofs[l467_1,hi,hi',hg,hx,hws,c5,bxG,hLS,ht,hp,hle]
 ·simp -implicitDefEqProofs[l467_1,hi,hi',hg,hx,hws,c5,bxG,hLS,ht,hp,hle]
theorem z22(O:List (List Nd))(Q:PoF)(LS:List Fz)(s p L seen:Int)(F:List Fz)(m:Nat)(OS:List Fz)(i:Nat)(hi:i<O.length)(hf:O.length≤10)(V:Fz)(gk:Nat)(s2 p2 seen2:Int)(F2:List Fz)(m2:Nat)(hk:gk=3∨gk=8)(kind at_:Int)(hne:kind≠0)
  (c5:Z6 T 473 [wP,.sl (Zt (O[i]'hi)) .an] (hpB 3 Q LS s p L seen F m)=some (.tup [efz V,.agg [.i .i64 kind,.i .i64 0,.i .i64 0,.i .i64 at_]],hpB gk Q LS s2 p2 L seen2 F2 m2)) :
  Zbe (evX (orc T) T 0 l467_1 (Zfd O Q LS s p L seen F m OS i))=true∧Za8 0 2 (.norm false [7,14]) (evX (orc T) T 0 l467_1 (Zfd O Q LS s p L seen F m OS i))=some (Ze5 kind at_):=by
 have hg:O[i]? = some (O[i]'hi):=Ya hi;have hi':(i:Int)<O.length:=by omega
 unfold Zfd hpO Ze5;simp only[hpB]at c5;obtain⟨⟨q0,q1,q2⟩,qy,qp⟩:=Q;obtain⟨v0,v1,v2⟩:=V;dsimp only at *
 generalize hx:O[i]'hi=x at *
 rcases hk with rfl | rfl
 ·constructor<;>simp -implicitDefEqProofs[l467_1,hi,hi',hg,hx,c5,bxG,hne]
 ·constructor<;>simp -implicitDefEqProofs[l467_1,hi,hi',hg,hx,c5,bxG,hne]
theorem z8v(O:List (List Nd))(Q:PoF)(LS:List Fz)(s p L seen:Int)(F:List Fz)(m:Nat)(OS:List Fz) :
  Zbe (evX (orc T) T 0 l467_1 (Zfd O Q LS s p L seen F m OS O.length))=true∧Za8 0 2 (.norm false [7,14]) (evX (orc T) T 0 l467_1 (Zfd O Q LS s p L seen F m OS O.length))=some (Zh6 OS):=by
 unfold Zfd hpO Zh6;obtain⟨⟨q0,q1,q2⟩,qy,qp⟩:=Q;dsimp only at *
 constructor<;>simp -implicitDefEqProofs[l467_1,bxG]
theorem zmn(f:Fd)(x:PoF)(bits:Int)(hx:PoS x 1000)(h1:f.lets.length≤100000)(h2:f.outs.length≤100000)(hn:Zb4 1000 50000 f)(hz:Zau f≤4294967295)(hs:∀x∈f.lets,x.name.length≤100000)(hq:Zet f x.y.length x.p.length=none)
  (kind at_:Int) (hlo:Ze T 0 0 (.norm false [3,7,9]) l467_0 (Zep f x.v.f [] 0 0 (Za4 bits) 0 [] 0 0)=some (Ze5 kind at_)) :
  Zb T 467 [efd f,ept x,.i .i64 bits]=some (.tup [.sl [] .an,Zf6 kind 0 0 at_]):=by
 have c:=zdn (T:=T) f x.y.length x.p.length h1 h2 hn hz hs;rw[hq]at c;unfold Zft at c;have c2:=zfo (T:=T) x hx;have c4:=zfn (T:=T) bits;unfold Zep Ze5 hpE Zd9 bxG at hlo;generalize Za4 bits=LI at *
 generalize x.v.f=Q at *
 obtain⟨L,O⟩:=f;obtain⟨⟨t0,t1,t2⟩,y,p⟩:=x;obtain⟨⟨q0,q1,q2⟩,qy,qp⟩:=Q;dsimp only at *
 clear hq hn hz hs hx;rw[zab Zy.h467 rfl,b467];simp only[Yr,Yag,zbu]at hlo;simp -implicitDefEqProofs[c,c2,c4,hlo,bxG]
theorem zmo(f:Fd)(x:PoF)(bits:Int)(hx:PoS x 1000)(h1:f.lets.length≤100000)(h2:f.outs.length≤100000)(hn:Zb4 1000 50000 f)(hz:Zau f≤4294967295)(hs:∀x∈f.lets,x.name.length≤100000)(hq:Zet f x.y.length x.p.length=none)
  (LS:List Fz) (s p:Int) (seen:Int) (F:List Fz) (m:Nat) (hlo:Ze T 0 0 (.norm false [3,7,9]) l467_0 (Zep f x.v.f [] 0 0 (Za4 bits) 0 [] 0 0)=some (Zgs f x.v.f LS s p (Za4 bits) seen F m))
  (kind at_:Int) (hl2:Ze T 0 2 (.norm false [7,14]) l467_1 (Zfd f.outs x.v.f LS s p (Za4 bits) seen F m [] 0)=some (Ze5 kind at_)) :
  Zb T 467 [efd f,ept x,.i .i64 bits]=some (.tup [.sl [] .an,Zf6 kind 0 0 at_]):=by
 have c:=zdn (T:=T) f x.y.length x.p.length h1 h2 hn hz hs;rw[hq]at c;unfold Zft at c;have c2:=zfo (T:=T) x hx;have c4:=zfn (T:=T) bits;unfold Zep Zgs hpE Zd9 bxG at hlo;unfold Zfd Ze5 hpO bxG at hl2;generalize Za4 bits=LI at *
 generalize x.v.f=Q at *
 obtain⟨L,O⟩:=f;obtain⟨⟨t0,t1,t2⟩,y,p⟩:=x;obtain⟨⟨q0,q1,q2⟩,qy,qp⟩:=Q;dsimp only at *
 clear hq hn hz hs hx;rw[zab Zy.h467 rfl,b467];simp only[Yr,Yag,zbu]at hlo hl2;simp -implicitDefEqProofs[c,c2,c4,hlo,hl2,bxG]
theorem zmp(f:Fd)(x:PoF)(bits:Int)(hx:PoS x 1000)(h1:f.lets.length≤100000)(h2:f.outs.length≤100000)(hn:Zb4 1000 50000 f)(hz:Zau f≤4294967295)(hs:∀x∈f.lets,x.name.length≤100000)(hq:Zet f x.y.length x.p.length=none)
  (LS:List Fz) (s p:Int) (seen:Int) (F:List Fz) (m:Nat) (hlo:Ze T 0 0 (.norm false [3,7,9]) l467_0 (Zep f x.v.f [] 0 0 (Za4 bits) 0 [] 0 0)=some (Zgs f x.v.f LS s p (Za4 bits) seen F m))
  (OS:List Fz) (hl2:Ze T 0 2 (.norm false [7,14]) l467_1 (Zfd f.outs x.v.f LS s p (Za4 bits) seen F m [] 0)=some (Zh6 OS)) :
  Zb T 467 [efd f,ept x,.i .i64 bits]=some (.tup [.sl (Zd OS) .an,Zf6 0 0 0 0]):=by
 have c:=zdn (T:=T) f x.y.length x.p.length h1 h2 hn hz hs;rw[hq]at c;unfold Zft at c;have c2:=zfo (T:=T) x hx;have c4:=zfn (T:=T) bits;unfold Zep Zgs hpE Zd9 bxG at hlo;unfold Zfd Zh6 hpO bxG at hl2;generalize Za4 bits=LI at *
 generalize x.v.f=Q at *
 obtain⟨L,O⟩:=f;obtain⟨⟨t0,t1,t2⟩,y,p⟩:=x;obtain⟨⟨q0,q1,q2⟩,qy,qp⟩:=Q;dsimp only at *
 clear hq hn hz hs hx;rw[zab Zy.h467 rfl,b467];simp only[Yr,Yag,zbu]at hlo hl2;simp -implicitDefEqProofs[c,c2,c4,hlo,hl2,bxG]
end
def Zcq(l:List (List Nd)):Nat:=(l.map List.length).sum
@[simp] theorem zfm(c:List Nd)(l:List (List Nd)):Zcq (c::l)=c.length+Zcq l:=rfl
theorem zor{lim:Nat}(hlim:lim≤4096){P:Po}{ls:List Rat}{dim pars lets:Int}{c:List Nd}{n:Nat}(h:Za7 dim pars lets c<0)(h0:(Zf lim P ls n [] c).2.1=0):sz (Zf lim P ls n [] c).1≤1000:=by
 obtain⟨t,ht,rfl,_⟩:=zb5 h;rw[zxo _ _ _ _ ht]at h0 ⊢;have:=zqy hlim (z1h h0).2;omega
section
variable{T:Tbl}[Zad T][Zp T][Z0 T][Z3 T][Zq T][Zu T][Zl T][Zo T][Zr T][Zbj T][Zam T][Za6 T][Zcz T][Zcd T][Zar T][Zbv T][Zy T][Zaq T][Zay T][Zb7 T][Zbo T][Zcc T][Zcu T][Zbi T]
theorem z23(f:Fd)(P:Po)(lim:Nat)(hlim:lim≤4096)(hP:PvS P 1000)(hF:FineD f P.y.length P.p.length)(hn:Zb4 1000 50000 f) :
  ∃r,(((Zck lim P 0 [] (f.lets.map (·.code))).2.2.1=0∧∃s p F m,F.length≤5000∧(Zck lim P 0 [] (f.lets.map (·.code))).2.1.length=f.lets.length∧(∀q∈(Zck lim P 0 [] (f.lets.map (·.code))).2.1,sz q≤1000)∧(Zck lim P 0 [] (f.lets.map (·.code))).1≤Zcq (f.lets.map (·.code)) ∧
    r=Zgs f P.f (fzs (Zck lim P 0 [] (f.lets.map (·.code))).2.1) s p lim ((Zck lim P 0 [] (f.lets.map (·.code))).1:Nat) F m) ∨
   ((Zck lim P 0 [] (f.lets.map (·.code))).2.2.1≠0∧r=Ze5 (Zck lim P 0 [] (f.lets.map (·.code))).2.2.1 (Zck lim P 0 [] (f.lets.map (·.code))).2.2.2)) ∧
   Ze T 0 0 (.norm false [3,7,9]) l467_0 (Zep f P.f [] 0 0 lim 0 [] 0 0)=some r:=by
 refine zam (fun q:Nat×List Rat×Nat×(Int×Int)×List Fz×Nat=>Zep f P.f (fzs q.2.1) q.2.2.2.1.1 q.2.2.2.1.2 lim (q.2.2.1:Nat) q.2.2.2.2.1 q.2.2.2.2.2 q.1)
  (fun q=>q.1≤f.lets.length∧q.2.1.length=q.1∧(∀u∈q.2.1,sz u≤1000)∧q.2.2.2.2.1.length≤5000∧q.2.2.1+Zcq ((f.lets.drop q.1).map (·.code))≤Zcq (f.lets.map (·.code))∧Zck lim P q.2.2.1 q.2.1 ((f.lets.drop q.1).map (·.code))=Zck lim P 0 [] (f.lets.map (·.code)))
  (fun q=>f.lets.length-q.1) _ ?_ (0,[],0,(0,0),[],0) ⟨Yq _,rfl,by simp,by simp,by simp,rfl⟩
 rintro⟨i,ls,n0,⟨s,p⟩,F,m⟩ ⟨hi,hls,hsz,hFl,hsum,hev⟩
 dsimp only at *
 obtain⟨w1,w2,w3,w4,w5,w6,w7⟩:=hF.wh;have hS:Zcq (f.lets.map (·.code))≤300:=by
  have:Zau f=Zcq (f.lets.map (·.code))+Zcq f.outs:=by unfold Zau codesD Zcq;rw[Ybb,Ycb]
  omega
 by_cases hlt:i<f.lets.length
 ·have hd:f.lets.drop i=f.lets[i]'hlt::f.lets.drop (i+1):=Yd hlt;have hpl:=hF.lets i _ (Ya hlt);have hth:=hn (f.lets[i]'hlt).code (Y5.2 (.inl (Yam.2 ⟨_,Y2 hlt,rfl⟩)));rw[hd,Y3,zfm]at hsum;rw[hd,Y3,Zck]at hev;obtain⟨t,ht,ee,hok⟩:=zb5 hpl;obtain⟨gk,s2,p2,seen2,F2,m2,hk,h5a,c5⟩:=zii (T:=T) P lim hlim ls hP hsz (f.lets[i]'hlt).code (by omega) (by rw[hls];exact hok) hth.2 (by rw[←ee];exact zb4 ht) n0 (by omega) s p F m hFl;by_cases h0:(Zf lim P ls n0 [] (f.lets[i]'hlt).code).2.1=0
  ·left;have hat:=zdr lim P ls _ _ _ h0;have hsv:=zor hlim hpl h0;rw[if_neg (by simpa using h0)]at hev;obtain⟨h5b,h5c⟩:=h5a h0;rw[h0,hat]at c5;have:=zyx (T:=T) f P.f (fzs ls) s p lim (n0:Nat) F m i hlt w6 (by rw[za2];exact hls) _ gk s2 p2 seen2 F2 m2 hk c5;refine⟨(i+1,ls++[(Zf lim P ls n0 [] (f.lets[i]'hlt).code).1],n0+(f.lets[i]'hlt).code.length,(s2,p2),F2,m2),⟨by dsimp only;omega,by simp[hls],?_,h5c,by dsimp only;omega,hev⟩,by dsimp only;omega,?_⟩
   ·intro u hu;rcases Y5.1 hu with hu | hu
    ·exact hsz u hu
    ·rw[Yaq.1 hu];exact hsv
   ·rw[this,h5b];simp[fzs]
  ·right;rw[if_pos h0]at hev;rw[←hev];have hk0:((Zf lim P ls n0 [] (f.lets[i]'hlt).code).2.1:Int)≠0:=by omega
   exact⟨_,.inr ⟨h0,rfl⟩,z21 (T:=T) f P.f (fzs ls) s p lim (n0:Nat) F m i hlt w6 _ gk s2 p2 seen2 F2 m2 hk _ _ hk0 c5⟩
 ·right;have hil:i=f.lets.length:=by omega
  subst hil;rw[Y0,Ycl,Zck]at hev;rw[←hev];rw[Y0,Ycl]at hsum;exact⟨_,.inl ⟨rfl,s,p,F,m,hFl,hls,hsz,by have:Zcq []=0:=rfl;dsimp only;omega,rfl⟩,z8u (T:=T) f P.f (fzs ls) s p lim (n0:Nat) F m⟩
theorem z24(f:Fd)(P:Po)(lim:Nat)(hlim:lim≤4096)(hP:PvS P 1000)(hF:FineD f P.y.length P.p.length)(hn:Zb4 1000 50000 f)(ls:List Rat)(hll:ls.length=f.lets.length)(hls:∀q∈ls,sz q≤1000)(n0:Nat)(hn0:n0≤300)(s p:Int)(F:List Fz)(m:Nat)(hFl:F.length≤5000) :
  ∃r,(((Zc0 lim P ls n0 [] f.outs).2.1=0∧r=Zh6 (fzs (Zc0 lim P ls n0 [] f.outs).1)) ∨
   ((Zc0 lim P ls n0 [] f.outs).2.1≠0∧(Zc0 lim P ls n0 [] f.outs).1=[]∧r=Ze5 (Zc0 lim P ls n0 [] f.outs).2.1 (Zc0 lim P ls n0 [] f.outs).2.2)) ∧
   Ze T 0 2 (.norm false [7,14]) l467_1 (Zfd f.outs P.f (fzs ls) s p lim (n0:Nat) F m [] 0)=some r:=by
 refine zam (fun q:Nat×List Rat×Nat×(Int×Int)×List Fz×Nat=>Zfd f.outs P.f (fzs ls) q.2.2.2.1.1 q.2.2.2.1.2 lim (q.2.2.1:Nat) q.2.2.2.2.1 q.2.2.2.2.2 (fzs q.2.1) q.1)
  (fun q=>q.1≤f.outs.length∧q.2.1.length=q.1∧q.2.2.2.2.1.length≤5000∧q.2.2.1+Zcq (f.outs.drop q.1)≤n0+Zcq f.outs∧Zc0 lim P ls q.2.2.1 q.2.1 (f.outs.drop q.1)=Zc0 lim P ls n0 [] f.outs)
  (fun q=>f.outs.length-q.1) _ ?_ (0,[],n0,(s,p),F,m) ⟨Yq _,rfl,hFl,by simp,rfl⟩
 rintro⟨i,os,n1,⟨s,p⟩,F,m⟩ ⟨hi,hos,hFl,hsum,hev⟩
 dsimp only at *
 obtain⟨w1,w2,w3,w4,w5,w6,w7⟩:=hF.wh;have hS:Zcq f.outs≤300:=by
  have:Zau f=Zcq (f.lets.map (·.code))+Zcq f.outs:=by unfold Zau codesD Zcq;rw[Ybb,Ycb]
  omega
 by_cases hlt:i<f.outs.length
 ·have hd:f.outs.drop i=f.outs[i]'hlt::f.outs.drop (i+1):=Yd hlt;have hpl:=hF.outs _ (Y2 hlt);have hth:=hn (f.outs[i]'hlt) (Y5.2 (.inr (Y2 hlt)));rw[hd,zfm]at hsum;rw[hd,Zc0]at hev;obtain⟨t,ht,ee,hok⟩:=zb5 hpl;obtain⟨gk,s2,p2,seen2,F2,m2,hk,h5a,c5⟩:=zii (T:=T) P lim hlim ls hP hls (f.outs[i]'hlt) (by omega) (by rw[hll];exact hok) hth.2 (by rw[←ee];exact zb4 ht) n1 (by omega) s p F m hFl;by_cases h0:(Zf lim P ls n1 [] (f.outs[i]'hlt)).2.1=0
  ·left;have hat:=zdr lim P ls _ _ _ h0;rw[if_neg (by simpa using h0)]at hev;obtain⟨h5b,h5c⟩:=h5a h0;rw[h0,hat]at c5;have:=zyy (T:=T) f.outs P.f (fzs ls) s p lim (n1:Nat) F m (fzs os) i hlt (by omega) (by rw[za2];exact hos) _ gk s2 p2 seen2 F2 m2 hk c5;refine⟨(i+1,os++[(Zf lim P ls n1 [] (f.outs[i]'hlt)).1],n1+(f.outs[i]'hlt).length,(s2,p2),F2,m2),⟨by dsimp only;omega,by simp[hos],h5c,by dsimp only;omega,hev⟩,by dsimp only;omega,?_⟩;rw[this,h5b];simp[fzs]
  ·right;rw[if_pos h0]at hev;rw[←hev];have hk0:((Zf lim P ls n1 [] (f.outs[i]'hlt)).2.1:Int)≠0:=by omega
   exact⟨_,.inr ⟨h0,rfl,rfl⟩,z22 (T:=T) f.outs P.f (fzs ls) s p lim (n1:Nat) F m (fzs os) i hlt (by omega) _ gk s2 p2 seen2 F2 m2 hk _ _ hk0 c5⟩
 ·right;have hil:i=f.outs.length:=by omega
  subst hil;rw[Y0,Zc0]at hev;rw[←hev];exact⟨_,.inl ⟨rfl,rfl⟩,z8v (T:=T) f.outs P.f (fzs ls) s p lim (n1:Nat) F m (fzs os)⟩
theorem zdo(f:Fd)(x:PoF)(bits:Int)(hx:PoS x 1000)(h1:f.lets.length≤100000)(h2:f.outs.length≤100000)(hn:Zb4 1000 50000 f)(hz:Zau f≤4294967295)(hs:∀x∈f.lets,x.name.length≤100000)(hq:Zet f x.y.length x.p.length=none) :
  Zb T 467 [efd f,ept x,.i .i64 bits]=some (.tup [.sl (Zd (fzs (evD (Za4 bits).toNat x.v f).1)) .an,Zf6 (evD (Za4 bits).toNat x.v f).2.1 0 0 (evD (Za4 bits).toNat x.v f).2.2]):=by
 obtain⟨hl1,hl2⟩:=zf8 bits;have hyl:x.v.y.length=x.y.length:=by simp[PoF.v]
 have hpl:x.v.p.length=x.p.length:=by simp[PoF.v]
 have hF:=znr hq;rw[←hyl,←hpl]at hF;have hfz:fzs []=[]:=rfl;obtain⟨r,hr,hlo⟩:=z23 (T:=T) f x.v (Za4 bits).toNat hl2 (zkx hx) hF hn;rw[hl1]at hlo hr;unfold evD;rcases hr with ⟨h0,s,p,F,m,hFl,hll,hls,hn0,rfl⟩ | ⟨h0,rfl⟩
 ·rw[if_neg (by simpa using h0)];have hS:Zcq (f.lets.map (·.code))≤300:=by
   have:Zau f=Zcq (f.lets.map (·.code))+Zcq f.outs:=by unfold Zau codesD Zcq;rw[Ybb,Ycb]
   have:=hF.wh.2.2.2.2.2.2;omega
  obtain⟨r2,hr2,hlo2⟩:=z24 (T:=T) f x.v (Za4 bits).toNat hl2 (zkx hx) hF hn _ hll hls _ (Yf hn0 hS) s p F m hFl;rw[hl1]at hlo2;rcases hr2 with ⟨g0,rfl⟩ | ⟨g0,g1,rfl⟩
  ·have:=zmp (T:=T) f x bits hx h1 h2 hn hz hs hq _ s p _ F m hlo _ hlo2;rw[this,g0];have hat:(Zc0 (Za4 bits).toNat x.v (Zck (Za4 bits).toNat x.v 0 [] (f.lets.map (·.code))).2.1 (Zck (Za4 bits).toNat x.v 0 [] (f.lets.map (·.code))).1 [] f.outs).2.2=0:=by
    clear hlo2 hlo this;generalize (Zck (Za4 bits).toNat x.v 0 [] (f.lets.map (·.code))).2.1=ls at *
    generalize (Zck (Za4 bits).toNat x.v 0 [] (f.lets.map (·.code))).1=n at *
    generalize f.outs=O at *
    have:∀(O:List (List Nd)) (n:Nat) (os:List Rat),(Zc0 (Za4 bits).toNat x.v ls n os O).2.1=0→(Zc0 (Za4 bits).toNat x.v ls n os O).2.2=0:=by
     intro O
     induction O with
     | nil=>intro n os h;rfl
     | cons c r ih=>
      intro n os h;unfold Zc0 at h ⊢;split
      ·next hh=>rw[if_pos hh]at h;exact absurd h hh
      ·next hh=>rw[if_neg hh]at h;exact ih _ _ h
    exact this _ _ _ g0
   rw[hat]
   rfl
  ·have:=zmo (T:=T) f x bits hx h1 h2 hn hz hs hq _ s p _ F m hlo _ _ hlo2;rw[this,g1]
   rfl
 ·rw[if_pos h0];have:=zmn (T:=T) f x bits hx h1 h2 hn hz hs hq _ _ hlo;rw[this,hfz]
  rfl
end
def wkF:Fd:=⟨[],[[⟨1,0,[1]⟩,⟨1,0,[1]⟩,⟨2,0,[]⟩,⟨8,0,[]⟩,⟨10,0,[]⟩]]⟩
def wkX:PoF:=⟨(false,[],[]),[fz 0],[]⟩
def wkY:PoF:=⟨fz 1,[fz 0],[]⟩
def wkZ:PoF:=⟨(false,[],[]),[],[]⟩
section
variable{T:Tbl}[Zad T][Zp T][Z0 T][Z3 T][Zq T][Zu T][Zl T][Zo T][Zr T][Zbj T][Zam T][Za6 T][Zcz T][Zcd T][Zar T][Zbv T][Zy T][Zaq T][Zay T][Zb7 T][Zbo T][Zcc T][Zcu T][Zbi T][Zdq T][Zb9 T]
theorem zoz:Zb T 463 []=some (.b true):=by
 have hn:Zb4 1000 50000 wkF:=by
  intro c hc;have:c=[⟨1,0,[1]⟩,⟨1,0,[1]⟩,⟨2,0,[]⟩,⟨8,0,[]⟩,⟨10,0,[]⟩]:=by simpa[codesD,wkF]using hc
  subst this;refine⟨by decide,fun x hx=>?_⟩;simp only[Yaa,Ye2,or_false]at hx;rcases hx with rfl | rfl | rfl | rfl | rfl<;>decide
 have f0:fsz (fz 0)≤1000:=by decide +kernel
 have f1:fsz (fz 1)≤1000:=by decide +kernel
 have hy:∀u∈[fz 0],fsz u≤1000:=fun u hu=>by rw[Yaq.1 hu];exact f0
 have hX:PoS wkX 1000:=⟨by decide,hy,by simp[wkX],by decide,by decide⟩;have hY:PoS wkY 1000:=⟨f1,hy,by simp[wkY],by decide,by decide⟩;have hZ:PoS wkZ 1000:=⟨by decide,by simp[wkZ],by simp[wkZ],by decide,by decide⟩;have cX:Zet wkF wkX.y.length wkX.p.length=none:=by decide +kernel
 have cY:Zet wkF wkY.y.length wkY.p.length=none:=by decide +kernel
 have a1:=zdo (T:=T) wkF wkX 100 hX (by decide) (by decide) hn (by decide) (by simp[wkF]) cX;have a2:=zdo (T:=T) wkF wkY 100 hY (by decide) (by decide) hn (by decide) (by simp[wkF]) cY;have e1:evD (Za4 100).toNat wkX.v wkF=([1],0,0):=by decide +kernel
 have e2:evD (Za4 100).toNat wkY.v wkF=([],3,4):=by decide +kernel
 have a3:=zmq (T:=T) [⟨1,0,[8]⟩] wkZ [] 3 hZ (by decide) (by simp) (by decide) (fun x hx=>by rw[Yaq.1 hx];decide) (by decide +kernel);have e3:Zf (Za4 3).toNat wkZ.v (([]:List Fz).map fv) 0 [] [⟨1,0,[8]⟩]=(0,6,0):=by decide +kernel
 rw[e1]at a1;rw[e2]at a2;rw[e3]at a3;have z:=zz2 (T:=T) 1 (by decide);have o:=zyz (T:=T);have h1:∀u∈[fz 1],fsz u≤1000:=fun u hu=>by rw[Yaq.1 hu];exact f1
 have sm:=zz3 (T:=T) [fz 1] [fz 1] (by decide) h1 h1;rw[decide_eq_true rfl]at sm;have efs:fzs [1]=[fz 1]:=rfl;rw[efs]at a1;have efs0:fzs []=[]:=rfl;rw[efs0]at a2;have er:List.replicate 1 (fz 0)=[fz 0]:=rfl;rw[er]at z;clear e1 e2 e3 efs efs0 er hX hY hZ hn cX cY hy h1 f0 f1;unfold wkF wkX at a1;unfold wkF wkY at a2;unfold wkZ at a3;generalize fz 1=W at *
 generalize fz 0=Z at *
 obtain⟨z0,z1,z2⟩:=Z;obtain⟨w0,w1,w2⟩:=W;have u1:Za [1]=[[u32 1]]:=rfl;have u8:Za [8]=[[u32 8]]:=rfl;simp only[Zt,Z4,Z7,Zd,Zcl,Zce,Y3,Ycl,efd,ept,efz,u1,u8,zys]at a1 a2 a3 z o sm;simp only[Ydr,Yr,Int.cast_ofNat_Int]at a1 a2 a3 z o sm;rw[zab Zb9.h463 rfl,b463];simp -implicitDefEqProofs[a1,a2,a3,z,o,sm]
end
section
variable{T:Tbl}[Zd1 T]
theorem zqk(l:List Nd)(hl:l.length≤4294967295):Zb T 13 [.sl (Zt l) .an]=some (.sl (Zt l) .an):=by
 have hlo:Ze T 0 0 (.norm false [3]) l13_0 ⟨[(0,.sl (Zt l) .an),(3,.bs (.loc 3) 1 3 0 0),(4,.i .i64 0)],[(.loc 3,⟨1,.own,3,[]⟩)],3⟩ =
   some (.n,⟨[(3,.bs (.loc 3) 1 3 0 l.length)],[(.loc 3,⟨1,.own,3,Zt l⟩)],3⟩):=by
  have:=zan (T:=T) (k:=0) (id:=0) (g2:=.norm false [3]) (c:=l13_0) (fun i=>⟨[(0,.sl (Zt l) .an),(3,.bs (.loc 3) 1 3 0 i),(4,.i .i64 (i:Int))],[(.loc 3,⟨1,.own,3,Zt (l.take i)⟩)],3⟩) l.length
   (some (.n,⟨[(3,.bs (.loc 3) 1 3 0 l.length)],[(.loc 3,⟨1,.own,3,Zt l⟩)],3⟩)) (fun i hi=>?_) ?_
  ·simpa using this
  ·have hg:l[i]? = some (l[i]'hi):=Ya hi;have hi':(i:Int)<l.length:=by omega
   have hws:=za8 hi (by omega);have hs:l.take (i+1)=l.take i++[l[i]'hi]:=by rw[Ys hi]
   have hp:=znu (n:=i) (show (l.take i).length=i by rw[Yx];omega) (l[i]'hi);have hle:i≤(l.take i).length:=by rw[Yx];omega
   have h32:i+1≤4294967296:=by omega
   rw[hs];generalize hx:l[i]'hi=x at *
   generalize l.take i=m at *
   obtain⟨op,j,n⟩:=x;clear hs;simp -implicitDefEqProofs[l13_0,hi,hi',hg,hx,hws,hp,hle,h32]
  ·constructor<;>simp -implicitDefEqProofs[l13_0]
 rw[zab Zd1.h13 rfl,b13];simp -implicitDefEqProofs[hlo]
end
theorem zr7(m:List (List Nd))(x:List Nd):wkL (Z4 m++[[.sl (Zt x) .an]])=Z4 (m++[x]):=by rw[znv,zph]
theorem zoy(m:List Lt)(x:Lt):wkL (Z7 m++[[.s x.name,.sl (Zt x.code) .an]])=Z7 (m++[x]):=by
 have:Z7 m++[Zig x]=Z7 (m++[x]):=ztf m x;rw[show [[AV.s x.name,.sl (Zt x.code) .an]]=[Zig x] from rfl,this,z0m]
section
variable{T:Tbl}[Zd1 T][Zb9 T]
abbrev hpT(L:List Lt)(O:List (List Nd))(A:List Lt)(B:List (List Nd)):Heap:=
 [(.loc 1,⟨1,.str,2,[[.sl (Z7 L) .an,.sl (Z4 O) .an]]⟩),(.loc 2,⟨2,.str,2,[[.sl [] .an,.sl [] .an]]⟩),
  (.loc 3,⟨3,.str,2,[[.bs ((BId.loc 3).fld 0) 4 2 0 A.length,.bs ((BId.loc 3).fld 1) 5 1 0 B.length]]⟩),((BId.loc 3).fld 0,⟨4,.own,2,Z7 A⟩),((BId.loc 3).fld 1,⟨5,.own,1,Z4 B⟩)]
theorem zy5(L:List Lt)(O:List (List Nd))(hn:∀x∈L,x.code.length≤4294967295)(h1:L.length≤100000) :
  Ze T 0 0 (.norm false [1,2,3]) l468_0 ⟨[(1,.ptr (.loc 1) 1 2 0 0),(2,.ptr (.loc 2) 2 2 0 0),(3,.ptr (.loc 3) 3 2 0 0),(4,.i .i64 ((0:Nat):Int))],hpT L O (L.take 0) [],7⟩ =
   some (.n,⟨[(1,.ptr (.loc 1) 1 2 0 0),(2,.ptr (.loc 2) 2 2 0 0),(3,.ptr (.loc 3) 3 2 0 0)],hpT L O L [],7⟩):=by
 refine zan (fun i=>⟨[(1,.ptr (.loc 1) 1 2 0 0),(2,.ptr (.loc 2) 2 2 0 0),(3,.ptr (.loc 3) 3 2 0 0),(4,.i .i64 ((i:Nat):Int))],hpT L O (L.take i) [],7⟩) L.length _ (fun i hi=>?_) ?_
 ·have hg:L[i]? = some (L[i]'hi):=Ya hi;have hi':(i:Int)<L.length:=by omega
  have hws:=za8 hi (by omega);have hs:L.take (i+1)=L.take i++[L[i]'hi]:=by rw[Ys hi]
  have hml:(L.take i).length=i:=by rw[Yx];omega
  have hp:=zoy (L.take i) (L[i]'hi);have h32:i+1≤4294967296:=by omega
  have c:=zqk (T:=T) (L[i]'hi).code (hn _ (Y2 hi));rw[hs];generalize hx:L[i]'hi=x at *
  generalize L.take i=m at *
  obtain⟨nm,code⟩:=x;unfold hpT;rw[Yk,hml];have ht:List.take i (Z7 m)=Z7 m:=Yb (by rw[zgr];omega);dsimp only at *
  clear hs hn;simp -implicitDefEqProofs[l468_0,hi,hi',hg,hx,hws,hp,h32,c,hml,ht]
 ·rw[Ya7];constructor<;>simp -implicitDefEqProofs[l468_0]
theorem zy6(L:List Lt)(O:List (List Nd))(hn:∀c∈O,c.length≤4294967295)(h1:O.length≤100000) :
  Ze T 0 2 (.norm false [2,3]) l468_1 ⟨[(1,.ptr (.loc 1) 1 2 0 0),(2,.ptr (.loc 2) 2 2 0 0),(3,.ptr (.loc 3) 3 2 0 0),(5,.i .i64 ((0:Nat):Int))],hpT L O L (O.take 0),7⟩ =
   some (.n,⟨[(2,.ptr (.loc 2) 1 2 0 0),(3,.ptr (.loc 3) 2 2 0 0)],[(.loc 2,⟨1,.str,2,[[.sl [] .an,.sl [] .an]]⟩),
  (.loc 3,⟨2,.str,2,[[.bs ((BId.loc 3).fld 0) 3 2 0 L.length,.bs ((BId.loc 3).fld 1) 4 1 0 O.length]]⟩),((BId.loc 3).fld 0,⟨3,.own,2,Z7 L⟩),((BId.loc 3).fld 1,⟨4,.own,1,Z4 O⟩)],6⟩):=by
 refine zan (fun i=>⟨[(1,.ptr (.loc 1) 1 2 0 0),(2,.ptr (.loc 2) 2 2 0 0),(3,.ptr (.loc 3) 3 2 0 0),(5,.i .i64 ((i:Nat):Int))],hpT L O L (O.take i),7⟩) O.length _ (fun i hi=>?_) ?_
 ·have hg:O[i]? = some (O[i]'hi):=Ya hi;have hi':(i:Int)<O.length:=by omega
  have hws:=za8 hi (by omega);have hs:O.take (i+1)=O.take i++[O[i]'hi]:=by rw[Ys hi]
  have hml:(O.take i).length=i:=by rw[Yx];omega
  have hp:=zr7 (O.take i) (O[i]'hi);have h32:i+1≤4294967296:=by omega
  have c:=zqk (T:=T) (O[i]'hi) (hn _ (Y2 hi));rw[hs];generalize hx:O[i]'hi=x at *
  generalize O.take i=m at *
  unfold hpT;rw[Yk,hml];have ht:List.take i (Z4 m)=Z4 m:=Yb (by rw[zir];omega);clear hs hn;simp -implicitDefEqProofs[l468_1,hi,hi',hg,hx,hws,hp,h32,c,hml,ht]
 ·rw[Ya7];constructor<;>simp -implicitDefEqProofs[l468_1]
theorem zkz(f:Fd)(hn:∀c∈codesD f,c.length≤4294967295)(h1:f.lets.length≤100000)(h2:f.outs.length≤100000):Zb T 468 [efd f]=some (efd f):=by
 obtain⟨L,O⟩:=f;dsimp only at h1 h2;have a:=zy5 (T:=T) L O (fun x hx=>hn _ (Y5.2 (.inl (Yam.2 ⟨x,hx,rfl⟩)))) h1;have b:=zy6 (T:=T) L O (fun c hc=>hn _ (Y5.2 (.inr hc))) h2;simp only[hpT,Ydz,Yag,zxr,z0p,Yr]at a b;rw[zab Zb9.h468 rfl,b468];have e1:List.take L.length (Z7 L)=Z7 L:=Yb (by rw[zgr];exact Yg _);have e2:List.take O.length (Z4 O)=Z4 O:=Yb (by rw[zir];exact Yg _);simp -implicitDefEqProofs[a,b,e1,e2]
end
section
variable{T:Tbl}[Zah T]
theorem zdq(op:Int):Zb T 113 [.i .i64 op]=some (.i .i64 (arN op)):=by
 rw[zab Zah.h113 rfl,b113];rcases zay op with ⟨e,h1,h2⟩ | ⟨e,rfl | rfl⟩ | ⟨e,h1,h2⟩ | ⟨e,h⟩
 ·rw[e];simp -implicitDefEqProofs[h1,h2]
 ·rw[e];simp -implicitDefEqProofs
 ·rw[e];simp -implicitDefEqProofs
 ·rw[e];have g1:1≤op:=by omega
  have g2:¬ op≤5:=by omega
  have g3:op≠6:=by omega
  have g4:op≠11:=by omega
  simp -implicitDefEqProofs[h1,h2,g1,g2,g3,g4]
 ·rw[e];have g3:op≠6:=by omega
  have g4:op≠11:=by omega
  rcases h with h | h
  ·have g1:¬ 1≤op:=by omega
   have g2:¬ 7≤op:=by omega
   simp -implicitDefEqProofs[g1,g2,g3,g4]
  ·have g1:1≤op:=by omega
   have g2:7≤op:=by omega
   have g5:¬ op≤5:=by omega
   have g6:¬ op≤10:=by omega
   simp -implicitDefEqProofs[g1,g2,g3,g4,g5,g6]
def Zg6(l:List Nd)(p:Nat×Int):St:=⟨[(0,.sl (Zt l) .an),(3,.i .i64 p.2),(4,.i .i64 p.1)],[],2⟩
theorem zgs(l:List Nd)(hl:l.length≤4294967296):∀p:Nat×Int,(p.1≤l.length∧0≤p.2∧p.2≤p.1)→Ze T 0 0 (.norm false [0,3]) l80_0 (Zg6 l p) =
  match goL p.1 p.2 (l.drop p.1) with
  | (some k,_)=>some (.r,⟨[(2,.i .i64 (k:Nat))],[],2⟩)
  | (none,o)=>some (.n,⟨[(0,.sl (Zt l) .an),(3,.i .i64 o)],[],2⟩):=by
 refine zaw (Zg6 l) _ (fun p=>l.length-p.1) _ ?_
 rintro⟨i,o⟩ ⟨hi,ho,ho2⟩
 dsimp only at *
 by_cases h:i<l.length
 ·have hg:l[i]? = some (l[i]'h):=Ya h;have hd:l.drop i=l[i]'h::l.drop (i+1):=Yd h;have ca:=zdq (T:=T) (l[i]'h).op;have h':(i:Int)<l.length:=by omega
  have hws:=za8 h (by omega);rw[hd,goL];generalize hx:l[i]'h=x at *
  clear hd;have hw0:IntKind.wrap .i64 o=o:=zac _ (by omega);have hw1:IntKind.wrap .i64 (o-1)=o-1:=zac _ (by omega);have hw2:IntKind.wrap .i64 (o-2)=o-2:=zac _ (by omega);have hw3:IntKind.wrap .i64 (o+1)=o+1:=zac _ (by omega);have hw4:IntKind.wrap .i64 (o-1+1)=o:=by rw[zac _ (by omega)];omega
  have hw5:IntKind.wrap .i64 (o-2+1)=o-1:=by rw[zac _ (by omega)];omega
  rcases zay x.op with ⟨e,_⟩ | ⟨e,_⟩ | ⟨e,_⟩ | ⟨e,_⟩
  ·left;rw[e]at ca ⊢;have hc:¬ o<0:=by omega
   refine⟨(i+1,o+1),⟨by omega,by omega,by dsimp only;omega⟩,by dsimp only;omega,?_,?_⟩
   ·unfold Zg6;simp -implicitDefEqProofs[l80_0,h,h',hg,hx,hws,ca,hw0,hw3,hc]
   ·rw[if_neg (by omega)];simp
  ·rw[e]at ca ⊢;by_cases hc:o<1
   ·right;rw[if_pos (by omega)];unfold Zg6;constructor<;>simp -implicitDefEqProofs[l80_0,h,h',hg,hx,ca,hc]
   ·left;refine⟨(i+1,o),⟨by omega,by omega,by dsimp only;omega⟩,by dsimp only;omega,?_,?_⟩
    ·unfold Zg6;simp -implicitDefEqProofs[l80_0,h,h',hg,hx,hws,ca,hw0,hw1,hw4,hc]
    ·rw[if_neg (by omega)];simp
  ·rw[e]at ca ⊢;by_cases hc:o<2
   ·right;rw[if_pos (by omega)];unfold Zg6;constructor<;>simp -implicitDefEqProofs[l80_0,h,h',hg,hx,ca,hc]
   ·left;refine⟨(i+1,o-1),⟨by omega,by omega,by dsimp only;omega⟩,by dsimp only;omega,?_,?_⟩
    ·unfold Zg6;simp -implicitDefEqProofs[l80_0,h,h',hg,hx,hws,ca,hw2,hw5,hc]
    ·rw[if_neg (by omega)];dsimp only;rw[show o+1-2=o-1 by omega]
  ·right;rw[e]at ca ⊢;rw[if_pos (by omega)];unfold Zg6;constructor<;>simp -implicitDefEqProofs[l80_0,h,h',hg,hx,ca]
 ·have:i=l.length:=by omega
  subst this;right;rw[Y0,goL];unfold Zg6;constructor<;>simp -implicitDefEqProofs[l80_0]
theorem zic(l:List Nd)(hl:l.length≤4294967296):Zb T 80 [.sl (Zt l) .an]=some (.i .i64 (Z2 l)):=by
 have hlo:=zgs (T:=T) l hl (0,0) ⟨Yq _,by decide,by decide⟩;have hw:=zis l 0 0;unfold Z2;rw[hw];unfold Zg6 at hlo;simp only[Yae,Yr]at hlo;rw[zab Zah.h80 rfl,b80];generalize goL 0 0 l=G at *
 obtain⟨_ | k,o⟩:=G
 ·dsimp only at hlo ⊢;by_cases h:o=1
  ·subst h;simp -implicitDefEqProofs[hlo]
  ·simp -implicitDefEqProofs[hlo,h]
 ·dsimp only at hlo ⊢;simp -implicitDefEqProofs[hlo]
def Znx(l:List Nd)(many words:Int):Bool:=decide (many<l.length) || (l.take many.toNat).any fun x=>decide (words<x.n.length)
theorem zjy(l:List Nd)(many words:Nat)(hl:l.length≤4294967296∨many≤4294967295)(hm:many≤4294967295):Zb T 10 [.sl (Zt l) .an,.i .i64 many,.i .i64 words]=some (.b (decide (many<l.length) || (l.take many).any fun x=>decide (words<x.n.length))):=by
 have hlo:Ze T 0 0 (.norm false [0,1]) l10_0 ⟨[(0,.sl (Zt l) .an),(1,.i .i64 many),(2,.i .i64 words),(7,.i .i64 ((0:Nat):Int))],[],2⟩ =
   if ((l.take many).drop 0).any (fun x=>decide (words<x.n.length))=true then some (.r,⟨[(6,.b true)],[],2⟩) else some (.n,⟨[(0,.sl (Zt l) .an),(1,.i .i64 many)],[],2⟩):=by
  refine za4 (fun i=>⟨[(0,.sl (Zt l) .an),(1,.i .i64 many),(2,.i .i64 words),(7,.i .i64 ((i:Nat):Int))],[],2⟩) (l.take many).length
   (fun i=>if ((l.take many).drop i).any (fun x=>decide (words<x.n.length))=true then some (.r,_) else some (.n,_)) (fun i hi=>?_) ?_
  ·have hi1:=hi;rw[Yx]at hi1;have h:i<l.length:=by omega
   have h':(i:Int)<l.length:=by omega
   have h2:i<many:=by omega
   have h2':(i:Int)<many:=by omega
   have hg:l[i]? = some (l[i]'h):=Ya h;have hd:(l.take many).drop i=(l.take many)[i]'hi::(l.take many).drop (i+1):=Yd hi;have hx2:(l.take many)[i]'hi=l[i]'h:=by simp
   rw[hx2]at hd;have hws:=za8 h2 (by omega);generalize hx:l[i]'h=x at *
   by_cases hc:words<x.n.length
   ·right;rw[if_pos (by rw[hd];simp[hc])];have hc':(words:Int)<x.n.length:=by omega
    clear hd;constructor<;>simp -implicitDefEqProofs[l10_0,h,h',h2,h2',hg,hx,hc,hc']
   ·left;have hc':¬ (words:Int)<x.n.length:=by omega
    refine⟨?_,by rw[hd];simp[hc]⟩;clear hd;simp -implicitDefEqProofs[l10_0,h,h',h2,h2',hg,hx,hc,hc',hws]
  ·rw[Y0,Yx];simp only[Yep,Y8,if_false];by_cases h:l.length≤many
   ·rw[Nat.min_eq_right h];constructor<;>simp -implicitDefEqProofs[l10_0]
   ·rw[Ya9 (by omega)];have h2:many<l.length:=by omega
    have h2':(many:Int)<l.length:=by omega
    constructor<;>simp -implicitDefEqProofs[l10_0,h2,h2']
 rw[Yae]at hlo;simp only[Yr]at hlo;rw[zab Zah.h10 rfl,b10];generalize (l.take many).any (fun x=>decide (words<x.n.length))=B at *
 cases B with
 | true=>
  rw[if_pos rfl]at hlo;simp -implicitDefEqProofs[hlo]
 | false=>
  rw[if_neg (by decide)]at hlo;by_cases h:many<l.length
  ·have h':(many:Int)<l.length:=by omega
   simp -implicitDefEqProofs[hlo,h,h']
  ·have h':¬ (many:Int)<l.length:=by omega
   simp -implicitDefEqProofs[hlo,h,h']
variable[Zx T][Zab T][Zw T][Z9 T]
theorem zsz(x:Nd)(dim pars lets:Int)(hn:x.n.length≤1000):Zb T 79 [.agg (Zcl x),.i .i64 dim,.i .i64 pars,.i .i64 lets]=some (.b (okN dim pars lets x)):=by
 have c1:=zbc (T:=T) x.n (by omega);have c2:=zgb (T:=T) (ofN (val x.n)) x.n (by have:=zad x.n;omega);have c3:=zsn (T:=T) x.n hn;have e:decide (ofN (val x.n)=x.n)=decide (x.n=ofN (val x.n)):=by
  rw[decide_eq_decide];exact eq_comm
 rw[e]at c2;obtain⟨op,i,n⟩:=x;dsimp only at *
 rw[zab Zah.h79 rfl,b79];unfold okN Zg1;dsimp only;generalize hB:decide (n=ofN (val n))=B at *
 clear e;generalize ofN (val n)=N at *
 generalize hL:Zbd (val n)=TX at *
 by_cases h1:op=1
 ·subst h1;by_cases hi:i=0
  ·subst hi;cases B with
   | false=>simp -implicitDefEqProofs[c1,c2]
   | true=>
    by_cases h2:TX.length≤60
    ·have h2':(TX.length:Int)≤60:=by omega
     simp -implicitDefEqProofs[c1,c2,c3,h2,h2']
    ·have h2':¬ (TX.length:Int)≤60:=by omega
     simp -implicitDefEqProofs[c1,c2,c3,h2,h2']
  ·simp -implicitDefEqProofs[hi]
 rw[if_neg h1];by_cases hne:n=[]
 ·subst hne;by_cases hr:op<1
  ·rw[if_pos (.inr (.inl hr))];simp -implicitDefEqProofs[h1,hr]
  by_cases hr2:11<op
  ·rw[if_pos (.inr (.inr hr2))];simp -implicitDefEqProofs[h1,hr,hr2]
  rw[if_neg (by rintro(h | h | h)<;>first | exact h rfl | exact hr h | exact hr2 h)];unfold Zg8;by_cases h3:op=3
  ·subst h3;by_cases ha:0≤i
   ·by_cases hb:i<dim<;>simp -implicitDefEqProofs[ha,hb]
   ·simp -implicitDefEqProofs[ha]
  by_cases h4:op=4
  ·subst h4;by_cases ha:0≤i
   ·by_cases hb:i<pars<;>simp -implicitDefEqProofs[ha,hb]
   ·simp -implicitDefEqProofs[ha]
  by_cases h5:op=5
  ·subst h5;by_cases ha:0≤i
   ·by_cases hb:i<lets<;>simp -implicitDefEqProofs[ha,hb]
   ·simp -implicitDefEqProofs[ha]
  by_cases h11:op=11
  ·subst h11;by_cases ha:-8≤i
   ·by_cases hb:i≤8<;>simp -implicitDefEqProofs[ha,hb]
   ·simp -implicitDefEqProofs[ha]
  by_cases hi:i=0<;>simp -implicitDefEqProofs[h1,hr,hr2,h3,h4,h5,h11,hi]
 ·have hp:0<n.length:=Ybi.2 hne;rw[if_pos (.inl hne)];simp -implicitDefEqProofs[h1,hp,hne]
def Zip(l:List Nd)(dim pars lets w:Int)(i:Nat):St:=⟨[(0,.sl (Zt l) .an),(1,.i .i64 dim),(2,.i .i64 pars),(3,.i .i64 lets),(9,.i .i64 w),(10,.i .i64 i)],[],2⟩
theorem zgt(l:List Nd)(dim pars lets w:Int)(hl:l.length≤4294967296)(hn:∀x∈l,x.n.length≤1000):Ze T 0 0 (.norm false [9]) l50_0 (Zip l dim pars lets w 0) =
  match Zdu dim pars lets w 0 l with
  | some k=>some (.r,⟨[(8,.i .i64 (k:Nat))],[],2⟩)
  | none=>some (.n,⟨[(9,.i .i64 w)],[],2⟩):=by
 have e0:l.drop 0=l:=rfl;rw[←e0];refine za4 (Zip l dim pars lets w) l.length (fun i=>match Zdu dim pars lets w i (l.drop i) with
  | some k=>some (.r,⟨[(8,.i .i64 (k:Nat))],[],2⟩)
  | none=>some (.n,⟨[(9,.i .i64 w)],[],2⟩)) (fun i hi=>?_) ?_
 ·have hg:l[i]? = some (l[i]'hi):=Ya hi;have hd:l.drop i=l[i]'hi::l.drop (i+1):=Yd hi;have cn:=zsz (T:=T) (l[i]'hi) dim pars lets (hn _ (Y2 hi));have hi':(i:Int)<l.length:=by omega
  have hws:=za8 hi (by omega);generalize hx:l[i]'hi=x at *
  rw[hd,Zdu];clear hd;by_cases h1:(i:Int)=w
  ·right;rw[if_pos (.inl h1)];subst h1;unfold Zip;constructor<;>simp -implicitDefEqProofs[l50_0,hi,hi',hg,hx]
  ·generalize okN dim pars lets x=B at *
   cases B with
   | false=>
    right;rw[if_pos (.inr rfl)];unfold Zip;constructor<;>simp -implicitDefEqProofs[l50_0,hi,hi',hg,hx,h1,cn]
   | true=>
    left;refine⟨?_,by rw[if_neg (by simp[h1])]⟩;unfold Zip;simp -implicitDefEqProofs[l50_0,hi,hi',hg,hx,h1,cn,hws]
 ·rw[Y0,Zdu];unfold Zip;constructor<;>simp -implicitDefEqProofs[l50_0]
theorem zo7(l:List Nd)(dim pars lets:Int)(hl:l.length≤4294967296)(hn:∀x∈l,x.n.length≤1000):Zb T 50 [.sl (Zt l) .an,.i .i64 dim,.i .i64 pars,.i .i64 lets]=some (.i .i64 (Za7 dim pars lets l)):=by
 have cw:=zic (T:=T) l hl;have hlo:=zgt (T:=T) l dim pars lets (Z2 l) hl hn;unfold Zip at hlo;simp only[Yr]at hlo;have hf:=ze8 dim pars lets (Z2 l) l 0;unfold Za7;rw[hf];rw[zab Zah.h50 rfl,b50];generalize Z2 l=w at *
 generalize Zdu dim pars lets w 0 l=F at *
 cases F with
 | none=>
  dsimp only at hlo ⊢;simp -implicitDefEqProofs[cw,hlo]
 | some k=>
  dsimp only at hlo ⊢;simp -implicitDefEqProofs[cw,hlo]
end
section
variable{T:Tbl}{k:Nat}
theorem z85{id:Nat}{g2:Gh}{c:AX}{S0:St}{G:Option (Ex×St)}(fin:Zbe (evX (orc T) T k c S0)=true∧Za8 k id g2 (evX (orc T) T k c S0)=G):Ze T k id g2 c S0=G:=
 zan (fun _=>S0) 0 G (fun j hj=>absurd hj (Yfb j)) fin
theorem z86{id:Nat}{g2:Gh}{c:AX}{S0 S1:St}{G:Option (Ex×St)}(h0:evX (orc T) T k c S0=some (.n,S1))(fin:Zbe (evX (orc T) T k c S1)=true∧Za8 k id g2 (evX (orc T) T k c S1)=G):Ze T k id g2 c S0=G:=
 zan (fun j=>if j=0 then S0 else S1) 1 G (fun j hj=>by
  obtain rfl:j=0:=by omega
  exact h0) fin
theorem z87{id:Nat}{g2:Gh}{c:AX}{S0 S1 S2:St}{G:Option (Ex×St)}(h0:evX (orc T) T k c S0=some (.n,S1))(h1:evX (orc T) T k c S1=some (.n,S2))(fin:Zbe (evX (orc T) T k c S2)=true∧Za8 k id g2 (evX (orc T) T k c S2)=G):Ze T k id g2 c S0=G:=
 zan (fun j=>if j=0 then S0 else if j=1 then S1 else S2) 2 G (fun j hj=>by
  rcases(show j=0∨j=1 by omega) with rfl | rfl
  ·exact h0
  ·exact h1) fin
end
section
variable{T:Tbl}[Zah T]
theorem zen:∀(t:Tre),t.ok→∀(p q code:List Nd),p++t.flat++q=code→code.length≤4294967290→Zb T 114 [.sl (Zt code) .an,.i .i64 ((p.length+t.flat.length-1:Nat):Int)]=some (.tup [.i .i64 t.deep,.i .i64 p.length])
 | .leaf x,ht,p,q,code,hc,hl=>by
  have e:arN x.op=0:=ht;have hx:code[p.length]? = some x:=by rw[←hc];simp[Tre.flat]
  obtain⟨hlt,hge⟩:=Ye.1 hx;have hlt':(p.length:Int)<code.length:=by omega
  have ca:=zdq (T:=T) x.op;rw[e]at ca;have e2:p.length+(Tre.leaf x).flat.length-1=p.length:=by simp[Tre.flat]
  rw[e2];have hlo:Ze T 0 0 (.norm false [6,7]) l114_0 ⟨[(0,.sl (Zt code) .an),(6,.i .i64 0),(7,.i .i64 p.length),(8,.i .i64 0)],[],2⟩=some (.n,⟨[(6,.i .i64 0),(7,.i .i64 p.length)],[],2⟩):=
   z85 (by constructor<;>simp -implicitDefEqProofs[l114_0])
  rw[zab Zah.h114 rfl,b114];obtain⟨op,xi,n⟩:=x;simp -implicitDefEqProofs[hlt,hlt',hx,hge,ca,hlo,Tre.deep]
 | .un x a,ht,p,q,code,hc,hl=>by
  have e:arN x.op=1:=ht.1;have hc2:p++a.flat++(x::q)=code:=by rw[←hc];simp[Tre.flat]
  have ih:=zen a ht.2 p (x::q) code hc2 hl;have ha:=a.flat_pos;have hx:code[p.length+a.flat.length]? = some x:=by rw[←hc2,←Yk];simp
  obtain⟨hlt,hge⟩:=Ye.1 hx;have hlt':(p.length:Int)+a.flat.length<code.length:=by omega
  have ca:=zdq (T:=T) x.op;rw[e]at ca;have e2:p.length+(Tre.un x a).flat.length-1=p.length+a.flat.length:=by simp[Tre.flat]
  rw[e2];have hw:IntKind.wrap .i64 ((p.length+a.flat.length:Nat)-1:Int)=((p.length+a.flat.length-1:Nat):Int):=by rw[zac _ (by omega)];omega
  have hd:(a.deep:Int)<4294967296:=by
   have:=a.deep_le;omega
  have hwd:IntKind.wrap .i64 ((a.deep:Int)+1)=(a.deep:Int)+1:=zac _ (by omega);have hw0:IntKind.wrap .i64 0=0:=by decide
  have hmx:(if (a.deep:Int) > 0 then (a.deep:Int) else 0)=a.deep:=by split<;>omega
  have hdp:(Tre.un x a).deep=a.deep+1:=rfl;have hcs:((p.length+a.flat.length:Nat):Int)=(p.length:Int)+a.flat.length:=by omega
  generalize hN:p.length+a.flat.length=N at *
  generalize hM:N-1=M at *
  have hlo:Ze T 0 0 (.norm false [6,7]) l114_0 ⟨[(0,.sl (Zt code) .an),(6,.i .i64 0),(7,.i .i64 (N:Int)),(8,.i .i64 1)],[],2⟩=some (.n,⟨[(6,.i .i64 a.deep),(7,.i .i64 p.length)],[],2⟩):=
   z86 (S1:=⟨[(0,.sl (Zt code) .an),(6,.i .i64 a.deep),(7,.i .i64 p.length),(8,.i .i64 0)],[],2⟩)
    (by simp -implicitDefEqProofs[l114_0,hw,hw0,ih];first | done | omega) (by constructor<;>simp -implicitDefEqProofs[l114_0])
  rw[zab Zah.h114 rfl,b114];obtain⟨op,xi,n⟩:=x;simp -implicitDefEqProofs[hlt,hlt',hx,hge,ca,hlo,hdp,hwd]
 | .bin x a b,ht,p,q,code,hc,hl=>by
  have e:arN x.op=2:=ht.1;have hcb:(p++a.flat)++b.flat++(x::q)=code:=by rw[←hc];simp[Tre.flat]
  have hca:p++a.flat++(b.flat++x::q)=code:=by rw[←hc];simp[Tre.flat]
  have ihb:=zen b ht.2.2 (p++a.flat) (x::q) code hcb hl;have iha:=zen a ht.2.1 p (b.flat++x::q) code hca hl;have ha:=a.flat_pos;have hb:=b.flat_pos;have hla:a.flat.length≤code.length:=by rw[←hca];simp only[Yk];omega
  have hlb:b.flat.length≤code.length:=by rw[←hcb];simp only[Yk];omega
  have hx:code[(p++a.flat++b.flat).length]? = some x:=by rw[←hcb];simp
  obtain⟨hlt,hge⟩:=Ye.1 hx;have ca:=zdq (T:=T) x.op;rw[e]at ca;rw[Yk]at ihb;have e2:p.length+(Tre.bin x a b).flat.length-1=p.length+a.flat.length+b.flat.length:=by simp only[Tre.flat,Yk,Yc,Yag];omega
  have e3:(p++a.flat++b.flat).length=p.length+a.flat.length+b.flat.length:=by rw[Yk,Yk]
  rw[e2];simp only[e3]at hx hlt hge;have hda:=a.deep_le;have hdb:=b.deep_le;have hdp:(Tre.bin x a b).deep=max a.deep b.deep+1:=rfl;have hwd:IntKind.wrap .i64 (((max a.deep b.deep:Nat):Int)+1)=((max a.deep b.deep:Nat):Int)+1:=zac _ (by omega);have hw0:IntKind.wrap .i64 0=0:=by decide
  generalize hK:p.length+a.flat.length=K at *
  generalize hN:K+b.flat.length=N at *
  have hw1:IntKind.wrap .i64 ((N:Int)-1)=((N-1:Nat):Int):=by rw[zac _ (by omega)];omega
  have hw2:IntKind.wrap .i64 ((K:Int)-1)=((K-1:Nat):Int):=by rw[zac _ (by omega)];omega
  have hlt':(N:Int)<code.length:=by omega
  generalize hM:N-1=M at *
  generalize hM2:K-1=M2 at *
  generalize hMX:max a.deep b.deep=MX at *
  have hlo:Ze T 0 0 (.norm false [6,7]) l114_0 ⟨[(0,.sl (Zt code) .an),(6,.i .i64 0),(7,.i .i64 (N:Int)),(8,.i .i64 2)],[],2⟩=some (.n,⟨[(6,.i .i64 MX),(7,.i .i64 p.length)],[],2⟩):=
   z87 (S1:=⟨[(0,.sl (Zt code) .an),(6,.i .i64 b.deep),(7,.i .i64 K),(8,.i .i64 1)],[],2⟩) (S2:=⟨[(0,.sl (Zt code) .an),(6,.i .i64 MX),(7,.i .i64 p.length),(8,.i .i64 0)],[],2⟩)
    (by simp -implicitDefEqProofs[l114_0,hw1,hw0,ihb];first | done | omega) (by simp -implicitDefEqProofs[l114_0,hw2,hw0,iha];first | done | (split<;>omega) | omega) (by constructor<;>simp -implicitDefEqProofs[l114_0])
  rw[zab Zah.h114 rfl,b114];obtain⟨op,xi,n⟩:=x;simp -implicitDefEqProofs[hlt,hlt',hx,hge,ca,hlo,hdp,hwd]
def Tre.parts:Tre→List (List Nd)
 | .leaf _=>[]
 | .un _ a=>[a.flat]
 | .bin _ a b=>[a.flat,b.flat]
end
def lgN(l:List Nd)(many words:Nat):Bool:=decide (many<l.length) || (l.take many).any fun x=>decide (words<x.n.length)
def lgL(nodes words:Nat)(x:Lt):Bool:=decide (100<x.name.length) || lgN x.code nodes words
def lgF(f:Fd)(many nodes words:Nat):Bool:=decide (many<f.lets.length) || decide (many<f.outs.length) || f.lets.any (lgL nodes words) || f.outs.any fun c=>lgN c nodes words
section
variable{T:Tbl}[Zah T][Zai T]
def Zj4(f:Fd)(nodes words i:Nat):St:=⟨[(2,.i .i64 nodes),(3,.i .i64 words),(4,.ptr (.loc 4) 1 2 0 0),(9,.i .i64 i)],[(.loc 4,⟨1,.str,2,[[.sl (Z7 f.lets) .an,.sl (Z4 f.outs) .an]]⟩)],3⟩
def Zj5(f:Fd)(nodes words i:Nat):St:=⟨[(2,.i .i64 nodes),(3,.i .i64 words),(4,.ptr (.loc 4) 1 2 0 0),(10,.i .i64 i)],[(.loc 4,⟨1,.str,2,[[.sl (Z7 f.lets) .an,.sl (Z4 f.outs) .an]]⟩)],3⟩
theorem zww(f:Fd)(nodes words:Nat)(hnd:nodes≤4294967295)(hl:f.lets.length≤100000) :
  Ze T 0 0 (.norm false [2,3,4]) l466_0 (Zj4 f nodes words 0)=if f.lets.any (lgL nodes words)=true then some (.r,⟨[(8,.b true)],[],2⟩) else some (.n,⟨[(2,.i .i64 nodes),(3,.i .i64 words),(4,.ptr (.loc 4) 1 2 0 0)],[(.loc 4,⟨1,.str,2,[[.sl (Z7 f.lets) .an,.sl (Z4 f.outs) .an]]⟩)],3⟩):=by
 have:=za4 (T:=T) (k:=0) (id:=0) (g2:=.norm false [2,3,4]) (c:=l466_0) (Zj4 f nodes words) f.lets.length
  (fun i=>if (f.lets.drop i).any (lgL nodes words)=true then some (.r,⟨[(8,.b true)],[],2⟩) else some (.n,⟨[(2,.i .i64 nodes),(3,.i .i64 words),(4,.ptr (.loc 4) 1 2 0 0)],[(.loc 4,⟨1,.str,2,[[.sl (Z7 f.lets) .an,.sl (Z4 f.outs) .an]]⟩)],3⟩)) (fun i hi=>?_) ?_
 ·simpa using this
 ·have hg:f.lets[i]? = some (f.lets[i]'hi):=Ya hi;have hd:f.lets.drop i=f.lets[i]'hi::f.lets.drop (i+1):=Yd hi;have hi':(i:Int)<f.lets.length:=by omega
  have hws:=za8 hi (by omega);have c:=zjy (T:=T) (f.lets[i]'hi).code nodes words (.inr hnd) hnd;rw[hd,Yec];unfold Zj4;obtain⟨L,O⟩:=f;dsimp only at *
  clear hd;generalize hx:L[i]'hi=x at *
  obtain⟨nm,code⟩:=x;dsimp only at *
  unfold lgL;dsimp only
  change Zb T 10 _=some (.b (lgN code nodes words)) at c
  generalize lgN code nodes words=B at *
  by_cases h1:100<nm.length
  ·right;have h1':(100:Int)<nm.length:=by omega
   rw[if_pos (by simp[h1])];constructor<;>simp -implicitDefEqProofs[l466_0,hi,hi',hg,hx,h1,h1']
  ·have h1':¬ (100:Int)<nm.length:=by omega
   cases B with
   | true=>
    right;rw[if_pos (by simp)];constructor<;>simp -implicitDefEqProofs[l466_0,hi,hi',hg,hx,h1,h1',c]
   | false=>
    left;refine⟨?_,by simp[h1]⟩;simp -implicitDefEqProofs[l466_0,hi,hi',hg,hx,h1,h1',c,hws]
 ·rw[Y0,Yep,if_neg (by decide)];unfold Zj4;constructor<;>simp -implicitDefEqProofs[l466_0]
theorem zwx(f:Fd)(nodes words:Nat)(hnd:nodes≤4294967295)(hl:f.outs.length≤100000) :
  Ze T 0 2 (.norm false []) l466_1 (Zj5 f nodes words 0)=if f.outs.any (fun c=>lgN c nodes words)=true then some (.r,⟨[(8,.b true)],[],2⟩) else some (.n,⟨[],[],2⟩):=by
 have:=za4 (T:=T) (k:=0) (id:=2) (g2:=.norm false []) (c:=l466_1) (Zj5 f nodes words) f.outs.length
  (fun i=>if (f.outs.drop i).any (fun c=>lgN c nodes words)=true then some (.r,⟨[(8,.b true)],[],2⟩) else some (.n,⟨[],[],2⟩)) (fun i hi=>?_) ?_
 ·simpa using this
 ·have hg:f.outs[i]? = some (f.outs[i]'hi):=Ya hi;have hd:f.outs.drop i=f.outs[i]'hi::f.outs.drop (i+1):=Yd hi;have hi':(i:Int)<f.outs.length:=by omega
  have hws:=za8 hi (by omega);have c:=zjy (T:=T) (f.outs[i]'hi) nodes words (.inr hnd) hnd;rw[hd,Yec];unfold Zj5;obtain⟨L,O⟩:=f;dsimp only at *
  clear hd;generalize hx:O[i]'hi=code at *
  change Zb T 10 _=some (.b (lgN code nodes words)) at c
  generalize lgN code nodes words=B at *
  cases B with
  | true=>
   right;rw[if_pos (by simp)];constructor<;>simp -implicitDefEqProofs[l466_1,hi,hi',hg,hx,c]
  | false=>
   left;refine⟨?_,by simp⟩;simp -implicitDefEqProofs[l466_1,hi,hi',hg,hx,c,hws]
 ·rw[Y0,Yep,if_neg (by decide)];unfold Zj5;constructor<;>simp -implicitDefEqProofs[l466_1]
theorem zo8(f:Fd)(many nodes words:Nat)(hm:many≤100000)(hnd:nodes≤4294967295):Zb T 466 [efd f,.i .i64 many,.i .i64 nodes,.i .i64 words]=some (.b (lgF f many nodes words)):=by
 unfold lgF;by_cases h1:many<f.lets.length
 ·obtain⟨L,O⟩:=f;dsimp only at *
  have h1':(many:Int)<L.length:=by omega
  rw[zab Zai.h466 rfl,b466];simp -implicitDefEqProofs[h1,h1']
 by_cases h2:many<f.outs.length
 ·obtain⟨L,O⟩:=f;dsimp only at *
  have h1':¬ (many:Int)<L.length:=by omega
  have h2':(many:Int)<O.length:=by omega
  rw[zab Zai.h466 rfl,b466];simp -implicitDefEqProofs[h1,h1',h2,h2']
 have a:=zww (T:=T) f nodes words hnd (by omega);have b:=zwx (T:=T) f nodes words hnd (by omega);unfold Zj4 at a;unfold Zj5 at b;obtain⟨L,O⟩:=f;dsimp only at *
 have h1':¬ (many:Int)<L.length:=by omega
 have h2':¬ (many:Int)<O.length:=by omega
 simp only[Yr]at a b;rw[zab Zai.h466 rfl,b466];generalize L.any (lgL nodes words)=A at *
 generalize (O.any fun c=>lgN c nodes words)=B at *
 cases A with
 | true=>
  rw[if_pos rfl]at a;simp -implicitDefEqProofs[h1,h1',h2,h2',a]
 | false=>
  rw[if_neg (by decide)]at a;cases B with
  | true=>
   rw[if_pos rfl]at b;simp -implicitDefEqProofs[h1,h1',h2,h2',a,b]
  | false=>
   rw[if_neg (by decide)]at b;simp -implicitDefEqProofs[h1,h1',h2,h2',a,b]
theorem ze3(f:Fd)(h1:f.lets.length≤100000)(h2:f.outs.length≤100000):Zb T 479 [efd f]=some (.sl (Z4 (codesD f)) .an):=by
 obtain⟨L,O⟩:=f;dsimp only at h1 h2;have hL:Ze T 0 0 (.norm false [1,3]) l479_0 ⟨[(1,.ptr (.loc 1) 1 2 0 0),(3,.bs (.loc 3) 2 1 0 0),(4,.i .i64 0)],[(.loc 1,⟨1,.str,2,[[.sl (Z7 L) .an,.sl (Z4 O) .an]]⟩),(.loc 3,⟨2,.own,1,[]⟩)],4⟩ =
   some (.n,⟨[(1,.ptr (.loc 1) 1 2 0 0),(3,.bs (.loc 3) 2 1 0 L.length)],[(.loc 1,⟨1,.str,2,[[.sl (Z7 L) .an,.sl (Z4 O) .an]]⟩),(.loc 3,⟨2,.own,1,Z4 (L.map (·.code))⟩)],4⟩):=by
  have:=zan (T:=T) (k:=0) (id:=0) (g2:=.norm false [1,3]) (c:=l479_0) (fun i=>⟨[(1,.ptr (.loc 1) 1 2 0 0),(3,.bs (.loc 3) 2 1 0 i),(4,.i .i64 (i:Int))],[(.loc 1,⟨1,.str,2,[[.sl (Z7 L) .an,.sl (Z4 O) .an]]⟩),(.loc 3,⟨2,.own,1,Z4 ((L.take i).map (·.code))⟩)],4⟩) L.length
   (some (.n,⟨[(1,.ptr (.loc 1) 1 2 0 0),(3,.bs (.loc 3) 2 1 0 L.length)],[(.loc 1,⟨1,.str,2,[[.sl (Z7 L) .an,.sl (Z4 O) .an]]⟩),(.loc 3,⟨2,.own,1,Z4 (L.map (·.code))⟩)],4⟩)) (fun i hi=>?_) ?_
  ·simpa using this
  ·have hg:L[i]? = some (L[i]'hi):=Ya hi;have hi':(i:Int)<L.length:=by omega
   have hws:=za8 hi (by omega);have hs:(L.take (i+1)).map (·.code)=(L.take i).map (·.code)++[(L[i]'hi).code]:=by rw[Ys hi,Ybb];rfl
   have hml:((L.take i).map (·.code)).length=i:=by rw[Yaz,Yx];omega
   have hp:=zig (n:=i) hml (L[i]'hi).code;have hle:i≤((L.take i).map (·.code)).length:=by omega
   have h32:i+1≤4294967296:=by omega
   rw[hs];generalize hx:L[i]'hi=x at *
   generalize (L.take i).map (·.code)=m at *
   obtain⟨nm,code⟩:=x;dsimp only at *
   clear hs;simp -implicitDefEqProofs[l479_0,hi,hi',hg,hx,hws,hp,hle,h32]
  ·constructor<;>simp -implicitDefEqProofs[l479_0]
 unfold codesD;dsimp only;have hM:(L.map (·.code)).length=L.length:=Yaz _;generalize L.map (·.code)=M at *
 have ht:List.take L.length M=M:=by rw[←hM,Ya7]
 have hcat:wkL (Z4 M++Z4 O)=Z4 (M++O):=by
  have:Z4 M++Z4 O=Z4 (M++O):=by simp[Z4]
  rw[this,zph]
 have hh:Option.all (fun r:List AV=>decide (r.length=1)) (Z4 O).head? = true:=by cases O<;>rfl
 have h32:L.length+O.length≤4294967296:=by omega
 rw[zab Zai.h479 rfl,b479];simp -implicitDefEqProofs[hL,hM,ht,hcat,hh,h32];rw[Yb (by rw[Yk];omega)]
theorem zs0(f:Fd)(h1:f.lets.length≤100000)(h2:f.outs.length≤100000)(hs:Zau f≤4294967295):Zb T 478 [efd f]=some (.i .i64 (Zau f)):=by
 have c:=ze3 (T:=T) f h1 h2;have hlen:(codesD f).length≤200000:=by unfold codesD;rw[Yk,Yaz];omega
 unfold Zau at *
 obtain⟨L,O⟩:=f;generalize codesD ⟨L,O⟩=M at *
 have hlo:Ze T 0 0 (.norm false [3]) l478_0 ⟨[(3,.i .i64 0),(4,.sl (Z4 M) .an),(5,.i .i64 0)],[],2⟩ =
   some (.n,⟨[(3,.i .i64 ((M.map List.length).sum:Nat))],[],2⟩):=by
  have:=zan (T:=T) (k:=0) (id:=0) (g2:=.norm false [3]) (c:=l478_0) (fun i=>⟨[(3,.i .i64 (((M.take i).map List.length).sum:Nat)),(4,.sl (Z4 M) .an),(5,.i .i64 (i:Int))],[],2⟩) M.length
   (some (.n,⟨[(3,.i .i64 ((M.map List.length).sum:Nat))],[],2⟩)) (fun i hi=>?_) ?_
  ·simpa using this
  ·have hg:M[i]? = some (M[i]'hi):=Ya hi;have hi':(i:Int)<M.length:=by omega
   have hws:=za8 hi (by omega);have hs1:((M.take (i+1)).map List.length).sum=((M.take i).map List.length).sum+(M[i]'hi).length:=by rw[Ys hi,Ybb,Ycb];simp
   have hle:=zj5 (l:=M) (i+1);have hw:IntKind.wrap .i64 ((((M.take i).map List.length).sum:Nat)+(M[i]'hi).length)=((((M.take i).map List.length).sum+(M[i]'hi).length:Nat):Int):=by rw[zac _ (by omega)];omega
   rw[hs1];generalize hx:M[i]'hi=x at *
   generalize ((M.take i).map List.length).sum=k at *
   clear hs1 c hs hle;simp -implicitDefEqProofs[l478_0,hi,hi',hg,hx,hws,hw]
  ·rw[Ya7];constructor<;>simp -implicitDefEqProofs[l478_0]
 generalize (M.map List.length).sum=S at *
 rw[zab Zai.h478 rfl,b478];simp -implicitDefEqProofs[c,hlo]
theorem zid(l:List Nd)(hl:l.length≤50000):Zb T 481 [.sl (Zt l) .an]=some (.i .i64 (Zd3 l)):=by
 have cw:=zic (T:=T) l (by omega);by_cases hw:Z2 l=-1
 ·obtain⟨t,ht,rfl⟩:=zit hw;have c:=zen (T:=T) t ht [] [] t.flat (by simp) (by omega);rw[zw8 ht];rw[hw]at cw;have hpos:=t.flat_pos;have e:(([]:List Nd).length+t.flat.length-1:Nat)=t.flat.length-1:=by simp
  rw[e]at c;generalize t.deep=d at *
  generalize t.flat=l at *
  obtain⟨n,hn⟩:∃n,l.length=n+1:=⟨l.length-1,by omega⟩;have hww:IntKind.wrap .i64 (n:Int)=(n:Nat):=zac _ (by omega);rw[hn]at c;rw[Nat.add_sub_cancel]at c;rw[zab Zai.h481 rfl,b481];simp -implicitDefEqProofs[cw,c,hn,hww]
 ·have e:Zd3 l=0:=by unfold Zd3;rw[if_neg hw]
  have h0:0≤Z2 l:=by
   rcases zda l 0 0 with h | h
   ·exact absurd h hw
   ·unfold Z2;omega
  rw[e,zab Zai.h481 rfl,b481];simp -implicitDefEqProofs[cw,h0]
end
def Grt(A B:Nat×Nat):Prop:=A.1=6∧(B.1=6→A.2≤B.2)
class Zl9 (T:Tbl):Prop where
class Zll (T:Tbl):Prop where
class Zme (T:Tbl):Prop where
def prim344:List AV→Option AV
 | [.s s,.s [47,46]]=>if s.length≤1000000 then some (.i .i64 (Lib.indexAny s [47,46])) else none
 | _=>none
def prim194:List AV→Option AV
 | [.s s,.s [c]]=>some (.i .i64 (Lib.indexByte s c))
 | _=>none
def prim361:List AV→Option AV
 | [.s s,.s [c]]=>some (.i .i64 (Lib.countByte s c))
 | _=>none
def prim343:List AV→Option AV
 | [.s [48],.i .i64 n]=>if 0≤n∧n≤64 then some (.s (List.replicate n.toNat 48)) else none
 | _=>none
class Zlp (T:Tbl):Prop where
class Zjv (T:Tbl):Prop where
def Zis(c:UInt8):List UInt8→List (List UInt8)
 | []=>[[]]
 | b::l=>if b=c then []::Zis c l else match Zis c l with
  | []=>[[b]]
  | p::r=>(b::p)::r
section
variable{T:Tbl}[Zlp T][Zjv T]
def Zow(c:UInt8)(N:Nat)(ps:List (List UInt8))(s:List UInt8):St:=
 ⟨[(0,.s s),(1,.s [c]),(2,.i .i64 0),(3,.i .i64 ((N:Int)-1)),(9,.bs (.loc 31) 1 1 0 N),(10,.i .i64 ps.length)],[(.loc 31,⟨1,.own,1,Zih ps++List.replicate (N-ps.length) [.s []]⟩)],3⟩
end
abbrev flt(k a:Int):AV:=.agg [.i .i64 k,.i .i64 0,.i .i64 0,.i .i64 a]
def Zlq(c:UInt8):Bool:=c == 47 || c == 46
def Zjy:List UInt8→Nat
 | []=>0
 | c::r=>if Zlq c then 0 else Zjy r+1
def Zmj(z:Int)(neg:Bool)(s:List UInt8)(c:UInt8)(at_:Nat):Rat×Int×Int:=
 let rest:=s.drop at_
 if 0≤Ziw rest then (0,1,Ziw rest+at_)
 else if c=47 then (if rd rest=0 then (0,2,at_) else (mkRat z (rd rest),0,0))
 else (mkRat (sg neg (z.natAbs*10^rest.length+rd rest)) (10^rest.length),0,0)
def Zkl(s:List UInt8):Rat×Int×Int:=
 let first:=s.take (Zjy s)
 if 0≤Zke first then (0,1,Zke first+minus first)
 else if Zjy s<s.length then Zmj (Zk5 first) (s.head? = some 45) s (s.getD (Zjy s) 0) (Zjy s+1)
 else (mkRat (Zk5 first) 1,0,0)
def Zk2:List (List UInt8)→Nat→List Rat→List Rat×Int×Int
 | [],_,acc=>(acc,0,0)
 | w::ws,k,acc=>if (Zkl w).2.1=0 then Zk2 ws (k+w.length+1) (acc++[(Zkl w).1]) else ([],(Zkl w).2.1,(Zkl w).2.2+k)
def Zn7(s:List UInt8):List Rat×Int×Int:=if s=[] then ([],0,0) else Zk2 (Zis 44 s) 0 []
section
variable{T:Tbl}[Zad T][Zp T][Z0 T][Z3 T][Zq T][Zu T][Zcg T][Zay T][Zl T][Zo T][Zr T][Zbj T][Zlp T][Zjv T][Zcz T][Zme T][Zcc T][Zdq T][Zll T]
def Zn8(ws:List (List UInt8))(y:Nat×Nat×List Rat):St:=
 ⟨[(3,.ptr (.loc 3) 1 4 0 0),(4,.bs (.loc 4) 2 3 0 y.2.2.length),(5,.i .i64 y.2.1),(14,.sl (Zih ws) .an),(15,.i .i64 ws.length),(16,.i .i64 y.1)],
  [(.loc 3,⟨1,.str,4,[[.i .i64 0,.i .i64 0,.i .i64 0,.i .i64 0]]⟩),(.loc 4,⟨2,.own,3,Zd (fzs y.2.2)⟩)],4⟩
def Znb(r:List Rat×Int×Int):Option (Ex×St):=
 if r.2.1=0 then some (.n,⟨[(3,.ptr (.loc 3) 1 4 0 0),(4,.bs (.loc 4) 2 3 0 r.1.length)],[(.loc 3,⟨1,.str,4,[[.i .i64 0,.i .i64 0,.i .i64 0,.i .i64 0]]⟩),(.loc 4,⟨2,.own,3,Zd (fzs r.1)⟩)],4⟩)
 else some (.r,⟨[(2,.sl [] .an),(3,.ptr (.loc 3) 1 4 0 0)],[(.loc 3,⟨1,.str,4,[[.i .i64 r.2.1,.i .i64 0,.i .i64 0,.i .i64 r.2.2]]⟩)],3⟩)
end
end Go.Ab
section
namespace Go.Ab
end Go.Ab
end
namespace Go.Ab
def Znk(t:Tp)(many words:Nat):Bool:=((t.code.take many).any fun i=>decide (words<fsz i.n)) || decide (many<t.code.length) || decide (many<t.outs.length)
def Zh7(x:PoF)(many words:Nat):Bool:=decide (words<fsz x.t) || Zeq x.y many words || Zeq x.p many words
theorem zo0{x:PoF}{many words:Nat}(h:Zh7 x many words=false)(hm:many≤1000):PoS x words:=by
 unfold Zh7 at h;simp only[Ybs,decide_eq_false_iff_not]at h;obtain⟨⟨h1,h2⟩,h3⟩:=h;obtain⟨a1,a2⟩:=zia h2;obtain⟨b1,b2⟩:=zia h3;exact⟨by omega,a2,b2,by omega,by omega⟩
section
variable{T:Tbl}[Zx T][Zab T][Zw T][Z9 T][Z5 T][Za1 T][Zv T][Zas T][Zcy T][Zch T][Zd2 T]
def Zn9(t:Tp)(many words i:Nat):St:=⟨[(1,.i .i64 many),(2,.i .i64 words),(3,.ptr (.loc 3) 1 4 0 0),(7,.i .i64 i)],[(.loc 3,bxT t)],3⟩
def Zoa(t:Tp)(many:Nat):Ex×St:=(.n,⟨[(1,.i .i64 many),(3,.ptr (.loc 3) 1 4 0 0)],[(.loc 3,bxT t)],3⟩)
theorem zr9(x:PoF)(many words:Nat)(hm:many≤1000):Zb T 380 [ept x,.i .i64 many,.i .i64 words]=some (.b (Zh7 x many words)):=by
 have c1:=zgc (T:=T) x.t words;have c2:=zh9 (T:=T) x.y many words hm;have c3:=zh9 (T:=T) x.p many words hm;unfold Zh7;generalize decide (words<fsz x.t)=B1 at *
 generalize Zeq x.y many words=B2 at *
 generalize Zeq x.p many words=B3 at *
 obtain⟨⟨n,a,d⟩,y,p⟩:=x;dsimp only at *
 rw[zab Zd2.h380 rfl,b380];cases B1<;>cases B2<;>simp -implicitDefEqProofs[c1,c2,c3]
theorem zy7(x:PoF)(hy:x.y.length≤1000)(hp:x.p.length≤1000):Zb T 383 [ept x]=some (ept x):=by
 have c1:=zqi (T:=T) x.t;have c2:=zqj (T:=T) x.y (by omega);have c3:=zqj (T:=T) x.p (by omega);obtain⟨⟨n,a,d⟩,y,p⟩:=x;dsimp only at *
 rw[zab Zd2.h383 rfl,b383];simp -implicitDefEqProofs[c1,c2,c3]
@[simp] theorem zahi(l:List Int):Option.all (fun r=>decide (r.length=1)) (ints l).head? = true:=by cases l<;>rfl
def fC:BId:=.fld (.loc 3) 0
def Zob(t:Tp)(i:Nat):St:=⟨[(1,.ptr (.loc 1) 1 4 0 0),(2,.ptr (.loc 2) 2 4 0 0),(3,.ptr (.loc 3) 3 4 0 0),(4,.i .i64 i)],
 [(.loc 1,bxT t),(.loc 2,⟨2,.str,4,[[.sl [] .an,.sl [] .an,.i .i64 0,.i .i64 0]]⟩),(.loc 3,⟨3,.str,4,[[.bs fC 4 6 0 i,.bs (.loc 13) 5 1 0 t.outs.length,.i .i64 t.dim,.i .i64 t.par]]⟩),(fC,⟨4,.own,6,Zjc (t.code.take i)⟩),(.loc 13,⟨5,.own,1,ints t.outs⟩)],7⟩
end
theorem zmt{l:List Nd}{many words:Nat}(h:lgN l many words=false):l.length≤many∧thin words l:=by
 unfold lgN at h;have h1:l.length≤many:=by
  simp only[Ybs,decide_eq_false_iff_not]at h;omega
 refine⟨h1,fun x hx=>?_⟩;rw[Yb h1]at h;simp only[Ybs,Yew,decide_eq_true_eq]at h;have:=h.2 x hx;omega
theorem zvx{f:Fd}{many nodes words:Nat}(h:lgF f many nodes words=false):f.lets.length≤many∧f.outs.length≤many∧(∀x∈f.lets,x.name.length≤100)∧∀c∈codesD f,c.length≤nodes∧thin words c:=by
 unfold lgF at h;simp only[Ybs,decide_eq_false_iff_not,Yew]at h;obtain⟨⟨⟨h1,h2⟩,h3⟩,h4⟩:=h;refine⟨by omega,by omega,fun x hx=>?_,fun c hc=>?_⟩
 ·have:=h3 x hx;unfold lgL at this;simp only[Ya0,decide_eq_true_eq,not_or]at this;omega
 ·rcases Y5.1 hc with hc | hc
  ·obtain⟨x,hx,rfl⟩:=Yam.1 hc;have:=h3 x hx;unfold lgL at this;simp only[Ya0,not_or,Ydg]at this;exact zmt this.2
  ·have:=h4 c hc;simp only[Ydg]at this;exact zmt this
theorem zr8{l:List (List Nd)}{B:Nat}(h:∀c∈l,c.length≤B):(l.map List.length).sum≤l.length*B:=by
 induction l with
 | nil=>simp
 | cons c r ih=>
  have h1:=h c (by simp);have h2:=ih fun d hd=>h d (by simp[hd]);rw[Y3,Yfn,Yc,Nat.succ_mul];omega
section
variable{T:Tbl}[Zad T][Zp T][Z0 T][Z3 T][Zq T][Zu T][Zl T][Zo T][Zr T][Zbj T][Zam T][Za6 T][Zcz T][Zcd T][Zar T][Zbv T][Zy T][Zaq T][Zay T][Zb7 T][Zbo T][Zcc T][Zcu T][Zbi T][Zdq T][Zb9 T]
 [Zah T] [Zai T] [Zx T] [Zab T] [Zw T] [Z9 T] [Z5 T] [Za1 T] [Zv T] [Zas T] [Zcy T] [Zch T] [Zd2 T] [Zd1 T]
theorem zi1(f:Fd)(x:PoF)(bits:Int)(hx:PoS x 1000)(h1:f.lets.length≤100000)(h2:f.outs.length≤100000)(hn:Zb4 1000 50000 f)(hz:Zau f≤4294967295)(hs:∀x∈f.lets,x.name.length≤100000) :
  (∃q:Int×Int×Int,Zet f x.y.length x.p.length=some q∧Zb T 467 [efd f,ept x,.i .i64 bits]=some (.tup [.sl [] .an,Zf6 2 q.1 q.2.1 q.2.2])) ∨
  (Zet f x.y.length x.p.length=none∧Zb T 467 [efd f,ept x,.i .i64 bits]=some (.tup [.sl (Zd (fzs (evD (Za4 bits).toNat x.v f).1)) .an,Zf6 (evD (Za4 bits).toNat x.v f).2.1 0 0 (evD (Za4 bits).toNat x.v f).2.2])):=by
 cases hq:Zet f x.y.length x.p.length with
 | some q=>exact .inl ⟨q,rfl,zi0 (T:=T) f x bits h1 h2 hn hz hs q hq⟩
 | none=>exact .inr ⟨rfl,zdo (T:=T) f x bits hx h1 h2 hn hz hs hq⟩
theorem z8z(lim:Nat)(hlim:lim≤4096)(P:Po)(f:Fd)(hF:FineD f P.y.length P.p.length):(∀u∈(evD lim P f).1,sz u≤1000)∧(evD lim P f).1.length≤f.outs.length:=by
 have key:∀(ls:List Rat) (O:List (List Nd)) (n:Nat) (os:List Rat),(∀c∈O,Za7 P.y.length P.p.length f.lets.length c<0)→(∀u∈os,sz u≤1000)→(∀u∈(Zc0 lim P ls n os O).1,sz u≤1000)∧(Zc0 lim P ls n os O).1.length≤os.length+O.length:=by
  intro ls O
  induction O with
  | nil=>intro n os _ h;exact⟨h,Yg _⟩
  | cons c r ih=>
   intro n os hc h;rw[Zc0];split
   ·exact⟨by simp,Yq _⟩
   ·next h0=>
    have hv:=zor (n:=n) (P:=P) (ls:=ls) hlim (hc c (by simp)) (by simpa using h0);have:=ih (n+c.length) (os++[(Zf lim P ls n [] c).1]) (fun d hd=>hc d (by simp[hd])) (fun u hu=>by
     rcases Y5.1 hu with hu | hu
     ·exact h u hu
     ·rw[Yaq.1 hu];exact hv)
    refine⟨this.1,?_⟩;have h2:=this.2;simp only[Yk,Yc,Yag]at h2 ⊢;omega
 unfold evD;split
 ·exact⟨by simp,Yq _⟩
 ·have:=key (Zck lim P 0 [] (f.lets.map (·.code))).2.1 f.outs (Zck lim P 0 [] (f.lets.map (·.code))).1 [] hF.outs (by simp);exact⟨this.1,by have:=this.2;simpa using this⟩
end
section
variable{T:Tbl}[Zx T][Zab T][Zw T][Z9 T][Z5 T][Za1 T][Zv T][Zas T][Zd6 T][Zc9 T]
theorem zh1(q:Rat):Zb T 235 [efz (fz q)]=some (.b (decide (q=0))):=by
 have h:((fz q).2.1.length=0)↔q=0:=by
  constructor
  ·intro h;have h1:(ofN q.num.natAbs).length=0:=h;rw[Ybq]at h1;have h2:val (ofN q.num.natAbs)=0:=by rw[h1];rfl
   rw[zae]at h2;exact zg2.1 (zqz.2 (by omega))
  ·intro h;rw[h,zpg]
   rfl
 rw[zab Zv.h235 rfl,b235];by_cases hz:q=0
 ·have h1:=h.2 hz;rw[decide_eq_true hz];clear h;generalize fz q=R at *
  obtain⟨r0,r1,r2⟩:=R;dsimp only at h1;have h2:r1=[]:=Ybq.1 h1;subst h2;simp -implicitDefEqProofs
 ·have h1:¬ (fz q).2.1.length=0:=fun hh=>hz (h.1 hh);rw[decide_eq_false hz];clear h;generalize fz q=R at *
  obtain⟨r0,r1,r2⟩:=R;dsimp only at h1;have h2:¬ (r1.length:Int)=0:=by omega
  have h4:r1≠[]:=fun hh=>h1 (by rw[hh];rfl);simp -implicitDefEqProofs[h1,h2,h4]
def hpP(q r:Fz):Heap:=[(.loc 2,⟨1,.str,3,[Zce q]⟩),(.loc 4,⟨2,.str,3,[[.b false,.sl [] .an,.sl [] .an]]⟩),(.loc 6,⟨3,.str,3,[Zce r]⟩)]
def Zj1(q r:Fz)(e:Int)(i:Nat):St:=⟨[(1,.i .i64 e),(2,.ptr (.loc 2) 1 3 0 0),(4,.ptr (.loc 4) 2 3 0 0),(6,.ptr (.loc 6) 3 3 0 0),(7,.i .i64 i)],hpP q r,5⟩
def Zib(q r:Fz)(e:Int)(i:Nat):St:=⟨[(1,.i .i64 e),(2,.ptr (.loc 2) 1 3 0 0),(4,.ptr (.loc 4) 2 3 0 0),(6,.ptr (.loc 6) 3 3 0 0),(8,.i .i64 (-(i:Int)))],hpP q r,5⟩
theorem z80(q:Rat)(hq:sz q≤129)(e:Int)(k:Nat)(hk:k≤8)(he:k=e.toNat) :
  Ze T 0 0 (.norm false [1,2,4,6]) l244_0 (Zj1 (fz q) (fz 1) e 0)=some (.n,⟨[(1,.i .i64 e),(2,.ptr (.loc 2) 1 3 0 0),(4,.ptr (.loc 4) 2 3 0 0),(6,.ptr (.loc 6) 3 3 0 0)],hpP (fz q) (fz (q^k)),5⟩):=by
 have e0:(1:Rat)=q^(0:Nat):=(Rat.pow_zero q).symm;rw[e0];refine zan (fun i=>Zj1 (fz q) (fz (q^i)) e i) k _ (fun i hi=>?_) ?_
 ·have hs:=zqs q i;have hm:i*sz q≤7*129:=Ych (by omega) hq;have c:=zjx (T:=T) (q^i) q (by omega) (by omega);rw[←Rat.pow_succ]at c;have h1:(i:Int)<e:=by omega
  have hw:=za8 hi (by omega);unfold Zj1 hpP;generalize fz (q^i)=A at *
  generalize fz (q^(i+1))=B at *
  generalize fz q=Q at *
  obtain⟨a0,a1,a2⟩:=A;obtain⟨b0,b1,b2⟩:=B;obtain⟨q0,q1,q2⟩:=Q;simp -implicitDefEqProofs[l244_0,h1,hw,c]
 ·have h1:¬ (k:Int)<e:=by omega
  unfold Zj1 hpP;generalize fz (q^k)=A at *
  generalize fz q=Q at *
  obtain⟨a0,a1,a2⟩:=A;obtain⟨q0,q1,q2⟩:=Q;constructor<;>simp -implicitDefEqProofs[l244_0,h1]
theorem z81(q:Rat)(hq:sz q≤129)(e:Int)(k:Nat)(hk:k≤8)(he:k=(-e).toNat)(A0:Rat)(hA:A0=1∨k=0) :
  Ze T 0 2 (.norm false [4,6]) l244_1 (Zib (fz q) (fz A0) e 0)=some (.n,⟨[(4,.ptr (.loc 4) 1 3 0 0),(6,.ptr (.loc 6) 2 3 0 0)],[(.loc 4,⟨1,.str,3,[[.b false,.sl [] .an,.sl [] .an]]⟩),(.loc 6,⟨2,.str,3,[Zce (fz (if k=0 then A0 else (q^k)⁻¹))]⟩)],4⟩):=by
 have fin:∀B:Fz,Zbe (evX (orc T) T 0 l244_1 (Zib (fz q) B e k))=true∧Za8 0 2 (.norm false [4,6]) (evX (orc T) T 0 l244_1 (Zib (fz q) B e k))=some (.n,⟨[(4,.ptr (.loc 4) 1 3 0 0),(6,.ptr (.loc 6) 2 3 0 0)],[(.loc 4,⟨1,.str,3,[[.b false,.sl [] .an,.sl [] .an]]⟩),(.loc 6,⟨2,.str,3,[Zce B]⟩)],4⟩):=by
  intro B;have h1:¬ e < -(k:Int):=by omega
  unfold Zib hpP;generalize fz q=Q at *
  obtain⟨a0,a1,a2⟩:=B;obtain⟨q0,q1,q2⟩:=Q;constructor<;>simp -implicitDefEqProofs[l244_1,h1]
 by_cases hk0:k=0
 ·rw[if_pos hk0];subst hk0;exact zan (fun i=>Zib (fz q) (fz A0) e i) 0 _ (fun i hi=>absurd hi (Yfb i)) (fin _)
 ·rw[if_neg hk0];have hA1:A0=(q^(0:Nat))⁻¹:=by
   rcases hA with h | h
   ·rw[h,Rat.pow_zero];decide +kernel
   ·exact absurd h hk0
  rw[hA1];refine zan (fun i=>Zib (fz q) (fz (q^i)⁻¹) e i) k _ (fun i hi=>?_) (fin _);have hs:=Yf (zxv (q^i)) (zqs q i);have hm:i*sz q≤7*129:=Ych (by omega) hq;have c:=zna (T:=T) (fz (q^i)⁻¹) (fz q) (by rw[zcg];omega) (by rw[zcg];omega);rw[zeq,zeq]at c;have er:(q^i)⁻¹/q=(q^(i+1))⁻¹:=by rw[Yeg,Rat.pow_succ,Rat.inv_mul_rev,Rat.mul_comm]
  rw[er]at c;have h1:e < -(i:Int):=by omega
  have hw:IntKind.wrap .i64 (-(i:Int)-1)=-((i+1:Nat):Int):=by rw[zac _ (by omega)];omega
  unfold Zib hpP;generalize fz (q^i)⁻¹=A at *
  generalize fz (q^(i+1))⁻¹=B at *
  generalize fz q=Q at *
  obtain⟨a0,a1,a2⟩:=A;obtain⟨b0,b1,b2⟩:=B;obtain⟨q0,q1,q2⟩:=Q;simp -implicitDefEqProofs[l244_1,h1,hw,c]
theorem zv9(q:Rat)(hq:sz q≤129)(e:Int):Zb T 244 [efz (fz q),.i .i64 e]=some (.tup [efz (fz (Zfe q e).1),.b (Zfe q e).2]):=by
 have c0:=zbq (T:=T);have c1:=zsp (T:=T);have cz:=zh1 (T:=T) q;unfold Zfe;rw[zab Zc9.h244 rfl,b244];by_cases h1:e < -8
 ·rw[if_neg (by omega)];generalize fz 0=Z at *
  generalize fz q=Q at *
  obtain⟨q0,q1,q2⟩:=Q;obtain⟨z0,z1,z2⟩:=Z;simp -implicitDefEqProofs[c0,h1]
 by_cases h2:8<e
 ·rw[if_neg (by omega)];generalize fz 0=Z at *
  generalize fz q=Q at *
  obtain⟨q0,q1,q2⟩:=Q;obtain⟨z0,z1,z2⟩:=Z;simp -implicitDefEqProofs[c0,h1,h2]
 by_cases h3:e<0∧q=0
 ·rw[if_neg (fun hh=>hh.2.2 h3)];rw[decide_eq_true h3.2]at cz;have h4:=h3.1;generalize fz 0=Z at *
  generalize fz q=Q at *
  obtain⟨q0,q1,q2⟩:=Q;obtain⟨z0,z1,z2⟩:=Z;simp -implicitDefEqProofs[c0,h1,h2,h4,cz]
 ·rw[if_pos ⟨by omega,by omega,h3⟩];have a:=z80 (T:=T) q hq e e.toNat (by omega) rfl;have b:=z81 (T:=T) q hq e (-e).toNat (by omega) rfl (q^e.toNat) (by
   by_cases hh:(-e).toNat=0
   ·exact .inr hh
   ·left;rw[show e.toNat=0 by omega,Rat.pow_zero])
  have ep:(if (-e).toNat=0 then q^e.toNat else (q^(-e).toNat)⁻¹)=Zg0 q e:=by
   unfold Zg0;by_cases hh:(-e).toNat=0
   ·rw[if_pos hh];obtain⟨n,rfl⟩:∃n:Nat,e=n:=⟨e.toNat,by omega⟩;rw[Ybx,Ycu]
   ·rw[if_neg hh];obtain⟨n,rfl⟩:∃n:Nat,e=-n:=⟨(-e).toNat,by omega⟩;rw[show (-(-(n:Int))).toNat=n by omega,Rat.zpow_neg,Ycu]
  rw[ep]at b;unfold Zj1 hpP at a;unfold Zib hpP at b;simp only[Yr,Int.neg_zero]at a b;generalize fz (Zg0 q e)=R at *
  generalize fz (q^e.toNat)=M at *
  generalize fz 1=W at *
  have h4:e<0→decide (q=0)=false:=fun h=>decide_eq_false fun hh=>h3 ⟨h,hh⟩;generalize decide (q=0)=D at *
  generalize fz q=Q at *
  obtain⟨q0,q1,q2⟩:=Q;obtain⟨w0,w1,w2⟩:=W;obtain⟨m0,m1,m2⟩:=M;obtain⟨r0,r1,r2⟩:=R;clear ep c0;by_cases h5:e<0
  ·rw[h4 h5]at cz;simp -implicitDefEqProofs[c1,h1,h2,h5,cz,a,b]
  ·simp -implicitDefEqProofs[c1,h1,h2,h5,a,b]
end
def doV(op i:Int)(a b:Rat):Rat×Bool:=if op=6 then (-a,true) else if op=11 then Zfe a i else biV op a b
section
variable{T:Tbl}[Zx T][Zab T][Zw T][Z9 T][Z5 T][Za1 T][Zv T][Zas T][Zd6 T][Zc9 T][Zap T]
theorem zs3(x:PoF)(hx:PoS x 1000):Zb T 402 [ept x]=some (ept x.v.f):=by
 have c1:=zbp (T:=T) x.t (Yf hx.t (by decide));have c2:=zh8 (T:=T) x.y hx.yl hx.y;have c3:=zh8 (T:=T) x.p hx.pl hx.p;rw[zpe]at c2 c3;have e:x.v.f=⟨fz (fv x.t),fzs (x.y.map fv),fzs (x.p.map fv)⟩:=rfl;rw[e];generalize fz (fv x.t)=A at *
 generalize fzs (x.y.map fv)=B at *
 generalize fzs (x.p.map fv)=C at *
 clear e hx;obtain⟨⟨t0,t1,t2⟩,y,p⟩:=x;obtain⟨a0,a1,a2⟩:=A;dsimp only at *
 rw[zab Zap.h402 rfl,b402];simp -implicitDefEqProofs[c1,c2,c3]
theorem zpc(b:Int):Zb T 465 [.i .i64 b]=some (.i .i64 (Za4 b)):=by
 rw[zab Zap.h465 rfl,b465];unfold Za4;by_cases h1:b<0
 ·simp -implicitDefEqProofs[h1]
 ·by_cases h2:4096<b
  ·simp -implicitDefEqProofs[h1,h2]
  ·simp -implicitDefEqProofs[h1,h2]
theorem zs4(x:Fz)(lim:Int)(hx:fsz x≤10000):Zb T 476 [efz x,.i .i64 lim]=some (.b (decide ((Zcv x:Int)≤lim))):=by
 have c:=zs6 (T:=T) x hx;obtain⟨x0,x1,x2⟩:=x;rw[zab Zap.h476 rfl,b476];generalize Zcv (x0,x1,x2)=S at *
 by_cases h:(S:Int)≤lim
 ·simp -implicitDefEqProofs[c,h]
 ·simp -implicitDefEqProofs[c,h]
theorem zqq(op i:Int)(a b:Rat)(hop:6≤op∧op≤11)(ha:sz a≤129)(hb:sz b≤129) :
  Zb T 475 [.i .i64 op,.i .i64 i,efz (fz a),efz (fz b)]=some (.tup [efz (fz (doV op i a b).1),.b (doV op i a b).2]):=by
 have c6:=znb (T:=T) (fz a) (by rw[zcg];omega);rw[zeq]at c6;have c7:=zjw (T:=T) a b (by omega) (by omega);have c8:=zahm (T:=T) a b (by omega) (by omega);have c9:=zjx (T:=T) a b (by omega) (by omega);have c11:=zv9 (T:=T) a ha i;have cz:=zh1 (T:=T) b;have c10:=zna (T:=T) (fz a) (fz b) (by rw[zcg];omega) (by rw[zcg];omega);rw[zeq,zeq]at c10;rw[zab Zap.h475 rfl,b475];have hcase:op=6∨op=7∨op=8∨op=9∨op=10∨op=11:=by omega
 rcases hcase with rfl | rfl | rfl | rfl | rfl | rfl
 ·have e:doV 6 i a b=(-a,true):=rfl;rw[e];dsimp only;generalize fz a=A at *
  generalize fz b=B at *
  generalize fz (-a)=V at *
  obtain⟨a0,a1,a2⟩:=A;obtain⟨b0,b1,b2⟩:=B;obtain⟨v0,v1,v2⟩:=V;simp -implicitDefEqProofs[c6]
 ·have e:doV 7 i a b=(a+b,true):=rfl;rw[e];dsimp only;generalize fz (a+b)=V at *
  generalize fz a=A at *
  generalize fz b=B at *
  obtain⟨a0,a1,a2⟩:=A;obtain⟨b0,b1,b2⟩:=B;obtain⟨v0,v1,v2⟩:=V;simp -implicitDefEqProofs[c7]
 ·have e:doV 8 i a b=(a-b,true):=rfl;rw[e];dsimp only;generalize fz (a-b)=V at *
  generalize fz a=A at *
  generalize fz b=B at *
  obtain⟨a0,a1,a2⟩:=A;obtain⟨b0,b1,b2⟩:=B;obtain⟨v0,v1,v2⟩:=V;simp -implicitDefEqProofs[c8]
 ·have e:doV 9 i a b=(a*b,true):=rfl;rw[e];dsimp only;generalize fz (a*b)=V at *
  generalize fz a=A at *
  generalize fz b=B at *
  obtain⟨a0,a1,a2⟩:=A;obtain⟨b0,b1,b2⟩:=B;obtain⟨v0,v1,v2⟩:=V;simp -implicitDefEqProofs[c9]
 ·have e:doV 10 i a b=(a/b,decide (b≠0)):=rfl;rw[e];dsimp only;by_cases hz:b=0
  ·have e2:a/b=b:=by rw[hz,Yeg,Rat.inv_zero,Rat.mul_zero]
   have e3:decide (b≠0)=false:=by rw[hz];rfl
   rw[decide_eq_true hz]at cz;rw[e3,e2];clear e e2 e3 c10 c6 c7 c8 c9 c11;generalize fz a=A at *
   generalize fz b=B at *
   obtain⟨a0,a1,a2⟩:=A;obtain⟨b0,b1,b2⟩:=B;simp -implicitDefEqProofs[cz]
  ·rw[decide_eq_true hz];rw[decide_eq_false hz]at cz;clear e;generalize fz (a/b)=V at *
   generalize fz a=A at *
   generalize fz b=B at *
   obtain⟨a0,a1,a2⟩:=A;obtain⟨b0,b1,b2⟩:=B;obtain⟨v0,v1,v2⟩:=V;simp -implicitDefEqProofs[c10,cz]
 ·have e:doV 11 i a b=Zfe a i:=rfl;rw[e];generalize Zfe a i=R at *
  obtain⟨r,ok⟩:=R;dsimp only at *
  generalize fz r=V at *
  generalize fz a=A at *
  generalize fz b=B at *
  obtain⟨a0,a1,a2⟩:=A;obtain⟨b0,b1,b2⟩:=B;obtain⟨v0,v1,v2⟩:=V;simp -implicitDefEqProofs[c11]
theorem zs5(P:Po)(ls:List Rat)(x:Nd)(ha:arN x.op=0)(hn:x.n.length≤1000)(hy:x.op=3→0≤x.i∧x.i<P.y.length)(hp:x.op=4→0≤x.i∧x.i<P.p.length)(hl:x.op=5→0≤x.i∧x.i<ls.length) :
  Zb T 474 [.agg (Zcl x),ept P.f,.sl (Zd (fzs ls)) .an]=some (efz (fz (Zb2 P ls x))):=by
 have hop:x.op=1∨x.op=2∨x.op=3∨x.op=4∨x.op=5:=by rcases zay x.op with ⟨e,h⟩ | ⟨e,h⟩ | ⟨e,h⟩ | ⟨e,h⟩<;>omega
 have c1:=zbp (T:=T) (false,x.n,[1]) (by show max x.n.length 1≤10000;omega);have e1:fv (false,x.n,[1])=((val x.n:Nat):Rat):=by
  show mkRat (wv false x.n) 1=_;rw[Rat.mkRat_one]
  rfl
 rw[e1]at c1;have u1:Za [1]=[[u32 1]]:=rfl;simp only[efz,Zce,u1]at c1;obtain⟨op,i,n⟩:=x;obtain⟨t,y,pp⟩:=P;dsimp only at *
 unfold Zb2 Po.f;dsimp only;rw[zab Zap.h474 rfl,b474];rcases hop with rfl | rfl | rfl | rfl | rfl
 ·show _=some (efz (fz ((val n:Nat):Rat)));generalize fz ((val n:Nat):Rat)=z at *
  generalize fzs y=Y at *
  generalize fzs pp=PP at *
  generalize fzs ls=LL at *
  generalize fz t=tt at *
  obtain⟨t0,t1,t2⟩:=tt;obtain⟨z0,z1,z2⟩:=z;simp -implicitDefEqProofs[c1]
 ·show _=some (efz (fz t));generalize fzs y=Y at *
  generalize fzs pp=PP at *
  generalize fzs ls=LL at *
  generalize fz t=tt at *
  obtain⟨t0,t1,t2⟩:=tt;simp -implicitDefEqProofs
 ·obtain⟨k,rfl,g1,g2,g3⟩:=zfu (hy rfl);have g4:=(Ye.1 g3).2;have hl2:(fzs y).length=y.length:=za2 y;show _=some (efz (fz (gI y (k:Int))));generalize fz (gI y (k:Int))=z at *
  generalize fzs y=Y at *
  generalize fzs pp=PP at *
  generalize fzs ls=LL at *
  generalize fz t=tt at *
  obtain⟨t0,t1,t2⟩:=tt;simp -implicitDefEqProofs[g1,g2,g3,g4,hl2]
 ·obtain⟨k,rfl,g1,g2,g3⟩:=zfu (hp rfl);have g4:=(Ye.1 g3).2;have hl2:(fzs pp).length=pp.length:=za2 pp;show _=some (efz (fz (gI pp (k:Int))));generalize fz (gI pp (k:Int))=z at *
  generalize fzs y=Y at *
  generalize fzs pp=PP at *
  generalize fzs ls=LL at *
  generalize fz t=tt at *
  obtain⟨t0,t1,t2⟩:=tt;simp -implicitDefEqProofs[g1,g2,g3,g4,hl2]
 ·obtain⟨k,rfl,g1,g2,g3⟩:=zfu (hl rfl);have g4:=(Ye.1 g3).2;have hl2:(fzs ls).length=ls.length:=za2 ls;show _=some (efz (fz (gI ls (k:Int))));generalize fz (gI ls (k:Int))=z at *
  generalize fzs y=Y at *
  generalize fzs pp=PP at *
  generalize fzs ls=LL at *
  generalize fz t=tt at *
  obtain⟨t0,t1,t2⟩:=tt;simp -implicitDefEqProofs[g1,g2,g3,g4,hl2]
end
abbrev hpR(Q:PoF)(F:List Fz):Heap:=
 [(.loc 5,⟨1,.str,5,[[.b Q.t.1,.sl (Za Q.t.2.1) .an,.sl (Za Q.t.2.2) .an,.sl (Zd Q.y) .an,.sl (Zd Q.p) .an]]⟩),(.loc 8,⟨2,.str,3,[[.b false,.sl [] .an,.sl [] .an]]⟩),(.loc 11,⟨3,.own,3,Zd F⟩)]
def Zbl(code:List Nd)(LS:List Fz)(L:Int)(Q:PoF)(F:List Fz)(m i:Nat):St:=
 ⟨[(0,.sl (Zt code) .an),(2,.sl (Zd LS) .an),(3,.i .i64 L),(5,.ptr (.loc 5) 1 5 0 0),(8,.ptr (.loc 8) 2 3 0 0),(11,.bs (.loc 11) 3 3 0 m),(12,.i .i64 i)],hpR Q F,5⟩
def Zc2(kind i:Nat):Ex×St:=
 (.r,⟨[(8,.ptr (.loc 8) 1 3 0 0),(9,.i .i64 kind),(10,.i .i64 i)],[(.loc 8,⟨1,.str,3,[Zce (fz 0)]⟩)],3⟩)
def Zid(F:List Fz)(m:Nat):Ex×St:=
 (.n,⟨[(8,.ptr (.loc 8) 1 3 0 0),(11,.bs (.loc 11) 2 3 0 m)],[(.loc 8,⟨1,.str,3,[[.b false,.sl [] .an,.sl [] .an]]⟩),(.loc 11,⟨2,.own,3,Zd F⟩)],4⟩)
section
variable{T:Tbl}[Zx T][Zab T][Zw T][Z9 T][Z5 T][Za1 T][Zv T][Zas T][Zd6 T][Zc9 T][Zap T]
theorem z9b(code:List Nd)(LS:List Fz)(L:Int)(Q:PoF)(F:List Fz)(m:Nat) :
  Zbe (evX (orc T) T 0 l464_0 (Zbl code LS L Q F m code.length))=true∧Za8 0 0 (.norm false [8,11]) (evX (orc T) T 0 l464_0 (Zbl code LS L Q F m code.length))=some (Zid F m):=by
 unfold Zbl Zid hpR;obtain⟨⟨t0,t1,t2⟩,y,p⟩:=Q;dsimp only;constructor<;>simp -implicitDefEqProofs[l464_0]
theorem z3y(code:List Nd)(LS:List Fz)(L:Int)(Q:PoF)(F:List Fz)(m i:Nat)(hi:i<code.length)(hl:code.length≤3000)(hm:m≤F.length)(hF:F.length≤5000)(hop:(code[i]'hi).op≤5)(V:Fz)
  (c:Zb T 474 [.agg (Zcl (code[i]'hi)),ept Q,.sl (Zd LS) .an]=some (efz V)) (cf:Zb T 476 [efz V,.i .i64 L]=some (.b true)) :
  evX (orc T) T 0 l464_0 (Zbl code LS L Q F m i)=some (.n,Zbl code LS L Q (F.take m++[V]) (m+1) (i+1)):=by
 have hg:code[i]? = some (code[i]'hi):=Ya hi;have hi':(i:Int)<code.length:=by omega
 have hws:=za8 hi (by omega);have c0:=zbq (T:=T);have hp:=zbw (F.take m) V;have h32:m+1≤4294967296:=by omega
 generalize hx:code[i]'hi=x at *
 unfold Zbl hpR;obtain⟨op,j,n⟩:=x;obtain⟨⟨t0,t1,t2⟩,y,p⟩:=Q;obtain⟨v0,v1,v2⟩:=V;generalize fz 0=Z at *
 obtain⟨z0,z1,z2⟩:=Z;dsimp only at *
 simp -implicitDefEqProofs[l464_0,hi,hi',hg,hx,hws,c0,c,cf,hop,hp,hm,h32]
theorem zw1(code:List Nd)(LS:List Fz)(L:Int)(Q:PoF)(F:List Fz)(m i:Nat)(hi:i<code.length)(hl:code.length≤3000)(hop:(code[i]'hi).op≤5)(V:Fz)
  (c:Zb T 474 [.agg (Zcl (code[i]'hi)),ept Q,.sl (Zd LS) .an]=some (efz V)) (cf:Zb T 476 [efz V,.i .i64 L]=some (.b false)) :
  Zbe (evX (orc T) T 0 l464_0 (Zbl code LS L Q F m i))=true∧Za8 0 0 (.norm false [8,11]) (evX (orc T) T 0 l464_0 (Zbl code LS L Q F m i))=some (Zc2 6 i):=by
 have hg:code[i]? = some (code[i]'hi):=Ya hi;have hi':(i:Int)<code.length:=by omega
 have c0:=zbq (T:=T);generalize hx:code[i]'hi=x at *
 unfold Zbl hpR Zc2;obtain⟨op,j,n⟩:=x;obtain⟨⟨t0,t1,t2⟩,y,p⟩:=Q;obtain⟨v0,v1,v2⟩:=V;generalize fz 0=Z at *
 obtain⟨z0,z1,z2⟩:=Z;dsimp only at *
 constructor<;>simp -implicitDefEqProofs[l464_0,hi,hi',hg,hx,c0,c,cf,hop]
theorem z3z(code:List Nd)(LS:List Fz)(L:Int)(Q:PoF)(F:List Fz)(m i:Nat)(hi:i<code.length)(hl:code.length≤3000)(hF:F.length≤5000)(A:Fz)(hA:F[m]? = some A)(hop:(code[i]'hi).op=6∨(code[i]'hi).op=11)(V:Fz)
  (c:Zb T 475 [.i .i64 (code[i]'hi).op,.i .i64 (code[i]'hi).i,efz A,efz A]=some (.tup [efz V,.b true])) (cf:Zb T 476 [efz V,.i .i64 L]=some (.b true)) :
  evX (orc T) T 0 l464_0 (Zbl code LS L Q F (m+1) i)=some (.n,Zbl code LS L Q (F.take m++[V]) (m+1) (i+1)):=by
 have hg:code[i]? = some (code[i]'hi):=Ya hi;have hi':(i:Int)<code.length:=by omega
 have hws:=za8 hi (by omega);have c0:=zbq (T:=T);have hp:=zbw (F.take m) V;obtain⟨hlt,hge⟩:=Ye.1 hA;have h32:m+1≤4294967296:=by omega
 have hle:m≤F.length:=by omega
 have hle1:m+1≤F.length:=by omega
 have hw:IntKind.wrap .i64 (m:Int)=m:=zac _ (by omega);have h1:(m:Int)<(m:Int)+1:=by omega
 have h2:(m:Int)≤(m:Int)+1:=by omega
 generalize hx:code[i]'hi=x at *
 unfold Zbl hpR;obtain⟨op,j,n⟩:=x;obtain⟨⟨t0,t1,t2⟩,y,p⟩:=Q;obtain⟨v0,v1,v2⟩:=V;obtain⟨a0,a1,a2⟩:=A;generalize fz 0=Z at *
 obtain⟨z0,z1,z2⟩:=Z;dsimp only at *
 rcases hop with rfl | rfl
 ·simp -implicitDefEqProofs[l464_0,hi,hi',hg,hx,hws,c0,c,cf,hp,hle,hle1,h32,hA,hlt,hge,hw,h1,h2]
 ·simp -implicitDefEqProofs[l464_0,hi,hi',hg,hx,hws,c0,c,cf,hp,hle,hle1,h32,hA,hlt,hge,hw,h1,h2]
theorem zw2(code:List Nd)(LS:List Fz)(L:Int)(Q:PoF)(F:List Fz)(m i:Nat)(hi:i<code.length)(hl:code.length≤3000)(hF:F.length≤5000)(A:Fz)(hA:F[m]? = some A)(hop:(code[i]'hi).op=6∨(code[i]'hi).op=11)(V:Fz)
  (c:Zb T 475 [.i .i64 (code[i]'hi).op,.i .i64 (code[i]'hi).i,efz A,efz A]=some (.tup [efz V,.b false])) :
  Zbe (evX (orc T) T 0 l464_0 (Zbl code LS L Q F (m+1) i))=true∧Za8 0 0 (.norm false [8,11]) (evX (orc T) T 0 l464_0 (Zbl code LS L Q F (m+1) i))=some (Zc2 3 i):=by
 have hg:code[i]? = some (code[i]'hi):=Ya hi;have hi':(i:Int)<code.length:=by omega
 have c0:=zbq (T:=T);obtain⟨hlt,hge⟩:=Ye.1 hA;have hw:IntKind.wrap .i64 (m:Int)=m:=zac _ (by omega);have h1:(m:Int)<(m:Int)+1:=by omega
 have h2:(m:Int)≤(m:Int)+1:=by omega
 generalize hx:code[i]'hi=x at *
 unfold Zbl hpR Zc2;obtain⟨op,j,n⟩:=x;obtain⟨⟨t0,t1,t2⟩,y,p⟩:=Q;obtain⟨v0,v1,v2⟩:=V;obtain⟨a0,a1,a2⟩:=A;generalize fz 0=Z at *
 obtain⟨z0,z1,z2⟩:=Z;dsimp only at *
 rcases hop with rfl | rfl
 ·constructor<;>simp -implicitDefEqProofs[l464_0,hi,hi',hg,hx,c0,c,hA,hlt,hge,hw,h1,h2]
 ·constructor<;>simp -implicitDefEqProofs[l464_0,hi,hi',hg,hx,c0,c,hA,hlt,hge,hw,h1,h2]
theorem zw3(code:List Nd)(LS:List Fz)(L:Int)(Q:PoF)(F:List Fz)(m i:Nat)(hi:i<code.length)(hl:code.length≤3000)(hF:F.length≤5000)(A:Fz)(hA:F[m]? = some A)(hop:(code[i]'hi).op=6∨(code[i]'hi).op=11)(V:Fz)
  (c:Zb T 475 [.i .i64 (code[i]'hi).op,.i .i64 (code[i]'hi).i,efz A,efz A]=some (.tup [efz V,.b true])) (cf:Zb T 476 [efz V,.i .i64 L]=some (.b false)) :
  Zbe (evX (orc T) T 0 l464_0 (Zbl code LS L Q F (m+1) i))=true∧Za8 0 0 (.norm false [8,11]) (evX (orc T) T 0 l464_0 (Zbl code LS L Q F (m+1) i))=some (Zc2 6 i):=by
 have hg:code[i]? = some (code[i]'hi):=Ya hi;have hi':(i:Int)<code.length:=by omega
 have c0:=zbq (T:=T);obtain⟨hlt,hge⟩:=Ye.1 hA;have hw:IntKind.wrap .i64 (m:Int)=m:=zac _ (by omega);have h1:(m:Int)<(m:Int)+1:=by omega
 have h2:(m:Int)≤(m:Int)+1:=by omega
 generalize hx:code[i]'hi=x at *
 unfold Zbl hpR Zc2;obtain⟨op,j,n⟩:=x;obtain⟨⟨t0,t1,t2⟩,y,p⟩:=Q;obtain⟨v0,v1,v2⟩:=V;obtain⟨a0,a1,a2⟩:=A;generalize fz 0=Z at *
 obtain⟨z0,z1,z2⟩:=Z;dsimp only at *
 rcases hop with rfl | rfl
 ·constructor<;>simp -implicitDefEqProofs[l464_0,hi,hi',hg,hx,c0,c,cf,hA,hlt,hge,hw,h1,h2]
 ·constructor<;>simp -implicitDefEqProofs[l464_0,hi,hi',hg,hx,c0,c,cf,hA,hlt,hge,hw,h1,h2]
theorem z30(code:List Nd)(LS:List Fz)(L:Int)(Q:PoF)(F:List Fz)(m i:Nat)(hi:i<code.length)(hl:code.length≤3000)(hF:F.length≤5000)(A B:Fz)(hA:F[m]? = some A)(hB:F[m+1]? = some B)(hop:7≤(code[i]'hi).op∧(code[i]'hi).op≤10)(V:Fz)
  (c:Zb T 475 [.i .i64 (code[i]'hi).op,.i .i64 0,efz A,efz B]=some (.tup [efz V,.b true])) (cf:Zb T 476 [efz V,.i .i64 L]=some (.b true)) :
  evX (orc T) T 0 l464_0 (Zbl code LS L Q F (m+1+1) i)=some (.n,Zbl code LS L Q (F.take m++[V]) (m+1) (i+1)):=by
 have hg:code[i]? = some (code[i]'hi):=Ya hi;have hi':(i:Int)<code.length:=by omega
 have hws:=za8 hi (by omega);have c0:=zbq (T:=T);have hp:=zbw (F.take m) V;obtain⟨hlt,hge⟩:=Ye.1 hA;obtain⟨hltB,hgeB⟩:=Ye.1 hB;have h32:m+1≤4294967296:=by omega
 have hle:m≤F.length:=by omega
 have hle1:m+1+1≤F.length:=by omega
 have hw:IntKind.wrap .i64 ((m:Int)+1+1-2)=m:=by rw[zac _ (by omega)];omega
 have hw1:IntKind.wrap .i64 ((m:Int)+1)=(m:Int)+1:=zac _ (by omega);have h1:(m:Int)<(m:Int)+1+1:=by omega
 have h2:(m:Int)≤(m:Int)+1+1:=by omega
 have h3:0≤(m:Int)+1:=by omega
 have h4:((m:Int)+1).toNat=m+1:=by omega
 have h5:(m:Int)<(m:Int)+1:=by omega
 generalize hx:code[i]'hi=x at *
 unfold Zbl hpR;obtain⟨op,j,n⟩:=x;obtain⟨⟨t0,t1,t2⟩,y,p⟩:=Q;obtain⟨v0,v1,v2⟩:=V;obtain⟨a0,a1,a2⟩:=A;obtain⟨b0,b1,b2⟩:=B;generalize fz 0=Z at *
 obtain⟨z0,z1,z2⟩:=Z;dsimp only at *
 have o1:¬ op≤5:=by omega
 have o2:op≠6:=by omega
 have o3:op≠11:=by omega
 have o4:(op == 6)=false:=by simpa using o2
 have o5:(op == 11)=false:=by simpa using o3
 simp -implicitDefEqProofs[l464_0,hi,hi',hg,hx,hws,c0,c,cf,hp,hle,hle1,h32,hA,hlt,hge,hB,hltB,hgeB,hw,hw1,h1,h2,h3,h4,h5,o1,o2,o3,o4,o5]
theorem zw4(code:List Nd)(LS:List Fz)(L:Int)(Q:PoF)(F:List Fz)(m i:Nat)(hi:i<code.length)(hl:code.length≤3000)(hF:F.length≤5000)(A B:Fz)(hA:F[m]? = some A)(hB:F[m+1]? = some B)(hop:7≤(code[i]'hi).op∧(code[i]'hi).op≤10)(V:Fz)
  (c:Zb T 475 [.i .i64 (code[i]'hi).op,.i .i64 0,efz A,efz B]=some (.tup [efz V,.b false])) :
  Zbe (evX (orc T) T 0 l464_0 (Zbl code LS L Q F (m+1+1) i))=true∧Za8 0 0 (.norm false [8,11]) (evX (orc T) T 0 l464_0 (Zbl code LS L Q F (m+1+1) i))=some (Zc2 3 i):=by
 have hg:code[i]? = some (code[i]'hi):=Ya hi;have hi':(i:Int)<code.length:=by omega
 have c0:=zbq (T:=T);obtain⟨hlt,hge⟩:=Ye.1 hA;obtain⟨hltB,hgeB⟩:=Ye.1 hB;have hw:IntKind.wrap .i64 ((m:Int)+1+1-2)=m:=by rw[zac _ (by omega)];omega
 have hw1:IntKind.wrap .i64 ((m:Int)+1)=(m:Int)+1:=zac _ (by omega);have h1:(m:Int)<(m:Int)+1+1:=by omega
 have h2:(m:Int)≤(m:Int)+1+1:=by omega
 have h3:0≤(m:Int)+1:=by omega
 have h4:((m:Int)+1).toNat=m+1:=by omega
 have h5:(m:Int)<(m:Int)+1:=by omega
 generalize hx:code[i]'hi=x at *
 unfold Zbl hpR Zc2;obtain⟨op,j,n⟩:=x;obtain⟨⟨t0,t1,t2⟩,y,p⟩:=Q;obtain⟨v0,v1,v2⟩:=V;obtain⟨a0,a1,a2⟩:=A;obtain⟨b0,b1,b2⟩:=B;generalize fz 0=Z at *
 obtain⟨z0,z1,z2⟩:=Z;dsimp only at *
 have o1:¬ op≤5:=by omega
 have o2:op≠6:=by omega
 have o3:op≠11:=by omega
 have o4:(op == 6)=false:=by simpa using o2
 have o5:(op == 11)=false:=by simpa using o3
 constructor<;>simp -implicitDefEqProofs[l464_0,hi,hi',hg,hx,c0,c,hA,hlt,hge,hB,hltB,hgeB,hw,hw1,h1,h2,h3,h4,h5,o1,o2,o3,o4,o5]
theorem zw5(code:List Nd)(LS:List Fz)(L:Int)(Q:PoF)(F:List Fz)(m i:Nat)(hi:i<code.length)(hl:code.length≤3000)(hF:F.length≤5000)(A B:Fz)(hA:F[m]? = some A)(hB:F[m+1]? = some B)(hop:7≤(code[i]'hi).op∧(code[i]'hi).op≤10)(V:Fz)
  (c:Zb T 475 [.i .i64 (code[i]'hi).op,.i .i64 0,efz A,efz B]=some (.tup [efz V,.b true])) (cf:Zb T 476 [efz V,.i .i64 L]=some (.b false)) :
  Zbe (evX (orc T) T 0 l464_0 (Zbl code LS L Q F (m+1+1) i))=true∧Za8 0 0 (.norm false [8,11]) (evX (orc T) T 0 l464_0 (Zbl code LS L Q F (m+1+1) i))=some (Zc2 6 i):=by
 have hg:code[i]? = some (code[i]'hi):=Ya hi;have hi':(i:Int)<code.length:=by omega
 have c0:=zbq (T:=T);obtain⟨hlt,hge⟩:=Ye.1 hA;obtain⟨hltB,hgeB⟩:=Ye.1 hB;have hw:IntKind.wrap .i64 ((m:Int)+1+1-2)=m:=by rw[zac _ (by omega)];omega
 have hw1:IntKind.wrap .i64 ((m:Int)+1)=(m:Int)+1:=zac _ (by omega);have h1:(m:Int)<(m:Int)+1+1:=by omega
 have h2:(m:Int)≤(m:Int)+1+1:=by omega
 have h3:0≤(m:Int)+1:=by omega
 have h4:((m:Int)+1).toNat=m+1:=by omega
 have h5:(m:Int)<(m:Int)+1:=by omega
 generalize hx:code[i]'hi=x at *
 unfold Zbl hpR Zc2;obtain⟨op,j,n⟩:=x;obtain⟨⟨t0,t1,t2⟩,y,p⟩:=Q;obtain⟨v0,v1,v2⟩:=V;obtain⟨a0,a1,a2⟩:=A;obtain⟨b0,b1,b2⟩:=B;generalize fz 0=Z at *
 obtain⟨z0,z1,z2⟩:=Z;dsimp only at *
 have o1:¬ op≤5:=by omega
 have o2:op≠6:=by omega
 have o3:op≠11:=by omega
 have o4:(op == 6)=false:=by simpa using o2
 have o5:(op == 11)=false:=by simpa using o3
 constructor<;>simp -implicitDefEqProofs[l464_0,hi,hi',hg,hx,c0,c,cf,hA,hlt,hge,hB,hltB,hgeB,hw,hw1,h1,h2,h3,h4,h5,o1,o2,o3,o4,o5]
end
section
variable{T:Tbl}[Zx T][Zab T][Zw T][Z9 T][Z5 T][Za1 T][Zv T][Zas T][Zd6 T][Zc9 T][Zap T]
def Zk3(R:Rat×Nat×Nat)(r:Ex×St):Prop:=
 (R.2.1=0∧R.2.2=0∧∃F,F[0]? = some (fz R.1)∧r=Zid F 1)∨(R.2.1≠0∧R.1=0∧r=Zc2 R.2.1 R.2.2)
theorem z3x(P:Po)(lim:Nat)(hlim:lim≤4096)(ls:List Rat)(hP:PvS P 1000)(hls:∀q∈ls,sz q≤1000)(code:List Nd)(hl:code.length≤3000)(hok:∀x∈code,okN P.y.length P.p.length ls.length x=true)(hn:thin 1000 code)(hwr:Z2 code=-1) :
  ∃r,Zk3 (Zf lim P ls 0 [] code) r∧Ze T 0 0 (.norm false [8,11]) l464_0 (Zbl code (fzs ls) lim P.f [] 0 0)=some r:=by
 refine zam (fun x:Nat×List Rat×List Fz=>Zbl code (fzs ls) lim P.f x.2.2 x.2.1.length x.1)
  (fun x=>x.1≤code.length∧x.2.2.take x.2.1.length=fzs x.2.1.reverse∧x.2.1.length≤x.2.2.length∧x.2.2.length≤5000∧(∀q∈x.2.1,sz q≤129)∧x.2.1.length≤x.1∧(∃j,Zs j x.2.1.length (code.drop x.1)=-1)∧Zf lim P ls x.1 x.2.1 (code.drop x.1)=Zf lim P ls 0 [] code)
  (fun x=>code.length-x.1) _ ?_ (0,[],[]) ⟨Yq _,rfl,Yq _,by simp,by simp,Yg _,⟨0,hwr⟩,rfl⟩
 rintro⟨i,s,F⟩ ⟨hi,hF,hsF,hFl,hz,hsi,⟨j,hw⟩,hW⟩
 dsimp only at *
 by_cases hlt:i<code.length
 ·have hd:code.drop i=code[i]'hlt::code.drop (i+1):=Yd hlt;have hmem:=Y2 hlt;obtain⟨x,hx⟩:∃x,x=code[i]'hlt:=⟨_,rfl⟩;rw[←hx]at hd hmem;rw[hd]at hw hW;have hxn:=hn x hmem;have hxo:=zvh (hok x hmem);have h1:¬ (arN x.op<0∨(s.length:Int)<arN x.op):=by
   intro hh;unfold Zs at hw;rw[if_pos hh]at hw;omega
  have hw2:Zs (j+1) (s.length+1-arN x.op) (code.drop (i+1))=-1:=by
   unfold Zs at hw
   rwa [if_neg h1]at hw
  have round:∀(v:Rat) (ok:Bool) (s':List Rat),Zae P ls s x=((v,ok),s')→sz v≤2000→s'.length≤s.length→(s'.length:Int)=s.length-arN x.op→(∀q∈s',q∈s)→F.take s'.length=fzs s'.reverse →
    (ok=true→Zb T 476 [efz (fz v),.i .i64 lim]=some (.b true)→evX (orc T) T 0 l464_0 (Zbl code (fzs ls) lim P.f F s.length i)=some (.n,Zbl code (fzs ls) lim P.f (F.take s'.length++[fz v]) (s'.length+1) (i+1))) →
    (ok=true→Zb T 476 [efz (fz v),.i .i64 lim]=some (.b false)→Zbe (evX (orc T) T 0 l464_0 (Zbl code (fzs ls) lim P.f F s.length i))=true∧Za8 0 0 (.norm false [8,11]) (evX (orc T) T 0 l464_0 (Zbl code (fzs ls) lim P.f F s.length i))=some (Zc2 6 i)) →
    (ok=false→Zbe (evX (orc T) T 0 l464_0 (Zbl code (fzs ls) lim P.f F s.length i))=true∧Za8 0 0 (.norm false [8,11]) (evX (orc T) T 0 l464_0 (Zbl code (fzs ls) lim P.f F s.length i))=some (Zc2 3 i)) →
    (∃y:Nat×List Rat×List Fz,(y.1≤code.length∧y.2.2.take y.2.1.length=fzs y.2.1.reverse∧y.2.1.length≤y.2.2.length∧y.2.2.length≤5000∧(∀q∈y.2.1,sz q≤129)∧y.2.1.length≤y.1∧(∃j,Zs j y.2.1.length (code.drop y.1)=-1)∧Zf lim P ls y.1 y.2.1 (code.drop y.1)=Zf lim P ls 0 [] code)∧code.length-y.1<code.length-i ∧
     evX (orc T) T 0 l464_0 (Zbl code (fzs ls) lim P.f F s.length i)=some (.n,Zbl code (fzs ls) lim P.f y.2.2 y.2.1.length y.1)) ∨
    (∃r,Zk3 (Zf lim P ls 0 [] code) r∧Zbe (evX (orc T) T 0 l464_0 (Zbl code (fzs ls) lim P.f F s.length i))=true ∧
     Za8 0 0 (.norm false [8,11]) (evX (orc T) T 0 l464_0 (Zbl code (fzs ls) lim P.f F s.length i))=some r):=by
   intro v ok s' hst hv hs's hlen hsub hF' hgo hbits hpole;have hvf:fsz (fz v)≤10000:=by rw[zcg];omega
   have cf:=zs4 (T:=T) (fz v) lim hvf;rw[Zf,hst]at hW;dsimp only at hW;cases ok with
   | false=>
    right;have ef:Za0 lim (v,false) i=(0,3,i):=rfl;rw[ef]at hW;rw[if_pos (by simp)]at hW;refine⟨Zc2 3 i,.inr ?_,hpole rfl⟩;rw[←hW];exact⟨by simp,rfl,rfl⟩
   | true=>
    by_cases hfit:Zdt v≤lim
    ·left;have ef:Za0 lim (v,true) i=(v,0,0):=by unfold Za0;rw[if_neg (by simp),if_neg (by dsimp only;omega)]
     rw[ef]at hW;rw[if_neg (by simp)]at hW;rw[decide_eq_true (by unfold Zdt at hfit;omega)]at cf;have e:=hgo rfl cf;have hl1:(F.take s'.length++[fz v]).length=s'.length+1:=by rw[Yk,Yx];simp only[Yc,Yag];omega
     refine⟨(i+1,v::s',F.take s'.length++[fz v]),⟨by dsimp only;omega,?_,?_,?_,?_,?_,⟨j+1,?_⟩,?_⟩,by dsimp only;omega,e⟩
     ·dsimp only;rw[Yc,Yb (by omega),hF'];simp[fzs]
     ·dsimp only;rw[Yc,hl1];exact Yg _
     ·dsimp only;rw[hl1];omega
     ·intro q hq;rcases Yaa.1 hq with rfl | hq
      ·exact zqy hlim hfit
      ·exact hz q (hsub q hq)
     ·dsimp only;rw[Yc];omega
     ·dsimp only;rw[←hw2];congr 1;rw[Yc];omega
     ·dsimp only;rw[←hW]
    ·right;have ef:Za0 lim (v,true) i=(0,6,i):=by unfold Za0;rw[if_neg (by simp),if_pos (by dsimp only;omega)]
     rw[ef]at hW;rw[if_pos (by simp)]at hW;rw[decide_eq_false (by unfold Zdt at hfit;omega)]at cf;refine⟨Zc2 6 i,.inr ?_,hbits rfl cf⟩;rw[←hW];exact⟨by simp,rfl,rfl⟩
  rcases zay x.op with ⟨e,ho⟩ | ⟨e,ho⟩ | ⟨e,ho⟩ | ⟨e,ho⟩
  ·have hst:Zae P ls s x=((Zb2 P ls x,true),s):=by unfold Zae;rw[if_pos e]
   have cl:=zs5 (T:=T) P ls x e hxn hxo.1 hxo.2.1 hxo.2.2;rw[hx]at cl;exact round _ true s hst (by have:=zk9 (P:=P) hP hls hxn;omega) (Yg _) (by rw[e];omega) (fun q hq=>hq) hF
    (fun _ cf=>by rw[hx]at cf ⊢;exact z3y (T:=T) code (fzs ls) lim P.f F s.length i hlt hl hsF hFl (by rw[←hx];omega) _ cl cf)
    (fun _ cf=>by rw[hx]at cf;exact zw1 (T:=T) code (fzs ls) lim P.f F s.length i hlt hl (by rw[←hx];omega) _ cl cf)
    (fun h=>by cases h)
  ·cases s with
   | nil=>exfalso;apply h1;right;rw[e];decide
   | cons a s1=>
    have hst:Zae P ls (a::s1) x=(unV x a,s1):=by unfold Zae;rw[if_neg (by omega),if_pos e];rfl
    have hza:=hz a (by simp);have hFa:F[s1.length]? = some (fz a):=by
     have:(F.take (a::s1).length)[s1.length]? = some (fz a):=by rw[hF];simp[fzs]
     rwa [Yn,if_pos (by simp)]at this
    have hF1:F.take s1.length=fzs s1.reverse:=by
     have:(F.take (a::s1).length).take s1.length=fzs s1.reverse:=by rw[hF];simp[fzs]
     rwa [Ydc,Ya9 (by simp)]at this
    have cv:=zqq (T:=T) x.op x.i a a (by omega) hza hza;have ed:doV x.op x.i a a=unV x a:=by
     unfold doV unV;rcases ho with h | h
     ·rw[if_pos h,if_pos h]
     ·rw[if_neg (by omega),if_pos h,if_neg (by omega)]
    rw[ed]at cv;have ho':(code[i]'hlt).op=6∨(code[i]'hlt).op=11:=by rw[←hx];exact ho
    have hsz:=zxp (x:=x) hza;generalize unV x a=V at *
    obtain⟨v,ok⟩:=V;dsimp only at cv;rw[hx]at cv;refine round v ok s1 hst hsz (by simp) (by rw[e,Yc];omega) (fun q hq=>by simp[hq]) hF1 (fun h cf=>?_) (fun h cf=>?_) (fun h=>?_)
    ·subst h;exact z3z (T:=T) code (fzs ls) lim P.f F s1.length i hlt hl hFl _ hFa ho' _ cv cf
    ·subst h;exact zw3 (T:=T) code (fzs ls) lim P.f F s1.length i hlt hl hFl _ hFa ho' _ cv cf
    ·subst h;exact zw2 (T:=T) code (fzs ls) lim P.f F s1.length i hlt hl hFl _ hFa ho' _ cv
  ·cases s with
   | nil=>exfalso;apply h1;right;rw[e];decide
   | cons b s0=>
   cases s0 with
   | nil=>exfalso;apply h1;right;rw[e];simp
   | cons a s1=>
    have hst:Zae P ls (b::a::s1) x=(biV x.op a b,s1):=by unfold Zae;rw[if_neg (by omega),if_neg (by omega)];rfl
    have hza:=hz a (by simp);have hzb:=hz b (by simp);have hFa:F[s1.length]? = some (fz a):=by
     have:(F.take (b::a::s1).length)[s1.length]? = some (fz a):=by rw[hF];simp[fzs]
     rwa [Yn,if_pos (by simp only[Yc];omega)]at this
    have hFb:F[s1.length+1]? = some (fz b):=by
     have:(F.take (b::a::s1).length)[s1.length+1]? = some (fz b):=by rw[hF];simp[fzs]
     rwa [Yn,if_pos (by simp)]at this
    have hF1:F.take s1.length=fzs s1.reverse:=by
     have:(F.take (b::a::s1).length).take s1.length=fzs s1.reverse:=by rw[hF];simp[fzs]
     rwa [Ydc,Ya9 (by simp;omega)]at this
    have cv:=zqq (T:=T) x.op 0 a b (by omega) hza hzb;have ed:doV x.op 0 a b=biV x.op a b:=by
     unfold doV;rw[if_neg (by omega),if_neg (by omega)]
    rw[ed]at cv;have ho':7≤(code[i]'hlt).op∧(code[i]'hlt).op≤10:=by rw[←hx];exact ho
    have hsz:=zxq (op:=x.op) hza hzb;generalize biV x.op a b=V at *
    obtain⟨v,ok⟩:=V;dsimp only at cv;rw[hx]at cv;refine round v ok s1 hst hsz (by simp;omega) (by rw[e,Yc,Yc];omega) (fun q hq=>by simp[hq]) hF1 (fun h cf=>?_) (fun h cf=>?_) (fun h=>?_)
    ·subst h;exact z30 (T:=T) code (fzs ls) lim P.f F s1.length i hlt hl hFl _ _ hFa hFb ho' _ cv cf
    ·subst h;exact zw5 (T:=T) code (fzs ls) lim P.f F s1.length i hlt hl hFl _ _ hFa hFb ho' _ cv cf
    ·subst h;exact zw4 (T:=T) code (fzs ls) lim P.f F s1.length i hlt hl hFl _ _ hFa hFb ho' _ cv
  ·exfalso;apply h1;left;omega
 ·right;have hi2:i=code.length:=by omega
  subst hi2;rw[Y0]at hw hW;have hs1:s.length=1:=by
   unfold Zs at hw;split at hw
   ·omega
   ·omega
  obtain⟨v,rfl⟩:=Ybv.1 hs1;have e:=z9b (T:=T) code (fzs ls) lim P.f F 1;refine⟨Zid F 1,.inl ?_,e.1,e.2⟩;have hR:Zf lim P ls code.length [v] []=(v,0,0):=rfl;rw[hR]at hW;rw[←hW];have hFa:F[0]? = some (fz v):=by
   have:(F.take [v].length)[0]? = some (fz v):=by rw[hF];simp[fzs]
   rwa [Yn,if_pos (by simp)]at this
  exact⟨rfl,rfl,F,hFa,rfl⟩
theorem zj2(P:Po)(lim:Int)(h0:0≤lim)(hlim:lim≤4096)(ls:List Rat)(hP:PvS P 1000)(hls:∀q∈ls,sz q≤1000)(code:List Nd)(hl:code.length≤3000)(hok:∀x∈code,okN P.y.length P.p.length ls.length x=true)(hn:thin 1000 code)(hwr:Z2 code=-1) :
  Zb T 464 [.sl (Zt code) .an,ept P.f,.sl (Zd (fzs ls)) .an,.i .i64 lim]=some (.tup [efz (fz (Zf lim.toNat P ls 0 [] code).1),.i .i64 (Zf lim.toNat P ls 0 [] code).2.1,.i .i64 (Zf lim.toNat P ls 0 [] code).2.2]):=by
 obtain⟨r,hr,hlo⟩:=z3x (T:=T) P lim.toNat (by omega) ls hP hls code hl hok hn hwr;have hl2:((lim.toNat:Nat):Int)=lim:=by omega
 rw[hl2]at hlo;generalize Zf lim.toNat P ls 0 [] code=R at *
 obtain⟨v,kind,at_⟩:=R;unfold Zbl hpR at hlo;dsimp only at *
 clear hP hls hok hn hwr;generalize fzs ls=LS at *
 generalize P.f=Q at *
 obtain⟨⟨t0,t1,t2⟩,y,p⟩:=Q;rcases hr with ⟨h1,h2,F,hF,rfl⟩ | ⟨h1,h2,rfl⟩
 ·dsimp only at *
  unfold Zid at hlo;obtain⟨hlt,hge⟩:=Ye.1 hF;subst h1 h2;generalize fz v=V at *
  obtain⟨v0,v1,v2⟩:=V;simp only[Yr,zbu]at hlo;rw[zab Zap.h464 rfl,b464];simp -implicitDefEqProofs[hlo,hF,hlt,hge]
 ·dsimp only at *
  unfold Zc2 at hlo;subst h2;generalize fz 0=V at *
  obtain⟨v0,v1,v2⟩:=V;simp only[Yr,zbu]at hlo;rw[zab Zap.h464 rfl,b464];simp -implicitDefEqProofs[hlo]
end
theorem zq3(lim:Nat)(P:Po)(ls:List Rat)(n:Nat):∀(l:List Nd) (i:Nat) (s:List Rat),Zf lim P ls (n+i) s l=((Zf lim P ls i s l).1,(Zf lim P ls i s l).2.1,if (Zf lim P ls i s l).2.1=0 then 0 else n+(Zf lim P ls i s l).2.2)
 | [],i,s=>rfl
 | x::r,i,s=>by
  have hk:∀(v:Rat×Bool),Za0 lim v (n+i)=((Za0 lim v i).1,(Za0 lim v i).2.1,if (Za0 lim v i).2.1=0 then 0 else n+(Za0 lim v i).2.2):=by
   intro v;unfold Za0;split
   ·rfl
   ·split<;>rfl
  rw[Zf,Zf,hk];dsimp only;by_cases h:(Za0 lim (Zae P ls s x).1 i).2.1=0
  ·rw[if_neg (by simpa using h),if_neg (by simpa using h),Yal];exact zq3 lim P ls n r (i+1) _
  ·rw[if_pos h,if_pos h]
theorem znt(lim:Nat)(P:Po)(ls:List Rat)(n:Nat)(l:List Nd):Zf lim P ls n [] l=((Zf lim P ls 0 [] l).1,(Zf lim P ls 0 [] l).2.1,if (Zf lim P ls 0 [] l).2.1=0 then 0 else n+(Zf lim P ls 0 [] l).2.2):=zq3 lim P ls n l 0 []
theorem zwo{c:UInt8}{n:Nat}(hn:n<256)(h:c≠UInt8.ofNat n):¬ c.toNat=n:=fun e=>h (by
 rw[←UInt8.toNat_inj,e];rw[UInt8.toNat_ofNat'];omega)
section
variable{T:Tbl}[Zat T]
theorem zib(c:UInt8):Zb T 189 [u8 c.toNat]=some (.b (isD c)):=by
 rw[zab Zat.h189 rfl,b189];by_cases h1:48≤c.toNat
 ·simp -implicitDefEqProofs[isD,h1]
 ·simp -implicitDefEqProofs[isD,h1]
theorem zgq(c:UInt8):Zb T 190 [u8 c.toNat]=some (.b (isL c)):=by
 rw[zab Zat.h190 rfl,b190];by_cases h1:97≤c.toNat<;>by_cases h2:c.toNat≤122<;>by_cases h3:65≤c.toNat<;>by_cases h4:c.toNat≤90<;>by_cases h5:c.toNat=95 <;>
  simp -implicitDefEqProofs[isL,h1,h2,h3,h4,h5]
end
section
variable{T:Tbl}
theorem zwp(c:UInt8)(l:List UInt8)(hl:l.length≤1000)(R:Bool):∀i:Nat,(i≤l.length∧(l.drop i).contains c=R) →
  Ze T 0 0 (.norm false []) l181_0 ⟨[(0,u8 c.toNat),(3,.s l),(4,.i .i64 i)],[],2⟩=if R=true then some (.r,⟨[(2,.i .i64 3)],[],2⟩) else some (.n,⟨[],[],2⟩):=by
 refine zaw (fun i:Nat=>⟨[(0,u8 c.toNat),(3,.s l),(4,.i .i64 i)],[],2⟩) _ (fun i=>l.length-i) _ ?_
 rintro i ⟨hi,hR⟩
 by_cases h0:i<l.length
 ·have hg:l[i]? = some (l[i]'h0):=Ya h0;have hd:=Yd h0;have hw:IntKind.wrap .i64 ((i:Int)+1)=((i+1:Nat):Int):=zac _ (by omega);rw[hd,List.contains_cons]at hR;by_cases hc:(l[i]'h0).toNat=c.toNat
  ·right;have:c=l[i]'h0:=(UInt8.toNat_inj.1 hc).symm;have hR':R=true:=by rw[←hR,this];simp
   subst hR';clear hR hd;constructor<;>simp -implicitDefEqProofs[l181_0,h0,hg,hc]
  ·left;have hne:(c == l[i]'h0)=false:=by
    rw[beq_eq_false_iff_ne];exact fun e=>hc (by rw[e])
   rw[hne,Yfo]at hR;refine⟨i+1,⟨h0,hR⟩,by show l.length-(i+1)<l.length-i;omega,?_,rfl⟩;clear hd hne;simp -implicitDefEqProofs[l181_0,h0,hg,hc,hw]
 ·right;have:i=l.length:=by omega
  subst this;rw[Y0]at hR;subst hR;constructor<;>simp -implicitDefEqProofs[l181_0]
end
section
variable{T:Tbl}[Zat T]
theorem zel(c:UInt8):Zb T 181 [u8 c.toNat]=some (.i .i64 (Zh c)):=by
 have h1:=zib (T:=T) c;have h2:=zgq (T:=T) c;have h:=zwp (T:=T) c Zgz (by decide) _ 0 ⟨by decide,rfl⟩;rw[Yae,show Zgz.contains c=isS c from rfl]at h;simp only[Zgz]at h;simp at h;rw[zab Zat.h181 rfl,b181];cases e1:isD c<;>cases e2:isL c<;>cases e3:isS c<;>simp only[e3]at h<;>simp at h<;>simp -implicitDefEqProofs[Zh,h1,h2,h,e1,e2,e3]
theorem zgd(k:Nat)(c:UInt8):Zb T 180 [.i .i64 k,u8 c.toNat]=some (.b (Zan k c)):=by
 have h1:=zib (T:=T) c;have h2:=zgq (T:=T) c;rw[zab Zat.h180 rfl,b180];by_cases k1:k=1
 ·subst k1;cases e1:isD c<;>cases e2:isL c<;>simp -implicitDefEqProofs[Zan,h1,h2,e1,e2]
 ·have k1':¬ (k:Int)=1:=by omega
  by_cases k2:k=2
  ·subst k2;cases e1:isD c<;>cases e2:isL c<;>simp -implicitDefEqProofs[Zan,h1,h2,e1,e2]
  ·have k2':¬ (k:Int)=2:=by omega
   simp -implicitDefEqProofs[Zan,h1,h2,k1,k2,k1',k2']
theorem zem(k:Nat):Zb T 182 [.i .i64 k]=some (.i .i64 (Zag k)):=by
 rw[zab Zat.h182 rfl,b182];by_cases k1:k=1
 ·subst k1;simp -implicitDefEqProofs[Zag]
 ·have k1':¬ (k:Int)=1:=by omega
  by_cases k2:k=2
  ·subst k2;simp -implicitDefEqProofs[Zag]
  ·have k2':¬ (k:Int)=2:=by omega
   simp -implicitDefEqProofs[Zag,k1,k2,k1',k2']
def Zci(s:List UInt8)(i:Nat)(note:Bool)(acc:List Wd):St:=
 ⟨[(0,.s s),(4,.bs (.loc 4) 1 3 0 acc.length),(5,.b note),(6,.i .i64 i)],[(.loc 4,⟨1,.own,3,Zz acc⟩)],3⟩
def Zer:Except Nat (List Wd)→Option (Ex×St)
 | .ok ws=>some (.n,⟨[(4,.bs (.loc 4) 1 3 0 ws.length)],[(.loc 4,⟨1,.own,3,Zz ws⟩)],3⟩)
 | .error e=>some (.r,⟨[(2,.sl [] .an),(3,.i .i64 e)],[],2⟩)
def Zmu(acc:List Wd)(i:Nat):Prop:=∀k t a,acc.getLast? = some (k,t,a)→a+t.length≤i
theorem zwq(s:List UInt8)(hs:s.length≤4000)(i:Nat)(h0:i<s.length)(note:Bool)(acc:List Wd)(ha:acc.length≤i)(c:UInt8)(hc:s[i]'h0=c)
  (hsk:((if c=35 then true else if c=10 then false else note) || isB c)=true) :
  evX (orc T) T 0 l168_0 (Zci s i note acc)=some (.n,Zci s (i+1) (if c=35 then true else if c=10 then false else note) acc):=by
 have hg:s[i]? = some c:=by rw[Ya h0,hc]
 have hw:IntKind.wrap .i64 ((i:Int)+1)=((i+1:Nat):Int):=zac _ (by omega);rw[z29]at hsk;have e35:=zhx c 35 (by decide);have e10:=zhx c 10 (by decide);rw[show UInt8.ofNat 35=35 from rfl]at e35;rw[show UInt8.ofNat 10=10 from rfl]at e10;simp only[e35,e10]at hsk ⊢;obtain⟨n,hn⟩:∃n,n=c.toNat:=⟨_,rfl⟩;rw[←hn]at hsk ⊢;have hn':=hn.symm;clear e35 e10 hn;by_cases c35:n=35
 ·subst c35;simp -implicitDefEqProofs[l168_0,Zci,h0,hg,hc,hn',hw]
 ·by_cases c10:n=10
  ·subst c10;simp -implicitDefEqProofs[l168_0,Zci,h0,hg,hc,hn',hw]
  ·cases note with
   | true=>simp -implicitDefEqProofs[l168_0,Zci,h0,hg,hc,hn',hw,c35,c10]
   | false=>
    by_cases c32:n=32
    ·subst c32;simp -implicitDefEqProofs[l168_0,Zci,h0,hg,hc,hn',hw]
    ·by_cases c9:n=9
     ·subst c9;simp -implicitDefEqProofs[l168_0,Zci,h0,hg,hc,hn',hw]
     ·have c13:n=13:=by simpa[c35,c10,c32,c9]using hsk
      subst c13;simp -implicitDefEqProofs[l168_0,Zci,h0,hg,hc,hn',hw]
theorem zcl(pre:List Wd)(k a:Nat)(t:List UInt8):(Zz (pre++[(k,t,a)]))[pre.length]? = some [.i .i64 k,.s t,.i .i64 a]:=by
 simp[Zz,wdR]
theorem zwr(s:List UInt8)(hs:s.length≤4000)(i:Nat)(h0:i<s.length)(c:UInt8)(hc:s[i]'h0=c)
  (c35:¬ c.toNat=35) (c10:¬ c.toNat=10) (c32:¬ c.toNat=32) (c9:¬ c.toNat=9) (c13:¬ c.toNat=13) (k:Nat) (hk0:Zh c=k) (hz:¬ k=0) :
  evX (orc T) T 0 l168_0 (Zci s i false [])=some (.n,Zci s (i+1) false [(k,[c],i)]):=by
 have hg:s[i]? = some c:=by rw[Ya h0,hc]
 have hw:IntKind.wrap .i64 ((i:Int)+1)=((i+1:Nat):Int):=zac _ (by omega);have hk:=zel (T:=T) c;rw[hk0]at hk;have b1:(i:Int)+1≤s.length:=by omega
 have b2:List.drop i (List.take (i+1) s)=[c]:=by
  rw[Ydb,Y9,Yd h0,hc]
  rfl
 have hm:=zem (T:=T) k;have hq:=zc9 k;have hq':¬ ((Zag k:Nat):Int)<1:=by omega
 have hz':¬ (k:Int)=0:=by omega
 simp -implicitDefEqProofs[l168_0,Zci,Zz,wdR,h0,hg,hc,hw,c35,c10,c32,c9,c13,hk,hm,b1,b2,hz,hz',hq,hq']
theorem zk4(s:List UInt8)(hs:s.length≤4000)(i:Nat)(h0:i<s.length)(c:UInt8)(hc:s[i]'h0=c)
  (c35:¬ c.toNat=35) (c10:¬ c.toNat=10) (c32:¬ c.toNat=32) (c9:¬ c.toNat=9) (c13:¬ c.toNat=13) (hk0:Zh c=0) :
  Zbe (evX (orc T) T 0 l168_0 (Zci s i false []))=true∧Za8 0 0 (Gh.norm false [4]) (evX (orc T) T 0 l168_0 (Zci s i false []))=Zer (.error i):=by
 have hg:s[i]? = some c:=by rw[Ya h0,hc]
 have hw:IntKind.wrap .i64 ((i:Int)+1)=((i+1:Nat):Int):=zac _ (by omega);have hk:=zel (T:=T) c;rw[hk0]at hk;have b1:(i:Int)+1≤s.length:=by omega
 have b2:List.drop i (List.take (i+1) s)=[c]:=by
  rw[Ydb,Y9,Yd h0,hc]
  rfl
 constructor<;>simp -implicitDefEqProofs[l168_0,Zci,Zer,Zz,wdR,h0,hg,hc,hw,c35,c10,c32,c9,c13,hk,b1,b2]
theorem zws(s:List UInt8)(hs:s.length≤4000)(i:Nat)(h0:i<s.length)(c:UInt8)(hc:s[i]'h0=c)
  (c35:¬ c.toNat=35) (c10:¬ c.toNat=10) (c32:¬ c.toNat=32) (c9:¬ c.toNat=9) (c13:¬ c.toNat=13) (pre:List Wd) (hp:pre.length<i) (k0 a0:Nat) (t0:List UInt8) (ht0:a0+t0.length≤i) (hadj:¬ (a0+t0.length=i∧Zan k0 c=true)) (k:Nat) (hk0:Zh c=k) (hz:¬ k=0) :
  evX (orc T) T 0 l168_0 (Zci s i false (pre++[(k0,t0,a0)]))=some (.n,Zci s (i+1) false (pre++[(k0,t0,a0)]++[(k,[c],i)])):=by
 have hg:s[i]? = some c:=by rw[Ya h0,hc]
 have hw:IntKind.wrap .i64 ((i:Int)+1)=((i+1:Nat):Int):=zac _ (by omega);have hwi:IntKind.wrap .i64 (i:Int)=(i:Int):=zac _ (by omega);have b1:(i:Int)+1≤s.length:=by omega
 have b2:List.drop i (List.take (i+1) s)=[c]:=by
  rw[Ydb,Y9,Yd h0,hc]
  rfl
 have hmo:=zgd (T:=T) k0 c;have hl:=zcl pre k0 a0 t0;have hll:(Zz (pre++[(k0,t0,a0)])).length=pre.length+1:=by simp
 have hl2:=zcl (pre++[(k0,t0,a0)]) k i [c];have hll2:(Zz (pre++[(k0,t0,a0)]++[(k,[c],i)])).length=pre.length+2:=by simp
 have hpu:wkL (List.take (pre.length+1) (Zz (pre++[(k0,t0,a0)]))++[[AV.i .i64 k,.s [c],.i .i64 i]])=Zz (pre++[(k0,t0,a0)]++[(k,[c],i)]):=by
  have:=zjt (pre++[(k0,t0,a0)]) k i [c]
  rwa [Yk,Ybo]at this
 have hwp:IntKind.wrap .i64 (pre.length:Int)=(pre.length:Int):=zac _ (by omega);have hwp1:IntKind.wrap .i64 ((pre.length:Int)+1)=(pre.length:Int)+1:=zac _ (by omega);have hlt:(pre.length:Int)<(pre.length:Int)+1:=by omega
 have hws:IntKind.wrap .i64 ((a0:Int)+t0.length)=((a0:Int)+t0.length):=zac _ (by omega);have hk:=zel (T:=T) c;rw[hk0]at hk;have hm:=zem (T:=T) k;have hq:=zc9 k;have hq':¬ ((Zag k:Nat):Int)<1:=by omega
 have hz':¬ (k:Int)=0:=by omega
 have hal:(pre++[(k0,t0,a0)]).length=pre.length+1:=by simp
 have hal2:(pre++[(k0,t0,a0)]++[(k,[c],i)]).length=pre.length+2:=by simp
 have hpl:pre.length≤4294967294:=by omega
 unfold Zci;rw[hal,hal2];rw[hal]at hl2;have g1:=zca (pre++[(k0,t0,a0)]);have g2:=zcz (pre++[(k0,t0,a0)]);have g3:=zca (pre++[(k0,t0,a0)]++[(k,[c],i)]);have g4:=zcz (pre++[(k0,t0,a0)]++[(k,[c],i)]);generalize Zz (pre++[(k0,t0,a0)]++[(k,[c],i)])=RW2 at *
 generalize Zz (pre++[(k0,t0,a0)])=RW at *
 generalize pre.length=m at *
 obtain⟨hx1,hgE⟩:=Ye.1 hl;have hT:List.take (m+1) RW=RW:=Yb (by omega);rw[hT]at hpu;have hl3:(RW++[[AV.i .i64 k,.s [c],.i .i64 i]])[m+1]? = some [AV.i .i64 k,.s [c],.i .i64 i]:=by
  rw[Yh (by omega),hll,Ybn]
  rfl
 obtain⟨hx3,hgE3⟩:=Ye.1 hl3;have hm1:((m:Int)+1).toNat=m+1:=by omega
 by_cases had:a0+t0.length=i
 ·have had':(a0:Int)+t0.length=i:=by omega
  have hmm:Zan k0 c=false:=by simpa[had]using hadj
  simp -implicitDefEqProofs[l168_0,h0,hg,hc,hw,hwi,c35,c10,c32,c9,c13,hk,hm,b1,b2,hz,hz',hq,hq',hmo,hl,hll,hT,hl3,hll2,hpu,hm1,hwp,hwp1,hws,hlt,hgE,hgE3,had',hmm,hpl,g1,g2,g3,g4]
 ·have had':¬ (a0:Int)+t0.length=i:=by omega
  simp -implicitDefEqProofs[l168_0,h0,hg,hc,hw,hwi,c35,c10,c32,c9,c13,hk,hm,b1,b2,hz,hz',hq,hq',hmo,hl,hll,hT,hl3,hll2,hpu,hm1,hwp,hwp1,hws,hlt,hgE,hgE3,had',hpl,g1,g2,g3,g4]
theorem zk5(s:List UInt8)(hs:s.length≤4000)(i:Nat)(h0:i<s.length)(c:UInt8)(hc:s[i]'h0=c)
  (c35:¬ c.toNat=35) (c10:¬ c.toNat=10) (c32:¬ c.toNat=32) (c9:¬ c.toNat=9) (c13:¬ c.toNat=13) (pre:List Wd) (hp:pre.length<i) (k0 a0:Nat) (t0:List UInt8) (ht0:a0+t0.length≤i) (hadj:¬ (a0+t0.length=i∧Zan k0 c=true)) (hk0:Zh c=0) :
  Zbe (evX (orc T) T 0 l168_0 (Zci s i false (pre++[(k0,t0,a0)])))=true∧Za8 0 0 (Gh.norm false [4]) (evX (orc T) T 0 l168_0 (Zci s i false (pre++[(k0,t0,a0)])))=Zer (.error i):=by
 obtain⟨k,hkk⟩:∃k:Nat,k=0:=⟨_,rfl⟩;rw[←hkk]at hk0;have hg:s[i]? = some c:=by rw[Ya h0,hc]
 have hw:IntKind.wrap .i64 ((i:Int)+1)=((i+1:Nat):Int):=zac _ (by omega);have hwi:IntKind.wrap .i64 (i:Int)=(i:Int):=zac _ (by omega);have b1:(i:Int)+1≤s.length:=by omega
 have b2:List.drop i (List.take (i+1) s)=[c]:=by
  rw[Ydb,Y9,Yd h0,hc]
  rfl
 have hmo:=zgd (T:=T) k0 c;have hl:=zcl pre k0 a0 t0;have hll:(Zz (pre++[(k0,t0,a0)])).length=pre.length+1:=by simp
 have hl2:=zcl (pre++[(k0,t0,a0)]) k i [c];have hll2:(Zz (pre++[(k0,t0,a0)]++[(k,[c],i)])).length=pre.length+2:=by simp
 have hpu:wkL (List.take (pre.length+1) (Zz (pre++[(k0,t0,a0)]))++[[AV.i .i64 k,.s [c],.i .i64 i]])=Zz (pre++[(k0,t0,a0)]++[(k,[c],i)]):=by
  have:=zjt (pre++[(k0,t0,a0)]) k i [c]
  rwa [Yk,Ybo]at this
 have hwp:IntKind.wrap .i64 (pre.length:Int)=(pre.length:Int):=zac _ (by omega);have hwp1:IntKind.wrap .i64 ((pre.length:Int)+1)=(pre.length:Int)+1:=zac _ (by omega);have hlt:(pre.length:Int)<(pre.length:Int)+1:=by omega
 have hws:IntKind.wrap .i64 ((a0:Int)+t0.length)=((a0:Int)+t0.length):=zac _ (by omega);have hk:=zel (T:=T) c;rw[hk0]at hk;have hm:=zem (T:=T) k;have hq:=zc9 k;have hz':(k:Int)=0:=by omega
 have hal:(pre++[(k0,t0,a0)]).length=pre.length+1:=by simp
 have hal2:(pre++[(k0,t0,a0)]++[(k,[c],i)]).length=pre.length+2:=by simp
 have hpl:pre.length≤4294967294:=by omega
 unfold Zci Zer;rw[hal];rw[hal]at hl2;have g1:=zca (pre++[(k0,t0,a0)]);have g2:=zcz (pre++[(k0,t0,a0)]);have g3:=zca (pre++[(k0,t0,a0)]++[(k,[c],i)]);have g4:=zcz (pre++[(k0,t0,a0)]++[(k,[c],i)]);generalize Zz (pre++[(k0,t0,a0)]++[(k,[c],i)])=RW2 at *
 generalize Zz (pre++[(k0,t0,a0)])=RW at *
 generalize pre.length=m at *
 obtain⟨hx1,hgE⟩:=Ye.1 hl;have hT:List.take (m+1) RW=RW:=Yb (by omega);rw[hT]at hpu;have hl3:(RW++[[AV.i .i64 k,.s [c],.i .i64 i]])[m+1]? = some [AV.i .i64 k,.s [c],.i .i64 i]:=by
  rw[Yh (by omega),hll,Ybn]
  rfl
 obtain⟨hx3,hgE3⟩:=Ye.1 hl3;have hm1:((m:Int)+1).toNat=m+1:=by omega
 by_cases had:a0+t0.length=i
 ·have had':(a0:Int)+t0.length=i:=by omega
  have hmm:Zan k0 c=false:=by simpa[had]using hadj
  constructor<;>simp -implicitDefEqProofs[l168_0,h0,hg,hc,hw,hwi,c35,c10,c32,c9,c13,hk,hm,b1,b2,hz',hmo,hl,hll,hT,hl3,hll2,hpu,hm1,hwp,hwp1,hws,hlt,hgE,hgE3,had',hmm,hpl,g1,g2,g3,g4]
 ·have had':¬ (a0:Int)+t0.length=i:=by omega
  constructor<;>simp -implicitDefEqProofs[l168_0,h0,hg,hc,hw,hwi,c35,c10,c32,c9,c13,hk,hm,b1,b2,hz',hmo,hl,hll,hT,hl3,hll2,hpu,hm1,hwp,hwp1,hws,hlt,hgE,hgE3,had',hpl,g1,g2,g3,g4]
theorem zwt(pre:List Wd)(k a:Nat)(t t':List UInt8):(Zz (pre++[(k,t,a)])).set pre.length [.i .i64 k,.s t',.i .i64 a]=Zz (pre++[(k,t',a)]):=by
 have e:Zz (pre++[(k,t,a)])=Zz pre++[wdR (k,t,a)]:=by simp[Zz]
 have e':Zz (pre++[(k,t',a)])=Zz pre++[wdR (k,t',a)]:=by simp[Zz]
 rw[e,e',Yar _ _ (by simp),zd5,Ybn]
 rfl
theorem zzy(s:List UInt8)(hs:s.length≤4000)(i:Nat)(h0:i<s.length)(c:UInt8)(hc:s[i]'h0=c)
  (c35:¬ c.toNat=35) (c10:¬ c.toNat=10) (c32:¬ c.toNat=32) (c9:¬ c.toNat=9) (c13:¬ c.toNat=13) (pre:List Wd) (hp:pre.length<i) (k0 a0:Nat) (t0:List UInt8) (had:a0+t0.length=i) (hmm:Zan k0 c=true) (hz:¬ k0=0) :
  (t0.length+1≤Zag k0→evX (orc T) T 0 l168_0 (Zci s i false (pre++[(k0,t0,a0)]))=some (.n,Zci s (i+1) false (pre++[(k0,t0++[c],a0)]))) ∧
  (Zag k0<t0.length+1→Zbe (evX (orc T) T 0 l168_0 (Zci s i false (pre++[(k0,t0,a0)])))=true∧Za8 0 0 (Gh.norm false [4]) (evX (orc T) T 0 l168_0 (Zci s i false (pre++[(k0,t0,a0)])))=Zer (.error i)):=by
 have hg:s[i]? = some c:=by rw[Ya h0,hc]
 have hw:IntKind.wrap .i64 ((i:Int)+1)=((i+1:Nat):Int):=zac _ (by omega);have hwi:IntKind.wrap .i64 (i:Int)=(i:Int):=zac _ (by omega);have b1:(i:Int)+1≤s.length:=by omega
 have b2:List.drop i (List.take (i+1) s)=[c]:=by
  rw[Ydb,Y9,Yd h0,hc]
  rfl
 have hmo:=zgd (T:=T) k0 c;rw[hmm]at hmo;have hl:=zcl pre k0 a0 t0;have hll:(Zz (pre++[(k0,t0,a0)])).length=pre.length+1:=by simp
 have hl2:=zcl pre k0 a0 (t0++[c]);have hll2:(Zz (pre++[(k0,t0++[c],a0)])).length=pre.length+1:=by simp
 have hset:=zwt pre k0 a0 t0 (t0++[c]);have hwp:IntKind.wrap .i64 (pre.length:Int)=(pre.length:Int):=zac _ (by omega);have hlt:(pre.length:Int)<(pre.length:Int)+1:=by omega
 have had':(a0:Int)+t0.length=i:=by omega
 have hm:=zem (T:=T) k0;have hz':¬ (k0:Int)=0:=by omega
 have hal:(pre++[(k0,t0,a0)]).length=pre.length+1:=by simp
 have hal2:(pre++[(k0,t0++[c],a0)]).length=pre.length+1:=by simp
 have hcl:t0.length+1≤9223372036854775807:=by omega
 unfold Zci Zer;rw[hal,hal2];have g1:=zca (pre++[(k0,t0,a0)]);have g2:=zcz (pre++[(k0,t0,a0)]);have g3:=zca (pre++[(k0,t0++[c],a0)]);have g4:=zcz (pre++[(k0,t0++[c],a0)]);generalize Zz (pre++[(k0,t0++[c],a0)])=RW2 at *
 generalize Zz (pre++[(k0,t0,a0)])=RW at *
 generalize pre.length=m at *
 obtain⟨hx1,hgE⟩:=Ye.1 hl;obtain⟨hx2,hgE2⟩:=Ye.1 hl2;refine⟨fun hq=>?_,fun hq=>?_⟩
 ·have hq1:¬ Zag k0<t0.length+1:=by omega
  have hq2:¬ ((Zag k0:Nat):Int)<(t0.length:Int)+1:=by omega
  simp -implicitDefEqProofs[l168_0,h0,hg,hc,hw,hwi,c35,c10,c32,c9,c13,hm,b1,b2,hz,hz',hmo,hl,hll,hl2,hll2,hset,hwp,hlt,hgE,hgE2,had',hcl,hq1,hq2,g1,g2,g3,g4]
 ·have hq2:((Zag k0:Nat):Int)<(t0.length:Int)+1:=by omega
  constructor<;>simp -implicitDefEqProofs[l168_0,h0,hg,hc,hw,hwi,c35,c10,c32,c9,c13,hm,b1,b2,hz,hz',hmo,hl,hll,hl2,hll2,hset,hwp,hlt,hgE,hgE2,had',hcl,hq,hq2,g1,g2,g3,g4]
theorem zwu(s:List UInt8)(hs:s.length≤4000):∀y:Nat×Bool×List Wd,(y.1≤s.length∧y.2.2.length≤y.1∧(∀k t a,y.2.2.getLast? = some (k,t,a)→a+t.length≤y.1∧¬ k=0)) →
  Ze T 0 0 (.norm false [4]) l168_0 (Zci s y.1 y.2.1 y.2.2)=Zer (Zed (s.drop y.1) y.1 y.2.1 y.2.2):=by
 refine zaw (fun y:Nat×Bool×List Wd=>Zci s y.1 y.2.1 y.2.2) (fun y=>y.1≤s.length∧y.2.2.length≤y.1∧(∀k t a,y.2.2.getLast? = some (k,t,a)→a+t.length≤y.1∧¬ k=0)) (fun y=>s.length-y.1) (fun y=>Zer (Zed (s.drop y.1) y.1 y.2.1 y.2.2)) ?_
 rintro⟨i,note,acc⟩ ⟨hi,ha,he⟩
 simp only at hi ha he ⊢;by_cases h0:i<s.length
 ·obtain⟨c,hc⟩:∃c,s[i]'h0=c:=⟨_,rfl⟩;have hd:s.drop i=c::s.drop (i+1):=by rw[Yd h0,hc]
  by_cases hsk:((if c=35 then true else if c=10 then false else note) || isB c)=true
  ·left;refine⟨(i+1,(if c=35 then true else if c=10 then false else note),acc),⟨h0,by simp only;omega,fun k t a h=>by
    have:=he k t a h;simp only;omega⟩,by simp only;omega,zwq s hs i h0 note acc ha c hc hsk,?_⟩
   simp only;rw[hd]
   conv=>rhs;unfold Zed
   simp only[hsk,if_true]
  ·have hsk':=hsk;simp only[Ya0,not_or,Ydg]at hsk';obtain⟨h1,h2⟩:=hsk';have n35:c≠35:=fun e=>by simp[e]at h1
   have n10:c≠10:=fun e=>by subst e;simp[isB]at h2
   have hnote:note=false:=by simpa[n35,n10]using h1
   subst hnote;have hB:¬ c=32∧¬ c=9∧¬ c=13:=by
    simp only[isB,Ybs,decide_eq_false_iff_not]at h2;exact⟨h2.1.1.1,h2.1.1.2,h2.2⟩
   have c35:¬ c.toNat=35:=zwo (n:=35) (by decide) n35;have c10:¬ c.toNat=10:=zwo (n:=10) (by decide) n10;have c32:¬ c.toNat=32:=zwo (n:=32) (by decide) hB.1;have c9:¬ c.toNat=9:=zwo (n:=9) (by decide) hB.2.1;have c13:¬ c.toNat=13:=zwo (n:=13) (by decide) hB.2.2;have hn':(if c=35 then true else if c=10 then false else false)=false:=by simp[n35,n10]
   have hR:Zed (s.drop i) i false acc=if Zd8 (Zcr c i acc)=true then .error i else Zed (s.drop (i+1)) (i+1) false (Zcr c i acc):=by
    rw[hd]
    conv=>lhs;unfold Zed
    simp only[hn',h2,Bool.or_self,if_false,Y8]
   rw[hR];have hmp:=zc9 (Zh c);rcases Yc4 acc with rfl | ⟨pre,⟨k0,t0,a0⟩,rfl⟩
   ·have hs1:Zcr c i []=[(Zh c,[c],i)]:=rfl;have hb1:Zd8 [(Zh c,[c],i)]=decide (Zh c=0):=by
     simp[Zd8];omega
    rw[hs1,hb1];by_cases hk:Zh c=0
    ·right;rw[decide_eq_true hk,if_pos rfl];exact zk4 (T:=T) s hs i h0 c hc c35 c10 c32 c9 c13 hk
    ·left;rw[decide_eq_false hk,if_neg (by decide)];refine⟨(i+1,false,[(Zh c,[c],i)]),⟨h0,by simp,fun k t a h=>by
      simp at h;obtain⟨rfl,rfl,rfl⟩:=h;exact⟨by simp,hk⟩⟩,by simp only;omega,zwr (T:=T) s hs i h0 c hc c35 c10 c32 c9 c13 (Zh c) rfl hk,rfl⟩
   ·rw[Yc5]at he ha ⊢;obtain⟨e1,e2⟩:=he k0 t0 a0 (by simp);have hp:pre.length<i:=by
     simp at ha;omega
    by_cases hadj:a0+t0.length=i∧Zan k0 c=true
    ·have hs1:Zcr c i (pre++[(k0,t0,a0)])=pre++[(k0,t0++[c],a0)]:=by simp[Zcr,hadj.1,hadj.2]
     have hb1:Zd8 (pre++[(k0,t0++[c],a0)])=decide (Zag k0<t0.length+1):=by simp[Zd8,e2]
     rw[hs1,hb1];obtain⟨x1,x2⟩:=zzy (T:=T) s hs i h0 c hc c35 c10 c32 c9 c13 pre hp k0 a0 t0 hadj.1 hadj.2 e2;by_cases hq:Zag k0<t0.length+1
     ·right;rw[decide_eq_true hq,if_pos rfl];exact x2 hq
     ·left;rw[decide_eq_false hq,if_neg (by decide)];refine⟨(i+1,false,pre++[(k0,t0++[c],a0)]),⟨h0,by simp;omega,fun k t a h=>by
       simp at h;obtain⟨rfl,rfl,rfl⟩:=h;refine⟨?_,e2⟩;simp;omega⟩,by simp only;omega,x1 (by omega),rfl⟩
    ·have hs1:Zcr c i (pre++[(k0,t0,a0)])=pre++[(k0,t0,a0)]++[(Zh c,[c],i)]:=by
      unfold Zcr;simp only[Yd8,Yds,Yfh];rw[if_neg hadj]
     have hb1:Zd8 (pre++[(k0,t0,a0)]++[(Zh c,[c],i)])=decide (Zh c=0):=by
      simp[Zd8];omega
     rw[hs1,hb1];by_cases hk:Zh c=0
     ·right;rw[decide_eq_true hk,if_pos rfl];exact zk5 (T:=T) s hs i h0 c hc c35 c10 c32 c9 c13 pre hp k0 a0 t0 e1 hadj hk
     ·left;rw[decide_eq_false hk,if_neg (by decide)];refine⟨(i+1,false,pre++[(k0,t0,a0)]++[(Zh c,[c],i)]),⟨h0,by simp;omega,fun k t a h=>by
       simp only[Yd8,Yds,Yfh,Option.some.injEq,Prod.mk.injEq]at h;obtain⟨rfl,rfl,rfl⟩:=h;exact⟨by simp,hk⟩⟩,by simp only;omega,zws (T:=T) s hs i h0 c hc c35 c10 c32 c9 c13 pre hp k0 a0 t0 e1 hadj (Zh c) rfl hk,rfl⟩
 ·right;have hi2:i=s.length:=by omega
  subst hi2;rw[Y0];have er:Zed [] s.length note acc=.ok acc:=rfl;rw[er];simp only[Zer,Zci];have g1:=zca acc;have g2:=zcz acc;have g3:=zd5 acc;generalize Zz acc=RW at *
  generalize acc.length=m at *
  constructor<;>simp -implicitDefEqProofs[l168_0,g1,g2]
def Zfv(r:Except Nat (List Wd)):AV:=
 match r with
 | .ok ws=>.tup [.sl (Zz ws) .an,.i .i64 (-1)]
 | .error e=>.tup [.sl [] .an,.i .i64 e]
theorem zsx(s:List UInt8)(hs:s.length≤1000000):Zb T 168 [.s s]=some (Zfv (Zh8 s)):=by
 rw[zab Zat.h168 rfl,b168];unfold Zh8;by_cases h1:4000<s.length
 ·have h1':(4000:Int)<s.length:=by omega
  rw[if_pos h1];simp -implicitDefEqProofs[Zfv,h1,h1']
 ·have h1':¬ (4000:Int)<s.length:=by omega
  rw[if_neg h1];have h:=zwu (T:=T) s (by omega) (0,false,[]) ⟨Yq _,Yg _,fun k t a h=>by simp at h⟩;simp only[Yae]at h;rw[zxz]at h;have e0:Zz []=[]:=rfl;simp only[Zci,e0,Yag,Yr]at h;cases hr:Zc3 (s.drop (Za2 false s)) (Za2 false s) []with
  | ok ws=>
   rw[hr]at h;simp only[Zer]at h;have g1:=zca ws;have g2:=zcz ws;have g3:=zd5 ws;simp only[Zfv];generalize Zz ws=RW at *
   generalize ws.length=m at *
   have ht:List.take m RW=RW:=Yb (by omega);simp -implicitDefEqProofs[h1,h1',h,g1,g2,ht,g3]
  | error e=>
   rw[hr]at h;simp only[Zer]at h;simp -implicitDefEqProofs[Zfv,h1,h1',h]
end
theorem znc:∀(n:Nat) (l:List UInt8) (i:Nat) (acc ws:List Wd),l.length=n→Zc3 l i acc=.ok ws→∃r,ws=acc++r:=by
 intro n
 induction n using Nat.strongRecOn with
 | _ n ih=>
  intro l i acc ws hl h;cases l with
  | nil=>rw[zfz]at h;cases h;exact⟨[],by simp⟩
  | cons c r=>
   rw[zgk]at h;split at h
   ·cases h
   ·split at h
    ·cases h
    ·obtain⟨r',hr'⟩:=ih _ (by simp only[Ybg,Yc]at hl ⊢;omega) _ _ _ _ rfl h;exact⟨_,by rw[hr',Y7]⟩
def Zfl(k:Int)(t:List UInt8):Except Nat (List Wd)→Bool
 | .ok [(k',t',_)]=>decide ((k':Int)=k)&&decide (t'=t)
 | _=>false
theorem zwv(k:Nat)(r:List UInt8):1≤Z1 k r∧Z1 k r≤r.length+1:=by
 unfold Z1;have:=(List.takeWhile_sublist (Zan k) (l:=r)).length_le;omega
theorem zsy(k:Int)(t:List UInt8)(ht:t.length≤4000):Zfl k t (Zh8 t)=Zbk k t:=by
 unfold Zh8;rw[if_neg (by omega)];cases t with
 | nil=>simp[Za2,zfz,Zfl,Zbk]
 | cons c r=>
  simp only[Yc]at ht;by_cases hsk:Za2 false (c::r)=0
  ·rw[hsk,Yae,zgk];obtain⟨f1,f2⟩:=zwv (Zh c) r;by_cases hk:Zh c=0
   ·rw[if_pos hk];simp only[Zfl,Zbk,hk];by_cases hk0:k=0
    ·simp[hk0]
    ·have:¬ (0:Int)=k:=fun h=>hk0 h.symm;simp[this]
   ·rw[if_neg hk];by_cases hm:Zag (Zh c)<Z1 (Zh c) r
    ·rw[if_pos hm];simp only[Zfl,Zbk];by_cases hfl:Z1 (Zh c) r=r.length+1
     ·have:¬ r.length+1≤Zag (Zh c):=by omega
      simp[this]
     ·simp[hfl]
    ·rw[if_neg hm,Ya8];by_cases hfl:Z1 (Zh c) r=r.length+1
     ·have e1:r.drop (Z1 (Zh c) r-1)=[]:=by
       rw[hfl];exact List.drop_eq_nil_of_le (by omega)
      have e2:(c::r).take (Z1 (Zh c) r)=c::r:=by
       rw[hfl];exact Yb (by simp)
      rw[e1,e2];simp only[Za2,List.drop_nil,zfz,Zfl,Zbk,hfl];have:r.length+1≤Zag (Zh c):=by omega
      by_cases hkk:(Zh c:Int)=k
      ·have hk0:k≠0:=by omega
       simp[hkk,hk0,this]
      ·simp[hkk]
     ·have hfalse:Zbk k (c::r)=false:=by simp[Zbk,hfl]
      rw[hfalse];generalize hws:Zc3 ((r.drop (Z1 (Zh c) r-1)).drop (Za2 false (r.drop (Z1 (Zh c) r-1)))) (0+Z1 (Zh c) r+Za2 false (r.drop (Z1 (Zh c) r-1))) [(Zh c,(c::r).take (Z1 (Zh c) r),0)]=res;cases res with
      | error e=>rfl
      | ok ws=>
       obtain⟨x,hx⟩:=znc _ _ _ _ _ rfl hws;rw[hx];cases x with
       | nil=>
        simp only[Ya2,Zfl];have hne:¬ (c::r).take (Z1 (Zh c) r)=c::r:=fun h=>by
         have:=congrArg List.length h;rw[Yx,Yc]at this;omega
        rw[decide_eq_false hne,Bool.and_false]
       | cons y x=>rfl
  ·have hle:=zq1 false (c::r);have hk:Zh c=0∨isB c=true∨c=35:=by
    right;by_cases hb:((if c=35 then true else if c=10 then false else false) || isB c)=true
    ·by_cases h35:c=35
     ·exact .inr h35
     ·simp[h35]at hb;exact .inl hb
    ·exfalso;apply hsk;simp only[Za2];rw[if_neg hb]
   have hk0:Zh c=0:=by
    rcases hk with h | h | h
    ·exact h
    ·simp only[isB,Ya0,decide_eq_true_eq]at h;rcases h with ((rfl | rfl) | rfl) | rfl<;>decide
    ·subst h;decide
   have hr:Zbk k (c::r)=false:=by
    simp only[Zbk,hk0];by_cases hk0:k=0
    ·simp[hk0]
    ·have:¬ (0:Int)=k:=fun h=>hk0 h.symm;simp[this]
   rw[hr]
   -- every word is shorter than the text
   have key:∀(l:List UInt8) (i:Nat),l.length<(c::r).length→Zfl k (c::r) (Zc3 l i [])=false:=by
    intro l i hl;cases l with
    | nil=>rw[zfz];rfl
    | cons d q=>
     rw[zgk];split
     ·rfl
     ·split
      ·rfl
      ·generalize hws:Zc3 ((q.drop (Z1 (Zh d) q-1)).drop (Za2 false (q.drop (Z1 (Zh d) q-1)))) (i+Z1 (Zh d) q+Za2 false (q.drop (Z1 (Zh d) q-1))) ([]++[(Zh d,(d::q).take (Z1 (Zh d) q),i)])=res;cases res with
       | error e=>rfl
       | ok ws=>
        obtain⟨x,hx⟩:=znc _ _ _ _ _ rfl hws;rw[hx];cases x with
        | nil=>
         simp only[Ya8,Ya2,Zfl];have hne:¬ (d::q).take (Z1 (Zh d) q)=c::r:=fun h=>by
          have:=congrArg List.length h;rw[Yx]at this;omega
         rw[decide_eq_false hne,Bool.and_false]
        | cons y x=>rfl
   exact key _ _ (by rw[Ybg];omega)
section
variable{T:Tbl}[Zat T]
theorem zo6(k a:Int)(t:List UInt8)(ht:t.length≤4000):Zb T 173 [.agg [.i .i64 k,.s t,.i .i64 a]]=some (.b (Zbk k t)):=by
 have c:=zsx (T:=T) t (by omega);rw[←zsy k t ht,zab Zat.h173 rfl,b173];cases hr:Zh8 t with
 | error e=>
  rw[hr]at c;simp only[Zfv]at c;have he:¬ (e:Int)<0:=by omega
  simp -implicitDefEqProofs[c,Zfl,he]
 | ok ws=>
  rw[hr]at c;simp only[Zfv]at c
  match ws with
  | []=>
   have e0:Zz []=[]:=rfl;rw[e0]at c;simp -implicitDefEqProofs[c,Zfl]
  | [(k',t',a')]=>
   have e1:Zz [(k',t',a')]=[[.i .i64 k',.s t',.i .i64 a']]:=rfl;rw[e1]at c;by_cases hk:(k':Int)=k
   ·by_cases htt:t'=t
    ·simp -implicitDefEqProofs[c,Zfl,hk,htt]
    ·simp -implicitDefEqProofs[c,Zfl,hk,htt]
   ·simp -implicitDefEqProofs[c,Zfl,hk]
  | w1::w2::r=>
   have hl:(Zz (w1::w2::r)).length=r.length+2:=by simp
   have hne:¬ ((r.length:Int)+2=1):=by omega
   have hne':¬ (r.length+2=1):=by omega
   have g1:=zca (w1::w2::r);have hone:Zfl k t (.ok (w1::w2::r))=false:=rfl;rw[hone];generalize Zz (w1::w2::r)=RW at *
   generalize r.length=m at *
   simp -implicitDefEqProofs[c,hl,hne,hne',g1]
end
section
variable{T:Tbl}[Zx T][Zab T][Zw T][Z9 T][Zat T][Zah T][Zai T]
theorem zs1(s:List UInt8)(hs:s.length≤4000):Zb T 480 [.s s]=some (.b (nameB s)):=by
 have c:=zo6 (T:=T) 2 0 s hs;unfold nameB;rw[zab Zai.h480 rfl,b480];generalize Zbk 2 s=B at *
 cases B with
 | false=>simp -implicitDefEqProofs[c]
 | true=>
  by_cases h1:s=[116]
  ·subst h1;simp -implicitDefEqProofs[c]
  by_cases h2:s=[121]
  ·subst h2;simp -implicitDefEqProofs[c]
  by_cases h3:s=[112]
  ·subst h3;simp -implicitDefEqProofs[c]
  by_cases h4:s=[108,101,116]
  ·subst h4;simp -implicitDefEqProofs[c]
  simp -implicitDefEqProofs[c,h1,h2,h3,h4]
abbrev hpQ(f:Fd):Heap:=[(.loc 3,⟨1,.str,2,[[.sl (Z7 f.lets) .an,.sl (Z4 f.outs) .an]]⟩),(.loc 7,⟨2,.str,3,[[.i .i64 0,.i .i64 0,.i .i64 0]]⟩)]
def Zj6(f:Fd)(dim pars:Int)(C:List (List Nd))(i:Nat)(lt:Int)(ok:Bool)(k:Nat):St:=
 ⟨[(1,.i .i64 dim),(2,.i .i64 pars),(3,.ptr (.loc 3) 1 2 0 0),(7,.ptr (.loc 7) 2 3 0 0),(8,.sl (Z4 C) .an),(9,.i .i64 i),(10,.i .i64 lt),(11,.b ok),(12,.i .i64 k)],hpQ f,4⟩
theorem zo9(f:Fd)(dim pars:Int)(C:List (List Nd))(i:Nat)(lt:Int)(ok:Bool)(hi:i<f.lets.length)(hl:f.lets.length≤10) :
  Ze T 0 2 (.norm false [1,2,3,7,8,9,10,11]) l469_0 (Zj6 f dim pars C i lt (ok&&!twB (f.lets.take 0) (f.lets[i]'hi).name) 0) =
   some (.n,⟨[(1,.i .i64 dim),(2,.i .i64 pars),(3,.ptr (.loc 3) 1 2 0 0),(7,.ptr (.loc 7) 2 3 0 0),(8,.sl (Z4 C) .an),(9,.i .i64 i),(10,.i .i64 lt),(11,.b (ok&&!twB (f.lets.take i) (f.lets[i]'hi).name))],hpQ f,4⟩):=by
 refine zan (fun k=>Zj6 f dim pars C i lt (ok&&!twB (f.lets.take k) (f.lets[i]'hi).name) k) i _ (fun k hk=>?_) ?_
 ·have hk1:k<f.lets.length:=by omega
  have hg:f.lets[k]? = some (f.lets[k]'hk1):=Ya hk1;have hgi:f.lets[i]? = some (f.lets[i]'hi):=Ya hi;have hk':(k:Int)<i:=by omega
  have hi':(i:Int)<f.lets.length:=by omega
  have hk1':(k:Int)<f.lets.length:=by omega
  have hws:=za8 hk (by omega);have hs:twB (f.lets.take (k+1)) (f.lets[i]'hi).name=(twB (f.lets.take k) (f.lets[i]'hi).name || decide ((f.lets[k]'hk1).name=(f.lets[i]'hi).name)):=by
   unfold twB;rw[Ys hk1,List.any_append];simp only[Yec,Yep,Bool.or_false]
  rw[hs];obtain⟨L,O⟩:=f;unfold Zj6 hpQ;dsimp only at *
  generalize twB (L.take k) (L[i]'hi).name=B at *
  clear hs;generalize hx:L[k]'hk1=x at *
  generalize hy:L[i]'hi=y at *
  obtain⟨xn,xc⟩:=x;obtain⟨yn,yc⟩:=y;dsimp only;cases hob:(ok&&!B) with
  | false=>
   have e:(ok&&!(B || decide (xn=yn)))=false:=by
    cases ok<;>cases B<;>simp_all
   rw[e];simp -implicitDefEqProofs[l469_0,hk,hk',hws]
  | true=>
   have e:(ok&&!(B || decide (xn=yn)))=!decide (xn=yn):=by
    cases ok<;>cases B<;>simp_all
   rw[e];by_cases hc:xn=yn
   ·simp -implicitDefEqProofs[l469_0,hk,hk',hk1,hk1',hi,hi',hg,hgi,hx,hy,hc,hws]
   ·simp -implicitDefEqProofs[l469_0,hk,hk',hk1,hk1',hi,hi',hg,hgi,hx,hy,hc,hws]
 ·unfold Zj6 hpQ;constructor<;>simp -implicitDefEqProofs[l469_0]
end
def Zf9(f:Fd)(dim pars:Int)(i:Nat):Option (Int×Int×Int):=
 if i<f.lets.length then match Zec dim pars f.lets i (f.lets.drop i) with
  | some q=>some q
  | none=>Ze0 dim pars f.lets.length 0 f.outs
 else Ze0 dim pars f.lets.length (i-f.lets.length) (f.outs.drop (i-f.lets.length))
def Zfm(q:Option (Int×Int×Int)):Option (Ex×St):=match q with
 | some (a,b,c)=>some (.r,⟨[(6,.b true),(7,.ptr (.loc 7) 1 3 0 0)],[(.loc 7,⟨1,.str,3,[[.i .i64 a,.i .i64 b,.i .i64 c]]⟩)],3⟩)
 | none=>some (.n,⟨[(7,.ptr (.loc 7) 1 3 0 0)],[(.loc 7,⟨1,.str,3,[[.i .i64 0,.i .i64 0,.i .i64 0]]⟩)],3⟩)
def stQ(f:Fd)(dim pars:Int)(i:Nat):St:=
 ⟨[(1,.i .i64 dim),(2,.i .i64 pars),(3,.ptr (.loc 3) 1 2 0 0),(7,.ptr (.loc 7) 2 3 0 0),(8,.sl (Z4 (codesD f)) .an),(9,.i .i64 i)],hpQ f,4⟩
theorem zjz{f:Fd}{i:Nat}(h:i<f.lets.length):(codesD f)[i]? = some (f.lets[i]'h).code:=by
 unfold codesD;rw[Ym (by simpa using h),Ybk,Ya h]
 rfl
theorem zj0{f:Fd}{i:Nat}(h:f.lets.length≤i)(h2:i-f.lets.length<f.outs.length):(codesD f)[i]? = some (f.outs[i-f.lets.length]'h2):=by
 unfold codesD;rw[Yh (by simpa using h),Yaz,Ya h2]
section
variable{T:Tbl}[Zx T][Zab T][Zw T][Z9 T][Zat T][Zah T][Zai T]
theorem zj1(c:List Nd)(dim pars lets:Int)(hl:c.length≤50000)(hn:thin 1000 c) :
  (0≤Za7 dim pars lets c∧Zb T 50 [.sl (Zt c) .an,.i .i64 dim,.i .i64 pars,.i .i64 lets]=some (.i .i64 (ptA dim pars lets c))∧0≤ptA dim pars lets c) ∨
  (∃p:Int,p<0∧Zb T 50 [.sl (Zt c) .an,.i .i64 dim,.i .i64 pars,.i .i64 lets]=some (.i .i64 p) ∧
   ((40<Zd3 c∧ptA dim pars lets c=c.length)∨(¬ 40<Zd3 c∧ptA dim pars lets c<0))):=by
 have c1:=zo7 (T:=T) c dim pars lets (by omega) hn;unfold ptA;by_cases h:0≤Za7 dim pars lets c
 ·left;rw[if_neg (by omega)];exact⟨h,c1,h⟩
 ·right;refine⟨_,by omega,c1,?_⟩;by_cases hd:40<Zd3 c
  ·left;exact⟨hd,by rw[if_pos ⟨by omega,hd⟩]⟩
  ·right;exact⟨hd,by rw[if_neg (fun hh=>hd hh.2)];omega⟩
end
abbrev Zhl(f:Fd)(Q:PoF)(LS OS:List Fz):Heap:=
 [(.loc 3,⟨1,.str,2,[[.sl (Z7 f.lets) .an,.sl (Z4 f.outs) .an]]⟩),(.loc 4,⟨2,.str,5,[[.b Q.t.1,.sl (Za Q.t.2.1) .an,.sl (Za Q.t.2.2) .an,.sl (Zd Q.y) .an,.sl (Zd Q.p) .an]]⟩),
  (.loc 9,⟨3,.sh,3,Zd LS⟩),(.loc 10,⟨4,.own,3,Zd OS⟩)]
def Zda(f:Fd)(Q:PoF)(L:Int)(LS OS:List Fz)(seen i:Nat):St:=
 ⟨[(2,.i .i64 L),(3,.ptr (.loc 3) 1 2 0 0),(4,.ptr (.loc 4) 2 5 0 0),(9,.bs (.loc 9) 3 3 0 LS.length),(10,.bs (.loc 10) 4 3 0 OS.length),(11,.sl (Z4 (codesD f)) .an),(12,.i .i64 seen),(13,.i .i64 i)],Zhl f Q LS OS,6⟩
def Zi3(kind at_:Int):Ex×St:=(.r,⟨[(6,.sl [] .an),(7,.i .i64 kind),(8,.i .i64 at_)],[],2⟩)
def Zi4(OS:List Fz):Ex×St:=(.n,⟨[(10,.bs (.loc 10) 1 3 0 OS.length)],[(.loc 10,⟨1,.own,3,Zd OS⟩)],3⟩)
section
variable{T:Tbl}[Zx T][Zab T][Zw T][Z9 T][Z5 T][Za1 T][Zv T][Zas T][Zd6 T][Zc9 T][Zap T][Zah T][Zai T]
theorem z88(f:Fd)(Q:PoF)(L:Int)(LS OS:List Fz)(seen:Nat) :
  Zbe (evX (orc T) T 0 l471_0 (Zda f Q L LS OS seen (codesD f).length))=true∧Za8 0 0 (.norm false [10]) (evX (orc T) T 0 l471_0 (Zda f Q L LS OS seen (codesD f).length))=some (Zi4 OS):=by
 unfold Zda Zi4 Zhl;generalize codesD f=C at *
 obtain⟨⟨t0,t1,t2⟩,y,p⟩:=Q;obtain⟨L0,O⟩:=f;dsimp only;constructor<;>simp -implicitDefEqProofs[l471_0]
theorem zw0(f:Fd)(Q:PoF)(L:Int)(LS OS:List Fz)(seen i:Nat)(c:List Nd)(hg:(codesD f)[i]? = some c)(hl:(codesD f).length≤1000)(V:Fz)(kind at_:Nat)(hk:kind≠0)(hs:seen≤10000)(ha:at_≤10000)
  (cw:Zb T 464 [.sl (Zt c) .an,ept Q,.sl (Zd LS) .an,.i .i64 L]=some (.tup [efz V,.i .i64 kind,.i .i64 at_])) :
  Zbe (evX (orc T) T 0 l471_0 (Zda f Q L LS OS seen i))=true∧Za8 0 0 (.norm false [10]) (evX (orc T) T 0 l471_0 (Zda f Q L LS OS seen i))=some (Zi3 kind ((seen+at_:Nat):Int)):=by
 obtain⟨hi,hge⟩:=Ye.1 hg;have hi':(i:Int)<(codesD f).length:=by omega
 have hw:IntKind.wrap .i64 ((seen:Int)+at_)=((seen+at_:Nat):Int):=by rw[zac _ (by omega)];omega
 unfold Zda Zi3 Zhl;generalize codesD f=C at *
 obtain⟨⟨t0,t1,t2⟩,y,p⟩:=Q;obtain⟨v0,v1,v2⟩:=V;obtain⟨L0,O⟩:=f;dsimp only at *
 have ht:List.take LS.length LS=LS:=Ya7;constructor<;>simp -implicitDefEqProofs[l471_0,hi,hi',hg,hge,cw,hk,hw,ht,zkw Zap.h464]
theorem z89(f:Fd)(Q:PoF)(L:Int)(LS OS:List Fz)(seen i:Nat)(c:List Nd)(hg:(codesD f)[i]? = some c)(hl:(codesD f).length≤1000)(V:Fz)(hs:seen≤10000)(hc:c.length≤10000)(hLS:LS.length=i)(hif:i<f.lets.length)
  (cw:Zb T 464 [.sl (Zt c) .an,ept Q,.sl (Zd LS) .an,.i .i64 L]=some (.tup [efz V,.i .i64 0,.i .i64 0])) :
  evX (orc T) T 0 l471_0 (Zda f Q L LS OS seen i)=some (.n,Zda f Q L (LS++[V]) OS (seen+c.length) (i+1)):=by
 obtain⟨hi,hge⟩:=Ye.1 hg;have hi':(i:Int)<(codesD f).length:=by omega
 have hif':(i:Int)<f.lets.length:=by omega
 have hw:IntKind.wrap .i64 ((seen:Int)+c.length)=((seen+c.length:Nat):Int):=by rw[zac _ (by omega)];omega
 have hws:=za8 hi (by omega);have hp:=zbw LS V;have h32:i+1≤4294967296:=by omega
 unfold Zda Zhl;generalize codesD f=C at *
 obtain⟨⟨t0,t1,t2⟩,y,p⟩:=Q;obtain⟨v0,v1,v2⟩:=V;obtain⟨L0,O⟩:=f;dsimp only at *
 have ht:List.take i LS=LS:=by rw[←hLS,Ya7]
 rw[Yk,hLS];simp -implicitDefEqProofs[l471_0,hi,hi',hg,hge,cw,hw,hws,hif,hif',ht,hp,h32,hLS,zkw Zap.h464]
theorem z9a(f:Fd)(Q:PoF)(L:Int)(LS OS:List Fz)(seen i:Nat)(c:List Nd)(hg:(codesD f)[i]? = some c)(hl:(codesD f).length≤1000)(V:Fz)(hs:seen≤10000)(hc:c.length≤10000)(hif:f.lets.length≤i)(k:Nat)(hOS:OS.length=k)(hk:k≤10000)
  (cw:Zb T 464 [.sl (Zt c) .an,ept Q,.sl (Zd LS) .an,.i .i64 L]=some (.tup [efz V,.i .i64 0,.i .i64 0])) :
  evX (orc T) T 0 l471_0 (Zda f Q L LS OS seen i)=some (.n,Zda f Q L LS (OS++[V]) (seen+c.length) (i+1)):=by
 obtain⟨hi,hge⟩:=Ye.1 hg;have hi':(i:Int)<(codesD f).length:=by omega
 have hif':¬ (i:Int)<f.lets.length:=by omega
 have hif2:¬ i<f.lets.length:=by omega
 have hw:IntKind.wrap .i64 ((seen:Int)+c.length)=((seen+c.length:Nat):Int):=by rw[zac _ (by omega)];omega
 have hws:=za8 hi (by omega);have hp:=zbw OS V;have h32:k+1≤4294967296:=by omega
 unfold Zda Zhl;generalize codesD f=C at *
 obtain⟨⟨t0,t1,t2⟩,y,p⟩:=Q;obtain⟨v0,v1,v2⟩:=V;obtain⟨L0,O⟩:=f;dsimp only at *
 have ht:List.take k OS=OS:=by rw[←hOS,Ya7]
 have ht2:List.take LS.length LS=LS:=Ya7;rw[Yk,hOS];simp -implicitDefEqProofs[l471_0,hi,hi',hg,hge,cw,hw,hws,hif2,hif',ht,ht2,hp,h32,hOS,zkw Zap.h464]
end
theorem zk6(lim:Nat)(P:Po)(ls:List Rat):∀(l:List Nd) (i:Nat) (s:List Rat),(Zf lim P ls i s l).2.2≤i+l.length
 | [],i,s=>by show 0≤_;omega
 | x::r,i,s=>by
  have hk:∀(v:Rat×Bool),(Za0 lim v i).2.2≤i:=by
   intro v;unfold Za0;split
   ·exact Yg _
   ·split
    ·exact Yg _
    ·exact Yq _
  rw[Zf,Yc];split
  ·have:=hk (Zae P ls s x).1;omega
  ·have:=zk6 lim P ls r (i+1) ((Zae P ls s x).1.1::(Zae P ls s x).2);omega
def evA(lim:Nat)(P:Po)(f:Fd)(i n0:Nat)(ls os:List Rat):List Rat×Nat×Nat:=
 if i<f.lets.length then
  (if (Zck lim P n0 ls ((f.lets.drop i).map (·.code))).2.2.1≠0 then ([],(Zck lim P n0 ls ((f.lets.drop i).map (·.code))).2.2)
   else Zc0 lim P (Zck lim P n0 ls ((f.lets.drop i).map (·.code))).2.1 (Zck lim P n0 ls ((f.lets.drop i).map (·.code))).1 [] f.outs)
 else Zc0 lim P ls n0 os (f.outs.drop (i-f.lets.length))
theorem zz1(lim:Nat)(P:Po)(f:Fd):evA lim P f 0 0 [] []=evD lim P f:=by
 unfold evA evD;by_cases h:0<f.lets.length
 ·rw[if_pos h,Yae]
 ·have e:f.lets=[]:=Ybq.1 (by omega);rw[if_neg h,e]
  rfl
theorem z3u{lim:Nat}{P:Po}{f:Fd}{i n0:Nat}{ls:List Rat}(h:i<f.lets.length) :
  evA lim P f i n0 ls []=if (Zf lim P ls n0 [] (f.lets[i]'h).code).2.1≠0 then ([],(Zf lim P ls n0 [] (f.lets[i]'h).code).2.1,(Zf lim P ls n0 [] (f.lets[i]'h).code).2.2)
   else evA lim P f (i+1) (n0+(f.lets[i]'h).code.length) (ls++[(Zf lim P ls n0 [] (f.lets[i]'h).code).1]) []:=by
 have hd:f.lets.drop i=f.lets[i]'h::f.lets.drop (i+1):=Yd h;unfold evA;rw[if_pos h,hd,Y3,Zck];by_cases h0:(Zf lim P ls n0 [] (f.lets[i]'h).code).2.1≠0
 ·rw[if_pos h0,if_pos h0,if_pos h0]
 ·rw[if_neg h0,if_neg h0];by_cases h1:i+1<f.lets.length
  ·rw[if_pos h1]
  ·have e:i+1=f.lets.length:=by omega
   rw[if_neg h1,e,Y0,Ybn,Yae]
   rfl
theorem z3v{lim:Nat}{P:Po}{f:Fd}{i n0:Nat}{ls os:List Rat}(h:f.lets.length≤i)(h2:i-f.lets.length<f.outs.length) :
  evA lim P f i n0 ls os=if (Zf lim P ls n0 [] (f.outs[i-f.lets.length]'h2)).2.1≠0 then ([],(Zf lim P ls n0 [] (f.outs[i-f.lets.length]'h2)).2.1,(Zf lim P ls n0 [] (f.outs[i-f.lets.length]'h2)).2.2)
   else evA lim P f (i+1) (n0+(f.outs[i-f.lets.length]'h2).length) ls (os++[(Zf lim P ls n0 [] (f.outs[i-f.lets.length]'h2)).1]):=by
 have hd:f.outs.drop (i-f.lets.length)=f.outs[i-f.lets.length]'h2::f.outs.drop (i-f.lets.length+1):=Yd h2;have n1:¬ i<f.lets.length:=by omega
 have n2:¬ i+1<f.lets.length:=by omega
 have e:i+1-f.lets.length=i-f.lets.length+1:=by omega
 unfold evA;rw[if_neg n1,if_neg n2,hd,Zc0,e]
section
variable{T:Tbl}[Zx T][Zab T][Zw T][Z9 T][Z5 T][Za1 T][Zv T][Zas T][Zd6 T][Zc9 T][Zap T][Zah T][Zai T]
theorem z3w(f:Fd)(P:Po)(lim:Nat)(hlim:lim≤4096)(hP:PvS P 1000)(hF:FineD f P.y.length P.p.length)(hn:Zb4 1000 50000 f) :
  ∃r,(((evD lim P f).2.1=0∧r=Zi4 (fzs (evD lim P f).1))∨((evD lim P f).2.1≠0∧(evD lim P f).1=[]∧r=Zi3 (evD lim P f).2.1 (evD lim P f).2.2)) ∧
   Ze T 0 0 (.norm false [10]) l471_0 (Zda f P.f lim [] [] 0 0)=some r:=by
 obtain⟨w1,w2,w3,w4,w5,w6,w7⟩:=hF.wh;have hC:(codesD f).length=f.lets.length+f.outs.length:=by unfold codesD;rw[Yk,Yaz]
 have hS:Zcq (f.lets.map (·.code))+Zcq f.outs≤300:=by
  have:Zau f=Zcq (f.lets.map (·.code))+Zcq f.outs:=by unfold Zau codesD Zcq;rw[Ybb,Ycb]
  omega
 refine zam (fun q:Nat×List Rat×List Rat×Nat=>Zda f P.f lim (fzs q.2.1) (fzs q.2.2.1) q.2.2.2 q.1)
  (fun q=>q.1≤f.lets.length+f.outs.length∧q.2.1.length=min q.1 f.lets.length∧q.2.2.1.length=q.1-f.lets.length∧(∀u∈q.2.1,sz u≤1000) ∧
   q.2.2.2+(Zcq ((f.lets.drop q.1).map (·.code))+Zcq (f.outs.drop (q.1-f.lets.length)))≤300∧evA lim P f q.1 q.2.2.2 q.2.1 q.2.2.1=evD lim P f)
  (fun q=>f.lets.length+f.outs.length-q.1) _ ?_ (0,[],[],0) ⟨Yq _,by simp,by simp,by simp,by simpa using hS,zz1 lim P f⟩
 rintro⟨i,ls,os,n0⟩ ⟨hi,hls,hos,hsz,hsum,hev⟩
 dsimp only at *
 by_cases h:i<f.lets.length
 ·have hos0:os=[]:=Ybq.1 (by omega);subst hos0;have hd:f.lets.drop i=f.lets[i]'h::f.lets.drop (i+1):=Yd h;have hg:=zjz h;have hpl:=hF.lets i _ (Ya h);have hth:=hn (f.lets[i]'h).code (Y5.2 (.inl (Yam.2 ⟨_,Y2 h,rfl⟩)));rw[hd,Y3,zfm]at hsum;obtain⟨t,ht,ee,hok⟩:=zb5 hpl;have hli:ls.length=i:=by omega
  have cw:=zj2 (T:=T) P lim (by omega) (by omega) ls hP hsz (f.lets[i]'h).code (by omega) (by rw[hli];exact hok) hth.2 (by rw[←ee];exact zb4 ht);rw[Ybx]at cw;rw[z3u h,znt lim P ls n0]at hev;dsimp only at hev;have hat:=zdr lim P ls (f.lets[i]'h).code 0 [];have hle:=zk6 lim P ls (f.lets[i]'h).code 0 [];have hsv:=fun h0=>zor (n:=0) (P:=P) (ls:=ls) hlim hpl h0;generalize Zf lim P ls 0 [] (f.lets[i]'h).code=w at *
  obtain⟨v,kind,at_⟩:=w;dsimp only at *
  by_cases h0:kind=0
  ·left;subst h0;rw[if_neg (by simp)]at hev;have ha0:=hat rfl;subst ha0;have e:=z89 (T:=T) f P.f lim (fzs ls) (fzs []) n0 i _ hg (by omega) (fz v) (by omega) (by omega) (by rw[za2];exact hli) h cw;refine⟨(i+1,ls++[v],[],n0+(f.lets[i]'h).code.length),⟨by dsimp only;omega,by simp only[Yk,Yc,Yag];omega,by simp only[Yag];omega,?_,?_,hev⟩,by dsimp only;omega,?_⟩
   ·intro u hu;rcases Y5.1 hu with hu | hu
    ·exact hsz u hu
    ·rw[Yaq.1 hu];exact hsv rfl
   ·dsimp only;rw[show i-f.lets.length=0 by omega]at hsum;rw[show i+1-f.lets.length=0 by omega];omega
   ·rw[e];simp[fzs]
  ·right;rw[if_pos h0]at hev;rw[if_neg h0]at hev;rw[←hev];have e:=zw0 (T:=T) f P.f lim (fzs ls) (fzs []) n0 i _ hg (by omega) (fz v) kind at_ h0 (by omega) (by omega) cw;exact⟨_,.inr ⟨h0,rfl,rfl⟩,e⟩
 ·by_cases h3:i<f.lets.length+f.outs.length
  ·have h2:i-f.lets.length<f.outs.length:=by omega
   have hd:f.outs.drop (i-f.lets.length)=f.outs[i-f.lets.length]'h2::f.outs.drop (i-f.lets.length+1):=Yd h2;have hg:=zj0 (f:=f) (i:=i) (by omega) h2;have hpl:=hF.outs _ (Y2 h2);have hth:=hn _ (Y5.2 (.inr (Y2 h2)));rw[hd,zfm]at hsum;obtain⟨t,ht,ee,hok⟩:=zb5 hpl;have hli:ls.length=f.lets.length:=by omega
   have cw:=zj2 (T:=T) P lim (by omega) (by omega) ls hP hsz (f.outs[i-f.lets.length]'h2) (by omega) (by rw[hli];exact hok) hth.2 (by rw[←ee];exact zb4 ht);rw[Ybx]at cw;rw[z3v (by omega) h2,znt lim P ls n0]at hev;dsimp only at hev;have hat:=zdr lim P ls (f.outs[i-f.lets.length]'h2) 0 [];have hle:=zk6 lim P ls (f.outs[i-f.lets.length]'h2) 0 [];generalize Zf lim P ls 0 [] (f.outs[i-f.lets.length]'h2)=w at *
   obtain⟨v,kind,at_⟩:=w;dsimp only at *
   by_cases h0:kind=0
   ·left;subst h0;rw[if_neg (by simp)]at hev;have ha0:=hat rfl;subst ha0;have e:=z9a (T:=T) f P.f lim (fzs ls) (fzs os) n0 i _ hg (by omega) (fz v) (by omega) (by omega) (by omega) (i-f.lets.length) (by rw[za2];exact hos) (by omega) cw;refine⟨(i+1,ls,os++[v],n0+(f.outs[i-f.lets.length]'h2).length),⟨by dsimp only;omega,by dsimp only;omega,by simp only[Yk,Yc,Yag];omega,hsz,?_,hev⟩,by dsimp only;omega,?_⟩
    ·dsimp only;have d1:f.lets.drop i=[]:=Yak (by omega);have d2:f.lets.drop (i+1)=[]:=Yak (by omega);rw[d1]at hsum;rw[d2,show i+1-f.lets.length=i-f.lets.length+1 by omega];omega
    ·rw[e];simp[fzs]
   ·right;rw[if_pos h0]at hev;rw[if_neg h0]at hev;rw[←hev];have e:=zw0 (T:=T) f P.f lim (fzs ls) (fzs os) n0 i _ hg (by omega) (fz v) kind at_ h0 (by omega) (by omega) cw;exact⟨_,.inr ⟨h0,rfl,rfl⟩,e⟩
  ·right;have hil:i=(codesD f).length:=by omega
   subst hil;have e:evA lim P f (codesD f).length n0 ls os=(os,0,0):=by
    unfold evA;rw[if_neg h,Yak (by omega)]
    rfl
   rw[e]at hev;rw[←hev];exact⟨_,.inl ⟨rfl,rfl⟩,z88 (T:=T) f P.f lim (fzs ls) (fzs os) n0⟩
theorem zpd(f:Fd)(P:Po)(lim:Int)(h0:0≤lim)(hlim:lim≤4096)(hP:PvS P 1000)(hF:FineD f P.y.length P.p.length)(hn:Zb4 1000 50000 f) :
  ∃at_:Int,Zb T 471 [efd f,ept P.f,.i .i64 lim]=some (.tup [.sl (Zd (fzs (evD lim.toNat P f).1)) .an,.i .i64 (evD lim.toNat P f).2.1,.i .i64 at_])∧((evD lim.toNat P f).2.1=0→at_=0)∧((evD lim.toNat P f).2.1≠0→at_=(evD lim.toNat P f).2.2):=by
 obtain⟨r,hr,hlo⟩:=z3w (T:=T) f P lim.toNat (by omega) hP hF hn;have hl2:((lim.toNat:Nat):Int)=lim:=by omega
 rw[hl2]at hlo;obtain⟨w1,w2,w3,w4,w5,w6,w7⟩:=hF.wh;have cc:=ze3 (T:=T) f (by omega) (by omega);generalize evD lim.toNat P f=R at *
 obtain⟨os,kind,at_⟩:=R;unfold Zda Zhl at hlo;dsimp only at *
 clear hP hF hn w7;generalize codesD f=C at *
 generalize P.f=Q at *
 obtain⟨⟨t0,t1,t2⟩,y,p⟩:=Q;obtain⟨L,O⟩:=f;dsimp only at *
 simp only[Yr,Yag,zbu]at hlo;rcases hr with ⟨h1,rfl⟩ | ⟨h1,h2,rfl⟩
 ·unfold Zi4 at hlo;refine⟨0,?_,fun _=>rfl,fun h=>absurd h1 h⟩;subst h1;generalize fzs os=OS at *
  have ht:List.take OS.length OS=OS:=Ya7;rw[zab Zap.h471 rfl,b471];simp -implicitDefEqProofs[cc,hlo,ht]
 ·unfold Zi3 at hlo;refine⟨at_,?_,fun h=>absurd h h1,fun _=>rfl⟩;subst h2;have e0:fzs []=[]:=rfl;rw[e0,zbu,zab Zap.h471 rfl,b471];simp -implicitDefEqProofs[cc,hlo]
end
section
variable{T:Tbl}[Zx T][Zab T][Zw T][Z9 T][Zat T][Zah T][Zai T]
theorem zwy(f:Fd)(dim pars:Int)(i:Nat)(h:f.lets.length≤i)(h2:i-f.lets.length<f.outs.length)(h1:f.lets.length≤10)(ho:f.outs.length≤10)(hn:Zb4 1000 50000 f) :
  (ptA dim pars f.lets.length (f.outs[i-f.lets.length]'h2)<0∧evX (orc T) T 0 l469_1 (stQ f dim pars i)=some (.n,stQ f dim pars (i+1))) ∨
  (0≤ptA dim pars f.lets.length (f.outs[i-f.lets.length]'h2)∧Zbe (evX (orc T) T 0 l469_1 (stQ f dim pars i))=true ∧
   Za8 0 0 (.norm false [7]) (evX (orc T) T 0 l469_1 (stQ f dim pars i))=Zfm (some ((i:Int)+1,0,ptA dim pars f.lets.length (f.outs[i-f.lets.length]'h2)))):=by
 have hg:=zj0 h h2;have hlen:(codesD f).length=f.lets.length+f.outs.length:=by unfold codesD;rw[Yk,Yaz]
 have hi:i<(codesD f).length:=by omega
 have hge:(codesD f)[i]'hi=f.outs[i-f.lets.length]'h2:=(Ye.1 hg).2;have hi':(i:Int)<(codesD f).length:=by omega
 have hi2:¬ (i:Int)<f.lets.length:=by omega
 have hws:=za8 hi (by omega);have hmn:min i f.lets.length=f.lets.length:=by omega
 obtain⟨hc1,hc2⟩:=hn _ (Y5.2 (.inr (Y2 h2)));have hp:=zj1 (T:=T) _ dim pars f.lets.length hc1 hc2;have cd:=zid (T:=T) _ hc1;have hlt:((f.lets.length:Int)<i∨(f.lets.length:Int)=i):=by omega
 generalize f.outs[i-f.lets.length]'h2=c at *
 unfold stQ hpQ Zfm;generalize codesD f=C at *
 obtain⟨L,O⟩:=f;dsimp only at *
 clear hn hmn;generalize Zd3 c=d at *
 generalize ptA dim pars L.length c=p at *
 have hmm:(if L.length<i then (L.length:Int) else i)=L.length:=by split<;>omega
 rcases hp with ⟨_,c1,h0⟩ | ⟨q,hq,c1,⟨hd,hpe⟩ | ⟨hd,hpe⟩⟩
 ·right;refine⟨h0,?_⟩;constructor<;>simp -implicitDefEqProofs[l469_1,hi,hi',hi2,hg,hge,hws,hmm,c1,h0]
 ·right;have hq':¬ 0≤q:=by omega
  have hd':(40:Int)<d:=by omega
  have hwl:IntKind.wrap .i64 ((i:Int)+1)=(i:Int)+1:=zac _ (by omega);subst hpe;refine⟨by omega,?_⟩;constructor<;>simp -implicitDefEqProofs[l469_1,hi,hi',hi2,hg,hge,hws,hmm,c1,hq',cd,hd,hd']
 ·left;have hq':¬ 0≤q:=by omega
  have hd':¬ (40:Int)<d:=by omega
  refine⟨hpe,?_⟩;simp -implicitDefEqProofs[l469_1,hi,hi',hi2,hg,hge,hws,hmm,c1,hq',cd,hd,hd']
end
section
variable{T:Tbl}[Zx T][Zab T][Zw T][Z9 T][Zat T][Zah T][Zai T]
theorem zwz(f:Fd)(dim pars:Int)(i:Nat)(h:i<f.lets.length)(h1:f.lets.length≤10)(ho:f.outs.length≤10)(hn:Zb4 1000 50000 f)(hs:∀x∈f.lets,x.name.length≤4000) :
  (¬ (nameB (f.lets[i]'h).name=false∨twB (f.lets.take i) (f.lets[i]'h).name=true)∧ptA dim pars i (f.lets[i]'h).code<0∧evX (orc T) T 0 l469_1 (stQ f dim pars i)=some (.n,stQ f dim pars (i+1))) ∨
  ((nameB (f.lets[i]'h).name=false∨twB (f.lets.take i) (f.lets[i]'h).name=true)∧Zbe (evX (orc T) T 0 l469_1 (stQ f dim pars i))=true ∧
   Za8 0 0 (.norm false [7]) (evX (orc T) T 0 l469_1 (stQ f dim pars i))=Zfm (some ((i:Int)+1,1,0))) ∨
  (¬ (nameB (f.lets[i]'h).name=false∨twB (f.lets.take i) (f.lets[i]'h).name=true)∧0≤ptA dim pars i (f.lets[i]'h).code∧Zbe (evX (orc T) T 0 l469_1 (stQ f dim pars i))=true ∧
   Za8 0 0 (.norm false [7]) (evX (orc T) T 0 l469_1 (stQ f dim pars i))=Zfm (some ((i:Int)+1,0,ptA dim pars i (f.lets[i]'h).code))):=by
 have hg:=zjz h;have hgl:f.lets[i]? = some (f.lets[i]'h):=Ya h;have hlen:(codesD f).length=f.lets.length+f.outs.length:=by unfold codesD;rw[Yk,Yaz]
 have hi:i<(codesD f).length:=by omega
 have hge:(codesD f)[i]'hi=(f.lets[i]'h).code:=(Ye.1 hg).2;have hi':(i:Int)<(codesD f).length:=by omega
 have hi2:(i:Int)<f.lets.length:=by omega
 have hws:=za8 hi (by omega);obtain⟨hc1,hc2⟩:=hn _ (Y5.2 (.inl (Yam.2 ⟨_,Y2 h,rfl⟩)));have hp:=zj1 (T:=T) _ dim pars i hc1 hc2;have cd:=zid (T:=T) _ hc1;have cn:=zs1 (T:=T) (f.lets[i]'h).name (hs _ (Y2 h));have ct:=zo9 (T:=T) f dim pars (codesD f) i i (nameB (f.lets[i]'h).name) h h1;have hm0:¬ f.lets.length<i:=by omega
 have e0:twB (f.lets.take 0) (f.lets[i]'h).name=false:=rfl;rw[e0]at ct;generalize hx:f.lets[i]'h=x at *
 generalize twB (f.lets.take i) x.name=B at *
 generalize nameB x.name=A at *
 unfold Zj6 hpQ at ct;unfold stQ hpQ Zfm;generalize codesD f=C at *
 obtain⟨L,O⟩:=f;obtain⟨nm,code⟩:=x;dsimp only at *
 clear hn hs e0;generalize Zd3 code=d at *
 generalize ptA dim pars i code=p at *
 simp only[Yfd,Ydo,Yr]at ct;cases A with
 | false=>
  right;left;refine⟨.inl rfl,?_⟩;simp only[Yfg]at ct;constructor<;>simp -implicitDefEqProofs[l469_1,hi,hi',hi2,h,hgl,hx,hg,hge,hws,hm0,cn,ct]
 | true=>
  cases B with
  | true=>
   right;left;refine⟨.inr rfl,?_⟩;simp only[Yeb,Bool.not_true]at ct;constructor<;>simp -implicitDefEqProofs[l469_1,hi,hi',hi2,h,hgl,hx,hg,hge,hws,hm0,cn,ct]
  | false=>
   simp only[Yeb,Yfd]at ct;have hno:¬ (true=false∨false=true):=by simp
   rcases hp with ⟨_,c1,h0⟩ | ⟨q,hq,c1,⟨hd,hpe⟩ | ⟨hd,hpe⟩⟩
   ·right;right;refine⟨hno,h0,?_⟩;constructor<;>simp -implicitDefEqProofs[l469_1,hi,hi',hi2,h,hgl,hx,hg,hge,hws,hm0,cn,ct,c1,h0]
   ·right;right;have hq':¬ 0≤q:=by omega
    have hd':(40:Int)<d:=by omega
    subst hpe;refine⟨hno,by omega,?_⟩;constructor<;>simp -implicitDefEqProofs[l469_1,hi,hi',hi2,h,hgl,hx,hg,hge,hws,hm0,cn,ct,c1,hq',cd,hd,hd']
   ·left;have hq':¬ 0≤q:=by omega
    have hd':¬ (40:Int)<d:=by omega
    refine⟨hno,hpe,?_⟩;simp -implicitDefEqProofs[l469_1,hi,hi',hi2,h,hgl,hx,hg,hge,hws,hm0,cn,ct,c1,hq',cd,hd,hd']
end
end Go.Ab