/-
  A calculus of values, boxes and code, and what functions of the program compute, proved in it.
  Conditions: none beyond those that the theorems state. (Part 7.)
-/
import Derived.Test.YtfgfjicelfagcabGreatDoorPart6
import Derived.Lib.IndexAny
import Derived.Lib.Bytealg

set_option linter.unusedSectionVars false
set_option linter.unusedVariables false
set_option linter.unusedSimpArgs false
set_option linter.unnecessarySimpa false

namespace Go.Ab
theorem zwm{dim pars lets:Int}{c:List Nd}(h:ptA dim pars lets c<0):placeN dim pars lets c<0∧depN c≤40:=by
 unfold ptA at h
 by_cases h1:placeN dim pars lets c<0∧40<depN c
 ·rw[if_pos h1]at h;omega
 ·rw[if_neg h1]at h
  exact⟨h,by omega⟩
theorem zm4{dim pars:Int}{L:List Lt}:∀(l:List Lt) (i:Nat),chkL dim pars L i l=none→∀k x,l[k]? = some x→ptA dim pars ((i+k:Nat):Int) x.code<0
 | [],i,h,k,x,hk=>by simp at hk
 | y::r,i,h,k,x,hk=>by
  unfold chkL at h
  split at h
  ·cases h
  ·split at h
   ·cases h
   ·next h2=>
    cases k with
    | zero=>
     simp only[List.getElem?_cons_zero,Option.some.injEq]at hk
     subst hk
     rw[Nat.add_zero];omega
    | succ k=>
     rw[List.getElem?_cons_succ]at hk
     have:=zm4 r (i+1) h k x hk
     rwa [show i+1+k=i+(k+1) by omega]at this
theorem zm5{dim pars:Int}{n:Nat}:∀(l:List (List Nd)) (i:Nat),chkO dim pars n i l=none→∀c∈l,ptA dim pars n c<0
 | [],i,h,c,hc=>by simp at hc
 | y::r,i,h,c,hc=>by
  unfold chkO at h
  split at h
  ·cases h
  ·rcases List.mem_cons.1 hc with rfl | hc
   ·omega
   ·exact zm5 r (i+1) h c hc
structure FineD (f:Fd) (dim pars:Int):Prop where
 wh:1≤dim∧dim≤6∧0≤pars∧pars≤6∧(f.outs.length:Int)=dim∧f.lets.length≤10∧sizeD f≤300
 lets:∀k x,f.lets[k]? = some x→placeN dim pars (k:Nat) x.code<0
 outs:∀c∈f.outs,placeN dim pars f.lets.length c<0
theorem zff{f:Fd}{dim pars:Int}(h:chkD f dim pars=none):FineD f dim pars:=by
 unfold chkD at h
 cases hW:whB f dim pars with
 | false=>rw[hW,if_pos rfl]at h;cases h
 | true=>
  rw[hW,if_neg (by decide)]at h
  have hw:=by simpa[whB]using hW
  cases hL:chkL dim pars f.lets 0 f.lets with
  | some q=>rw[hL]at h;cases h
  | none=>
   rw[hL]at h
   refine⟨hw,fun k x hk=>?_,fun c hc=>(zwm (zm5 _ _ h c hc)).1⟩
   have:=zm4 _ _ hL k x hk
   rw[Nat.zero_add]at this
   exact(zwm this).1
theorem zo0{dim pars lets:Int}{x:Nd}(h:okN dim pars lets x=true)(ho:x.op=5):0≤x.i∧x.i<lets:=by
 unfold okN at h
 rw[ho,if_neg (by decide)]at h
 split at h
 ·cases h
 ·simpa[belB]using h
theorem FineD.refT{f:Fd}{dim pars:Int}(h:FineD f dim pars):refT (f.lets.map (·.code)):=by
 intro i c hc x hx ho
 rw[List.getElem?_map]at hc
 obtain⟨y,hy,rfl⟩:=Option.map_eq_some_iff.1 hc
 obtain⟨_,_,_,hok⟩:=zbt (h.lets i y hy)
 exact zo0 (hok x hx) ho
theorem FineD.refB{f:Fd}{dim pars:Int}(h:FineD f dim pars):∀c∈f.outs,refB f.lets.length c:=by
 intro c hc x hx ho
 obtain⟨_,_,_,hok⟩:=zbt (h.outs c hc)
 exact zo0 (hok x hx) ho
theorem zf4{l:List Nat}{n:Nat}(h:n∈l):n≤l.sum:=by
 induction l with
 | nil=>cases h
 | cons m l ih=>
  rw[List.sum_cons]
  rcases List.mem_cons.1 h with rfl | h
  ·omega
  ·have:=ih h;omega
theorem FineD.len{f:Fd}{dim pars:Int}(h:FineD f dim pars):∀c∈codesD f,c.length≤300:=by
 intro c hc
 have:=h.wh.2.2.2.2.2.2
 unfold sizeD at this
 have h2:c.length≤((codesD f).map List.length).sum:=zf4 (List.mem_map.2 ⟨c,hc,rfl⟩)
 omega
theorem zf5{f:Fd}{x:Lt}(h:x∈f.lets):x.code∈codesD f:=List.mem_append_left _ (List.mem_map.2 ⟨x,h,rfl⟩)
theorem zed{f:Fd}{c:List Nd}(h:c∈f.outs):c∈codesD f:=List.mem_append_right _ h
def letsB(f:Fd):Bool:=decide (0<f.lets.length) || f.outs.any fun c=>c.any fun x=>decide (x.op=5)
abbrev tabF(f:Fd):List (List Nd):=tabE (f.lets.map (·.code))
def hasP(f:Fd):Bool:=decide (chkD f f.outs.length 6=none)&&decide (allE (tabF f) f.outs≤1200)
def outsP(f:Fd):List (List Nd):=f.outs.map (inE (tabF f))
class CRun (T:Tbl):Prop where
def meths1:List RV:=[.cell 1 (some 445),.cell 2 (some 444),.cell 3 (some 441),.cell 4 (some 448),.cell 5 (some 443),.cell 6 (some 447),.cell 7 (some 446),.cell 8 (some 442)]
class CIfc (T:Tbl):Prop where
theorem zve(z:Int):∀t:Nat,sg (decide (z<0)&&decide (t%2=1)) (z.natAbs^t)=z^t
 | 0=>by simp[sg]
 | t+1=>by
  have ih:=zve z t
  have hz:sg (decide (z<0)) z.natAbs=z:=by
   unfold sg
   by_cases h:z<0
   ·simp only[h,decide_true,if_true];omega
   ·simp only[h,decide_false,Bool.false_eq_true,if_false];omega
  have hm:=zzx (decide (z<0)&&decide (t%2=1)) (decide (z<0)) (z.natAbs^t) z.natAbs
  rw[ih,hz]at hm
  rw[Int.pow_succ,←hm,Nat.pow_succ]
  rcases Nat.mod_two_eq_zero_or_one t with h | h
  ·have h2:(t+1)%2=1:=by omega
   rw[h,h2]
   cases decide (z<0)<;>rfl
  ·have h2:(t+1)%2=0:=by omega
   rw[h,h2]
   cases decide (z<0)<;>rfl
theorem zfs{x L:Nat}(h:(ofN x).length≤L):∀t:Nat,(ofN (x^t)).length≤t*L+1
 | 0=>by rw[Nat.pow_zero,zf1];simp
 | t+1=>by
  have ih:=zfs h t
  have:=zbs ih h
  grind
section
variable{T:Tbl}[CLimb T][CNat T][CProd T][CTwos T][CQuot T][CQuotD T][CWhole T][CCommon T][CFrac T][CFrac3 T]
def stPw(a:List UInt32)(k i:Nat):St:=⟨[(0,.sl (u32s a) .an),(5,.sl (u32s (ofN (val a^i))) .an),(7,.i .i64 k),(8,.i .i64 i)],[],2⟩
theorem zjg(a:List UInt32)(k:Nat)(hk:k≤8)(ha:a.length≤1100):callF T 219 [.sl (u32s a) .an,.i .i64 k]=some (.sl (u32s (ofN (val a^k))) .an):=by
 have h:loopN T 0 0 (.norm false [5]) l219_0 (stPw a k 0)=some (.n,⟨[(5,.sl (u32s (ofN (val a^k))) .an)],[],2⟩):=by
  refine zal (stPw a k) k _ (fun i hi=>?_) ?_
  ·have hl:=zfs (L:=1100) (Nat.le_trans (zad a) ha) i
   have c:=zec (T:=T) (ofN (val a^i)) a (by omega) (by omega)
   rw[zaf,←Nat.pow_succ]at c
   have hw:=za2 hi (by omega)
   unfold stPw
   simp -implicitDefEqProofs[l219_0,hi,hw,c]
  ·unfold stPw
   constructor<;>simp -implicitDefEqProofs[l219_0]
 have ho:=zhp (T:=T) 1 (by decide)
 unfold stPw at h
 rw[Nat.pow_zero]at h
 simp only[Int.natCast_zero]at h
 rw[f219 _ rfl,b219]
 simp -implicitDefEqProofs[ho,h]
def powR(q:Rat)(e:Int):Rat×Bool:=if -8≤e∧e≤8∧¬ (e<0∧q=0) then (powZ q e,true) else (0,false)
theorem z7c(q:Rat)(t:Nat):fz (q^t)=(decide (q.num<0)&&decide (t%2=1)&&decide (q.num.natAbs^t≠0),ofN (q.num.natAbs^t),ofN (q.den^t)):=by
 grind[zve,fz,Rat.num_pow,Rat.den_pow,zqk,zql]
theorem z1y(q:Rat)(t:Nat)(hq:q≠0):fz (q^t)⁻¹=(decide (q.num<0)&&decide (t%2=1)&&decide (q.den^t≠0),ofN (q.den^t),ofN (q.num.natAbs^t)):=by
 have h:=zve q.num t
 have hn:q.num≠0:=fun h=>hq (Rat.num_eq_zero.1 h)
 have hz:q.num^t≠0:=Int.pow_ne_zero hn
 have hd:q.den^t≠0:=Nat.pos_iff_ne_zero.1 (Nat.pow_pos q.den_pos)
 have ha:q.num.natAbs^t≠0:=Nat.pos_iff_ne_zero.1 (Nat.pow_pos (Int.natAbs_pos.2 hn))
 have e1:(q^t)⁻¹.num=(q.num^t).sign*((q.den^t:Nat):Int):=by simp_all
 have e2:(q^t)⁻¹.den=q.num.natAbs^t:=by simp_all
 grind[Int.sign_eq_neg_one_of_neg,zqk,fz]
theorem zp7(x:Fz)(e:Int)(hx:fsz x≤1000):callF T 220 [efz x,.i .i64 e]=some (.tup [efz (fz (powR (fv x) e).1),.b (powR (fv x) e).2]):=by
 have h0:=zd9 (T:=T)
 have hsg:=zu6 (T:=T) x (by omega)
 have hn:=zhm (T:=T) x (by omega)
 have hs:=zss (x:=x) (L:=1000) hx (by decide)
 have l1:=zjw (fv x)
 have l2:=zjx (fv x)
 unfold powR
 rw[f220 _ rfl,b220]
 by_cases h1:e < -8
 ·rw[if_neg (by omega)]
  simp -implicitDefEqProofs[h0,h1]
 by_cases h2:8<e
 ·rw[if_neg (by omega)]
  simp -implicitDefEqProofs[h0,h1,h2]
 obtain⟨q,hq⟩:∃q,q=fv x:=⟨_,rfl⟩
 rw[←hq]at hsg hn hs l1 l2 ⊢
 clear hq
 have e':fz q=(decide (q.num<0),ofN q.num.natAbs,ofN q.den):=rfl
 rw[e']at hn
 have hA:(ofN q.num.natAbs).length≤1100:=by omega
 have hD:(ofN q.den).length≤1100:=by omega
 have pA:∀k:Nat,k≤8→callF T 219 [.sl (u32s (ofN q.num.natAbs)) .an,.i .i64 k]=some (.sl (u32s (ofN (q.num.natAbs^k))) .an):=fun k hk=>by
  grind[zjg,zaf]
 have pD:∀k:Nat,k≤8→callF T 219 [.sl (u32s (ofN q.den)) .an,.i .i64 k]=some (.sl (u32s (ofN (q.den^k))) .an):=fun k hk=>by
  grind[zjg,zaf]
 have lA:∀k:Nat,k≤8→(ofN (q.num.natAbs^k)).length≤1000000:=fun k hk=>by
  have:=zfs hA k
  omega
 have lD:∀k:Nat,k≤8→(ofN (q.den^k)).length≤1000000:=fun k hk=>by
  have:=zfs hD k
  omega
 have hodd:∀k:Nat,k≤8→(((k:Int).tmod 2) == 1)=decide (k%2=1):=fun k hk=>by
  have e:(k:Int).tmod 2=((k%2:Nat):Int):=by rw[show (2:Int)=((2:Nat):Int) from rfl,←Int.ofNat_tmod]
  rw[e,Bool.eq_iff_iff]
  simp
  omega
 by_cases h3:e<0
 case neg=>
  obtain⟨n,rfl⟩:∃n:Nat,e=n:=⟨e.toNat,by omega⟩
  have hn8:n≤8:=by omega
  rw[if_pos (by omega)]
  have hw:IntKind.wrap .i64 (-(n:Int))=-(n:Int):=zac _ (by omega)
  have cA:=pA n hn8
  have cD:=pD n hn8
  have ho:=hodd n hn8
  have hnorm:=zfy (T:=T) (decide (q.num<0)&&decide (n%2=1)) (ofN (q.num.natAbs^n)) (lA n hn8)
  rw[show wv (decide (q.num<0)&&decide (n%2=1)) (ofN (q.num.natAbs^n))=sg (decide (q.num<0)&&decide (n%2=1)) (q.num.natAbs^n) by unfold wv;rw[zaf],zy3]at hnorm
  have hf:=z7c q n
  have hz:powZ q (n:Int)=q^n:=Rat.zpow_natCast q n
  simp only[hz]
  rw[hf]
  have h4:¬ (8:Int)<n:=by omega
  have h5:¬ ((n:Int) < -(n:Int)):=by omega
  have h6:¬ (n:Int)<0:=by omega
  have h1':¬ (n:Int) < -8:=by omega
  generalize decide (q.num<0)=NG at *
  generalize decide (n%2=1)=OD at *
  cases NG with
  | false=>
   simp only[Bool.false_and]at hnorm ⊢
   simp -implicitDefEqProofs[hn,h4,h5,h6,h1',hw,mm2,cA,cD,hnorm]
  | true=>
   simp only[Bool.true_and]at hnorm ⊢
   cases OD with
   | false=>simp -implicitDefEqProofs[hn,h4,h5,h6,h1',hw,mm2,cA,cD,ho,hnorm]
   | true=>simp -implicitDefEqProofs[hn,h4,h5,h6,h1',hw,mm2,cA,cD,ho,hnorm]
 by_cases h7:q=0
 ·rw[if_neg (by grind)]
  have hs0:sgQ q=0:=zkw.2 h7
  rw[hs0]at hsg
  generalize fz 0=Z at *
  have h4:¬ (8:Int)<e:=by omega
  simp -implicitDefEqProofs[h0,h1,h4,h3,hsg]
 rw[if_pos (by grind)]
 obtain⟨n,rfl⟩:∃n:Nat,e=-(n:Int):=⟨(-e).toNat,by omega⟩
 have hn8:n≤8:=by omega
 have hsz:¬ sgQ q=0:=fun h=>h7 (zkw.1 h)
 have hw:IntKind.wrap .i64 (n:Int)=(n:Int):=zac _ (by omega)
 have cA:=pA n hn8
 have cD:=pD n hn8
 have ho:=hodd n hn8
 have hnorm:=zfy (T:=T) (decide (q.num<0)&&decide (n%2=1)) (ofN (q.den^n)) (lD n hn8)
 rw[show wv (decide (q.num<0)&&decide (n%2=1)) (ofN (q.den^n))=sg (decide (q.num<0)&&decide (n%2=1)) (q.den^n) by unfold wv;rw[zaf],zy3]at hnorm
 have hf:=z1y q n h7
 have hz:powZ q (-(n:Int))=(q^n)⁻¹:=by unfold powZ;rw[Rat.zpow_neg,Rat.zpow_natCast]
 simp only[hz]
 rw[hf]
 clear hf hz pA pD lA lD hodd e'
 have h4:¬ (8:Int) < -(n:Int):=by omega
 have h5:(-(n:Int)<(n:Int)):=by omega
 have h1':¬ -(n:Int) < -8:=by omega
 have h6:(n:Int)≠0:=by omega
 have h6':0<(n:Int):=by omega
 have h6'':0<n:=by omega
 have h1'':¬ 8<n:=by omega
 generalize ofN (q.num.natAbs^n)=AP at *
 generalize ofN (q.den^n)=DP at *
 generalize decide (q.den^n≠0)=NZ at *
 generalize ofN q.num.natAbs=A at *
 generalize ofN q.den=D at *
 generalize decide (q.num<0)=NG at *
 generalize decide (n%2=1)=OD at *
 generalize sgQ q=SG at *
 cases NG with
 | false=>
  simp only[Bool.false_and]at hnorm ⊢
  simp -implicitDefEqProofs[hn,h4,h5,h6'',h1',hw,mm2,cA,cD,hnorm,hsg,hsz]
 | true=>
  simp only[Bool.true_and]at hnorm ⊢
  cases OD with
  | false=>simp -implicitDefEqProofs[hn,h4,h5,h6'',h1',hw,mm2,cA,cD,ho,hnorm,hsg,hsz]
  | true=>simp -implicitDefEqProofs[hn,h4,h5,h6'',h1',hw,mm2,cA,cD,ho,hnorm,hsg,hsz]
end
@[simp] theorem zaa1:ints []=[]:=rfl
section
variable{T:Tbl}[CLimb T][CNat T][CProd T][CTwos T][CQuot T][CQuotD T][CWhole T][CCommon T][CFrac T][CFrac3 T][CTape T]
def stMy(t:Tp)(p:Nat)(x:Ins)(i:Nat):St:=
 ⟨[(1,.i .i64 p),(2,.ptr (.loc 2) 1 4 0 0),(5,.ptr (.loc 5) 2 6 0 0),(30,.sl (ints (readsI x)) .an),(31,.i .i64 (readsI x).length),(32,.i .i64 i)],
  [(.loc 2,⟨1,.str,4,[[.sl (rowI t.code) .an,.sl (ints t.outs) .an,.i .i64 t.dim,.i .i64 t.par]]⟩),(.loc 5,⟨2,.str,6,[celI x]⟩)],4⟩
end
section
variable{T:Tbl}[CLimb T][CNat T][CProd T][CTwos T][CQuot T][CQuotD T][CWhole T][CCommon T][CFrac T][CFrac3 T][CTape T]
structure Small (t:Tp):Prop where
 code:t.code.length≤4294967296
 outs:t.outs.length≤4294967296
 ns:∀i∈t.code,fsz i.n≤10000
 d1:-9223372036854775808≤t.dim
 d2:t.dim<9223372036854775808
def bxT(t:Tp):Box:=⟨1,.str,4,[[.sl (rowI t.code) .an,.sl (ints t.outs) .an,.i .i64 t.dim,.i .i64 t.par]]⟩
def stW1(t:Tp)(i:Nat):St:=⟨[(1,.ptr (.loc 1) 1 4 0 0),(11,.i .i64 t.code.length),(12,.i .i64 i)],[(.loc 1,bxT t)],3⟩
def stW2(t:Tp)(i:Nat):St:=⟨[(1,.ptr (.loc 1) 1 4 0 0),(22,.sl (ints t.outs) .an),(23,.i .i64 t.outs.length),(24,.i .i64 i)],[(.loc 1,bxT t)],3⟩
end
def limI(n:Int):Int:=if n<0 then 0 else if 4096<n then 4096 else n
abbrev bxG(g:Nat)(s p L:Int):Box:=⟨g,.str,3,[[.i .i64 s,.i .i64 p,.i .i64 L]]⟩
def cntS(s:Int):Int:=IntKind.wrap .i64 (s+1)
def cntP(p:Int)(x:Fz):Int:=if p<(sizF x:Int) then (sizF x:Int) else p
section
variable{T:Tbl}[CLimb T][CNat T][CProd T][CTwos T][CQuot T][CQuotD T][CWhole T][CCommon T][CFrac T][CFrac3 T][CFrac5 T][CPow T][CTape T][CGauge T][CEval T]
theorem zjh(x:Fz)(hx:fsz x≤10000):callF T 223 [efz x]=some (.i .i64 (sizF x)):=by
 have h1:=zep x
 have h2:=zfg x
 have c1:=zqe (T:=T) x.2.1 (by omega)
 have c2:=zqe (T:=T) x.2.2 (by omega)
 have b1:=zqf (x:=val x.2.1) (k:=10000) (Nat.le_trans (zad x.2.1) (by omega))
 have b2:=zqf (x:=val x.2.2) (k:=10000) (Nat.le_trans (zad x.2.2) (by omega))
 have w:IntKind.wrap .i64 ((blen (val x.2.1):Int)+(blen (val x.2.2):Int))=((sizF x:Nat):Int):=by
  have e:((sizF x:Nat):Int)=(blen (val x.2.1):Int)+(blen (val x.2.2):Int):=by unfold sizF;omega
  rw[e]
  exact zac _ (by omega)
 rw[f223 _ rfl,b223]
 generalize sizF x=S at *
 generalize blen (val x.2.1)=B1 at *
 generalize blen (val x.2.2)=B2 at *
 simp -implicitDefEqProofs[c1,c2,w]
theorem ze8(n:Int):callH T 406 [.i .i64 n] []=some (.ptr (.loc 7) 1 3 0 0,[(.loc 7,bxG 1 0 0 (limI n))]):=by
 unfold limI
 rw[f406 _ _ rfl,b406]
 by_cases h1:n<0
 ·simp -implicitDefEqProofs[h1,mm2]
 ·by_cases h2:4096<n
  ·simp -implicitDefEqProofs[h1,h2,mm2]
  ·simp -implicitDefEqProofs[h1,h2,mm2]
theorem zry(s p L k:Int):callH T 426 [.ptr (.bor 0) 0 3 0 0,.i .i64 k] [(.bor 0,bxG 0 s p L)]=some (.tup [],[(.bor 0,bxG 0 (cntS s) (if p<k then k else p) L)]):=by
 unfold cntS
 rw[f426 _ _ rfl,b426]
 by_cases h1:p<k
 ·simp -implicitDefEqProofs[h1,mm2]
 ·simp -implicitDefEqProofs[h1,mm2]
theorem zea(s p L:Int)(x:Fz)(hx:fsz x≤10000):callH T 411 [.ptr (.bor 0) 0 3 0 0,efz x] [(.bor 0,bxG 0 s p L)]=some (.b (decide ((sizF x:Int)≤L)),[(.bor 0,bxG 0 (cntS s) (cntP p x) L)]):=by
 have h1:=zjh (T:=T) x hx
 have h2:=zry (T:=T) s p L (sizF x)
 unfold cntP
 rw[f411 _ _ rfl,b411]
 generalize cntS s=s' at *
 generalize (if p<(sizF x:Int) then (sizF x:Int) else p)=p' at *
 generalize (sizF x:Int)=z at *
 simp -implicitDefEqProofs[h1,h2]
def stEn(l:List Fz)(i:Nat):St:=⟨[(3,.bs (.loc 3) 1 3 0 i),(6,.sl (rowF l) .an),(7,.i .i64 l.length),(8,.i .i64 i)],[(.loc 3,⟨1,.own,3,rowF (nrm (l.take i))⟩)],3⟩
theorem zft(l:List Fz)(hl:l.length≤1000)(hw:∀x∈l,fsz x≤1000):callF T 420 [.sl (rowF l) .an]=some (.sl (rowF (nrm l)) .an):=by
 have h:loopN T 0 0 (.norm false [3]) l420_0 (stEn l 0)=some (.n,⟨[(3,.bs (.loc 3) 1 3 0 l.length)],[(.loc 3,⟨1,.own,3,rowF (nrm l)⟩)],3⟩):=by
  refine zal (stEn l) l.length _ (fun i hi=>?_) ?_
  ·have hg:l[i]? = some (l[i]'hi):=List.getElem?_eq_getElem hi
   have hws:=za2 hi (by omega)
   have hn:=zhm (T:=T) (l[i]'hi) (Nat.le_trans (hw _ (List.getElem_mem hi)) (by decide))
   have e:nrm (l.take (i+1))=nrm (l.take i)++[fz (fv (l[i]'hi))]:=zkq l _ hi
   have hp:=zmx (m:=nrm (l.take i)) (n:=i) (by simp[nrm];omega) (fz (fv (l[i]'hi)))
   have hml:(nrm (l.take i)).length=i:=by simp[nrm];omega
   unfold stEn
   rw[e]
   clear e
   generalize nrm (l.take i)=M at *
   generalize fz (fv (l[i]'hi))=z at *
   have hb:i≤4294967295:=by omega
   simp -implicitDefEqProofs[l420_0,hi,hg,hws,hn,hp,hml,hb]
  ·unfold stEn
   rw[List.take_of_length_le (Nat.le_refl _)]
   generalize nrm l=M
   constructor<;>simp -implicitDefEqProofs[l420_0]
 unfold stEn at h
 simp[nrm]at h
 have ht:List.take l.length (List.map (fun x=>fz (fv x)) l)=List.map (fun x=>fz (fv x)) l:=List.take_of_length_le (by simp)
 rw[f420 _ rfl,b420]
 simp -implicitDefEqProofs[h,nrm,ht]
structure PoS (x:PoF) (B:Nat):Prop where
 t:fsz x.t≤B
 y:∀u∈x.y,fsz u≤B
 p:∀u∈x.p,fsz u≤B
 yl:x.y.length≤1000
 pl:x.p.length≤1000
theorem z1z(x:PoF):x.v.f=⟨fz (fv x.t),nrm x.y,nrm x.p⟩:=by
 unfold PoF.v Po.f
 rw[zv2,zv2]
theorem ze9(x:PoF)(h:PoS x 1000):callF T 405 [ept x]=some (ept x.v.f):=by
 have h1:=zhm (T:=T) x.t (Nat.le_trans h.t (by decide))
 have h2:=zft (T:=T) x.y h.yl h.y
 have h3:=zft (T:=T) x.p h.pl h.p
 rw[z1z]
 obtain⟨t,y,p⟩:=x
 dsimp only at *
 rw[f405 _ rfl,b405]
 generalize fz (fv t)=t' at *
 generalize nrm y=y' at *
 generalize nrm p=p' at *
 simp -implicitDefEqProofs[h1,h2,h3]
end
abbrev mD:AV:=.agg [.dead]
section
variable{T:Tbl}[CLimb T][CNat T][CProd T][CTwos T][CQuot T][CQuotD T][CWhole T][CCommon T][CFrac T][CFrac3 T][CFrac5 T][CPow T][CTape T][CGauge T][CEval T][CRun T][CIfc T]
theorem zjp{D:List Rat}{a:Int}(h:0≤a∧a<D.length):∃k:Nat,a=k∧(k:Int)<D.length∧k<D.length∧(fzs D)[k]? = some (fz (gI D a)):=by
 obtain⟨k,rfl⟩:∃k:Nat,a=k:=⟨a.toNat,by omega⟩
 have hk:k<D.length:=by omega
 refine⟨k,rfl,by omega,hk,?_⟩
 have e:gI D (k:Int)=D[k]'hk:=by simp[gI,List.getD,List.getElem?_eq_getElem hk]
 rw[e]
 exact z19 (List.getElem?_eq_getElem hk)
theorem z2b{D:List Rat}{a:Int}{B:Nat}(hB:1≤B)(h:∀q∈D,sz q≤B):sz (gI D a)≤B:=by
 unfold gI List.getD
 cases hx:D[a.toNat]? with
 | none=>exact Nat.le_trans (Nat.le_of_eq zwo) hB
 | some q=>exact h q (List.mem_of_getElem? hx)
end
theorem zqg{n b:Nat}(h:blen n≤b):(ofN n).length≤b/32+1:=by
 refine zas ?_
 unfold blen at h
 split at h
 ·grind
 ·rename_i h0
  have h1:n<2^(n.log2+1):=(Nat.log2_lt h0).1 (Nat.lt_succ_self _)
  have h3:(4294967296:Nat)^(b/32+1)=2^(32*(b/32+1)):=by rw[Nat.pow_mul]
  have h2:2^(n.log2+1)≤2^(32*(b/32+1)):=Nat.pow_le_pow_right (by decide) (by omega)
  omega
theorem z2c{q:Rat}{b:Nat}(h:sizQ q≤b):sz q≤b/32+1:=by
 unfold sizQ sizF fz at h
 rw[zaf,zaf]at h
 exact Nat.max_le.2 ⟨zqg (Nat.le_trans (Nat.le_add_right _ _) h),zqg (Nat.le_trans (Nat.le_add_left _ _) h)⟩
theorem zzu(q:Rat)(n:Nat):sz (q^n)≤n*sz q+1:=by
 unfold sz
 rw[Rat.num_pow,Rat.den_pow,Int.natAbs_pow]
 exact Nat.max_le.2 ⟨zfs (Nat.le_max_left _ _) n,zfs (Nat.le_max_right _ _) n⟩
theorem z2d{q:Rat}{e:Int}{B:Nat}(hq:sz q≤B)(h1:-8≤e)(h2:e≤8):sz (powZ q e)≤8*B+1:=by
 unfold powZ
 rcases Int.le_total 0 e with h | h
 ·obtain⟨n,rfl⟩:∃n:Nat,e=n:=⟨e.toNat,by omega⟩
  rw[Rat.zpow_natCast]
  have:=zzu q n
  have h3:n*sz q≤8*B:=Nat.mul_le_mul (by omega) hq
  omega
 ·obtain⟨n,rfl⟩:∃n:Nat,e=-(n:Int):=⟨(-e).toNat,by omega⟩
  rw[Rat.zpow_neg,Rat.zpow_natCast]
  have:=zzu q n
  have h3:n*sz q≤8*B:=Nat.mul_le_mul (by omega) hq
  have:=zz8 (q^n)
  omega
structure PvS (P:Po) (B:Nat):Prop where
 t:sz P.t≤B
 y:∀q∈P.y,sz q≤B
 p:∀q∈P.p,sz q≤B
def runG(lim:Nat)(P:Po):List Ins→List Rat→Int→Int→Int×Int
 | [],_,s,p=>(s,p)
 | i::r,D,s,p=>if (valI P D i).2=false then (s,p) else if lim<sizQ (valI P D i).1 then (cntS s,cntP p (fz (valI P D i).1)) else runG lim P r (D++[(valI P D i).1]) (cntS s) (cntP p (fz (valI P D i).1))
abbrev bxM:Box:=⟨3,.str,1,[[.ptr (.bor 0) 0 3 0 0]]⟩
abbrev bxP(g:Nat)(x:PoF):Box:=⟨g,.str,5,[[.b x.t.1,.sl (u32s x.t.2.1) .an,.sl (u32s x.t.2.2) .an,.sl (rowF x.y) .an,.sl (rowF x.p) .an]]⟩
abbrev bxF(g:Nat)(a b c d:Int):Box:=⟨g,.str,4,[[.i .i64 a,.i .i64 b,.i .i64 c,.i .i64 d]]⟩
def stRun(Q:PoF)(L:Int)(code:List Ins)(i:Nat)(D:List Fz)(s p:Int)(kd:Kind):St:=
 ⟨[(3,.ptr (.loc 3) 3 1 0 0),(5,.ptr (.loc 5) 4 5 0 0),(7,.ptr (.loc 7) 5 4 0 0),(8,.bs (.loc 8) 6 3 0 i),(34,.sl (rowI code) .an),(35,.i .i64 code.length),(36,.i .i64 i)],
  [(.bor 0,bxG 0 s p L),(.loc 3,bxM),(.loc 5,bxP 4 Q),(.loc 7,bxF 5 0 0 0 0),(.loc 8,⟨6,kd,3,rowF D⟩)],8⟩
def endN(n:Nat)(D:List Fz)(s p L:Int)(kd:Kind):Ex×St:=(.n,⟨[(7,.ptr (.loc 7) 3 4 0 0),(8,.bs (.loc 8) 4 3 0 n)],[(.bor 0,bxG 0 s p L),(.loc 7,bxF 3 0 0 0 0),(.loc 8,⟨4,kd,3,rowF D⟩)],6⟩)
def endR(kind at_ s p L:Int):Ex×St:=(.r,⟨[(6,.sl [] .an),(7,.ptr (.loc 7) 3 4 0 0)],[(.bor 0,bxG 0 s p L),(.loc 7,bxF 3 kind 0 0 at_)],5⟩)
section
variable{T:Tbl}[CLimb T][CNat T][CProd T][CTwos T][CQuot T][CQuotD T][CWhole T][CCommon T][CFrac T][CFrac3 T][CFrac5 T][CPow T][CTape T][CGauge T][CEval T][CRun T][CIfc T]
def kdE(kd:Kind)(l:List Ins):Kind:=if l=[] then kd else .sh
def endRun(lim:Nat)(P:Po)(code l:List Ins)(D:List Rat)(s p:Int)(kd:Kind):Ex×St:=
 if (runR lim P l D).2.1=0 then endN code.length (fzs (runR lim P l D).1) (runG lim P l D s p).1 (runG lim P l D s p).2 lim (kdE kd l)
 else endR (runR lim P l D).2.1 (runR lim P l D).2.2 (runG lim P l D s p).1 (runG lim P l D s p).2 lim
end
def leafV(P:Po)(ls:List Rat)(x:Nd):Rat:=if x.op=1 then ((val x.n:Nat):Rat) else if x.op=3 then gI P.y x.i else if x.op=4 then gI P.p x.i else if x.op=5 then gI ls x.i else P.t
def unV(x:Nd)(a:Rat):Rat×Bool:=if x.op=6 then (-a,true) else powR a x.i
def biV(op:Int)(a b:Rat):Rat×Bool:=if op=7 then (a+b,true) else if op=8 then (a-b,true) else if op=9 then (a*b,true) else (a/b,decide (b≠0))
def finV(lim:Nat)(v:Rat×Bool)(i:Nat):Rat×Nat×Nat:=if v.2=false then (0,3,i) else if lim<sizQ v.1 then (0,6,i) else (v.1,0,0)
def stepV(P:Po)(ls:List Rat)(s:List Rat)(x:Nd):(Rat×Bool)×List Rat:=
 if arN x.op=0 then ((leafV P ls x,true),s) else if arN x.op=1 then (unV x (s.headD 0),s.tail) else (biV x.op (s.tail.headD 0) (s.headD 0),s.tail.tail)
def walkR(lim:Nat)(P:Po)(ls:List Rat):Nat→List Rat→List Nd→Rat×Nat×Nat
 | _,s,[]=>(s.headD 0,0,0)
 | i,s,x::r=>if (finV lim (stepV P ls s x).1 i).2.1≠0 then finV lim (stepV P ls s x).1 i else walkR lim P ls (i+1) ((stepV P ls s x).1.1::(stepV P ls s x).2) r
def evT(lim:Nat)(P:Po)(ls:List Rat):Tre→Nat→Rat×Nat×Nat
 | .leaf x,i=>finV lim (leafV P ls x,true) i
 | .un x a,i=>if (evT lim P ls a i).2.1≠0 then evT lim P ls a i else finV lim (unV x (evT lim P ls a i).1) (i+a.flat.length)
 | .bin x a b,i=>if (evT lim P ls a i).2.1≠0 then evT lim P ls a i else if (evT lim P ls b (i+a.flat.length)).2.1≠0 then evT lim P ls b (i+a.flat.length)
   else finV lim (biV x.op (evT lim P ls a i).1 (evT lim P ls b (i+a.flat.length)).1) (i+a.flat.length+b.flat.length)
theorem zc5{lim:Nat}{v:Rat×Bool}{i:Nat}(h:(finV lim v i).2.1=0):v.2=true∧sizQ v.1≤lim∧finV lim v i=(v.1,0,0):=by
 unfold finV at h ⊢
 by_cases h1:v.2=false
 ·rw[if_pos h1]at h;exact absurd h (by simp)
 ·rw[if_neg h1]at h ⊢
  by_cases h2:lim<sizQ v.1
  ·rw[if_pos h2]at h;exact absurd h (by simp)
  ·rw[if_neg h2]
   exact⟨by simpa using h1,by omega,rfl⟩
theorem zwj{lim:Nat}{v:Rat×Bool}{i:Nat}(h:(finV lim v i).2.1≠0):(finV lim v i).1=0∧(finV lim v i).2.2=i:=by
 unfold finV at h ⊢
 split
 ·exact⟨rfl,rfl⟩
 ·next h1=>
  rw[if_neg h1]at h
  split
  ·exact⟨rfl,rfl⟩
  ·next h2=>
   rw[if_neg h2]at h
   exact absurd rfl h
theorem zfe(lim:Nat)(P:Po)(ls:List Rat):∀(t:Tre),t.ok→∀(i:Nat) (s:List Rat) (r:List Nd),walkR lim P ls i s (t.flat++r)=if (evT lim P ls t i).2.1≠0 then evT lim P ls t i else walkR lim P ls (i+t.flat.length) ((evT lim P ls t i).1::s) r
 | .leaf x,h,i,s,r=>by
  have e:arN x.op=0:=h
  show walkR lim P ls i s (x::r)=_
  have es:stepV P ls s x=((leafV P ls x,true),s):=by unfold stepV;rw[if_pos e]
  rw[walkR,es]
  show (if (finV lim (leafV P ls x,true) i).2.1≠0 then _ else _)=if (finV lim (leafV P ls x,true) i).2.1≠0 then finV lim (leafV P ls x,true) i else _
  by_cases hk:(finV lim (leafV P ls x,true) i).2.1=0
  ·rw[if_neg (by simpa using hk),if_neg (by simpa using hk)]
   have:=(zc5 hk).2.2
   show walkR lim P ls (i+1) (leafV P ls x::s) r=walkR lim P ls (i+1) ((finV lim (leafV P ls x,true) i).1::s) r
   rw[this]
  ·rw[if_pos hk,if_pos hk]
 | .un x a,h,i,s,r=>by
  have e:arN x.op=1:=h.1
  rw[Tre.flat,List.append_assoc,zfe lim P ls a h.2]
  by_cases ha:(evT lim P ls a i).2.1=0
  ·rw[if_neg (by simpa using ha)]
   have ee:evT lim P ls (.un x a) i=finV lim (unV x (evT lim P ls a i).1) (i+a.flat.length):=by show (if _ then _ else _)=_;rw[if_neg (by simpa using ha)]
   rw[ee]
   show walkR lim P ls (i+a.flat.length) ((evT lim P ls a i).1::s) (x::r)=_
   have es:stepV P ls ((evT lim P ls a i).1::s) x=(unV x (evT lim P ls a i).1,s):=by unfold stepV;rw[if_neg (by omega),if_pos e];rfl
   rw[walkR,es]
   by_cases hk:(finV lim (unV x (evT lim P ls a i).1) (i+a.flat.length)).2.1=0
   ·rw[if_neg (by simpa using hk),if_neg (by simpa using hk),(zc5 hk).2.2,List.length_append]
    rfl
   ·rw[if_pos hk,if_pos hk]
  ·rw[if_pos ha]
   have ee:evT lim P ls (.un x a) i=evT lim P ls a i:=by show (if _ then _ else _)=_;rw[if_pos ha]
   rw[ee,if_pos ha]
 | .bin x a b,h,i,s,r=>by
  have e:arN x.op=2:=h.1
  rw[Tre.flat,List.append_assoc,zfe lim P ls a h.2.1]
  by_cases ha:(evT lim P ls a i).2.1=0
  ·rw[if_neg (by simpa using ha),List.append_assoc,zfe lim P ls b h.2.2]
   by_cases hb:(evT lim P ls b (i+a.flat.length)).2.1=0
   ·rw[if_neg (by simpa using hb)]
    have ee:evT lim P ls (.bin x a b) i=finV lim (biV x.op (evT lim P ls a i).1 (evT lim P ls b (i+a.flat.length)).1) (i+a.flat.length+b.flat.length):=by
     show (if _ then _ else _)=_;rw[if_neg (by simpa using ha),if_neg (by simpa using hb)]
    rw[ee]
    show walkR lim P ls (i+a.flat.length+b.flat.length) ((evT lim P ls b (i+a.flat.length)).1::(evT lim P ls a i).1::s) (x::r)=_
    have es:stepV P ls ((evT lim P ls b (i+a.flat.length)).1::(evT lim P ls a i).1::s) x=(biV x.op (evT lim P ls a i).1 (evT lim P ls b (i+a.flat.length)).1,s):=by
     unfold stepV;rw[if_neg (by omega),if_neg (by omega)];rfl
    rw[walkR,es]
    by_cases hk:(finV lim (biV x.op (evT lim P ls a i).1 (evT lim P ls b (i+a.flat.length)).1) (i+a.flat.length+b.flat.length)).2.1=0
    ·rw[if_neg (by simpa using hk),if_neg (by simpa using hk),(zc5 hk).2.2,List.length_append,List.length_append]
     simp only[Nat.add_assoc]
     rfl
    ·rw[if_pos hk,if_pos hk]
   ·rw[if_pos hb]
    have ee:evT lim P ls (.bin x a b) i=evT lim P ls b (i+a.flat.length):=by show (if _ then _ else _)=_;rw[if_neg (by simpa using ha),if_pos hb]
    rw[ee,if_pos hb]
  ·rw[if_pos ha]
   have ee:evT lim P ls (.bin x a b) i=evT lim P ls a i:=by show (if _ then _ else _)=_;rw[if_pos ha]
   rw[ee,if_pos ha]
theorem zwk{lim:Nat}{P:Po}{ls:List Rat}:∀{t:Tre} {i:Nat},(evT lim P ls t i).2.1=0→(evT lim P ls t i).2.2=0∧sizQ (evT lim P ls t i).1≤lim
 | .leaf x,i,h=>by
  have:=zc5 (show (finV lim (leafV P ls x,true) i).2.1=0 from h)
  show (finV lim (leafV P ls x,true) i).2.2=0∧sizQ (finV lim (leafV P ls x,true) i).1≤lim
  rw[this.2.2];exact⟨rfl,this.2.1⟩
 | .un x a,i,h=>by
  unfold evT at h ⊢
  split
  ·next ha=>rw[if_pos ha]at h;exact absurd h ha
  ·next ha=>
   rw[if_neg ha]at h
   have:=zc5 h
   rw[this.2.2];exact⟨rfl,this.2.1⟩
 | .bin x a b,i,h=>by
  unfold evT at h ⊢
  split
  ·next ha=>rw[if_pos ha]at h;exact absurd h ha
  ·next ha=>
   rw[if_neg ha]at h
   split
   ·next hb=>rw[if_pos hb]at h;exact absurd h hb
   ·next hb=>
    rw[if_neg hb]at h
    have:=zc5 h
    rw[this.2.2];exact⟨rfl,this.2.1⟩
theorem zh7(lim:Nat)(P:Po)(ls:List Rat)(t:Tre)(h:t.ok)(i:Nat):walkR lim P ls i [] t.flat=evT lim P ls t i:=by
 have:=zfe lim P ls t h i [] []
 rw[List.append_nil]at this
 rw[this]
 by_cases hk:(evT lim P ls t i).2.1=0
 ·rw[if_neg (by simpa using hk)]
  show ((evT lim P ls t i).1,0,0)=_
  have:=(zwk hk).1
  exact Prod.ext rfl (Prod.ext hk.symm this.symm)
 ·rw[if_pos hk]
theorem zqm{P:Po}{ls:List Rat}{x:Nd}(hP:PvS P 1000)(hls:∀q∈ls,sz q≤1000)(hx:x.n.length≤1000):sz (leafV P ls x)≤1000:=by
 unfold leafV
 split
 ·unfold sz
  have h1:=zad x.n
  have e1:((val x.n:Nat):Rat).num.natAbs=val x.n:=by simp
  have e2:((val x.n:Nat):Rat).den=1:=by simp
  rw[e1,e2,zf1]
  exact Nat.max_le.2 ⟨by omega,by decide⟩
 ·split
  ·exact z2b (by decide) hP.y
  ·split
   ·exact z2b (by decide) hP.p
   ·split
    ·exact z2b (by decide) hls
    ·exact hP.t
theorem zzz{x:Nd}{a:Rat}(ha:sz a≤129):sz (unV x a).1≤2000:=by
 unfold unV
 split
 ·simp only[zz7];omega
 ·unfold powR
  split
  ·next h=>
   have:=z2d ha h.1 h.2.1
   show sz (powZ a x.i)≤2000
   omega
  ·simp[zwo]
theorem zz0{op:Int}{a b:Rat}(ha:sz a≤129)(hb:sz b≤129):sz (biV op a b).1≤2000:=by
 unfold biV
 split
 ·have:=zz5 a b;simp only;omega
 ·split
  ·have:=z7q a b;simp only;omega
  ·split
   ·have:=zz6 a b;simp only;omega
   ·have:=z7r a b;simp only;omega
theorem zqn{lim:Nat}{q:Rat}(hl:lim≤4096)(h:sizQ q≤lim):sz q≤129:=by
 have:=z2c h
 have:lim/32≤128:=by omega
 omega
def walkG(lim:Nat)(P:Po)(ls:List Rat):List Rat→List Nd→Int→Int→Int×Int
 | _,[],c,p=>(c,p)
 | s,x::r,c,p=>if (stepV P ls s x).1.2=false then (c,p) else if lim<sizQ (stepV P ls s x).1.1 then (cntS c,cntP p (fz (stepV P ls s x).1.1))
   else walkG lim P ls ((stepV P ls s x).1.1::(stepV P ls s x).2) r (cntS c) (cntP p (fz (stepV P ls s x).1.1))
abbrev hpA(gk:Nat)(Q:PoF)(LS:List Fz)(s p L seen:Int)(F:List Fz)(m:Nat):Heap:=
 [(.bor 0,⟨0,.str,9,[[.b Q.t.1,.sl (u32s Q.t.2.1) .an,.sl (u32s Q.t.2.2) .an,.sl (rowF Q.y) .an,.sl (rowF Q.p) .an,.sl (rowF LS) .an,.ptr (.bor 1) 1 3 0 0,.i .i64 seen,.bs (.bor 2) gk 3 0 m]]⟩),(.bor 1,bxG 1 s p L),(.bor 2,⟨gk,.own,3,rowF F⟩)]
abbrev wP:AV:=.ptr (.bor 0) 0 9 0 0
section
variable{T:Tbl}[CLimb T][CNat T][CProd T][CTwos T][CQuot T][CQuotD T][CWhole T][CCommon T][CFrac T][CFrac2 T][CFrac3 T][CFrac5 T][CPow T][CTape T][CGauge T][CEval T][CEval2 T][CTree T][CText T][CLenD T]
theorem zjr(a:List UInt32)(ha:a.length≤10000):callF T 204 [.agg [.b false,.sl (u32s a) .an],.sl [[u32 1]] .an]=some (.tup [efz (fz ((val a:Nat):Rat)),.b true]):=by
 have c1:callF T 70 [.sl [[u32 1]] .an]=some (.b false):=zeb (T:=T) [1] (by decide)
 have c2:callF T 202 [.agg [.b false,.sl (u32s a) .an],.sl [[u32 1]] .an]=some (efz (fz (mkRat (wv false a) 1))):=zoi (T:=T) false a [1] ha (by decide) (by decide)
 have e:mkRat (wv false a) 1=((val a:Nat):Rat):=by
  rw[Rat.mkRat_one]
  rfl
 rw[e]at c2
 rw[f204 _ rfl,b204]
 generalize fz ((val a:Nat):Rat)=R at *
 simp -implicitDefEqProofs[c1,c2]
theorem z2g(Q:PoF)(LS:List Fz)(s p L seen:Int)(F:List Fz)(m:Nat)(x:Fz)(hx:F[m]? = some x)(hm:m≤100000):callH T 490 [wP] (hpA 2 Q LS s p L seen F (m+1))=some (efz x,hpA 2 Q LS s p L seen F m):=by
 obtain⟨hlt,hge⟩:=List.getElem?_eq_some_iff.1 hx
 have hw:IntKind.wrap .i64 (m:Int)=m:=zac _ (by omega)
 have h1:(m:Int)<(m:Int)+1:=by omega
 have h2:(m:Int)≤(m:Int)+1:=by omega
 obtain⟨⟨q0,q1,q2⟩,qy,qp⟩:=Q
 obtain⟨x0,x1,x2⟩:=x
 rw[f490 _ _ rfl,b490]
 simp -implicitDefEqProofs[hx,hge,hlt,hw,h1,h2]
theorem z7j(P:Po)(ls:List Rat)(s p L seen:Int)(F:List Fz)(m:Nat)(x:Nd)(ha:arN x.op=0)(hn:x.n.length≤1000)(hy:x.op=3→0≤x.i∧x.i<P.y.length)(hp:x.op=4→0≤x.i∧x.i<P.p.length)(hl:x.op=5→0≤x.i∧x.i<ls.length) :
  callH T 489 [wP,.agg (celN x)] (hpA 2 P.f (fzs ls) s p L seen F m)=some (efz (fz (leafV P ls x)),hpA 2 P.f (fzs ls) s p L seen F m):=by
 have hop:x.op=1∨x.op=2∨x.op=3∨x.op=4∨x.op=5:=by rcases zaw x.op with ⟨e,h⟩ | ⟨e,h⟩ | ⟨e,h⟩ | ⟨e,h⟩<;>omega
 have c1:=zjr (T:=T) x.n (by omega)
 obtain⟨op,i,n⟩:=x
 obtain⟨t,y,pp⟩:=P
 dsimp only at *
 unfold leafV Po.f
 dsimp only
 rw[f489 _ _ rfl,b489]
 rcases hop with rfl | rfl | rfl | rfl | rfl
 ·show _=some (efz (fz ((val n:Nat):Rat)),_)
  generalize fz ((val n:Nat):Rat)=z at *
  generalize fzs y=Y at *
  generalize fzs pp=PP at *
  generalize fzs ls=LL at *
  generalize fz t=tt at *
  obtain⟨t0,t1,t2⟩:=tt
  simp -implicitDefEqProofs[c1]
 ·show _=some (efz (fz t),_)
  generalize fzs y=Y at *
  generalize fzs pp=PP at *
  generalize fzs ls=LL at *
  generalize fz t=tt at *
  obtain⟨t0,t1,t2⟩:=tt
  simp -implicitDefEqProofs
 ·obtain⟨k,rfl,g1,g2,g3⟩:=zjp (hy rfl)
  have g4:=(List.getElem?_eq_some_iff.1 g3).2
  have hl2:(fzs y).length=y.length:=za1 y
  show _=some (efz (fz (gI y (k:Int))),_)
  generalize fz (gI y (k:Int))=z at *
  generalize fzs y=Y at *
  generalize fzs pp=PP at *
  generalize fzs ls=LL at *
  generalize fz t=tt at *
  obtain⟨t0,t1,t2⟩:=tt
  simp -implicitDefEqProofs[g1,g2,g3,g4,hl2]
 ·obtain⟨k,rfl,g1,g2,g3⟩:=zjp (hp rfl)
  have g4:=(List.getElem?_eq_some_iff.1 g3).2
  have hl2:(fzs pp).length=pp.length:=za1 pp
  show _=some (efz (fz (gI pp (k:Int))),_)
  generalize fz (gI pp (k:Int))=z at *
  generalize fzs y=Y at *
  generalize fzs pp=PP at *
  generalize fzs ls=LL at *
  generalize fz t=tt at *
  obtain⟨t0,t1,t2⟩:=tt
  simp -implicitDefEqProofs[g1,g2,g3,g4,hl2]
 ·obtain⟨k,rfl,g1,g2,g3⟩:=zjp (hl rfl)
  have g4:=(List.getElem?_eq_some_iff.1 g3).2
  have hl2:(fzs ls).length=ls.length:=za1 ls
  show _=some (efz (fz (gI ls (k:Int))),_)
  generalize fz (gI ls (k:Int))=z at *
  generalize fzs y=Y at *
  generalize fzs pp=PP at *
  generalize fzs ls=LL at *
  generalize fz t=tt at *
  obtain⟨t0,t1,t2⟩:=tt
  simp -implicitDefEqProofs[g1,g2,g3,g4,hl2]
theorem zys(Q:PoF)(LS:List Fz)(s p L seen:Int)(F:List Fz)(m:Nat)(x:Nd)(ha:arN x.op=0)(v:Fz)
  (c:callH T 489 [wP,.agg (celN x)] (hpA 2 Q LS s p L seen F m)=some (efz v,hpA 2 Q LS s p L seen F m)) :
  callH T 484 [wP,.agg (celN x)] (hpA 2 Q LS s p L seen F m)=some (.tup [efz v,.b true],hpA 2 Q LS s p L seen F m):=by
 have ca:=zbm (T:=T) x.op
 rw[ha]at ca
 obtain⟨⟨q0,q1,q2⟩,qy,qp⟩:=Q
 obtain⟨op,i,n⟩:=x
 rw[f484 _ _ rfl,b484]
 simp -implicitDefEqProofs[ca,c]
theorem zyt(Q:PoF)(LS:List Fz)(s p L seen:Int)(F:List Fz)(m:Nat)(x:Nd)(ha:arN x.op=1)(a:Rat)(hz:sz a≤129)(hx:F[m]? = some (fz a))(hm:m≤100000) :
  callH T 484 [wP,.agg (celN x)] (hpA 2 Q LS s p L seen F (m+1))=some (.tup [efz (fz (unV x a).1),.b (unV x a).2],hpA 2 Q LS s p L seen F m):=by
 have ca:=zbm (T:=T) x.op
 rw[ha]at ca
 have hop:x.op=6∨x.op=11:=by rcases zaw x.op with ⟨e,h⟩ | ⟨e,h⟩ | ⟨e,h⟩ | ⟨e,h⟩<;>omega
 have cp:=z2g (T:=T) Q LS s p L seen F m (fz a) hx hm
 have c6:=zp2 (T:=T) (fz a) (by rw[zdp];omega)
 have c11:=zp7 (T:=T) (fz a) x.i (by rw[zdp];omega)
 rw[zsr]at c6 c11
 obtain⟨⟨q0,q1,q2⟩,qy,qp⟩:=Q
 obtain⟨op,i,n⟩:=x
 dsimp only at *
 unfold unV
 dsimp only
 rw[f484 _ _ rfl,b484]
 rcases hop with rfl | rfl
 ·rw[if_pos rfl]
  dsimp only
  generalize fz (-a)=z at *
  generalize fz a=u at *
  simp -implicitDefEqProofs[ca,cp,c6]
 ·rw[if_neg (by decide)]
  generalize fz (powR a i).1=z at *
  generalize (powR a i).2=ok at *
  generalize fz a=u at *
  simp -implicitDefEqProofs[ca,cp,c11]
theorem zyu(Q:PoF)(LS:List Fz)(s p L seen:Int)(F:List Fz)(m:Nat)(x:Nd)(ha:arN x.op=2)(a b:Rat)(hza:sz a≤129)(hzb:sz b≤129)(hx:F[m]? = some (fz a))(hx2:F[m+1]? = some (fz b))(hm:m≤90000) :
  callH T 484 [wP,.agg (celN x)] (hpA 2 Q LS s p L seen F (m+2))=some (.tup [efz (fz (biV x.op a b).1),.b (biV x.op a b).2],hpA 2 Q LS s p L seen F m):=by
 have ca:=zbm (T:=T) x.op
 rw[ha]at ca
 have hop:x.op=7∨x.op=8∨x.op=9∨x.op=10:=by rcases zaw x.op with ⟨e,h⟩ | ⟨e,h⟩ | ⟨e,h⟩ | ⟨e,h⟩<;>omega
 have cp:=z2g (T:=T) Q LS s p L seen F m (fz a) hx (by omega)
 have cp2:=z2g (T:=T) Q LS s p L seen F (m+1) (fz b) hx2 (by omega)
 have sa:fsz (fz a)≤1000:=by rw[zdp];omega
 have sb:fsz (fz b)≤1000:=by rw[zdp];omega
 have c7:=zp3 (T:=T) (fz a) (fz b) sa sb
 have c8:=zp4 (T:=T) (fz a) (fz b) sa sb
 have c9:=zp5 (T:=T) (fz a) (fz b) sa sb
 have c10:=zp6 (T:=T) (fz a) (fz b) sa sb
 rw[zsr,zsr]at c7 c8 c9 c10
 obtain⟨⟨q0,q1,q2⟩,qy,qp⟩:=Q
 obtain⟨op,i,n⟩:=x
 dsimp only at *
 unfold biV
 rw[f484 _ _ rfl,b484]
 rcases hop with rfl | rfl | rfl | rfl
 ·rw[if_pos rfl]
  dsimp only
  generalize fz (a+b)=z at *
  generalize fz a=u at *
  generalize fz b=w at *
  simp -implicitDefEqProofs[ca,cp,cp2,c7]
 ·rw[if_neg (by decide),if_pos rfl]
  dsimp only
  generalize fz (a-b)=z at *
  generalize fz a=u at *
  generalize fz b=w at *
  simp -implicitDefEqProofs[ca,cp,cp2,c8]
 ·rw[if_neg (by decide),if_neg (by decide),if_pos rfl]
  dsimp only
  generalize fz (a*b)=z at *
  generalize fz a=u at *
  generalize fz b=w at *
  simp -implicitDefEqProofs[ca,cp,cp2,c9]
 ·rw[if_neg (by decide),if_neg (by decide),if_neg (by decide)]
  dsimp only
  generalize fz (a/b)=z at *
  generalize decide (b≠0)=ok at *
  generalize fz a=u at *
  generalize fz b=w at *
  simp -implicitDefEqProofs[ca,cp,cp2,c10]
end
abbrev bx4A(z:Fz):Box:=⟨7,.str,3,[[.b z.1,.sl (u32s z.2.1) .an,.sl (u32s z.2.2) .an]]⟩
abbrev bx5A(a b c d:Int):Box:=⟨8,.str,4,[[.i .i64 a,.i .i64 b,.i .i64 c,.i .i64 d]]⟩
abbrev hqA(gk:Nat)(Q:PoF)(LS:List Fz)(s p L seen:Int)(F:List Fz)(m:Nat)(z:Fz)(a b c d:Int):Heap:=
 [(.bor 0,⟨0,.str,9,[[.b Q.t.1,.sl (u32s Q.t.2.1) .an,.sl (u32s Q.t.2.2) .an,.sl (rowF Q.y) .an,.sl (rowF Q.p) .an,.sl (rowF LS) .an,.ptr (.bor 1) 1 3 0 0,.i .i64 seen,.bs (.bor 2) gk 3 0 m]]⟩),(.bor 1,bxG 1 s p L),(.bor 2,⟨gk,.own,3,rowF F⟩),(.loc 4,bx4A z),(.loc 5,bx5A a b c d)]
def stWA(gk:Nat)(Q:PoF)(LS:List Fz)(s p L seen:Int)(F:List Fz)(m:Nat)(code:List Nd)(i:Nat):St:=
 ⟨[(0,wP),(4,.ptr (.loc 4) 7 3 0 0),(5,.ptr (.loc 5) 8 4 0 0),(18,.sl (rowN code) .an),(19,.i .i64 code.length),(20,.i .i64 i)],hqA gk Q LS s p L seen F m (false,[],[]) 0 0 0 0,10⟩
def endWA(gk:Nat)(Q:PoF)(LS:List Fz)(s p L seen:Int)(F:List Fz)(m:Nat):Ex×St:=
 (.n,⟨[(0,wP),(4,.ptr (.loc 4) 7 3 0 0),(5,.ptr (.loc 5) 8 4 0 0)],hqA gk Q LS s p L seen F m (false,[],[]) 0 0 0 0,10⟩)
def endSA(gk:Nat)(Q:PoF)(LS:List Fz)(s p L seen:Int)(F:List Fz)(m:Nat)(kind at_:Int):Ex×St:=
 (.r,⟨[(4,.ptr (.loc 4) 7 3 0 0),(5,.ptr (.loc 5) 8 4 0 0)],hqA gk Q LS s p L seen F m (fz 0) kind 0 0 at_,10⟩)
theorem zrq(m:List Fz)(v:Fz):wkL (rowF m++[[.b v.1,.sl (u32s v.2.1) .an,.sl (u32s v.2.2) .an]])=rowF (m++[v]):=by
 have:rowF m++[celF v]=rowF (m++[v]):=zh9 m v
 rw[show [[AV.b v.1,.sl (u32s v.2.1) .an,.sl (u32s v.2.2) .an]]=[celF v] from rfl,this,zoz]
section
variable{T:Tbl}[CLimb T][CNat T][CProd T][CTwos T][CQuot T][CQuotD T][CWhole T][CCommon T][CFrac T][CFrac2 T][CFrac3 T][CFrac5 T][CPow T][CTape T][CGauge T][CEval T][CEval2 T][CTree T][CText T][CLenD T]
theorem zrr{gk:Nat}(hk:gk=2∨gk=6)(Q:PoF)(LS:List Fz)(s p L seen:Int)(F:List Fz)(m m2:Nat)(code:List Nd)(i:Nat)(x:Nd)(v:Fz)(hx:code[i]? = some x)(hl:code.length≤100000)(hm:m2≤F.length)(hF:F.length≤100000)(hs:0≤seen)(hs2:seen≤100000)(hv:fsz v≤10000)
  (c:callH T 484 [wP,.agg (celN x)] (hpA 2 Q LS s p L seen F m)=some (.tup [efz v,.b true],hpA 2 Q LS s p L seen F m2)) (hf:(sizF v:Int)≤L) :
  evX (orc T) T 3 l473_0 (stWA gk Q LS s p L seen F m code i)=some (.n,stWA 6 Q LS (cntS s) (cntP p v) L (seen+1) (F.take m2++[v]) (m2+1) code (i+1)):=by
 have cg:=zea (T:=T) s p L v hv
 rw[decide_eq_true hf]at cg
 obtain⟨hlt,hge⟩:=List.getElem?_eq_some_iff.1 hx
 have hlt':(i:Int)<code.length:=by omega
 have hws:=za2 hlt (by omega)
 have hw:IntKind.wrap .i64 (seen+1)=seen+1:=zac _ (by omega)
 have hpu:=zrq (F.take m2) v
 have htl:(F.take m2).length=m2:=by rw[List.length_take];omega
 have h32:m2+1≤4294967296:=by omega
 generalize cntS s=s' at *
 generalize cntP p v=p' at *
 obtain⟨⟨q0,q1,q2⟩,qy,qp⟩:=Q
 obtain⟨op,xi,n⟩:=x
 obtain⟨v0,v1,v2⟩:=v
 unfold stWA
 rcases hk with rfl | rfl
 ·simp -implicitDefEqProofs[l473_0,hlt,hlt',hx,hge,hws,c,cg,hw,hpu,hm,h32]
 ·simp -implicitDefEqProofs[l473_0,hlt,hlt',hx,hge,hws,c,cg,hw,hpu,hm,h32]
theorem zu1{gk:Nat}(hk:gk=2∨gk=6)(Q:PoF)(LS:List Fz)(s p L seen:Int)(F:List Fz)(m m2:Nat)(code:List Nd)(i:Nat)(x:Nd)(v:Fz)(hx:code[i]? = some x)
  (c:callH T 484 [wP,.agg (celN x)] (hpA 2 Q LS s p L seen F m)=some (.tup [efz v,.b false],hpA 2 Q LS s p L seen F m2)) :
  evX (orc T) T 3 l473_0 (stWA gk Q LS s p L seen F m code i)=some (endSA gk Q LS s p L seen F m2 3 seen):=by
 have c0:=zd9 (T:=T)
 obtain⟨hlt,hge⟩:=List.getElem?_eq_some_iff.1 hx
 have hlt':(i:Int)<code.length:=by omega
 unfold stWA endSA
 generalize fz 0=Z at *
 obtain⟨z0,z1,z2⟩:=Z
 obtain⟨⟨q0,q1,q2⟩,qy,qp⟩:=Q
 obtain⟨op,xi,n⟩:=x
 obtain⟨v0,v1,v2⟩:=v
 rcases hk with rfl | rfl
 ·simp -implicitDefEqProofs[l473_0,hlt,hlt',hx,hge,c,c0]
 ·simp -implicitDefEqProofs[l473_0,hlt,hlt',hx,hge,c,c0]
theorem zu2{gk:Nat}(hk:gk=2∨gk=6)(Q:PoF)(LS:List Fz)(s p L seen:Int)(F:List Fz)(m m2:Nat)(code:List Nd)(i:Nat)(x:Nd)(v:Fz)(hx:code[i]? = some x)(hv:fsz v≤10000)
  (c:callH T 484 [wP,.agg (celN x)] (hpA 2 Q LS s p L seen F m)=some (.tup [efz v,.b true],hpA 2 Q LS s p L seen F m2)) (hf:¬ (sizF v:Int)≤L) :
  evX (orc T) T 3 l473_0 (stWA gk Q LS s p L seen F m code i)=some (endSA gk Q LS (cntS s) (cntP p v) L seen F m2 6 seen):=by
 have c0:=zd9 (T:=T)
 have cg:=zea (T:=T) s p L v hv
 rw[decide_eq_false hf]at cg
 obtain⟨hlt,hge⟩:=List.getElem?_eq_some_iff.1 hx
 have hlt':(i:Int)<code.length:=by omega
 generalize cntS s=s' at *
 generalize cntP p v=p' at *
 unfold stWA endSA
 generalize fz 0=Z at *
 obtain⟨z0,z1,z2⟩:=Z
 obtain⟨⟨q0,q1,q2⟩,qy,qp⟩:=Q
 obtain⟨op,xi,n⟩:=x
 obtain⟨v0,v1,v2⟩:=v
 rcases hk with rfl | rfl
 ·simp -implicitDefEqProofs[l473_0,hlt,hlt',hx,hge,c,cg,c0]
 ·simp -implicitDefEqProofs[l473_0,hlt,hlt',hx,hge,c,cg,c0]
theorem zxt{gk:Nat}(hk:gk=2∨gk=6)(Q:PoF)(LS:List Fz)(s p L seen:Int)(F:List Fz)(m:Nat)(code:List Nd) :
  isEx (evX (orc T) T 3 l473_0 (stWA gk Q LS s p L seen F m code code.length))=true∧finX 3 0 (.norm false [0,4,5]) (evX (orc T) T 3 l473_0 (stWA gk Q LS s p L seen F m code code.length))=some (endWA gk Q LS s p L seen F m):=by
 obtain⟨⟨q0,q1,q2⟩,qy,qp⟩:=Q
 unfold stWA endWA
 rcases hk with rfl | rfl<;>constructor<;>simp -implicitDefEqProofs[l473_0]
end
theorem zzo{dim pars lets:Int}{x:Nd}(h:okN dim pars lets x=true):(x.op=3→0≤x.i∧x.i<dim)∧(x.op=4→0≤x.i∧x.i<pars)∧(x.op=5→0≤x.i∧x.i<lets):=by
 unfold okN at h
 refine⟨fun ho=>?_,fun ho=>?_,fun ho=>?_⟩
 all_goals
  rw[ho]at h
  rw[if_neg (by decide)]at h
  split at h
  ·cases h
  ·simpa[belB]using h
section
variable{T:Tbl}[CLimb T][CNat T][CProd T][CTwos T][CQuot T][CQuotD T][CWhole T][CCommon T][CFrac T][CFrac2 T][CFrac3 T][CFrac5 T][CPow T][CTape T][CGauge T][CEval T][CEval2 T][CTree T][CText T][CLenD T]
theorem zzp(gk:Nat)(Q:PoF)(LS:List Fz)(s p L seen:Int)(F:List Fz)(m:Nat)(kind at_:Int):finX 3 0 (.norm false [0,4,5]) (some (endSA gk Q LS s p L seen F m kind at_))=some (endSA gk Q LS s p L seen F m kind at_):=by
 unfold endSA
 simp -implicitDefEqProofs
def endQA(P:Po)(lim:Nat)(ls:List Rat)(n:Nat)(R:Rat×Nat×Nat)(r:Ex×St):Prop:=
 (R.2.1=0∧∃gk s p F,(gk=2∨gk=6)∧F[0]? = some (fz R.1)∧F.length≤5000∧r=endWA gk P.f (fzs ls) s p lim n F 1) ∨
 (R.2.1≠0∧∃gk s p seen F m,(gk=2∨gk=6)∧r=endSA gk P.f (fzs ls) s p lim seen F m R.2.1 R.2.2)
theorem zoc(P:Po)(lim:Nat)(hlim:lim≤4096)(ls:List Rat)(hP:PvS P 1000)(hls:∀q∈ls,sz q≤1000)(code:List Nd)(hl:code.length≤3000)(hok:∀x∈code,okN P.y.length P.p.length ls.length x=true)(hn:thin 1000 code)(hwr:wrongN code=-1)(n0:Nat)(hn0:n0≤10000)(s0 p0:Int)(F0:List Fz)(hF0:F0.length≤5000) :
  ∃r,endQA P lim ls (n0+code.length) (walkR lim P ls n0 [] code) r∧loopN T 3 0 (.norm false [0,4,5]) l473_0 (stWA 2 P.f (fzs ls) s0 p0 lim n0 F0 0 code 0)=some r:=by
 refine zat (fun x:Nat×List Rat×Nat×(Int×Int)×List Fz=>stWA x.2.2.1 P.f (fzs ls) x.2.2.2.1.1 x.2.2.2.1.2 lim ((n0+x.1:Nat):Int) x.2.2.2.2 x.2.1.length code x.1)
  (fun x=>x.1≤code.length∧(x.2.2.1=2∨x.2.2.1=6)∧x.2.2.2.2.take x.2.1.length=fzs x.2.1.reverse∧x.2.1.length≤x.2.2.2.2.length∧x.2.2.2.2.length≤5000∧(∀q∈x.2.1,sz q≤129)∧x.2.1.length≤x.1∧(∃j,wrongL j x.2.1.length (code.drop x.1)=-1)∧walkR lim P ls (n0+x.1) x.2.1 (code.drop x.1)=walkR lim P ls n0 [] code)
  (fun x=>code.length-x.1) _ ?_ (0,[],2,(s0,p0),F0) ⟨Nat.zero_le _,.inl rfl,rfl,Nat.zero_le _,hF0,by simp,Nat.le_refl _,⟨0,hwr⟩,rfl⟩
 rintro⟨i,s,gk,⟨c,p⟩,F⟩ ⟨hi,hk,hF,hsF,hFl,hz,hsi,⟨j,hw⟩,hW⟩
 dsimp only at *
 by_cases hlt:i<code.length
 ·have hx:code[i]? = some (code[i]'hlt):=List.getElem?_eq_getElem hlt
  have hd:code.drop i=code[i]'hlt::code.drop (i+1):=List.drop_eq_getElem_cons hlt
  have hmem:=List.getElem_mem hlt
  generalize code[i]'hlt=x at *
  rw[hd]at hw hW
  have hxn:=hn x hmem
  have hxo:=zzo (hok x hmem)
  have h1:¬ (arN x.op<0∨(s.length:Int)<arN x.op):=by
   intro hh
   unfold wrongL at hw
   rw[if_pos hh]at hw
   omega
  have hw2:wrongL (j+1) (s.length+1-arN x.op) (code.drop (i+1))=-1:=by
   unfold wrongL at hw
   rwa [if_neg h1]at hw
  -- one round,by what the node makes of the stack
  have round:∀(v:Rat) (ok:Bool) (s':List Rat),stepV P ls s x=((v,ok),s')→sz v≤2000→s'.length≤s.length→(s'.length:Int)=s.length-arN x.op→(∀q∈s',q∈s)→F.take s'.length=fzs s'.reverse →
    callH T 484 [wP,.agg (celN x)] (hpA 2 P.f (fzs ls) c p lim ((n0+i:Nat):Int) F s.length)=some (.tup [efz (fz v),.b ok],hpA 2 P.f (fzs ls) c p lim ((n0+i:Nat):Int) F s'.length) →
    (∃y:Nat×List Rat×Nat×(Int×Int)×List Fz,(y.1≤code.length∧(y.2.2.1=2∨y.2.2.1=6)∧y.2.2.2.2.take y.2.1.length=fzs y.2.1.reverse∧y.2.1.length≤y.2.2.2.2.length∧y.2.2.2.2.length≤5000∧(∀q∈y.2.1,sz q≤129)∧y.2.1.length≤y.1∧(∃j,wrongL j y.2.1.length (code.drop y.1)=-1)∧walkR lim P ls (n0+y.1) y.2.1 (code.drop y.1)=walkR lim P ls n0 [] code)∧code.length-y.1<code.length-i ∧
     evX (orc T) T 3 l473_0 (stWA gk P.f (fzs ls) c p lim ((n0+i:Nat):Int) F s.length code i)=some (.n,stWA y.2.2.1 P.f (fzs ls) y.2.2.2.1.1 y.2.2.2.1.2 lim ((n0+y.1:Nat):Int) y.2.2.2.2 y.2.1.length code y.1)) ∨
    (∃r,endQA P lim ls (n0+code.length) (walkR lim P ls n0 [] code) r∧isEx (evX (orc T) T 3 l473_0 (stWA gk P.f (fzs ls) c p lim ((n0+i:Nat):Int) F s.length code i))=true ∧
     finX 3 0 (.norm false [0,4,5]) (evX (orc T) T 3 l473_0 (stWA gk P.f (fzs ls) c p lim ((n0+i:Nat):Int) F s.length code i))=some r):=by
   intro v ok s' hst hv hs's hlen hsub hF' hc
   have hvf:fsz (fz v)≤10000:=by rw[zdp];omega
   rw[walkR,hst]at hW
   dsimp only at hW
   cases ok with
   | false=>
    right
    have e:=zu1 (T:=T) hk P.f (fzs ls) c p lim ((n0+i:Nat):Int) F s.length s'.length code i x (fz v) hx hc
    have ef:finV lim (v,false) (n0+i)=(0,3,n0+i):=rfl
    rw[ef]at hW
    rw[if_pos (by simp)]at hW
    refine⟨endSA gk P.f (fzs ls) c p lim ((n0+i:Nat):Int) F s'.length 3 ((n0+i:Nat):Int),.inr ?_,by rw[e];rfl,by rw[e,zzp]⟩
    rw[←hW]
    exact⟨by simp,gk,c,p,_,F,_,hk,rfl⟩
   | true=>
    by_cases hfit:sizQ v≤lim
    ·left
     have ef:finV lim (v,true) (n0+i)=(v,0,0):=by unfold finV;rw[if_neg (by simp),if_neg (by dsimp only;omega)]
     rw[ef]at hW
     rw[if_neg (by simp)]at hW
     have e:=zrr (T:=T) hk P.f (fzs ls) c p lim ((n0+i:Nat):Int) F s.length s'.length code i x (fz v) hx (by omega) (by omega) (by omega) (by omega) (by omega) hvf hc (by unfold sizQ at hfit;omega)
     have hn1:((n0+i:Nat):Int)+1=((n0+(i+1):Nat):Int):=by omega
     rw[hn1]at e
     have hl1:(F.take s'.length++[fz v]).length=s'.length+1:=by rw[List.length_append,List.length_take];simp only[List.length_cons,List.length_nil];omega
     refine⟨(i+1,v::s',6,(cntS c,cntP p (fz v)),F.take s'.length++[fz v]),⟨by dsimp only;omega,.inr rfl,?_,?_,?_,?_,?_,⟨j+1,?_⟩,?_⟩,by dsimp only;omega,e⟩
     ·dsimp only
      rw[List.length_cons,List.take_of_length_le (by omega),hF']
      simp[fzs]
     ·dsimp only;rw[List.length_cons,hl1];exact Nat.le_refl _
     ·dsimp only;rw[hl1];omega
     ·intro q hq
      rcases List.mem_cons.1 hq with rfl | hq
      ·exact zqn hlim hfit
      ·exact hz q (hsub q hq)
     ·dsimp only;rw[List.length_cons];omega
     ·dsimp only
      rw[←hw2]
      congr 1
      rw[List.length_cons];omega
     ·dsimp only
      rw[←hW]
      congr 1
    ·right
     have ef:finV lim (v,true) (n0+i)=(0,6,n0+i):=by unfold finV;rw[if_neg (by simp),if_pos (by dsimp only;omega)]
     rw[ef]at hW
     rw[if_pos (by simp)]at hW
     have e:=zu2 (T:=T) hk P.f (fzs ls) c p lim ((n0+i:Nat):Int) F s.length s'.length code i x (fz v) hx hvf hc (by unfold sizQ at hfit;omega)
     refine⟨endSA gk P.f (fzs ls) (cntS c) (cntP p (fz v)) lim ((n0+i:Nat):Int) F s'.length 6 ((n0+i:Nat):Int),.inr ?_,by rw[e];rfl,by rw[e,zzp]⟩
     rw[←hW]
     exact⟨by simp,gk,_,_,_,F,_,hk,rfl⟩
  rcases zaw x.op with ⟨e,ho⟩ | ⟨e,ho⟩ | ⟨e,ho⟩ | ⟨e,ho⟩
  ·have hst:stepV P ls s x=((leafV P ls x,true),s):=by unfold stepV;rw[if_pos e]
   have cl:=z7j (T:=T) P ls c p lim ((n0+i:Nat):Int) F s.length x e hxn hxo.1 hxo.2.1 hxo.2.2
   exact round _ true s hst (by have:=zqm (P:=P) hP hls hxn;omega) (Nat.le_refl _) (by rw[e];omega) (fun q hq=>hq) hF (zys P.f (fzs ls) c p lim _ F s.length x e _ cl)
  ·cases s with
   | nil=>exfalso;apply h1;right;rw[e];decide
   | cons a s1=>
    have hst:stepV P ls (a::s1) x=(unV x a,s1):=by unfold stepV;rw[if_neg (by omega),if_pos e];rfl
    have hza:=hz a (by simp)
    have hFa:F[s1.length]? = some (fz a):=by
     have:(F.take (a::s1).length)[s1.length]? = some (fz a):=by rw[hF];simp[fzs]
     rwa [List.getElem?_take,if_pos (by simp)]at this
    have hF1:F.take s1.length=fzs s1.reverse:=by
     have:(F.take (a::s1).length).take s1.length=fzs s1.reverse:=by rw[hF];simp[fzs]
     rwa [List.take_take,Nat.min_eq_left (by simp)]at this
    have cv:=zyt (T:=T) P.f (fzs ls) c p lim ((n0+i:Nat):Int) F s1.length x e a hza hFa (by rw[List.length_cons]at hsi;omega)
    exact round (unV x a).1 (unV x a).2 s1 hst (zzz hza) (by simp) (by rw[e,List.length_cons];omega) (fun q hq=>by simp[hq]) hF1 cv
  ·cases s with
   | nil=>exfalso;apply h1;right;rw[e];decide
   | cons b s0=>
   cases s0 with
   | nil=>exfalso;apply h1;right;rw[e];simp
   | cons a s1=>
    have hst:stepV P ls (b::a::s1) x=(biV x.op a b,s1):=by unfold stepV;rw[if_neg (by omega),if_neg (by omega)];rfl
    have hza:=hz a (by simp)
    have hzb:=hz b (by simp)
    have hFa:F[s1.length]? = some (fz a):=by
     have:(F.take (b::a::s1).length)[s1.length]? = some (fz a):=by rw[hF];simp[fzs]
     rwa [List.getElem?_take,if_pos (by simp only[List.length_cons];omega)]at this
    have hFb:F[s1.length+1]? = some (fz b):=by
     have:(F.take (b::a::s1).length)[s1.length+1]? = some (fz b):=by rw[hF];simp[fzs]
     rwa [List.getElem?_take,if_pos (by simp)]at this
    have hF1:F.take s1.length=fzs s1.reverse:=by
     have:(F.take (b::a::s1).length).take s1.length=fzs s1.reverse:=by rw[hF];simp[fzs]
     rwa [List.take_take,Nat.min_eq_left (by simp;omega)]at this
    have cv:=zyu (T:=T) P.f (fzs ls) c p lim ((n0+i:Nat):Int) F s1.length x e a b hza hzb hFa hFb (by simp only[List.length_cons]at hsi;omega)
    exact round (biV x.op a b).1 (biV x.op a b).2 s1 hst (zz0 hza hzb) (by simp;omega) (by rw[e,List.length_cons,List.length_cons];omega) (fun q hq=>by simp[hq]) hF1 cv
  ·exfalso;apply h1;left;omega
 ·right
  have hi2:i=code.length:=by omega
  subst hi2
  rw[List.drop_length]at hw hW
  have hs1:s.length=1:=by
   unfold wrongL at hw
   split at hw
   ·omega
   ·omega
  obtain⟨v,rfl⟩:=List.length_eq_one_iff.1 hs1
  have e:=zxt (T:=T) hk P.f (fzs ls) c p lim ((n0+code.length:Nat):Int) F 1 code
  refine⟨endWA gk P.f (fzs ls) c p lim ((n0+code.length:Nat):Int) F 1,.inl ?_,e.1,e.2⟩
  have hR:walkR lim P ls (n0+code.length) [v] []=(v,0,0):=rfl
  rw[hR]at hW
  rw[←hW]
  have hFa:F[0]? = some (fz v):=by
   have:(F.take [v].length)[0]? = some (fz v):=by rw[hF];simp[fzs]
   rwa [List.getElem?_take,if_pos (by simp)]at this
  exact⟨rfl,gk,c,p,F,hk,hFa,hFl,rfl⟩
end
theorem zfx(lim:Nat)(P:Po)(ls:List Rat):∀(l:List Nd) (i:Nat) (s:List Rat),(walkR lim P ls i s l).2.1≠0→(walkR lim P ls i s l).1=0
 | [],i,s,h=>absurd rfl h
 | x::r,i,s,h=>by
  unfold walkR at h ⊢
  split
  ·next h1=>exact(zwj h1).1
  ·next h1=>
   rw[if_neg h1]at h
   exact zfx lim P ls r _ _ h
theorem zfd(lim:Nat)(P:Po)(ls:List Rat):∀(l:List Nd) (i:Nat) (s:List Rat),(walkR lim P ls i s l).2.1=0→(walkR lim P ls i s l).2.2=0
 | [],i,s,_=>rfl
 | x::r,i,s,h=>by
  unfold walkR at h ⊢
  split
  ·next h1=>rw[if_pos h1]at h;exact absurd h h1
  ·next h1=>
   rw[if_neg h1]at h
   exact zfd lim P ls r _ _ h
section
variable{T:Tbl}[CLimb T][CNat T][CProd T][CTwos T][CQuot T][CQuotD T][CWhole T][CCommon T][CFrac T][CFrac2 T][CFrac3 T][CFrac5 T][CPow T][CTape T][CGauge T][CEval T][CEval2 T][CTree T][CText T][CLenD T]
theorem zox(P:Po)(lim:Nat)(hlim:lim≤4096)(ls:List Rat)(hP:PvS P 1000)(hls:∀q∈ls,sz q≤1000)(code:List Nd)(hl:code.length≤3000)(hok:∀x∈code,okN P.y.length P.p.length ls.length x=true)(hn:thin 1000 code)(hwr:wrongN code=-1)(n0:Nat)(hn0:n0≤10000)(s0 p0:Int)(F0:List Fz)(m0:Nat)(hF0:F0.length≤5000) :
  ∃(gk:Nat) (s p seen:Int) (F:List Fz) (m:Nat),(gk=2∨gk=6)∧((walkR lim P ls n0 [] code).2.1=0→seen=((n0+code.length:Nat):Int)∧F.length≤5000) ∧
   callH T 473 [wP,.sl (rowN code) .an] (hpA 2 P.f (fzs ls) s0 p0 lim n0 F0 m0)=some (.tup [efz (fz (walkR lim P ls n0 [] code).1),.agg [.i .i64 (walkR lim P ls n0 [] code).2.1,.i .i64 0,.i .i64 0,.i .i64 (walkR lim P ls n0 [] code).2.2]],hpA gk P.f (fzs ls) s p lim seen F m):=by
 obtain⟨r,hq,hlo⟩:=zoc (T:=T) P lim hlim ls hP hls code hl hok hn hwr n0 hn0 s0 p0 F0 hF0
 have hst:=zfx lim P ls code n0 []
 have hat:=zfd lim P ls code n0 []
 generalize walkR lim P ls n0 [] code=R at *
 obtain⟨v,kind,at_⟩:=R
 dsimp only at *
 unfold stWA at hlo
 have he:hqA 2 P.f (fzs ls) s0 p0 lim n0 F0 0 (false,[],[]) 0 0 0 0=[(.bor 0,⟨0,.str,9,[[.b P.f.t.1,.sl (u32s P.f.t.2.1) .an,.sl (u32s P.f.t.2.2) .an,.sl (rowF P.f.y) .an,.sl (rowF P.f.p) .an,.sl (rowF (fzs ls)) .an,.ptr (.bor 1) 1 3 0 0,.i .i64 n0,.bs (.bor 2) 2 3 0 0]]⟩),(.bor 1,bxG 1 s0 p0 lim),(.bor 2,⟨2,.own,3,rowF F0⟩),(.loc 4,⟨7,.str,3,[[.b false,.sl [] .an,.sl [] .an]]⟩),(.loc 5,⟨8,.str,4,[[.i .i64 0,.i .i64 0,.i .i64 0,.i .i64 0]]⟩)]:=rfl
 rw[he]at hlo
 clear he
 simp only[Int.natCast_zero]at hlo
 rcases hq with ⟨h0,gk,s,p,F,hk,hF,hFl,rfl⟩ | ⟨h0,gk,s,p,seen,F,m,hk,rfl⟩
 ·dsimp only at h0 hF
  subst h0
  refine⟨gk,s,p,_,F,1,hk,fun _=>⟨rfl,hFl⟩,?_⟩
  have ha:=hat rfl
  subst ha
  have hge:=(List.getElem?_eq_some_iff.1 hF).2
  have hlt:=(List.getElem?_eq_some_iff.1 hF).1
  unfold endWA at hlo
  generalize P.f=Q at *
  obtain⟨⟨q0,q1,q2⟩,qy,qp⟩:=Q
  generalize fzs ls=LS at *
  generalize fz v=V at *
  obtain⟨v0,v1,v2⟩:=V
  rw[f473 _ _ rfl,b473]
  clear hP hls hok hst hat hlim
  rcases hk with rfl | rfl
  ·simp -implicitDefEqProofs[hlo,hF,hge,hlt]
  ·simp -implicitDefEqProofs[hlo,hF,hge,hlt]
 ·dsimp only at h0
  refine⟨gk,s,p,seen,F,m,hk,fun h=>absurd h h0,?_⟩
  have hv:=hst h0
  subst hv
  unfold endSA at hlo
  dsimp only at hlo
  generalize P.f=Q at *
  obtain⟨⟨q0,q1,q2⟩,qy,qp⟩:=Q
  generalize fzs ls=LS at *
  generalize fz 0=V at *
  obtain⟨v0,v1,v2⟩:=V
  rw[f473 _ _ rfl,b473]
  clear hP hls hok hst hat hlim
  rcases hk with rfl | rfl
  ·simp -implicitDefEqProofs[hlo]
  ·simp -implicitDefEqProofs[hlo]
end
theorem zje(b:Int):((limI b).toNat:Int)=limI b∧(limI b).toNat≤4096:=by
 unfold limI
 split
 ·decide
 ·split
  ·decide
  ·omega
theorem zoe{x:PoF}(h:PoS x 1000):PvS x.v 1000:=by
 refine⟨zss h.t (by decide),fun q hq=>?_,fun q hq=>?_⟩
 ·obtain⟨u,hu,rfl⟩:=List.mem_map.1 hq
  exact zss (h.y u hu) (by decide)
 ·obtain⟨u,hu,rfl⟩:=List.mem_map.1 hq
  exact zss (h.p u hu) (by decide)
abbrev flt4(a b c d:Int):AV:=.agg [.i .i64 a,.i .i64 b,.i .i64 c,.i .i64 d]
section
variable{T:Tbl}[CLimb T][CNat T][CProd T][CTwos T][CQuot T][CQuotD T][CWhole T][CCommon T][CFrac T][CFrac2 T][CFrac3 T][CFrac5 T][CPow T][CTape T][CGauge T][CEval T][CEval2 T][CTree T][CText T][CLenD T]
theorem zmm(code:List Nd)(x:PoF)(lets:List Fz)(bits:Int)(hx:PoS x 1000)(hll:lets.length≤1000)(hls:∀u∈lets,fsz u≤1000)(hl:code.length≤3000)(hn:thin 1000 code)(hb:placeN x.y.length x.p.length lets.length code<0) :
  callF T 462 [.sl (rowN code) .an,ept x,.sl (rowF lets) .an,.i .i64 bits] =
   some (.tup [efz (fz (walkR (limI bits).toNat x.v (lets.map fv) 0 [] code).1),flt4 (walkR (limI bits).toNat x.v (lets.map fv) 0 [] code).2.1 0 0 (walkR (limI bits).toNat x.v (lets.map fv) 0 [] code).2.2]):=by
 have c1:=zh0 (T:=T) code x.y.length x.p.length lets.length (by omega) hn
 have c2:=ze9 (T:=T) x hx
 have c3:=zft (T:=T) lets hll hls
 have c4:=ze8 (T:=T) bits
 obtain⟨hl1,hl2⟩:=zje bits
 obtain⟨t,ht,e,hok⟩:=zbt hb
 have hyl:x.v.y.length=x.y.length:=by simp[PoF.v]
 have hpl:x.v.p.length=x.p.length:=by simp[PoF.v]
 have hml:(lets.map fv).length=lets.length:=by simp
 obtain⟨gk,s,p,seen,F,m,hk,_,c5⟩:=zox (T:=T) x.v (limI bits).toNat hl2 (lets.map fv) (zoe hx) (fun q hq=>by
  obtain⟨u,hu,rfl⟩:=List.mem_map.1 hq
  exact zss (hls u hu) (by decide)) code hl (by rw[hyl,hpl,hml];exact hok) hn (by rw[←e];exact zdo ht) 0 (by decide) 0 0 [] 0 (by decide)
 have en:nrm lets=fzs (lets.map fv):=by simp[nrm,fzs]
 rw[en]at c3
 rw[hl1]at c5
 generalize walkR (limI bits).toNat x.v (lets.map fv) 0 [] code=R at *
 generalize hP:placeN x.y.length x.p.length lets.length code=pl at *
 have hnp:¬ 0≤pl:=by omega
 generalize limI bits=L at *
 generalize fzs (lets.map fv)=LS at *
 generalize x.v.f=Q at *
 obtain⟨⟨t0,t1,t2⟩,y,pp⟩:=x
 obtain⟨⟨q0,q1,q2⟩,qy,qp⟩:=Q
 obtain⟨v,kind,at_⟩:=R
 dsimp only at *
 generalize fz v=V at *
 obtain⟨v0,v1,v2⟩:=V
 simp only[hpA,Int.natCast_zero,zfh]at c5
 clear hyl hpl hml hok e hx hls en hl1 hl2
 rw[f462 _ rfl,b462]
 rcases hk with rfl | rfl
 ·simp -implicitDefEqProofs[c1,c2,c3,c4,c5,hnp,bxG]
 ·simp -implicitDefEqProofs[c1,c2,c3,c4,c5,hnp,bxG]
end
section
variable{T:Tbl}[CTree T][CTree2 T][CText T][CLenD T][CLimb T][CNat T][CJoin T][CLex T][CCheck T]
theorem zrn(s:List UInt8)(hs:s.length≤100000):callF T 486 [.s s]=some (.b (nameB s)):=by
 have c:=zvk (T:=T) 2 0 s hs
 unfold nameB
 rw[f486 _ rfl,b486]
 generalize rightB 2 s=B at *
 by_cases h1:s=[116]
 ·subst h1;cases B<;>simp -implicitDefEqProofs
 by_cases h2:s=[121]
 ·subst h2;cases B<;>simp -implicitDefEqProofs
 by_cases h3:s=[112]
 ·subst h3;cases B<;>simp -implicitDefEqProofs
 by_cases h4:s=[108,101,116]
 ·subst h4;cases B<;>simp -implicitDefEqProofs
 cases B<;>simp -implicitDefEqProofs[c,h1,h2,h3,h4]
theorem zn8(L:List Lt)(i:Nat)(hi:i<L.length)(hL:L.length≤100000):callF T 487 [.sl (rowLt L) .an,.i .i64 i]=some (.b (twB (L.take i) (L[i]'hi).name)):=by
 have hlo:loopN T 0 0 (.norm false []) l487_0 ⟨[(0,.sl (rowLt L) .an),(1,.i .i64 i),(6,.i .i64 i),(7,.i .i64 ((0:Nat):Int))],[],2⟩ =
   if twB ((L.take i).drop 0) (L[i]'hi).name=true then some (.r,⟨[(4,.b true)],[],2⟩) else some (.n,⟨[],[],2⟩):=by
  refine za0 (fun k=>⟨[(0,.sl (rowLt L) .an),(1,.i .i64 i),(6,.i .i64 i),(7,.i .i64 ((k:Nat):Int))],[],2⟩) i
   (fun k=>if twB ((L.take i).drop k) (L[i]'hi).name=true then some (.r,_) else some (.n,_)) (fun k hk=>?_) ?_
  ·have hk1:k<L.length:=by omega
   have hg:L[k]? = some (L[k]'hk1):=List.getElem?_eq_getElem hk1
   have hgi:L[i]? = some (L[i]'hi):=List.getElem?_eq_getElem hi
   have hk2:k<(L.take i).length:=by rw[List.length_take];omega
   have hd:(L.take i).drop k=(L.take i)[k]'hk2::(L.take i).drop (k+1):=List.drop_eq_getElem_cons hk2
   have hx2:(L.take i)[k]'hk2=L[k]'hk1:=by simp
   rw[hx2]at hd
   have hws:=za2 hk (by omega)
   have hk':(k:Int)<i:=by omega
   have hi':(i:Int)<L.length:=by omega
   have hk1':(k:Int)<L.length:=by omega
   generalize hx:L[k]'hk1=x at *
   generalize hy:L[i]'hi=y at *
   obtain⟨xn,xc⟩:=x
   obtain⟨yn,yc⟩:=y
   by_cases hc:xn=yn
   ·right
    rw[if_pos (by rw[hd];simp[twB,hc])]
    clear hd
    constructor<;>simp -implicitDefEqProofs[l487_0,hk,hk',hk1,hk1',hi,hi',hg,hgi,hx,hy,hc]
   ·left
    refine⟨?_,by rw[hd];simp[twB,hc]⟩
    clear hd
    simp -implicitDefEqProofs[l487_0,hk,hk',hk1,hk1',hi,hi',hg,hgi,hx,hy,hc,hws]
  ·rw[List.drop_of_length_le (by rw[List.length_take];omega)]
   simp only[twB,List.any_nil,Bool.false_eq_true,if_false]
   constructor<;>simp -implicitDefEqProofs[l487_0]
 rw[List.drop_zero]at hlo
 simp only[Int.natCast_zero]at hlo
 rw[f487 _ rfl,b487]
 generalize twB (L.take i) (L[i]'hi).name=B at *
 cases B with
 | true=>
  rw[if_pos rfl]at hlo
  simp -implicitDefEqProofs[hlo]
 | false=>
  rw[if_neg (by decide)]at hlo
  simp -implicitDefEqProofs[hlo]
theorem zjd(c:List Nd)(num dim pars lets:Int)(hl:c.length≤50000)(hn:thin 1000 c):callF T 488 [.sl (rowN c) .an,.i .i64 num,.i .i64 dim,.i .i64 pars,.i .i64 lets] =
  some (if 0≤ptA dim pars lets c then flt4 2 num 0 (ptA dim pars lets c) else flt4 0 0 0 0):=by
 have c1:=zh0 (T:=T) c dim pars lets (by omega) hn
 have c2:=zsl (T:=T) c hl
 have hp:=zne dim pars lets c
 unfold ptA
 rw[f488 _ rfl,b488]
 generalize depN c=d at *
 generalize placeN dim pars lets c=p at *
 by_cases h:p<0
 ·by_cases hd:40<d
  ·have hd':(40:Int)<d:=by omega
   have hnl:¬ (c.length:Int)<0:=by omega
   have h0:(0:Int)≤c.length:=by omega
   rw[if_pos (show p<0∧40<d from ⟨h,hd⟩),if_pos h0]
   simp -implicitDefEqProofs[c1,c2,h,hd,hd',hnl]
  ·have hd':¬ (40:Int)<d:=by omega
   have h0:¬ 0≤p:=by omega
   rw[if_neg (show ¬ (p<0∧40<d) from fun hh=>hd hh.2),if_neg h0]
   simp -implicitDefEqProofs[c1,c2,h,hd,hd']
 ·have h0:0≤p:=by omega
  rw[if_neg (show ¬ (p<0∧40<d) from fun hh=>h hh.1),if_pos h0]
  simp -implicitDefEqProofs[c1,c2,h]
theorem zn9(f:Fd)(dim pars:Int)(h1:f.lets.length≤100000)(h2:f.outs.length≤100000)(hn:thinD 1000 50000 f)(hs:sizeD f≤4294967295):callF T 485 [efd f,.i .i64 dim,.i .i64 pars]=some (.b (whB f dim pars)):=by
 have c:=zm0 (T:=T) f h1 h2 (fun c hc=>⟨Nat.le_trans (hn c hc).1 (by decide),(hn c hc).2⟩) hs
 unfold whB
 generalize sizeD f=S at *
 obtain⟨L,O⟩:=f
 dsimp only at *
 rw[f485 _ rfl,b485]
 by_cases g1:1≤dim
 ·by_cases g2:dim≤6
  ·by_cases g3:0≤pars
   ·by_cases g4:pars≤6
    ·by_cases g5:(O.length:Int)=dim
     ·by_cases g6:L.length≤10
      ·have g6':(L.length:Int)≤10:=by omega
       by_cases g7:S≤300
       ·have g7':(S:Int)≤300:=by omega
        simp -implicitDefEqProofs[g1,g2,g3,g4,g5,g6,g6',g7,g7',c]
       ·have g7':¬ (S:Int)≤300:=by omega
        simp -implicitDefEqProofs[g1,g2,g3,g4,g5,g6,g6',g7,g7',c]
      ·have g6':¬ (L.length:Int)≤10:=by omega
       simp -implicitDefEqProofs[g1,g2,g3,g4,g5,g6,g6',c]
     ·simp -implicitDefEqProofs[g1,g2,g3,g4,g5,c]
    ·simp -implicitDefEqProofs[g1,g2,g3,g4,c]
   ·simp -implicitDefEqProofs[g1,g2,g3,c]
  ·simp -implicitDefEqProofs[g1,g2,c]
 ·simp -implicitDefEqProofs[g1,c]
end
abbrev bxFd(g:Nat)(f:Fd):Box:=⟨g,.str,2,[[.sl (rowLt f.lets) .an,.sl (rowC f.outs) .an]]⟩
def fltC(q:Option (Int×Int×Int)):AV:=match q with
 | some (a,b,c)=>flt4 2 a b c
 | none=>flt4 0 0 0 0
def endC(a b c:Int):Option (Ex×St):=some (.r,⟨[(6,.ptr (.loc 6) 1 4 0 0)],[(.loc 6,⟨1,.str,4,[[.i .i64 2,.i .i64 a,.i .i64 b,.i .i64 c]]⟩)],3⟩)
section
variable{T:Tbl}[CTree T][CTree2 T][CText T][CLenD T][CLimb T][CNat T][CJoin T][CLex T][CCheck T]
def stCL(f:Fd)(dim pars:Int)(i:Nat):St:=⟨[(1,.i .i64 dim),(2,.i .i64 pars),(3,.ptr (.loc 3) 1 2 0 0),(6,.ptr (.loc 6) 2 4 0 0),(20,.sl (rowLt f.lets) .an),(21,.i .i64 f.lets.length),(22,.i .i64 i)],[(.loc 3,bxFd 1 f),(.loc 6,⟨2,.str,4,[[.i .i64 0,.i .i64 0,.i .i64 0,.i .i64 0]]⟩)],4⟩
theorem zro(f:Fd)(dim pars:Int)(h1:f.lets.length≤10)(hn:thinD 1000 50000 f)(hs:∀x∈f.lets,x.name.length≤100000) :
  loopN T 0 0 (.norm false [1,2,3,6]) l477_0 (stCL f dim pars 0)=match chkL dim pars f.lets 0 f.lets with
   | some (a,b,c)=>endC a b c
   | none=>some (.n,⟨[(1,.i .i64 dim),(2,.i .i64 pars),(3,.ptr (.loc 3) 1 2 0 0),(6,.ptr (.loc 6) 2 4 0 0)],[(.loc 3,bxFd 1 f),(.loc 6,⟨2,.str,4,[[.i .i64 0,.i .i64 0,.i .i64 0,.i .i64 0]]⟩)],4⟩):=by
 have:=za0 (T:=T) (k:=0) (id:=0) (g2:=.norm false [1,2,3,6]) (c:=l477_0) (stCL f dim pars) f.lets.length
  (fun i=>match chkL dim pars f.lets i (f.lets.drop i) with
   | some (a,b,c)=>endC a b c
   | none=>some (.n,⟨[(1,.i .i64 dim),(2,.i .i64 pars),(3,.ptr (.loc 3) 1 2 0 0),(6,.ptr (.loc 6) 2 4 0 0)],[(.loc 3,bxFd 1 f),(.loc 6,⟨2,.str,4,[[.i .i64 0,.i .i64 0,.i .i64 0,.i .i64 0]]⟩)],4⟩)) (fun i hi=>?_) ?_
 ·simpa using this
 ·have hg:f.lets[i]? = some (f.lets[i]'hi):=List.getElem?_eq_getElem hi
  have hd:f.lets.drop i=f.lets[i]'hi::f.lets.drop (i+1):=List.drop_eq_getElem_cons hi
  have hi':(i:Int)<f.lets.length:=by omega
  have hws:=za2 hi (by omega)
  have hw1:IntKind.wrap .i64 ((i:Int)+1)=(i:Int)+1:=zac _ (by omega)
  obtain⟨hc1,hc2⟩:=hn (f.lets[i]'hi).code (List.mem_append.2 (.inl (List.mem_map.2 ⟨_,List.getElem_mem hi,rfl⟩)))
  have k1:=zrn (T:=T) (f.lets[i]'hi).name (hs _ (List.getElem_mem hi))
  have k2:=zn8 (T:=T) f.lets i hi (by omega)
  have k3:=zjd (T:=T) (f.lets[i]'hi).code ((i:Int)+1) dim pars i hc1 hc2
  have hp0:ptA dim pars i (f.lets[i]'hi).code<0∨0≤ptA dim pars i (f.lets[i]'hi).code:=by omega
  rw[hd,chkL]
  obtain⟨L,O⟩:=f
  dsimp only at *
  clear hd hn hs hc1 hc2
  generalize hx:L[i]'hi=x at *
  obtain⟨nm,code⟩:=x
  dsimp only at *
  unfold stCL bxFd endC
  dsimp only
  rw[hws]at hw1
  generalize ptA dim pars i code=p at *
  generalize twB (L.take i) nm=B at *
  cases hA:nameB nm with
  | false=>
   right
   rw[hA]at k1
   rw[if_pos (.inl rfl)]
   constructor<;>simp -implicitDefEqProofs[l477_0,hi,hi',hg,hx,k1,hws]
  | true=>
   rw[hA]at k1
   cases B with
   | true=>
    right
    rw[if_pos (.inr rfl)]
    constructor<;>simp -implicitDefEqProofs[l477_0,hi,hi',hg,hx,k1,k2,hws]
   | false=>
    rw[if_neg (by simp)]
    rcases hp0 with hp0 | hp0
    ·left
     have hp1:¬ 0≤p:=by omega
     rw[if_neg hp1]at k3 ⊢
     refine⟨?_,rfl⟩
     simp -implicitDefEqProofs[l477_0,hi,hi',hg,hx,k1,k2,k3,hws]
    ·right
     rw[if_pos hp0]at k3 ⊢
     constructor<;>simp -implicitDefEqProofs[l477_0,hi,hi',hg,hx,k1,k2,k3,hws]
 ·rw[List.drop_length,chkL]
  unfold stCL bxFd
  constructor<;>simp -implicitDefEqProofs[l477_0]
def stCO(f:Fd)(dim pars:Int)(i:Nat):St:=⟨[(1,.i .i64 dim),(2,.i .i64 pars),(3,.ptr (.loc 3) 1 2 0 0),(6,.ptr (.loc 6) 2 4 0 0),(54,.sl (rowC f.outs) .an),(55,.i .i64 f.outs.length),(56,.i .i64 i)],[(.loc 3,bxFd 1 f),(.loc 6,⟨2,.str,4,[[.i .i64 0,.i .i64 0,.i .i64 0,.i .i64 0]]⟩)],4⟩
theorem zrp(f:Fd)(dim pars:Int)(h1:f.lets.length≤10)(h2:f.outs.length≤10)(hn:thinD 1000 50000 f) :
  loopN T 0 2 (.norm false [6]) l477_1 (stCO f dim pars 0)=match chkO dim pars f.lets.length 0 f.outs with
   | some (a,b,c)=>endC a b c
   | none=>some (.n,⟨[(6,.ptr (.loc 6) 1 4 0 0)],[(.loc 6,⟨1,.str,4,[[.i .i64 0,.i .i64 0,.i .i64 0,.i .i64 0]]⟩)],3⟩):=by
 have:=za0 (T:=T) (k:=0) (id:=2) (g2:=.norm false [6]) (c:=l477_1) (stCO f dim pars) f.outs.length
  (fun i=>match chkO dim pars f.lets.length i (f.outs.drop i) with
   | some (a,b,c)=>endC a b c
   | none=>some (.n,⟨[(6,.ptr (.loc 6) 1 4 0 0)],[(.loc 6,⟨1,.str,4,[[.i .i64 0,.i .i64 0,.i .i64 0,.i .i64 0]]⟩)],3⟩)) (fun i hi=>?_) ?_
 ·simpa using this
 ·have hg:f.outs[i]? = some (f.outs[i]'hi):=List.getElem?_eq_getElem hi
  have hd:f.outs.drop i=f.outs[i]'hi::f.outs.drop (i+1):=List.drop_eq_getElem_cons hi
  have hi':(i:Int)<f.outs.length:=by omega
  have hws:=za2 hi (by omega)
  have hw1:IntKind.wrap .i64 ((f.lets.length:Int)+i)=(f.lets.length:Int)+i:=zac _ (by omega)
  have hw2:IntKind.wrap .i64 ((f.lets.length:Int)+i+1)=(f.lets.length:Int)+i+1:=zac _ (by omega)
  have hw3:(((f.lets.length+i:Nat):Int)+1)=(f.lets.length:Int)+i+1:=by omega
  obtain⟨hc1,hc2⟩:=hn (f.outs[i]'hi) (List.mem_append.2 (.inr (List.getElem_mem hi)))
  have k3:=zjd (T:=T) (f.outs[i]'hi) ((f.lets.length:Int)+i+1) dim pars f.lets.length hc1 hc2
  have hp0:ptA dim pars f.lets.length (f.outs[i]'hi)<0∨0≤ptA dim pars f.lets.length (f.outs[i]'hi):=by omega
  rw[hd,chkO,hw3]
  obtain⟨L,O⟩:=f
  dsimp only at *
  clear hd hn hc1 hc2 hw3
  generalize hx:O[i]'hi=x at *
  unfold stCO bxFd endC
  dsimp only
  generalize ptA dim pars L.length x=p at *
  rcases hp0 with hp0 | hp0
  ·left
   have hp1:¬ 0≤p:=by omega
   rw[if_neg hp1]at k3 ⊢
   refine⟨?_,rfl⟩
   simp -implicitDefEqProofs[l477_1,hi,hi',hg,hx,k3,hws,hw1,hw2]
  ·right
   rw[if_pos hp0]at k3 ⊢
   constructor<;>simp -implicitDefEqProofs[l477_1,hi,hi',hg,hx,k3,hws,hw1,hw2]
 ·rw[List.drop_length,chkO]
  unfold stCO bxFd
  constructor<;>simp -implicitDefEqProofs[l477_1]
theorem zb8(f:Fd)(dim pars:Int)(h1:f.lets.length≤100000)(h2:f.outs.length≤100000)(hn:thinD 1000 50000 f)(hz:sizeD f≤4294967295)(hs:∀x∈f.lets,x.name.length≤100000) :
  callF T 477 [efd f,.i .i64 dim,.i .i64 pars]=some (fltC (chkD f dim pars)):=by
 have c:=zn9 (T:=T) f dim pars h1 h2 hn hz
 unfold chkD
 cases hW:whB f dim pars with
 | false=>
  rw[hW]at c
  rw[if_pos rfl]
  unfold fltC
  obtain⟨L,O⟩:=f
  dsimp only at *
  rw[f477 _ rfl,b477]
  simp -implicitDefEqProofs[c]
 | true=>
  rw[hW]at c
  rw[if_neg (by decide)]
  have hW2:(1≤dim∧dim≤6∧0≤pars∧pars≤6∧(f.outs.length:Int)=dim∧f.lets.length≤10∧sizeD f≤300):=by simpa[whB]using hW
  have a1:=zro (T:=T) f dim pars hW2.2.2.2.2.2.1 hn hs
  have a2:=zrp (T:=T) f dim pars hW2.2.2.2.2.2.1 (by omega) hn
  generalize chkL dim pars f.lets 0 f.lets=X at *
  generalize chkO dim pars f.lets.length 0 f.outs=Y at *
  unfold stCL bxFd endC at a1
  unfold stCO bxFd endC at a2
  simp only[Int.natCast_zero]at a1 a2
  obtain⟨L,O⟩:=f
  dsimp only at *
  clear hW2 hn hs hz
  rw[f477 _ rfl,b477]
  obtain _ | ⟨x1,x2,x3⟩:=X
  ·dsimp only at a1 ⊢
   obtain _ | ⟨y1,y2,y3⟩:=Y
   ·dsimp only at a2
    unfold fltC
    simp -implicitDefEqProofs[c,a1,a2]
   ·dsimp only at a2
    unfold fltC
    simp -implicitDefEqProofs[c,a1,a2]
  ·dsimp only at a1 ⊢
   unfold fltC
   simp -implicitDefEqProofs[c,a1]
end
def stPo(L:List Lt)(E:List (List Nd))(D:List Nat)(O:List (List Nd))(i:Nat):St:=
 ⟨[(4,.ptr (.loc 20) 1 2 0 0),(5,.bs (.loc 5) 3 1 0 i),(22,.sl (rowC O) .an),(23,.i .i64 O.length),(24,.i .i64 (i:Int))],
  [(.loc 20,⟨1,.str,2,[[.sl (rowLt L) .an,.fnp 0 (.loc 18) 2 2 0 0]]⟩),(.loc 18,⟨2,.mp,2,memR E D⟩),(.loc 5,⟨3,.own,1,rowC ((O.take i).map (inE E))⟩)],5⟩
section
variable{T:Tbl}[CPlain T]
theorem zga(L:List Lt)(E:List (List Nd))(D D1:List Nat)(O:List (List Nd))(i:Nat)(c:List Nd)(hx:O[i]? = some c)(hO:O.length≤100000)
  (hc:callH T 664 [mkP,.sl (rowN c) .an] (plH L E D)=some (.sl (rowN (inE E c)) .an,plH L E D1)) :
  evX (orc T) T 0 l665_0 (stPo L E D O i)=some (.n,stPo L E D1 O (i+1)):=by
 obtain⟨hi,hge⟩:=List.getElem?_eq_some_iff.1 hx
 have hlt':(i:Int)<O.length:=by omega
 have hws:=za2 hi (by omega)
 have hi32:i+1≤4294967296:=by omega
 have hsn:(O.take (i+1)).map (inE E)=(O.take i).map (inE E)++[inE E c]:=by rw[List.take_add_one,hx,Option.toList_some,List.map_append,List.map_singleton]
 have hap:=zib ((O.take i).map (inE E)) (inE E c)
 have hlen:((O.take i).map (inE E)).length=i:=by rw[List.length_map,List.length_take];omega
 have htk:(rowC ((O.take i).map (inE E))).take i=rowC ((O.take i).map (inE E)):=List.take_of_length_le (by rw[zes];omega)
 rw[←hsn]at hap
 unfold stPo plH at *
 generalize (O.take (i+1)).map (inE E)=R1 at *
 generalize (O.take i).map (inE E)=R at *
 generalize inE E c=v at *
 simp -implicitDefEqProofs[l665_0,hi,hlt',hx,hge,hws,hc,hap,hlen,hi32,htk,genAt]
theorem zhs(L:List Lt)(O:List (List Nd))(hO:O.length≤100000)(hL:refT (L.map (·.code)))(hn:∀x∈L,x.code.length≤100000∧thin 100000 x.code)
  (hb:∀c∈O,refB L.length c∧c.length≤100000∧thin 100000 c∧(inE (tabE (L.map (·.code))) c).length≤100000) :
  loopN T 0 0 (.norm false [5]) l665_0 (stPo L (tabE (L.map (·.code))) [] O 0)=some (.n,⟨[(5,.bs (.loc 5) 1 1 0 O.length)],[(.loc 5,⟨1,.own,1,rowC (O.map (inE (tabE (L.map (·.code)))))⟩)],3⟩):=by
 have:=zat (T:=T) (k:=0) (id:=0) (g2:=.norm false [5]) (c:=l665_0) (fun q:Nat×List Nat=>stPo L (tabE (L.map (·.code))) q.2 O q.1) (fun q=>q.1≤O.length) (fun q=>O.length-q.1)
  (fun r=>r=((.n,⟨[(5,.bs (.loc 5) 1 1 0 O.length)],[(.loc 5,⟨1,.own,1,rowC (O.map (inE (tabE (L.map (·.code)))))⟩)],3⟩):Ex×St)) (fun q hq=>?_) (0,[]) (Nat.zero_le _)
 ·obtain⟨r,rfl,h⟩:=this
  exact h
 ·obtain⟨i,D⟩:=q
  dsimp only at *
  by_cases hi:i<O.length
  ·left
   obtain⟨c,hx,hmem⟩:∃c,O[i]? = some c∧c∈O:=⟨O[i]'hi,List.getElem?_eq_getElem hi,List.getElem_mem hi⟩
   obtain⟨b1,b2,b3,b4⟩:=hb c hmem
   obtain⟨D1,hc⟩:=zsb (T:=T) L hL hn c b1 b2 b3 b4 D
   exact⟨(i+1,D1),hi,by dsimp only;omega,zga L _ D D1 O i c hx hO hc⟩
  ·right
   have hio:i=O.length:=by omega
   subst hio
   refine⟨_,rfl,?_⟩
   unfold stPo
   rw[List.take_length]
   constructor<;>simp -implicitDefEqProofs[l665_0]
variable[CTree T][CTree2 T][CText T][CLenD T][CLimb T][CNat T][CJoin T][CLex T][CCheck T]
theorem zms(f:Fd)(h1:f.lets.length≤100000)(h2:f.outs.length≤100000)(hn:thinD 1000 50000 f)(hz:sizeD f≤4294967295)(hs:∀x∈f.lets,x.name.length≤100000) :
  callF T 660 [efd f]=some (.b (decide (chkD f f.outs.length 6=none))):=by
 have c:=zb8 (T:=T) f f.outs.length 6 h1 h2 hn hz hs
 generalize chkD f f.outs.length 6=q at *
 obtain⟨L,O⟩:=f
 dsimp only at *
 clear hn hz hs
 unfold fltC at c
 rw[f660 _ rfl,b660]
 cases q with
 | none=>simp -implicitDefEqProofs[c]
 | some q=>
  obtain⟨q1,q2,q3⟩:=q
  simp -implicitDefEqProofs[c]
theorem zjm(f:Fd)(h1:f.lets.length≤100000)(h2:f.outs.length≤100000)(hn:thinD 1000 50000 f)(hz:sizeD f≤4294967295)(hs:∀x∈f.lets,x.name.length≤100000) :
  callF T 665 [efd f]=some (.tup [.sl (rowC (if hasP f then outsP f else [])) .an,.b (hasP f)]):=by
 have cm:=zms (T:=T) f h1 h2 hn hz hs
 unfold hasP
 by_cases hq:chkD f f.outs.length 6=none
 ·have hF:=zff hq
  have hlL:∀x∈f.lets,x.code.length≤100000∧thin 100000 x.code:=fun x hx=>by
   have:=hn x.code (zf5 hx)
   exact⟨by omega,fun y hy=>by have:=this.2 y hy;omega⟩
  have hlO:∀c∈f.outs,refB f.lets.length c∧c.length≤100000∧thin 100000 c:=fun c hc=>by
   have:=hn c (zed hc)
   exact⟨hF.refB c hc,by omega,fun y hy=>by have:=this.2 y hy;omega⟩
  have cf:=zsc (T:=T) f h1 h2 hF.refT hlL hlO
  rw[decide_eq_true hq]at cm ⊢
  by_cases hA:allE (tabF f) f.outs≤1200
  ·have cl:=zhs (T:=T) f.lets f.outs h2 hF.refT hlL fun c hc=>by
    obtain⟨b1,b2,b3⟩:=hlO c hc
    refine⟨b1,b2,b3,?_⟩
    have:(inE (tabF f) c).length≤allE (tabF f) f.outs:=zf4 (List.mem_map.2 ⟨c,hc,rfl⟩)
    exact Nat.le_trans this (by omega)
   rw[decide_eq_true hA]at cf ⊢
   unfold outsP
   unfold stPo at cl
   obtain⟨L,O⟩:=f
   dsimp only[tabF]at *
   generalize tabE (L.map (·.code))=E at *
   have htk:(O.map (inE E)).take O.length=O.map (inE E):=List.take_of_length_le (by simp)
   clear hn hz hs hF hlL hlO hq hA
   rw[f665 _ rfl,b665]
   simp -implicitDefEqProofs[memR]at cl
   simp -implicitDefEqProofs[cm,cf,cl,htk]
  ·rw[decide_eq_false hA]at cf ⊢
   obtain⟨L,O⟩:=f
   dsimp only at *
   clear hn hz hs hF hlL hlO hq hA
   rw[f665 _ rfl,b665]
   simp -implicitDefEqProofs[cm,cf]
 ·rw[decide_eq_false hq]at cm ⊢
  obtain⟨L,O⟩:=f
  dsimp only at *
  clear hn hz hs hq
  rw[f665 _ rfl,b665]
  simp -implicitDefEqProofs[cm]
theorem zht(f:Fd)(h1:f.lets.length≤100000)(h2:f.outs.length≤100000)(hn:thinD 1000 50000 f)(hz:sizeD f≤4294967295)(hs:∀x∈f.lets,x.name.length≤100000) :
  callF T 666 [efd f]=some (.tup [efd ⟨[],if hasP f then outsP f else []⟩,.b (hasP f)]):=by
 have c:=zjm (T:=T) f h1 h2 hn hz hs
 generalize (if hasP f then outsP f else [])=R at *
 generalize hasP f=b at *
 obtain⟨L,O⟩:=f
 dsimp only at *
 clear hn hz hs
 rw[f666 _ rfl,b666]
 simp -implicitDefEqProofs[c]
end
def addU(t:Nat)(U:List Nat)(x:Nd):List Nat:=if x.op=5 then U.set x.i.toNat (min ((U[x.i.toNat]?).getD 0+t) 300) else U
def cntU(t:Nat)(U:List Nat)(c:List Nd):List Nat:=c.foldl (addU t) U
def occ(j:Nat)(c:List Nd):Nat:=(c.filter fun x=>decide (x.op=5)&&decide (x.i=(j:Int))).length
theorem zia(t:Nat)(U:List Nat)(x:Nd):(addU t U x).length=U.length:=by unfold addU;split<;>simp
theorem zdl(t:Nat):∀(c:List Nd) (U:List Nat),(cntU t U c).length=U.length
 | [],U=>rfl
 | x::c,U=>by
  show (cntU t (addU t U x) c).length=_
  rw[zdl t c,zia]
theorem zwt(t:Nat)(U:List Nat)(c:List Nd)(x:Nd):cntU t U (c++[x])=addU t (cntU t U c) x:=by simp[cntU]
theorem z2s(t:Nat)(U:List Nat)(x:Nd)(hU:∀u∈U,u≤300):∀u∈addU t U x,u≤300:=by
 unfold addU
 split
 ·intro u hu
  rcases List.mem_or_eq_of_mem_set hu with h | h
  ·exact hU u h
  ·omega
 ·exact hU
theorem zky(t:Nat):∀(c:List Nd) (U:List Nat),(∀u∈U,u≤300)→∀u∈cntU t U c,u≤300
 | [],U,h=>h
 | x::c,U,h=>zky t c (addU t U x) (z2s t U x h)
def uOut(O:List (List Nd))(n:Nat):List Nat:=O.foldl (cntU 1) (List.replicate n 0)
def uDown(L:List (List Nd))(U:List Nat):Nat→List Nat
 | 0=>U
 | d+1=>let V:=uDown L U d;cntU ((V[L.length-1-d]?).getD 0) V ((L[L.length-1-d]?).getD [])
def tmR(U:List Nat)(n k:Nat):Nat:=if k<n then (U[k]?).getD 0 else 1
def sumR(U:List Nat)(n i:Nat)(l:List (List Nd)):Nat→Nat
 | 0=>0
 | d+1=>sumR U n i l d+tmR U n (i+1+d)*occ i ((l[i+1+d]?).getD [])
def rDown(L O:List (List Nd)):Nat→List Nat
 | 0=>List.replicate L.length 0
 | d+1=>let V:=rDown L O d;let i:=L.length-1-d;V.set i (min (sumR V L.length i (L++O) ((L++O).length-(i+1))) 300)
theorem zd3(L:List (List Nd))(U:List Nat)(h:U.length=L.length):∀d,(uDown L U d).length=L.length
 | 0=>h
 | d+1=>by
  show (cntU _ (uDown L U d) _).length=_
  rw[zdl,zd3 L U h d]
theorem zqr(L:List (List Nd))(U:List Nat)(h:∀u∈U,u≤300):∀d,∀u∈uDown L U d,u≤300
 | 0=>h
 | d+1=>zky _ _ _ (zqr L U h d)
theorem zer(O:List (List Nd))(n:Nat):(uOut O n).length=n:=by
 unfold uOut
 have key:∀(O:List (List Nd)) (U:List Nat),(O.foldl (cntU 1) U).length=U.length:=by
  intro O
  induction O with
  | nil=>intro U;rfl
  | cons c O ih=>intro U;rw[List.foldl_cons,ih,zdl]
 rw[key,List.length_replicate]
theorem zwu(O:List (List Nd))(n:Nat):∀u∈uOut O n,u≤300:=by
 unfold uOut
 have key:∀(O:List (List Nd)) (U:List Nat),(∀u∈U,u≤300)→∀u∈O.foldl (cntU 1) U,u≤300:=by
  intro O
  induction O with
  | nil=>intro U h;exact h
  | cons c O ih=>intro U h;rw[List.foldl_cons];exact ih _ (zky 1 c U h)
 exact key O _ (fun u hu=>by rw[List.eq_of_mem_replicate hu];omega)
def sFrom(U:List Nat)(L O:List (List Nd))(j:Nat):Nat→Nat
 | 0=>(O.map (occ j)).sum
 | d+1=>sFrom U L O j d+((U[L.length-1-d]?).getD 0)*occ j ((L[L.length-1-d]?).getD [])
def usesP(f:Fd):List Nat:=uDown (f.lets.map (·.code)) (uOut f.outs f.lets.length) f.lets.length
def has5(c:List Nd):Bool:=c.any fun x=>decide (x.op=5)
def stPl0(O:List (List Nd))(j:Nat)(c:List Nd)(i:Nat):St:=
 ⟨[(12,.sl (rowC O) .an),(13,.i .i64 O.length),(14,.i .i64 (j:Int)),(18,.sl (rowN c) .an),(19,.i .i64 c.length),(20,.i .i64 (i:Int))],[],2⟩
def stPl1(O:List (List Nd))(j:Nat):St:=⟨[(12,.sl (rowC O) .an),(13,.i .i64 O.length),(14,.i .i64 (j:Int))],[],2⟩
section
variable{T:Tbl}[CPlain T]
theorem zor(O:List (List Nd))(j:Nat)(c:List Nd)(hc:c.length≤4294967296)(hn:∀x∈c,x.n.length≤4294967296) :
  loopN T 0 2 (.norm false [12,13,14]) l659_0 (stPl0 O j c 0)=if has5 c then some (.r,⟨[(2,.b true)],[],2⟩) else some (.n,stPl1 O j):=by
 have:=za0 (T:=T) (k:=0) (id:=2) (g2:=.norm false [12,13,14]) (c:=l659_0) (fun i=>stPl0 O j c i) c.length
  (fun i=>if has5 (c.drop i) then some (.r,⟨[(2,.b true)],[],2⟩) else some (.n,stPl1 O j)) (fun i hi=>?_) ?_
 ·simpa using this
 ·obtain⟨x,hx,hmem⟩:∃x,c[i]? = some x∧x∈c:=⟨c[i]'hi,List.getElem?_eq_getElem hi,List.getElem_mem hi⟩
  obtain⟨_,hge⟩:=List.getElem?_eq_some_iff.1 hx
  have hd:c.drop i=x::c.drop (i+1):=by rw[List.drop_eq_getElem_cons hi,hge]
  have hlt':(i:Int)<c.length:=by omega
  have hws:=za2 hi hc
  have hnx:=hn x hmem
  rw[hd]
  obtain⟨op,xi,n⟩:=x
  dsimp only at hnx
  by_cases ho:op=5
  ·right
   subst ho
   have h5:has5 ({ op:=5,i:=xi,n:=n } :: c.drop (i+1))=true:=by simp[has5]
   rw[h5]
   unfold stPl0
   constructor<;>simp -implicitDefEqProofs[l659_0,hi,hlt',hx,hge,hws,hnx]
  ·left
   have h5:has5 ({ op:=op,i:=xi,n:=n } :: c.drop (i+1))=has5 (c.drop (i+1)):=by simp[has5,ho]
   rw[h5]
   refine⟨?_,rfl⟩
   unfold stPl0
   simp -implicitDefEqProofs[l659_0,hi,hlt',hx,hge,hws,hnx,ho]
 ·rw[List.drop_length]
  unfold stPl0 stPl1
  constructor<;>simp -implicitDefEqProofs[l659_0,has5]
theorem zos(O:List (List Nd))(hO:O.length≤100000)(hc:∀c∈O,c.length≤4294967296∧∀x∈c,x.n.length≤4294967296) :
  loopN T 0 0 (.norm false []) l659_1 (stPl1 O 0)=if O.any has5 then some (.r,⟨[(2,.b true)],[],2⟩) else some (.n,⟨[],[],2⟩):=by
 have:=za0 (T:=T) (k:=0) (id:=0) (g2:=.norm false []) (c:=l659_1) (fun i=>stPl1 O i) O.length
  (fun i=>if (O.drop i).any has5 then some (.r,⟨[(2,.b true)],[],2⟩) else some (.n,⟨[],[],2⟩)) (fun i hi=>?_) ?_
 ·simpa using this
 ·obtain⟨c,hx,hmem⟩:∃x,O[i]? = some x∧x∈O:=⟨O[i]'hi,List.getElem?_eq_getElem hi,List.getElem_mem hi⟩
  obtain⟨_,hge⟩:=List.getElem?_eq_some_iff.1 hx
  have hd:O.drop i=c::O.drop (i+1):=by rw[List.drop_eq_getElem_cons hi,hge]
  have hlt':(i:Int)<O.length:=by omega
  have hws:=za2 hi (by omega)
  have hl:=zor (T:=T) O i c (hc c hmem).1 (hc c hmem).2
  unfold stPl0 stPl1 at hl
  rw[hd,List.any_cons]
  cases h5:has5 c with
  | true=>
   rw[h5,if_pos rfl]at hl
   right
   unfold stPl1
   simp -implicitDefEqProofs at hl
   constructor<;>simp -implicitDefEqProofs[l659_1,hi,hlt',hx,hge,hws,hl]
  | false=>
   rw[h5,if_neg (by decide)]at hl
   left
   refine⟨?_,by rw[Bool.false_or]⟩
   unfold stPl1
   simp -implicitDefEqProofs at hl
   simp -implicitDefEqProofs[l659_1,hi,hlt',hx,hge,hws,hl]
 ·rw[List.drop_length]
  unfold stPl1
  constructor<;>simp -implicitDefEqProofs[l659_1]
theorem zjn(f:Fd)(h1:f.lets.length≤100000)(h2:f.outs.length≤100000)(hc:∀c∈f.outs,c.length≤4294967296∧∀x∈c,x.n.length≤4294967296) :
  callF T 659 [efd f]=some (.b (letsB f)):=by
 have hl:=zos (T:=T) f.outs h2 hc
 unfold letsB
 rw[show (f.outs.any fun c=>c.any fun x=>decide (x.op=5))=f.outs.any has5 from rfl]
 generalize f.outs.any has5=b at *
 obtain⟨L,O⟩:=f
 dsimp only at *
 unfold stPl1 at hl
 rw[f659 _ rfl,b659]
 cases L with
 | cons x L=>
  have h3:(0:Int)<(L.length:Int)+1:=by omega
  simp -implicitDefEqProofs[h3]
 | nil=>
  cases b
  ·rw[if_neg (by decide)]at hl
   simp -implicitDefEqProofs at hl
   simp -implicitDefEqProofs[hl]
  ·rw[if_pos rfl]at hl
   simp -implicitDefEqProofs at hl
   simp -implicitDefEqProofs[hl]
end
def stPu(t:Nat)(U:List Nat)(c:List Nd)(i:Nat):St:=
 ⟨[(1,.i .i64 (t:Int)),(2,.bs (.bor 0) 0 1 0 U.length),(8,.sl (rowN c) .an),(9,.i .i64 c.length),(10,.i .i64 (i:Int))],[(.bor 0,⟨0,.own,1,natR U⟩)],4⟩
section
variable{T:Tbl}[CPlain T]
theorem zhu(t:Nat)(U:List Nat)(c:List Nd)(ht:t≤300)(hU:∀u∈U,u≤300)(hc:c.length≤4294967296)(hn:∀x∈c,x.n.length≤4294967296)(hb:refB U.length c) :
  callH T 667 [.sl (rowN c) .an,.i .i64 (t:Int),.bs (.bor 0) 0 1 0 U.length] [(.bor 0,⟨0,.own,1,natR U⟩)]=some (.tup [],[(.bor 0,⟨0,.own,1,natR (cntU t U c)⟩)]):=by
 have hloop:loopN T 1 0 (.norm false []) l667_0 (stPu t U c 0)=some (.n,⟨[],[(.bor 0,⟨0,.own,1,natR (cntU t U c)⟩)],4⟩):=by
  have:=zal (T:=T) (k:=1) (id:=0) (g2:=.norm false []) (c:=l667_0) (fun i=>stPu t (cntU t U (c.take i)) c i) c.length
   (some (.n,⟨[],[(.bor 0,⟨0,.own,1,natR (cntU t U c)⟩)],4⟩)) (fun i hi=>?_) ?_
  ·simpa[show cntU t U []=U from rfl]using this
  ·obtain⟨x,hx,hmem⟩:∃x,c[i]? = some x∧x∈c:=⟨c[i]'hi,List.getElem?_eq_getElem hi,List.getElem_mem hi⟩
   obtain⟨_,hge⟩:=List.getElem?_eq_some_iff.1 hx
   have hsn:cntU t U (c.take (i+1))=addU t (cntU t U (c.take i)) x:=by rw[List.take_add_one,hx,Option.toList_some,zwt]
   have hle:=zky t (c.take i) U hU
   have hlen:=zdl t (c.take i) U
   have hlt':(i:Int)<c.length:=by omega
   have hws:=za2 hi hc
   have hnx:=hn _ hmem
   have hbx:=hb _ hmem
   have hal:=zia t (cntU t U (c.take i)) x
   unfold stPu
   rw[hsn]
   generalize cntU t U (c.take i)=V at *
   obtain⟨op,xi,n⟩:=x
   dsimp only at hnx hbx
   by_cases ho:op=5
   ·subst ho
    obtain⟨h0,h1⟩:=hbx rfl
    obtain⟨j,rfl⟩:∃j:Nat,xi=(j:Int):=⟨xi.toNat,by omega⟩
    have hj:j<V.length:=by omega
    have hjs:V[j]? = some (V[j]'hj):=List.getElem?_eq_getElem hj
    have hjm:=hle _ (List.getElem_mem hj)
    have hj':(j:Int)<V.length:=by omega
    have hju:(j:Int)<U.length:=by omega
    have had:addU t V ⟨5,(j:Int),n⟩=V.set j (min (V[j]'hj+t) 300):=by
     unfold addU
     rw[if_pos rfl,Int.toNat_natCast,hjs,Option.getD_some]
    rw[had]at hal ⊢
    have hset:=zyj V j (min (V[j]'hj+t) 300)
    generalize hv:V[j]'hj=v at *
    have hw:IntKind.wrap .i64 ((v:Int)+(t:Int))=(v:Int)+(t:Int):=zac _ (by omega)
    by_cases hmv:v+t≤300
    ·have hmn:min (v+t) 300=v+t:=by omega
     have hm2:¬ ((300:Int)<(v:Int)+(t:Int)):=by omega
     rw[hmn]at hset ⊢
     rw[Int.natCast_add]at hset
     simp -implicitDefEqProofs[l667_0,hi,hlt',hx,hge,hws,hj,hj',hju,hjs,hv,hw,h1,mm2,hm2,hset,hlen,hal]
    ·have hmn:min (v+t) 300=300:=by omega
     have hm2:((300:Int)<(v:Int)+(t:Int)):=by omega
     rw[hmn]at hset ⊢
     rw[show ((300:Nat):Int)=300 from rfl]at hset
     simp -implicitDefEqProofs[l667_0,hi,hlt',hx,hge,hws,hj,hj',hju,hjs,hv,hw,h1,mm2,hm2,hset,hlen,hal]
   ·have had:addU t V ⟨op,xi,n⟩=V:=by unfold addU;rw[if_neg ho]
    rw[had]
    simp -implicitDefEqProofs[l667_0,hi,hlt',hx,hge,hws,ho,hnx,hlen]
  ·rw[List.take_length]
   unfold stPu
   constructor<;>simp -implicitDefEqProofs[l667_0]
 unfold stPu at hloop
 rw[f667 _ _ rfl,b667]
 simp -implicitDefEqProofs at hloop
 simp -implicitDefEqProofs[hloop]
end
def stPup(f:Fd)(i:Nat):St:=
 ⟨[(1,.ptr (.loc 1) 1 2 0 0),(3,.bs (.loc 13) 2 1 0 f.lets.length),(15,.sl (rowC f.outs) .an),(16,.i .i64 f.outs.length),(17,.i .i64 (i:Int))],
  [(.loc 1,⟨1,.str,2,[[.sl (rowLt f.lets) .an,.sl (rowC f.outs) .an]]⟩),(.loc 13,⟨2,.own,1,natR (uOut (f.outs.take i) f.lets.length)⟩)],4⟩
def stPdn(f:Fd)(U:List Nat)(d:Nat):St:=
 ⟨[(1,.ptr (.loc 1) 1 2 0 0),(3,.bs (.loc 13) 2 1 0 f.lets.length),(6,.i .i64 ((f.lets.length:Int)-1-(d:Int)))],
  [(.loc 1,⟨1,.str,2,[[.sl (rowLt f.lets) .an,.sl (rowC f.outs) .an]]⟩),(.loc 13,⟨2,.own,1,natR (uDown (f.lets.map (·.code)) U d)⟩)],4⟩
theorem zvw(O:List (List Nd))(n:Nat)(c:List Nd):uOut (O++[c]) n=cntU 1 (uOut O n) c:=by simp[uOut]
section
variable{T:Tbl}[CPlain T]
theorem zot(f:Fd)(h2:f.outs.length≤100000)(hb:∀c∈f.outs,refB f.lets.length c∧c.length≤100000∧thin 100000 c) :
  loopN T 0 0 (.norm false [1,3]) l668_0 (stPup f 0)=some (.n,⟨[(1,.ptr (.loc 1) 1 2 0 0),(3,.bs (.loc 13) 2 1 0 f.lets.length)],
   [(.loc 1,⟨1,.str,2,[[.sl (rowLt f.lets) .an,.sl (rowC f.outs) .an]]⟩),(.loc 13,⟨2,.own,1,natR (uOut f.outs f.lets.length)⟩)],4⟩):=by
 refine zal (T:=T) (k:=0) (id:=0) (g2:=.norm false [1,3]) (c:=l668_0) (fun i=>stPup f i) f.outs.length _ (fun i hi=>?_) ?_
 ·obtain⟨c,hx,hmem⟩:∃c,f.outs[i]? = some c∧c∈f.outs:=⟨f.outs[i]'hi,List.getElem?_eq_getElem hi,List.getElem_mem hi⟩
  obtain⟨_,hge⟩:=List.getElem?_eq_some_iff.1 hx
  have hlt':(i:Int)<f.outs.length:=by omega
  have hws:=za2 hi (by omega)
  obtain⟨b1,b2,b3⟩:=hb c hmem
  have hlen:=zer (f.outs.take i) f.lets.length
  have hct:=zhu (T:=T) 1 (uOut (f.outs.take i) f.lets.length) c (by omega) (zwu _ _) (by omega) (fun y hy=>by have:=b3 y hy;omega) (by rw[hlen];exact b1)
  rw[hlen,←zvw]at hct
  rw[show ((1:Nat):Int)=1 from rfl]at hct
  unfold stPup
  rw[List.take_add_one,hx,Option.toList_some]
  generalize uOut (f.outs.take i++[c]) f.lets.length=V at *
  generalize uOut (f.outs.take i) f.lets.length=U at *
  obtain⟨L,O⟩:=f
  dsimp only at *
  simp -implicitDefEqProofs[l668_0,hi,hlt',hx,hge,hws,hct]
 ·unfold stPup
  rw[List.take_length]
  constructor<;>simp -implicitDefEqProofs[l668_0]
theorem zou(f:Fd)(U:List Nat)(hU:U.length=f.lets.length)(hle:∀u∈U,u≤300)(h1:f.lets.length≤100000)(hL:refT (f.lets.map (·.code)))(hn:∀x∈f.lets,x.code.length≤100000∧thin 100000 x.code) :
  loopN T 0 2 (.norm false [3]) l668_1 (stPdn f U 0)=some (.n,⟨[(3,.bs (.loc 13) 1 1 0 f.lets.length)],[(.loc 13,⟨1,.own,1,natR (uDown (f.lets.map (·.code)) U f.lets.length)⟩)],3⟩):=by
 have hlm:(f.lets.map (·.code)).length=f.lets.length:=List.length_map ..
 refine zal (T:=T) (k:=0) (id:=2) (g2:=.norm false [3]) (c:=l668_1) (fun i=>stPdn f U i) f.lets.length _ (fun d hd=>?_) ?_
 ·have hi:f.lets.length-1-d<f.lets.length:=by omega
  obtain⟨x,hx,hmem⟩:∃x,f.lets[f.lets.length-1-d]? = some x∧x∈f.lets:=⟨f.lets[f.lets.length-1-d]'hi,List.getElem?_eq_getElem hi,List.getElem_mem hi⟩
  obtain⟨_,hge⟩:=List.getElem?_eq_some_iff.1 hx
  have hxc:(f.lets.map (·.code))[f.lets.length-1-d]? = some x.code:=by rw[List.getElem?_map,hx];rfl
  have hlen:=zd3 (f.lets.map (·.code)) U (by omega) d
  have hleD:=zqr (f.lets.map (·.code)) U hle d
  rw[hlm]at hlen
  have hup:uDown (f.lets.map (·.code)) U (d+1)=cntU (((uDown (f.lets.map (·.code)) U d)[f.lets.length-1-d]?).getD 0) (uDown (f.lets.map (·.code)) U d) x.code:=by
   show cntU (((uDown (f.lets.map (·.code)) U d)[(f.lets.map (·.code)).length-1-d]?).getD 0) (uDown (f.lets.map (·.code)) U d) (((f.lets.map (·.code))[(f.lets.map (·.code)).length-1-d]?).getD [])=_
   rw[hlm,hxc];rfl
  unfold stPdn
  rw[hup]
  generalize uDown (f.lets.map (·.code)) U d=V at *
  obtain⟨v,hvs,hvm⟩:∃v,V[f.lets.length-1-d]? = some v∧v≤300:=⟨V[f.lets.length-1-d]'(by omega),List.getElem?_eq_getElem _,hleD _ (List.getElem_mem _)⟩
  rw[hvs,Option.getD_some]
  have hct:=zhu (T:=T) v V x.code hvm hleD (by have:=(hn x hmem).1;omega) (fun y hy=>by have:=(hn x hmem).2 y hy;omega) (by rw[hlen];exact(hL _ x.code hxc).mono (by omega))
  rw[hlen]at hct
  obtain⟨_,hv⟩:=List.getElem?_eq_some_iff.1 hvs
  obtain⟨i,hie⟩:∃i,f.lets.length-1-d=i:=⟨_,rfl⟩
  simp only[hie]at *
  have hiI:(f.lets.length:Int)-1-(d:Int)=(i:Int):=by omega
  have hiI2:(f.lets.length:Int)-1-((d+1:Nat):Int)=(i:Int)-1:=by omega
  rw[hiI,hiI2]
  have hws:IntKind.wrap .i64 ((i:Int)-1)=(i:Int)-1:=zac _ (by omega)
  have hi0:(0:Int)≤(i:Int):=by omega
  have hlt':(i:Int)<f.lets.length:=by omega
  have hvl:i<V.length:=by omega
  obtain⟨L,O⟩:=f
  dsimp only at *
  simp -implicitDefEqProofs[l668_1,hi,hi0,hlt',hx,hge,hws,hct,hvs,hv,hvl]
 ·unfold stPdn
  have hm:(f.lets.length:Int)-1-(f.lets.length:Int)=-1:=by omega
  rw[hm]
  constructor<;>simp -implicitDefEqProofs[l668_1]
variable[CTree T][CTree2 T][CText T][CLenD T][CLimb T][CNat T][CJoin T][CLex T][CCheck T]
theorem zsd(f:Fd)(h1:f.lets.length≤100000)(h2:f.outs.length≤100000)(hn:thinD 1000 50000 f)(hz:sizeD f≤4294967295)(hs:∀x∈f.lets,x.name.length≤100000) :
  callF T 668 [efd f]=some (.sl (natR (if chkD f f.outs.length 6=none then usesP f else [])) .an):=by
 have cm:=zms (T:=T) f h1 h2 hn hz hs
 by_cases hq:chkD f f.outs.length 6=none
 ·have hF:=zff hq
  have hlL:∀x∈f.lets,x.code.length≤100000∧thin 100000 x.code:=fun x hx=>by
   have:=hn x.code (zf5 hx)
   exact⟨by omega,fun y hy=>by have:=this.2 y hy;omega⟩
  have hlO:∀c∈f.outs,refB f.lets.length c∧c.length≤100000∧thin 100000 c:=fun c hc=>by
   have:=hn c (zed hc)
   exact⟨hF.refB c hc,by omega,fun y hy=>by have:=this.2 y hy;omega⟩
  have l0:=zot (T:=T) f h2 hlO
  have l1:=zou (T:=T) f (uOut f.outs f.lets.length) (zer _ _) (zwu _ _) h1 hF.refT hlL
  rw[decide_eq_true hq]at cm
  rw[if_pos hq]
  unfold usesP
  unfold stPup at l0
  unfold stPdn at l1
  rw[show uOut (f.outs.take 0) f.lets.length=List.replicate f.lets.length 0 from rfl]at l0
  rw[show uDown (f.lets.map (·.code)) (uOut f.outs f.lets.length) 0=uOut f.outs f.lets.length from rfl]at l1
  have hU:=zd3 (f.lets.map (·.code)) (uOut f.outs f.lets.length) (by rw[zer];simp) f.lets.length
  rw[List.length_map]at hU
  have htk:(natR (uDown (f.lets.map (·.code)) (uOut f.outs f.lets.length) f.lets.length)).take f.lets.length=natR (uDown (f.lets.map (·.code)) (uOut f.outs f.lets.length) f.lets.length):=List.take_of_length_le (by rw[zhr];omega)
  generalize uDown (f.lets.map (·.code)) (uOut f.outs f.lets.length) f.lets.length=V at *
  generalize uOut f.outs f.lets.length=U at *
  have hz0:List.replicate f.lets.length [AV.i .i64 0]=natR (List.replicate f.lets.length 0):=by simp[natR]
  have hw:IntKind.wrap .i64 ((f.lets.length:Int)-1)=(f.lets.length:Int)-1:=zac _ (by omega)
  have hl4:(f.lets.length:Int)≤4294967296:=by omega
  rw[show (f.lets.length:Int)-1-((0:Nat):Int)=(f.lets.length:Int)-1 by omega]at l1
  obtain⟨L,O⟩:=f
  dsimp only at *
  clear hn hz hs hF hlL hlO hq
  rw[f668 _ rfl,b668]
  simp -implicitDefEqProofs at l0 l1
  simp -implicitDefEqProofs[cm,l0,l1,hz0,hw,htk,hl4,hU]
 ·rw[decide_eq_false hq]at cm
  rw[if_neg hq]
  obtain⟨L,O⟩:=f
  dsimp only at *
  clear hn hz hs hq
  rw[f668 _ rfl,b668]
  simp -implicitDefEqProofs[cm]
end
def wk22:Fd:=⟨[⟨[97],[⟨2,0,[]⟩,⟨1,0,[1]⟩,⟨7,0,[]⟩]⟩],[[⟨5,0,[]⟩,⟨5,0,[]⟩,⟨9,0,[]⟩]]⟩
section
variable{T:Tbl}[CPlain T][CTree T][CTree2 T][CText T][CLenD T][CLimb T][CNat T][CJoin T][CLex T][CCheck T][CLaw22 T]
theorem zok:callF T 671 []=some (.b true):=by
 have hn:thinD 1000 50000 wk22:=by
  intro c hc
  have:c=[⟨2,0,[]⟩,⟨1,0,[1]⟩,⟨7,0,[]⟩]∨c=[⟨5,0,[]⟩,⟨5,0,[]⟩,⟨9,0,[]⟩]:=by simpa[codesD,wk22]using hc
  rcases this with rfl | rfl
  all_goals
   refine⟨by decide,fun x hx=>?_⟩
   simp only[List.mem_cons,List.not_mem_nil,or_false]at hx
   rcases hx with rfl | rfl | rfl<;>decide
 have hq:chkD wk22 wk22.outs.length 6=none:=by decide +kernel
 have hp:hasP wk22=true:=by decide +kernel
 have ho:outsP wk22=[[⟨2,0,[]⟩,⟨1,0,[1]⟩,⟨7,0,[]⟩,⟨2,0,[]⟩,⟨1,0,[1]⟩,⟨7,0,[]⟩,⟨9,0,[]⟩]]:=by decide +kernel
 have hu:usesP wk22=[2]:=by decide +kernel
 have hl:letsB wk22=true:=by decide +kernel
 have c1:=zjm (T:=T) wk22 (by decide) (by decide) hn (by decide) (by simp[wk22])
 have c2:=zsd (T:=T) wk22 (by decide) (by decide) hn (by decide) (by simp[wk22])
 have c3:=zjn (T:=T) wk22 (by decide) (by decide) (fun c hc=>by
  have:=hn c (zed hc)
  exact⟨by omega,fun x hx=>by have:=this.2 x hx;omega⟩)
 rw[hp,if_pos rfl,ho]at c1
 rw[if_pos hq,hu]at c2
 rw[hl]at c3
 clear hn hq hp ho hu hl
 unfold wk22 at c1 c2 c3
 have u1:u32s [1]=[[u32 1]]:=rfl
 simp only[rowN,rowC,rowLt,celLt,celN,natR,List.map_cons,List.map_nil,efd,u1,zxr]at c1 c2 c3
 simp only[Int.natCast_one,Int.natCast_zero,Int.cast_ofNat_Int]at c1 c2 c3
 rw[f671 _ rfl,b671]
 simp -implicitDefEqProofs[c1,c2,c3]
end
def evLt(lim:Nat)(P:Po):Nat→List Rat→List (List Nd)→Nat×List Rat×Nat×Nat
 | n,ls,[]=>(n,ls,0,0)
 | n,ls,c::r=>if (walkR lim P ls n [] c).2.1≠0 then (n,ls,(walkR lim P ls n [] c).2.1,(walkR lim P ls n [] c).2.2) else evLt lim P (n+c.length) (ls++[(walkR lim P ls n [] c).1]) r
def evOu(lim:Nat)(P:Po)(ls:List Rat):Nat→List Rat→List (List Nd)→List Rat×Nat×Nat
 | _,os,[]=>(os,0,0)
 | n,os,c::r=>if (walkR lim P ls n [] c).2.1≠0 then ([],(walkR lim P ls n [] c).2.1,(walkR lim P ls n [] c).2.2) else evOu lim P ls (n+c.length) (os++[(walkR lim P ls n [] c).1]) r
def evD(lim:Nat)(P:Po)(f:Fd):List Rat×Nat×Nat:=
 if (evLt lim P 0 [] (f.lets.map (·.code))).2.2.1≠0 then ([],(evLt lim P 0 [] (f.lets.map (·.code))).2.2) else evOu lim P (evLt lim P 0 [] (f.lets.map (·.code))).2.1 (evLt lim P 0 [] (f.lets.map (·.code))).1 [] f.outs
theorem zkz{dim pars lets:Int}{x:Nd}(h:okN dim pars lets x=true)(ho:x.op≠5):okN dim pars 0 x=true:=by
 unfold okN at h ⊢
 rw[if_neg ho]at h ⊢
 exact h
def EvE(lim:Nat)(P:Po)(d:List Nd)(v:Rat):Prop:=∃t:Tre,t.ok∧t.flat=d∧(∀x∈d,okN P.y.length P.p.length 0 x=true)∧∀i,evT lim P [] t i=(v,0,0)
theorem zk0{lim:Nat}{v:Rat×Bool}{i:Nat}(h:(finV lim v i).2.1=0)(j:Nat):finV lim v j=(v.1,0,0):=by
 obtain⟨h1,h2,_⟩:=zc5 h
 unfold finV
 rw[if_neg (by rw[h1];decide),if_neg (by omega)]
theorem zaf3{ls:List Rat}{i:Int}(h0:0≤i){v:Rat}(h:ls[i.toNat]? = some v):gI ls i=v:=by
 unfold gI
 rw[List.getD_eq_getElem?_getD,h]
 rfl
theorem zqs{lim:Nat}{P:Po}{ls:List Rat}{E:List (List Nd)}{n:Nat}(hE:∀j,j<n→∃d v,E[j]? = some d∧ls[j]? = some v∧EvE lim P d v) :
  ∀(t:Tre) (i:Nat),t.ok→(∀x∈t.flat,okN P.y.length P.p.length n x=true)→(evT lim P ls t i).2.1=0→EvE lim P (inE E t.flat) (evT lim P ls t i).1
 | .leaf x,i,hok,hx,h=>by
  have h':(finV lim (leafV P ls x,true) i).2.1=0:=h
  have hxo:=hx x (by simp[Tre.flat])
  show EvE lim P (inE E [x]) (finV lim (leafV P ls x,true) i).1
  rw[zf2,(zc5 h').2.2]
  by_cases ho:x.op=5
  ·obtain⟨h0,h1⟩:=zo0 hxo ho
   obtain⟨d,v,hd,hv,he⟩:=hE x.i.toNat (by omega)
   rw[if_pos ho,hd]
   have:leafV P ls x=v:=by
    unfold leafV
    rw[ho,if_neg (by decide),if_neg (by decide),if_neg (by decide),if_pos rfl,zaf3 h0 hv]
   rw[show (leafV P ls x,true).1=v from this]
   exact he
  ·rw[if_neg ho]
   have hl:leafV P [] x=leafV P ls x:=by unfold leafV;rw[if_neg ho,if_neg ho]
   refine⟨.leaf x,hok,rfl,fun y hy=>?_,fun j=>?_⟩
   ·rw[List.mem_singleton]at hy
    rw[hy];exact zkz hxo ho
   ·show finV lim (leafV P [] x,true) j=_
    rw[hl]
    exact zk0 h' j
 | .un x a,i,hok,hx,h=>by
  have hne:x.op≠5:=fun ho=>by
   have:=hok.1
   rw[ho]at this
   revert this
   decide
  have ha:(evT lim P ls a i).2.1=0:=by
   unfold evT at h
   split at h
   ·next ha=>exact absurd h ha
   ·next ha=>simpa using ha
  have hu:evT lim P ls (.un x a) i=finV lim (unV x (evT lim P ls a i).1) (i+a.flat.length):=by
   show (if _ then _ else _)=_
   rw[if_neg (by simpa using ha)]
  rw[hu]at h ⊢
  obtain⟨t,t1,t2,t3,t4⟩:=zqs hE a i hok.2 (fun y hy=>hx y (by simp[Tre.flat,hy])) ha
  rw[(zc5 h).2.2]
  have hxo:=hx x (by simp[Tre.flat])
  refine⟨.un x t,⟨hok.1,t1⟩,?_,fun y hy=>?_,fun j=>?_⟩
  ·show t.flat++[x]=inE E (a.flat++[x])
   rw[zeq,zf2,if_neg hne,t2]
  ·rw[show inE E (Tre.un x a).flat=inE E a.flat++[x] by show inE E (a.flat++[x])=_;rw[zeq,zf2,if_neg hne]]at hy
   rcases List.mem_append.1 hy with hy | hy
   ·exact t3 y hy
   ·rw[List.mem_singleton]at hy
    rw[hy];exact zkz hxo hne
  ·show (if _ then _ else _)=_
   rw[t4 j,if_neg (by simp)]
   exact zk0 h _
 | .bin x a b,i,hok,hx,h=>by
  have hne:x.op≠5:=fun ho=>by
   have:=hok.1
   rw[ho]at this
   revert this
   decide
  have ha:(evT lim P ls a i).2.1=0:=by
   unfold evT at h
   split at h
   ·next ha=>exact absurd h ha
   ·next ha=>simpa using ha
  have hb:(evT lim P ls b (i+a.flat.length)).2.1=0:=by
   unfold evT at h
   rw[if_neg (by simpa using ha)]at h
   split at h
   ·next hb=>exact absurd h hb
   ·next hb=>simpa using hb
  have hu:evT lim P ls (.bin x a b) i=finV lim (biV x.op (evT lim P ls a i).1 (evT lim P ls b (i+a.flat.length)).1) (i+a.flat.length+b.flat.length):=by
   show (if _ then _ else _)=_
   rw[if_neg (by simpa using ha),if_neg (by simpa using hb)]
  rw[hu]at h ⊢
  obtain⟨t,t1,t2,t3,t4⟩:=zqs hE a i hok.2.1 (fun y hy=>hx y (by simp[Tre.flat,hy])) ha
  obtain⟨s,s1,s2,s3,s4⟩:=zqs hE b (i+a.flat.length) hok.2.2 (fun y hy=>hx y (by simp[Tre.flat,hy])) hb
  rw[(zc5 h).2.2]
  have hxo:=hx x (by simp[Tre.flat])
  have hfl:inE E (Tre.bin x a b).flat=inE E a.flat++(inE E b.flat++[x]):=by
   show inE E (a.flat++(b.flat++[x]))=_
   rw[zeq,zeq,zf2,if_neg hne]
  refine⟨.bin x t s,⟨hok.1,t1,s1⟩,?_,fun y hy=>?_,fun j=>?_⟩
  ·rw[hfl,←t2,←s2];rfl
  ·rw[hfl]at hy
   rcases List.mem_append.1 hy with hy | hy
   ·exact t3 y hy
   ·rcases List.mem_append.1 hy with hy | hy
    ·exact s3 y hy
    ·rw[List.mem_singleton]at hy
     rw[hy];exact zkz hxo hne
  ·show (if _ then _ else _)=_
   rw[t4 j,if_neg (by simp),s4,if_neg (by simp)]
   exact zk0 h _
theorem zwv{lim:Nat}{P:Po}{ls:List Rat}{E:List (List Nd)}{n:Nat}(hE:∀j,j<n→∃d v,E[j]? = some d∧ls[j]? = some v∧EvE lim P d v){c:List Nd}{i:Nat}
  (hp:placeN P.y.length P.p.length n c<0) (h:(walkR lim P ls i [] c).2.1=0):EvE lim P (inE E c) (walkR lim P ls i [] c).1:=by
 obtain⟨t,ht,rfl,hok⟩:=zbt hp
 rw[zh7 _ _ _ _ ht]at h ⊢
 exact zqs hE t i ht hok h
theorem zww{lim:Nat}{P:Po}(L:List (List Nd))(hL:refT L)(hp:∀k c,L[k]? = some c→placeN P.y.length P.p.length (k:Nat) c<0):∀(r:List (List Nd)) (n:Nat) (ls:List Rat),ls.length+r.length=L.length→(∀k,r[k]? = L[ls.length+k]?) →
  (∀j,j<ls.length→∃d v,(tabE L)[j]? = some d∧ls[j]? = some v∧EvE lim P d v)→(evLt lim P n ls r).2.2.1=0 →
  (evLt lim P n ls r).2.1.length=L.length∧∀j,j<L.length→∃d v,(tabE L)[j]? = some d∧((evLt lim P n ls r).2.1)[j]? = some v∧EvE lim P d v
 | [],n,ls,hl,_,hE,_=>by
  have:ls.length=L.length:=by simpa using hl
  exact⟨this,fun j hj=>hE j (by omega)⟩
 | c::r,n,ls,hl,hr,hE,h=>by
  simp only[List.length_cons]at hl
  have hc:L[ls.length]? = some c:=by simpa using (hr 0).symm
  rw[evLt]at h ⊢
  split at h
  ·next h0=>exact absurd h h0
  ·next h0=>
   rw[if_neg h0]
   have he:=zwv (n:=ls.length) hE (hp _ c hc) (by simpa using h0)
   refine zww L hL hp r _ _ (by rw[List.length_append];simp;omega) (fun k=>?_) (fun j hj=>?_) h
   ·have:=hr (k+1)
    rw[List.getElem?_cons_succ]at this
    rw[this,List.length_append,List.length_singleton,show ls.length+(k+1)=ls.length+1+k by omega]
   ·rw[List.length_append,List.length_singleton]at hj
    by_cases hjl:j<ls.length
    ·obtain⟨d,v,h1,h2,h3⟩:=hE j hjl
     exact⟨d,v,h1,by rw[List.getElem?_append_left hjl];exact h2,h3⟩
    ·have hje:j=ls.length:=by omega
     subst hje
     exact⟨_,_,zqo hL _ c hc,by rw[List.getElem?_append_right (Nat.le_refl _),Nat.sub_self];rfl,he⟩
theorem zwx{lim:Nat}{P:Po}{ls:List Rat}{E:List (List Nd)}{n:Nat}(hE:∀j,j<n→∃d v,E[j]? = some d∧ls[j]? = some v∧EvE lim P d v):∀(O:List (List Nd)) (m:Nat) (os:List Rat),(∀c∈O,placeN P.y.length P.p.length n c<0) →
  (evOu lim P ls m os O).2.1=0→∃vs,(evOu lim P ls m os O).1=os++vs∧(evOu lim P ls m os O).2.2=0∧vs.length=O.length∧∀(k:Nat) c,O[k]? = some c→∃v,vs[k]? = some v∧EvE lim P (inE E c) v
 | [],m,os,_,_=>⟨[],by simp[evOu],rfl,rfl,fun k c h=>by simp at h⟩
 | c::r,m,os,hp,h=>by
  rw[evOu]at h ⊢
  split at h
  ·next h0=>exact absurd h h0
  ·next h0=>
   rw[if_neg h0]
   have he:=zwv hE (hp c List.mem_cons_self) (by simpa using h0)
   obtain⟨vs,h1,h2,h3,h4⟩:=zwx hE r _ _ (fun d hd=>hp d (List.mem_cons_of_mem _ hd)) h
   refine⟨_::vs,by rw[h1,List.append_assoc];rfl,h2,by simp[h3],fun k d hk=>?_⟩
   cases k with
   | zero=>
    rw[List.getElem?_cons_zero]at hk
    cases hk
    exact⟨_,rfl,he⟩
   | succ k=>
    rw[List.getElem?_cons_succ]at hk ⊢
    exact h4 k d hk
theorem z7t{lim:Nat}{P:Po}{f:Fd}(hF:FineD f P.y.length P.p.length)(h:(evD lim P f).2.1=0) :
  (evD lim P f).2.2=0∧(evD lim P f).1.length=f.outs.length∧∀(k:Nat) c,f.outs[k]? = some c→∃v,(evD lim P f).1[k]? = some v∧EvE lim P (inE (tabF f) c) v:=by
 have hlm:(f.lets.map (·.code)).length=f.lets.length:=List.length_map ..
 unfold evD at h ⊢
 split at h
 ·next h0=>exact absurd h h0
 ·next h0=>
  rw[if_neg h0]
  obtain⟨_,he⟩:=zww (lim:=lim) (P:=P) (f.lets.map (·.code)) hF.refT (fun k c hc=>by
   rw[List.getElem?_map]at hc
   obtain⟨x,hx,rfl⟩:=Option.map_eq_some_iff.1 hc
   exact hF.lets k x hx) (f.lets.map (·.code)) 0 [] (by simp) (fun k=>by simp) (fun j hj=>by simp at hj) (by simpa using h0)
  rw[hlm]at he
  obtain⟨vs,h1,h2,h3,h4⟩:=zwx he f.outs _ [] hF.outs h
  rw[List.nil_append]at h1
  rw[h1]
  exact⟨h2,h3,h4⟩
def bxPt(g:Nat)(x:PoF):Box:=⟨g,.str,5,[[.b x.t.1,.sl (u32s x.t.2.1) .an,.sl (u32s x.t.2.2) .an,.sl (rowF x.y) .an,.sl (rowF x.p) .an]]⟩
def stPsm(x:PoF)(R:List (List Nd))(A:List Fz)(i:Nat):St:=
 ⟨[(3,.ptr (.loc 3) 1 5 0 0),(6,.ptr (.loc 6) 2 2 0 0),(11,.sl (rowF A) .an),(13,.i .i64 (i:Int))],[(.loc 3,bxPt 1 x),(.loc 6,⟨2,.str,2,[[.sl [] .an,.sl (rowC R) .an]]⟩)],4⟩
section
variable{T:Tbl}[CLimb T][CNat T][CProd T][CTwos T][CQuot T][CQuotD T][CWhole T][CCommon T][CFrac T][CFrac2 T][CFrac3 T][CFrac5 T][CPow T][CTape T][CGauge T][CEval T][CEval2 T][CTree T][CText T][CLenD T][CTree2 T][CJoin T][CLex T][CCheck T][CPlain T][CLaw22 T][CLaw24 T]
theorem zqb(x:PoF)(hx:PoS x 1000)(d:List Nd)(v:Rat)(hl:d.length≤3000)(hn:thin 1000 d)(he:EvE (limI 400).toNat x.v d v) :
  callF T 462 [.sl (rowN d) .an,ept x,.sl [] .an,.i .i64 400]=some (.tup [efz (fz v),flt4 0 0 0 0])∧sizQ v≤400∧sz v≤129:=by
 obtain⟨t,ht,rfl,hok,hev⟩:=he
 have hyl:x.v.y.length=x.y.length:=by simp[PoF.v]
 have hpl:x.v.p.length=x.p.length:=by simp[PoF.v]
 rw[hyl,hpl]at hok
 have hp:=zo3 ht hok
 have c:=zmm (T:=T) t.flat x [] 400 hx (by decide) (by simp) hl hn (by show placeN x.y.length x.p.length 0 t.flat<0;rw[hp];decide)
 have hm:([]:List Fz).map fv=[]:=rfl
 rw[hm,zh7 _ _ _ _ ht,hev 0]at c
 have h0:(evT (limI 400).toNat x.v [] t 0).2.1=0:=by rw[hev 0]
 have hs:=(zwk h0).2
 rw[hev 0]at hs
 exact⟨c,hs,zqn (by decide) hs⟩
theorem zol(x:PoF)(hx:PoS x 1000)(R:List (List Nd))(A:List Rat)(hR:R.length≤100000)(hA:A.length=R.length)(t3:callF T 383 [ept x]=some (ept x))
  (hv:∀(k:Nat) c,R[k]? = some c→∃v,A[k]? = some v∧callF T 462 [.sl (rowN c) .an,ept x,.sl [] .an,.i .i64 400]=some (.tup [efz (fz v),flt4 0 0 0 0])∧sz v≤129) :
  loopN T 0 0 (.norm false [11]) l670_0 (stPsm x R (fzs A) 0)=some (.n,⟨[(11,.sl (rowF (fzs A)) .an)],[],2⟩):=by
 refine zal (T:=T) (k:=0) (id:=0) (g2:=.norm false [11]) (c:=l670_0) (fun i=>stPsm x R (fzs A) i) R.length _ (fun i hi=>?_) ?_
 ·obtain⟨c,hc⟩:∃c,R[i]? = some c:=⟨_,List.getElem?_eq_getElem hi⟩
  obtain⟨_,hcg⟩:=List.getElem?_eq_some_iff.1 hc
  obtain⟨v,hva,ce,hsz⟩:=hv i c hc
  have hlt':(i:Int)<R.length:=by omega
  have hltA:(i:Int)<A.length:=by omega
  have hiA:i<A.length:=by omega
  have hws:=za2 hi (by omega)
  have hfa:(fzs A)[i]? = some (fz v):=by unfold fzs;rw[List.getElem?_map,hva];rfl
  obtain⟨hfl,hfg⟩:=List.getElem?_eq_some_iff.1 hfa
  have hla:(fzs A).length=A.length:=za1 A
  have hfs:fsz (fz v)≤1000:=by rw[zdp];omega
  have cs:=zu8 (T:=T) (fz v) (fz v) hfs hfs
  rw[decide_eq_true rfl]at cs
  generalize fzs A=FA at *
  generalize fz v=w at *
  obtain⟨w0,w1,w2⟩:=w
  obtain⟨⟨x0,x1,x2⟩,xy,xp⟩:=x
  unfold stPsm bxPt
  clear hx
  simp -implicitDefEqProofs[l670_0,hi,hlt',hc,hcg,hws,t3,ce,hltA,hiA,hfa,hfl,hfg,hla,cs]
 ·obtain⟨⟨x0,x1,x2⟩,xy,xp⟩:=x
  unfold stPsm bxPt
  constructor<;>simp -implicitDefEqProofs[l670_0]
end
def szMx(l:List Fz):Nat:=l.foldl (fun n x=>max n (sizF x)) 0
theorem zv3(l:List Fz)(x:Fz):szMx (l++[x])=max (szMx l) (sizF x):=by simp[szMx]
theorem z2a(B:Nat):∀(l:List Fz),(∀x∈l,sizF x≤B)→szMx l≤B:=by
 have key:∀(l:List Fz) (n:Nat),n≤B→(∀x∈l,sizF x≤B)→l.foldl (fun n x=>max n (sizF x)) n≤B:=by
  intro l
  induction l with
  | nil=>intro n hn _;exact hn
  | cons x l ih=>intro n hn h;exact ih _ (Nat.max_le.2 ⟨hn,h x List.mem_cons_self⟩) fun y hy=>h y (List.mem_cons_of_mem _ hy)
 exact fun l h=>key l 0 (Nat.zero_le _) h
def stRz(l:List Fz)(i:Nat):St:=⟨[(3,.i .i64 ((szMx (l.take i):Nat):Int)),(6,.sl (rowF l) .an),(7,.i .i64 l.length),(8,.i .i64 (i:Int))],[],2⟩
section
variable{T:Tbl}[CLimb T][CNat T][CProd T][CTwos T][CQuot T][CQuotD T][CWhole T][CCommon T][CFrac T][CFrac2 T][CFrac3 T][CFrac5 T][CPow T][CTape T][CGauge T][CEval T][CRow5 T]
theorem zv4(l:List Fz)(hl:l.length≤1000)(hw:∀x∈l,fsz x≤1000)(hs:∀x∈l,sizF x≤100000):callF T 273 [.sl (rowF l) .an]=some (.i .i64 ((szMx l:Nat):Int)):=by
 have hloop:loopN T 0 0 (.norm false [3]) l273_0 (stRz l 0)=some (.n,⟨[(3,.i .i64 ((szMx l:Nat):Int))],[],2⟩):=by
  refine zal (T:=T) (k:=0) (id:=0) (g2:=.norm false [3]) (c:=l273_0) (fun i=>stRz l i) l.length _ (fun i hi=>?_) ?_
  ·obtain⟨x,hx,hmem⟩:∃x,l[i]? = some x∧x∈l:=⟨l[i]'hi,List.getElem?_eq_getElem hi,List.getElem_mem hi⟩
   obtain⟨_,hge⟩:=List.getElem?_eq_some_iff.1 hx
   have hws:=za2 hi (by omega)
   have hil:(i:Int)<l.length:=by omega
   have cs:=zjh (T:=T) x (Nat.le_trans (hw x hmem) (by decide))
   have e:szMx (l.take (i+1))=max (szMx (l.take i)) (sizF x):=by rw[List.take_add_one,hx,Option.toList_some,zv3]
   unfold stRz
   rw[e]
   generalize szMx (l.take i)=A at *
   generalize sizF x=B at *
   obtain⟨x0,x1,x2⟩:=x
   by_cases hAB:A<B
   ·have hm:max A B=B:=by omega
    have hI:(A:Int)<(B:Int):=by omega
    simp -implicitDefEqProofs[l273_0,hi,hil,hx,hge,hws,cs,mm2,hm,hI]
   ·have hm:max A B=A:=by omega
    have hI:¬ (A:Int)<(B:Int):=by omega
    simp -implicitDefEqProofs[l273_0,hi,hil,hx,hge,hws,cs,mm2,hm,hI]
  ·unfold stRz
   rw[List.take_length]
   constructor<;>simp -implicitDefEqProofs[l273_0]
 unfold stRz at hloop
 rw[show szMx (l.take 0)=0 from rfl]at hloop
 rw[f273 _ rfl,b273]
 simp -implicitDefEqProofs at hloop
 simp -implicitDefEqProofs[hloop]
end
def stSn(c:List Nd)(i:Nat):St:=⟨[(1,.sl (rowN c) .an),(13,.sl (rowN c) .an),(14,.i .i64 c.length),(15,.i .i64 (i:Int))],[],2⟩
def stSo(O:List (List Nd))(i:Nat):St:=⟨[(3,.ptr (.loc 3) 1 2 0 0),(56,.sl (rowC O) .an),(57,.i .i64 O.length),(58,.i .i64 (i:Int))],[(.loc 3,⟨1,.str,2,[[.sl [] .an,.sl (rowC O) .an]]⟩)],3⟩
section
variable{T:Tbl}[CLimb T][CNat T][CSameF T]
theorem zv5(c:List Nd)(hc:c.length≤100000)(hn:thin 1000 c):callF T 683 [.sl (rowN c) .an,.sl (rowN c) .an]=some (.b true):=by
 have hl:loopN T 0 0 (.norm false []) l683_0 (stSn c 0)=some (.n,⟨[],[],2⟩):=by
  refine zal (T:=T) (k:=0) (id:=0) (g2:=.norm false []) (c:=l683_0) (fun i=>stSn c i) c.length _ (fun i hi=>?_) ?_
  ·obtain⟨x,hx,hmem⟩:∃x,c[i]? = some x∧x∈c:=⟨c[i]'hi,List.getElem?_eq_getElem hi,List.getElem_mem hi⟩
   obtain⟨_,hge⟩:=List.getElem?_eq_some_iff.1 hx
   have hlt':(i:Int)<c.length:=by omega
   have hws:=za2 hi (by omega)
   have hnx:=hn x hmem
   have cm:=zkk (T:=T) x.n x.n (by omega) (by omega)
   obtain⟨op,xi,n⟩:=x
   dsimp only at hnx cm
   have hcm:cmpN (val n) (val n)=0:=by simp[cmpN]
   have h32:n.length≤4294967296:=by omega
   unfold stSn
   simp -implicitDefEqProofs[l683_0,hi,hlt',hx,hge,hws,cm,h32,hcm]
  ·unfold stSn
   constructor<;>simp -implicitDefEqProofs[l683_0]
 unfold stSn at hl
 rw[f683 _ rfl,b683]
 simp -implicitDefEqProofs at hl
 simp -implicitDefEqProofs[hl]
theorem zil(O:List (List Nd))(hO:O.length≤100000)(hc:∀c∈O,c.length≤100000∧thin 1000 c):callF T 681 [efd ⟨[],O⟩,efd ⟨[],O⟩]=some (.b true):=by
 have hl:loopN T 0 2 (.norm false []) l681_1 (stSo O 0)=some (.n,⟨[],[],2⟩):=by
  refine zal (T:=T) (k:=0) (id:=2) (g2:=.norm false []) (c:=l681_1) (fun i=>stSo O i) O.length _ (fun i hi=>?_) ?_
  ·obtain⟨x,hx,hmem⟩:∃x,O[i]? = some x∧x∈O:=⟨O[i]'hi,List.getElem?_eq_getElem hi,List.getElem_mem hi⟩
   obtain⟨_,hge⟩:=List.getElem?_eq_some_iff.1 hx
   have hlt':(i:Int)<O.length:=by omega
   have hws:=za2 hi (by omega)
   have cs:=zv5 (T:=T) x (hc x hmem).1 (hc x hmem).2
   unfold stSo
   simp -implicitDefEqProofs[l681_1,hi,hlt',hx,hge,hws,cs]
  ·unfold stSo
   constructor<;>simp -implicitDefEqProofs[l681_1]
 have h0:loopN T 0 0 (.norm false [2,3]) l681_0 ⟨[(2,.ptr (.loc 2) 1 2 0 0),(3,.ptr (.loc 3) 2 2 0 0),(26,.sl [] .an),(27,.i .i64 0),(28,.i .i64 0)],[(.loc 2,⟨1,.str,2,[[.sl [] .an,.sl (rowC O) .an]]⟩),(.loc 3,⟨2,.str,2,[[.sl [] .an,.sl (rowC O) .an]]⟩)],4⟩ =
   some (.n,⟨[(2,.ptr (.loc 2) 1 2 0 0),(3,.ptr (.loc 3) 2 2 0 0)],[(.loc 2,⟨1,.str,2,[[.sl [] .an,.sl (rowC O) .an]]⟩),(.loc 3,⟨2,.str,2,[[.sl [] .an,.sl (rowC O) .an]]⟩)],4⟩):=by
  refine zal (T:=T) (k:=0) (id:=0) (g2:=.norm false [2,3]) (c:=l681_0) (fun i=>⟨[(2,.ptr (.loc 2) 1 2 0 0),(3,.ptr (.loc 3) 2 2 0 0),(26,.sl [] .an),(27,.i .i64 0),(28,.i .i64 (i:Int))],[(.loc 2,⟨1,.str,2,[[.sl [] .an,.sl (rowC O) .an]]⟩),(.loc 3,⟨2,.str,2,[[.sl [] .an,.sl (rowC O) .an]]⟩)],4⟩) 0 _ (fun i hi=>by omega) ?_
  constructor<;>simp -implicitDefEqProofs[l681_0]
 unfold stSo at hl
 rw[f681 _ rfl,b681]
 simp -implicitDefEqProofs at hl h0
 simp -implicitDefEqProofs[hl,h0]
end
class CLaw11b (T:Tbl):Prop where
class CRow2 (T:Tbl):Prop where
class CFig (T:Tbl):Prop where
def prim344:List AV→Option AV
 | [.s s,.s [47,46]]=>if s.length≤1000000 then some (.i .i64 (Lib.indexAny s [47,46])) else none
 | _=>none
def prim194:List AV→Option AV
 | [.s s,.s [c]]=>some (.i .i64 (Lib.indexByte s c))
 | _=>none
def prim361:List AV→Option AV
 | [.s s,.s [c]]=>some (.i .i64 (Lib.countByte s c))
 | _=>none
def prim343:List AV→Option AV
 | [.s [48],.i .i64 n]=>if 0≤n∧n≤64 then some (.s (List.replicate n.toNat 48)) else none
 | _=>none
class CStr (T:Tbl):Prop where
class CSplit (T:Tbl):Prop where
def splitC(c:UInt8):List UInt8→List (List UInt8)
 | []=>[[]]
 | b::l=>if b=c then []::splitC c l else match splitC c l with
  | []=>[[b]]
  | p::r=>(b::p)::r
section
variable{T:Tbl}[CStr T][CSplit T]
def stSp(c:UInt8)(N:Nat)(ps:List (List UInt8))(s:List UInt8):St:=
 ⟨[(0,.s s),(1,.s [c]),(2,.i .i64 0),(3,.i .i64 ((N:Int)-1)),(9,.bs (.loc 31) 1 1 0 N),(10,.i .i64 ps.length)],[(.loc 31,⟨1,.own,1,rowsT ps++List.replicate (N-ps.length) [.s []]⟩)],3⟩
end
abbrev flt(k a:Int):AV:=.agg [.i .i64 k,.i .i64 0,.i .i64 0,.i .i64 a]
def isCut(c:UInt8):Bool:=c == 47 || c == 46
def cutN:List UInt8→Nat
 | []=>0
 | c::r=>if isCut c then 0 else cutN r+1
def figB(z:Int)(neg:Bool)(s:List UInt8)(c:UInt8)(at_:Nat):Rat×Int×Int:=
 let rest:=s.drop at_
 if 0≤wrongI rest then (0,1,wrongI rest+at_)
 else if c=47 then (if rd rest=0 then (0,2,at_) else (mkRat z (rd rest),0,0))
 else (mkRat (sg neg (z.natAbs*10^rest.length+rd rest)) (10^rest.length),0,0)
def figR(s:List UInt8):Rat×Int×Int:=
 let first:=s.take (cutN s)
 if 0≤wrongZ first then (0,1,wrongZ first+minus first)
 else if cutN s<s.length then figB (readZ first) (s.head? = some 45) s (s.getD (cutN s) 0) (cutN s+1)
 else (mkRat (readZ first) 1,0,0)
def readL:List (List UInt8)→Nat→List Rat→List Rat×Int×Int
 | [],_,acc=>(acc,0,0)
 | w::ws,k,acc=>if (figR w).2.1=0 then readL ws (k+w.length+1) (acc++[(figR w).1]) else ([],(figR w).2.1,(figR w).2.2+k)
def rowR(s:List UInt8):List Rat×Int×Int:=if s=[] then ([],0,0) else readL (splitC 44 s) 0 []
section
variable{T:Tbl}[CLimb T][CNat T][CProd T][CTwos T][CQuot T][CQuotD T][CDigits T][CText T][CWhole T][CCommon T][CFrac T][CFrac2 T][CStr T][CSplit T][CPow T][CFig T][CJoin T][CRow T][CRow2 T]
def stRR(ws:List (List UInt8))(y:Nat×Nat×List Rat):St:=
 ⟨[(3,.ptr (.loc 3) 1 4 0 0),(4,.bs (.loc 4) 2 3 0 y.2.2.length),(5,.i .i64 y.2.1),(14,.sl (rowsT ws) .an),(15,.i .i64 ws.length),(16,.i .i64 y.1)],
  [(.loc 3,⟨1,.str,4,[[.i .i64 0,.i .i64 0,.i .i64 0,.i .i64 0]]⟩),(.loc 4,⟨2,.own,3,rowF (fzs y.2.2)⟩)],4⟩
def resRR(r:List Rat×Int×Int):Option (Ex×St):=
 if r.2.1=0 then some (.n,⟨[(3,.ptr (.loc 3) 1 4 0 0),(4,.bs (.loc 4) 2 3 0 r.1.length)],[(.loc 3,⟨1,.str,4,[[.i .i64 0,.i .i64 0,.i .i64 0,.i .i64 0]]⟩),(.loc 4,⟨2,.own,3,rowF (fzs r.1)⟩)],4⟩)
 else some (.r,⟨[(2,.sl [] .an),(3,.ptr (.loc 3) 1 4 0 0)],[(.loc 3,⟨1,.str,4,[[.i .i64 r.2.1,.i .i64 0,.i .i64 0,.i .i64 r.2.2]]⟩)],3⟩)
end
end Go.Ab
section
namespace Go.Ab
end Go.Ab
end
namespace Go.Ab
def longT(t:Tp)(many words:Nat):Bool:=((t.code.take many).any fun i=>decide (words<fsz i.n)) || decide (many<t.code.length) || decide (many<t.outs.length)
def longP(x:PoF)(many words:Nat):Bool:=decide (words<fsz x.t) || longB x.y many words || longB x.p many words
theorem zom{x:PoF}{many words:Nat}(h:longP x many words=false)(hm:many≤1000):PoS x words:=by
 unfold longP at h
 simp only[Bool.or_eq_false_iff,decide_eq_false_iff_not]at h
 obtain⟨⟨h1,h2⟩,h3⟩:=h
 obtain⟨a1,a2⟩:=zhy h2
 obtain⟨b1,b2⟩:=zhy h3
 exact⟨by omega,a2,b2,by omega,by omega⟩
section
variable{T:Tbl}[CRef02 T][CRef04 T][CRef05 T][CRef07 T][CRef06 T][CRef08 T][CRef09 T][CRef11 T][CLaw09 T][CLaw11 T][CLaw24 T]
def stLT(t:Tp)(many words i:Nat):St:=⟨[(1,.i .i64 many),(2,.i .i64 words),(3,.ptr (.loc 3) 1 4 0 0),(7,.i .i64 i)],[(.loc 3,bxT t)],3⟩
def enLT(t:Tp)(many:Nat):Ex×St:=(.n,⟨[(1,.i .i64 many),(3,.ptr (.loc 3) 1 4 0 0)],[(.loc 3,bxT t)],3⟩)
theorem zr2(x:PoF)(many words:Nat)(hm:many≤1000):callF T 380 [ept x,.i .i64 many,.i .i64 words]=some (.b (longP x many words)):=by
 have c1:=zfw (T:=T) x.t words
 have c2:=zhx (T:=T) x.y many words hm
 have c3:=zhx (T:=T) x.p many words hm
 unfold longP
 generalize decide (words<fsz x.t)=B1 at *
 generalize longB x.y many words=B2 at *
 generalize longB x.p many words=B3 at *
 obtain⟨⟨n,a,d⟩,y,p⟩:=x
 dsimp only at *
 rw[f380 _ rfl,b380]
 cases B1<;>cases B2<;>simp -implicitDefEqProofs[c1,c2,c3]
theorem zx2(x:PoF)(hy:x.y.length≤1000)(hp:x.p.length≤1000):callF T 383 [ept x]=some (ept x):=by
 have c1:=zp8 (T:=T) x.t
 have c2:=zp9 (T:=T) x.y (by omega)
 have c3:=zp9 (T:=T) x.p (by omega)
 obtain⟨⟨n,a,d⟩,y,p⟩:=x
 dsimp only at *
 rw[f383 _ rfl,b383]
 simp -implicitDefEqProofs[c1,c2,c3]
@[simp] theorem zafx(l:List Int):Option.all (fun r=>decide (r.length=1)) (ints l).head? = true:=by cases l<;>rfl
def fC:BId:=.fld (.loc 3) 0
def stTT(t:Tp)(i:Nat):St:=⟨[(1,.ptr (.loc 1) 1 4 0 0),(2,.ptr (.loc 2) 2 4 0 0),(3,.ptr (.loc 3) 3 4 0 0),(4,.i .i64 i)],
 [(.loc 1,bxT t),(.loc 2,⟨2,.str,4,[[.sl [] .an,.sl [] .an,.i .i64 0,.i .i64 0]]⟩),(.loc 3,⟨3,.str,4,[[.bs fC 4 6 0 i,.bs (.loc 13) 5 1 0 t.outs.length,.i .i64 t.dim,.i .i64 t.par]]⟩),(fC,⟨4,.own,6,rowI (t.code.take i)⟩),(.loc 13,⟨5,.own,1,ints t.outs⟩)],7⟩
end
section
variable{T:Tbl}[CLaw17 T]
theorem zqa(l:List Nd)(hl:l.length≤4294967295):callF T 13 [.sl (rowN l) .an]=some (.sl (rowN l) .an):=by
 have hlo:loopN T 0 0 (.norm false [3]) l13_0 ⟨[(0,.sl (rowN l) .an),(3,.bs (.loc 3) 1 3 0 0),(4,.i .i64 0)],[(.loc 3,⟨1,.own,3,[]⟩)],3⟩ =
   some (.n,⟨[(3,.bs (.loc 3) 1 3 0 l.length)],[(.loc 3,⟨1,.own,3,rowN l⟩)],3⟩):=by
  have:=zal (T:=T) (k:=0) (id:=0) (g2:=.norm false [3]) (c:=l13_0) (fun i=>⟨[(0,.sl (rowN l) .an),(3,.bs (.loc 3) 1 3 0 i),(4,.i .i64 (i:Int))],[(.loc 3,⟨1,.own,3,rowN (l.take i)⟩)],3⟩) l.length
   (some (.n,⟨[(3,.bs (.loc 3) 1 3 0 l.length)],[(.loc 3,⟨1,.own,3,rowN l⟩)],3⟩)) (fun i hi=>?_) ?_
  ·simpa using this
  ·have hg:l[i]? = some (l[i]'hi):=List.getElem?_eq_getElem hi
   have hi':(i:Int)<l.length:=by omega
   have hws:=za2 hi (by omega)
   have hs:l.take (i+1)=l.take i++[l[i]'hi]:=by rw[List.take_succ_eq_append_getElem hi]
   have hp:=zna (n:=i) (show (l.take i).length=i by rw[List.length_take];omega) (l[i]'hi)
   have hle:i≤(l.take i).length:=by rw[List.length_take];omega
   have h32:i+1≤4294967296:=by omega
   rw[hs]
   generalize hx:l[i]'hi=x at *
   generalize l.take i=m at *
   obtain⟨op,j,n⟩:=x
   clear hs
   simp -implicitDefEqProofs[l13_0,hi,hi',hg,hx,hws,hp,hle,h32]
  ·constructor<;>simp -implicitDefEqProofs[l13_0]
 rw[f13 _ rfl,b13]
 simp -implicitDefEqProofs[hlo]
end
theorem zr0(m:List (List Nd))(x:List Nd):wkL (rowC m++[[.sl (rowN x) .an]])=rowC (m++[x]):=by rw[zib,zwy]
theorem zoj(m:List Lt)(x:Lt):wkL (rowLt m++[[.s x.name,.sl (rowN x.code) .an]])=rowLt (m++[x]):=by
 have:rowLt m++[celLt x]=rowLt (m++[x]):=zsq m x
 rw[show [[AV.s x.name,.sl (rowN x.code) .an]]=[celLt x] from rfl,this,zy4]
section
variable{T:Tbl}[CLaw17 T][CLaw21 T]
abbrev hpT(L:List Lt)(O:List (List Nd))(A:List Lt)(B:List (List Nd)):Heap:=
 [(.loc 1,⟨1,.str,2,[[.sl (rowLt L) .an,.sl (rowC O) .an]]⟩),(.loc 2,⟨2,.str,2,[[.sl [] .an,.sl [] .an]]⟩),
  (.loc 3,⟨3,.str,2,[[.bs ((BId.loc 3).fld 0) 4 2 0 A.length,.bs ((BId.loc 3).fld 1) 5 1 0 B.length]]⟩),((BId.loc 3).fld 0,⟨4,.own,2,rowLt A⟩),((BId.loc 3).fld 1,⟨5,.own,1,rowC B⟩)]
theorem zx0(L:List Lt)(O:List (List Nd))(hn:∀x∈L,x.code.length≤4294967295)(h1:L.length≤100000) :
  loopN T 0 0 (.norm false [1,2,3]) l468_0 ⟨[(1,.ptr (.loc 1) 1 2 0 0),(2,.ptr (.loc 2) 2 2 0 0),(3,.ptr (.loc 3) 3 2 0 0),(4,.i .i64 ((0:Nat):Int))],hpT L O (L.take 0) [],7⟩ =
   some (.n,⟨[(1,.ptr (.loc 1) 1 2 0 0),(2,.ptr (.loc 2) 2 2 0 0),(3,.ptr (.loc 3) 3 2 0 0)],hpT L O L [],7⟩):=by
 refine zal (fun i=>⟨[(1,.ptr (.loc 1) 1 2 0 0),(2,.ptr (.loc 2) 2 2 0 0),(3,.ptr (.loc 3) 3 2 0 0),(4,.i .i64 ((i:Nat):Int))],hpT L O (L.take i) [],7⟩) L.length _ (fun i hi=>?_) ?_
 ·have hg:L[i]? = some (L[i]'hi):=List.getElem?_eq_getElem hi
  have hi':(i:Int)<L.length:=by omega
  have hws:=za2 hi (by omega)
  have hs:L.take (i+1)=L.take i++[L[i]'hi]:=by rw[List.take_succ_eq_append_getElem hi]
  have hml:(L.take i).length=i:=by rw[List.length_take];omega
  have hp:=zoj (L.take i) (L[i]'hi)
  have h32:i+1≤4294967296:=by omega
  have c:=zqa (T:=T) (L[i]'hi).code (hn _ (List.getElem_mem hi))
  rw[hs]
  generalize hx:L[i]'hi=x at *
  generalize L.take i=m at *
  obtain⟨nm,code⟩:=x
  unfold hpT
  rw[List.length_append,hml]
  have ht:List.take i (rowLt m)=rowLt m:=List.take_of_length_le (by rw[zf8];omega)
  dsimp only at *
  clear hs hn
  simp -implicitDefEqProofs[l468_0,hi,hi',hg,hx,hws,hp,h32,c,hml,ht]
 ·rw[List.take_length]
  constructor<;>simp -implicitDefEqProofs[l468_0]
theorem zx1(L:List Lt)(O:List (List Nd))(hn:∀c∈O,c.length≤4294967295)(h1:O.length≤100000) :
  loopN T 0 2 (.norm false [2,3]) l468_1 ⟨[(1,.ptr (.loc 1) 1 2 0 0),(2,.ptr (.loc 2) 2 2 0 0),(3,.ptr (.loc 3) 3 2 0 0),(5,.i .i64 ((0:Nat):Int))],hpT L O L (O.take 0),7⟩ =
   some (.n,⟨[(2,.ptr (.loc 2) 1 2 0 0),(3,.ptr (.loc 3) 2 2 0 0)],[(.loc 2,⟨1,.str,2,[[.sl [] .an,.sl [] .an]]⟩),
  (.loc 3,⟨2,.str,2,[[.bs ((BId.loc 3).fld 0) 3 2 0 L.length,.bs ((BId.loc 3).fld 1) 4 1 0 O.length]]⟩),((BId.loc 3).fld 0,⟨3,.own,2,rowLt L⟩),((BId.loc 3).fld 1,⟨4,.own,1,rowC O⟩)],6⟩):=by
 refine zal (fun i=>⟨[(1,.ptr (.loc 1) 1 2 0 0),(2,.ptr (.loc 2) 2 2 0 0),(3,.ptr (.loc 3) 3 2 0 0),(5,.i .i64 ((i:Nat):Int))],hpT L O L (O.take i),7⟩) O.length _ (fun i hi=>?_) ?_
 ·have hg:O[i]? = some (O[i]'hi):=List.getElem?_eq_getElem hi
  have hi':(i:Int)<O.length:=by omega
  have hws:=za2 hi (by omega)
  have hs:O.take (i+1)=O.take i++[O[i]'hi]:=by rw[List.take_succ_eq_append_getElem hi]
  have hml:(O.take i).length=i:=by rw[List.length_take];omega
  have hp:=zr0 (O.take i) (O[i]'hi)
  have h32:i+1≤4294967296:=by omega
  have c:=zqa (T:=T) (O[i]'hi) (hn _ (List.getElem_mem hi))
  rw[hs]
  generalize hx:O[i]'hi=x at *
  generalize O.take i=m at *
  unfold hpT
  rw[List.length_append,hml]
  have ht:List.take i (rowC m)=rowC m:=List.take_of_length_le (by rw[zes];omega)
  clear hs hn
  simp -implicitDefEqProofs[l468_1,hi,hi',hg,hx,hws,hp,h32,c,hml,ht]
 ·rw[List.take_length]
  constructor<;>simp -implicitDefEqProofs[l468_1]
theorem zkh(f:Fd)(hn:∀c∈codesD f,c.length≤4294967295)(h1:f.lets.length≤100000)(h2:f.outs.length≤100000):callF T 468 [efd f]=some (efd f):=by
 obtain⟨L,O⟩:=f
 dsimp only at h1 h2
 have a:=zx0 (T:=T) L O (fun x hx=>hn _ (List.mem_append.2 (.inl (List.mem_map.2 ⟨x,hx,rfl⟩)))) h1
 have b:=zx1 (T:=T) L O (fun c hc=>hn _ (List.mem_append.2 (.inr hc))) h2
 simp only[hpT,List.take_zero,List.length_nil,zwl,zy6,Int.natCast_zero]at a b
 rw[f468 _ rfl,b468]
 have e1:List.take L.length (rowLt L)=rowLt L:=List.take_of_length_le (by rw[zf8];exact Nat.le_refl _)
 have e2:List.take O.length (rowC O)=rowC O:=List.take_of_length_le (by rw[zes];exact Nat.le_refl _)
 simp -implicitDefEqProofs[a,b,e1,e2]
end
abbrev hpB(gk:Nat)(Q:PoF)(LS:List Fz)(s p L seen:Int)(F:List Fz)(m:Nat):Heap:=
 [(.bor 0,⟨0,.str,9,[[.b Q.t.1,.sl (u32s Q.t.2.1) .an,.sl (u32s Q.t.2.2) .an,.sl (rowF Q.y) .an,.sl (rowF Q.p) .an,.bs (.bor 1) 1 3 0 LS.length,.ptr (.bor 2) 2 3 0 0,.i .i64 seen,.bs (.bor 3) gk 3 0 m]]⟩),(.bor 1,⟨1,.own,3,rowF LS⟩),(.bor 2,bxG 2 s p L),(.bor 3,⟨gk,.own,3,rowF F⟩)]
section
variable{T:Tbl}[CLimb T][CNat T][CProd T][CTwos T][CQuot T][CQuotD T][CWhole T][CCommon T][CFrac T][CFrac2 T][CFrac3 T][CFrac5 T][CPow T][CTape T][CGauge T][CEval T][CEval2 T][CTree T][CText T][CLenD T]
theorem z2h(Q:PoF)(LS:List Fz)(s p L seen:Int)(F:List Fz)(m:Nat)(x:Fz)(hx:F[m]? = some x)(hm:m≤100000):callH T 490 [wP] (hpB 3 Q LS s p L seen F (m+1))=some (efz x,hpB 3 Q LS s p L seen F m):=by
 obtain⟨hlt,hge⟩:=List.getElem?_eq_some_iff.1 hx
 have hw:IntKind.wrap .i64 (m:Int)=m:=zac _ (by omega)
 have h1:(m:Int)<(m:Int)+1:=by omega
 have h2:(m:Int)≤(m:Int)+1:=by omega
 obtain⟨⟨q0,q1,q2⟩,qy,qp⟩:=Q
 obtain⟨x0,x1,x2⟩:=x
 rw[f490 _ _ rfl,b490]
 simp -implicitDefEqProofs[hx,hge,hlt,hw,h1,h2]
theorem z7k(P:Po)(ls:List Rat)(s p L seen:Int)(F:List Fz)(m:Nat)(x:Nd)(ha:arN x.op=0)(hn:x.n.length≤1000)(hy:x.op=3→0≤x.i∧x.i<P.y.length)(hp:x.op=4→0≤x.i∧x.i<P.p.length)(hl:x.op=5→0≤x.i∧x.i<ls.length) :
  callH T 489 [wP,.agg (celN x)] (hpB 3 P.f (fzs ls) s p L seen F m)=some (efz (fz (leafV P ls x)),hpB 3 P.f (fzs ls) s p L seen F m):=by
 have hop:x.op=1∨x.op=2∨x.op=3∨x.op=4∨x.op=5:=by rcases zaw x.op with ⟨e,h⟩ | ⟨e,h⟩ | ⟨e,h⟩ | ⟨e,h⟩<;>omega
 have c1:=zjr (T:=T) x.n (by omega)
 obtain⟨op,i,n⟩:=x
 obtain⟨t,y,pp⟩:=P
 dsimp only at *
 unfold leafV Po.f
 dsimp only
 rw[f489 _ _ rfl,b489]
 rcases hop with rfl | rfl | rfl | rfl | rfl
 ·show _=some (efz (fz ((val n:Nat):Rat)),_)
  generalize fz ((val n:Nat):Rat)=z at *
  generalize fzs y=Y at *
  generalize fzs pp=PP at *
  generalize fzs ls=LL at *
  generalize fz t=tt at *
  obtain⟨t0,t1,t2⟩:=tt
  simp -implicitDefEqProofs[c1]
 ·show _=some (efz (fz t),_)
  generalize fzs y=Y at *
  generalize fzs pp=PP at *
  generalize fzs ls=LL at *
  generalize fz t=tt at *
  obtain⟨t0,t1,t2⟩:=tt
  simp -implicitDefEqProofs
 ·obtain⟨k,rfl,g1,g2,g3⟩:=zjp (hy rfl)
  have g4:=(List.getElem?_eq_some_iff.1 g3).2
  have hl2:(fzs y).length=y.length:=za1 y
  show _=some (efz (fz (gI y (k:Int))),_)
  generalize fz (gI y (k:Int))=z at *
  generalize fzs y=Y at *
  generalize fzs pp=PP at *
  generalize fzs ls=LL at *
  generalize fz t=tt at *
  obtain⟨t0,t1,t2⟩:=tt
  simp -implicitDefEqProofs[g1,g2,g3,g4,hl2]
 ·obtain⟨k,rfl,g1,g2,g3⟩:=zjp (hp rfl)
  have g4:=(List.getElem?_eq_some_iff.1 g3).2
  have hl2:(fzs pp).length=pp.length:=za1 pp
  show _=some (efz (fz (gI pp (k:Int))),_)
  generalize fz (gI pp (k:Int))=z at *
  generalize fzs y=Y at *
  generalize fzs pp=PP at *
  generalize fzs ls=LL at *
  generalize fz t=tt at *
  obtain⟨t0,t1,t2⟩:=tt
  simp -implicitDefEqProofs[g1,g2,g3,g4,hl2]
 ·obtain⟨k,rfl,g1,g2,g3⟩:=zjp (hl rfl)
  have g4:=(List.getElem?_eq_some_iff.1 g3).2
  have hl2:(fzs ls).length=ls.length:=za1 ls
  show _=some (efz (fz (gI ls (k:Int))),_)
  generalize fz (gI ls (k:Int))=z at *
  generalize fzs y=Y at *
  generalize fzs pp=PP at *
  generalize fzs ls=LL at *
  generalize fz t=tt at *
  obtain⟨t0,t1,t2⟩:=tt
  simp -implicitDefEqProofs[g1,g2,g3,g4,hl2]
theorem zyv(Q:PoF)(LS:List Fz)(s p L seen:Int)(F:List Fz)(m:Nat)(x:Nd)(ha:arN x.op=0)(v:Fz)
  (c:callH T 489 [wP,.agg (celN x)] (hpB 3 Q LS s p L seen F m)=some (efz v,hpB 3 Q LS s p L seen F m)) :
  callH T 484 [wP,.agg (celN x)] (hpB 3 Q LS s p L seen F m)=some (.tup [efz v,.b true],hpB 3 Q LS s p L seen F m):=by
 have ca:=zbm (T:=T) x.op
 rw[ha]at ca
 obtain⟨⟨q0,q1,q2⟩,qy,qp⟩:=Q
 obtain⟨op,i,n⟩:=x
 rw[f484 _ _ rfl,b484]
 simp -implicitDefEqProofs[ca,c]
theorem zyw(Q:PoF)(LS:List Fz)(s p L seen:Int)(F:List Fz)(m:Nat)(x:Nd)(ha:arN x.op=1)(a:Rat)(hz:sz a≤129)(hx:F[m]? = some (fz a))(hm:m≤100000) :
  callH T 484 [wP,.agg (celN x)] (hpB 3 Q LS s p L seen F (m+1))=some (.tup [efz (fz (unV x a).1),.b (unV x a).2],hpB 3 Q LS s p L seen F m):=by
 have ca:=zbm (T:=T) x.op
 rw[ha]at ca
 have hop:x.op=6∨x.op=11:=by rcases zaw x.op with ⟨e,h⟩ | ⟨e,h⟩ | ⟨e,h⟩ | ⟨e,h⟩<;>omega
 have cp:=z2h (T:=T) Q LS s p L seen F m (fz a) hx hm
 have c6:=zp2 (T:=T) (fz a) (by rw[zdp];omega)
 have c11:=zp7 (T:=T) (fz a) x.i (by rw[zdp];omega)
 rw[zsr]at c6 c11
 obtain⟨⟨q0,q1,q2⟩,qy,qp⟩:=Q
 obtain⟨op,i,n⟩:=x
 dsimp only at *
 unfold unV
 dsimp only
 rw[f484 _ _ rfl,b484]
 rcases hop with rfl | rfl
 ·rw[if_pos rfl]
  dsimp only
  generalize fz (-a)=z at *
  generalize fz a=u at *
  simp -implicitDefEqProofs[ca,cp,c6]
 ·rw[if_neg (by decide)]
  generalize fz (powR a i).1=z at *
  generalize (powR a i).2=ok at *
  generalize fz a=u at *
  simp -implicitDefEqProofs[ca,cp,c11]
theorem zyx(Q:PoF)(LS:List Fz)(s p L seen:Int)(F:List Fz)(m:Nat)(x:Nd)(ha:arN x.op=2)(a b:Rat)(hza:sz a≤129)(hzb:sz b≤129)(hx:F[m]? = some (fz a))(hx2:F[m+1]? = some (fz b))(hm:m≤90000) :
  callH T 484 [wP,.agg (celN x)] (hpB 3 Q LS s p L seen F (m+2))=some (.tup [efz (fz (biV x.op a b).1),.b (biV x.op a b).2],hpB 3 Q LS s p L seen F m):=by
 have ca:=zbm (T:=T) x.op
 rw[ha]at ca
 have hop:x.op=7∨x.op=8∨x.op=9∨x.op=10:=by rcases zaw x.op with ⟨e,h⟩ | ⟨e,h⟩ | ⟨e,h⟩ | ⟨e,h⟩<;>omega
 have cp:=z2h (T:=T) Q LS s p L seen F m (fz a) hx (by omega)
 have cp2:=z2h (T:=T) Q LS s p L seen F (m+1) (fz b) hx2 (by omega)
 have sa:fsz (fz a)≤1000:=by rw[zdp];omega
 have sb:fsz (fz b)≤1000:=by rw[zdp];omega
 have c7:=zp3 (T:=T) (fz a) (fz b) sa sb
 have c8:=zp4 (T:=T) (fz a) (fz b) sa sb
 have c9:=zp5 (T:=T) (fz a) (fz b) sa sb
 have c10:=zp6 (T:=T) (fz a) (fz b) sa sb
 rw[zsr,zsr]at c7 c8 c9 c10
 obtain⟨⟨q0,q1,q2⟩,qy,qp⟩:=Q
 obtain⟨op,i,n⟩:=x
 dsimp only at *
 unfold biV
 rw[f484 _ _ rfl,b484]
 rcases hop with rfl | rfl | rfl | rfl
 ·rw[if_pos rfl]
  dsimp only
  generalize fz (a+b)=z at *
  generalize fz a=u at *
  generalize fz b=w at *
  simp -implicitDefEqProofs[ca,cp,cp2,c7]
 ·rw[if_neg (by decide),if_pos rfl]
  dsimp only
  generalize fz (a-b)=z at *
  generalize fz a=u at *
  generalize fz b=w at *
  simp -implicitDefEqProofs[ca,cp,cp2,c8]
 ·rw[if_neg (by decide),if_neg (by decide),if_pos rfl]
  dsimp only
  generalize fz (a*b)=z at *
  generalize fz a=u at *
  generalize fz b=w at *
  simp -implicitDefEqProofs[ca,cp,cp2,c9]
 ·rw[if_neg (by decide),if_neg (by decide),if_neg (by decide)]
  dsimp only
  generalize fz (a/b)=z at *
  generalize decide (b≠0)=ok at *
  generalize fz a=u at *
  generalize fz b=w at *
  simp -implicitDefEqProofs[ca,cp,cp2,c10]
end
abbrev bx4B(z:Fz):Box:=⟨9,.str,3,[[.b z.1,.sl (u32s z.2.1) .an,.sl (u32s z.2.2) .an]]⟩
abbrev bx5B(a b c d:Int):Box:=⟨10,.str,4,[[.i .i64 a,.i .i64 b,.i .i64 c,.i .i64 d]]⟩
abbrev hqB(gk:Nat)(Q:PoF)(LS:List Fz)(s p L seen:Int)(F:List Fz)(m:Nat)(z:Fz)(a b c d:Int):Heap:=
 [(.bor 0,⟨0,.str,9,[[.b Q.t.1,.sl (u32s Q.t.2.1) .an,.sl (u32s Q.t.2.2) .an,.sl (rowF Q.y) .an,.sl (rowF Q.p) .an,.bs (.bor 1) 1 3 0 LS.length,.ptr (.bor 2) 2 3 0 0,.i .i64 seen,.bs (.bor 3) gk 3 0 m]]⟩),(.bor 1,⟨1,.own,3,rowF LS⟩),(.bor 2,bxG 2 s p L),(.bor 3,⟨gk,.own,3,rowF F⟩),(.loc 4,bx4B z),(.loc 5,bx5B a b c d)]
def stWB(gk:Nat)(Q:PoF)(LS:List Fz)(s p L seen:Int)(F:List Fz)(m:Nat)(code:List Nd)(i:Nat):St:=
 ⟨[(0,wP),(4,.ptr (.loc 4) 9 3 0 0),(5,.ptr (.loc 5) 10 4 0 0),(18,.sl (rowN code) .an),(19,.i .i64 code.length),(20,.i .i64 i)],hqB gk Q LS s p L seen F m (false,[],[]) 0 0 0 0,12⟩
def endWB(gk:Nat)(Q:PoF)(LS:List Fz)(s p L seen:Int)(F:List Fz)(m:Nat):Ex×St:=
 (.n,⟨[(0,wP),(4,.ptr (.loc 4) 9 3 0 0),(5,.ptr (.loc 5) 10 4 0 0)],hqB gk Q LS s p L seen F m (false,[],[]) 0 0 0 0,12⟩)
def endSB(gk:Nat)(Q:PoF)(LS:List Fz)(s p L seen:Int)(F:List Fz)(m:Nat)(kind at_:Int):Ex×St:=
 (.r,⟨[(4,.ptr (.loc 4) 9 3 0 0),(5,.ptr (.loc 5) 10 4 0 0)],hqB gk Q LS s p L seen F m (fz 0) kind 0 0 at_,12⟩)
theorem zfr(m:List Fz)(v:Fz):wkL (rowF m++[[.b v.1,.sl (u32s v.2.1) .an,.sl (u32s v.2.2) .an]])=rowF (m++[v]):=by
 have:rowF m++[celF v]=rowF (m++[v]):=zh9 m v
 rw[show [[AV.b v.1,.sl (u32s v.2.1) .an,.sl (u32s v.2.2) .an]]=[celF v] from rfl,this,zoz]
section
variable{T:Tbl}[CLimb T][CNat T][CProd T][CTwos T][CQuot T][CQuotD T][CWhole T][CCommon T][CFrac T][CFrac2 T][CFrac3 T][CFrac5 T][CPow T][CTape T][CGauge T][CEval T][CEval2 T][CTree T][CText T][CLenD T]
theorem zrs{gk:Nat}(hk:gk=3∨gk=8)(Q:PoF)(LS:List Fz)(s p L seen:Int)(F:List Fz)(m m2:Nat)(code:List Nd)(i:Nat)(x:Nd)(v:Fz)(hx:code[i]? = some x)(hl:code.length≤100000)(hm:m2≤F.length)(hF:F.length≤100000)(hs:0≤seen)(hs2:seen≤100000)(hv:fsz v≤10000)
  (c:callH T 484 [wP,.agg (celN x)] (hpB 3 Q LS s p L seen F m)=some (.tup [efz v,.b true],hpB 3 Q LS s p L seen F m2)) (hf:(sizF v:Int)≤L) :
  evX (orc T) T 4 l473_0 (stWB gk Q LS s p L seen F m code i)=some (.n,stWB 8 Q LS (cntS s) (cntP p v) L (seen+1) (F.take m2++[v]) (m2+1) code (i+1)):=by
 have cg:=zea (T:=T) s p L v hv
 rw[decide_eq_true hf]at cg
 obtain⟨hlt,hge⟩:=List.getElem?_eq_some_iff.1 hx
 have hlt':(i:Int)<code.length:=by omega
 have hws:=za2 hlt (by omega)
 have hw:IntKind.wrap .i64 (seen+1)=seen+1:=zac _ (by omega)
 have hpu:=zfr (F.take m2) v
 have htl:(F.take m2).length=m2:=by rw[List.length_take];omega
 have h32:m2+1≤4294967296:=by omega
 generalize cntS s=s' at *
 generalize cntP p v=p' at *
 obtain⟨⟨q0,q1,q2⟩,qy,qp⟩:=Q
 obtain⟨op,xi,n⟩:=x
 obtain⟨v0,v1,v2⟩:=v
 unfold stWB
 rcases hk with rfl | rfl
 ·simp -implicitDefEqProofs[l473_0,hlt,hlt',hx,hge,hws,c,cg,hw,hpu,hm,h32]
 ·simp -implicitDefEqProofs[l473_0,hlt,hlt',hx,hge,hws,c,cg,hw,hpu,hm,h32]
theorem zu3{gk:Nat}(hk:gk=3∨gk=8)(Q:PoF)(LS:List Fz)(s p L seen:Int)(F:List Fz)(m m2:Nat)(code:List Nd)(i:Nat)(x:Nd)(v:Fz)(hx:code[i]? = some x)
  (c:callH T 484 [wP,.agg (celN x)] (hpB 3 Q LS s p L seen F m)=some (.tup [efz v,.b false],hpB 3 Q LS s p L seen F m2)) :
  evX (orc T) T 4 l473_0 (stWB gk Q LS s p L seen F m code i)=some (endSB gk Q LS s p L seen F m2 3 seen):=by
 have c0:=zd9 (T:=T)
 obtain⟨hlt,hge⟩:=List.getElem?_eq_some_iff.1 hx
 have hlt':(i:Int)<code.length:=by omega
 unfold stWB endSB
 generalize fz 0=Z at *
 obtain⟨z0,z1,z2⟩:=Z
 obtain⟨⟨q0,q1,q2⟩,qy,qp⟩:=Q
 obtain⟨op,xi,n⟩:=x
 obtain⟨v0,v1,v2⟩:=v
 rcases hk with rfl | rfl
 ·simp -implicitDefEqProofs[l473_0,hlt,hlt',hx,hge,c,c0]
 ·simp -implicitDefEqProofs[l473_0,hlt,hlt',hx,hge,c,c0]
theorem zu4{gk:Nat}(hk:gk=3∨gk=8)(Q:PoF)(LS:List Fz)(s p L seen:Int)(F:List Fz)(m m2:Nat)(code:List Nd)(i:Nat)(x:Nd)(v:Fz)(hx:code[i]? = some x)(hv:fsz v≤10000)
  (c:callH T 484 [wP,.agg (celN x)] (hpB 3 Q LS s p L seen F m)=some (.tup [efz v,.b true],hpB 3 Q LS s p L seen F m2)) (hf:¬ (sizF v:Int)≤L) :
  evX (orc T) T 4 l473_0 (stWB gk Q LS s p L seen F m code i)=some (endSB gk Q LS (cntS s) (cntP p v) L seen F m2 6 seen):=by
 have c0:=zd9 (T:=T)
 have cg:=zea (T:=T) s p L v hv
 rw[decide_eq_false hf]at cg
 obtain⟨hlt,hge⟩:=List.getElem?_eq_some_iff.1 hx
 have hlt':(i:Int)<code.length:=by omega
 generalize cntS s=s' at *
 generalize cntP p v=p' at *
 unfold stWB endSB
 generalize fz 0=Z at *
 obtain⟨z0,z1,z2⟩:=Z
 obtain⟨⟨q0,q1,q2⟩,qy,qp⟩:=Q
 obtain⟨op,xi,n⟩:=x
 obtain⟨v0,v1,v2⟩:=v
 rcases hk with rfl | rfl
 ·simp -implicitDefEqProofs[l473_0,hlt,hlt',hx,hge,c,cg,c0]
 ·simp -implicitDefEqProofs[l473_0,hlt,hlt',hx,hge,c,cg,c0]
theorem zxu{gk:Nat}(hk:gk=3∨gk=8)(Q:PoF)(LS:List Fz)(s p L seen:Int)(F:List Fz)(m:Nat)(code:List Nd) :
  isEx (evX (orc T) T 4 l473_0 (stWB gk Q LS s p L seen F m code code.length))=true∧finX 4 0 (.norm false [0,4,5]) (evX (orc T) T 4 l473_0 (stWB gk Q LS s p L seen F m code code.length))=some (endWB gk Q LS s p L seen F m):=by
 obtain⟨⟨q0,q1,q2⟩,qy,qp⟩:=Q
 unfold stWB endWB
 rcases hk with rfl | rfl<;>constructor<;>simp -implicitDefEqProofs[l473_0]
end
section
variable{T:Tbl}[CLimb T][CNat T][CProd T][CTwos T][CQuot T][CQuotD T][CWhole T][CCommon T][CFrac T][CFrac2 T][CFrac3 T][CFrac5 T][CPow T][CTape T][CGauge T][CEval T][CEval2 T][CTree T][CText T][CLenD T]
theorem zzq(gk:Nat)(Q:PoF)(LS:List Fz)(s p L seen:Int)(F:List Fz)(m:Nat)(kind at_:Int):finX 4 0 (.norm false [0,4,5]) (some (endSB gk Q LS s p L seen F m kind at_))=some (endSB gk Q LS s p L seen F m kind at_):=by
 unfold endSB
 simp -implicitDefEqProofs
def endQB(P:Po)(lim:Nat)(ls:List Rat)(n:Nat)(R:Rat×Nat×Nat)(r:Ex×St):Prop:=
 (R.2.1=0∧∃gk s p F,(gk=3∨gk=8)∧F[0]? = some (fz R.1)∧F.length≤5000∧r=endWB gk P.f (fzs ls) s p lim n F 1) ∨
 (R.2.1≠0∧∃gk s p seen F m,(gk=3∨gk=8)∧r=endSB gk P.f (fzs ls) s p lim seen F m R.2.1 R.2.2)
theorem zod(P:Po)(lim:Nat)(hlim:lim≤4096)(ls:List Rat)(hP:PvS P 1000)(hls:∀q∈ls,sz q≤1000)(code:List Nd)(hl:code.length≤3000)(hok:∀x∈code,okN P.y.length P.p.length ls.length x=true)(hn:thin 1000 code)(hwr:wrongN code=-1)(n0:Nat)(hn0:n0≤10000)(s0 p0:Int)(F0:List Fz)(hF0:F0.length≤5000) :
  ∃r,endQB P lim ls (n0+code.length) (walkR lim P ls n0 [] code) r∧loopN T 4 0 (.norm false [0,4,5]) l473_0 (stWB 3 P.f (fzs ls) s0 p0 lim n0 F0 0 code 0)=some r:=by
 refine zat (fun x:Nat×List Rat×Nat×(Int×Int)×List Fz=>stWB x.2.2.1 P.f (fzs ls) x.2.2.2.1.1 x.2.2.2.1.2 lim ((n0+x.1:Nat):Int) x.2.2.2.2 x.2.1.length code x.1)
  (fun x=>x.1≤code.length∧(x.2.2.1=3∨x.2.2.1=8)∧x.2.2.2.2.take x.2.1.length=fzs x.2.1.reverse∧x.2.1.length≤x.2.2.2.2.length∧x.2.2.2.2.length≤5000∧(∀q∈x.2.1,sz q≤129)∧x.2.1.length≤x.1∧(∃j,wrongL j x.2.1.length (code.drop x.1)=-1)∧walkR lim P ls (n0+x.1) x.2.1 (code.drop x.1)=walkR lim P ls n0 [] code)
  (fun x=>code.length-x.1) _ ?_ (0,[],3,(s0,p0),F0) ⟨Nat.zero_le _,.inl rfl,rfl,Nat.zero_le _,hF0,by simp,Nat.le_refl _,⟨0,hwr⟩,rfl⟩
 rintro⟨i,s,gk,⟨c,p⟩,F⟩ ⟨hi,hk,hF,hsF,hFl,hz,hsi,⟨j,hw⟩,hW⟩
 dsimp only at *
 by_cases hlt:i<code.length
 ·have hx:code[i]? = some (code[i]'hlt):=List.getElem?_eq_getElem hlt
  have hd:code.drop i=code[i]'hlt::code.drop (i+1):=List.drop_eq_getElem_cons hlt
  have hmem:=List.getElem_mem hlt
  generalize code[i]'hlt=x at *
  rw[hd]at hw hW
  have hxn:=hn x hmem
  have hxo:=zzo (hok x hmem)
  have h1:¬ (arN x.op<0∨(s.length:Int)<arN x.op):=by
   intro hh
   unfold wrongL at hw
   rw[if_pos hh]at hw
   omega
  have hw2:wrongL (j+1) (s.length+1-arN x.op) (code.drop (i+1))=-1:=by
   unfold wrongL at hw
   rwa [if_neg h1]at hw
  -- one round,by what the node makes of the stack
  have round:∀(v:Rat) (ok:Bool) (s':List Rat),stepV P ls s x=((v,ok),s')→sz v≤2000→s'.length≤s.length→(s'.length:Int)=s.length-arN x.op→(∀q∈s',q∈s)→F.take s'.length=fzs s'.reverse →
    callH T 484 [wP,.agg (celN x)] (hpB 3 P.f (fzs ls) c p lim ((n0+i:Nat):Int) F s.length)=some (.tup [efz (fz v),.b ok],hpB 3 P.f (fzs ls) c p lim ((n0+i:Nat):Int) F s'.length) →
    (∃y:Nat×List Rat×Nat×(Int×Int)×List Fz,(y.1≤code.length∧(y.2.2.1=3∨y.2.2.1=8)∧y.2.2.2.2.take y.2.1.length=fzs y.2.1.reverse∧y.2.1.length≤y.2.2.2.2.length∧y.2.2.2.2.length≤5000∧(∀q∈y.2.1,sz q≤129)∧y.2.1.length≤y.1∧(∃j,wrongL j y.2.1.length (code.drop y.1)=-1)∧walkR lim P ls (n0+y.1) y.2.1 (code.drop y.1)=walkR lim P ls n0 [] code)∧code.length-y.1<code.length-i ∧
     evX (orc T) T 4 l473_0 (stWB gk P.f (fzs ls) c p lim ((n0+i:Nat):Int) F s.length code i)=some (.n,stWB y.2.2.1 P.f (fzs ls) y.2.2.2.1.1 y.2.2.2.1.2 lim ((n0+y.1:Nat):Int) y.2.2.2.2 y.2.1.length code y.1)) ∨
    (∃r,endQB P lim ls (n0+code.length) (walkR lim P ls n0 [] code) r∧isEx (evX (orc T) T 4 l473_0 (stWB gk P.f (fzs ls) c p lim ((n0+i:Nat):Int) F s.length code i))=true ∧
     finX 4 0 (.norm false [0,4,5]) (evX (orc T) T 4 l473_0 (stWB gk P.f (fzs ls) c p lim ((n0+i:Nat):Int) F s.length code i))=some r):=by
   intro v ok s' hst hv hs's hlen hsub hF' hc
   have hvf:fsz (fz v)≤10000:=by rw[zdp];omega
   rw[walkR,hst]at hW
   dsimp only at hW
   cases ok with
   | false=>
    right
    have e:=zu3 (T:=T) hk P.f (fzs ls) c p lim ((n0+i:Nat):Int) F s.length s'.length code i x (fz v) hx hc
    have ef:finV lim (v,false) (n0+i)=(0,3,n0+i):=rfl
    rw[ef]at hW
    rw[if_pos (by simp)]at hW
    refine⟨endSB gk P.f (fzs ls) c p lim ((n0+i:Nat):Int) F s'.length 3 ((n0+i:Nat):Int),.inr ?_,by rw[e];rfl,by rw[e,zzq]⟩
    rw[←hW]
    exact⟨by simp,gk,c,p,_,F,_,hk,rfl⟩
   | true=>
    by_cases hfit:sizQ v≤lim
    ·left
     have ef:finV lim (v,true) (n0+i)=(v,0,0):=by unfold finV;rw[if_neg (by simp),if_neg (by dsimp only;omega)]
     rw[ef]at hW
     rw[if_neg (by simp)]at hW
     have e:=zrs (T:=T) hk P.f (fzs ls) c p lim ((n0+i:Nat):Int) F s.length s'.length code i x (fz v) hx (by omega) (by omega) (by omega) (by omega) (by omega) hvf hc (by unfold sizQ at hfit;omega)
     have hn1:((n0+i:Nat):Int)+1=((n0+(i+1):Nat):Int):=by omega
     rw[hn1]at e
     have hl1:(F.take s'.length++[fz v]).length=s'.length+1:=by rw[List.length_append,List.length_take];simp only[List.length_cons,List.length_nil];omega
     refine⟨(i+1,v::s',8,(cntS c,cntP p (fz v)),F.take s'.length++[fz v]),⟨by dsimp only;omega,.inr rfl,?_,?_,?_,?_,?_,⟨j+1,?_⟩,?_⟩,by dsimp only;omega,e⟩
     ·dsimp only
      rw[List.length_cons,List.take_of_length_le (by omega),hF']
      simp[fzs]
     ·dsimp only;rw[List.length_cons,hl1];exact Nat.le_refl _
     ·dsimp only;rw[hl1];omega
     ·intro q hq
      rcases List.mem_cons.1 hq with rfl | hq
      ·exact zqn hlim hfit
      ·exact hz q (hsub q hq)
     ·dsimp only;rw[List.length_cons];omega
     ·dsimp only
      rw[←hw2]
      congr 1
      rw[List.length_cons];omega
     ·dsimp only
      rw[←hW]
      congr 1
    ·right
     have ef:finV lim (v,true) (n0+i)=(0,6,n0+i):=by unfold finV;rw[if_neg (by simp),if_pos (by dsimp only;omega)]
     rw[ef]at hW
     rw[if_pos (by simp)]at hW
     have e:=zu4 (T:=T) hk P.f (fzs ls) c p lim ((n0+i:Nat):Int) F s.length s'.length code i x (fz v) hx hvf hc (by unfold sizQ at hfit;omega)
     refine⟨endSB gk P.f (fzs ls) (cntS c) (cntP p (fz v)) lim ((n0+i:Nat):Int) F s'.length 6 ((n0+i:Nat):Int),.inr ?_,by rw[e];rfl,by rw[e,zzq]⟩
     rw[←hW]
     exact⟨by simp,gk,_,_,_,F,_,hk,rfl⟩
  rcases zaw x.op with ⟨e,ho⟩ | ⟨e,ho⟩ | ⟨e,ho⟩ | ⟨e,ho⟩
  ·have hst:stepV P ls s x=((leafV P ls x,true),s):=by unfold stepV;rw[if_pos e]
   have cl:=z7k (T:=T) P ls c p lim ((n0+i:Nat):Int) F s.length x e hxn hxo.1 hxo.2.1 hxo.2.2
   exact round _ true s hst (by have:=zqm (P:=P) hP hls hxn;omega) (Nat.le_refl _) (by rw[e];omega) (fun q hq=>hq) hF (zyv P.f (fzs ls) c p lim _ F s.length x e _ cl)
  ·cases s with
   | nil=>exfalso;apply h1;right;rw[e];decide
   | cons a s1=>
    have hst:stepV P ls (a::s1) x=(unV x a,s1):=by unfold stepV;rw[if_neg (by omega),if_pos e];rfl
    have hza:=hz a (by simp)
    have hFa:F[s1.length]? = some (fz a):=by
     have:(F.take (a::s1).length)[s1.length]? = some (fz a):=by rw[hF];simp[fzs]
     rwa [List.getElem?_take,if_pos (by simp)]at this
    have hF1:F.take s1.length=fzs s1.reverse:=by
     have:(F.take (a::s1).length).take s1.length=fzs s1.reverse:=by rw[hF];simp[fzs]
     rwa [List.take_take,Nat.min_eq_left (by simp)]at this
    have cv:=zyw (T:=T) P.f (fzs ls) c p lim ((n0+i:Nat):Int) F s1.length x e a hza hFa (by rw[List.length_cons]at hsi;omega)
    exact round (unV x a).1 (unV x a).2 s1 hst (zzz hza) (by simp) (by rw[e,List.length_cons];omega) (fun q hq=>by simp[hq]) hF1 cv
  ·cases s with
   | nil=>exfalso;apply h1;right;rw[e];decide
   | cons b s0=>
   cases s0 with
   | nil=>exfalso;apply h1;right;rw[e];simp
   | cons a s1=>
    have hst:stepV P ls (b::a::s1) x=(biV x.op a b,s1):=by unfold stepV;rw[if_neg (by omega),if_neg (by omega)];rfl
    have hza:=hz a (by simp)
    have hzb:=hz b (by simp)
    have hFa:F[s1.length]? = some (fz a):=by
     have:(F.take (b::a::s1).length)[s1.length]? = some (fz a):=by rw[hF];simp[fzs]
     rwa [List.getElem?_take,if_pos (by simp only[List.length_cons];omega)]at this
    have hFb:F[s1.length+1]? = some (fz b):=by
     have:(F.take (b::a::s1).length)[s1.length+1]? = some (fz b):=by rw[hF];simp[fzs]
     rwa [List.getElem?_take,if_pos (by simp)]at this
    have hF1:F.take s1.length=fzs s1.reverse:=by
     have:(F.take (b::a::s1).length).take s1.length=fzs s1.reverse:=by rw[hF];simp[fzs]
     rwa [List.take_take,Nat.min_eq_left (by simp;omega)]at this
    have cv:=zyx (T:=T) P.f (fzs ls) c p lim ((n0+i:Nat):Int) F s1.length x e a b hza hzb hFa hFb (by simp only[List.length_cons]at hsi;omega)
    exact round (biV x.op a b).1 (biV x.op a b).2 s1 hst (zz0 hza hzb) (by simp;omega) (by rw[e,List.length_cons,List.length_cons];omega) (fun q hq=>by simp[hq]) hF1 cv
  ·exfalso;apply h1;left;omega
 ·right
  have hi2:i=code.length:=by omega
  subst hi2
  rw[List.drop_length]at hw hW
  have hs1:s.length=1:=by
   unfold wrongL at hw
   split at hw
   ·omega
   ·omega
  obtain⟨v,rfl⟩:=List.length_eq_one_iff.1 hs1
  have e:=zxu (T:=T) hk P.f (fzs ls) c p lim ((n0+code.length:Nat):Int) F 1 code
  refine⟨endWB gk P.f (fzs ls) c p lim ((n0+code.length:Nat):Int) F 1,.inl ?_,e.1,e.2⟩
  have hR:walkR lim P ls (n0+code.length) [v] []=(v,0,0):=rfl
  rw[hR]at hW
  rw[←hW]
  have hFa:F[0]? = some (fz v):=by
   have:(F.take [v].length)[0]? = some (fz v):=by rw[hF];simp[fzs]
   rwa [List.getElem?_take,if_pos (by simp)]at this
  exact⟨rfl,gk,c,p,F,hk,hFa,hFl,rfl⟩
end
section
variable{T:Tbl}[CLimb T][CNat T][CProd T][CTwos T][CQuot T][CQuotD T][CWhole T][CCommon T][CFrac T][CFrac2 T][CFrac3 T][CFrac5 T][CPow T][CTape T][CGauge T][CEval T][CEval2 T][CTree T][CText T][CLenD T]
theorem zh2(P:Po)(lim:Nat)(hlim:lim≤4096)(ls:List Rat)(hP:PvS P 1000)(hls:∀q∈ls,sz q≤1000)(code:List Nd)(hl:code.length≤3000)(hok:∀x∈code,okN P.y.length P.p.length ls.length x=true)(hn:thin 1000 code)(hwr:wrongN code=-1)(n0:Nat)(hn0:n0≤10000)(s0 p0:Int)(F0:List Fz)(m0:Nat)(hF0:F0.length≤5000) :
  ∃(gk:Nat) (s p seen:Int) (F:List Fz) (m:Nat),(gk=3∨gk=8)∧((walkR lim P ls n0 [] code).2.1=0→seen=((n0+code.length:Nat):Int)∧F.length≤5000) ∧
   callH T 473 [wP,.sl (rowN code) .an] (hpB 3 P.f (fzs ls) s0 p0 lim n0 F0 m0)=some (.tup [efz (fz (walkR lim P ls n0 [] code).1),.agg [.i .i64 (walkR lim P ls n0 [] code).2.1,.i .i64 0,.i .i64 0,.i .i64 (walkR lim P ls n0 [] code).2.2]],hpB gk P.f (fzs ls) s p lim seen F m):=by
 obtain⟨r,hq,hlo⟩:=zod (T:=T) P lim hlim ls hP hls code hl hok hn hwr n0 hn0 s0 p0 F0 hF0
 have hst:=zfx lim P ls code n0 []
 have hat:=zfd lim P ls code n0 []
 generalize walkR lim P ls n0 [] code=R at *
 obtain⟨v,kind,at_⟩:=R
 dsimp only at *
 unfold stWB at hlo
 have he:hqB 3 P.f (fzs ls) s0 p0 lim n0 F0 0 (false,[],[]) 0 0 0 0=[(.bor 0,⟨0,.str,9,[[.b P.f.t.1,.sl (u32s P.f.t.2.1) .an,.sl (u32s P.f.t.2.2) .an,.sl (rowF P.f.y) .an,.sl (rowF P.f.p) .an,.bs (.bor 1) 1 3 0 (fzs ls).length,.ptr (.bor 2) 2 3 0 0,.i .i64 n0,.bs (.bor 3) 3 3 0 0]]⟩),(.bor 1,⟨1,.own,3,rowF (fzs ls)⟩),(.bor 2,bxG 2 s0 p0 lim),(.bor 3,⟨3,.own,3,rowF F0⟩),(.loc 4,⟨9,.str,3,[[.b false,.sl [] .an,.sl [] .an]]⟩),(.loc 5,⟨10,.str,4,[[.i .i64 0,.i .i64 0,.i .i64 0,.i .i64 0]]⟩)]:=rfl
 rw[he]at hlo
 clear he
 simp only[Int.natCast_zero]at hlo
 rcases hq with ⟨h0,gk,s,p,F,hk,hF,hFl,rfl⟩ | ⟨h0,gk,s,p,seen,F,m,hk,rfl⟩
 ·dsimp only at h0 hF
  subst h0
  refine⟨gk,s,p,_,F,1,hk,fun _=>⟨rfl,hFl⟩,?_⟩
  have ha:=hat rfl
  subst ha
  have hge:=(List.getElem?_eq_some_iff.1 hF).2
  have hlt:=(List.getElem?_eq_some_iff.1 hF).1
  unfold endWB at hlo
  generalize P.f=Q at *
  obtain⟨⟨q0,q1,q2⟩,qy,qp⟩:=Q
  generalize fzs ls=LS at *
  generalize fz v=V at *
  obtain⟨v0,v1,v2⟩:=V
  rw[f473 _ _ rfl,b473]
  clear hP hls hok hst hat hlim
  rcases hk with rfl | rfl
  ·simp -implicitDefEqProofs[hlo,hF,hge,hlt]
  ·simp -implicitDefEqProofs[hlo,hF,hge,hlt]
 ·dsimp only at h0
  refine⟨gk,s,p,seen,F,m,hk,fun h=>absurd h h0,?_⟩
  have hv:=hst h0
  subst hv
  unfold endSB at hlo
  dsimp only at hlo
  generalize P.f=Q at *
  obtain⟨⟨q0,q1,q2⟩,qy,qp⟩:=Q
  generalize fzs ls=LS at *
  generalize fz 0=V at *
  obtain⟨v0,v1,v2⟩:=V
  rw[f473 _ _ rfl,b473]
  clear hP hls hok hst hat hlim
  rcases hk with rfl | rfl
  ·simp -implicitDefEqProofs[hlo]
  ·simp -implicitDefEqProofs[hlo]
end
section
variable{T:Tbl}[CLimb T][CNat T][CProd T][CTwos T][CQuot T][CQuotD T][CWhole T][CCommon T][CFrac T][CFrac2 T][CFrac3 T][CFrac5 T][CPow T][CTape T][CGauge T][CEval T][CEval2 T][CTree T][CText T][CLenD T][CTree2 T][CJoin T][CLex T][CCheck T]
theorem zij(f:Fd)(x:PoF)(bits:Int)(h1:f.lets.length≤100000)(h2:f.outs.length≤100000)(hn:thinD 1000 50000 f)(hz:sizeD f≤4294967295)(hs:∀x∈f.lets,x.name.length≤100000)(q:Int×Int×Int)(hq:chkD f x.y.length x.p.length=some q) :
  callF T 467 [efd f,ept x,.i .i64 bits]=some (.tup [.sl [] .an,flt4 2 q.1 q.2.1 q.2.2]):=by
 have c:=zb8 (T:=T) f x.y.length x.p.length h1 h2 hn hz hs
 rw[hq]at c
 obtain⟨q1,q2,q3⟩:=q
 unfold fltC at c
 obtain⟨L,O⟩:=f
 obtain⟨⟨t0,t1,t2⟩,y,p⟩:=x
 dsimp only at *
 clear hq hn hz hs
 rw[f467 _ rfl,b467]
 simp -implicitDefEqProofs[c]
abbrev hpE(f:Fd)(gk:Nat)(Q:PoF)(LS:List Fz)(s p L seen:Int)(F:List Fz)(m:Nat):Heap:=
 [(.loc 3,bxFd 1 f),(.loc 7,⟨2,.str,4,[[.i .i64 0,.i .i64 0,.i .i64 0,.i .i64 0]]⟩),
  (.loc 36,⟨3,.str,9,[[.b Q.t.1,.sl (u32s Q.t.2.1) .an,.sl (u32s Q.t.2.2) .an,.sl (rowF Q.y) .an,.sl (rowF Q.p) .an,.bs ((BId.loc 36).fld 5) 4 3 0 LS.length,.ptr ((BId.loc 34).fld 7) 5 3 0 0,.i .i64 seen,.bs ((BId.loc 36).fld 8) gk 3 0 m]]⟩),
  ((BId.loc 36).fld 5,⟨4,.own,3,rowF LS⟩),((BId.loc 34).fld 7,bxG 5 s p L),((BId.loc 36).fld 8,⟨gk,.own,3,rowF F⟩)]
def stEL(f:Fd)(Q:PoF)(LS:List Fz)(s p L seen:Int)(F:List Fz)(m i:Nat):St:=
 ⟨[(3,.ptr (.loc 3) 1 2 0 0),(7,.ptr (.loc 7) 2 4 0 0),(9,.ptr (.loc 36) 3 9 0 0),(38,.sl (rowLt f.lets) .an),(39,.i .i64 f.lets.length),(40,.i .i64 i)],hpE f 6 Q LS s p L seen F m,8⟩
def endEL(f:Fd)(Q:PoF)(LS:List Fz)(s p L seen:Int)(F:List Fz)(m:Nat):Ex×St:=
 (.n,⟨[(3,.ptr (.loc 3) 1 2 0 0),(7,.ptr (.loc 7) 2 4 0 0),(9,.ptr (.loc 36) 3 9 0 0)],hpE f 6 Q LS s p L seen F m,8⟩)
def endEf(kind at_:Int):Ex×St:=
 (.r,⟨[(6,.sl [] .an),(7,.ptr (.loc 7) 1 4 0 0)],[(.loc 7,⟨1,.str,4,[[.i .i64 kind,.i .i64 0,.i .i64 0,.i .i64 at_]]⟩)],3⟩)
theorem zxw(f:Fd)(Q:PoF)(LS:List Fz)(s p L seen:Int)(F:List Fz)(m i:Nat)(hi:i<f.lets.length)(hf:f.lets.length≤10)(hLS:LS.length=i)(V:Fz)(gk:Nat)(s2 p2 seen2:Int)(F2:List Fz)(m2:Nat)(hk:gk=3∨gk=8)
  (c5:callH T 473 [wP,.sl (rowN (f.lets[i]'hi).code) .an] (hpB 3 Q LS s p L seen F m)=some (.tup [efz V,.agg [.i .i64 0,.i .i64 0,.i .i64 0,.i .i64 0]],hpB gk Q LS s2 p2 L seen2 F2 m2)) :
  evX (orc T) T 0 l467_0 (stEL f Q LS s p L seen F m i)=some (.n,stEL f Q (LS++[V]) s2 p2 L seen2 F2 m2 (i+1)):=by
 have hg:f.lets[i]? = some (f.lets[i]'hi):=List.getElem?_eq_getElem hi
 have hi':(i:Int)<f.lets.length:=by omega
 have hws:=za2 hi (by omega)
 have hp:=zfr LS V
 have hle:i+1≤4294967296:=by omega
 unfold stEL hpE bxFd
 simp only[hpB]at c5
 obtain⟨L0,O⟩:=f
 obtain⟨⟨q0,q1,q2⟩,qy,qp⟩:=Q
 obtain⟨v0,v1,v2⟩:=V
 dsimp only at *
 generalize hx:L0[i]'hi=x at *
 obtain⟨nm,code⟩:=x
 dsimp only at *
 rw[List.length_append]
 simp only[hLS]at c5 ⊢
 have ht:List.take i LS=LS:=by rw[←hLS,List.take_length]
 rcases hk with rfl | rfl
 ·simp -implicitDefEqProofs[l467_0,hi,hi',hg,hx,hws,c5,bxG,hLS,ht,hp,hle]
 ·simp -implicitDefEqProofs[l467_0,hi,hi',hg,hx,hws,c5,bxG,hLS,ht,hp,hle]
theorem z1r(f:Fd)(Q:PoF)(LS:List Fz)(s p L seen:Int)(F:List Fz)(m i:Nat)(hi:i<f.lets.length)(hf:f.lets.length≤10)(V:Fz)(gk:Nat)(s2 p2 seen2:Int)(F2:List Fz)(m2:Nat)(hk:gk=3∨gk=8)(kind at_:Int)(hne:kind≠0)
  (c5:callH T 473 [wP,.sl (rowN (f.lets[i]'hi).code) .an] (hpB 3 Q LS s p L seen F m)=some (.tup [efz V,.agg [.i .i64 kind,.i .i64 0,.i .i64 0,.i .i64 at_]],hpB gk Q LS s2 p2 L seen2 F2 m2)) :
  isEx (evX (orc T) T 0 l467_0 (stEL f Q LS s p L seen F m i))=true∧finX 0 0 (.norm false [3,7,9]) (evX (orc T) T 0 l467_0 (stEL f Q LS s p L seen F m i))=some (endEf kind at_):=by
 have hg:f.lets[i]? = some (f.lets[i]'hi):=List.getElem?_eq_getElem hi
 have hi':(i:Int)<f.lets.length:=by omega
 unfold stEL hpE bxFd endEf
 simp only[hpB]at c5
 obtain⟨L0,O⟩:=f
 obtain⟨⟨q0,q1,q2⟩,qy,qp⟩:=Q
 obtain⟨v0,v1,v2⟩:=V
 dsimp only at *
 generalize hx:L0[i]'hi=x at *
 obtain⟨nm,code⟩:=x
 dsimp only at *
 rcases hk with rfl | rfl
 ·constructor<;>simp -implicitDefEqProofs[l467_0,hi,hi',hg,hx,c5,bxG,hne]
 ·constructor<;>simp -implicitDefEqProofs[l467_0,hi,hi',hg,hx,c5,bxG,hne]
theorem z7a(f:Fd)(Q:PoF)(LS:List Fz)(s p L seen:Int)(F:List Fz)(m:Nat) :
  isEx (evX (orc T) T 0 l467_0 (stEL f Q LS s p L seen F m f.lets.length))=true∧finX 0 0 (.norm false [3,7,9]) (evX (orc T) T 0 l467_0 (stEL f Q LS s p L seen F m f.lets.length))=some (endEL f Q LS s p L seen F m):=by
 unfold stEL hpE bxFd endEL hpE bxFd
 obtain⟨L0,O⟩:=f
 obtain⟨⟨q0,q1,q2⟩,qy,qp⟩:=Q
 dsimp only at *
 constructor<;>simp -implicitDefEqProofs[l467_0,bxG]
abbrev hpO(gk:Nat)(Q:PoF)(LS:List Fz)(s p L seen:Int)(F:List Fz)(m:Nat)(OS:List Fz):Heap:=
 [(.loc 7,⟨1,.str,4,[[.i .i64 0,.i .i64 0,.i .i64 0,.i .i64 0]]⟩),
  (.loc 36,⟨2,.str,9,[[.b Q.t.1,.sl (u32s Q.t.2.1) .an,.sl (u32s Q.t.2.2) .an,.sl (rowF Q.y) .an,.sl (rowF Q.p) .an,.bs ((BId.loc 36).fld 5) 3 3 0 LS.length,.ptr ((BId.loc 34).fld 7) 4 3 0 0,.i .i64 seen,.bs ((BId.loc 36).fld 8) gk 3 0 m]]⟩),
  ((BId.loc 36).fld 5,⟨3,.own,3,rowF LS⟩),((BId.loc 34).fld 7,bxG 4 s p L),((BId.loc 36).fld 8,⟨gk,.own,3,rowF F⟩),(.loc 14,⟨6,.own,3,rowF OS⟩)]
def stEO(O:List (List Nd))(Q:PoF)(LS:List Fz)(s p L seen:Int)(F:List Fz)(m:Nat)(OS:List Fz)(i:Nat):St:=
 ⟨[(7,.ptr (.loc 7) 1 4 0 0),(9,.ptr (.loc 36) 2 9 0 0),(14,.bs (.loc 14) 6 3 0 OS.length),(67,.sl (rowC O) .an),(68,.i .i64 O.length),(69,.i .i64 i)],hpO 5 Q LS s p L seen F m OS,8⟩
def endEO(OS:List Fz):Ex×St:=
 (.n,⟨[(7,.ptr (.loc 7) 1 4 0 0),(14,.bs (.loc 14) 2 3 0 OS.length)],[(.loc 7,⟨1,.str,4,[[.i .i64 0,.i .i64 0,.i .i64 0,.i .i64 0]]⟩),(.loc 14,⟨2,.own,3,rowF OS⟩)],4⟩)
theorem zxx(O:List (List Nd))(Q:PoF)(LS:List Fz)(s p L seen:Int)(F:List Fz)(m:Nat)(OS:List Fz)(i:Nat)(hi:i<O.length)(hf:O.length≤10)(hLS:OS.length=i)(V:Fz)(gk:Nat)(s2 p2 seen2:Int)(F2:List Fz)(m2:Nat)(hk:gk=3∨gk=8)
  (c5:callH T 473 [wP,.sl (rowN (O[i]'hi)) .an] (hpB 3 Q LS s p L seen F m)=some (.tup [efz V,.agg [.i .i64 0,.i .i64 0,.i .i64 0,.i .i64 0]],hpB gk Q LS s2 p2 L seen2 F2 m2)) :
  evX (orc T) T 0 l467_1 (stEO O Q LS s p L seen F m OS i)=some (.n,stEO O Q LS s2 p2 L seen2 F2 m2 (OS++[V]) (i+1)):=by
 have hg:O[i]? = some (O[i]'hi):=List.getElem?_eq_getElem hi
 have hi':(i:Int)<O.length:=by omega
 have hws:=za2 hi (by omega)
 have hp:=zfr OS V
 have hle:i+1≤4294967296:=by omega
 unfold stEO hpO
 simp only[hpB]at c5
 obtain⟨⟨q0,q1,q2⟩,qy,qp⟩:=Q
 obtain⟨v0,v1,v2⟩:=V
 dsimp only at *
 generalize hx:O[i]'hi=x at *
 rw[List.length_append]
 simp only[hLS]at ⊢
 have ht:List.take i OS=OS:=by rw[←hLS,List.take_length]
 rcases hk with rfl | rfl
 ·simp -implicitDefEqProofs[l467_1,hi,hi',hg,hx,hws,c5,bxG,hLS,ht,hp,hle]
 ·simp -implicitDefEqProofs[l467_1,hi,hi',hg,hx,hws,c5,bxG,hLS,ht,hp,hle]
theorem z1s(O:List (List Nd))(Q:PoF)(LS:List Fz)(s p L seen:Int)(F:List Fz)(m:Nat)(OS:List Fz)(i:Nat)(hi:i<O.length)(hf:O.length≤10)(V:Fz)(gk:Nat)(s2 p2 seen2:Int)(F2:List Fz)(m2:Nat)(hk:gk=3∨gk=8)(kind at_:Int)(hne:kind≠0)
  (c5:callH T 473 [wP,.sl (rowN (O[i]'hi)) .an] (hpB 3 Q LS s p L seen F m)=some (.tup [efz V,.agg [.i .i64 kind,.i .i64 0,.i .i64 0,.i .i64 at_]],hpB gk Q LS s2 p2 L seen2 F2 m2)) :
  isEx (evX (orc T) T 0 l467_1 (stEO O Q LS s p L seen F m OS i))=true∧finX 0 2 (.norm false [7,14]) (evX (orc T) T 0 l467_1 (stEO O Q LS s p L seen F m OS i))=some (endEf kind at_):=by
 have hg:O[i]? = some (O[i]'hi):=List.getElem?_eq_getElem hi
 have hi':(i:Int)<O.length:=by omega
 unfold stEO hpO endEf
 simp only[hpB]at c5
 obtain⟨⟨q0,q1,q2⟩,qy,qp⟩:=Q
 obtain⟨v0,v1,v2⟩:=V
 dsimp only at *
 generalize hx:O[i]'hi=x at *
 rcases hk with rfl | rfl
 ·constructor<;>simp -implicitDefEqProofs[l467_1,hi,hi',hg,hx,c5,bxG,hne]
 ·constructor<;>simp -implicitDefEqProofs[l467_1,hi,hi',hg,hx,c5,bxG,hne]
theorem z7b(O:List (List Nd))(Q:PoF)(LS:List Fz)(s p L seen:Int)(F:List Fz)(m:Nat)(OS:List Fz) :
  isEx (evX (orc T) T 0 l467_1 (stEO O Q LS s p L seen F m OS O.length))=true∧finX 0 2 (.norm false [7,14]) (evX (orc T) T 0 l467_1 (stEO O Q LS s p L seen F m OS O.length))=some (endEO OS):=by
 unfold stEO hpO endEO
 obtain⟨⟨q0,q1,q2⟩,qy,qp⟩:=Q
 dsimp only at *
 constructor<;>simp -implicitDefEqProofs[l467_1,bxG]
theorem zmi(f:Fd)(x:PoF)(bits:Int)(hx:PoS x 1000)(h1:f.lets.length≤100000)(h2:f.outs.length≤100000)(hn:thinD 1000 50000 f)(hz:sizeD f≤4294967295)(hs:∀x∈f.lets,x.name.length≤100000)(hq:chkD f x.y.length x.p.length=none)
  (kind at_:Int) (hlo:loopN T 0 0 (.norm false [3,7,9]) l467_0 (stEL f x.v.f [] 0 0 (limI bits) 0 [] 0 0)=some (endEf kind at_)) :
  callF T 467 [efd f,ept x,.i .i64 bits]=some (.tup [.sl [] .an,flt4 kind 0 0 at_]):=by
 have c:=zb8 (T:=T) f x.y.length x.p.length h1 h2 hn hz hs
 rw[hq]at c
 unfold fltC at c
 have c2:=ze9 (T:=T) x hx
 have c4:=ze8 (T:=T) bits
 unfold stEL endEf hpE bxFd bxG at hlo
 generalize limI bits=LI at *
 generalize x.v.f=Q at *
 obtain⟨L,O⟩:=f
 obtain⟨⟨t0,t1,t2⟩,y,p⟩:=x
 obtain⟨⟨q0,q1,q2⟩,qy,qp⟩:=Q
 dsimp only at *
 clear hq hn hz hs hx
 rw[f467 _ rfl,b467]
 simp only[Int.natCast_zero,List.length_nil,zfh]at hlo
 simp -implicitDefEqProofs[c,c2,c4,hlo,bxG]
theorem zmj(f:Fd)(x:PoF)(bits:Int)(hx:PoS x 1000)(h1:f.lets.length≤100000)(h2:f.outs.length≤100000)(hn:thinD 1000 50000 f)(hz:sizeD f≤4294967295)(hs:∀x∈f.lets,x.name.length≤100000)(hq:chkD f x.y.length x.p.length=none)
  (LS:List Fz) (s p:Int) (seen:Int) (F:List Fz) (m:Nat) (hlo:loopN T 0 0 (.norm false [3,7,9]) l467_0 (stEL f x.v.f [] 0 0 (limI bits) 0 [] 0 0)=some (endEL f x.v.f LS s p (limI bits) seen F m))
  (kind at_:Int) (hl2:loopN T 0 2 (.norm false [7,14]) l467_1 (stEO f.outs x.v.f LS s p (limI bits) seen F m [] 0)=some (endEf kind at_)) :
  callF T 467 [efd f,ept x,.i .i64 bits]=some (.tup [.sl [] .an,flt4 kind 0 0 at_]):=by
 have c:=zb8 (T:=T) f x.y.length x.p.length h1 h2 hn hz hs
 rw[hq]at c
 unfold fltC at c
 have c2:=ze9 (T:=T) x hx
 have c4:=ze8 (T:=T) bits
 unfold stEL endEL hpE bxFd bxG at hlo
 unfold stEO endEf hpO bxG at hl2
 generalize limI bits=LI at *
 generalize x.v.f=Q at *
 obtain⟨L,O⟩:=f
 obtain⟨⟨t0,t1,t2⟩,y,p⟩:=x
 obtain⟨⟨q0,q1,q2⟩,qy,qp⟩:=Q
 dsimp only at *
 clear hq hn hz hs hx
 rw[f467 _ rfl,b467]
 simp only[Int.natCast_zero,List.length_nil,zfh]at hlo hl2
 simp -implicitDefEqProofs[c,c2,c4,hlo,hl2,bxG]
theorem zmk(f:Fd)(x:PoF)(bits:Int)(hx:PoS x 1000)(h1:f.lets.length≤100000)(h2:f.outs.length≤100000)(hn:thinD 1000 50000 f)(hz:sizeD f≤4294967295)(hs:∀x∈f.lets,x.name.length≤100000)(hq:chkD f x.y.length x.p.length=none)
  (LS:List Fz) (s p:Int) (seen:Int) (F:List Fz) (m:Nat) (hlo:loopN T 0 0 (.norm false [3,7,9]) l467_0 (stEL f x.v.f [] 0 0 (limI bits) 0 [] 0 0)=some (endEL f x.v.f LS s p (limI bits) seen F m))
  (OS:List Fz) (hl2:loopN T 0 2 (.norm false [7,14]) l467_1 (stEO f.outs x.v.f LS s p (limI bits) seen F m [] 0)=some (endEO OS)) :
  callF T 467 [efd f,ept x,.i .i64 bits]=some (.tup [.sl (rowF OS) .an,flt4 0 0 0 0]):=by
 have c:=zb8 (T:=T) f x.y.length x.p.length h1 h2 hn hz hs
 rw[hq]at c
 unfold fltC at c
 have c2:=ze9 (T:=T) x hx
 have c4:=ze8 (T:=T) bits
 unfold stEL endEL hpE bxFd bxG at hlo
 unfold stEO endEO hpO bxG at hl2
 generalize limI bits=LI at *
 generalize x.v.f=Q at *
 obtain⟨L,O⟩:=f
 obtain⟨⟨t0,t1,t2⟩,y,p⟩:=x
 obtain⟨⟨q0,q1,q2⟩,qy,qp⟩:=Q
 dsimp only at *
 clear hq hn hz hs hx
 rw[f467 _ rfl,b467]
 simp only[Int.natCast_zero,List.length_nil,zfh]at hlo hl2
 simp -implicitDefEqProofs[c,c2,c4,hlo,hl2,bxG]
end
def sumC(l:List (List Nd)):Nat:=(l.map List.length).sum
@[simp] theorem zml(c:List Nd)(l:List (List Nd)):sumC (c::l)=c.length+sumC l:=rfl
theorem z1t{lim:Nat}(hlim:lim≤4096){P:Po}{ls:List Rat}{dim pars lets:Int}{c:List Nd}{n:Nat}(h:placeN dim pars lets c<0)(h0:(walkR lim P ls n [] c).2.1=0):sz (walkR lim P ls n [] c).1≤1000:=by
 obtain⟨t,ht,rfl,_⟩:=zbt h
 rw[zh7 _ _ _ _ ht]at h0 ⊢
 have:=zqn hlim (zwk h0).2
 omega
section
variable{T:Tbl}[CLimb T][CNat T][CProd T][CTwos T][CQuot T][CQuotD T][CWhole T][CCommon T][CFrac T][CFrac2 T][CFrac3 T][CFrac5 T][CPow T][CTape T][CGauge T][CEval T][CEval2 T][CTree T][CText T][CLenD T][CTree2 T][CJoin T][CLex T][CCheck T]
theorem z1u(f:Fd)(P:Po)(lim:Nat)(hlim:lim≤4096)(hP:PvS P 1000)(hF:FineD f P.y.length P.p.length)(hn:thinD 1000 50000 f) :
  ∃r,(((evLt lim P 0 [] (f.lets.map (·.code))).2.2.1=0∧∃s p F m,F.length≤5000∧(evLt lim P 0 [] (f.lets.map (·.code))).2.1.length=f.lets.length∧(∀q∈(evLt lim P 0 [] (f.lets.map (·.code))).2.1,sz q≤1000)∧(evLt lim P 0 [] (f.lets.map (·.code))).1≤sumC (f.lets.map (·.code)) ∧
    r=endEL f P.f (fzs (evLt lim P 0 [] (f.lets.map (·.code))).2.1) s p lim ((evLt lim P 0 [] (f.lets.map (·.code))).1:Nat) F m) ∨
   ((evLt lim P 0 [] (f.lets.map (·.code))).2.2.1≠0∧r=endEf (evLt lim P 0 [] (f.lets.map (·.code))).2.2.1 (evLt lim P 0 [] (f.lets.map (·.code))).2.2.2)) ∧
   loopN T 0 0 (.norm false [3,7,9]) l467_0 (stEL f P.f [] 0 0 lim 0 [] 0 0)=some r:=by
 refine zat (fun q:Nat×List Rat×Nat×(Int×Int)×List Fz×Nat=>stEL f P.f (fzs q.2.1) q.2.2.2.1.1 q.2.2.2.1.2 lim (q.2.2.1:Nat) q.2.2.2.2.1 q.2.2.2.2.2 q.1)
  (fun q=>q.1≤f.lets.length∧q.2.1.length=q.1∧(∀u∈q.2.1,sz u≤1000)∧q.2.2.2.2.1.length≤5000∧q.2.2.1+sumC ((f.lets.drop q.1).map (·.code))≤sumC (f.lets.map (·.code))∧evLt lim P q.2.2.1 q.2.1 ((f.lets.drop q.1).map (·.code))=evLt lim P 0 [] (f.lets.map (·.code)))
  (fun q=>f.lets.length-q.1) _ ?_ (0,[],0,(0,0),[],0) ⟨Nat.zero_le _,rfl,by simp,by simp,by simp,rfl⟩
 rintro⟨i,ls,n0,⟨s,p⟩,F,m⟩ ⟨hi,hls,hsz,hFl,hsum,hev⟩
 dsimp only at *
 obtain⟨w1,w2,w3,w4,w5,w6,w7⟩:=hF.wh
 have hS:sumC (f.lets.map (·.code))≤300:=by
  have:sizeD f=sumC (f.lets.map (·.code))+sumC f.outs:=by unfold sizeD codesD sumC;rw[List.map_append,List.sum_append]
  omega
 by_cases hlt:i<f.lets.length
 ·have hd:f.lets.drop i=f.lets[i]'hlt::f.lets.drop (i+1):=List.drop_eq_getElem_cons hlt
  have hpl:=hF.lets i _ (List.getElem?_eq_getElem hlt)
  have hth:=hn (f.lets[i]'hlt).code (List.mem_append.2 (.inl (List.mem_map.2 ⟨_,List.getElem_mem hlt,rfl⟩)))
  rw[hd,List.map_cons,zml]at hsum
  rw[hd,List.map_cons,evLt]at hev
  obtain⟨t,ht,ee,hok⟩:=zbt hpl
  obtain⟨gk,s2,p2,seen2,F2,m2,hk,h5a,c5⟩:=zh2 (T:=T) P lim hlim ls hP hsz (f.lets[i]'hlt).code (by omega) (by rw[hls];exact hok) hth.2 (by rw[←ee];exact zdo ht) n0 (by omega) s p F m hFl
  by_cases h0:(walkR lim P ls n0 [] (f.lets[i]'hlt).code).2.1=0
  ·left
   have hat:=zfd lim P ls _ _ _ h0
   have hsv:=z1t hlim hpl h0
   rw[if_neg (by simpa using h0)]at hev
   obtain⟨h5b,h5c⟩:=h5a h0
   rw[h0,hat]at c5
   have:=zxw (T:=T) f P.f (fzs ls) s p lim (n0:Nat) F m i hlt w6 (by rw[za1];exact hls) _ gk s2 p2 seen2 F2 m2 hk c5
   refine⟨(i+1,ls++[(walkR lim P ls n0 [] (f.lets[i]'hlt).code).1],n0+(f.lets[i]'hlt).code.length,(s2,p2),F2,m2),⟨by dsimp only;omega,by simp[hls],?_,h5c,by dsimp only;omega,hev⟩,by dsimp only;omega,?_⟩
   ·intro u hu
    rcases List.mem_append.1 hu with hu | hu
    ·exact hsz u hu
    ·rw[List.mem_singleton.1 hu];exact hsv
   ·rw[this,h5b]
    simp[fzs]
  ·right
   rw[if_pos h0]at hev
   rw[←hev]
   have hk0:((walkR lim P ls n0 [] (f.lets[i]'hlt).code).2.1:Int)≠0:=by omega
   exact⟨_,.inr ⟨h0,rfl⟩,z1r (T:=T) f P.f (fzs ls) s p lim (n0:Nat) F m i hlt w6 _ gk s2 p2 seen2 F2 m2 hk _ _ hk0 c5⟩
 ·right
  have hil:i=f.lets.length:=by omega
  subst hil
  rw[List.drop_length,List.map_nil,evLt]at hev
  rw[←hev]
  rw[List.drop_length,List.map_nil]at hsum
  exact⟨_,.inl ⟨rfl,s,p,F,m,hFl,hls,hsz,by have:sumC []=0:=rfl;dsimp only;omega,rfl⟩,z7a (T:=T) f P.f (fzs ls) s p lim (n0:Nat) F m⟩
theorem z1v(f:Fd)(P:Po)(lim:Nat)(hlim:lim≤4096)(hP:PvS P 1000)(hF:FineD f P.y.length P.p.length)(hn:thinD 1000 50000 f)(ls:List Rat)(hll:ls.length=f.lets.length)(hls:∀q∈ls,sz q≤1000)(n0:Nat)(hn0:n0≤300)(s p:Int)(F:List Fz)(m:Nat)(hFl:F.length≤5000) :
  ∃r,(((evOu lim P ls n0 [] f.outs).2.1=0∧r=endEO (fzs (evOu lim P ls n0 [] f.outs).1)) ∨
   ((evOu lim P ls n0 [] f.outs).2.1≠0∧(evOu lim P ls n0 [] f.outs).1=[]∧r=endEf (evOu lim P ls n0 [] f.outs).2.1 (evOu lim P ls n0 [] f.outs).2.2)) ∧
   loopN T 0 2 (.norm false [7,14]) l467_1 (stEO f.outs P.f (fzs ls) s p lim (n0:Nat) F m [] 0)=some r:=by
 refine zat (fun q:Nat×List Rat×Nat×(Int×Int)×List Fz×Nat=>stEO f.outs P.f (fzs ls) q.2.2.2.1.1 q.2.2.2.1.2 lim (q.2.2.1:Nat) q.2.2.2.2.1 q.2.2.2.2.2 (fzs q.2.1) q.1)
  (fun q=>q.1≤f.outs.length∧q.2.1.length=q.1∧q.2.2.2.2.1.length≤5000∧q.2.2.1+sumC (f.outs.drop q.1)≤n0+sumC f.outs∧evOu lim P ls q.2.2.1 q.2.1 (f.outs.drop q.1)=evOu lim P ls n0 [] f.outs)
  (fun q=>f.outs.length-q.1) _ ?_ (0,[],n0,(s,p),F,m) ⟨Nat.zero_le _,rfl,hFl,by simp,rfl⟩
 rintro⟨i,os,n1,⟨s,p⟩,F,m⟩ ⟨hi,hos,hFl,hsum,hev⟩
 dsimp only at *
 obtain⟨w1,w2,w3,w4,w5,w6,w7⟩:=hF.wh
 have hS:sumC f.outs≤300:=by
  have:sizeD f=sumC (f.lets.map (·.code))+sumC f.outs:=by unfold sizeD codesD sumC;rw[List.map_append,List.sum_append]
  omega
 by_cases hlt:i<f.outs.length
 ·have hd:f.outs.drop i=f.outs[i]'hlt::f.outs.drop (i+1):=List.drop_eq_getElem_cons hlt
  have hpl:=hF.outs _ (List.getElem_mem hlt)
  have hth:=hn (f.outs[i]'hlt) (List.mem_append.2 (.inr (List.getElem_mem hlt)))
  rw[hd,zml]at hsum
  rw[hd,evOu]at hev
  obtain⟨t,ht,ee,hok⟩:=zbt hpl
  obtain⟨gk,s2,p2,seen2,F2,m2,hk,h5a,c5⟩:=zh2 (T:=T) P lim hlim ls hP hls (f.outs[i]'hlt) (by omega) (by rw[hll];exact hok) hth.2 (by rw[←ee];exact zdo ht) n1 (by omega) s p F m hFl
  by_cases h0:(walkR lim P ls n1 [] (f.outs[i]'hlt)).2.1=0
  ·left
   have hat:=zfd lim P ls _ _ _ h0
   rw[if_neg (by simpa using h0)]at hev
   obtain⟨h5b,h5c⟩:=h5a h0
   rw[h0,hat]at c5
   have:=zxx (T:=T) f.outs P.f (fzs ls) s p lim (n1:Nat) F m (fzs os) i hlt (by omega) (by rw[za1];exact hos) _ gk s2 p2 seen2 F2 m2 hk c5
   refine⟨(i+1,os++[(walkR lim P ls n1 [] (f.outs[i]'hlt)).1],n1+(f.outs[i]'hlt).length,(s2,p2),F2,m2),⟨by dsimp only;omega,by simp[hos],h5c,by dsimp only;omega,hev⟩,by dsimp only;omega,?_⟩
   rw[this,h5b]
   simp[fzs]
  ·right
   rw[if_pos h0]at hev
   rw[←hev]
   have hk0:((walkR lim P ls n1 [] (f.outs[i]'hlt)).2.1:Int)≠0:=by omega
   exact⟨_,.inr ⟨h0,rfl,rfl⟩,z1s (T:=T) f.outs P.f (fzs ls) s p lim (n1:Nat) F m (fzs os) i hlt (by omega) _ gk s2 p2 seen2 F2 m2 hk _ _ hk0 c5⟩
 ·right
  have hil:i=f.outs.length:=by omega
  subst hil
  rw[List.drop_length,evOu]at hev
  rw[←hev]
  exact⟨_,.inl ⟨rfl,rfl⟩,z7b (T:=T) f.outs P.f (fzs ls) s p lim (n1:Nat) F m (fzs os)⟩
theorem zkf(f:Fd)(x:PoF)(bits:Int)(hx:PoS x 1000)(h1:f.lets.length≤100000)(h2:f.outs.length≤100000)(hn:thinD 1000 50000 f)(hz:sizeD f≤4294967295)(hs:∀x∈f.lets,x.name.length≤100000)(hq:chkD f x.y.length x.p.length=none) :
  callF T 467 [efd f,ept x,.i .i64 bits]=some (.tup [.sl (rowF (fzs (evD (limI bits).toNat x.v f).1)) .an,flt4 (evD (limI bits).toNat x.v f).2.1 0 0 (evD (limI bits).toNat x.v f).2.2]):=by
 obtain⟨hl1,hl2⟩:=zje bits
 have hyl:x.v.y.length=x.y.length:=by simp[PoF.v]
 have hpl:x.v.p.length=x.p.length:=by simp[PoF.v]
 have hF:=zff hq
 rw[←hyl,←hpl]at hF
 have hfz:fzs []=[]:=rfl
 obtain⟨r,hr,hlo⟩:=z1u (T:=T) f x.v (limI bits).toNat hl2 (zoe hx) hF hn
 rw[hl1]at hlo hr
 unfold evD
 rcases hr with ⟨h0,s,p,F,m,hFl,hll,hls,hn0,rfl⟩ | ⟨h0,rfl⟩
 ·rw[if_neg (by simpa using h0)]
  have hS:sumC (f.lets.map (·.code))≤300:=by
   have:sizeD f=sumC (f.lets.map (·.code))+sumC f.outs:=by unfold sizeD codesD sumC;rw[List.map_append,List.sum_append]
   have:=hF.wh.2.2.2.2.2.2
   omega
  obtain⟨r2,hr2,hlo2⟩:=z1v (T:=T) f x.v (limI bits).toNat hl2 (zoe hx) hF hn _ hll hls _ (Nat.le_trans hn0 hS) s p F m hFl
  rw[hl1]at hlo2
  rcases hr2 with ⟨g0,rfl⟩ | ⟨g0,g1,rfl⟩
  ·have:=zmk (T:=T) f x bits hx h1 h2 hn hz hs hq _ s p _ F m hlo _ hlo2
   rw[this,g0]
   have hat:(evOu (limI bits).toNat x.v (evLt (limI bits).toNat x.v 0 [] (f.lets.map (·.code))).2.1 (evLt (limI bits).toNat x.v 0 [] (f.lets.map (·.code))).1 [] f.outs).2.2=0:=by
    clear hlo2 hlo this
    generalize (evLt (limI bits).toNat x.v 0 [] (f.lets.map (·.code))).2.1=ls at *
    generalize (evLt (limI bits).toNat x.v 0 [] (f.lets.map (·.code))).1=n at *
    generalize f.outs=O at *
    have:∀(O:List (List Nd)) (n:Nat) (os:List Rat),(evOu (limI bits).toNat x.v ls n os O).2.1=0→(evOu (limI bits).toNat x.v ls n os O).2.2=0:=by
     intro O
     induction O with
     | nil=>intro n os h;rfl
     | cons c r ih=>
      intro n os h
      unfold evOu at h ⊢
      split
      ·next hh=>rw[if_pos hh]at h;exact absurd h hh
      ·next hh=>rw[if_neg hh]at h;exact ih _ _ h
    exact this _ _ _ g0
   rw[hat]
   rfl
  ·have:=zmj (T:=T) f x bits hx h1 h2 hn hz hs hq _ s p _ F m hlo _ _ hlo2
   rw[this,g1]
   rfl
 ·rw[if_pos h0]
  have:=zmi (T:=T) f x bits hx h1 h2 hn hz hs hq _ _ hlo
  rw[this,hfz]
  rfl
end
section
variable{T:Tbl}[CRef17 T]
def stWq(l:List Nd)(p:Nat×Int):St:=⟨[(0,.sl (rowN l) .an),(3,.i .i64 p.2),(4,.i .i64 p.1)],[],2⟩
def longN(l:List Nd)(many words:Int):Bool:=decide (many<l.length) || (l.take many.toNat).any fun x=>decide (words<x.n.length)
theorem zjo(l:List Nd)(many words:Nat)(hl:l.length≤4294967296∨many≤4294967295)(hm:many≤4294967295):callF T 10 [.sl (rowN l) .an,.i .i64 many,.i .i64 words]=some (.b (decide (many<l.length) || (l.take many).any fun x=>decide (words<x.n.length))):=by
 have hlo:loopN T 0 0 (.norm false [0,1]) l10_0 ⟨[(0,.sl (rowN l) .an),(1,.i .i64 many),(2,.i .i64 words),(7,.i .i64 ((0:Nat):Int))],[],2⟩ =
   if ((l.take many).drop 0).any (fun x=>decide (words<x.n.length))=true then some (.r,⟨[(6,.b true)],[],2⟩) else some (.n,⟨[(0,.sl (rowN l) .an),(1,.i .i64 many)],[],2⟩):=by
  refine za0 (fun i=>⟨[(0,.sl (rowN l) .an),(1,.i .i64 many),(2,.i .i64 words),(7,.i .i64 ((i:Nat):Int))],[],2⟩) (l.take many).length
   (fun i=>if ((l.take many).drop i).any (fun x=>decide (words<x.n.length))=true then some (.r,_) else some (.n,_)) (fun i hi=>?_) ?_
  ·have hi1:=hi
   rw[List.length_take]at hi1
   have h:i<l.length:=by omega
   have h':(i:Int)<l.length:=by omega
   have h2:i<many:=by omega
   have h2':(i:Int)<many:=by omega
   have hg:l[i]? = some (l[i]'h):=List.getElem?_eq_getElem h
   have hd:(l.take many).drop i=(l.take many)[i]'hi::(l.take many).drop (i+1):=List.drop_eq_getElem_cons hi
   have hx2:(l.take many)[i]'hi=l[i]'h:=by simp
   rw[hx2]at hd
   have hws:=za2 h2 (by omega)
   generalize hx:l[i]'h=x at *
   by_cases hc:words<x.n.length
   ·right
    rw[if_pos (by rw[hd];simp[hc])]
    have hc':(words:Int)<x.n.length:=by omega
    clear hd
    constructor<;>simp -implicitDefEqProofs[l10_0,h,h',h2,h2',hg,hx,hc,hc']
   ·left
    have hc':¬ (words:Int)<x.n.length:=by omega
    refine⟨?_,by rw[hd];simp[hc]⟩
    clear hd
    simp -implicitDefEqProofs[l10_0,h,h',h2,h2',hg,hx,hc,hc',hws]
  ·rw[List.drop_length,List.length_take]
   simp only[List.any_nil,Bool.false_eq_true,if_false]
   by_cases h:l.length≤many
   ·rw[Nat.min_eq_right h]
    constructor<;>simp -implicitDefEqProofs[l10_0]
   ·rw[Nat.min_eq_left (by omega)]
    have h2:many<l.length:=by omega
    have h2':(many:Int)<l.length:=by omega
    constructor<;>simp -implicitDefEqProofs[l10_0,h2,h2']
 rw[List.drop_zero]at hlo
 simp only[Int.natCast_zero]at hlo
 rw[f10 _ rfl,b10]
 generalize (l.take many).any (fun x=>decide (words<x.n.length))=B at *
 cases B with
 | true=>
  rw[if_pos rfl]at hlo
  simp -implicitDefEqProofs[hlo]
 | false=>
  rw[if_neg (by decide)]at hlo
  by_cases h:many<l.length
  ·have h':(many:Int)<l.length:=by omega
   simp -implicitDefEqProofs[hlo,h,h']
  ·have h':¬ (many:Int)<l.length:=by omega
   simp -implicitDefEqProofs[hlo,h,h']
variable[CRef02 T][CRef04 T][CRef05 T][CRef07 T]
def stPq(l:List Nd)(dim pars lets w:Int)(i:Nat):St:=⟨[(0,.sl (rowN l) .an),(1,.i .i64 dim),(2,.i .i64 pars),(3,.i .i64 lets),(9,.i .i64 w),(10,.i .i64 i)],[],2⟩
end
section
variable{T:Tbl}[CRef17 T]
def Tre.parts:Tre→List (List Nd)
 | .leaf _=>[]
 | .un _ a=>[a.flat]
 | .bin _ a b=>[a.flat,b.flat]
end
def lgN(l:List Nd)(many words:Nat):Bool:=decide (many<l.length) || (l.take many).any fun x=>decide (words<x.n.length)
def lgL(nodes words:Nat)(x:Lt):Bool:=decide (100<x.name.length) || lgN x.code nodes words
def lgF(f:Fd)(many nodes words:Nat):Bool:=decide (many<f.lets.length) || decide (many<f.outs.length) || f.lets.any (lgL nodes words) || f.outs.any fun c=>lgN c nodes words
section
variable{T:Tbl}[CRef17 T][CRef19 T]
def stG0(f:Fd)(nodes words i:Nat):St:=⟨[(2,.i .i64 nodes),(3,.i .i64 words),(4,.ptr (.loc 4) 1 2 0 0),(9,.i .i64 i)],[(.loc 4,⟨1,.str,2,[[.sl (rowLt f.lets) .an,.sl (rowC f.outs) .an]]⟩)],3⟩
def stG1(f:Fd)(nodes words i:Nat):St:=⟨[(2,.i .i64 nodes),(3,.i .i64 words),(4,.ptr (.loc 4) 1 2 0 0),(10,.i .i64 i)],[(.loc 4,⟨1,.str,2,[[.sl (rowLt f.lets) .an,.sl (rowC f.outs) .an]]⟩)],3⟩
theorem zv0(f:Fd)(nodes words:Nat)(hnd:nodes≤4294967295)(hl:f.lets.length≤100000) :
  loopN T 0 0 (.norm false [2,3,4]) l466_0 (stG0 f nodes words 0)=if f.lets.any (lgL nodes words)=true then some (.r,⟨[(8,.b true)],[],2⟩) else some (.n,⟨[(2,.i .i64 nodes),(3,.i .i64 words),(4,.ptr (.loc 4) 1 2 0 0)],[(.loc 4,⟨1,.str,2,[[.sl (rowLt f.lets) .an,.sl (rowC f.outs) .an]]⟩)],3⟩):=by
 have:=za0 (T:=T) (k:=0) (id:=0) (g2:=.norm false [2,3,4]) (c:=l466_0) (stG0 f nodes words) f.lets.length
  (fun i=>if (f.lets.drop i).any (lgL nodes words)=true then some (.r,⟨[(8,.b true)],[],2⟩) else some (.n,⟨[(2,.i .i64 nodes),(3,.i .i64 words),(4,.ptr (.loc 4) 1 2 0 0)],[(.loc 4,⟨1,.str,2,[[.sl (rowLt f.lets) .an,.sl (rowC f.outs) .an]]⟩)],3⟩)) (fun i hi=>?_) ?_
 ·simpa using this
 ·have hg:f.lets[i]? = some (f.lets[i]'hi):=List.getElem?_eq_getElem hi
  have hd:f.lets.drop i=f.lets[i]'hi::f.lets.drop (i+1):=List.drop_eq_getElem_cons hi
  have hi':(i:Int)<f.lets.length:=by omega
  have hws:=za2 hi (by omega)
  have c:=zjo (T:=T) (f.lets[i]'hi).code nodes words (.inr hnd) hnd
  rw[hd,List.any_cons]
  unfold stG0
  obtain⟨L,O⟩:=f
  dsimp only at *
  clear hd
  generalize hx:L[i]'hi=x at *
  obtain⟨nm,code⟩:=x
  dsimp only at *
  unfold lgL
  dsimp only
  change callF T 10 _=some (.b (lgN code nodes words)) at c
  generalize lgN code nodes words=B at *
  by_cases h1:100<nm.length
  ·right
   have h1':(100:Int)<nm.length:=by omega
   rw[if_pos (by simp[h1])]
   constructor<;>simp -implicitDefEqProofs[l466_0,hi,hi',hg,hx,h1,h1']
  ·have h1':¬ (100:Int)<nm.length:=by omega
   cases B with
   | true=>
    right
    rw[if_pos (by simp)]
    constructor<;>simp -implicitDefEqProofs[l466_0,hi,hi',hg,hx,h1,h1',c]
   | false=>
    left
    refine⟨?_,by simp[h1]⟩
    simp -implicitDefEqProofs[l466_0,hi,hi',hg,hx,h1,h1',c,hws]
 ·rw[List.drop_length,List.any_nil,if_neg (by decide)]
  unfold stG0
  constructor<;>simp -implicitDefEqProofs[l466_0]
theorem zv1(f:Fd)(nodes words:Nat)(hnd:nodes≤4294967295)(hl:f.outs.length≤100000) :
  loopN T 0 2 (.norm false []) l466_1 (stG1 f nodes words 0)=if f.outs.any (fun c=>lgN c nodes words)=true then some (.r,⟨[(8,.b true)],[],2⟩) else some (.n,⟨[],[],2⟩):=by
 have:=za0 (T:=T) (k:=0) (id:=2) (g2:=.norm false []) (c:=l466_1) (stG1 f nodes words) f.outs.length
  (fun i=>if (f.outs.drop i).any (fun c=>lgN c nodes words)=true then some (.r,⟨[(8,.b true)],[],2⟩) else some (.n,⟨[],[],2⟩)) (fun i hi=>?_) ?_
 ·simpa using this
 ·have hg:f.outs[i]? = some (f.outs[i]'hi):=List.getElem?_eq_getElem hi
  have hd:f.outs.drop i=f.outs[i]'hi::f.outs.drop (i+1):=List.drop_eq_getElem_cons hi
  have hi':(i:Int)<f.outs.length:=by omega
  have hws:=za2 hi (by omega)
  have c:=zjo (T:=T) (f.outs[i]'hi) nodes words (.inr hnd) hnd
  rw[hd,List.any_cons]
  unfold stG1
  obtain⟨L,O⟩:=f
  dsimp only at *
  clear hd
  generalize hx:O[i]'hi=code at *
  change callF T 10 _=some (.b (lgN code nodes words)) at c
  generalize lgN code nodes words=B at *
  cases B with
  | true=>
   right
   rw[if_pos (by simp)]
   constructor<;>simp -implicitDefEqProofs[l466_1,hi,hi',hg,hx,c]
  | false=>
   left
   refine⟨?_,by simp⟩
   simp -implicitDefEqProofs[l466_1,hi,hi',hg,hx,c,hws]
 ·rw[List.drop_length,List.any_nil,if_neg (by decide)]
  unfold stG1
  constructor<;>simp -implicitDefEqProofs[l466_1]
theorem zow(f:Fd)(many nodes words:Nat)(hm:many≤100000)(hnd:nodes≤4294967295):callF T 466 [efd f,.i .i64 many,.i .i64 nodes,.i .i64 words]=some (.b (lgF f many nodes words)):=by
 unfold lgF
 by_cases h1:many<f.lets.length
 ·obtain⟨L,O⟩:=f
  dsimp only at *
  have h1':(many:Int)<L.length:=by omega
  rw[f466 _ rfl,b466]
  simp -implicitDefEqProofs[h1,h1']
 by_cases h2:many<f.outs.length
 ·obtain⟨L,O⟩:=f
  dsimp only at *
  have h1':¬ (many:Int)<L.length:=by omega
  have h2':(many:Int)<O.length:=by omega
  rw[f466 _ rfl,b466]
  simp -implicitDefEqProofs[h1,h1',h2,h2']
 have a:=zv0 (T:=T) f nodes words hnd (by omega)
 have b:=zv1 (T:=T) f nodes words hnd (by omega)
 unfold stG0 at a
 unfold stG1 at b
 obtain⟨L,O⟩:=f
 dsimp only at *
 have h1':¬ (many:Int)<L.length:=by omega
 have h2':¬ (many:Int)<O.length:=by omega
 simp only[Int.natCast_zero]at a b
 rw[f466 _ rfl,b466]
 generalize L.any (lgL nodes words)=A at *
 generalize (O.any fun c=>lgN c nodes words)=B at *
 cases A with
 | true=>
  rw[if_pos rfl]at a
  simp -implicitDefEqProofs[h1,h1',h2,h2',a]
 | false=>
  rw[if_neg (by decide)]at a
  cases B with
  | true=>
   rw[if_pos rfl]at b
   simp -implicitDefEqProofs[h1,h1',h2,h2',a,b]
  | false=>
   rw[if_neg (by decide)]at b
   simp -implicitDefEqProofs[h1,h1',h2,h2',a,b]
end
theorem zm6{l:List Nd}{many words:Nat}(h:lgN l many words=false):l.length≤many∧thin words l:=by
 unfold lgN at h
 have h1:l.length≤many:=by
  simp only[Bool.or_eq_false_iff,decide_eq_false_iff_not]at h
  omega
 refine⟨h1,fun x hx=>?_⟩
 rw[List.take_of_length_le h1]at h
 simp only[Bool.or_eq_false_iff,List.any_eq_false,decide_eq_true_eq]at h
 have:=h.2 x hx
 omega
theorem zwp{f:Fd}{many nodes words:Nat}(h:lgF f many nodes words=false):f.lets.length≤many∧f.outs.length≤many∧(∀x∈f.lets,x.name.length≤100)∧∀c∈codesD f,c.length≤nodes∧thin words c:=by
 unfold lgF at h
 simp only[Bool.or_eq_false_iff,decide_eq_false_iff_not,List.any_eq_false]at h
 obtain⟨⟨⟨h1,h2⟩,h3⟩,h4⟩:=h
 refine⟨by omega,by omega,fun x hx=>?_,fun c hc=>?_⟩
 ·have:=h3 x hx
  unfold lgL at this
  simp only[Bool.or_eq_true,decide_eq_true_eq,not_or]at this
  omega
 ·rcases List.mem_append.1 hc with hc | hc
  ·obtain⟨x,hx,rfl⟩:=List.mem_map.1 hc
   have:=h3 x hx
   unfold lgL at this
   simp only[Bool.or_eq_true,not_or,Bool.not_eq_true]at this
   exact zm6 this.2
  ·have:=h4 c hc
   simp only[Bool.not_eq_true]at this
   exact zm6 this
theorem zsu{l:List (List Nd)}{B:Nat}(h:∀c∈l,c.length≤B):(l.map List.length).sum≤l.length*B:=by
 induction l with
 | nil=>simp
 | cons c r ih=>
  have h1:=h c (by simp)
  have h2:=ih fun d hd=>h d (by simp[hd])
  rw[List.map_cons,List.sum_cons,List.length_cons,Nat.succ_mul]
  omega
section
variable{T:Tbl}[CLimb T][CNat T][CProd T][CTwos T][CQuot T][CQuotD T][CWhole T][CCommon T][CFrac T][CFrac2 T][CFrac3 T][CFrac5 T][CPow T][CTape T][CGauge T][CEval T][CEval2 T][CTree T][CText T][CLenD T][CTree2 T][CJoin T][CLex T][CCheck T][CPlain T][CLaw22 T][CLaw24 T]
 [CLaw21 T] [CRef17 T] [CRef19 T] [CRef02 T] [CRef04 T] [CRef05 T] [CRef07 T] [CRef06 T] [CRef08 T] [CRef09 T] [CRef11 T] [CLaw09 T] [CLaw11 T] [CLaw17 T] [CRow5 T] [CSameF T]
theorem zr1(f:Fd)(x:PoF):callF T 670 [efd f,ept x]=some (.b true):=by
 have hw:=zok (T:=T)
 have cl:=zow (T:=T) f 6 12 4 (by decide) (by decide)
 have cl2:=zr2 (T:=T) x 6 2 (by decide)
 simp only[Int.cast_ofNat_Int]at cl cl2
 cases hL:lgF f 6 12 4 with
 | true=>
  rw[hL]at cl
  obtain⟨L,O⟩:=f
  obtain⟨⟨x0,x1,x2⟩,xy,xp⟩:=x
  rw[f670 _ rfl,b670]
  simp -implicitDefEqProofs[hw,cl]
 | false=>
 rw[hL]at cl
 obtain⟨g1,g2,g3,g4⟩:=zwp hL
 clear hL
 cases hP:longP x 6 2 with
 | true=>
  rw[hP]at cl2
  obtain⟨L,O⟩:=f
  obtain⟨⟨x0,x1,x2⟩,xy,xp⟩:=x
  rw[f670 _ rfl,b670]
  simp -implicitDefEqProofs[hw,cl,cl2]
 | false=>
 rw[hP]at cl2
 have hx0:=zom hP (by decide)
 have hx:PoS x 1000:=⟨Nat.le_trans hx0.t (by decide),fun u hu=>Nat.le_trans (hx0.y u hu) (by decide),fun u hu=>Nat.le_trans (hx0.p u hu) (by decide),hx0.yl,hx0.pl⟩
 clear hP hx0
 have hlen:(codesD f).length≤12:=by unfold codesD;rw[List.length_append,List.length_map];omega
 have hz:sizeD f≤4294967295:=by
  have:=zsu (l:=codesD f) (B:=12) fun c hc=>(g4 c hc).1
  unfold sizeD
  have:=Nat.mul_le_mul_right 12 hlen
  omega
 have hn:thinD 1000 50000 f:=fun c hc=>⟨Nat.le_trans (g4 c hc).1 (by decide),fun u hu=>Nat.le_trans ((g4 c hc).2 u hu) (by decide)⟩
 have hs:∀u∈f.lets,u.name.length≤100000:=fun u hu=>Nat.le_trans (g3 u hu) (by decide)
 have t1:=zkh (T:=T) f (fun c hc=>Nat.le_trans (g4 c hc).1 (by decide)) (by omega) (by omega)
 have t3:=zx2 (T:=T) x hx.yl hx.pl
 have p2:=zht (T:=T) f (by omega) (by omega) hn hz hs
 cases hP:hasP f with
 | false=>
  rw[hP]at p2
  obtain⟨L,O⟩:=f
  obtain⟨⟨x0,x1,x2⟩,xy,xp⟩:=x
  clear hn hs g3 g4
  rw[f670 _ rfl,b670]
  simp -implicitDefEqProofs[hw,cl,cl2,t1,p2]
 | true=>
 rw[hP,if_pos rfl]at p2
 unfold hasP at hP
 rw[Bool.and_eq_true,decide_eq_true_eq,decide_eq_true_eq]at hP
 obtain⟨hq6,hA⟩:=hP
 have hRl:(outsP f).length=f.outs.length:=by simp[outsP]
 have hRc:∀c∈outsP f,c.length≤1200∧thin 1000 c∧noLet c:=fun c hc=>by
  obtain⟨d,hd,rfl⟩:=List.mem_map.1 hc
  have:(inE (tabF f) d).length≤allE (tabF f) f.outs:=zf4 (List.mem_map.2 ⟨d,hd,rfl⟩)
  refine⟨by omega,zqp (zwr fun e he=>?_) ((hn d (zed hd)).2),zm7 (zsv _) d⟩
  obtain⟨y,hy,rfl⟩:=List.mem_map.1 he
  exact(hn y.code (zf5 hy)).2
 have hcg:codesD ⟨[],outsP f⟩=outsP f:=by simp[codesD]
 have hng:thinD 1000 50000 ⟨[],outsP f⟩:=fun c hc=>by
  rw[hcg]at hc
  exact⟨by have:=(hRc c hc).1;omega,(hRc c hc).2.1⟩
 have hzA:sizeD ⟨[],outsP f⟩=allE (tabF f) f.outs:=by
  unfold sizeD allE
  rw[hcg]
  unfold outsP
  rw[List.map_map]
  rfl
 have cz:=zm0 (T:=T) ⟨[],outsP f⟩ (by simp) (by dsimp only;omega) (fun c hc=>⟨by have:=(hng c hc).1;omega,(hng c hc).2⟩) (by omega)
 have hE:efd ⟨[],outsP f⟩=.agg [.sl [] .an,.sl (rowC (outsP f)) .an]:=rfl
 rw[hE]at p2 cz
 by_cases hS:100<sizeD ⟨[],outsP f⟩
 ·have hSI:(100:Int)<((sizeD ⟨[],outsP f⟩:Nat):Int):=by omega
  generalize sizeD ⟨[],outsP f⟩=S at *
  generalize outsP f=R at *
  obtain⟨L,O⟩:=f
  obtain⟨⟨x0,x1,x2⟩,xy,xp⟩:=x
  clear hn hs g3 g4 hRc hcg hng hE
  rw[f670 _ rfl,b670]
  simp -implicitDefEqProofs[hw,cl,cl2,t1,p2,cz,hSI]
 have hSI:¬ (100:Int)<((sizeD ⟨[],outsP f⟩:Nat):Int):=by omega
 -- the plain one is its own plain one
 have hin:(outsP f).map (inE [])=outsP f:=by
  conv=>rhs;rw[←List.map_id (outsP f)]
  exact List.map_congr_left fun c hc=>zm8 (hRc c hc).2.2
 have hLB:letsB ⟨[],outsP f⟩=false:=by
  unfold letsB
  simp only[List.length_nil,Nat.lt_irrefl,decide_false,Bool.false_or]
  rw[List.any_eq_false]
  intro c hc hh
  obtain⟨y,hy,ho⟩:=List.any_eq_true.1 hh
  exact(hRc c hc).2.2 y hy (by simpa using ho)
 have hPg:hasP ⟨[],outsP f⟩=decide (chkD ⟨[],outsP f⟩ (outsP f).length 6=none):=by
  have:allE (tabF ⟨[],outsP f⟩) (outsP f)=sizeD ⟨[],outsP f⟩:=by
   unfold allE sizeD
   rw[hcg]
   show ((outsP f).map fun c=>(inE [] c).length).sum=_
   exact congrArg List.sum (List.map_congr_left fun c hc=>by rw[zm8 (hRc c hc).2.2])
  unfold hasP
  dsimp only
  rw[this,decide_eq_true (show sizeD ⟨[],outsP f⟩≤1200 by omega),Bool.and_true]
 have hOg:outsP ⟨[],outsP f⟩=outsP f:=hin
 have q2:=zht (T:=T) ⟨[],outsP f⟩ (by simp) (by dsimp only;omega) hng (by omega) (by simp)
 have q3:=zb8 (T:=T) ⟨[],outsP f⟩ (outsP f).length 6 (by simp) (by dsimp only;omega) hng (by omega) (by simp)
 have q4:=zjn (T:=T) ⟨[],outsP f⟩ (by simp) (by dsimp only;omega) fun c hc=>⟨by have:=(hRc c hc).1;omega,fun y hy=>by have:=(hRc c hc).2.1 y hy;omega⟩
 have q5:=zil (T:=T) (outsP f) (by omega) fun c hc=>⟨by have:=(hRc c hc).1;omega,(hRc c hc).2.1⟩
 rw[hLB]at q4
 rw[hPg,hOg]at q2
 rw[hE]at q2 q3 q4 q5
 -- where the field has values
 have hev:(∃a b c d,callF T 467 [efd f,ept x,.i .i64 400]=some (.tup [.sl (rowF (fzs a)) .an,flt4 b c d 0])∧b=2∧(c=0→True))∨True:=.inr trivial
 clear hev
 cases hq:chkD f x.y.length x.p.length with
 | some q=>
  have c0:=zij (T:=T) f x 400 (by omega) (by omega) hn hz hs q hq
  obtain⟨q0,q1,q2'⟩:=q
  generalize sizeD ⟨[],outsP f⟩=S at *
  generalize hch:chkD ⟨[],outsP f⟩ (outsP f).length 6=ch at *
  generalize outsP f=R at *
  obtain⟨L,O⟩:=f
  obtain⟨⟨x0,x1,x2⟩,xy,xp⟩:=x
  clear hn hs g3 g4 hE hRc hcg hng hin hLB hPg hOg hq hx hA hq6
  rw[f670 _ rfl,b670]
  unfold fltC at q3
  cases ch with
  | none=>
   rw[decide_eq_true rfl,if_pos rfl]at q2
   simp -implicitDefEqProofs[hw,cl,cl2,t1,t3,p2,cz,hSI,q2,q3,q4,q5,c0]
  | some w=>
   obtain⟨w0,w1,w2⟩:=w
   rw[decide_eq_false (by simp),if_neg (by decide)]at q2
   simp -implicitDefEqProofs[hw,cl,cl2,t1,t3,p2,cz,hSI,q2,q3,q4,q5,c0]
 | none=>
 have c0:=zkf (T:=T) f x 400 hx (by omega) (by omega) hn hz hs hq
 have hF:=zff hq
 have hyl:x.v.y.length=x.y.length:=by simp[PoF.v]
 have hpl:x.v.p.length=x.p.length:=by simp[PoF.v]
 rw[←hyl,←hpl]at hF
 by_cases hk:(evD (limI 400).toNat x.v f).2.1=0
 ·obtain⟨e0,e1,e2⟩:=z7t hF hk
  rw[hk,e0]at c0
  generalize hAA:(evD (limI 400).toNat x.v f).1=AA at *
  have hvs:∀(k:Nat) c,(outsP f)[k]? = some c→∃v,AA[k]? = some v∧callF T 462 [.sl (rowN c) .an,ept x,.sl [] .an,.i .i64 400]=some (.tup [efz (fz v),flt4 0 0 0 0])∧sz v≤129:=fun k c hc=>by
   unfold outsP at hc
   rw[List.getElem?_map]at hc
   obtain⟨d,hd,rfl⟩:=Option.map_eq_some_iff.1 hc
   obtain⟨v,hv,he⟩:=e2 k d hd
   have hcm:inE (tabF f) d∈outsP f:=List.mem_map.2 ⟨d,List.mem_of_getElem? hd,rfl⟩
   obtain⟨r1,r2,r3⟩:=zqb (T:=T) x hx (inE (tabF f) d) v (by have:=(hRc _ hcm).1;omega) (hRc _ hcm).2.1 he
   exact⟨v,hv,r1,r3⟩
  have hbit:∀v∈AA,sizQ v≤400∧sz v≤129:=fun v hv=>by
   obtain⟨k,hk2⟩:=List.getElem?_of_mem hv
   have hkl:=(List.getElem?_eq_some_iff.1 hk2).1
   obtain⟨d,hd⟩:∃d,f.outs[k]? = some d:=⟨_,List.getElem?_eq_getElem (by omega)⟩
   obtain⟨v',hv',he⟩:=e2 k d hd
   rw[hk2]at hv'
   cases hv'
   have hcm:inE (tabF f) d∈outsP f:=List.mem_map.2 ⟨d,List.mem_of_getElem? hd,rfl⟩
   obtain⟨r1,r2,r3⟩:=zqb (T:=T) x hx (inE (tabF f) d) v (by have:=(hRc _ hcm).1;omega) (hRc _ hcm).2.1 he
   exact⟨r2,r3⟩
  have lo:=zol (T:=T) x hx (outsP f) AA (by omega) (by omega) t3 hvs
  have hsf:∀u∈fzs AA,sizF u≤400:=fun u hu=>by
   obtain⟨v,hv,rfl⟩:=List.mem_map.1 hu
   have:=(hbit v hv).1
   exact this
  have rs:=zv4 (T:=T) (fzs AA) (by rw[za1];omega) (fun u hu=>by
   obtain⟨v,hv,rfl⟩:=List.mem_map.1 hu
   rw[zdp]
   have:=(hbit v hv).2
   omega) (fun u hu=>by have:=hsf u hu;omega)
  have hmx:=z2a 400 (fzs AA) hsf
  have hmI:((szMx (fzs AA):Nat):Int)≤400:=by omega
  have hla:(fzs AA).length=(outsP f).length:=by rw[za1];omega
  unfold stPsm bxPt at lo
  rw[show (((0:Nat):Int))=0 from rfl]at lo
  generalize szMx (fzs AA)=M at *
  generalize fzs AA=FA at *
  generalize sizeD ⟨[],outsP f⟩=S at *
  generalize hch:chkD ⟨[],outsP f⟩ (outsP f).length 6=ch at *
  generalize outsP f=R at *
  obtain⟨L,O⟩:=f
  obtain⟨⟨x0,x1,x2⟩,xy,xp⟩:=x
  clear hn hs g3 g4 hE hRc hcg hng hin hLB hPg hOg hq hx hA hq6 hvs hbit hsf hF e2 hyl hpl
  rw[f670 _ rfl,b670]
  unfold fltC at q3
  cases ch with
  | none=>
   rw[decide_eq_true rfl,if_pos rfl]at q2
   simp -implicitDefEqProofs[hw,cl,cl2,t1,t3,p2,cz,hSI,q2,q3,q4,q5,c0,lo,rs,hmI,hla]
  | some w=>
   obtain⟨w0,w1,w2⟩:=w
   rw[decide_eq_false (by simp),if_neg (by decide)]at q2
   simp -implicitDefEqProofs[hw,cl,cl2,t1,t3,p2,cz,hSI,q2,q3,q4,q5,c0,lo,rs,hmI,hla]
 ·have hkI:¬ (((evD (limI 400).toNat x.v f).2.1:Nat):Int)=0:=by omega
  generalize (((evD (limI 400).toNat x.v f).2.1:Nat):Int)=K at *
  generalize (((evD (limI 400).toNat x.v f).2.2:Nat):Int)=K2 at *
  generalize fzs (evD (limI 400).toNat x.v f).1=FA at *
  generalize sizeD ⟨[],outsP f⟩=S at *
  generalize hch:chkD ⟨[],outsP f⟩ (outsP f).length 6=ch at *
  generalize outsP f=R at *
  obtain⟨L,O⟩:=f
  obtain⟨⟨x0,x1,x2⟩,xy,xp⟩:=x
  clear hn hs g3 g4 hE hRc hcg hng hin hLB hPg hOg hq hx hA hq6 hF hyl hpl
  rw[f670 _ rfl,b670]
  unfold fltC at q3
  cases ch with
  | none=>
   rw[decide_eq_true rfl,if_pos rfl]at q2
   simp -implicitDefEqProofs[hw,cl,cl2,t1,t3,p2,cz,hSI,q2,q3,q4,q5,c0,hkI]
  | some w=>
   obtain⟨w0,w1,w2⟩:=w
   rw[decide_eq_false (by simp),if_neg (by decide)]at q2
   simp -implicitDefEqProofs[hw,cl,cl2,t1,t3,p2,cz,hSI,q2,q3,q4,q5,c0,hkI]
end
end Go.Ab