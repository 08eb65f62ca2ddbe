/-
  A calculus of values, boxes and code, and what functions of the program compute, proved in it.
  Conditions: none beyond those that the theorems state. (Part 7: GpPow, GpRef12, GpLaw12, GcPoly, GpPoly, GpRow5, NmTape, AxTop5, GpLex, NmHist, GpFrac3, GpTape, GpTape2, GpGauge, GpRun, GpRun2, GpRun3, NmSch, AxTop10, QsBase, GpSplit, GpFig, GpFig2, NmTxt, NmSchT, GpScheme, GpStep, GpSchP1, GpSchP2, GpSchP3, GpSchP4, GpSchP5, GpSchP6, GpSchC1, GpSchC2, GpSchC3, GpRef10, GcLaw11c, GcLaw11b, GpLaw11b, GpLaw11c, GpRef11b, GpSchC4, GpSchC5, GpSchC6, GpRef16, GpRef16b, GpRef30, GpRef30b, GpPast, GpPast2, GpSpan2, GpSpan3, GpLaw24, GpLong33, GpPow9, GpSchC7, GpSchC8.)
-/
import Derived.Test.YtoaggbmfmgfnpaaGreatDoorPart6
import Derived.Test.YtoaggbmfmgfnpaaGreatDoorRows
import Derived.Test.YtoaggbmfmgfnpaaGreatDoorCards
import Derived.Test.YtoaggbmfmgfnpaaGreatDoorTie
import Derived.ProofKit
import Derived.LaidMore
import Derived.OpenShut
import Derived.Stop.Joined
import Derived.SevenTiedAt
import Derived.Lib.LaidU8

set_option linter.unusedSectionVars false
set_option linter.unusedVariables false
set_option linter.unusedSimpArgs false
set_option linter.unnecessarySimpa false

section
namespace Go.Ab
def sqC:List UInt32→Nat
 | []=>0
 | x::r=>4294967296*(x.toNat*val r)+4294967296*4294967296*sqC r
def sqD:List UInt32→Nat
 | []=>0
 | x::r=>x.toNat*x.toNat+4294967296*4294967296*sqD r
theorem z1e:∀a:List UInt32,2*sqC a+sqD a=val a*val a
 | []=>rfl
 | x::r=>by
  have ih:=z1e r;simp only[sqC,sqD,zak];generalize 4294967296=p at *
  grind
theorem zm6(i:Nat):4294967296^(2*i+2)=4294967296^(2*i)*(4294967296*4294967296):=by
 rw[Ybh]
theorem zm7{x L:Nat}(h:(ofN x).length≤L):(ofN (x*2^1)).length≤L+1:=by
 refine zai ?_;have h1:=zax (ofN x);rw[zae]at h1;have h2:4294967296^(ofN x).length≤4294967296^L:=Ym (by decide) h;rw[Y4];omega
section
variable{T:Tbl}[Zac T][Zq T][Zw T][Zz T][Zcd T]
theorem zg8(a:List UInt32)(ha:a.length≤1000000):Za T 356 [.sl (Zb a) .an]=some (.i .i64 (Z0 (val a))):=by
 have h1:=zbf (T:=T) a (by omega);have hl:=zad a;have hv:val (ofN (val a))=val a:=zae _;rw[zab Zcd.h356 rfl,b356];by_cases h0:val a=0
 ·have e:ofN (val a)=[]:=zap.2 h0;have eb:Z0 (val a)=0:=by rw[h0];rfl
  rw[e]at h1;rw[eb];simp -implicitDefEqProofs[h1]
 ·have hne:ofN (val a)≠[]:=fun h=>h0 (zap.1 h);obtain⟨B,x,hB⟩:∃B x,ofN (val a)=B++[x]:=⟨_,_,(Yd4 hne).symm⟩;have hx0:x.toNat≠0:=by
   intro hx;have e1:val (ofN (val a))=val B:=by
    rw[hB,zah];simp[hx]
   have e2:ofN (val B)=ofN (val a):=by rw[←e1,zae]
   have e3:=zad B;rw[e2,hB]at e3;simp at e3;omega
  have hlog:Z0 (val a)=32*B.length+Z0 x.toNat:=by
   have hdiv:val a/2^(32*B.length)=x.toNat:=by
    have e1:val a=val B+4294967296^B.length*x.toNat:=by
     rw[←hv,hB,zah];simp
    have e2:2^(32*B.length)=4294967296^B.length:=by
     rw[Yct]
    have e3:=zax B;rw[e2,e1,Yb5 _ _ (by omega),Ybe e3,Yat]
   have:=zjx (n:=val a) (s:=32*B.length) (by rw[hdiv];exact hx0);rw[hdiv]at this;exact this
  have hbl:B.length+1≤1000000:=by
   have:=congrArg List.length hB;simp at this;omega
  have hL:=zqn (T:=T) x;have hb32:Z0 x.toNat≤32:=by
   have hx:=zal x;unfold Z0;split
   ·omega
   ·have:=(Yeb (n:=x.toNat) (k:=32) (by assumption)).2 (by omega);omega
  rw[hB]at h1;rw[hlog];have w1:IntKind.wrap .i64 ((B.length:Int)+1-1)=(B.length:Int):=by
   rw[Int.add_sub_cancel];exact zac _ (by omega)
  have w2:IntKind.wrap .i64 (32*(B.length:Int))=32*(B.length:Int):=zac _ (by omega);have w3:IntKind.wrap .i64 (32*(B.length:Int)+(Z0 x.toNat:Int))=32*(B.length:Int)+(Z0 x.toNat:Int):=zac _ (by omega);have w4:IntKind.wrap .i64 (B.length:Int)=B.length:=zac _ (by omega);have n1:¬ (B.length:Int)+1=0:=by omega
  have n2:(B.length:Int)<(B.length:Int)+1:=by omega
  clear hlog hB hne hb32;simp -implicitDefEqProofs[h1,hL,w1,w2,w3,w4,n1,n2]
def Zjf(a X:List UInt32)(i:Nat):St:=
 ⟨[(0,.sl (Zb a) .an),(3,.bs (.loc 14) 1 1 0 (2*a.length+1)),(15,.sl (Zb a) .an),(16,.i .i64 a.length),(17,.i .i64 i)],[(.loc 14,⟨1,.own,1,Zb (X++List.replicate (a.length+1-i) 0)⟩)],3⟩
theorem zzr(a:List UInt32)(ha:a.length≤100000):∀y:Nat×List UInt32,
  (y.1≤a.length∧y.2.length=a.length+y.1∧val y.2+4294967296^(2*y.1)*sqC (a.drop y.1)=sqC a) →
  ∃r,(∃out:List UInt32,r=(Ex.n,(⟨[(0,.sl (Zb a) .an),(3,.bs (.loc 14) 1 1 0 (2*a.length+1))],[(.loc 14,⟨1,.own,1,Zb out⟩)],3⟩:St))∧out.length=2*a.length+1∧val out=sqC a) ∧
   Zf T 0 0 (.norm false [0,3]) l357_0 (Zjf a y.2 y.1)=some r:=by
 refine zas _ _ (fun y=>a.length-y.1) _ ?_
 rintro⟨i,X⟩ ⟨hi,hX,hv⟩
 simp only at hi hX hv;by_cases h0:i<a.length
 ·left;have hag:a[i]? = some (a[i]'h0):=Ya h0;have hw:IntKind.wrap .i64 ((i:Int)+1)=((i+1:Nat):Int):=zac _ (by omega);have hw2:IntKind.wrap .i64 (2*(i:Int))=2*(i:Int):=zac _ (by omega);have hw3:IntKind.wrap .i64 (2*(i:Int)+1)=((2*i+1:Nat):Int):=zac _ (by omega);have hdl:(a.drop (i+1)).length=a.length-(i+1):=Yal;obtain⟨m,hm1,hm2,hc⟩:=zk9 (T:=T) (X.take (2*i+1)) (X.drop (2*i+1)++List.replicate (a.length+1-i) 0) (a.drop (i+1)) (a[i]'h0).toNat 0 (zal _) (by decide) (by simp;omega) (by simp;omega);have hi21:2*i+1≤X.length:=by omega
  have e1:X.take (2*i+1)++(X.drop (2*i+1)++List.replicate (a.length+1-i) 0)=X++List.replicate (a.length+1-i) 0:=by rw[←Y8,Ya1]
  have e2:(X.take (2*i+1)).length=2*i+1:=by simp;omega
  have e3:(X.drop (2*i+1)++List.replicate (a.length+1-i) 0).length=2*a.length+1-(2*i+1):=by simp;omega
  have e4:2*i+1+(2*a.length+1-(2*i+1))=2*a.length+1:=by omega
  have e5:(X.drop (2*i+1)++List.replicate (a.length+1-i) 0).drop ((a.drop (i+1)).length+1)=List.replicate (a.length+1-(i+1)) 0:=by
   rw[Yew,Ya9 (by simp;omega),Yec];simp only[Yaf,Yal];congr 1;omega
  have e6:(X.drop (2*i+1)++List.replicate (a.length+1-i) 0).take (a.drop (i+1)).length=X.drop (2*i+1):=by
   rw[Yb3 (by simp;omega),Yb (by simp;omega)]
  rw[e1,e2,e3,e4,e5]at hc;rw[e6]at hm2;simp only[←Y8]at hc;refine⟨(i+1,X.take (2*i+1)++m),⟨h0,by simp only[Yy,e2,hm1];omega,?_⟩,by simp only;omega,?_⟩
  ·simp only;have e7:=zah (X.take (2*i+1)) (X.drop (2*i+1));rw[Ya1,e2]at e7;rw[Yi h0]at hv;simp only[sqC]at hv;rw[zah,e2,hm2];have p1:4294967296^(2*i+1)=4294967296^(2*i)*4294967296:=Y4 ..;have p2:4294967296^(2*(i+1))=4294967296^(2*i)*(4294967296*4294967296):=zm6 i;rw[p1]at e7 ⊢;rw[p2,←hv,e7];generalize 4294967296^(2*i)=q;generalize val (a.drop (i+1))=v;generalize sqC (a.drop (i+1))=w;generalize (4294967296:Nat)=p
   grind
  ·have hle:(i:Int)+1≤a.length:=by omega
   have hle2:i+1≤a.length:=by omega
   have hm3:((2*i+1:Nat):Int)=2*(i:Int)+1:=by omega
   rw[hm3]at hc hw3;clear hv hm2 e1 e5 e6;simp -implicitDefEqProofs[l357_0,Zjf,h0,hw,hw2,hw3,hc,hag,hle,hle2]
 ·right;have:i=a.length:=by omega
  subst this;refine⟨_,⟨X++List.replicate (a.length+1-a.length) 0,rfl,by simp;omega,by rw[zah,zaw];simp[sqC]at hv;simp[hv]⟩,?_,?_⟩<;>simp -implicitDefEqProofs[l357_0,Zjf]
def Zjg(a X:List UInt32)(U:List (List AV))(i:Nat):St:=
 ⟨[(6,.sl U .an),(7,.bs (.loc 38) 1 1 0 (2*a.length)),(39,.sl (Zb a) .an),(40,.i .i64 a.length),(41,.i .i64 i)],[(.loc 38,⟨1,.own,1,Zb (X++List.replicate (2*a.length-2*i) 0)⟩)],3⟩
theorem zzs(a:List UInt32)(U:List (List AV))(hU:wkL U=U)(ha:a.length≤100000):∀y:Nat×List UInt32,
  (y.1≤a.length∧y.2.length=2*y.1∧val y.2+4294967296^(2*y.1)*sqD (a.drop y.1)=sqD a) →
  ∃r,(∃out:List UInt32,r=(Ex.n,(⟨[(6,.sl U .an),(7,.bs (.loc 38) 1 1 0 (2*a.length))],[(.loc 38,⟨1,.own,1,Zb out⟩)],3⟩:St))∧out.length=2*a.length∧val out=sqD a) ∧
   Zf T 0 2 (.norm false [6,7]) l357_1 (Zjg a y.2 U y.1)=some r:=by
 refine zas _ _ (fun y=>a.length-y.1) _ ?_
 rintro⟨i,X⟩ ⟨hi,hX,hv⟩
 simp only at hi hX hv;by_cases h0:i<a.length
 ·left;have hag:a[i]? = some (a[i]'h0):=Ya h0;have hm:=zql (T:=T) (a[i]'h0) (a[i]'h0) 0 0;obtain⟨hi_,hhi⟩:∃h:UInt32,h=w32 (((a[i]'h0).toNat*(a[i]'h0).toNat+(0:UInt32).toNat+(0:UInt32).toNat)/4294967296):=⟨_,rfl⟩;obtain⟨lo_,hlo⟩:∃h:UInt32,h=w32 ((a[i]'h0).toNat*(a[i]'h0).toNat+(0:UInt32).toNat+(0:UInt32).toNat):=⟨_,rfl⟩;rw[←hhi,←hlo]at hm;have hx:=zal (a[i]'h0);have hval:lo_.toNat+4294967296*hi_.toNat=(a[i]'h0).toNat*(a[i]'h0).toNat:=by
   have hlt:=zgx hx hx;have e0:(0:UInt32).toNat=0:=rfl;rw[hlo,hhi,zbh,zbh,e0];simp only[Yx];generalize (a[i]'h0).toNat*(a[i]'h0).toNat=q at *
   omega
  have hw:IntKind.wrap .i64 ((i:Int)+1)=((i+1:Nat):Int):=zac _ (by omega);have hw2:IntKind.wrap .i64 (2*(i:Int))=2*(i:Int):=zac _ (by omega);have hw3:IntKind.wrap .i64 (2*(i:Int)+1)=2*(i:Int)+1:=zac _ (by omega);have e1:(X++List.replicate (2*a.length-2*i) (0:UInt32))=X++0::0::List.replicate (2*a.length-2*(i+1)) 0:=by
   rw[show 2*a.length-2*i=(2*a.length-2*(i+1))+1+1 by omega,Ybm,Ybm]
  have e2:((X++0::0::List.replicate (2*a.length-2*(i+1)) (0:UInt32)).set (2*i+1) hi_).set (2*i) lo_=X++[lo_,hi_]++List.replicate (2*a.length-2*(i+1)) 0:=by
   rw[Yac _ _ (by omega),Yac _ _ (by omega),hX,Yb1,show 2*i+1-2*i=1 by omega];simp
  refine⟨(i+1,X++[lo_,hi_]),⟨h0,by simp;omega,?_⟩,by simp only;omega,?_⟩
  ·simp only;rw[Yi h0]at hv;simp only[sqD]at hv;rw[zah,hX];simp only[zak,za5,Yan,Yx];have p2:4294967296^(2*(i+1))=4294967296^(2*i)*(4294967296*4294967296):=zm6 i;rw[p2,←hv,←hval];generalize 4294967296^(2*i)=q;generalize sqD (a.drop (i+1))=w;generalize (4294967296:Nat)=p
   grind
  ·unfold Zjg;simp only;rw[e1,←e2];have hl:(X++0::0::List.replicate (2*a.length-2*(i+1)) (0:UInt32)).length=2*a.length:=by simp;omega
   clear e1 e2 hv hval hhi hlo;generalize (X++0::0::List.replicate (2*a.length-2*(i+1)) (0:UInt32))=B at *
   have s1:(Zb B).set (2*i+1) [u32 hi_.toNat]=Zb (B.set (2*i+1) hi_):=by simp[Zb,Yds]
   have s2:(Zb (B.set (2*i+1) hi_)).set (2*i) [u32 lo_.toNat]=Zb ((B.set (2*i+1) hi_).set (2*i) lo_):=by simp[Zb,Yds]
   have b1:2*i+1<2*a.length:=by omega
   have b2:2*i<2*a.length:=by omega
   have b3:2*(i:Int)+1<2*(a.length:Int):=by omega
   have b4:2*(i:Int)<2*(a.length:Int):=by omega
   have b5:(0:Int)≤2*(i:Int)+1:=by omega
   have b6:(0:Int)≤2*(i:Int):=by omega
   have b7:(2*(i:Int)+1).toNat=2*i+1:=by omega
   have b8:(2*(i:Int)).toNat=2*i:=by omega
   have g1:B[2*i+1]? = some (B[2*i+1]'(by omega)):=Ya (by omega);have z0:(0:UInt32).toNat=0:=rfl;rw[z0]at hm;have hl2:((B.set (2*i+1) hi_)).length=2*a.length:=by simp[hl]
   simp -implicitDefEqProofs[l357_1,h0,hw,hw2,hw3,hag,hm,hl,s1,s2,b1,b2,b3,b4,b5,b6,b7,b8,hl2,hU]
 ·right;have:i=a.length:=by omega
  subst this;refine⟨_,⟨X++List.replicate (2*a.length-2*a.length) 0,rfl,by simp;omega,by rw[zah,zaw];simp[sqD]at hv;simp[hv]⟩,?_,?_⟩<;>simp -implicitDefEqProofs[l357_1,Zjg,hU]
theorem zoy(a:List UInt32)(ha:a.length≤4000):Za T 357 [.sl (Zb a) .an]=some (.sl (Zb (ofN (val a*val a))) .an):=by
 obtain⟨_,⟨out,rfl,ho,hv⟩,hr⟩:=zzr (T:=T) a (by omega) (0,List.replicate a.length 0) ⟨Yp _,by simp,by simp[zaw]⟩;unfold Zjf at hr;have hup:=z4j (T:=T) out 1 (by decide) (by omega);rw[Ye6]at hup;have hupl:(ofN (val out*2^1)).length≤10000:=by
  have h1:=zad out;have h2:=zm7 (x:=val out) (L:=out.length) (by omega);omega
 obtain⟨_,⟨dg,rfl,hd,hdv⟩,hr2⟩:=zzs (T:=T) a (Zb (ofN (val out*2^1))) (by simp) (by omega) (0,[]) ⟨Yp _,rfl,by simp⟩;unfold Zjg at hr2;have hn:=zv0 (T:=T) [ofN (val out*2^1),dg] (by simp) (by
  intro x hx;simp only[Yt,Ya2,or_false]at hx;rcases hx with rfl | rfl<;>omega)
 have e1:lls [ofN (val out*2^1),dg]=[[.sl (Zb (ofN (val out*2^1))) .an],[.sl (Zb dg) .an]]:=rfl;have e2:Zdw [ofN (val out*2^1),dg]=val a*val a:=by
  simp only[Zdw,Y0,Yb7,zae,Ydm,List.sum_nil,hv,hdv];have:=z1e a;omega
 rw[e1,e2]at hn;simp only[Yv,Yaf,Ye2,Yan]at hr hr2;have e3:List.replicate a.length (0:UInt32)++List.replicate (a.length+1) 0=List.replicate (2*a.length+1) 0:=by
  rw[Ycp];congr 1;omega
 rw[e3]at hr;have w1:IntKind.wrap .i64 (2*(a.length:Int))=2*(a.length:Int):=zac _ (by omega);have w2:IntKind.wrap .i64 (2*(a.length:Int)+1)=2*(a.length:Int)+1:=zac _ (by omega);have n1:(0:Int)≤2*(a.length:Int)+1:=by omega
 have n2:2*(a.length:Int)+1≤4294967296:=by omega
 have n3:(0:Int)≤2*(a.length:Int):=by omega
 have n4:2*(a.length:Int)≤4294967296:=by omega
 have n5:(2*(a.length:Int)+1).toNat=2*a.length+1:=by omega
 have n6:(2*(a.length:Int)).toNat=2*a.length:=by omega
 have t1:List.take (2*a.length+1) out=out:=Yb (by omega);have t2:List.take (2*a.length) dg=dg:=Yb (by omega);have o1:out.length=2*a.length+1:=ho;rw[zab Zcd.h357 rfl,b357];clear e1 e2 e3 hv hdv hupl;simp -implicitDefEqProofs[w1,w2,n1,n2,n3,n4,n5,n6,hr,ho,t1,hup,hr2,hd,t2,hn]
end
theorem z3k(e m:Nat)(hm:m≤63):Z9 .shr (.i .i64 (e:Int)) (.i .i64 (m:Int))=some (.i .i64 ((e/2^m:Nat):Int)):=by
 have h1:¬ (m:Int)<0:=by omega
 have h2:min m 64=m:=by omega
 simp only[Z9,IntKind.bits,h1,if_false,Yco,h2];congr 2;rw[Yee _ (Int.le_of_lt (Int.pow_pos (by decide)))]
 norm_cast
theorem z3l(k:Nat)(hk:k<9223372036854775808):Z9 .and (.i .i64 (k:Int)) (.i .i64 1)=some (.i .i64 ((k%2:Nat):Int)):=by
 show some (AV.i .i64 (IntKind.wrap .i64 ((BitVec.ofInt 64 (k:Int) &&& BitVec.ofInt 64 1).toNat:Int)))=_;have h1:(BitVec.ofInt 64 (k:Int)).toNat=k:=by
  rw[BitVec.ofInt_natCast,BitVec.toNat_ofNat];omega
 have h2:(BitVec.ofInt 64 1).toNat=1:=rfl;rw[BitVec.toNat_and,h1,h2,Nat.and_one_is_mod,zac _ (by omega)]
theorem zv3(e m:Nat):e/2^m=2*(e/2^(m+1))+e/2^m%2:=by
 rw[Y4,←Ybi];omega
theorem zqq(x e:Nat)(h:e*Z0 x≤65536):(ofN (x^e)).length≤2048:=by
 by_cases h1:x^e=0
 ·rw[h1];have:ofN 0=[]:=zap.2 rfl;rw[this]
  decide
 by_cases hx:x=0
 ·subst hx;cases e with
  | zero=>exact Yc (zai (k:=1) (by decide)) (by decide)
  | succ e=>simp at h1
 ·refine zai ?_;generalize hk:(2048:Nat)=k;have h2:x<2^Z0 x:=by
   unfold Z0;rw[if_neg hx];exact Yc9
  have h5:∀m,(2:Nat)^(32*m)=4294967296^m:=fun m=>by rw[Yct]
  cases e with
  | zero=>exact Nat.one_lt_pow (by omega) (by decide)
  | succ e=>
   have h3:x^(e+1)<(2^Z0 x)^(e+1):=Nat.pow_lt_pow_left h2 (by omega);rw[←Yct,Yae]at h3;refine Yq h3 ?_;rw[←h5];exact Ym (by decide) (by omega)
theorem zv4{e:Nat}(h:e<9223372036854775808):Z0 e≤63:=by
 unfold Z0;split
 ·omega
 ·next h0=>
  have:=(Yeb (n:=e) (k:=63) h0).2 h;omega
theorem zzt(e:Nat):e/2^Z0 e=0:=by
 unfold Z0;split
 ·next h=>simp[h]
 ·exact Ybe Yc9
section
variable{T:Tbl}[Zac T][Zq T][Zw T][Zz T][Zcd T]
theorem zzu(a:List UInt32)(e:Nat)(ha:a.length≤3000)(he:e<9223372036854775808)(hb:e*Z0 (val a)≤65536):∀b:Nat,b≤63 →
  Zf T 0 0 (.norm false [7]) l258_0 ⟨[(0,.sl (Zb a) .an),(1,.i .i64 e),(7,.sl (Zb (ofN (val a^(e/2^b)))) .an),(8,.i .i64 ((b:Int)-1))],[],2⟩ =
   some (.n,⟨[(7,.sl (Zb (ofN (val a^e))) .an)],[],2⟩):=by
 refine zaq (fun b:Nat=>⟨[(0,.sl (Zb a) .an),(1,.i .i64 e),(7,.sl (Zb (ofN (val a^(e/2^b)))) .an),(8,.i .i64 ((b:Int)-1))],[],2⟩) (fun b=>b≤63) (fun b=>b) (fun _=>_) ?_;intro b hb63;cases b with
 | zero=>
  right;rw[Ydf,Yfb];generalize ofN (val a^e)=R at *
  constructor<;>simp -implicitDefEqProofs[l258_0]
 | succ m=>
  left;have hs:=zv3 e m;have hmul:∀k,k≤e→k*Z0 (val a)≤65536:=fun k hk=>Yc (Yw _ hk) hb;have hd0:e/2^m≤e:=Ybj _ _;have l1:=zqq (val a) (e/2^(m+1)) (hmul _ (Ybj _ _));have l2:=zqq (val a) (2*(e/2^(m+1))) (hmul _ (by omega));have c1:=zoy (T:=T) (ofN (val a^(e/2^(m+1)))) (by omega);rw[zae,←Ybh,←Nat.two_mul]at c1;have c2:=zfz (T:=T) (ofN (val a^(2*(e/2^(m+1))))) a (by omega) (by omega);rw[zae,←Nat.pow_add_one]at c2;have hsh:=z3k e m (by omega);have han:=z3l (e/2^m) (by omega);have w1:IntKind.wrap .i64 ((m:Int)-1)=(m:Int)-1:=zac _ (by omega);have p1:(0:Int)≤m:=by omega
  have e1:((m+1:Nat):Int)-1=m:=by omega
  refine⟨m,by omega,by simp,?_,rfl⟩;rw[e1];rcases Nat.mod_two_eq_zero_or_one (e/2^m) with h0 | h0
  ·rw[h0]at han hs;rw[Yx]at hs;rw[←hs]at c1;clear l1 l2 c2 hs;generalize ofN (val a^(e/2^(m+1)))=X at *
   generalize ofN (val a^(e/2^m))=Y at *
   generalize e/2^m=q at *
   simp -implicitDefEqProofs[l258_0,p1,c1,hsh,han,w1]
  ·rw[h0]at han hs;rw[←hs]at c2;clear l1 l2 hs;generalize ofN (val a^(e/2^(m+1)))=X at *
   generalize ofN (val a^(2*(e/2^(m+1))))=Z at *
   generalize ofN (val a^(e/2^m))=Y at *
   generalize e/2^m=q at *
   simp -implicitDefEqProofs[l258_0,p1,c1,c2,hsh,han,w1]
theorem zzv(a:List UInt32)(e:Nat)(ha:a.length≤3000)(h2:2≤Z0 (val a))(hb:e≤65536/Z0 (val a)) :
  Za T 258 [.sl (Zb a) .an,.i .i64 e]=some (.tup [.sl (Zb (ofN (val a^e))) .an,.b true]):=by
 have hmul:e*Z0 (val a)≤65536:=Yc (Yw _ hb) (Nat.div_mul_le_self _ _);have he:e≤65536:=Yc hb (Ybj _ _);have c1:=zg8 (T:=T) a (by omega);have c2:=zef (T:=T) 1 (by decide);have c3:=zef (T:=T) e (by omega);have c4:=zg8 (T:=T) (ofN e) (by
  have:=zai (n:=e) (k:=1) (by omega);omega)
 rw[zae]at c4;have hl:=zzu (T:=T) a e ha (by omega) hmul (Z0 e) (zv4 (by omega));rw[zzt,Ydf]at hl;have hbe:=zv4 (e:=e) (by omega);have hq:((65536:Int)).tdiv (Z0 (val a):Int)=((65536/Z0 (val a):Nat):Int):=by
  rw[Ybt (by decide)]
  rfl
 have hbl:65536/Z0 (val a)≤65536:=Ybj _ _;have w0:IntKind.wrap .i64 ((65536/Z0 (val a):Nat):Int)=((65536/Z0 (val a):Nat):Int):=zac _ (by omega);have w1:IntKind.wrap .i64 ((Z0 e:Int)-1)=(Z0 e:Int)-1:=zac _ (by omega);have q1:¬ (e:Int)<0:=by omega
 have q2:(1:Int)<(Z0 (val a):Int):=by omega
 have q2':1<Z0 (val a):=by omega
 have q3:¬ ((65536/Z0 (val a):Nat):Int)<(e:Int):=by omega
 have q3':¬ (65536/Z0 (val a))<e:=by omega
 have q4:¬ (Z0 (val a):Int)<2:=by omega
 have q4':¬ Z0 (val a)<2:=by omega
 have q5:¬ (Z0 (val a):Int)=0:=by omega
 have q5':¬ Z0 (val a)=0:=by omega
 have qm:((e:Int)%18446744073709551616).toNat=e:=by omega
 rw[zab Zcd.h258 rfl,b258];generalize 65536/Z0 (val a)=Q at *
 clear hmul;generalize ofN (val a^e)=R at *
 generalize ofN 1=O at *
 generalize Z0 (val a)=B at *
 generalize ofN e=E at *
 simp -implicitDefEqProofs[c1,c2,c3,c4,hl,hq,w0,w1,q1,q2,q2',q3,q3',q4,q4',q5,q5',qm]
end
end Go.Ab
end
section
namespace Go.Ab
section
variable{T:Tbl}[Z5 T][Zal T][Z1 T][Zah T][Z2 T][Zaj T][Zx T][Zai T][Zdu T]
def Zoi(m:List (List Fz))(i:Nat):St:=⟨[(0,.sl (Zt m) .an),(3,.i .i64 i)],[],2⟩
def Zir(m:List (List Fz))(i:Nat):St:=⟨[(0,.sl (Zt m) .an),(3,.bs (.loc 3) 1 1 0 i),(4,.i .i64 i)],[((.loc 3),⟨1,.own,1,Zt (fzM (Zei (m.take i)))⟩)],3⟩
theorem zz5(m:List (List Fz))(hl:m.length≤1000)(hw:∀r∈m,r.length≤1000)(hs:∀r∈m,∀x∈r,fsz x≤1000) :
  Zf T 0 0 (.norm false [3]) l301_0 (Zir m 0)=some (.n,⟨[(3,.bs (.loc 3) 1 1 0 m.length)],[(.loc 3,⟨1,.own,1,Zt (fzM (Zei m))⟩)],3⟩):=by
 refine zay (Zir m) (m.length) _ (fun i hi=>?_) ?_
 ·have hws:=zbs hi (by omega);have hb:i≤4294967295:=by omega
  have hg:m[i]? = some (m[i]'hi):=Ya hi;have hn:=zdx (T:=T) (m[i]'hi) (hw _ (Yj hi)) (hs _ (Yj hi));have e:fzM (Zei (m.take (i+1)))=fzM (Zei (m.take i))++[nrm (m[i]'hi)]:=by rw[zq2,zq2];exact zbq m _ hi
  have hml:(fzM (Zei (m.take i))).length=i:=by simp;omega
  have hp:=zmz hml (nrm (m[i]'hi));unfold Zir;rw[e];clear e;generalize fzM (Zei (m.take i))=M at *
  generalize nrm (m[i]'hi)=w at *
  clear hw hs;simp -implicitDefEqProofs[l301_0,hi,hws,hb,hp,hml,hg,hn]
 ·unfold Zir;rw[Yb (Yd m.length)];generalize fzM (Zei m)=M;constructor<;>simp -implicitDefEqProofs[l301_0]
theorem zo4(m:List (List Fz))(hl:m.length≤1000)(hw:∀r∈m,r.length≤1000)(hs:∀r∈m,∀x∈r,fsz x≤1000):Za T 301 [.sl (Zt m) .an]=some (.sl (Zt (fzM (Zei m))) .an):=by
 have h:=zz5 (T:=T) m hl hw hs;unfold Zir at h;rw[show fzM (Zei (m.take 0))=[] from rfl]at h;simp only[zll,Yv]at h;have hml:(fzM (Zei m)).length=m.length:=by simp
 have ht:List.take m.length (fzM (Zei m))=fzM (Zei m):=Yb (by omega);rw[zab Zdu.h301 rfl,b301];generalize fzM (Zei m)=M at *
 simp -implicitDefEqProofs[h,ht,hml]
def Zoj(a b:List (List Fz))(i:Nat):St:=⟨[(0,.sl (Zt a) .an),(1,.sl (Zt b) .an),(5,.i .i64 i)],[],2⟩
def Zok(n:Int)(k:Nat)(i:Nat):St:=⟨[(0,.i .i64 n),(3,.bs (.loc 3) 1 1 0 i),(4,.i .i64 i)],[((.loc 3),⟨1,.own,1,Zt (idQ k i)⟩)],3⟩
def Zng(L:List (List Rat))(R:List (List Fz))(j:Nat)(i:Nat):St:=⟨[(0,.sl (Zt (fzM L)) .an),(3,.bs (.loc 3) 1 1 0 j),(4,.i .i64 j),(5,.bs (.loc 5) 2 3 0 i),(6,.i .i64 i)],[(.loc 3,⟨1,.own,1,Zt R⟩),((.loc 5),⟨2,.own,3,Zd (fzs (Zl1 (L.take i) j))⟩)],4⟩
def Znh(L:List (List Rat))(i:Nat):St:=⟨[(0,.sl (Zt (fzM L)) .an),(3,.bs (.loc 3) 1 1 0 i),(4,.i .i64 i)],[((.loc 3),⟨1,.own,1,Zt (fzM ((List.range i).map (Zl1 L)))⟩)],3⟩
def Zol(L:List (List Rat))(c:List Rat)(i:Nat):St:=⟨[(0,.sl (Zt (fzM L)) .an),(1,.sl (Zd (fzs c)) .an),(5,.bs (.loc 5) 1 3 0 i),(6,.i .i64 i)],[((.loc 5),⟨1,.own,3,Zd (fzs (Zk1 (L.take i) c))⟩)],3⟩
def Zom(m:List (List Fz))(many words:Nat):Bool:=decide (many<m.length) || m.any fun r=>Zbm r many words
def Zon(m:List (List Fz))(many words:Nat)(i:Nat):St:=⟨[(0,.sl (Zt m) .an),(1,.i .i64 many),(2,.i .i64 words),(7,.i .i64 i)],[],2⟩
end
end Go.Ab
end
section
namespace Go.Ab
theorem z9k{l:List Rat}{B:Nat}(h:∀q∈l,sz q≤B):∀x∈fzs l,fsz x≤B:=by
 intro x hx;obtain⟨q,hq,rfl⟩:=Yab.1 hx;exact h q hq
theorem z3e{l:List Fz}{B:Nat}(hB:1≤B)(h:∀x∈l,fsz x≤B):∀q∈l.map fv,sz q≤B:=by
 intro q hq;obtain⟨x,hx,rfl⟩:=Yab.1 hq;exact zdc (h x hx) hB
section
variable{T:Tbl}[Zq T][Zw T][Zz T][Zs T][Zu T][Zaz T][Ze T][Zl T][Zv T][Zav T][Zbf T][Zg5 T][Z5 T][Zal T][Z1 T][Zah T][Z2 T][Zaj T][Zx T][Zai T][Zdu T][Zcx T][Zce T][Zez T]
def Zhb(m:List (List Fz))(i:Nat):St:=⟨[(0,.sl (Zt m) .an),(3,.bs (.loc 3) 1 1 0 i),(4,.i .i64 i)],[((.loc 3),⟨1,.own,1,Zt (m.take i)⟩)],3⟩
theorem zvp(m:List (List Fz))(hl:m.length≤1000000)(hw:∀r∈m,r.length≤1000000) :
  Zf T 0 0 (.norm false [3]) l308_0 (Zhb m 0)=some (.n,⟨[(3,.bs (.loc 3) 1 1 0 (m.length))],[((.loc 3),⟨1,.own,1,Zt (m.take (m.length))⟩)],3⟩):=by
 refine zay (Zhb m) (m.length) _ (fun i hi=>?_) ?_
 ·have hws:=zbs hi (by omega);have hb:i≤4294967295:=by omega
  have hg:m[i]? = some (m[i]'hi):=Ya hi;have hn:=zg7 (T:=T) (m[i]'hi) (Yc (hw _ (Yj hi)) (by decide));have e:=zh8 m hi;have hml:(m.take i).length=i:=by simp;omega
  have hp:=zmz hml (m[i]'hi);unfold Zhb;rw[e];clear e;clear hw;simp -implicitDefEqProofs[l308_0,hi,hws,hb,hp,hml,hg,hn]
 ·unfold Zhb;rw[Yb (Yd _)];constructor<;>simp -implicitDefEqProofs[l308_0]
theorem zzd(m:List (List Fz))(hl:m.length≤1000000)(hw:∀r∈m,r.length≤1000000):Za T 308 [.sl (Zt m) .an]=some (.sl (Zt m) .an):=by
 have h:=zvp (T:=T) m hl hw;unfold Zhb at h;rw[Yb8,Yb (Yd _)]at h;simp only[zll,Yv]at h;have ht:List.take m.length m=m:=Yb (Yd _);rw[zab Zez.h308 rfl,b308];clear hw;simp -implicitDefEqProofs[h,ht]
def Znb(a b:List (List Fz))(i:Nat):St:=⟨[(0,.sl (Zt a) .an),(1,.sl (Zt b) .an),(5,.i .i64 i)],[],2⟩
theorem zvq{q:Rat}(h1:q.num.natAbs<4294967296)(h2:q.den<4294967296):sz q≤1:=Yfc.2 ⟨zai (by simpa using h1),zai (by simpa using h2)⟩
end
end Go.Ab
end
section
namespace Go.Ab
class Zma (T:Tbl):Prop where
end Go.Ab
end
section
namespace Go.Ab
def Zml(l:List Rat):Nat→Nat
 | 0=>0
 | n+1=>if l.getD n 0=0 then Zml l n else n+1
def Zog(l:List Rat):List Rat:=l.take (Zml l l.length)
theorem zcv(M:List Fz):Option.all (fun r:List AV=>decide (r.length=3)) (Zd M).head? = true:=by cases M<;>rfl
theorem zv2{k:Int}(h1:-100≤k)(h2:k≤100):sz (k:Rat)≤1:=by
 unfold sz;rw[Rat.num_intCast,Rat.den_intCast,zel];exact Yfc.2 ⟨zai (by omega),Yd _⟩
section
variable{T:Tbl}[Zq T][Zw T][Zz T][Zs T][Zu T][Zaz T][Ze T][Zl T][Zv T][Zav T][Zbf T][Zma T]
def Zne:List Rat→Rat→Rat
 | [],_=>0
 | a::l,x=>Zne l x*x+a
def dif(l:List Rat):List Rat:=(List.range (l.length-1)).map fun(i:Nat)=>(((i:Int)+1:Int):Rat)*l.getD (i+1) 0
def Zpe(l:List Fz)(i:Nat):St:=⟨[(0,.sl (Zd l) .an),(3,.bs (.loc 3) 1 3 0 i),(4,.i .i64 ((i:Int)+1))],[((.loc 3),⟨1,.own,3,Zd (fzs ((dif (l.map fv)).take i))⟩)],3⟩
end
end Go.Ab
end
section
namespace Go.Ab
def Zc3(x:Fz):Nat:=Z0 (val x.2.1)+Z0 (val x.2.2)
def Zmm(l:List Fz):Nat:=l.foldl (fun n x=>max n (Zc3 x)) 0
theorem zey{x k:Nat}(h:(ofN x).length≤k):Z0 x≤32*k:=by
 unfold Z0;split
 ·omega
 ·next h0=>
  have h1:=zax (ofN x);rw[zae]at h1;have h2:4294967296^(ofN x).length≤4294967296^k:=Ym (by decide) h;have h3:(4294967296:Nat)^k=2^(32*k):=by rw[Yct]
  have:=(Yeb (n:=x) (k:=32*k) h0).2 (by omega);omega
theorem z4c{x:Fz}{k:Nat}(h:fsz x≤k):Zc3 x≤64*k:=by
 unfold Zc3;have h1:=zey (Yc (zad x.2.1) (Yc (zd3 x) h));have h2:=zey (Yc (zad x.2.2) (Yc (zek x) h));omega
section
variable{T:Tbl}[Zac T][Zq T][Zw T][Zz T][Zs T][Zu T][Zaz T][Ze T][Zl T][Zv T][Zbl T][Za9 T][Zcd T][Zav T][Zbf T][Zem T]
theorem zsy(a b:List Fz)(ha:a.length≤900)(hab:b.length=a.length){B:Nat}(hB:1≤B)(hB2:B≤100)(h1:∀x∈a,fsz x≤B)(h2:∀x∈b,fsz x≤B) :
  Za T 268 [.sl (Zd a) .an,.sl (Zd b) .an]=some (.tup [.sl (Zd (fzs (Zfo (a.map fv) (Zc9 ((-1:Int):Rat) (b.map fv))))) .an,.b true]):=by
 have c1:=zow (T:=T) (-1) (by decide) (by decide);have sm:sz ((-1:Int):Rat)≤1:=zv2 (by decide) (by decide);have c2:=zwx (T:=T) (fz ((-1:Int):Rat)) (by rw[zbe];omega) b (by omega) (fun x hx=>by have:=h2 x hx;omega);rw[zcz,z42]at c2;have hsl:(fzs (Zc9 ((-1:Int):Rat) (b.map fv))).length=a.length:=by rw[zdh,z0v,Ya3,hab]
 have hss:∀x∈fzs (Zc9 ((-1:Int):Rat) (b.map fv)),fsz x≤B+1:=z9k fun q hq=>by
  have:=zx8 (c:=((-1:Int):Rat)) (C:=1) sm (z3e hB h2) q hq;omega
 have c3:=z4a (T:=T) a [fzs (Zc9 ((-1:Int):Rat) (b.map fv))] (by omega) (by simp) (B:=B+1) (fun x hx=>by have:=h1 x hx;omega) (by
  intro r hr;rw[Ya5]at hr;rw[hr];exact hss) (by omega) (by simp;omega) (by
  intro r hr;rw[Ya5]at hr;rw[hr];exact hsl)
 have e:List.foldl Zbn (a.map fv) [fzs (Zc9 ((-1:Int):Rat) (b.map fv))]=Zfo (a.map fv) (Zc9 ((-1:Int):Rat) (b.map fv)):=by
  simp only[Yca,Yc7];exact z0u _ _
 rw[e]at c3;have rm:Zt [a,fzs (Zc9 ((-1:Int):Rat) (b.map fv))]=[[.sl (Zd a) .an],[.sl (Zd (fzs (Zc9 ((-1:Int):Rat) (b.map fv)))) .an]]:=rfl;rw[rm]at c3;rw[zab Zem.h268 rfl,b268];clear h1 h2 hss hsl sm rm e;generalize fzs (Zfo (a.map fv) (Zc9 ((-1:Int):Rat) (b.map fv)))=R at *
 generalize fzs (Zc9 ((-1:Int):Rat) (b.map fv))=S at *
 generalize fz ((-1:Int):Rat)=M at *
 simp -implicitDefEqProofs[c1,c2,c3]
def Zmn(b c:Rat)(i:Nat):Rat:=if i=0 then 0 else if i=1 then b else (if b<c then c else b)
def Zpm(b c:Rat)(i:Nat):St:=⟨[(2,.ptr (.loc 2) 1 3 0 0),(3,.ptr (.loc 3) 2 3 0 0),(7,.sl [Zdi (fz b),Zdi (fz c)] .an),(8,.i .i64 2),(9,.i .i64 i)],
 [(.loc 2,⟨1,.str,3,[Zdx]⟩),(.loc 3,⟨2,.str,3,[Zdi (fz (Zmn b c i))]⟩)],4⟩
def Zpn(l:List Fz)(i:Nat):St:=⟨[(2,.ptr (.loc 2) 1 3 0 0),(3,.ptr (.loc 3) 2 3 0 0),(7,.sl (Zd l) .an),(8,.i .i64 l.length),(9,.i .i64 i)],
 [(.loc 2,⟨1,.str,3,[Zdx]⟩),(.loc 3,⟨2,.str,3,[Zdi (fz (Zlq ((l.map fv).take i)))]⟩)],4⟩
def Zpo(l:List Fz)(i:Nat):St:=⟨[(3,.i .i64 (Zmm (l.take i))),(6,.sl (Zd l) .an),(7,.i .i64 l.length),(8,.i .i64 i)],[],2⟩
end
section
variable{T:Tbl}[Z5 T][Zal T][Z1 T][Zah T][Z2 T][Zaj T][Zx T][Zai T][Zel T]
theorem zah4(p q:Rat)(hp:sz p≤1000)(hq:sz q≤1000):Za T 240 [efz (fz p),efz (fz q)]=some (efz (fz (p-q))):=by
 have c1:=zwh (T:=T) (fz q) (by rw[zbe];omega);rw[zcz]at c1;have c2:=zj5 (T:=T) p (-q) hp (by rw[z1s];exact hq);rw[←Rat.sub_eq_add_neg]at c2;rw[zab Zx.h240 rfl,b240];generalize fz (p-q)=R at *
 generalize fz (-q)=N at *
 generalize fz p=X at *
 generalize fz q=Y at *
 simp -implicitDefEqProofs[c1,c2]
theorem zsz(x:Fz)(hx:fsz x≤10000):Za T 245 [efz x]=some (.i .i64 (Zc3 x)):=by
 have h1:=zd3 x;have h2:=zek x;have c1:=zj8 (T:=T) x.2.1 (by omega);have c2:=zj8 (T:=T) x.2.2 (by omega);have b1:=zey (x:=val x.2.1) (k:=10000) (Yc (zad x.2.1) (by omega));have b2:=zey (x:=val x.2.2) (k:=10000) (Yc (zad x.2.2) (by omega));have w:IntKind.wrap .i64 ((Z0 (val x.2.1):Int)+(Z0 (val x.2.2):Int))=((Zc3 x:Nat):Int):=by
  have e:((Zc3 x:Nat):Int)=(Z0 (val x.2.1):Int)+(Z0 (val x.2.2):Int):=by unfold Zc3;omega
  rw[e];exact zac _ (by omega)
 rw[zab Zel.h245 rfl,b245];generalize Zc3 x=S at *
 generalize Z0 (val x.2.1)=B1 at *
 generalize Z0 (val x.2.2)=B2 at *
 simp -implicitDefEqProofs[c1,c2,w]
def Zpp(c:Rat)(p:List Rat)(i:Nat):St:=⟨[(1,.sl (Zd (fzs p)) .an),(2,.ptr (.loc 2) 1 3 0 0),(5,.bs (.loc 5) 2 3 0 i),(6,.i .i64 i)],
 [(.loc 2,⟨1,.str,3,[Zdi (fz c)]⟩),(.loc 5,⟨2,.own,3,Zd (fzs ((Zc9 c p).take i))⟩)],4⟩
def Zpq(p:List Rat)(i:Nat):St:=⟨[(0,.sl (Zd (fzs p)) .an),(2,.ptr (.loc 2) 1 3 0 0),(3,.ptr (.loc 3) 2 3 0 0),(4,.i .i64 i)],
 [(.loc 2,⟨1,.str,3,[Zdx]⟩),(.loc 3,⟨2,.str,3,[Zdi (fz (Zlq (p.take i)))]⟩)],4⟩
end
end Go.Ab
end
section
namespace Go.Ab
structure Ins where
 op:Int
 a:Int
 b:Int
 n:Fz
abbrev Zmx(i:Ins):List AV:=[.i .i64 i.op,.i .i64 i.a,.i .i64 i.b,.b i.n.1,.sl (Zb i.n.2.1) .an,.sl (Zb i.n.2.2) .an]
def Zja(l:List Ins):List (List AV):=l.map Zmx
@[simp] theorem zadc:Zja []=[]:=rfl
structure Tp where
 code:List Ins
 outs:List Int
 dim:Int
 par:Int
abbrev etp(t:Tp):AV:=.agg [.sl (Zja t.code) .an,.sl (ints t.outs) .an,.i .i64 t.dim,.i .i64 t.par]
def Zb0(x:Fz):Bool:=decide (x=fz (fv x))
def Zl6(x:Fz):Bool:=!x.1&&x.2.1.isEmpty&&x.2.2.isEmpty
def Zii(i:Ins):List Int:=if i.op=6∨i.op=11 then [i.a] else if 7≤i.op∧i.op≤10 then [i.a,i.b] else []
def Zf9(i m:Int):Bool:=decide (0≤i)&&decide (i<m)
def Zmy(dim par p:Int)(i:Ins):Bool:=
 if i.op=1 then decide (i.a=0)&&decide (i.b=0)&&Zb0 i.n
 else Zl6 i.n&&(Zii i).all (fun r=>Zf9 r p) &&
  (if i.op=2 then decide (i.a=0)&&decide (i.b=0)
   else if i.op=3 then Zf9 i.a dim&&decide (i.b=0)
   else if i.op=4 then Zf9 i.a par&&decide (i.b=0)
   else if i.op=6 then decide (i.b=0)
   else if i.op=11 then decide (-8≤i.b)&&decide (i.b≤8)
   else decide ((Zii i).length=2))
def Zjb(dim par:Int):Nat→List Ins→Int
 | _,[]=>-1
 | p,i::r=>if Zmy dim par p i then Zjb dim par (p+1) r else p
def Zl7(t:Tp):Bool:=Zf9 (t.dim-1) 6&&Zf9 t.par 7&&decide ((t.outs.length:Int)=t.dim)&&decide (t.code.length≤300)
def Zl8(t:Tp):Int:=
 if Zl7 t=false then -2 else if Zjb t.dim t.par 0 t.code≠-1 then Zjb t.dim t.par 0 t.code
 else if (t.outs.all fun o=>Zf9 o t.code.length)=false then t.code.length else -1
def okT(t:Tp):Bool:=decide (Zl8 t=-1)
structure OkTp (t:Tp):Prop where
 d1:1≤t.dim
 d2:t.dim≤6
 p1:0≤t.par
 p2:t.par≤6
 ol:(t.outs.length:Int)=t.dim
 cl:t.code.length≤300
 may:∀(k:Nat) (i:Ins),t.code[k]? = some i→Zmy t.dim t.par k i=true
 outs:∀o∈t.outs,0≤o∧o<t.code.length
structure Po where
 t:Rat
 y:List Rat
 p:List Rat
structure PoF where
 t:Fz
 y:List Fz
 p:List Fz
def PoF.v(x:PoF):Po:=⟨fv x.t,x.y.map fv,x.p.map fv⟩
def Po.f(x:Po):PoF:=⟨fz x.t,fzs x.y,fzs x.p⟩
abbrev ept(x:PoF):AV:=.agg [.b x.t.1,.sl (Zb x.t.2.1) .an,.sl (Zb x.t.2.2) .an,.sl (Zd x.y) .an,.sl (Zd x.p) .an]
def gI(l:List Rat)(i:Int):Rat:=l.getD i.toNat 0
def Zmz(x:Rat)(e:Int):Rat:=x^e
def Zix(P:Po)(D:List Rat)(i:Ins):Rat×Bool:=
 if i.op=1 then (fv i.n,true)
 else if i.op=3 then (gI P.y i.a,true)
 else if i.op=4 then (gI P.p i.a,true)
 else if i.op=6 then (-gI D i.a,true)
 else if i.op=7 then (gI D i.a+gI D i.b,true)
 else if i.op=8 then (gI D i.a-gI D i.b,true)
 else if i.op=9 then (gI D i.a*gI D i.b,true)
 else if i.op=10 then (gI D i.a/gI D i.b,decide (gI D i.b≠0))
 else if i.op=11 then (if i.b<0∧gI D i.a=0 then (0,false) else (Zmz (gI D i.a) i.b,true))
 else (P.t,true)
def Zlh(q:Rat):Nat:=Zc3 (fz q)
def Zjy(lim:Nat)(P:Po):List Ins→List Rat→List Rat×Nat×Nat
 | [],D=>(D,0,0)
 | i::r,D=>if (Zix P D i).2=false then ([],3,D.length) else if lim<Zlh (Zix P D i).1 then ([],6,D.length) else Zjy lim P r (D++[(Zix P D i).1])
end Go.Ab
end
section
namespace Go.Ab
abbrev tyI:Ty:=.cons (.int .i64) (.cons (.int .i64) (.cons (.int .i64) (.cons tyF .nil)))
abbrev tyT:Ty:=.cons (.sl tyI) (.cons (.sl (.int .i64)) (.cons (.int .i64) (.cons (.int .i64) .nil)))
abbrev tyP:Ty:=.cons tyF (.cons (.sl tyF) (.cons (.sl tyF) .nil))
end Go.Ab
end
section
namespace Go.Ab
section
variable{T:Tbl}[Zav T][Zca T]
theorem zm0(c:UInt8):Za T 185 [u8 c.toNat]=some (.b (isD c)):=by
 rw[zab Zca.h185 rfl,b185];by_cases h1:48≤c.toNat
 ·simp -implicitDefEqProofs[isD,h1]
 ·simp -implicitDefEqProofs[isD,h1]
theorem zjv(c:UInt8):Za T 186 [u8 c.toNat]=some (.b (isL c)):=by
 rw[zab Zca.h186 rfl,b186];by_cases h1:97≤c.toNat<;>by_cases h2:c.toNat≤122<;>by_cases h3:65≤c.toNat<;>by_cases h4:c.toNat≤90<;>by_cases h5:c.toNat=95 <;>
  simp -implicitDefEqProofs[isL,h1,h2,h3,h4,h5]
theorem zze(c:UInt8):Za T 187 [u8 c.toNat]=some (.b (isS c)):=by rw[p187,ztk]
theorem zzf(c:UInt8):Za T 177 [u8 c.toNat]=some (.i .i64 (Zi c)):=by
 have h1:=zm0 (T:=T) c;have h2:=zjv (T:=T) c;have h3:=zze (T:=T) c;rw[zab Zca.h177 rfl,b177];cases e1:isD c<;>cases e2:isL c<;>cases e3:isS c<;>simp -implicitDefEqProofs[Zi,h1,h2,h3,e1,e2,e3]
theorem zzg(k:Nat)(c:UInt8):Za T 188 [.i .i64 k,u8 c.toNat]=some (.b (Zau k c)):=by
 have h1:=zm0 (T:=T) c;have h2:=zjv (T:=T) c;rw[zab Zca.h188 rfl,b188];by_cases k1:k=1
 ·subst k1;cases e1:isD c<;>cases e2:isL c<;>simp -implicitDefEqProofs[Zau,h1,h2,e1,e2]
 ·have k1':¬ (k:Int)=1:=by omega
  by_cases k2:k=2
  ·subst k2;cases e1:isD c<;>cases e2:isL c<;>simp -implicitDefEqProofs[Zau,h1,h2,e1,e2]
  ·have k2':¬ (k:Int)=2:=by omega
   simp -implicitDefEqProofs[Zau,h1,h2,k1,k2,k1',k2']
theorem zzh(k:Nat):Za T 179 [.i .i64 k]=some (.i .i64 (Zar k)):=by
 rw[zab Zca.h179 rfl,b179];by_cases k1:k=1
 ·subst k1;simp -implicitDefEqProofs[Zar]
 ·have k1':¬ (k:Int)=1:=by omega
  by_cases k2:k=2
  ·subst k2;simp -implicitDefEqProofs[Zar]
  ·have k2':¬ (k:Int)=2:=by omega
   simp -implicitDefEqProofs[Zar,k1,k2,k1',k2']
theorem zr7(s:List UInt8)(hs:s.length≤1000000)(k F:Nat):∀n:Nat,(n≤s.length∧n+((s.drop n).takeWhile (Zau k)).length=F) →
  Zf T 0 0 (.norm false [5]) l178_0 ⟨[(0,.s s),(1,.i .i64 k),(5,.i .i64 n)],[],2⟩=some (.n,⟨[(5,.i .i64 F)],[],2⟩):=by
 refine zaq (fun n:Nat=>⟨[(0,.s s),(1,.i .i64 k),(5,.i .i64 n)],[],2⟩) _ (fun n=>s.length-n) _ ?_
 rintro n ⟨hn,hF⟩
 by_cases h0:n<s.length
 ·have hg:s[n]? = some (s[n]'h0):=Ya h0;have hd:=Yi h0;have hgo:=zzg (T:=T) k (s[n]'h0);have hw:IntKind.wrap .i64 ((n:Int)+1)=((n+1:Nat):Int):=zac _ (by omega);by_cases hc:Zau k (s[n]'h0)=true
  ·left;rw[hd,Yce hc]at hF;refine⟨n+1,⟨h0,by simp only[Ye]at hF;omega⟩,by show s.length-(n+1)<s.length-n;omega,?_,rfl⟩;simp -implicitDefEqProofs[l178_0,h0,hg,hgo,hc,hw]
  ·right;rw[hd,Ycf hc]at hF;simp only[Yag,Yx]at hF;subst hF;constructor<;>simp -implicitDefEqProofs[l178_0,h0,hg,hgo,hc]
 ·right;have:n=s.length:=by omega
  subst this;rw[Y7]at hF;simp only[List.takeWhile_nil,Yag,Yx]at hF;subst hF;constructor<;>simp -implicitDefEqProofs[l178_0]
theorem zvr(c:UInt8)(r:List UInt8)(hs:r.length≤100000)(k:Nat):Za T 178 [.s (c::r),.i .i64 k]=some (.i .i64 (Z4 k r)):=by
 have h:=zr7 (T:=T) (c::r) (by simp;omega) k (Z4 k r) 1 ⟨by simp,rfl⟩;rw[zab Zca.h178 rfl,b178];simp at h;simp -implicitDefEqProofs[h]
theorem zh9(c:UInt8)(n:Nat)(hn:n<256):c=UInt8.ofNat n↔c.toNat=n:=by
 constructor
 ·rintro rfl;simp;omega
 ·intro h;subst h;simp
theorem z3f(c:UInt8):isB c=(decide (c.toNat=32) || decide (c.toNat=9) || decide (c.toNat=10) || decide (c.toNat=13)):=by
 have e (n:Nat) (hn:n<256):decide (c=UInt8.ofNat n)=decide (c.toNat=n):=decide_eq_decide.2 (zh9 c n hn);unfold isB;rw[show (32:UInt8)=UInt8.ofNat 32 from rfl,show (9:UInt8)=UInt8.ofNat 9 from rfl,show (10:UInt8)=UInt8.ofNat 10 from rfl,show (13:UInt8)=UInt8.ofNat 13 from rfl,e 32 (by decide),e 9 (by decide),e 10 (by decide),e 13 (by decide)]
theorem z3g(l:List UInt8)(h:l.length≤1000000):Za T 184 [.s l,.s [10]]=some (.tup [.s (l.takeWhile (· != 10)),.s ((l.dropWhile (· != 10)).drop 1),.b (l.contains 10)]):=by rw[p184,zkh l h]
def wdR(w:Wd):List AV:=[.i .i64 w.1,.s w.2.1,.i .i64 w.2.2]
def Z8(l:List Wd):List (List AV):=l.map wdR
@[simp] theorem zed(l:List Wd):(Z8 l).length=l.length:=by simp[Z8]
@[simp] theorem zdw(l:List Wd):wkL (Z8 l)=Z8 l:=by
 induction l with
 | nil=>rfl
 | cons x l ih=>simpa[Z8,wdR,wkL,wkR]using ih
@[simp] theorem zfx(l:List Wd):((Z8 l).flatMap fun r=>r.flatMap rfA)=[]:=by
 induction l with
 | nil=>rfl
 | cons x l ih=>
  have e:Z8 (x::l)=wdR x::Z8 l:=rfl;rw[e,Ydp,ih];simp[wdR,rfA]
theorem zjw(l:List Wd)(k a:Nat)(t:List UInt8):wkL (List.take l.length (Z8 l)++[[AV.i .i64 k,.s t,.i .i64 a]])=Z8 (l++[(k,t,a)]):=by
 rw[Yb (by simp),show Z8 l++[[AV.i .i64 k,.s t,.i .i64 a]]=Z8 (l++[(k,t,a)]) by simp[Z8,wdR],zdw]
def Zn9(s:List UInt8)(i:Nat)(acc:List Wd):St:=
 ⟨[(0,.s s),(3,.ptr (.loc 3) 1 4 0 0),(4,.bs (.loc 4) 2 3 0 acc.length),(5,.i .i64 i)],[(.loc 3,⟨1,.str,4,[[.i .i64 0,.i .i64 0,.i .i64 0,.i .i64 0]]⟩),(.loc 4,⟨2,.own,3,Z8 acc⟩)],4⟩
def Zoa:Except Nat (List Wd)→Option (Ex×St)
 | .ok ws=>some (.n,⟨[(3,.ptr (.loc 3) 1 4 0 0),(4,.bs (.loc 4) 2 3 0 ws.length)],[(.loc 3,⟨1,.str,4,[[.i .i64 0,.i .i64 0,.i .i64 0,.i .i64 0]]⟩),(.loc 4,⟨2,.own,3,Z8 ws⟩)],4⟩)
 | .error e=>some (.r,⟨[(2,.sl [] .an),(3,.ptr (.loc 3) 1 4 0 0)],[(.loc 3,⟨1,.str,4,[[.i .i64 1,.i .i64 0,.i .i64 0,.i .i64 e]]⟩)],3⟩)
def Zm1(r:Except Nat (List Wd)):AV:=
 match r with
 | .ok ws=>.tup [.sl (Z8 ws) .an,.agg [.i .i64 0,.i .i64 0,.i .i64 0,.i .i64 0]]
 | .error e=>.tup [.sl [] .an,.agg [.i .i64 1,.i .i64 0,.i .i64 0,.i .i64 e]]
def Zin(s:List UInt8):Except Nat (List Wd):=if 4000<s.length then .error 4000 else Zdd (s.drop (Za6 false s)) (Za6 false s) []
def Zax(k:Int)(t:List UInt8):Bool:=
 match t with
 | []=>false
 | c::r=>decide (k≠0)&&decide ((Zi c:Int)=k)&&decide (Z4 (Zi c) r=r.length+1)&&decide (r.length+1≤Zar (Zi c))
theorem zm1(k a:Int)(t:List UInt8)(ht:t.length≤100000):Za T 172 [.agg [.i .i64 k,.s t,.i .i64 a]]=some (.b (Zax k t)):=by
 rw[zab Zca.h172 rfl,b172];cases t with
 | nil=>simp -implicitDefEqProofs[Zax]
 | cons c r=>
  simp only[Ye]at ht;have hk:=zzf (T:=T) c;have hf:=zvr (T:=T) c r (by omega) (Zi c);have hm:=zzh (T:=T) (Zi c);by_cases h0:k=0
  ·simp -implicitDefEqProofs[Zax,h0]
  ·by_cases h1:(Zi c:Int)=k
   ·subst h1;have h0':¬ Zi c=0:=by omega
    by_cases h2:Z4 (Zi c) r=r.length+1
    ·have h2':((Z4 (Zi c) r:Nat):Int)=(r.length:Int)+1:=by omega
     by_cases h3:r.length+1≤Zar (Zi c)
     ·have h3':(r.length:Int)+1≤(Zar (Zi c):Nat):=by omega
      simp -implicitDefEqProofs[Zax,h0',hk,hf,hm,h2,h2',h3,h3']
     ·have h3':¬ (r.length:Int)+1≤(Zar (Zi c):Nat):=by omega
      simp -implicitDefEqProofs[Zax,h0',hk,hf,hm,h2,h2',h3,h3']
    ·have h2':¬ ((Z4 (Zi c) r:Nat):Int)=(r.length:Int)+1:=by omega
     simp -implicitDefEqProofs[Zax,h0',hk,hf,hm,h2,h2']
   ·simp -implicitDefEqProofs[Zax,h0,hk,h1]
abbrev Wz:=Int×List UInt8×Int
def wzR(w:Wz):List AV:=[.i .i64 w.1,.s w.2.1,.i .i64 w.2.2]
def Zmi(l:List Wz):List (List AV):=l.map wzR
def Zo4(l:List Wz)(i:Nat)(b:BId):St:=
 ⟨[(3,.bs (.loc 3) 1 1 0 i),(6,.sl (Zmi l) .an),(7,.i .i64 l.length),(8,.i .i64 i)],[(.loc 3,⟨1,.own,1,Zr ((l.take i).map (·.2.1))⟩)],3⟩
end
end Go.Ab
end
section
namespace Go.Ab
structure Tr where
 t:Fz
 w:Fz
 h:Fz
 e:Fz
 y:List Fz
 ok:Bool
abbrev Znt(r:Tr):List AV:=[.b r.t.1,.sl (Zb r.t.2.1) .an,.sl (Zb r.t.2.2) .an,.b r.w.1,.sl (Zb r.w.2.1) .an,.sl (Zb r.w.2.2) .an,.b r.h.1,.sl (Zb r.h.2.1) .an,.sl (Zb r.h.2.2) .an,.b r.e.1,.sl (Zb r.e.2.1) .an,.sl (Zb r.e.2.2) .an,.sl (Zd r.y) .an,.b r.ok]
def Zen(l:List Tr):List (List AV):=l.map Znt
@[simp] theorem zaab:Zen []=[]:=rfl
structure Hs where
 l:List Tr
 t:Fz
 y:List Fz
abbrev ehs(h:Hs):AV:=.agg [.sl (Zen h.l) .an,.b h.t.1,.sl (Zb h.t.2.1) .an,.sl (Zb h.t.2.2) .an,.sl (Zd h.y) .an]
def Zih(l:List Fz):Bool:=l.all Zb0
def Tr.nums(r:Tr):List Fz:=[r.t,r.w,r.h,r.e]
def Zl2(h:Hs):Bool:=(h.l.all fun r=>Zih r.nums&&Zih r.y)&&(Zb0 h.t&&Zih h.y)
def Zmt(h:Hs):Bool:=(h.l.all fun r=>decide (r.y.length=h.y.length))&&(decide (1≤h.y.length)&&decide (h.y.length≤6))
def Zmu(r:Tr):Bool:=decide (0<fv r.w)&&decide (0<fv r.h)&&decide (fv r.h≤fv r.w)&&decide (0≤fv r.e)
def Zl3(h:Hs):Bool:=h.l.all Zmu
def Zmv(r:Tr)(at_:Fz)(y:List Fz):Bool:=if r.ok then decide (fv at_=fv r.t+fv r.h) else decide (fv at_=fv r.t)&&decide (y.map fv=r.y.map fv)
def Zlp(l:List Tr)(t:Fz)(y:List Fz):Fz×List Fz:=match l with | []=>(t,y) | r::_=>(r.t,r.y)
def Zk2:List Tr→Fz→List Fz→Bool
 | [],_,_=>true
 | r::l,t,y=>Zmv r (Zlp l t y).1 (Zlp l t y).2&&Zk2 l t y
def Zl4(h:Hs):Bool:=Zk2 h.l h.t h.y
def Zl5(h:Hs):Int:=if !Zl2 h then 1 else if !Zmt h then 2 else if 200<h.l.length then 3 else if !Zl3 h then 4 else if !Zl4 h then 5 else 0
def Znu(h:Hs):Bool:=decide (Zl5 h=0)
def Znv(r:Tr):Tr:=⟨fz (fv r.t),fz (fv r.w),fz (fv r.h),fz (fv r.e),nrm r.y,r.ok⟩
def Zlf(l:List Tr):List Tr:=(l.filter (·.ok)).map Znv
def Zot(h:Hs):List Fz:=(Zlf h.l).map (·.t)++[fz (fv h.t)]
def Zou(h:Hs):List (List Fz):=(Zlf h.l).map (·.y)++[nrm h.y]
def Zp3(h:Hs):List Fz:=(Zlf h.l).map (·.h)
structure HsS (h:Hs) (B:Nat):Prop where
 len:h.l.length≤1000
 t:fsz h.t≤B
 y:∀x∈h.y,fsz x≤B
 yl:h.y.length≤1000
 rt:∀r∈h.l,∀x∈r.nums,fsz x≤B
 ry:∀r∈h.l,∀x∈r.y,fsz x≤B
 rl:∀r∈h.l,r.y.length≤1000
end Go.Ab
end
section
namespace Go.Ab
theorem zox:∀(a b:List UInt32),a.length=b.length→val a=val b→a=b
 | [],[],_,_=>rfl
 | x::a,y::b,hl,hv=>by
  simp only[zak]at hv;have hx:=zal x;have hy:=zal y;have h1:x.toNat=y.toNat:=by omega
  have h2:val a=val b:=by omega
  rw[Yev.1 h1,zox a b (by simpa using hl) h2]
 | [],_::_,hl,_=>by simp at hl
 | _::_,[],hl,_=>by simp at hl
theorem zfw{x y:Nat}:Zcs x y=0↔x=y:=by
 grind[Zcs]
section
variable{T:Tbl}[Zac T][Zq T][Zw T][Zz T][Zs T][Zu T][Ze T][Zl T][Zv T][Za5 T]
theorem zr4(x:Fz)(hx:fsz x≤10000):Za T 208 [efz x]=some (.b (Zb0 x)):=by
 have hn:=zh6 (T:=T) x hx;have hs:=zdc (x:=x) (L:=10000) hx (by decide);have l1:=zf8 (fv x);have l2:=ze9 (fv x);unfold Zb0;have e':fz (fv x)=(decide ((fv x).num<0),ofN (fv x).num.natAbs,ofN (fv x).den):=rfl;rw[e']at hn ⊢;obtain⟨n,a,d⟩:=x;have la:=zd3 (n,a,d);have ld:=zek (n,a,d);simp only at la ld;generalize decide ((fv (n,a,d)).num<0)=m at *
 generalize ofN (fv (n,a,d)).num.natAbs=b at *
 generalize ofN (fv (n,a,d)).den=e at *
 have c1:=zgk (T:=T) a b (by omega) (by omega);have c2:=zgk (T:=T) d e (by omega) (by omega);rw[zab Za5.h208 rfl,b208];by_cases h1:n=m
 case neg=>
  have hd:decide ((n,a,d)=(m,b,e))=false:=by grind
  have hb:(n == m)=false:=by grind
  rw[hd];simp -implicitDefEqProofs[hn,hb]
 subst h1;by_cases h2:a.length=b.length
 case neg=>
  have hd:decide ((n,a,d)=(n,b,e))=false:=by
   grind
  have hb:((a.length:Int) == b.length)=false:=by grind
  rw[hd];simp -implicitDefEqProofs[hn,hb]
 by_cases h3:d.length=e.length
 case neg=>
  have hd:decide ((n,a,d)=(n,b,e))=false:=by
   grind
  have hb:((d.length:Int) == e.length)=false:=by grind
  rw[hd];simp -implicitDefEqProofs[hn,h2,hb]
 by_cases h4:val a=val b
 case neg=>
  have hd:decide ((n,a,d)=(n,b,e))=false:=by
   grind
  have hc:¬ Zcs (val a) (val b)=0:=fun h=>h4 (zfw.1 h);rw[hd];simp -implicitDefEqProofs[hn,h2,h3,c1,hc]
 have hab:=zox a b h2 h4;subst hab;have hk:Zcs (val a) (val a)=0:=zfw.2 rfl;rw[hk]at c1;by_cases h5:val d=val e
 case neg=>
  have hd:decide ((n,a,d)=(n,a,e))=false:=by
   grind
  have hc:¬ Zcs (val d) (val e)=0:=fun h=>h5 (zfw.1 h);rw[hd];simp -implicitDefEqProofs[hn,h3,c1,c2,hc]
 have hde:=zox d e h3 h5;subst hde;have hk2:Zcs (val d) (val d)=0:=zfw.2 rfl;rw[hk2]at c2;have hd:decide ((n,a,d)=(n,a,d))=true:=by simp
 simp -implicitDefEqProofs[hn,c1,c2]
def Zoy(a:List UInt32)(k i:Nat):St:=⟨[(0,.sl (Zb a) .an),(5,.sl (Zb (ofN (val a^i))) .an),(7,.i .i64 k),(8,.i .i64 i)],[],2⟩
def Zoz(q:Rat)(e:Int):Rat×Bool:=if -8≤e∧e≤8∧¬ (e<0∧q=0) then (Zmz q e,true) else (0,false)
end
end Go.Ab
end
section
namespace Go.Ab
@[simp] theorem zac9:ints []=[]:=rfl
section
variable{T:Tbl}[Zac T][Zq T][Zw T][Zz T][Zs T][Zu T][Ze T][Zl T][Zv T][Za5 T][Zco T]
def Zp0(t:Tp)(p:Nat)(x:Ins)(i:Nat):St:=
 ⟨[(1,.i .i64 p),(2,.ptr (.loc 2) 1 4 0 0),(5,.ptr (.loc 5) 2 6 0 0),(30,.sl (ints (Zii x)) .an),(31,.i .i64 (Zii x).length),(32,.i .i64 i)],
  [(.loc 2,⟨1,.str,4,[[.sl (Zja t.code) .an,.sl (ints t.outs) .an,.i .i64 t.dim,.i .i64 t.par]]⟩),(.loc 5,⟨2,.str,6,[Zmx x]⟩)],4⟩
end
end Go.Ab
end
section
namespace Go.Ab
section
variable{T:Tbl}[Zac T][Zq T][Zw T][Zz T][Zs T][Zu T][Ze T][Zl T][Zv T][Za5 T][Zco T]
structure Small (t:Tp):Prop where
 code:t.code.length≤4294967296
 outs:t.outs.length≤4294967296
 ns:∀i∈t.code,fsz i.n≤10000
 d1:-9223372036854775808≤t.dim
 d2:t.dim<9223372036854775808
def bxT(t:Tp):Box:=⟨1,.str,4,[[.sl (Zja t.code) .an,.sl (ints t.outs) .an,.i .i64 t.dim,.i .i64 t.par]]⟩
def Zp1(t:Tp)(i:Nat):St:=⟨[(1,.ptr (.loc 1) 1 4 0 0),(11,.i .i64 t.code.length),(12,.i .i64 i)],[(.loc 1,bxT t)],3⟩
def Zp2(t:Tp)(i:Nat):St:=⟨[(1,.ptr (.loc 1) 1 4 0 0),(22,.sl (ints t.outs) .an),(23,.i .i64 t.outs.length),(24,.i .i64 i)],[(.loc 1,bxT t)],3⟩
end
end Go.Ab
end
section
namespace Go.Ab
def Zm6(n:Int):Int:=if n<0 then 0 else if 4096<n then 4096 else n
abbrev bxG(g:Nat)(s p L:Int):Box:=⟨g,.str,3,[[.i .i64 s,.i .i64 p,.i .i64 L]]⟩
def Zmc(s:Int):Int:=IntKind.wrap .i64 (s+1)
def Zmd(p:Int)(x:Fz):Int:=if p<(Zc3 x:Int) then (Zc3 x:Int) else p
section
variable{T:Tbl}[Zac T][Zq T][Zw T][Zz T][Zs T][Zu T][Ze T][Zl T][Zv T][Za5 T][Za9 T][Zcd T][Zco T][Zb9 T][Zc2 T]
theorem zr5(x:Fz)(hx:fsz x≤10000):Za T 223 [efz x]=some (.i .i64 (Zc3 x)):=by
 have h1:=zd3 x;have h2:=zek x;have c1:=zg8 (T:=T) x.2.1 (by omega);have c2:=zg8 (T:=T) x.2.2 (by omega);have b1:=zey (x:=val x.2.1) (k:=10000) (Yc (zad x.2.1) (by omega));have b2:=zey (x:=val x.2.2) (k:=10000) (Yc (zad x.2.2) (by omega));have w:IntKind.wrap .i64 ((Z0 (val x.2.1):Int)+(Z0 (val x.2.2):Int))=((Zc3 x:Nat):Int):=by
  have e:((Zc3 x:Nat):Int)=(Z0 (val x.2.1):Int)+(Z0 (val x.2.2):Int):=by unfold Zc3;omega
  rw[e];exact zac _ (by omega)
 rw[zab Za9.h223 rfl,b223];generalize Zc3 x=S at *
 generalize Z0 (val x.2.1)=B1 at *
 generalize Z0 (val x.2.2)=B2 at *
 simp -implicitDefEqProofs[c1,c2,w]
def Zo0(l:List Fz)(i:Nat):St:=⟨[(3,.bs (.loc 3) 1 3 0 i),(6,.sl (Zd l) .an),(7,.i .i64 l.length),(8,.i .i64 i)],[(.loc 3,⟨1,.own,3,Zd (nrm (l.take i))⟩)],3⟩
structure PoS (x:PoF) (B:Nat):Prop where
 t:fsz x.t≤B
 y:∀u∈x.y,fsz u≤B
 p:∀u∈x.p,fsz u≤B
 yl:x.y.length≤1000
 pl:x.p.length≤1000
end
end Go.Ab
end
section
namespace Go.Ab
abbrev mD:AV:=.agg [.dead]
end Go.Ab
end
section
namespace Go.Ab
theorem zqt{n b:Nat}(h:Z0 n≤b):(ofN n).length≤b/32+1:=by
 refine zai ?_;unfold Z0 at h;split at h
 ·grind
 ·rename_i h0;have h1:n<2^(n.log2+1):=(Yeb h0).1 (Y1 _);have h3:(4294967296:Nat)^(b/32+1)=2^(32*(b/32+1)):=by rw[Yct]
  have h2:2^(n.log2+1)≤2^(32*(b/32+1)):=Ym (by decide) (by omega);omega
theorem z4d{q:Rat}{b:Nat}(h:Zlh q≤b):sz q≤b/32+1:=by
 unfold Zlh Zc3 fz at h;rw[zae,zae]at h;exact Yfc.2 ⟨zqt (Yc (Nat.le_add_right _ _) h),zqt (Yc (Nat.le_add_left _ _) h)⟩
structure PvS (P:Po) (B:Nat):Prop where
 t:sz P.t≤B
 y:∀q∈P.y,sz q≤B
 p:∀q∈P.p,sz q≤B
def Zks(lim:Nat)(P:Po):List Ins→List Rat→Int→Int→Int×Int
 | [],_,s,p=>(s,p)
 | i::r,D,s,p=>if (Zix P D i).2=false then (s,p) else if lim<Zlh (Zix P D i).1 then (Zmc s,Zmd p (fz (Zix P D i).1)) else Zks lim P r (D++[(Zix P D i).1]) (Zmc s) (Zmd p (fz (Zix P D i).1))
abbrev bxM:Box:=⟨3,.str,1,[[.ptr (.bor 0) 0 3 0 0]]⟩
abbrev bxP(g:Nat)(x:PoF):Box:=⟨g,.str,5,[[.b x.t.1,.sl (Zb x.t.2.1) .an,.sl (Zb x.t.2.2) .an,.sl (Zd x.y) .an,.sl (Zd x.p) .an]]⟩
abbrev bxF(g:Nat)(a b c d:Int):Box:=⟨g,.str,4,[[.i .i64 a,.i .i64 b,.i .i64 c,.i .i64 d]]⟩
def Zoq(Q:PoF)(L:Int)(code:List Ins)(i:Nat)(D:List Fz)(s p:Int)(kd:Kind):St:=
 ⟨[(3,.ptr (.loc 3) 3 1 0 0),(5,.ptr (.loc 5) 4 5 0 0),(7,.ptr (.loc 7) 5 4 0 0),(8,.bs (.loc 8) 6 3 0 i),(34,.sl (Zja code) .an),(35,.i .i64 code.length),(36,.i .i64 i)],
  [(.bor 0,bxG 0 s p L),(.loc 3,bxM),(.loc 5,bxP 4 Q),(.loc 7,bxF 5 0 0 0 0),(.loc 8,⟨6,kd,3,Zd D⟩)],8⟩
def Znk(n:Nat)(D:List Fz)(s p L:Int)(kd:Kind):Ex×St:=(.n,⟨[(7,.ptr (.loc 7) 3 4 0 0),(8,.bs (.loc 8) 4 3 0 n)],[(.bor 0,bxG 0 s p L),(.loc 7,bxF 3 0 0 0 0),(.loc 8,⟨4,kd,3,Zd D⟩)],6⟩)
def Znl(kind at_ s p L:Int):Ex×St:=(.r,⟨[(6,.sl [] .an),(7,.ptr (.loc 7) 3 4 0 0)],[(.bor 0,bxG 0 s p L),(.loc 7,bxF 3 kind 0 0 at_)],5⟩)
section
variable{T:Tbl}[Zac T][Zq T][Zw T][Zz T][Zs T][Zu T][Ze T][Zl T][Zv T][Za5 T][Za9 T][Zcd T][Zco T][Zb9 T][Zc2 T][Zfa T][Ze9 T]
def kdE(kd:Kind)(l:List Ins):Kind:=if l=[] then kd else .sh
def Znm(lim:Nat)(P:Po)(code l:List Ins)(D:List Rat)(s p:Int)(kd:Kind):Ex×St:=
 if (Zjy lim P l D).2.1=0 then Znk code.length (fzs (Zjy lim P l D).1) (Zks lim P l D s p).1 (Zks lim P l D s p).2 lim (kdE kd l)
 else Znl (Zjy lim P l D).2.1 (Zjy lim P l D).2.2 (Zks lim P l D s p).1 (Zks lim P l D s p).2 lim
end
end Go.Ab
end
section
namespace Go.Ab
def Znn(t:Tp)(y p:Nat):Bool:=okT t&&decide ((y:Int)=t.dim)&&decide ((p:Int)=t.par)
def Zkt(lim:Nat)(t:Tp)(P:Po):List Rat×Nat×Nat:=if Znn t P.y.length P.p.length=true then Zjy lim P t.code [] else ([],2,0)
def Zmo(t:Tp)(D:List Rat):List Rat:=t.outs.map (gI D)
def Zlz(lim:Nat)(t:Tp)(P:Po):List Rat×Nat×Nat:=if (Zkt lim t P).2.1=0 then (Zmo t (Zkt lim t P).1,0,0) else ([],(Zkt lim t P).2)
structure TpS (t:Tp):Prop where
 small:Small t
 ns:∀i∈t.code,fsz i.n≤1000
abbrev Zpr(k s g a:Int):AV:=.agg [.i .i64 k,.i .i64 s,.i .i64 g,.i .i64 a]
section
variable{T:Tbl}[Zac T][Zq T][Zw T][Zz T][Zs T][Zu T][Ze T][Zl T][Zv T][Za5 T][Za9 T][Zcd T][Zco T][Zb9 T][Zc2 T][Zfa T][Ze9 T]
def Zno(n:Int):Nat:=(Zm6 n).toNat
def Zps(D:List Fz)(outs:List Int)(E:List Fz)(i:Nat)(kd:Kind):St:=
 ⟨[(1,.sl (Zd D) .an),(5,.bs (.loc 5) 1 3 0 i),(20,.sl (ints outs) .an),(21,.i .i64 outs.length),(22,.i .i64 i)],[(.loc 5,⟨1,.own,3,Zd (E.take i)⟩)],3⟩
end
end Go.Ab
end
section
namespace Go.Ab
structure Sm where
 nm:List UInt8
 c:List Fz
 a:List (List Fz)
 b:List Fz
 e:List Fz
abbrev esm(s:Sm):AV:=.agg [.s s.nm,.sl (Zd s.c) .an,.sl (Zt s.a) .an,.sl (Zd s.b) .an,.sl (Zd s.e) .an]
def Zay:List (List Fz)→Nat→Bool
 | [],_=>true
 | r::l,i=>decide (r.length=i)&&Zay l (i+1)
def Zbg(s:Sm):Bool:=decide (1≤s.b.length)&&decide (s.b.length≤8)&&decide (s.c.length=s.b.length)&&decide (s.a.length=s.b.length)&&(decide (s.e.length=s.b.length) || decide (s.e.length=0))&&Zay s.a 0
def Zaf(x:Fz):Bool:=Zb0 x&&decide (Zc3 x≤190)
def Zci(m:List (List Fz)):Bool:=m.all fun r=>r.all Zaf
def sumF(l:List Fz):Rat:=l.foldl (fun s x=>s+fv x) 0
def Zbq(a:List (List Fz))(c:List Fz):Bool:=(a.zip c).all fun p=>decide (sumF p.1=fv p.2)
def Zbu(s:Sm):Int:=
 if !Zax 2 s.nm then 1 else if !Zbg s then 2 else if !(Zci s.a&&Zci [s.b,s.c,s.e]) then 3
 else if !Zbq s.a s.c then 4 else if sumF s.b≠1 then 5 else if s.e≠[]∧sumF s.e≠1 then 6 else 0
def okS(s:Sm):Bool:=decide (Zbu s=0)
structure SmS (s:Sm):Prop where
 nm:s.nm.length≤1000
 cl:s.c.length≤1000
 al:s.a.length≤1000
 bl:s.b.length≤1000
 el:s.e.length≤1000
 c:∀x∈s.c,fsz x≤300
 a:∀r∈s.a,r.length≤1000∧∀x∈r,fsz x≤300
 b:∀x∈s.b,fsz x≤300
 e:∀x∈s.e,fsz x≤300
structure Pb where
 t:Tp
 s:Sm
 p:List Fz
 bits:Int
abbrev epb(p:Pb):AV:=.agg [.sl (Zja p.t.code) .an,.sl (ints p.t.outs) .an,.i .i64 p.t.dim,.i .i64 p.t.par,.s p.s.nm,.sl (Zd p.s.c) .an,.sl (Zt p.s.a) .an,.sl (Zd p.s.b) .an,.sl (Zd p.s.e) .an,.sl (Zd p.p) .an,.i .i64 p.bits]
def okP(p:Pb):Bool:=okT p.t&&okS p.s&&decide ((p.p.length:Int)=p.t.par)
end Go.Ab
end
section
namespace Go.Ab
abbrev Zi3:Ty:=.cons .str (.cons (.sl tyF) (.cons (.sl (.sl tyF)) (.cons (.sl tyF) (.cons (.sl tyF) .nil))))
abbrev Zow:Ty:=.cons tyT (.cons Zi3 (.cons (.sl tyF) (.cons (.int .i64) .nil)))
abbrev Zm5:Ty:=.cons tyF (.cons tyF (.cons tyF (.cons tyF (.cons (.sl tyF) (.cons .bool .nil)))))
abbrev Zox:Ty:=.cons (.sl Zm5) (.cons tyF (.cons (.sl tyF) .nil))
theorem zru{cs:List AV}(h:Ok (.sl (.sl tyF)) cs):∃m:List (List Fz),wkR cs=[.sl (Zt m) .an]:=by
 obtain⟨els,f,rfl,_,_,he⟩:=h;obtain⟨m,hm⟩:=zmu els he;exact⟨m,by simp[wkR,wkA,hm]⟩
theorem zy2{cs:List AV}(h:Ok Zi3 cs):∃s:Sm,wkR cs=[.s s.nm,.sl (Zd s.c) .an,.sl (Zt s.a) .an,.sl (Zd s.b) .an,.sl (Zd s.e) .an]:=by
 obtain⟨c1,c1',rfl,⟨nm,rfl,_⟩,c2,c2',rfl,h2,c3,c3',rfl,h3,c4,c4',rfl,h4,c5,c5',rfl,h5,rfl⟩:=h;obtain⟨c,e2⟩:=zfu h2;obtain⟨a,e3⟩:=zru h3;obtain⟨b,e4⟩:=zfu h4;obtain⟨e,e5⟩:=zfu h5;refine⟨⟨nm,c,a,b,e⟩,?_⟩;simp only[zrw,e2,e3,e4,e5]
 rfl
theorem zvb{x:AV}(h:Zjc (true,Zi3) x):∃s:Sm,wkA x=esm s:=by
 obtain⟨cs,rfl,hc⟩:=h;obtain⟨s,e⟩:=zy2 hc;exact⟨s,by rw[wkA,e]⟩
end Go.Ab
end
section
namespace Go.Proofs.YtoaggbmfmgfnpaaGreatDoor
open Go Go.Ab Go.ChangeShapes Go.WideShapes Go.ChangeAt Go.RowKit
theorem Tryz.own:ownKnob Tryz.prog.godebug=none:=by kernel_rfl
theorem Tryz.laidOut:laidOutB Tryz.prog=true:=by kernel_rfl
theorem Tryz.mixed:Tryz.prog.follows .mixedOrders=true:=by kernel_rfl
theorem Tryz.rowed:mapsRowed Tryz.prog=true:=by kernel_rfl
theorem Tryz.heard:Tryz.prog.stopsHeard=true:=by kernel_rfl
theorem Tryz.enters:Tryz.prog.mayEnter=true:=by kernel_rfl
theorem Tryz.keys:Tryz.prog.plainKeys=Rows.spanStatesRow.plainKeys:=by kernel_rfl
theorem Tryz.lifts:Tryz.prog.liftsFinal=Rows.spanStatesRow.lifted:=by kernel_rfl
theorem Tryz.makes:Tryz.prog.make=some Rows.spanStatesRow.make:=by kernel_rfl
def laid2:List (String×DataW Unit):=[("unicode/utf8.acceptRanges",Rows.laid_unicode_utf8_acceptRanges),("unicode/utf8.first",Rows.laid_unicode_utf8_first)]
noncomputable def laidWorld(os:Os):World:=
 let put (h:Array Obj) (g:Nat) (cs:Array Value):Array Obj:=h.modify g fun
  | .cells _ t frozen=>.cells cs t frozen
  | o=>o
 let w0:=World.holding Tryz.prog os ⟨#[],#[],[]⟩
 let h1:=put w0.heap 1 (Lib.firstTab.map fun z=>Value.int .u8 z).toArray
 let h2:=put h1 2 ((List.range 16).flatMap fun i=>[Value.int .u8 (Lib.accLo i),Value.int .u8 (Lib.accHi i)]).toArray
 { w0 with heap:=h2 }
theorem laid_met(os:Os)(args:Array Value):laidMetH Tryz.prog laid2 ((laidWorld os).forCall (fun _ _=>0) ⟨#[],args,[]⟩).memory:=
 laidMetH_of_parts3 (fuel:=8) (laidMet_of_run' 8 (by kernel_rfl) (by kernel_rfl)) (by kernel_rfl) (by kernel_rfl)
theorem laid_shaped(os:Os):(laidWorld os).Shaped Tryz.prog:=World.shaped_of_RefB (by kernel_rfl) (by kernel_rfl)
theorem tab_all:TOk Tryz.prog nu (fun u=>lTab.lookup u):=lTab_ok (text_ok Tryz.mixed) (join_ok) (sign_ok) (str184_ok) (str344_ok) (str194_ok) (str361_ok)
end Go.Proofs.YtoaggbmfmgfnpaaGreatDoor
end
section
namespace Go.Ab
def Z6(c:UInt8):List UInt8→List (List UInt8)
 | []=>[[]]
 | b::l=>if b=c then []::Z6 c l else match Z6 c l with
  | []=>[[b]]
  | p::r=>(b::p)::r
theorem zc7(c:UInt8):∀l:List UInt8,(l.count c=0∧Lib.indexByte l c=-1∧Z6 c l=[l]) ∨
  ∃m:Nat,m<l.length∧Lib.indexByte l c=m∧Z6 c l=l.take m::Z6 c (l.drop (m+1))
 | []=>.inl ⟨rfl,rfl,rfl⟩
 | b::l=>by
  by_cases h:b=c
  ·right;subst h;refine⟨0,by simp,?_,?_⟩
   ·simp[Lib.indexByte]
   ·simp[Z6]
  ·have hb:(b == c)=false:=by simpa using h
   rcases zc7 c l with ⟨h1,h2,h3⟩ | ⟨m,h1,h2,h3⟩
   ·left;refine⟨by rw[List.count_cons_of_ne h,h1],by simp[Lib.indexByte,hb,h2],by simp[Z6,h,h3]⟩
   ·right;have hm:((m:Int) == -1)=false:=by simp
    refine⟨m+1,by simpa using h1,by simp[Lib.indexByte,hb,h2,hm],by simp[Z6,h,h3]⟩
theorem zb3(c:UInt8):∀l:List UInt8,(Z6 c l).length=l.count c+1
 | []=>rfl
 | b::l=>by
  have ih:=zb3 c l;by_cases h:b=c
  ·subst h;simp[Z6,ih]
  ·rw[List.count_cons_of_ne h,←ih];cases hs:Z6 c l with
   | nil=>rw[hs]at ih;simp at ih
   | cons p r=>simp[Z6,h,hs]
theorem z4h{T:Tbl}[Zc8 T](s:List UInt8)(c:UInt8):Za T 194 [.s s,.s [c]]=some (.i .i64 (Lib.indexByte s c)):=by rw[p194];rfl
theorem z4i{T:Tbl}[Zc8 T](s:List UInt8)(c:UInt8):Za T 361 [.s s,.s [c]]=some (.i .i64 ((s.count c:Nat):Int)):=by rw[p361];rfl
section
variable{T:Tbl}[Zc8 T][Zaw T]
theorem znr(s:List UInt8)(c:UInt8):Za T 362 [.s s,.s [c]]=some (.i .i64 (Lib.indexByte s c)):=by
 have h:=z4h (T:=T) s c;rw[zab Zaw.h362 rfl,b362];simp -implicitDefEqProofs[h]
def Zle(c:UInt8)(N:Nat)(ps:List (List UInt8))(s:List UInt8):St:=
 ⟨[(0,.s s),(1,.s [c]),(2,.i .i64 0),(3,.i .i64 ((N:Int)-1)),(9,.bs (.loc 31) 1 1 0 N),(10,.i .i64 ps.length)],[(.loc 31,⟨1,.own,1,Zr ps++List.replicate (N-ps.length) [.s []]⟩)],3⟩
theorem zta(c:UInt8)(all:List (List UInt8))(hN:all.length≤1000001):∀y:List (List UInt8)×List UInt8,(y.1++Z6 c y.2=all∧y.2.length≤1000000) →
  Zf T 0 0 (.norm false [0,9,10]) l354_0 (Zle c all.length y.1 y.2)=some (.n,⟨[(0,.s (all.getLastD [])),(9,.bs (.loc 31) 1 1 0 all.length),(10,.i .i64 ((all.length:Int)-1))],[(.loc 31,⟨1,.own,1,Zr all.dropLast++[[.s []]]⟩)],3⟩):=by
 refine zaq (fun y:List (List UInt8)×List UInt8=>Zle c all.length y.1 y.2) (fun y=>y.1++Z6 c y.2=all∧y.2.length≤1000000) (fun y=>y.2.length) (fun _=>_) ?_
 rintro⟨ps,s⟩ ⟨hall,hs⟩
 simp only at hall hs;have hi:=znr (T:=T) s c;have hlen:=congrArg List.length hall;rw[Yy,zb3]at hlen;unfold Zle;rcases zc7 c s with ⟨h1,h2,h3⟩ | ⟨m,h1,h2,h3⟩
 ·right;rw[h3]at hall;have e1:all.getLastD []=s:=by rw[←hall];simp
  have e2:all.dropLast=ps:=by rw[←hall];simp
  have e3:all.length-ps.length=1:=by omega
  have e4:¬ (ps.length:Int)<(all.length:Int)-1:=by omega
  have e5:(ps.length:Int)=(all.length:Int)-1:=by omega
  rw[e1,e2,e3,e5];have e6:List.replicate 1 [AV.s []]=[[AV.s []]]:=rfl;rw[e6];have hw:wkL (Zr ps++[[AV.s []]])=Zr ps++[[AV.s []]]:=by
   rw[zce,Ycz,←zce,ze2]
   rfl
  have hl2:(Zr ps++[[AV.s []]]).length=all.length:=by simp;omega
  clear hall e1 e2 h3;generalize Zr ps++[[AV.s []]]=B at *
  constructor<;>simp -implicitDefEqProofs[l354_0,hw,hl2]
 ·left;rw[h2]at hi;have hpos:0<(Z6 c (s.drop (m+1))).length:=by rw[zb3];omega
  have hlen2:=congrArg List.length hall;rw[h3,Yy,Ye]at hlen2;refine⟨(ps++[s.take m],s.drop (m+1)),⟨by rw[←hall,h3];simp,by simp;omega⟩,by simp;omega,?_,rfl⟩;have q1:(ps.length:Int)<(all.length:Int)-1:=by omega
  have q2:¬ (m:Int)<0:=by omega
  have q3:IntKind.wrap .i64 ((m:Int)+0)=m:=by rw[Int.add_zero];exact zac _ (by omega)
  have q3':IntKind.wrap .i64 (m:Int)=m:=zac _ (by omega);have q4:IntKind.wrap .i64 ((m:Int)+1)=((m+1:Nat):Int):=zac _ (by omega);have q5:IntKind.wrap .i64 ((ps.length:Int)+1)=((ps.length+1:Nat):Int):=zac _ (by omega);have q6:(m:Int)≤s.length:=by omega
  have q7:((m+1:Nat):Int)≤s.length:=by omega
  have q7':m+1≤s.length:=by omega
  have q8:(m:Int)+1≤s.length:=by omega
  have e:(Zr ps++List.replicate (all.length-ps.length) [AV.s []]).set ps.length [AV.s (s.take m)]=Zr (ps++[s.take m])++List.replicate (all.length-(ps.length+1)) [AV.s []]:=by
   rw[Yac _ _ (by simp),za1,Yb1,show all.length-ps.length=(all.length-(ps.length+1))+1 by omega,Ybm (n:=all.length-(ps.length+1)),Yb2,
    show Zr (ps++[s.take m])=Zr ps++[[AV.s (s.take m)]] by simp[Zr],Y8]
   rfl
  have hl:(Zr ps++List.replicate (all.length-ps.length) [AV.s []]).length=all.length:=by simp;omega
  have hk:wkL ((Zr ps++List.replicate (all.length-ps.length) [AV.s []]).set ps.length [AV.s (s.take m)])=(Zr ps++List.replicate (all.length-ps.length) [AV.s []]).set ps.length [AV.s (s.take m)]:=by
   rw[e,zce,Ycz,←zce,ze2];simp[wkR,wkA]
  have hg:(Zr ps++List.replicate (all.length-ps.length) [AV.s []])[ps.length]? = some [AV.s []]:=by
   rw[Yl (by simp),za1,Yb1,Ydg,if_pos (by omega)]
  simp only[Yy,Ye,Yag];rw[←e];have hnl:ps.length<all.length:=by omega
  have hnl':(ps.length:Int)<all.length:=by omega
  clear e hall h3 hpos hlen hlen2;generalize Zr ps++List.replicate (all.length-ps.length) [AV.s []]=B at *
  obtain⟨hb,hgE⟩:=Yu.1 hg;simp -implicitDefEqProofs[l354_0,hi,q1,q2,q3,q3',q4,q5,q6,q7,q7',q8,hl,hk,hg,hgE,hnl,hnl',h1]
theorem zxn(s:List UInt8)(c:UInt8)(hs:s.length≤1000000):Za T 346 [.s s,.s [c]]=some (.sl (Zr (Z6 c s)) .an):=by
 have hc:=z4i (T:=T) s c;have hcl:s.count c≤s.length:=List.count_le_length;have hlen:=zb3 c s;have h:=zta (T:=T) c (Z6 c s) (by omega) ([],s) ⟨by simp,hs⟩;unfold Zle at h;simp only[Yag,Ye2,Yv]at h;have e0:Zr []=[]:=rfl;rw[e0,Yaf,hlen]at h;have w1:IntKind.wrap .i64 ((s.count c:Int)+1)=((s.count c+1:Nat):Int):=zac _ (by omega);have w2:IntKind.wrap .i64 ((s.length:Int)+1)=((s.length+1:Nat):Int):=zac _ (by omega);have w3:IntKind.wrap .i64 (((s.count c+1:Nat):Int)-1)=((s.count c+1:Nat):Int)-1:=zac _ (by omega);have w4:IntKind.wrap .i64 (((s.count c+1:Nat):Int)-1+1)=((s.count c+1:Nat):Int):=by
  rw[Int.sub_add_cancel];exact zac _ (by omega)
 have mm:min ((s.count c+1:Nat):Int) ((s.length+1:Nat):Int)=((s.count c+1:Nat):Int):=by omega
 have hz:wkL (List.replicate (s.count c+1) [AV.s []])=List.replicate (s.count c+1) [AV.s []]:=by rw[zce,List.map_replicate];rfl
 obtain⟨L,hL⟩:∃L,L=Z6 c s:=⟨_,rfl⟩;rw[←hL]at h ⊢ hlen;have hne:L≠[]:=by intro e;rw[e]at hlen;simp at hlen
 have hset:(Zr L.dropLast++[[AV.s []]]).set (s.count c) [AV.s (L.getLastD [])]=Zr L:=by
  have h1:L.dropLast.length=s.count c:=by rw[Yc5];omega
  rw[Yac _ _ (by simp;omega),za1,h1,Yb1,Yb2];have h2:L=L.dropLast++[L.getLastD []]:=by
   rw[List.getLastD_eq_getLast?,List.getLast?_eq_some_getLast hne,Option.getD_some,Yd4]
  conv=>rhs;rw[h2]
  simp[Zr]
 have hl2:(Zr L.dropLast++[[AV.s []]]).length=s.count c+1:=by simp[Yc5];omega
 have hg:(Zr L.dropLast++[[AV.s []]])[s.count c]? = some [AV.s []]:=by
  rw[Yl (by simp[Yc5];omega)];simp[Yc5,hlen]
 have hr:(Zr L).length=s.count c+1:=by simp[hlen]
 have n1:¬ ((s.count c:Int)+1<0):=by omega
 have n2:(s.count c:Int)+1≤4294967296:=by omega
 have hwR:wkL (Zr L)=Zr L:=ze2 L;generalize s.count c=k at *
 generalize Zr L.dropLast++[[AV.s []]]=B at *
 obtain⟨hb,hgE⟩:=Yu.1 hg;generalize L.getLastD []=last at *
 generalize Zr L=R at *
 clear hL hne;have hk:(((k+1:Nat):Int)-1)=k:=by omega
 rw[hk]at h w3 w4;have tk:List.take (k+1) R=R:=Yb (by omega);have hnlt:¬ s.length<k:=by omega
 have nn:(0:Int)≤(k:Int)+1:=by omega
 have nt:((k:Int)+1).toNat=k+1:=by omega
 have nk:(k:Int)<(k:Int)+1:=by omega
 have nle:(k:Int)+1≤(R.length:Int):=by omega
 have nle2:(k:Int)≤(B.length:Int):=by omega
 have hg354:Za T 354 [.s s,.s [c],.i .i64 0,.i .i64 (-1)]=some (.sl R .an):=by
  rw[zab Zaw.h354 rfl,b354];simp -implicitDefEqProofs[hc,w1,w2,w3,w4,mm,hz,h,hset,hl2,hg,hgE,hr,n1,n2,tk,hnlt,nn,nt,nk,nle,nle2,hwR,hr]
 rw[zab Zaw.h346 rfl,b346];simp -implicitDefEqProofs[hg354,hwR]
end
end Go.Ab
end
section
namespace Go.Ab
abbrev flt(k a:Int):AV:=.agg [.i .i64 k,.i .i64 0,.i .i64 0,.i .i64 a]
def Zg7(c:UInt8):Bool:=c == 47 || c == 46
def Zaa:List UInt8→Nat
 | []=>0
 | c::r=>if Zg7 c then 0 else Zaa r+1
theorem zk4:∀s,Zaa s≤s.length
 | []=>Yd _
 | c::r=>by
  have:=zk4 r;simp only[Zaa];split
  ·omega
  ·simp only[Ye];omega
theorem zqe:∀s:List UInt8,Lib.indexAny s [47,46]=if Zaa s<s.length then (Zaa s:Int) else -1
 | []=>rfl
 | c::r=>by
  have ih:=zqe r;have hc:([47,46]:List UInt8).contains c=Zg7 c:=by
   rw[Ycb];simp only[Yci,Yt,Ya2,or_false,Zg7,Ya4,beq_iff_eq]
  have hle:=zk4 r;simp only[Lib.indexAny,hc,Zaa];by_cases hcut:Zg7 c=true
  ·simp[hcut]
  ·simp only[hcut,if_false,Ye,Yep,Y5];rw[ih];by_cases h:Zaa r<r.length
   ·have e:((Zaa r:Int) == -1)=false:=by simp
    simp[h,e]
   ·simp[h]
theorem zqf:∀(s:List UInt8),Zaa s<s.length→∃c,s[Zaa s]? = some c∧(c=47∨c=46)
 | [],h=>by simp at h
 | c::r,h=>by
  simp only[Zaa]at h ⊢;cases hc:Zg7 c with
  | true=>
   refine⟨c,by simp,?_⟩;simpa[Zg7]using hc
  | false=>
   rw[hc]at h;simp only[Y5,if_false,Ye,Yep]at h ⊢;obtain⟨d,h1,h2⟩:=zqf r h;exact⟨d,by simpa using h1,h2⟩
theorem z1c{l:List UInt8}(h0:¬ 0≤Z7 l):l.length≤60∧(ofN (rd l)).length≤60:=by
 have h1:Zdh 0 l<0:=by
  unfold Z7 at h0;split at h0
  ·omega
  ·omega
 obtain⟨h2,h3⟩:=zhb 0 l (Yp _) h1;refine⟨by omega,zai (k:=60) ?_⟩;have h4:=zxy h3;have h5:10^l.length≤10^60:=Ym (by decide) (by omega);exact Yq h4 (Yc h5 (by decide))
def Zf3(z:Int)(neg:Bool)(s:List UInt8)(c:UInt8)(at_:Nat):Rat×Int×Int:=
 let rest:=s.drop at_
 if 0≤Z7 rest then (0,1,Z7 rest+at_)
 else if c=47 then (if rd rest=0 then (0,2,at_) else (mkRat z (rd rest),0,0))
 else (mkRat (sg neg (z.natAbs*10^rest.length+rd rest)) (10^rest.length),0,0)
def Za0(s:List UInt8):Rat×Int×Int:=
 let first:=s.take (Zaa s)
 if 0≤Zcf first then (0,1,Zcf first+Zdc first)
 else if Zaa s<s.length then Zf3 (Zbi first) (s.head? = some 45) s (s.getD (Zaa s) 0) (Zaa s+1)
 else (mkRat (Zbi first) 1,0,0)
theorem z3b{n:Nat}(h:n≤60):(ofN (10^n)).length≤60:=by
 refine zai (k:=60) ?_;have h5:10^n≤10^60:=Ym (by decide) h;exact Ycw h5 (by decide)
theorem zvg(l:List UInt8):-1≤Zcf l∧Zcf l≤60∧0≤Zdc l∧Zdc l≤1:=by
 have key:∀l',-1≤Z7 l'∧Z7 l'≤60:=by
  intro l';unfold Z7;split
  ·omega
  ·exact⟨zpf 0 l',ziv 0 l' (by decide)⟩
 unfold Zcf Zdc;refine⟨(key _).1,(key _).2,?_,?_⟩<;>split<;>omega
section
variable{T:Tbl}[Zq T][Zw T][Zz T][Zs T][Zu T][Zn T][Ze T][Zl T][Zv T][Zbl T][Zc8 T][Zaw T][Zc6 T]
theorem zk5(n:Bool)(a d:List UInt32)(ha:a.length≤10000)(hd:d.length≤10000) :
  Za T 204 [wh n a,.sl (Zb d) .an]=some (.tup (if val d=0 then [efz (fz 0),.b false] else [efz (fz (mkRat (wv n a) (val d))),.b true])):=by
 have c0:=zfv (T:=T);have c1:=zev (T:=T) d (by omega);rw[zab Zbl.h204 rfl,b204];by_cases h:val d=0
 ·rw[if_pos h];rw[decide_eq_true h]at c1;generalize fz 0=Z at *
  simp -implicitDefEqProofs[c0,c1]
 ·rw[if_neg h];rw[decide_eq_false h]at c1;have c2:=zov (T:=T) n a d ha hd h;generalize fz (mkRat (wv n a) (val d))=R at *
  simp -implicitDefEqProofs[c1,c2]
theorem zry(l:List UInt8):Za T 345 [.s l,.s [45]]=some (.b (l.head? = some 45)):=by
 have h1:Za T 123 [.s l,.s [45]]=some (.b (l.head? = some 45)):=by
  rw[zab Zn.h123 rfl,b123];cases l with
  | nil=>simp -implicitDefEqProofs
  | cons c r=>
   have h2:(1:Int)≤(r.length:Int)+1:=by omega
   by_cases hc:c=45<;>simp -implicitDefEqProofs[h2,hc]
 rw[zab Zaw.h345 rfl,b345];simp -implicitDefEqProofs[h1]
theorem zju(s:List UInt8)(k:Nat)(hk:k≤s.length)(hs:s.length≤1000000):Za T 253 [.s s,.i .i64 k] =
  some (.tup (if 0≤Z7 (s.drop k) then [.sl [] .an,flt 1 (Z7 (s.drop k)+k)] else [.sl (Zb (ofN (rd (s.drop k)))) .an,flt 0 0])):=by
 have h1:=zh5 (T:=T) (s.drop k) (by rw[Yal];omega);have hk':(k:Int)≤s.length:=by omega
 rw[zab Zc6.h253 rfl,b253];by_cases h0:0≤Z7 (s.drop k)
 ·rw[if_pos h0]at h1 ⊢;have hw:Z7 (s.drop k)≤60:=by
   unfold Z7;split
   ·omega
   ·exact ziv 0 _ (by decide)
  have w1:IntKind.wrap .i64 (Z7 (s.drop k)+(k:Int))=Z7 (s.drop k)+(k:Int):=zac _ (by omega);generalize Z7 (s.drop k)=W at *
  simp -implicitDefEqProofs[hk,hk',h1,w1]
 ·rw[if_neg h0]at h1 ⊢;generalize ofN (rd (s.drop k))=R at *
  simp -implicitDefEqProofs[hk,hk',h1]
theorem zy4(n:Bool)(a:List UInt32)(s:List UInt8)(k:Nat)(ha:a.length≤10000)(hk:k≤s.length)(hs:s.length≤1000000):Za T 254 [wh n a,.s s,.i .i64 k] =
  some (.tup (if 0≤Z7 (s.drop k) then [efz (fz 0),flt 1 (Z7 (s.drop k)+k)] else if rd (s.drop k)=0 then [efz (fz 0),flt 2 k] else [efz (fz (mkRat (wv n a) (rd (s.drop k)))),flt 0 0])):=by
 have h1:=zju (T:=T) s k hk hs;have c0:=zfv (T:=T);rw[zab Zc6.h254 rfl,b254];by_cases h0:0≤Z7 (s.drop k)
 ·rw[if_pos h0]at h1 ⊢;generalize fz 0=Z at *
  generalize Z7 (s.drop k)+(k:Int)=W at *
  simp -implicitDefEqProofs[h1,c0]
 ·rw[if_neg h0]at h1 ⊢;have hl:=(z1c h0).2;have h2:=zk5 (T:=T) n a (ofN (rd (s.drop k))) ha (by omega);rw[zae]at h2;by_cases hz:rd (s.drop k)=0
  ·rw[if_pos hz]at h2 ⊢;clear hl h0;generalize fz 0=Z at *
   generalize ofN (rd (s.drop k))=R at *
   simp -implicitDefEqProofs[h1,h2]
  ·rw[if_neg hz]at h2 ⊢;clear hl h0;generalize fz (mkRat (wv n a) (rd (s.drop k)))=Z at *
   generalize ofN (rd (s.drop k))=R at *
   simp -implicitDefEqProofs[h1,h2]
theorem zrz(ht:∀n:Nat,n≤60→Za T 252 [.i .i64 n]=some (.sl (Zb (ofN (10^n))) .an))(n neg:Bool)(a:List UInt32)(s:List UInt8)(k:Nat)(ha:a.length≤1000)(hk:k≤s.length)(hs:s.length≤1000000) :
  Za T 255 [wh n a,.b neg,.s s,.i .i64 k] =
  some (.tup (if 0≤Z7 (s.drop k) then [efz (fz 0),flt 1 (Z7 (s.drop k)+k)] else [efz (fz (mkRat (sg neg (val a*10^(s.drop k).length+rd (s.drop k))) (10^(s.drop k).length))),flt 0 0])):=by
 have h1:=zju (T:=T) s k hk hs;have c0:=zfv (T:=T);rw[zab Zc6.h255 rfl,b255];by_cases h0:0≤Z7 (s.drop k)
 ·rw[if_pos h0]at h1 ⊢;generalize fz 0=Z at *
  generalize Z7 (s.drop k)+(k:Int)=W at *
  simp -implicitDefEqProofs[h1,c0]
 ·rw[if_neg h0]at h1 ⊢;obtain⟨hl60,hl⟩:=z1c h0;have h2:=ht (s.drop k).length hl60;have ht60:=z3b hl60;have h3:=zfz (T:=T) a (ofN (10^(s.drop k).length)) (by omega) (by omega);rw[zae]at h3;have hm:(ofN (val a*10^(s.drop k).length)).length≤1060:=by
   have e1:=zad a;have e2:=zbo (x:=val a) (y:=10^(s.drop k).length) (L:=1000) (M:=60) (by omega) ht60;omega
  have h4:=zv0 (T:=T) [ofN (val a*10^(s.drop k).length),ofN (rd (s.drop k))] (by simp) (by
   intro x hx;simp only[Yt,Ya2,or_false]at hx;rcases hx with rfl | rfl<;>omega)
  have e1:lls [ofN (val a*10^(s.drop k).length),ofN (rd (s.drop k))]=[[.sl (Zb (ofN (val a*10^(s.drop k).length))) .an],[.sl (Zb (ofN (rd (s.drop k)))) .an]]:=rfl;have e2:Zdw [ofN (val a*10^(s.drop k).length),ofN (rd (s.drop k))]=val a*10^(s.drop k).length+rd (s.drop k):=by simp[Zdw,zae]
  rw[e1,e2]at h4;have hsum:(ofN (val a*10^(s.drop k).length+rd (s.drop k))).length≤10000:=by
   have e3:=zb5 (x:=((val a*10^(s.drop k).length:Nat):Int)) (y:=((rd (s.drop k):Nat):Int)) (L:=1060) (by rw[Ydl];exact hm) (by rw[Ydl];omega);rw[←Ye4,Ydl]at e3;omega
  have h5:=zk5 (T:=T) neg (ofN (val a*10^(s.drop k).length+rd (s.drop k))) (ofN (10^(s.drop k).length)) hsum (by omega);have hne:¬ 10^(s.drop k).length=0:=Nat.ne_of_gt (Ybb (by decide));rw[zae,if_neg hne]at h5;unfold wv at h5;rw[zae]at h5;have hd:(s.drop k).length=s.length-k:=Yal;have w1:IntKind.wrap .i64 ((s.length:Int)-(k:Int))=(((s.drop k).length:Nat):Int):=by
   rw[hd];have:((s.length-k:Nat):Int)=(s.length:Int)-k:=by omega
   rw[this];exact zac _ (by omega)
  clear hl hl60 ht60 hm e1 e2 hsum hne h0 hd ht;generalize 10^(s.drop k).length=TN at *
  generalize (s.drop k).length=dl at *
  generalize fz (mkRat (sg neg (val a*TN+rd (s.drop k))) TN)=R at *
  generalize ofN (val a*TN+rd (s.drop k))=R1 at *
  generalize ofN (val a*TN)=R2 at *
  generalize ofN (rd (s.drop k))=R3 at *
  generalize ofN TN=R4 at *
  simp -implicitDefEqProofs[h1,h2,h3,h4,h5,w1]
theorem zy5(ht:∀n:Nat,n≤60→Za T 252 [.i .i64 n]=some (.sl (Zb (ofN (10^n))) .an))(s:List UInt8)(hs:s.length≤100000) :
  Za T 256 [.s s]=some (.tup [efz (fz (Za0 s).1),flt (Za0 s).2.1 (Za0 s).2.2]):=by
 have hi:Za T 344 [.s s,.s [47,46]]=some (.i .i64 (if Zaa s<s.length then (Zaa s:Int) else -1)):=by
  rw[p344,←zqe];simp only[prim344];rw[if_pos (by omega)]
 have hr:=ztg (T:=T) (s.take (Zaa s)) (by rw[Yai];omega);have hle:=zk4 s;have c0:=zfv (T:=T);rw[zab Zc6.h256 rfl,b256];by_cases hc:Zaa s<s.length
 ·rw[if_pos hc]at hi;have q1:(0:Int)≤(Zaa s:Int):=by omega
  have q2:(Zaa s:Int)≤s.length:=by omega
  have q3:¬ (Zaa s:Int)<0:=by omega
  by_cases h0:0≤Zcf (s.take (Zaa s))
  ·have eR:Za0 s=(0,1,Zcf (s.take (Zaa s))+Zdc (s.take (Zaa s))):=by simp only[Za0,if_pos h0]
   rw[eR];rw[if_pos h0]at hr;clear eR;simp only;generalize fz 0=Z at *
   generalize Zcf (s.take (Zaa s))+Zdc (s.take (Zaa s))=W at *
   simp -implicitDefEqProofs[hi,hr,c0,q1,q2,q3,hle]
  ·rw[if_neg h0]at hr;have hrl:=zqy h0;obtain⟨c,hg,hcc⟩:=zqf s hc;obtain⟨_,hgE⟩:=Yu.1 hg;have hd:s.getD (Zaa s) 0=c:=by rw[List.getD_eq_getElem?_getD,hg];rfl
   have eR:Za0 s=Zf3 (Zbi (s.take (Zaa s))) (decide (s.head? = some 45)) s c (Zaa s+1):=by simp only[Za0,if_neg h0,if_pos hc,hd]
   rw[eR];have w1:IntKind.wrap .i64 ((Zaa s:Int)+1)=((Zaa s+1:Nat):Int):=zac _ (by omega);have q4:(Zaa s:Int)<s.length:=by omega
   have px:=zry (T:=T) s;rcases hcc with rfl | rfl
   ·have ho:=zy4 (T:=T) (decide (Zbi (s.take (Zaa s))<0)) (ofN (Zbi (s.take (Zaa s))).natAbs) s (Zaa s+1) (by omega) (by omega) (by omega);rw[zg2]at ho;have ho2:Za T 254 [ez (Zbi (s.take (Zaa s))),.s s,.i .i64 ((Zaa s+1:Nat):Int)]=some (.tup [efz (fz (Zf3 (Zbi (s.take (Zaa s))) (decide (s.head? = some 45)) s 47 (Zaa s+1)).1),
      flt (Zf3 (Zbi (s.take (Zaa s))) (decide (s.head? = some 45)) s 47 (Zaa s+1)).2.1 (Zf3 (Zbi (s.take (Zaa s))) (decide (s.head? = some 45)) s 47 (Zaa s+1)).2.2]):=by
     rw[ho];simp only[Zf3,if_true];split
     ·rfl
     ·split<;>rfl
    clear ho eR hd;generalize Zf3 (Zbi (s.take (Zaa s))) (decide (s.head? = some 45)) s 47 (Zaa s+1)=R at *
    generalize fz R.1=Z at *
    have ec:((Zaa s+1:Nat):Int)=(Zaa s:Int)+1:=by omega
    rw[ec]at ho2 w1;clear hrl h0 c0 ht;generalize Zbi (s.take (Zaa s))=RZ at *
    simp -implicitDefEqProofs[hi,hr,q1,q2,q3,q4,hle,hc,hg,hgE,w1,ho2]
   ·have ho:=zrz (T:=T) ht (decide (Zbi (s.take (Zaa s))<0)) (decide (s.head? = some 45)) (ofN (Zbi (s.take (Zaa s))).natAbs) s (Zaa s+1) (by omega) (by omega) (by omega);rw[zae]at ho;have ho2:Za T 255 [ez (Zbi (s.take (Zaa s))),.b (decide (s.head? = some 45)),.s s,.i .i64 ((Zaa s+1:Nat):Int)]=some (.tup [efz (fz (Zf3 (Zbi (s.take (Zaa s))) (decide (s.head? = some 45)) s 46 (Zaa s+1)).1),
      flt (Zf3 (Zbi (s.take (Zaa s))) (decide (s.head? = some 45)) s 46 (Zaa s+1)).2.1 (Zf3 (Zbi (s.take (Zaa s))) (decide (s.head? = some 45)) s 46 (Zaa s+1)).2.2]):=by
     rw[ho];simp only[Zf3,show ¬ ((46:UInt8)=47) by decide,if_false];split<;>rfl
    clear ho eR hd;generalize Zf3 (Zbi (s.take (Zaa s))) (decide (s.head? = some 45)) s 46 (Zaa s+1)=R at *
    generalize fz R.1=Z at *
    have ec:((Zaa s+1:Nat):Int)=(Zaa s:Int)+1:=by omega
    rw[ec]at ho2 w1;clear hrl h0 c0 ht;generalize Zbi (s.take (Zaa s))=RZ at *
    generalize decide (s.head? = some 45)=hd45 at *
    simp -implicitDefEqProofs[hi,hr,q1,q2,q3,q4,hle,hc,hg,hgE,w1,px,ho2]
 ·rw[if_neg hc]at hi;have hcl:Zaa s=s.length:=by omega
  have htk:s.take (Zaa s)=s:=by rw[hcl];exact Yc8
  rw[htk]at hr;by_cases h0:0≤Zcf s
  ·have eR:Za0 s=(0,1,Zcf s+Zdc s):=by simp only[Za0,htk,if_pos h0]
   rw[eR];rw[if_pos h0]at hr;clear eR;simp only;generalize fz 0=Z at *
   generalize Zcf s+Zdc s=W at *
   simp -implicitDefEqProofs[hi,hr,c0]
  ·have eR:Za0 s=(mkRat (Zbi s) 1,0,0):=by simp only[Za0,htk,if_neg h0,if_neg hc]
   rw[eR];rw[if_neg h0]at hr;have hrl:=zqy h0;have h1:=zef (T:=T) 1 (by decide);have h2:=zk5 (T:=T) (decide (Zbi s<0)) (ofN (Zbi s).natAbs) (ofN 1) (by omega) (by rw[zel];decide);rw[zae,if_neg (by decide),zg2]at h2;clear hrl h0 c0 ht eR;simp only;generalize fz (mkRat (Zbi s) 1)=Z at *
   generalize Zbi s=RZ at *
   generalize ofN 1=O at *
   simp -implicitDefEqProofs[hi,hr,h1,h2]
end
end Go.Ab
end
section
namespace Go.Ab
def Zb3:List (List UInt8)→Nat→List Rat→List Rat×Int×Int
 | [],_,acc=>(acc,0,0)
 | w::ws,k,acc=>if (Za0 w).2.1=0 then Zb3 ws (k+w.length+1) (acc++[(Za0 w).1]) else ([],(Za0 w).2.1,(Za0 w).2.2+k)
def Zdv(s:List UInt8):List Rat×Int×Int:=if s=[] then ([],0,0) else Zb3 (Z6 44 s) 0 []
theorem zgj(w:List UInt8):((Za0 w).2.1=0∧(Za0 w).2.2=0)∨(((Za0 w).2.1=1∨(Za0 w).2.1=2)∧0≤(Za0 w).2.2∧(Za0 w).2.2≤w.length+62):=by
 have hle:=zk4 w;obtain⟨z1,z2,z3,z4⟩:=zvg (w.take (Zaa w));unfold Za0;simp only;split
 ·next h=>refine .inr ⟨.inl rfl,?_,?_⟩<;>simp only<;>omega
 ·split
  ·next h h2=>
   unfold Zf3;simp only;split
   ·next h3=>
    have:Z7 (w.drop (Zaa w+1))≤60:=by
     unfold Z7;split
     ·omega
     ·exact ziv 0 _ (by decide)
    refine .inr ⟨.inl rfl,?_,?_⟩<;>simp only<;>omega
   ·split
    ·split
     ·refine .inr ⟨.inr rfl,?_,?_⟩<;>simp only<;>omega
     ·left;simp
    ·left;simp
  ·left;simp
section
variable{T:Tbl}[Zac T][Zq T][Zw T][Zz T][Zs T][Zu T][Zn T][Zaz T][Ze T][Zl T][Zv T][Zbl T][Zc8 T][Zaw T][Zcd T][Zc6 T][Zav T][Zbf T][Zdb T]
theorem zy6(n:Nat)(hn:n≤60):Za T 252 [.i .i64 n]=some (.sl (Zb (ofN (10^n))) .an):=by
 have c1:=zef (T:=T) 10 (by decide);have hb:Z0 10=4:=by decide +kernel
 have c2:=zzv (T:=T) (ofN 10) n (by
  have:=zai (n:=10) (k:=1) (by decide);omega) (by rw[zae,hb];decide) (by rw[zae,hb];omega)
 rw[zae]at c2;rw[zab Zc6.h252 rfl,b252];generalize ofN (10^n)=R at *
 generalize ofN 10=N at *
 simp -implicitDefEqProofs[c1,c2]
theorem zmx(s:List UInt8)(hs:s.length≤100000):Za T 256 [.s s]=some (.tup [efz (fz (Za0 s).1),flt (Za0 s).2.1 (Za0 s).2.2]):=
 zy5 (T:=T) zy6 s hs
def Zjq(ws:List (List UInt8))(y:Nat×Nat×List Rat):St:=
 ⟨[(3,.ptr (.loc 3) 1 4 0 0),(4,.bs (.loc 4) 2 3 0 y.2.2.length),(5,.i .i64 y.2.1),(14,.sl (Zr ws) .an),(15,.i .i64 ws.length),(16,.i .i64 y.1)],
  [(.loc 3,⟨1,.str,4,[[.i .i64 0,.i .i64 0,.i .i64 0,.i .i64 0]]⟩),(.loc 4,⟨2,.own,3,Zd (fzs y.2.2)⟩)],4⟩
def Zim(r:List Rat×Int×Int):Option (Ex×St):=
 if r.2.1=0 then some (.n,⟨[(3,.ptr (.loc 3) 1 4 0 0),(4,.bs (.loc 4) 2 3 0 r.1.length)],[(.loc 3,⟨1,.str,4,[[.i .i64 0,.i .i64 0,.i .i64 0,.i .i64 0]]⟩),(.loc 4,⟨2,.own,3,Zd (fzs r.1)⟩)],4⟩)
 else some (.r,⟨[(2,.sl [] .an),(3,.ptr (.loc 3) 1 4 0 0)],[(.loc 3,⟨1,.str,4,[[.i .i64 r.2.1,.i .i64 0,.i .i64 0,.i .i64 r.2.2]]⟩)],3⟩)
theorem z3c(ws:List (List UInt8))(hl:ws.length≤1000000)(hw:∀w∈ws,w.length≤100000):∀y:Nat×Nat×List Rat,(y.1≤ws.length∧y.2.1≤y.1*100001∧y.2.2.length=y.1) →
  Zf T 0 0 (.norm false [3,4]) l275_0 (Zjq ws y)=Zim (Zb3 (ws.drop y.1) y.2.1 y.2.2):=by
 refine zaq (Zjq ws) (fun y=>y.1≤ws.length∧y.2.1≤y.1*100001∧y.2.2.length=y.1) (fun y=>ws.length-y.1) (fun y=>Zim (Zb3 (ws.drop y.1) y.2.1 y.2.2)) ?_
 rintro⟨i,k,acc⟩ ⟨hi,hk,ha⟩
 simp only at hi hk ha ⊢;by_cases h0:i<ws.length
 ·have hm:=Yj h0;have hwl:=hw _ hm;have hg:(Zr ws)[i]? = some [.s (ws[i]'h0)]:=by simp[Zr,h0]
  have hil:i<(Zr ws).length:=by simpa using h0
  have hil':(i:Int)<ws.length:=by omega
  obtain⟨_,hgE⟩:=Yu.1 hg;have hwR:=ze2 ws;have c:=zmx (T:=T) (ws[i]'h0) hwl;have hf:=zgj (ws[i]'h0);have hdr:ws.drop i=ws[i]'h0::ws.drop (i+1):=Yi h0;have hws:=zbs h0 (by omega);generalize ws[i]'h0=w at *
  have hml:(fzs acc).length=i:=by rw[zdh,ha]
  have hb4:i≤4294967295:=by omega
  rcases hf with ⟨f1,f2⟩ | ⟨f1,f2,f3⟩
  ·left;have hp:=zcx hml (fz (Za0 w).1);have ef:fzs (acc++[(Za0 w).1])=fzs acc++[fz (Za0 w).1]:=by simp[fzs]
   have w1:IntKind.wrap .i64 ((w.length:Int)+1)=(w.length:Int)+1:=zac _ (by omega);have w2:IntKind.wrap .i64 ((k:Int)+((w.length:Int)+1))=((k+w.length+1:Nat):Int):=by
    have:((k+w.length+1:Nat):Int)=(k:Int)+((w.length:Int)+1):=by omega
    rw[this];exact zac _ (by omega)
   refine⟨(i+1,k+w.length+1,acc++[(Za0 w).1]),⟨by omega,by simp only;omega,by simp[ha]⟩,by simp only;omega,?_,?_⟩
   ·unfold Zjq;simp only[Yy,Ye,Yag,ha];rw[ef];rw[f1,f2]at c;clear hdr ef hw f1 f2;generalize fz (Za0 w).1=X at *
    generalize fzs acc=M at *
    generalize Zr ws=R at *
    simp -implicitDefEqProofs[l275_0,h0,hil,hil',hg,hgE,c,hws,w1,w2,hml,hb4,hp,hwR]
   ·simp only;rw[hdr,Zb3,if_pos f1]
  ·right;have hne:¬ (Za0 w).2.1=0:=by omega
   have er:Zb3 (ws.drop i) k acc=([],(Za0 w).2.1,(Za0 w).2.2+k):=by rw[hdr,Zb3,if_neg hne]
   rw[er];unfold Zim Zjq;simp only[ha];rw[if_neg hne];have w1:IntKind.wrap .i64 ((Za0 w).2.2+(k:Int))=(Za0 w).2.2+(k:Int):=zac _ (by omega);clear hdr er hw;generalize fz (Za0 w).1=X at *
   generalize (Za0 w).2.1=K at *
   generalize (Za0 w).2.2=A at *
   generalize fzs acc=M at *
   generalize Zr ws=R at *
   rcases f1 with rfl | rfl<;>(constructor<;>simp -implicitDefEqProofs[l275_0,h0,hil,hil',hg,hgE,c,w1])
 ·right;have hi2:i=ws.length:=by omega
  subst hi2;rw[Y7,Zb3];unfold Zim Zjq;simp only[if_true,ha];have hn:¬ ws.length<(Zr ws).length:=by simp
  generalize fzs acc=M at *
  generalize Zr ws=R at *
  generalize ws.length=n at *
  constructor<;>simp -implicitDefEqProofs[l275_0]
theorem zmy:∀(ws:List (List UInt8)) (k:Nat) (acc:List Rat),(Zb3 ws k acc).2.1≠0→(Zb3 ws k acc).1=[]
 | [],_,_,h=>by simp[Zb3]at h
 | w::ws,k,acc,h=>by
  unfold Zb3 at h ⊢;split at h
  ·next h1=>rw[if_pos h1];exact zmy ws _ _ h
  ·next h1=>rw[if_neg h1]
theorem zqg:∀(ws:List (List UInt8)) (k:Nat) (acc:List Rat),(Zb3 ws k acc).2.1=0→(Zb3 ws k acc).2.2=0
 | [],_,_,h=>rfl
 | w::ws,k,acc,h=>by
  unfold Zb3 at h ⊢;split at h
  ·next h1=>rw[if_pos h1];exact zqg ws _ _ h
  ·next h1=>exact absurd h h1
theorem zqh(s:List UInt8)(hs:s.length≤100000) :
  Za T 275 [.s s]=some (.tup [.sl (Zd (fzs (Zdv s).1)) .an,flt (Zdv s).2.1 (Zdv s).2.2]):=by
 rw[zab Zdb.h275 rfl,b275];unfold Zdv;by_cases h0:s=[]
 ·subst h0;have e0:fzs []=[]:=rfl;simp only[if_true,e0,za8];simp -implicitDefEqProofs
 ·rw[if_neg h0];have hpl:∀(l:List UInt8) (w:List UInt8),w∈Z6 44 l→w.length≤l.length:=by
   intro l
   induction l with
   | nil=>intro w hw;simp[Z6]at hw;simp[hw]
   | cons b l ih=>
    intro w hw;unfold Z6 at hw;split at hw
    ·rcases Yt.1 hw with rfl | hw
     ·simp
     ·have:=ih w hw;simp;omega
    ·cases hsp:Z6 44 l with
     | nil=>rw[hsp]at hw;simp at hw;simp[hw]
     | cons p r=>
      rw[hsp]at hw ih;rcases Yt.1 hw with rfl | hw
      ·have:=ih p Yz;simp;omega
      ·have:=ih w (Yn _ hw);simp;omega
  have hcl:(Z6 44 s).length≤s.length+1:=by
   rw[zb3];have:s.count 44≤s.length:=List.count_le_length;omega
  have c:=zxn (T:=T) s 44 (by omega);have h:=z3c (T:=T) (Z6 44 s) (by omega) (fun w hw=>by have:=hpl s w hw;omega) (0,0,[]) ⟨Yp _,Yp _,rfl⟩;have hnil:=zmy (Z6 44 s) 0 [];have hat:=zqg (Z6 44 s) 0 [];simp only[Yaa]at h;unfold Zjq at h;have e0:fzs []=[]:=rfl;simp only[e0,za8,Yv,Yag]at h;generalize Zb3 (Z6 44 s) 0 []=r at *
  unfold Zim at h;have hsl:=za1 (Z6 44 s);have hwR:=ze2 (Z6 44 s);generalize Zr (Z6 44 s)=R at *
  generalize (Z6 44 s).length=n at *
  by_cases hr:r.2.1=0
  ·rw[if_pos hr]at h;have ha:=hat hr;rw[hr,ha];have hml:(fzs r.1).length=r.1.length:=zdh r.1;generalize fzs r.1=M at *
   generalize r.1.length=m at *
   have ht:List.take m M=M:=Yb (by omega);simp -implicitDefEqProofs[h0,c,hsl,h,ht,hml,hwR]
  ·rw[if_neg hr]at h;rw[hnil hr];simp only[e0,za8];simp -implicitDefEqProofs[h0,c,hsl,h,hwR]
end
end Go.Ab
end
section
namespace Go.Ab
def Dig(l:List UInt8):Prop:=∀c∈l,48≤c.toNat∧c.toNat≤57
def Zov(l:List UInt8):Prop:=∀c∈l,Zg7 c=false
theorem zi4{n k d:Nat}(h:(ofN n).length≤k)(hk:4294967296^k<10^(d+1)):(Zam n).length≤d+1:=by
 refine zi0 ?_;have h1:=zax (ofN n);rw[zae]at h1;have h2:4294967296^(ofN n).length≤4294967296^k:=Ym (by decide) h;omega
end Go.Ab
end
section
namespace Go.Ab
def Zdy(c:Fz)(r:List Fz):List UInt8:=Z3 (fv c)++[124]++List.intercalate [44] (Zat r)
def Ze2(s:Sm):List (List UInt8):=
 [s.nm]++(s.c.zip s.a).map (fun p=>Zdy p.1 p.2)++[[98,32]++List.intercalate [44] (Zat s.b)]++(if s.e=[] then [] else [[101,32]++List.intercalate [44] (Zat s.e)])
def textS(s:Sm):List UInt8:=List.intercalate [10] (Ze2 s)
structure Rd where
 rest:List UInt8
 at_:Nat
 over:Bool
def hdC(c:UInt8)(l:List UInt8):List UInt8:=l.takeWhile (· != c)
def tlC(c:UInt8)(l:List UInt8):List UInt8:=(l.dropWhile (· != c)).drop 1
def Zy(r:Rd):List UInt8:=if r.over then [] else hdC 10 r.rest
def Zag(r:Rd):Rd:=if r.over then r else ⟨tlC 10 r.rest,r.at_+(hdC 10 r.rest).length+(if r.rest.contains 10 then 1 else 0),!r.rest.contains 10⟩
def shF(f:Int×Int)(b:Int):Int×Int:=if f=(0,0) then f else (f.1,f.2+b)
def Zdj(l:List UInt8)(from_:Int):Rat×List Rat×Int×Int:=
 if (Za0 (hdC 124 l)).2≠(0,0) then ((Za0 (hdC 124 l)).1,[],shF (Za0 (hdC 124 l)).2 from_)
 else ((Za0 (hdC 124 l)).1,(Zdv (tlC 124 l)).1,shF (Zdv (tlC 124 l)).2 (from_+(hdC 124 l).length+1))
def Zfp(c:UInt8)(r:Rd):List Rat×Int×Int:=
 if (Zy r).take 2=[c,32] then ((Zdv ((Zy r).drop 2)).1,shF (Zdv ((Zy r).drop 2)).2 (r.at_+2)) else ([],1,r.at_)
end Go.Ab
end
section
namespace Go.Ab
theorem zxj(l:List Fz)(x:Fz):sumF (l++[x])=sumF l+fv x:=by simp[sumF]
theorem zit(l:List Fz){i:Nat}(h:i<l.length):sumF (l.take (i+1))=sumF (l.take i)+fv (l[i]'h):=by
 rw[Yap h,zxj]
theorem ziu{l:List Fz}{B:Nat}(hw:∀x∈l,fsz x≤B)(hB:1≤B):∀i,i≤l.length→sz (sumF (l.take i))≤i*(B+1)+1
 | 0,_=>by
  grind[sumF,z4r]
 | i+1,hi=>by
  have ih:=ziu hw hB i (by omega);rw[zit l hi];have h1:=zx2 (sumF (l.take i)) (fv (l[i]'hi));have h3:=zdc (hw _ (Yj hi)) hB
  grind
theorem zcy{x:Fz}(h:Zaf x=true):fsz x≤6:=by
 unfold Zaf at h;simp only[Yr,decide_eq_true_eq]at h;obtain⟨h1,h2⟩:=h;unfold Zb0 at h1;have e:x=fz (fv x):=by grind
 rw[e]at h2 ⊢;have:=z4d (q:=fv x) (b:=190) h2;rw[zbe];omega
section
variable{T:Tbl}[Zac T][Zq T][Zw T][Zz T][Zs T][Zu T][Ze T][Zl T][Zv T][Za5 T][Za9 T][Zcd T][Zco T][Zb9 T][Zc2 T][Zfa T][Ze9 T][Zad T]
def Zkx(l:List Fz)(i:Nat):St:=⟨[(2,.ptr (.loc 2) 1 3 0 0),(3,.ptr (.loc 3) 2 3 0 0),(7,.sl (Zd l) .an),(8,.i .i64 l.length),(9,.i .i64 i)],
 [(.loc 2,⟨1,.str,3,[Zdx]⟩),(.loc 3,⟨2,.str,3,[Zdi (fz (sumF (l.take i)))]⟩)],4⟩
theorem z0g(l:List Fz){B:Nat}(hw:∀x∈l,fsz x≤B)(hB:1≤B)(hS:l.length*(B+1)+1≤1000) :
  Zf T 0 0 (.norm false [2,3]) l562_0 (Zkx l 0)=some (.n,⟨[(2,.ptr (.loc 2) 1 3 0 0),(3,.ptr (.loc 3) 2 3 0 0)],[(.loc 2,⟨1,.str,3,[Zdx]⟩),(.loc 3,⟨2,.str,3,[Zdi (fz (sumF l))]⟩)],4⟩):=by
 refine zay (Zkx l) l.length _ (fun i hi=>?_) ?_
 ·have hlen:l.length*1≤1000:=Yc (Yaj _ (show 1≤B+1 by omega)) (by omega);have hBB:B+1≤1000:=Yc (Ycd _ (show 0<l.length by omega)) (by omega);have hws:=zbs hi (by omega);have ha1:=hw _ (Yj hi);have s1:=ziu hw hB i (by omega);have s2:i*(B+1)≤l.length*(B+1):=Yw _ (by omega);have c2:=zqj (T:=T) (fz (sumF (l.take i))) (l[i]'hi) (by rw[zbe];omega) (by omega);rw[zcz,←zit l hi]at c2;unfold Zkx;simp -implicitDefEqProofs[l562_0,hi,hws,c2]
 ·unfold Zkx;constructor<;>simp -implicitDefEqProofs[l562_0]
theorem zgo(l:List Fz){B:Nat}(hw:∀x∈l,fsz x≤B)(hB:1≤B)(hS:l.length*(B+1)+1≤1000) :
  Za T 562 [.sl (Zd l) .an]=some (efz (fz (sumF l))):=by
 have h0:=zfv (T:=T);have h:=z0g (T:=T) l hw hB hS;unfold Zkx at h;have e0:sumF (l.take 0)=0:=rfl;rw[e0]at h;simp only[Yv]at h;rw[zab Zad.h562 rfl,b562];simp -implicitDefEqProofs[h0,h]
def Zhg(m:List (List Fz))(r:List Fz)(j i:Nat):St:=⟨[(7,.sl (Zt m) .an),(8,.i .i64 m.length),(9,.i .i64 j),(13,.sl (Zd r) .an),(14,.i .i64 r.length),(15,.i .i64 i)],[],2⟩
theorem zxk(m:List (List Fz))(r:List Fz)(j:Nat)(hl:r.length≤1000)(hw:∀x∈r,fsz x≤1000) :
  Zf T 0 2 (.norm false [7,8,9]) l560_0 (Zhg m r j 0)=if (r.drop 0).all Zaf=true then some (.n,⟨[(7,.sl (Zt m) .an),(8,.i .i64 m.length),(9,.i .i64 j)],[],2⟩) else some (.r,⟨[(2,.b false)],[],2⟩):=by
 refine za0 (Zhg m r j) r.length (fun i=>if (r.drop i).all Zaf=true then some (.n,⟨[(7,.sl (Zt m) .an),(8,.i .i64 m.length),(9,.i .i64 j)],[],2⟩) else some (.r,⟨[(2,.b false)],[],2⟩)) (fun i hi=>?_) ?_
 ·have hws:=zbs hi (by omega);have hx:=hw _ (Yj hi);have c1:=zr4 (T:=T) (r[i]'hi) (by omega);have c2:=zr5 (T:=T) (r[i]'hi) (by omega);have key:(r.drop i).all Zaf=(Zaf (r[i]'hi)&&(r.drop (i+1)).all Zaf):=by rw[Yi hi,Yb6]
  have hn:Zaf (r[i]'hi)=(Zb0 (r[i]'hi)&&decide (Zc3 (r[i]'hi)≤190)):=rfl;by_cases h1:Zb0 (r[i]'hi)=true
  ·by_cases h2:Zc3 (r[i]'hi)≤190
   ·left;refine⟨?_,by grind⟩;have h3:¬ (190:Int)<Zc3 (r[i]'hi):=by omega
    unfold Zhg;simp -implicitDefEqProofs[l560_0,hi,hws,c1,c2,h1,h3]
   ·right;have h3:(190:Int)<Zc3 (r[i]'hi):=by omega
    rw[if_neg (by grind)];unfold Zhg;constructor<;>simp -implicitDefEqProofs[l560_0,hi,c1,c2,h1,h3]
  ·right;have h1':Zb0 (r[i]'hi)=false:=by grind
   rw[if_neg (by grind)];unfold Zhg;constructor<;>simp -implicitDefEqProofs[l560_0,hi,c1,h1']
 ·simp only[Y7,Yej,if_true];unfold Zhg;constructor<;>simp -implicitDefEqProofs[l560_0]
def Zh2(m:List (List Fz))(i:Nat):St:=⟨[(7,.sl (Zt m) .an),(8,.i .i64 m.length),(9,.i .i64 i)],[],2⟩
theorem zxl(m:List (List Fz))(hl:m.length≤1000)(hw:∀r∈m,r.length≤1000∧∀x∈r,fsz x≤1000) :
  Zf T 0 0 (.norm false []) l560_1 (Zh2 m 0)=if Zci (m.drop 0)=true then some (.n,⟨[],[],2⟩) else some (.r,⟨[(2,.b false)],[],2⟩):=by
 refine za0 (Zh2 m) m.length (fun i=>if Zci (m.drop i)=true then some (.n,⟨[],[],2⟩) else some (.r,⟨[(2,.b false)],[],2⟩)) (fun i hi=>?_) ?_
 ·have hws:=zbs hi (by omega);obtain⟨h1,h2⟩:=hw _ (Yj hi);have h:=zxk (T:=T) m (m[i]'hi) i h1 h2;have key:Zci (m.drop i)=((m[i]'hi).all Zaf&&Zci (m.drop (i+1))):=by grind[Zci,List.drop_eq_getElem_cons]
  unfold Zhg at h;rw[Yaa]at h;simp only[Yv]at h;by_cases hr:(m[i]'hi).all Zaf=true
  ·left;rw[if_pos hr]at h;refine⟨?_,by grind⟩;unfold Zh2;simp -implicitDefEqProofs[l560_1,hi,hws,h]
  ·right;rw[if_neg hr]at h;rw[if_neg (by grind)];unfold Zh2;constructor<;>simp -implicitDefEqProofs[l560_1,hi,h]
 ·have e:Zci []=true:=rfl;simp only[Y7,e,if_true];unfold Zh2;constructor<;>simp -implicitDefEqProofs[l560_1]
theorem ze8(m:List (List Fz))(hl:m.length≤1000)(hw:∀r∈m,r.length≤1000∧∀x∈r,fsz x≤1000):Za T 560 [.sl (Zt m) .an]=some (.b (Zci m)):=by
 have h:=zxl (T:=T) m hl hw;unfold Zh2 at h;rw[Yaa]at h;simp only[Yv]at h;rw[zab Zad.h560 rfl,b560];cases hn:Zci m with
 | true=>rw[hn]at h;simp at h;simp -implicitDefEqProofs[h]
 | false=>rw[hn]at h;simp at h;simp -implicitDefEqProofs[h]
def Zh3(a:List (List Fz))(i:Nat):St:=⟨[(43,.sl (Zt a) .an),(44,.i .i64 a.length),(45,.i .i64 i)],[],2⟩
theorem zs9(a:List (List Fz))(hl:a.length≤1000) :
  Zf T 0 0 (.norm false []) l559_0 (Zh3 a 0)=if Zay (a.drop 0) 0=true then some (.n,⟨[],[],2⟩) else some (.r,⟨[(2,.b false)],[],2⟩):=by
 refine za0 (Zh3 a) a.length (fun i=>if Zay (a.drop i) i=true then some (.n,⟨[],[],2⟩) else some (.r,⟨[(2,.b false)],[],2⟩)) (fun i hi=>?_) ?_
 ·have hws:=zbs hi (by omega);have key:Zay (a.drop i) i=(decide ((a[i]'hi).length=i)&&Zay (a.drop (i+1)) (i+1)):=by rw[Yi hi,Zay]
  by_cases hr:(a[i]'hi).length=i
  ·left;refine⟨?_,by grind⟩;unfold Zh3;simp -implicitDefEqProofs[l559_0,hi,hws,hr]
  ·right;have hr':¬ ((a[i]'hi).length:Int)=i:=by omega
   rw[if_neg (by grind)];unfold Zh3;constructor<;>simp -implicitDefEqProofs[l559_0,hi,hr']
 ·have e:Zay [] a.length=true:=rfl;simp only[Y7,e,if_true];unfold Zh3;constructor<;>simp -implicitDefEqProofs[l559_0]
theorem znq(s:Sm)(hs:SmS s):Za T 559 [esm s]=some (.b (Zbg s)):=by
 have h:=zs9 (T:=T) s.a hs.al;unfold Zh3 at h;rw[Yaa]at h;have l4:=hs.el;rw[zab Zad.h559 rfl,b559];unfold Zbg;obtain⟨nm,c,a,b,e⟩:=s;by_cases p1:b.length<1
 ·have q2:b=[]:=Ya6.1 (by omega);subst q2;simp -implicitDefEqProofs[]
 have p1':1≤b.length:=by omega
 have m2:¬ (b.length:Int)<1:=by omega
 by_cases p2:8<b.length
 ·have q2:¬ b.length≤8:=by omega
  have m3:(8:Int)<b.length:=by omega
  simp -implicitDefEqProofs[p1',q2,m2,m3]
 have p2':b.length≤8:=by omega
 have m3:¬ (8:Int)<b.length:=by omega
 by_cases p3:c.length=b.length
 rotate_left
 ·have q3:¬ (c.length:Int)=b.length:=by omega
  simp -implicitDefEqProofs[p1',p2',m2,m3,p3,q3]
 by_cases p4:a.length=b.length
 rotate_left
 ·have q4:¬ (a.length:Int)=b.length:=by omega
  simp -implicitDefEqProofs[p1',p2',m2,m3,p3,p4,q4]
 rw[p4]at h;by_cases p5:e.length=b.length
 ·cases hsh:Zay a 0<;>rw[hsh]at h<;>simp at h<;>simp -implicitDefEqProofs[p1',p2',m2,m3,p3,p4,p5,h]
 have q5:¬ (e.length:Int)=b.length:=by omega
 by_cases p6:e.length=0
 ·have e0:e=[]:=Ya6.1 p6;have q7:¬ (0:Int)=b.length:=by omega
  have q8:¬ 0=b.length:=by omega
  subst e0;cases hsh:Zay a 0<;>rw[hsh]at h<;>simp at h<;>simp -implicitDefEqProofs[p1',p2',m2,m3,p3,p4,q7,q8,h]
 ·have q7:¬ e=[]:=fun h=>p6 (by grind);simp -implicitDefEqProofs[p1',p2',m2,m3,p3,p4,p5,q5,p6]
def bxS(s:Sm):Box:=⟨1,.str,5,[[.s s.nm,.sl (Zd s.c) .an,.sl (Zt s.a) .an,.sl (Zd s.b) .an,.sl (Zd s.e) .an]]⟩
def Zjx(s:Sm)(i:Nat):St:=⟨[(1,.ptr (.loc 1) 1 5 0 0),(6,.sl (Zt s.a) .an),(7,.i .i64 s.a.length),(8,.i .i64 i)],[(.loc 1,bxS s)],3⟩
theorem zxm(s:Sm)(hl:s.a.length≤8)(hc:s.c.length=s.a.length)(h1:∀r∈s.a,r.length≤8∧∀x∈r,fsz x≤6)(h2:∀x∈s.c,fsz x≤6) :
  Zf T 0 0 (.norm false []) l561_0 (Zjx s 0)=if Zbq (s.a.drop 0) (s.c.drop 0)=true then some (.n,⟨[],[],2⟩) else some (.r,⟨[(2,.b false)],[],2⟩):=by
 refine za0 (Zjx s) s.a.length (fun i=>if Zbq (s.a.drop i) (s.c.drop i)=true then some (.n,⟨[],[],2⟩) else some (.r,⟨[(2,.b false)],[],2⟩)) (fun i hi=>?_) ?_
 ·have hic:i<s.c.length:=by omega
  have hws:=zbs hi (by omega);obtain⟨g1,g2⟩:=h1 _ (Yj hi);have g3:=h2 _ (Yj hic);have c1:=zgo (T:=T) (s.a[i]'hi) g2 (by decide) (by omega);have z1:=ziu g2 (by decide) (s.a[i]'hi).length (Yd _);rw[Yb (Yd _)]at z1;have c2:=zec (T:=T) (fz (sumF (s.a[i]'hi))) (s.c[i]'hic) (by rw[zbe];omega) (by omega);rw[zcz]at c2;have key:Zbq (s.a.drop i) (s.c.drop i)=(decide (sumF (s.a[i]'hi)=fv (s.c[i]'hic))&&Zbq (s.a.drop (i+1)) (s.c.drop (i+1))):=by
   grind[Zbq,List.drop_eq_getElem_cons,List.zip_cons_cons]
  have hic':(i:Int)<s.c.length:=by omega
  generalize fz (sumF (s.a[i]'hi))=z at *
  by_cases he:sumF (s.a[i]'hi)=fv (s.c[i]'hic)
  ·left;refine⟨?_,by grind⟩;unfold Zjx bxS;simp -implicitDefEqProofs[l561_0,hi,hws,c1,c2,he,hic,hic']
  ·right;rw[if_neg (by grind)];unfold Zjx bxS;constructor<;>simp -implicitDefEqProofs[l561_0,hi,c1,c2,he,hic,hic']
 ·have e:Zbq [] (s.c.drop s.a.length)=true:=rfl;simp only[Y7,e,if_true];unfold Zjx bxS;constructor<;>simp -implicitDefEqProofs[l561_0]
theorem zpe(s:Sm)(hl:s.a.length≤8)(hc:s.c.length=s.a.length)(h1:∀r∈s.a,r.length≤8∧∀x∈r,fsz x≤6)(h2:∀x∈s.c,fsz x≤6):Za T 561 [esm s]=some (.b (Zbq s.a s.c)):=by
 have h:=zxm (T:=T) s hl hc h1 h2;unfold Zjx bxS at h;rw[Yaa,Yaa]at h;rw[zab Zad.h561 rfl,b561];obtain⟨nm,c,a,b,e⟩:=s;cases hr:Zbq a c<;>rw[hr]at h<;>simp at h<;>simp -implicitDefEqProofs[h]
theorem zbu:∀(a:List (List Fz)) (i:Nat),Zay a i=true→∀r∈a,r.length≤i+a.length
 | [],_,_,r,hr=>by grind
 | x::a,i,h,r,hr=>by
  simp only[Zay,Yr,decide_eq_true_eq]at h;rcases Yt.1 hr with rfl | hr
  ·omega
  ·have:=zbu a (i+1) h.2 r hr
   grind
theorem zkd{s:Sm}(h:Zbg s=true):1≤s.b.length∧s.b.length≤8∧s.c.length=s.b.length∧s.a.length=s.b.length∧(s.e.length=s.b.length∨s.e.length=0)∧Zay s.a 0=true:=by
 grind[Zbg]
theorem zf6{m:List (List Fz)}(h:Zci m=true):∀r∈m,∀x∈r,fsz x≤6:=by
 grind[Zci,zcy]
theorem ze0{l:List Fz}(hl:l.length≤8)(hw:∀x∈l,fsz x≤6):sz (sumF l)≤57:=by
 have:=ziu hw (by decide) l.length (Yd _)
 grind
end
section
variable{T:Tbl}[Zac T][Zq T][Zw T][Zz T][Zs T][Zu T][Ze T][Zl T][Zv T][Za5 T][Za9 T][Zcd T][Zco T][Zb9 T][Zc2 T][Zfa T][Ze9 T][Zav T][Zca T][Zad T]
theorem zei(s:Sm)(hs:SmS s):Za T 551 [esm s]=some (.i .i64 (Zbu s)):=by
 have o1:=zqi (T:=T);have c1:=zm1 (T:=T) 2 0 s.nm (Yc hs.nm (by decide));have c2:=znq (T:=T) s hs;have c3:=ze8 (T:=T) s.a hs.al (fun r hr=>⟨(hs.a r hr).1,fun x hx=>Yc ((hs.a r hr).2 x hx) (by decide)⟩);have c4:=ze8 (T:=T) [s.b,s.c,s.e] (by simp) (fun r hr=>by
  simp only[Yt,Ya2,or_false]at hr;rcases hr with rfl | rfl | rfl
  ·exact⟨hs.bl,fun x hx=>Yc (hs.b x hx) (by decide)⟩
  ·exact⟨hs.cl,fun x hx=>Yc (hs.c x hx) (by decide)⟩
  ·exact⟨hs.el,fun x hx=>Yc (hs.e x hx) (by decide)⟩)
 replace c4:Za T 560 [.sl [[.sl (Zd s.b) .an],[.sl (Zd s.c) .an],[.sl (Zd s.e) .an]] .an]=some (.b (Zci [s.b,s.c,s.e])):=c4;have k5:=zpe (T:=T) s;have k6:=fun(hl:s.b.length≤8) (h:∀x∈s.b,fsz x≤6)=>zgo (T:=T) s.b h (by decide) (by omega);have k7:=fun(hl:s.e.length≤8) (h:∀x∈s.e,fsz x≤6)=>zgo (T:=T) s.e h (by decide) (by omega);rw[zab Zad.h551 rfl,b551];unfold Zbu;cases g1:Zax 2 s.nm with
 | false=>
  rw[g1]at c1;obtain⟨nm,c,a,b,e⟩:=s;generalize fz 1=z1 at *
  dsimp only at *
  simp -implicitDefEqProofs[o1,c1]
 | true=>
 rw[g1]at c1;cases g2:Zbg s with
 | false=>
  rw[g2]at c2;obtain⟨nm,c,a,b,e⟩:=s;generalize fz 1=z1 at *
  dsimp only at *
  simp -implicitDefEqProofs[o1,c1,c2]
 | true=>
 rw[g2]at c2;obtain⟨s1,s2,s3,s4,s5,s6⟩:=zkd g2;cases g3:Zci s.a with
 | false=>
  rw[g3]at c3;obtain⟨nm,c,a,b,e⟩:=s;simp -implicitDefEqProofs[o1,c1,c2,c3]
 | true=>
 rw[g3]at c3;cases g4:Zci [s.b,s.c,s.e]with
 | false=>
  rw[g4]at c4;obtain⟨nm,c,a,b,e⟩:=s;simp -implicitDefEqProofs[o1,c1,c2,c3,c4]
 | true=>
 rw[g4]at c4;have n1:=zf6 g3;have n2:=zf6 g4;have nb:=n2 s.b (by simp);have nc:=n2 s.c (by simp);have ne:=n2 s.e (by simp);have c5:=k5 (by omega) (by omega) (fun r hr=>⟨by have:=zbu _ _ s6 r hr;omega,n1 r hr⟩) nc;have c6:=k6 (by omega) nb;have c7:=k7 (by omega) ne;have z6:=ze0 (l:=s.b) (by omega) nb;have z7:=ze0 (l:=s.e) (by omega) ne;have d6:=zec (T:=T) (fz (sumF s.b)) (fz 1) (by rw[zbe];omega) (by rw[zbe,zx1];omega);have d7:=zec (T:=T) (fz (sumF s.e)) (fz 1) (by rw[zbe];omega) (by rw[zbe,zx1];omega);rw[zcz,zcz]at d6 d7;cases g5:Zbq s.a s.c with
 | false=>
  rw[g5]at c5;obtain⟨nm,c,a,b,e⟩:=s;simp -implicitDefEqProofs[o1,c1,c2,c3,c4,c5]
 | true=>
 rw[g5]at c5;obtain⟨nm,c,a,b,e⟩:=s;generalize fz (sumF b)=zb at *
 generalize fz (sumF e)=ze at *
 by_cases g6:sumF b=1
 ·by_cases g7:e=[]
  ·subst g7;replace c2:Za T 559 [.agg [.s nm,.sl (Zd c) .an,.sl (Zt a) .an,.sl (Zd b) .an,.sl [] .an]]=_:=c2;replace c4:Za T 560 [.sl [[.sl (Zd b) .an],[.sl (Zd c) .an],[.sl [] .an]] .an]=_:=c4;replace c5:Za T 561 [.agg [.s nm,.sl (Zd c) .an,.sl (Zt a) .an,.sl (Zd b) .an,.sl [] .an]]=_:=c5;simp -implicitDefEqProofs[o1,c1,c2,c3,c4,c5,c6,d6,g6]
  ·have l7:0<e.length:=Yby.2 g7;by_cases g8:sumF e=1
   ·simp -implicitDefEqProofs[o1,c1,c2,c3,c4,c5,c6,d6,g6,c7,d7,g7,g8,l7]
   ·simp -implicitDefEqProofs[o1,c1,c2,c3,c4,c5,c6,d6,g6,c7,d7,g7,g8,l7]
 ·simp -implicitDefEqProofs[o1,c1,c2,c3,c4,c5,c6,d6,g6]
theorem zc6(s:Sm)(hs:SmS s):Za T 536 [esm s]=some (.b (okS s)):=by
 have h:=zei (T:=T) s hs;rw[zab Zad.h536 rfl,b536];unfold okS;generalize Zbu s=w at *
 by_cases hw:w=0
 ·subst hw;simp -implicitDefEqProofs[h]
 ·simp -implicitDefEqProofs[h,hw]
end
end Go.Ab
end
section
namespace Go.Ab
structure PbS (q:Pb):Prop where
 t:TpS q.t
 s:SmS q.s
 p:∀x∈q.p,fsz x≤1000
 pl:q.p.length≤1000
def Znr(p:Pb)(t:Fz)(y:List Fz):List Rat×Nat×Nat:=Zlz (Zno p.bits) p.t ⟨fv t,y.map fv,p.p.map fv⟩
end Go.Ab
end
section
namespace Go.Ab
def bxR(g:Nat)(r:Rd):Box:=⟨g,.str,3,[[.s r.rest,.i .i64 r.at_,.b r.over]]⟩
theorem zxf(c:UInt8):∀l:List UInt8,decide (0≤Lib.indexByte l c)=l.contains c:=by
 intro l;have h:=Lib.indexByte;rcases zc7 c l with ⟨h1,h2,_⟩ | ⟨m,h1,h2,h3⟩
 ·rw[h2];have:c∉l:=fun hc=>by have:=List.count_pos_iff.2 hc;omega
  simp[this]
 ·rw[h2];have:c∈l:=by
   have hc:l.count c≠0:=by
    intro h0;rcases zc7 c l with ⟨_,k,_⟩ | ⟨k,_,_,h4⟩
    ·rw[k]at h2;omega
    ·have:=zb3 c l;rw[h3,Ye,zb3,h0]at this;omega
   exact List.count_pos_iff.1 (by omega)
  simp[this]
section
variable{T:Tbl}[Zn T][Zav T][Zca T][Zc8 T][Zaw T][Zak T]
theorem zs7(l:List UInt8)(c:UInt8)(hl:l.length≤1000000):Za T 64 [.s l,.s [c,32]]=some (.tup [.s (if l.take 2=[c,32] then l.drop 2 else l),.b (decide (l.take 2=[c,32]))]):=by
 have h1:Za T 123 [.s l,.s [c,32]]=some (.b (decide (l.take 2=[c,32]))):=by
  rw[zab Zn.h123 rfl,b123]
  match l with
  | []=>simp -implicitDefEqProofs
  | [a]=>simp -implicitDefEqProofs
  | a::b::r=>
   have h2:(2:Int)≤(r.length:Int)+1+1:=by omega
   have h3:2≤r.length+1+1:=by omega
   by_cases ha:a=c
   ·by_cases hb:b=32
    ·simp -implicitDefEqProofs[h2,h3,ha,hb]
    ·simp -implicitDefEqProofs[h2,h3,ha,hb]
   ·simp -implicitDefEqProofs[h2,h3,ha]
 have h3:Za T 98 [.s l,.s [c,32]]=some (.tup [.s (if l.take 2=[c,32] then l.drop 2 else l),.b (decide (l.take 2=[c,32]))]):=by
  rw[zab Zn.h98 rfl,b98];by_cases h:l.take 2=[c,32]
  ·have hlen:2≤l.length:=by
    have:=congrArg List.length h;rw[Yai]at this;simp at this;omega
   have hlen':(2:Int)≤l.length:=by omega
   rw[decide_eq_true h]at h1;rw[if_pos h,decide_eq_true h];clear h;simp -implicitDefEqProofs[h1,hlen,hlen']
  ·rw[decide_eq_false h]at h1;rw[if_neg h,decide_eq_false h];clear h;simp -implicitDefEqProofs[h1]
 rw[zab Zn.h64 rfl,b64];generalize decide (l.take 2=[c,32])=B at *
 generalize (if l.take 2=[c,32] then l.drop 2 else l)=M at *
 simp -implicitDefEqProofs[h3]
theorem zpc(l:List UInt8)(c:UInt8):Za T 618 [.s l,.s [c]]=some (.b (l.contains c)):=by
 have h:=znr (T:=T) l c;have e:=zxf c l;rw[zab Zak.h618 rfl,b618,←e];generalize Lib.indexByte l c=n at *
 simp -implicitDefEqProofs[h]
theorem zgn(r:Rd)(hr:r.rest.length≤1000000)(ha:r.at_≤1000000) :
  Zbk T 614 [.ptr (.bor 0) 0 3 0 0] [(.bor 0,bxR 0 r)]=some (.tup [.s (Zy r),.i .i64 r.at_,.b (!r.over)],[(.bor 0,bxR 0 (Zag r))]):=by
 have c:=z3g (T:=T) r.rest hr;unfold bxR Zy Zag;obtain⟨l,a,o⟩:=r;dsimp only at *
 have e1:l.takeWhile (· != 10)=hdC 10 l:=rfl;have e2:(l.dropWhile (· != 10)).drop 1=tlC 10 l:=rfl;have hle:(hdC 10 l).length≤l.length:=(Ybk _).length_le;rw[e1,e2]at c;rw[za3 Zak.h614 rfl,b614];cases o with
 | true=>simp -implicitDefEqProofs[]
 | false=>
  generalize hdC 10 l=H at *
  generalize tlC 10 l=Tl at *
  have w1:IntKind.wrap .i64 ((a:Int)+H.length)=((a+H.length:Nat):Int):=by rw[zac _ (by omega)];omega
  have w2:IntKind.wrap .i64 ((a:Int)+H.length+1)=(a:Int)+H.length+1:=zac _ (by omega);cases hc:l.contains 10 with
  | true=>
   rw[hc]at c;simp -implicitDefEqProofs[c,w1,w2]
  | false=>
   rw[hc]at c;simp -implicitDefEqProofs[c,w1,w2]
theorem z4f(r:Rd)(t:List UInt8)(n:Nat)(hn:n≤t.length)(ht:t.length≤1000000) :
  Zbk T 619 [.ptr (.bor 0) 0 3 0 0,.s t,.i .i64 n] [(.bor 0,bxR 0 r)]=some (.tup [],[(.bor 0,bxR 0 ⟨t.drop n,n,false⟩)]):=by
 unfold bxR;obtain⟨l,a,o⟩:=r;dsimp only at *
 have hn':(n:Int)≤t.length:=by omega
 rw[za3 Zak.h619 rfl,b619];simp -implicitDefEqProofs[hn,hn']
theorem ziq(k a b:Int)(h1:-1000000≤a∧a≤1000000)(h2:-2000000≤b∧b≤2000000):Za T 621 [flt k a,.i .i64 b]=some (flt (shF (k,a) b).1 (shF (k,a) b).2):=by
 have w:IntKind.wrap .i64 (a+b)=a+b:=zac _ (by omega);unfold shF;rw[zab Zak.h621 rfl,b621];by_cases hk:k=0
 ·by_cases ha:a=0
  ·subst hk ha;simp -implicitDefEqProofs[]
  ·simp -implicitDefEqProofs[hk,ha,w]
 ·simp -implicitDefEqProofs[hk,w]
end
end Go.Ab
end
section
namespace Go.Ab
theorem zkb(c:UInt8):∀l:List UInt8,((Z6 c l).map fun w=>w.length+1).sum=l.length+1
 | []=>rfl
 | b::l=>by
  have ih:=zkb c l;by_cases h:b=c
  ·subst h;simp[Z6,ih];omega
  ·cases hs:Z6 c l with
   | nil=>rw[hs]at ih;simp at ih
   | cons p r=>
    rw[hs]at ih;simp only[Y0,Ydm]at ih;simp[Z6,h,hs];omega
theorem zir:∀(ws:List (List UInt8)) (k:Nat) (acc:List Rat),((Zb3 ws k acc).2.1=0∧(Zb3 ws k acc).2.2=0) ∨
  (((Zb3 ws k acc).2.1=1∨(Zb3 ws k acc).2.1=2)∧0≤(Zb3 ws k acc).2.2∧(Zb3 ws k acc).2.2≤k+((ws.map fun w=>w.length+1).sum:Nat)+62)
 | [],_,_=>.inl ⟨rfl,rfl⟩
 | w::ws,k,acc=>by
  unfold Zb3;by_cases h1:(Za0 w).2.1=0
  ·rw[if_pos h1];rcases zir ws (k+w.length+1) (acc++[(Za0 w).1]) with h | ⟨h2,h3,h4⟩
   ·exact .inl h
   ·refine .inr ⟨h2,h3,?_⟩;simp only[Y0,Ydm];omega
  ·rw[if_neg h1];rcases zgj w with h | ⟨h2,h3,h4⟩
   ·exact absurd h.1 h1
   ·refine .inr ⟨h2,?_,?_⟩
    ·show 0≤(Za0 w).2.2+(k:Int);omega
    ·show (Za0 w).2.2+(k:Int)≤_;simp only[Y0,Ydm];omega
theorem zkc(s:List UInt8):((Zdv s).2.1=0∧(Zdv s).2.2=0)∨(((Zdv s).2.1=1∨(Zdv s).2.1=2)∧0≤(Zdv s).2.2∧(Zdv s).2.2≤s.length+63):=by
 unfold Zdv;by_cases h:s=[]
 ·rw[if_pos h];exact .inl ⟨rfl,rfl⟩
 ·rw[if_neg h];rcases zir (Z6 44 s) 0 []with h | ⟨h2,h3,h4⟩
  ·exact .inl h
  ·refine .inr ⟨h2,h3,?_⟩;rw[zkb]at h4;omega
theorem z0e{f:Int×Int}(h:(f.1=0∧f.2=0)∨((f.1=1∨f.1=2)∧0≤f.2)):f=(0,0)↔f.1=0:=by
 obtain⟨a,b⟩:=f;simp only[Prod.mk.injEq];omega
section
variable{T:Tbl}[Zac T][Zq T][Zw T][Zz T][Zs T][Zu T][Zn T][Zaz T][Ze T][Zl T][Zv T][Zbl T][Zc8 T][Zaw T][Zcd T][Zc6 T][Zav T][Zbf T][Zdb T][Zca T][Zak T]
theorem zno(hcut:∀l:List UInt8,l.length≤1000000→Za T 184 [.s l,.s [124]]=some (.tup [.s (hdC 124 l),.s (tlC 124 l),.b (l.contains 124)]))
  (l:List UInt8) (n:Nat) (hl:l.length≤100000) (hn:n≤500000) :
  Za T 620 [.s l,.i .i64 n]=some (.tup [efz (fz (Zdj l n).1),.sl (Zd (fzs (Zdj l n).2.1)) .an,flt (Zdj l n).2.2.1 (Zdj l n).2.2.2]):=by
 have c:=hcut l (by omega);have h1:(hdC 124 l).length≤l.length:=(Ybk _).length_le;have h2:(tlC 124 l).length≤l.length:=by
  unfold tlC;rw[Yal];have:=(Yey (fun x:UInt8=>x != 124) (l:=l)).length_le;omega
 have c1:=zmx (T:=T) (hdC 124 l) (by omega);have c2:=zqh (T:=T) (tlC 124 l) (by omega);have f1:=zgj (hdC 124 l);have f2:=zkc (tlC 124 l);have w1:IntKind.wrap .i64 ((n:Int)+(hdC 124 l).length)=(n:Int)+(hdC 124 l).length:=zac _ (by omega);have w2:IntKind.wrap .i64 ((n:Int)+(hdC 124 l).length+1)=(n:Int)+(hdC 124 l).length+1:=zac _ (by omega);have s1:=ziq (T:=T) (Za0 (hdC 124 l)).2.1 (Za0 (hdC 124 l)).2.2 n (by omega) (by omega);have s2:=ziq (T:=T) (Zdv (tlC 124 l)).2.1 (Zdv (tlC 124 l)).2.2 ((n:Int)+(hdC 124 l).length+1) (by omega) (by omega);have z1:=z0e (f:=(Za0 (hdC 124 l)).2) (by omega);unfold Zdj;rw[zab Zak.h620 rfl,b620];generalize hF:Za0 (hdC 124 l)=F at *
 generalize Zdv (tlC 124 l)=R at *
 obtain⟨q,k,a⟩:=F;obtain⟨L,k2,a2⟩:=R;dsimp only at *
 by_cases hk:k=0
 ·have ha:a=0:=by omega
  subst hk ha;rw[if_neg (by simp)];generalize shF (k2,a2) ((n:Int)+(hdC 124 l).length+1)=S at *
  generalize fz q=Z at *
  generalize fzs L=M at *
  generalize hdC 124 l=H at *
  generalize tlC 124 l=K at *
  obtain⟨g1,g2⟩:=S;obtain⟨y1,y2,y3⟩:=Z;dsimp only at *
  simp -implicitDefEqProofs[c,c1,c2,w1,w2,s2,z2w]
 ·rw[if_pos (fun h=>hk (congrArg Prod.fst h))];generalize shF (k,a) (n:Int)=S at *
  generalize fz q=Z at *
  generalize hdC 124 l=H at *
  generalize tlC 124 l=K at *
  have e0:fzs []=[]:=rfl;obtain⟨g1,g2⟩:=S;obtain⟨y1,y2,y3⟩:=Z;dsimp only at *
  rw[e0];simp -implicitDefEqProofs[c,c1,s1,hk]
theorem zis(r:Rd)(c:UInt8)(hr:r.rest.length≤100000)(ha:r.at_≤500000) :
  Zbk T 616 [.ptr (.bor 0) 0 3 0 0,.s [c]] [(.bor 0,bxR 0 r)]=some (.tup [.sl (Zd (fzs (Zfp c r).1)) .an,flt (Zfp c r).2.1 (Zfp c r).2.2],[(.bor 0,bxR 0 (Zag r))]):=by
 have c1:=zgn (T:=T) r (by omega) (by omega);have hlen:(Zy r).length≤r.rest.length:=by
  unfold Zy;split
  ·simp
  ·exact(Ybk _).length_le
 have c2:=zs7 (T:=T) (Zy r) c (by omega);have c3:=zqh (T:=T) ((Zy r).drop 2) (by rw[Yal];omega);have f2:=zkc ((Zy r).drop 2);rw[Yal]at f2;have w1:IntKind.wrap .i64 ((r.at_:Int)+1)=(r.at_:Int)+1:=zac _ (by omega);have w2:IntKind.wrap .i64 ((r.at_:Int)+1+1)=(r.at_:Int)+2:=by rw[zac _ (by omega)];omega
 have s2:=ziq (T:=T) (Zdv ((Zy r).drop 2)).2.1 (Zdv ((Zy r).drop 2)).2.2 ((r.at_:Int)+2) (by omega) (by omega);unfold Zfp;unfold bxR at *
 generalize Zag r=r' at *
 rw[za3 Zak.h616 rfl,b616];by_cases h:(Zy r).take 2=[c,32]
 ·rw[if_pos h,decide_eq_true h]at c2;rw[if_pos h];clear f2 h;generalize (Zy r).drop 2=D at *
  generalize Zy r=L at *
  generalize Zdv D=R at *
  obtain⟨M,k2,a2⟩:=R;dsimp only at *
  generalize shF (k2,a2) ((r.at_:Int)+2)=S at *
  obtain⟨g1,g2⟩:=S;generalize fzs M=N at *
  obtain⟨rest,a,o⟩:=r;obtain⟨rest',a',o'⟩:=r';dsimp only at *
  simp -implicitDefEqProofs[c1,c2,c3,w1,w2,s2]
 ·rw[if_neg h,decide_eq_false h]at c2;rw[if_neg h];have e0:fzs []=[]:=rfl;clear f2 h c3 s2;generalize Zy r=L at *
  obtain⟨rest,a,o⟩:=r;obtain⟨rest',a',o'⟩:=r';dsimp only at *
  rw[e0];simp -implicitDefEqProofs[c1,c2]
end
end Go.Ab
end
section
namespace Go.Ab
structure Sg where
 nm:List UInt8
 c:List Fz
 a:List (List Fz)
def hpG(r:Rd)(s:Sg):Heap:=[(.bor 0,bxR 0 r),(.bor 1,⟨1,.str,5,[[.s s.nm,.bs (.fld (.bor 1) 1) 5 3 0 s.c.length,.bs (.fld (.bor 1) 2) 6 1 0 s.a.length,.sl [] .nl,.sl [] .nl]]⟩),
 (.fld (.bor 1) 1,⟨5,.own,3,Zd s.c⟩),(.fld (.bor 1) 2,⟨6,.own,1,Zt s.a⟩)]
def stG(t:List UInt8)(r:Rd)(s:Sg):St:=⟨[(0,.ptr (.bor 0) 0 3 0 0),(1,.s t),(2,.ptr (.bor 1) 1 5 0 0),(6,.ptr (.loc 6) 7 4 0 0)],
 hpG r s++[(.loc 6,⟨7,.str,4,[[.i .i64 0,.i .i64 0,.i .i64 0,.i .i64 0]]⟩)],9⟩
def Zf8(r:Rd)(s:Sg)(k a:Int):Ex×St:=(.r,⟨[(6,.ptr (.loc 6) 7 4 0 0)],hpG r s++[(.loc 6,⟨7,.str,4,[[.i .i64 k,.i .i64 0,.i .i64 0,.i .i64 a]]⟩)],9⟩)
section
variable{T:Tbl}[Zac T][Zq T][Zw T][Zz T][Zs T][Zu T][Zn T][Zaz T][Ze T][Zl T][Zv T][Zbl T][Zc8 T][Zaw T][Zcd T][Zc6 T][Zav T][Zbf T][Zdb T][Zca T][Zak T]
theorem z9y(t:List UInt8)(r:Rd)(s:Sg)(ho:r.over=true)(hr:r.rest.length≤1000000)(ha:r.at_≤1000000) :
  evX (orc T) T 2 l615_0 (stG t r s)=some (Zf8 r s 0 0):=by
 have c1:=zgn (T:=T) r hr ha;have e1:Zy r=[]:=by unfold Zy;rw[ho];rfl
 have e2:Zag r=r:=by unfold Zag;rw[ho];rfl
 rw[e1,e2,ho]at c1;unfold bxR at c1;unfold stG Zf8 hpG bxR;obtain⟨rest,a,o⟩:=r;obtain⟨nm,C,A⟩:=s;dsimp only at *
 simp -implicitDefEqProofs[l615_0,c1]
theorem z9z(t:List UInt8)(r:Rd)(s:Sg)(ho:r.over=false)(hb:(Zy r).contains 124=false)(hr:r.rest.length≤1000000)(ha:r.at_≤t.length)(ht:t.length≤1000000) :
  evX (orc T) T 2 l615_0 (stG t r s)=some (Zf8 ⟨t.drop r.at_,r.at_,false⟩ s 0 0):=by
 have c1:=zgn (T:=T) r hr (by omega);have c2:=zpc (T:=T) (Zy r) 124;have c3:=z4f (T:=T) (Zag r) t r.at_ ha ht;rw[ho]at c1;rw[hb]at c2;unfold bxR at c1 c3;unfold stG Zf8 hpG bxR;generalize Zag r=r' at *
 generalize Zy r=L at *
 obtain⟨rest,a,o⟩:=r;obtain⟨rest',a',o'⟩:=r';obtain⟨nm,C,A⟩:=s;dsimp only at *
 simp -implicitDefEqProofs[l615_0,c1,c2,c3]
theorem zah6(hcut:∀l:List UInt8,l.length≤1000000→Za T 184 [.s l,.s [124]]=some (.tup [.s (hdC 124 l),.s (tlC 124 l),.b (l.contains 124)]))
  (t:List UInt8) (r:Rd) (s:Sg) (ho:r.over=false) (hb:(Zy r).contains 124=true) (hr:r.rest.length≤100000) (ha:r.at_≤100000) (hf:(Zdj (Zy r) r.at_).2.2≠(0,0)) :
  evX (orc T) T 2 l615_0 (stG t r s)=some (Zf8 (Zag r) s (Zdj (Zy r) r.at_).2.2.1 (Zdj (Zy r) r.at_).2.2.2):=by
 have c1:=zgn (T:=T) r (by omega) (by omega);have c2:=zpc (T:=T) (Zy r) 124;have hlen:(Zy r).length≤r.rest.length:=by
  unfold Zy;split
  ·simp
  ·exact(Ybk _).length_le
 have c3:=zno (T:=T) hcut (Zy r) r.at_ (by omega) (by omega);rw[ho]at c1;rw[hb]at c2;unfold bxR at c1;unfold stG Zf8 hpG bxR;generalize Zag r=r' at *
 generalize Zy r=L at *
 generalize Zdj L (r.at_:Int)=S at *
 obtain⟨q,M,k,b⟩:=S;generalize fz q=z at *
 generalize fzs M=N at *
 obtain⟨rest,a,o⟩:=r;obtain⟨rest',a',o'⟩:=r';obtain⟨nm,C,A⟩:=s;obtain⟨z1,z2,z3⟩:=z;dsimp only at *
 by_cases hk:k=0
 ·have hb0:¬ b=0:=fun h=>hf (by rw[hk,h]);simp -implicitDefEqProofs[l615_0,c1,c2,c3,hk,hb0]
 ·simp -implicitDefEqProofs[l615_0,c1,c2,c3,hk]
theorem z4g(hcut:∀l:List UInt8,l.length≤1000000→Za T 184 [.s l,.s [124]]=some (.tup [.s (hdC 124 l),.s (tlC 124 l),.b (l.contains 124)]))
  (t:List UInt8) (r:Rd) (s:Sg) (ho:r.over=false) (hb:(Zy r).contains 124=true) (hr:r.rest.length≤100000) (ha:r.at_≤100000) (hc:s.c.length≤1000000) (hA:s.a.length≤1000000) (hf:(Zdj (Zy r) r.at_).2.2=(0,0)) :
  evX (orc T) T 2 l615_0 (stG t r s)=some (.n,stG t (Zag r) ⟨s.nm,s.c++[fz (Zdj (Zy r) r.at_).1],s.a++[fzs (Zdj (Zy r) r.at_).2.1]⟩):=by
 have c1:=zgn (T:=T) r (by omega) (by omega);have c2:=zpc (T:=T) (Zy r) 124;have hlen:(Zy r).length≤r.rest.length:=by
  unfold Zy;split
  ·simp
  ·exact(Ybk _).length_le
 have c3:=zno (T:=T) hcut (Zy r) r.at_ (by omega) (by omega);rw[ho]at c1;rw[hb]at c2;unfold bxR at c1;unfold stG hpG bxR;generalize Zag r=r' at *
 generalize Zy r=L at *
 generalize Zdj L (r.at_:Int)=S at *
 obtain⟨q,M,k,b⟩:=S;generalize fz q=z at *
 generalize fzs M=N at *
 obtain⟨rest,a,o⟩:=r;obtain⟨rest',a',o'⟩:=r';obtain⟨nm,C,A⟩:=s;dsimp only at *
 obtain⟨rfl,rfl⟩:=Prod.mk.inj hf;have p1:=zn0 C z;have p2:Zt A++[[.sl (Zd N) .an]]=Zt (A++[N]):=by simp[Zt]
 have t1:List.take C.length C=C:=Yc8;have t2:List.take A.length A=A:=Yc8;have h1:C.length+1≤4294967296:=by omega
 have h2:A.length+1≤4294967296:=by omega
 obtain⟨z1,z2,z3⟩:=z;rw[Yy,Yy];simp -implicitDefEqProofs[l615_0,c1,c2,c3,p1,p2,t1,t2,h1,h2]
end
end Go.Ab
end
section
namespace Go.Ab
def Zbo(t:List UInt8):Nat→Rd→Sg→Rd×Sg×Int×Int
 | 0,r,s=>(r,s,0,0)
 | n+1,r,s=>
  if r.over=true then (r,s,0,0)
  else if (Zy r).contains 124=false then (⟨t.drop r.at_,r.at_,false⟩,s,0,0)
  else if (Zdj (Zy r) r.at_).2.2≠(0,0) then (Zag r,s,(Zdj (Zy r) r.at_).2.2)
  else Zbo t n (Zag r) ⟨s.nm,s.c++[fz (Zdj (Zy r) r.at_).1],s.a++[fzs (Zdj (Zy r) r.at_).2.1]⟩
def muR(r:Rd):Nat:=if r.over then 0 else r.rest.length+1
theorem zxg:∀(l:List UInt8) (c:UInt8) (_:l.contains c=true),(hdC c l).length+1+(tlC c l).length=l.length
 | [],c,h=>by simp at h
 | b::l,c,h=>by
  by_cases hb:b=c
  ·subst hb;simp[hdC,tlC];omega
  ·have h2:l.contains c=true:=by
    rw[Yci]at h ⊢;rcases Yt.1 h with h | h
    ·exact absurd h.symm hb
    ·exact h
   have ih:=zxg l c h2;unfold hdC tlC at *
   simp only[List.takeWhile_cons,List.dropWhile_cons,bne_iff_ne,ne_eq,hb,not_false_eq_true,if_true,Ye];omega
theorem z90(c:UInt8)(l:List UInt8):(hdC c l).length≤l.length:=(Ybk _).length_le
structure RdOk (t:List UInt8) (r:Rd):Prop where
 a:r.at_≤t.length
 l:r.rest.length≤t.length
 s:r.over=false→r.at_+r.rest.length=t.length
theorem zah7(c:UInt8)(l:List UInt8):(tlC c l).length≤l.length:=by
 unfold tlC;rw[Yal];have:=(Yey (fun x:UInt8=>x != c) (l:=l)).length_le;omega
theorem zpd{t:List UInt8}{r:Rd}(h:RdOk t r)(ho:r.over=false):RdOk t (Zag r)∧muR (Zag r)<muR r:=by
 have e:Zag r=⟨tlC 10 r.rest,r.at_+(hdC 10 r.rest).length+(if r.rest.contains 10 then 1 else 0),!r.rest.contains 10⟩:=by unfold Zag;rw[ho];rfl
 have h1:=h.s ho;have h2:=z90 10 r.rest;have h3:=zah7 10 r.rest;have h4:=h.l;rw[e];unfold muR;rw[ho];cases hc:r.rest.contains 10 with
 | true=>
  have h5:=zxg r.rest 10 hc;refine⟨⟨?_,?_,fun _=>?_⟩,?_⟩
  ·simp;omega
  ·simp;omega
  ·simp;omega
  ·simp;omega
 | false=>
  refine⟨⟨?_,?_,fun h=>?_⟩,?_⟩
  ·simp;omega
  ·simp;omega
  ·cases h
  ·simp
section
variable{T:Tbl}[Zac T][Zq T][Zw T][Zz T][Zs T][Zu T][Zn T][Zaz T][Ze T][Zl T][Zv T][Zbl T][Zc8 T][Zaw T][Zcd T][Zc6 T][Zav T][Zbf T][Zdb T][Zca T][Zak T]
theorem zxh(r:Rd)(s:Sg)(k a:Int):Zey (some (Zf8 r s k a))=true∧Zex 2 0 (.norm true [6]) (some (Zf8 r s k a))=some (Zf8 r s k a):=by
 unfold Zf8 hpG bxR;constructor<;>simp -implicitDefEqProofs
theorem z91(hcut:∀l:List UInt8,l.length≤1000000→Za T 184 [.s l,.s [124]]=some (.tup [.s (hdC 124 l),.s (tlC 124 l),.b (l.contains 124)]))
  (t:List UInt8) (ht:t.length≤100000) (n:Nat) (r:Rd) (s:Sg) (hr:RdOk t r) (hn:muR r<n) (hc:s.c.length+n≤1000000) (ha:s.a.length+n≤1000000) :
  Zf T 2 0 (.norm true [6]) l615_0 (stG t r s)=some (Zf8 (Zbo t n r s).1 (Zbo t n r s).2.1 (Zbo t n r s).2.2.1 (Zbo t n r s).2.2.2):=by
 refine zaq (T:=T) (k:=2) (id:=0) (g2:=.norm true [6]) (c:=l615_0) (fun x:Nat×Rd×Sg=>stG t x.2.1 x.2.2)
  (fun x=>RdOk t x.2.1∧muR x.2.1<x.1∧x.2.2.c.length+x.1≤1000000∧x.2.2.a.length+x.1≤1000000) (fun x=>x.1)
  (fun x=>some (Zf8 (Zbo t x.1 x.2.1 x.2.2).1 (Zbo t x.1 x.2.1 x.2.2).2.1 (Zbo t x.1 x.2.1 x.2.2).2.2.1 (Zbo t x.1 x.2.1 x.2.2).2.2.2)) ?_ (n,r,s) ⟨hr,hn,hc,ha⟩
 rintro⟨n,r,s⟩ ⟨hr,hn,hc,ha⟩
 dsimp only at *
 obtain⟨m,rfl⟩:∃m,n=m+1:=⟨n-1,by omega⟩;have b1:=hr.a;have b2:=hr.l;cases ho:r.over with
 | true=>
  right;have e:Zbo t (m+1) r s=(r,s,0,0):=by rw[Zbo,if_pos ho]
  rw[e,z9y (T:=T) t r s ho (by omega) (by omega)];exact zxh r s 0 0
 | false=>
 cases hb:(Zy r).contains 124 with
 | false=>
  right;have e:Zbo t (m+1) r s=(⟨t.drop r.at_,r.at_,false⟩,s,0,0):=by rw[Zbo,if_neg (by rw[ho];decide),if_pos hb]
  rw[e,z9z (T:=T) t r s ho hb (by omega) b1 (by omega)];exact zxh _ s 0 0
 | true=>
 by_cases hf:(Zdj (Zy r) r.at_).2.2=(0,0)
 ·left;have e:Zbo t (m+1) r s=Zbo t m (Zag r) ⟨s.nm,s.c++[fz (Zdj (Zy r) r.at_).1],s.a++[fzs (Zdj (Zy r) r.at_).2.1]⟩:=by
   rw[Zbo,if_neg (by rw[ho];decide),if_neg (by rw[hb];decide),if_neg (by simpa using hf)]
  obtain⟨k1,k2⟩:=zpd hr ho;have e2:=z4g (T:=T) hcut t r s ho hb (by omega) (by omega) (by omega) (by omega) hf;refine⟨(m,Zag r,⟨s.nm,s.c++[fz (Zdj (Zy r) r.at_).1],s.a++[fzs (Zdj (Zy r) r.at_).2.1]⟩),⟨k1,show muR (Zag r)<m by omega,?_,?_⟩,by show m<m+1;omega,e2,by rw[e]⟩
  ·simp only[Yy,Ye,Yag];omega
  ·simp only[Yy,Ye,Yag];omega
 ·right;have e:Zbo t (m+1) r s=(Zag r,s,(Zdj (Zy r) r.at_).2.2):=by
   rw[Zbo,if_neg (by rw[ho];decide),if_neg (by rw[hb];decide),if_pos hf]
  rw[e,zah6 (T:=T) hcut t r s ho hb (by omega) (by omega) hf];exact zxh _ s _ _
def Zkw(nm:List UInt8):Box:=⟨1,.str,5,[[.s nm,.sl [] .nl,.sl [] .nl,.sl [] .nl,.sl [] .nl]]⟩
theorem zs8(hcut:∀l:List UInt8,l.length≤1000000→Za T 184 [.s l,.s [124]]=some (.tup [.s (hdC 124 l),.s (tlC 124 l),.b (l.contains 124)]))
  (t nm:List UInt8) (ht:t.length≤100000) (n:Nat) (r:Rd) (hr:RdOk t r) (hn:muR r<n) (hc:n≤1000000) :
  Zbk T 615 [.ptr (.bor 0) 0 3 0 0,.s t,.ptr (.bor 1) 1 5 0 0] [(.bor 0,bxR 0 r),(.bor 1,Zkw nm)] =
   some (flt (Zbo t n r ⟨nm,[],[]⟩).2.2.1 (Zbo t n r ⟨nm,[],[]⟩).2.2.2,hpG (Zbo t n r ⟨nm,[],[]⟩).1 (Zbo t n r ⟨nm,[],[]⟩).2.1):=by
 have hl:=z91 (T:=T) hcut t ht n r ⟨nm,[],[]⟩ hr hn (by simpa using hc) (by simpa using hc);generalize Zbo t n r ⟨nm,[],[]⟩=S at *
 obtain⟨r',s',k,a⟩:=S;unfold stG Zf8 hpG bxR at hl;unfold hpG bxR Zkw;obtain⟨rest,at_,o⟩:=r;obtain⟨rest',at',o'⟩:=r';obtain⟨nm',C,A⟩:=s';dsimp only at *
 simp only[Yag,za8,zll,Ybd,Yaf]at hl;rw[za3 Zak.h615 rfl,b615];simp -implicitDefEqProofs[hl]
end
end Go.Ab
end
section
namespace Go.Ab
theorem zlg{t:List UInt8}{r:Rd}(h:RdOk t r):RdOk t (Zag r):=by
 cases ho:r.over with
 | true=>
  have e:Zag r=r:=by unfold Zag;rw[ho];rfl
  rw[e];exact h
 | false=>exact(zpd h ho).1
theorem zxi{t:List UInt8}:∀(n:Nat) (r:Rd) (s:Sg),RdOk t r→RdOk t (Zbo t n r s).1
 | 0,_,_,h=>h
 | n+1,r,s,h=>by
  unfold Zbo;by_cases h1:r.over=true
  ·rw[if_pos h1];exact h
  rw[if_neg h1];by_cases h2:(Zy r).contains 124=false
  ·rw[if_pos h2];exact⟨h.a,by simp,fun _=>by have:=h.a;simp;omega⟩
  rw[if_neg h2];by_cases h3:(Zdj (Zy r) r.at_).2.2≠(0,0)
  ·rw[if_pos h3];exact zlg h
  ·rw[if_neg h3];exact zxi n _ _ (zlg h)
def smG(s:Sg)(b e:List Fz):Sm:=⟨s.nm,s.c,s.a,b,e⟩
def Zbp(t:List UInt8):Rd×Sg×Int×Int:=Zbo t (t.length+2) (Zag ⟨t,0,false⟩) ⟨Zy ⟨t,0,false⟩,[],[]⟩
def Zcq(t:List UInt8):Sm×Int×Int:=
 if Zax 2 (Zy ⟨t,0,false⟩)=false then (⟨Zy ⟨t,0,false⟩,[],[],[],[]⟩,1,0)
 else if (Zbp t).2.2≠(0,0) then (smG (Zbp t).2.1 [] [],(Zbp t).2.2)
 else if (Zfp 98 (Zbp t).1).2≠(0,0)∨(Zag (Zbp t).1).over=true then (smG (Zbp t).2.1 (fzs (Zfp 98 (Zbp t).1).1) [],(Zfp 98 (Zbp t).1).2)
 else if (Zfp 101 (Zag (Zbp t).1)).2≠(0,0)∨(Zag (Zag (Zbp t).1)).over=true then
  (smG (Zbp t).2.1 (fzs (Zfp 98 (Zbp t).1).1) (fzs (Zfp 101 (Zag (Zbp t).1)).1),(Zfp 101 (Zag (Zbp t).1)).2)
 else (smG (Zbp t).2.1 (fzs (Zfp 98 (Zbp t).1).1) (fzs (Zfp 101 (Zag (Zbp t).1)).1),1,(Zag (Zag (Zbp t).1)).at_)
section
variable{T:Tbl}[Zac T][Zq T][Zw T][Zz T][Zs T][Zu T][Zn T][Zaz T][Ze T][Zl T][Zv T][Zbl T][Zc8 T][Zaw T][Zcd T][Zc6 T][Zav T][Zbf T][Zdb T][Zca T][Zak T]
theorem z0f(hcut:∀l:List UInt8,l.length≤1000000→Za T 184 [.s l,.s [124]]=some (.tup [.s (hdC 124 l),.s (tlC 124 l),.b (l.contains 124)]))
  (t:List UInt8) (ht:t.length≤50000):Za T 612 [.s t]=some (.tup [esm (Zcq t).1,flt (Zcq t).2.1 (Zcq t).2.2]):=by
 have h0:RdOk t ⟨t,0,false⟩:=⟨Yp _,Yd _,fun _=>Yat _⟩;have c1:=zgn (T:=T) ⟨t,0,false⟩ (by show t.length≤_;omega) (Yp _);obtain⟨k1,k2⟩:=zpd h0 rfl;have hmu:muR (⟨t,0,false⟩:Rd)=t.length+1:=rfl;have hln:(Zy ⟨t,0,false⟩).length≤t.length:=z90 10 t;have c2:=zm1 (T:=T) 2 0 (Zy ⟨t,0,false⟩) (by omega);have c3:=zs8 (T:=T) hcut t (Zy ⟨t,0,false⟩) (by omega) (t.length+2) (Zag ⟨t,0,false⟩) k1 (by omega) (by omega);have hS:Zbp t=Zbo t (t.length+2) (Zag ⟨t,0,false⟩) ⟨Zy ⟨t,0,false⟩,[],[]⟩:=rfl;rw[←hS]at c3;have o2:RdOk t (Zbp t).1:=by rw[hS];exact zxi _ _ _ k1
 have o3:=zlg o2;have c4:=zis (T:=T) (Zbp t).1 98 (by have:=o2.l;omega) (by have:=o2.a;omega);have c5:=zis (T:=T) (Zag (Zbp t).1) 101 (by have:=o3.l;omega) (by have:=o3.a;omega);unfold Zcq;rw[zab Zak.h612 rfl,b612];clear hS o2 o3 h0 k1 k2 hmu hln hcut ht;generalize Zfp 98 (Zbp t).1=B at *
 generalize Zfp 101 (Zag (Zbp t).1)=E at *
 generalize Zag (Zag (Zbp t).1)=r4 at *
 generalize Zag (Zbp t).1=r3 at *
 generalize Zbp t=S at *
 obtain⟨r2,s2,kS,aS⟩:=S;generalize Zag ⟨t,0,false⟩=r1 at *
 generalize Zy ⟨t,0,false⟩=nm at *
 obtain⟨B,kB,aB⟩:=B;obtain⟨E,kE,aE⟩:=E;generalize fzs B=FB at *
 generalize fzs E=FE at *
 unfold hpG Zkw bxR at c3;unfold bxR at c1 c4 c5;simp only[Yv,Bool.not_false]at c1;obtain⟨l1,a1,o1⟩:=r1;obtain⟨l2,a2,o2⟩:=r2;obtain⟨l3,a3,o3⟩:=r3;obtain⟨l4,a4,o4⟩:=r4;obtain⟨nm2,C,A⟩:=s2;unfold smG;dsimp only at *
 cases hR:Zax 2 nm with
 | false=>
  rw[hR]at c2;simp -implicitDefEqProofs[c1,c2]
 | true=>
 rw[hR]at c2;simp only[Bool.true_eq_false,if_false,ne_eq,Prod.mk.injEq];by_cases hk:kS=0∧aS=0
 rotate_left
 ·rw[if_pos hk];by_cases h1:kS=0
  ·have h2:¬ aS=0:=fun h=>hk ⟨h1,h⟩;simp -implicitDefEqProofs[c1,c2,c3,h1,h2]
  ·simp -implicitDefEqProofs[c1,c2,c3,h1]
 obtain⟨rfl,rfl⟩:=hk;rw[if_neg (by simp)];by_cases hb:(¬ (kB=0∧aB=0))∨o3=true
 ·rw[if_pos hb];by_cases h1:kB=0
  ·by_cases h2:aB=0
   ·subst h1 h2;have h3:o3=true:=by rcases hb with h | h;exact absurd ⟨rfl,rfl⟩ h;exact h
    subst h3;simp -implicitDefEqProofs[c1,c2,c3,c4]
   ·simp -implicitDefEqProofs[c1,c2,c3,c4,h1,h2]
  ·simp -implicitDefEqProofs[c1,c2,c3,c4,h1]
 ·rw[if_neg hb];have h1:kB=0∧aB=0:=Classical.not_not.1 fun h=>hb (.inl h);have h2:o3=false:=by cases o3;rfl;exact absurd (.inr rfl) hb
  obtain⟨rfl,rfl⟩:=h1;subst h2;clear hb;by_cases he:(¬ (kE=0∧aE=0))∨o4=true
  ·rw[if_pos he];by_cases h1:kE=0
   ·by_cases h2:aE=0
    ·subst h1 h2;have h3:o4=true:=by rcases he with h | h;exact absurd ⟨rfl,rfl⟩ h;exact h
     subst h3;simp -implicitDefEqProofs[c1,c2,c3,c4,c5]
    ·simp -implicitDefEqProofs[c1,c2,c3,c4,c5,h1,h2]
   ·simp -implicitDefEqProofs[c1,c2,c3,c4,c5,h1]
  ·rw[if_neg he];have h1:kE=0∧aE=0:=Classical.not_not.1 fun h=>he (.inl h);have h2:o4=false:=by cases o4;rfl;exact absurd (.inr rfl) he
   obtain⟨rfl,rfl⟩:=h1;subst h2;simp -implicitDefEqProofs[c1,c2,c3,c4,c5]
end
end Go.Ab
end
section
namespace Go.Ab
def Ze1(t:List UInt8):Sm×Int×Int:=
 if 4000<t.length then (⟨[],[],[],[],[]⟩,1,4000)
 else if (Zcq t).2≠(0,0) then (⟨[],[],[],[],[]⟩,(Zcq t).2)
 else if Zbu (Zcq t).1≠0 then (⟨[],[],[],[],[]⟩,2,Zbu (Zcq t).1)
 else ((Zcq t).1,0,0)
section
variable{T:Tbl}[Zac T][Zq T][Zw T][Zz T][Zs T][Zu T][Zn T][Zaz T][Ze T][Zl T][Zv T][Zbl T][Za5 T][Za9 T][Zc8 T][Zaw T][Zcd T][Zc6 T][Zco T][Zb9 T][Zc2 T][Zfa T][Ze9 T][Zav T][Zbf T][Zdb T][Zca T][Zad T][Zak T]
theorem znp(hcut:∀l:List UInt8,l.length≤1000000→Za T 184 [.s l,.s [124]]=some (.tup [.s (hdC 124 l),.s (tlC 124 l),.b (l.contains 124)]))
  (t:List UInt8) (ht:t.length≤1000000) (hs:t.length≤4000→(Zcq t).2=(0,0)→SmS (Zcq t).1):Za T 608 [.s t]=some (.tup [esm (Ze1 t).1,flt (Ze1 t).2.1 (Ze1 t).2.2]):=by
 unfold Ze1;rw[zab Zak.h608 rfl,b608];by_cases h1:4000<t.length
 ·have h1':(4000:Int)<t.length:=by omega
  rw[if_pos h1];clear hs;simp -implicitDefEqProofs[h1,h1']
 have h1':¬ (4000:Int)<t.length:=by omega
 rw[if_neg h1];have c1:=z0f (T:=T) hcut t (by omega);have c2:(Zcq t).2=(0,0)→Za T 551 [esm (Zcq t).1]=some (.i .i64 (Zbu (Zcq t).1)):=fun h=>zei (T:=T) (Zcq t).1 (hs (by omega) h);clear hs hcut ht;generalize Zbu (Zcq t).1=W at *
 generalize Zcq t=R at *
 obtain⟨⟨nm,C,A,B,E⟩,k,a⟩:=R;dsimp only at *
 simp only[ne_eq,Prod.mk.injEq];by_cases hk:k=0
 ·by_cases ha:a=0
  ·subst hk ha;have c2:=c2 rfl;rw[if_neg (by simp)];by_cases hw:W=0
   ·subst hw;rw[if_neg (by simp)];simp -implicitDefEqProofs[h1,h1',c1,c2]
   ·rw[if_pos hw];simp -implicitDefEqProofs[h1,h1',c1,c2,hw]
  ·rw[if_pos (fun h=>ha h.2)];simp -implicitDefEqProofs[h1,h1',c1,hk,ha]
 ·rw[if_pos (fun h=>hk h.1)];simp -implicitDefEqProofs[h1,h1',c1,hk]
end
end Go.Ab
end
section
namespace Go.Ab
def Zff(a b:List (List Fz)):Bool:=(a.zip b).all fun p=>decide (p.1.map fv=p.2.map fv)
def Zh0(a b:Sm):Bool:=decide (a.nm=b.nm)&&decide (a.a.length=b.a.length)&&decide (a.b.map fv=b.b.map fv)&&decide (a.c.map fv=b.c.map fv)&&decide (a.e.map fv=b.e.map fv)&&Zff a.a b.a
def eqM(a b:List (List Fz)):Bool:=(a.zip b).all fun p=>decide (p.1=p.2)
def eqS(a b:Sm):Bool:=decide (a.nm=b.nm)&&decide (a.a.length=b.a.length)&&decide (a.b=b.b)&&decide (a.c=b.c)&&decide (a.e=b.e)&&eqM a.a b.a
def Zf6(s:Sm):Sm:=⟨s.nm,nrm s.c,s.a.map nrm,nrm s.b,nrm s.e⟩
theorem z9q{a b:List Fz}:nrm a=nrm b↔a.map fv=b.map fv:=by
 unfold nrm;constructor
 ·intro h;have:=congrArg (List.map fv) h;simpa[Ybp,Function.comp_def,zcz]using this
 ·intro h;have e:∀l:List Fz,(l.map fun x=>fz (fv x))=(l.map fv).map fz:=fun l=>by rw[Ybp];rfl
  rw[e,e,h]
theorem z4e(a b:Sm):eqS (Zf6 a) (Zf6 b)=Zh0 a b:=by
 have e:∀x y:List Fz,decide (nrm x=nrm y)=decide (x.map fv=y.map fv):=fun x y=>by rw[decide_eq_decide];exact z9q
 have eM:∀x y:List (List Fz),eqM (x.map nrm) (y.map nrm)=Zff x y:=by
  intro x y;unfold eqM Zff;rw[List.zip_map,List.all_map];congr 1
  funext p
  exact e p.1 p.2
 unfold eqS Zh0 Zf6;dsimp only;rw[Ya3,Ya3,e,e,e,eM]
section
variable{T:Tbl}[Zac T][Zq T][Zw T][Zz T][Zs T][Zu T][Zaz T][Ze T][Zl T][Zv T][Zav T][Zbf T][Zak T]
def Zh1(a b:Sm)(i:Nat):St:=⟨[(3,.ptr (.loc 3) 1 5 0 0),(46,.sl (Zt a.a) .an),(47,.i .i64 a.a.length),(48,.i .i64 i)],[(.loc 3,bxS b)],3⟩
theorem zs0(a b:Sm)(ha:SmS a)(hb:SmS b)(hl:a.a.length=b.a.length) :
  Zf T 0 0 (.norm false []) l598_0 (Zh1 a b 0)=if Zff (a.a.drop 0) (b.a.drop 0)=true then some (.n,⟨[],[],2⟩) else some (.r,⟨[(4,.b false)],[],2⟩):=by
 have hal:=ha.al;refine za0 (Zh1 a b) a.a.length (fun i=>if Zff (a.a.drop i) (b.a.drop i)=true then some (.n,⟨[],[],2⟩) else some (.r,⟨[(4,.b false)],[],2⟩)) (fun i hi=>?_) ?_
 ·have hj:i<b.a.length:=by omega
  have hj':(i:Int)<b.a.length:=by omega
  have hga:a.a[i]? = some (a.a[i]'hi):=Ya hi;have hgb:b.a[i]? = some (b.a[i]'hj):=Ya hj;have hws:=zbs hi (by omega);have q1:=ha.a _ (Yj hi);have q2:=hb.a _ (Yj hj);have c:=zf4 (T:=T) (a.a[i]'hi) (b.a[i]'hj) q1.1 (fun x hx=>Yc (q1.2 x hx) (by decide)) (fun x hx=>Yc (q2.2 x hx) (by decide));have key:Zff (a.a.drop i) (b.a.drop i)=(decide ((a.a[i]'hi).map fv=(b.a[i]'hj).map fv)&&Zff (a.a.drop (i+1)) (b.a.drop (i+1))):=by
   unfold Zff;rw[Yi hi,Yi hj,List.zip_cons_cons,Yb6]
  clear q1 q2 ha hb;by_cases h:(a.a[i]'hi).map fv=(b.a[i]'hj).map fv
  ·left;rw[decide_eq_true h]at c key;refine⟨?_,by simp only[key,Yd3]⟩;unfold Zh1 bxS;clear h key;simp -implicitDefEqProofs[l598_0,hi,hga,hj,hj',hgb,hws,c]
  ·right;rw[decide_eq_false h]at c key;rw[if_neg (by simp[key])];unfold Zh1 bxS;clear h key;constructor<;>simp -implicitDefEqProofs[l598_0,hi,hga,hj,hj',hgb,hws,c]
 ·have e:Zff [] (b.a.drop a.a.length)=true:=rfl;simp only[Y7,e,if_true];unfold Zh1 bxS;constructor<;>simp -implicitDefEqProofs[l598_0]
theorem zo7(a b:Sm)(ha:SmS a)(hb:SmS b):Za T 598 [esm a,esm b]=some (.b (Zh0 a b)):=by
 have le:∀{l:List Fz},(∀x∈l,fsz x≤300)→∀x∈l,fsz x≤1000:=fun h x hx=>Yc (h x hx) (by decide);have c1:=zf4 (T:=T) a.b b.b ha.bl (le ha.b) (le hb.b);have c2:=zf4 (T:=T) a.c b.c ha.cl (le ha.c) (le hb.c);have c3:=zf4 (T:=T) a.e b.e ha.el (le ha.e) (le hb.e);have hlp:=fun hl=>zs0 (T:=T) a b ha hb hl;unfold Zh0;unfold Zh1 bxS at hlp;simp only[Yaa,Yv]at hlp;rw[zab Zak.h598 rfl,b598];clear ha hb le;generalize decide (a.b.map fv=b.b.map fv)=B1 at *
 generalize decide (a.c.map fv=b.c.map fv)=B2 at *
 generalize decide (a.e.map fv=b.e.map fv)=B3 at *
 generalize Zff a.a b.a=B4 at *
 obtain⟨nm,c,A,B,E⟩:=a;obtain⟨nm',c',A',B',E'⟩:=b;dsimp only at *
 by_cases hn:nm=nm'
 ·by_cases hl:A.length=A'.length
  ·have hl':(A.length:Int)=A'.length:=by omega
   have h:=hlp hl;clear hlp;rw[hl]at h;cases B1 with
   | false=>simp -implicitDefEqProofs[hn,hl,hl',c1]
   | true=>
   cases B2 with
   | false=>simp -implicitDefEqProofs[hn,hl,hl',c1,c2]
   | true=>
   cases B3 with
   | false=>simp -implicitDefEqProofs[hn,hl,hl',c1,c2,c3]
   | true=>
   cases B4 with
   | false=>
    simp only[Y5,if_false]at h;simp -implicitDefEqProofs[hn,hl,hl',c1,c2,c3,h]
   | true=>
    simp only[if_true]at h;simp -implicitDefEqProofs[hn,hl,hl',c1,c2,c3,h]
  ·have hl':¬ (A.length:Int)=A'.length:=by omega
   simp -implicitDefEqProofs[hn,hl,hl']
 ·simp -implicitDefEqProofs[hn]
end
section
variable{T:Tbl}[Z5 T][Zal T][Z1 T][Zah T][Z2 T][Zaj T][Zx T][Zai T][Zdu T][Zdp T][Zcy T]
theorem zim(s:Sm)(hs:SmS s):Za T 600 [esm s]=some (esm (Zf6 s)):=by
 have le:∀{l:List Fz},(∀x∈l,fsz x≤300)→∀x∈l,fsz x≤1000:=fun h x hx=>Yc (h x hx) (by decide);have c1:=zdx (T:=T) s.c hs.cl (le hs.c);have c2:=zdx (T:=T) s.b hs.bl (le hs.b);have c3:=zdx (T:=T) s.e hs.el (le hs.e);have c4:=zo4 (T:=T) s.a hs.al (fun r hr=>(hs.a r hr).1) (fun r hr=>le (hs.a r hr).2);have e:fzM (Zei s.a)=s.a.map nrm:=by
  unfold fzM Zei;rw[Ybp];refine Ydb fun r _=>?_;show fzs (r.map fv)=nrm r;unfold fzs nrm;rw[Ybp]
  rfl
 rw[e]at c4;rw[zab Zcy.h600 rfl,b600];unfold Zf6;clear hs le e;generalize s.a.map nrm=A at *
 generalize nrm s.c=C at *
 generalize nrm s.b=B at *
 generalize nrm s.e=E at *
 obtain⟨nm,c,a,b,e⟩:=s;dsimp only at *
 simp -implicitDefEqProofs[c1,c2,c3,c4]
def Zd8(g:Nat)(s:Sm):Box:=⟨g,.str,5,[[.s s.nm,.sl (Zd s.c) .an,.sl (Zt s.a) .an,.sl (Zd s.b) .an,.sl (Zd s.e) .an]]⟩
def Zju(a b:Sm)(i:Nat):St:=⟨[(2,.ptr (.loc 2) 1 5 0 0),(3,.ptr (.loc 3) 2 5 0 0),(5,.i .i64 i)],[(.loc 2,Zd8 1 a),(.loc 3,Zd8 2 b)],4⟩
theorem zw5(a b:Sm)(ha:SmS a)(hl:a.a.length=b.a.length) :
  Zf T 0 0 (.norm false []) l599_0 (Zju a b 0)=if eqM (a.a.drop 0) (b.a.drop 0)=true then some (.n,⟨[],[],2⟩) else some (.r,⟨[(4,.b false)],[],2⟩):=by
 have hal:=ha.al;refine za0 (Zju a b) a.a.length (fun i=>if eqM (a.a.drop i) (b.a.drop i)=true then some (.n,⟨[],[],2⟩) else some (.r,⟨[(4,.b false)],[],2⟩)) (fun i hi=>?_) ?_
 ·have hi':(i:Int)<a.a.length:=by omega
  have hj:i<b.a.length:=by omega
  have hj':(i:Int)<b.a.length:=by omega
  have hga:a.a[i]? = some (a.a[i]'hi):=Ya hi;have hgb:b.a[i]? = some (b.a[i]'hj):=Ya hj;have hws:=zbs hi (by omega);have q1:=ha.a _ (Yj hi);have c:=zck (T:=T) (a.a[i]'hi) (b.a[i]'hj) q1.1 (fun x hx=>Yc (q1.2 x hx) (by decide));have key:eqM (a.a.drop i) (b.a.drop i)=(decide (a.a[i]'hi=b.a[i]'hj)&&eqM (a.a.drop (i+1)) (b.a.drop (i+1))):=by
   unfold eqM;rw[Yi hi,Yi hj,List.zip_cons_cons,Yb6]
  clear q1 ha;by_cases h:a.a[i]'hi=b.a[i]'hj
  ·left;rw[decide_eq_true h]at c key;refine⟨?_,by simp only[key,Yd3]⟩;unfold Zju Zd8;clear h key;simp -implicitDefEqProofs[l599_0,hi,hi',hga,hj,hj',hgb,hws,c]
  ·right;rw[decide_eq_false h]at c key;rw[if_neg (by simp[key])];unfold Zju Zd8;clear h key;constructor<;>simp -implicitDefEqProofs[l599_0,hi,hi',hga,hj,hj',hgb,hws,c]
 ·have e:eqM [] (b.a.drop a.a.length)=true:=rfl;simp only[Y7,e,if_true];unfold Zju Zd8;constructor<;>simp -implicitDefEqProofs[l599_0]
theorem zs1(a b:Sm)(ha:SmS a):Za T 599 [esm a,esm b]=some (.b (eqS a b)):=by
 have le:∀{l:List Fz},(∀x∈l,fsz x≤300)→∀x∈l,fsz x≤10000:=fun h x hx=>Yc (h x hx) (by decide);have c1:=zck (T:=T) a.b b.b ha.bl (le ha.b);have c2:=zck (T:=T) a.c b.c ha.cl (le ha.c);have c3:=zck (T:=T) a.e b.e ha.el (le ha.e);have hlp:=fun hl=>zw5 (T:=T) a b ha hl;unfold eqS;unfold Zju Zd8 at hlp;simp only[Yaa,Yv]at hlp;rw[zab Zdp.h599 rfl,b599];clear ha le;generalize decide (a.b=b.b)=B1 at *
 generalize decide (a.c=b.c)=B2 at *
 generalize decide (a.e=b.e)=B3 at *
 generalize eqM a.a b.a=B4 at *
 obtain⟨nm,c,A,B,E⟩:=a;obtain⟨nm',c',A',B',E'⟩:=b;dsimp only at *
 by_cases hn:nm=nm'
 ·by_cases hl:A.length=A'.length
  ·have hl':(A.length:Int)=A'.length:=by omega
   have h:=hlp hl;clear hlp;subst hn;cases B1 with
   | false=>simp -implicitDefEqProofs[hl,hl',c1]
   | true=>
   cases B2 with
   | false=>simp -implicitDefEqProofs[hl,hl',c1,c2]
   | true=>
   cases B3 with
   | false=>simp -implicitDefEqProofs[hl,hl',c1,c2,c3]
   | true=>
   cases B4 with
   | false=>
    simp only[Y5,if_false]at h;simp -implicitDefEqProofs[hl,hl',c1,c2,c3,h]
   | true=>
    simp only[if_true]at h;simp -implicitDefEqProofs[hl,hl',c1,c2,c3,h]
  ·have hl':¬ (A.length:Int)=A'.length:=by omega
   simp -implicitDefEqProofs[hn,hl,hl']
 ·simp -implicitDefEqProofs[hn]
end
end Go.Ab
end
section
namespace Go.Ab
def Zbw(a b:List Fz):List Fz:=fzs (Zfo (a.map fv) (Zc9 ((-1:Int):Rat) (b.map fv)))
def Zgl(s:Sm):List Fz:=if okS s=true∧s.e≠[] then Zbw s.b s.e else []
def Zit(s:Sm):Bool:=match s.b.getLast?,s.c.getLast?,s.a.getLast? with
 | some b,some c,some a=>decide (fv b=0)&&(decide (fv c=1)&&decide (a.map fv=(s.b.take (s.b.length-1)).map fv))
 | _,_,_=>false
structure OkSm (s:Sm):Prop where
 b1:1≤s.b.length
 b8:s.b.length≤8
 cl:s.c.length=s.b.length
 al:s.a.length=s.b.length
 el:s.e.length=s.b.length∨s.e.length=0
 sh:Zay s.a 0=true
 na:Zci s.a=true
 nb:s.b.all Zaf=true
 nc:s.c.all Zaf=true
 ne:s.e.all Zaf=true
theorem z9r(b c e:List Fz):Zci [b,c,e]=(b.all Zaf&&c.all Zaf&&e.all Zaf):=by
 unfold Zci;simp only[Yb6,Yej,Yes,Bool.and_assoc]
theorem zf5{s:Sm}(h:okS s=true):OkSm s∧Zbu s=0:=by
 unfold okS at h;have hw:=of_decide_eq_true h;refine⟨?_,hw⟩;unfold Zbu at hw;cases g1:Zax 2 s.nm with
 | false=>rw[g1]at hw;simp at hw
 | true=>
 cases g2:Zbg s with
 | false=>rw[g1,g2]at hw;simp at hw
 | true=>
 cases g3:Zci s.a with
 | false=>rw[g1,g2,g3]at hw;simp at hw
 | true=>
 cases g4:Zci [s.b,s.c,s.e]with
 | false=>rw[g1,g2,g3,g4]at hw;simp at hw
 | true=>
 obtain⟨s1,s2,s3,s4,s5,s6⟩:=zkd g2;rw[z9r]at g4;simp only[Yr]at g4;exact⟨s1,s2,s3,s4,s5,s6,g3,g4.1.1,g4.1.2,g4.2⟩
theorem zbr{l:List Fz}(h:l.all Zaf=true):∀x∈l,fsz x≤6:=fun x hx=>zcy (Yg.1 h x hx)
section
variable{T:Tbl}[Zac T][Zq T][Zw T][Zz T][Zs T][Zu T][Zaz T][Ze T][Zl T][Zv T][Zbl T][Za5 T][Za9 T][Zcd T][Zco T][Zb9 T][Zc2 T][Zfa T][Ze9 T][Zav T][Zbf T][Zem T][Zca T][Zad T][Zak T]
theorem zj9(s:Sm)(hs:SmS s):Za T 555 [esm s]=some (.sl (Zd (Zgl s)) .an):=by
 have c1:=zc6 (T:=T) s hs;unfold Zgl;rw[zab Zak.h555 rfl,b555];cases hk:okS s with
 | false=>
  rw[hk]at c1;rw[if_neg (by simp)];clear hs hk;obtain⟨nm,c,a,b,e⟩:=s;simp -implicitDefEqProofs[c1]
 | true=>
 rw[hk]at c1;obtain⟨H,_⟩:=zf5 hk;by_cases h0:s.e=[]
 ·rw[if_neg (fun h=>h.2 h0)];clear hs hk H;obtain⟨nm,c,a,b,e⟩:=s;dsimp only at *
  subst h0;replace c1:Za T 536 [.agg [.s nm,.sl (Zd c) .an,.sl (Zt a) .an,.sl (Zd b) .an,.sl [] .an]]=_:=c1;simp -implicitDefEqProofs[c1]
 ·rw[if_pos ⟨rfl,h0⟩];have hel:s.e.length=s.b.length:=by
   rcases H.el with h | h
   ·exact h
   ·exact absurd (Ya6.1 h) h0
  have hb8:=H.b8;have hpos:¬ (s.e.length:Int)=0:=by have:=Yby.2 h0;omega
  have c2:=zsy (T:=T) s.b s.e (by omega) hel (B:=6) (by decide) (by decide) (zbr H.nb) (zbr H.ne);have e1:fzs (Zfo (s.b.map fv) (Zc9 ((-1:Int):Rat) (s.e.map fv)))=Zbw s.b s.e:=rfl;rw[e1]at c2;generalize Zbw s.b s.e=G at *
  clear hs hk H e1;obtain⟨nm,c,a,b,e⟩:=s;dsimp only at *
  simp -implicitDefEqProofs[c1,c2,hpos,h0]
theorem zo8(s:Sm)(hs:SmS s):Za T 601 [esm s]=some (.b (okS s&&Zit s)):=by
 have c1:=zc6 (T:=T) s hs;rw[zab Zak.h601 rfl,b601];cases hk:okS s with
 | false=>
  rw[hk]at c1;clear hs hk;obtain⟨nm,c,a,b,e⟩:=s;simp -implicitDefEqProofs[c1]
 | true=>
 rw[hk]at c1;obtain⟨H,_⟩:=zf5 hk;have n1:=H.b1;have n8:=H.b8;have nc:=H.cl;have na:=H.al;obtain⟨n,hn⟩:∃n,s.b.length=n+1:=⟨s.b.length-1,by omega⟩;have kb:n<s.b.length:=by omega
 have kc:n<s.c.length:=by omega
 have ka:n<s.a.length:=by omega
 have gb:s.b[n]? = some (s.b[n]'kb):=Ya kb;have gc:s.c[n]? = some (s.c[n]'kc):=Ya kc;have ga:s.a[n]? = some (s.a[n]'ka):=Ya ka;have eb:s.b.getLast? = some (s.b[n]'kb):=by rw[Ybf,show s.b.length-1=n by omega,gb]
 have ec:s.c.getLast? = some (s.c[n]'kc):=by rw[Ybf,show s.c.length-1=n by omega,gc]
 have ea:s.a.getLast? = some (s.a[n]'ka):=by rw[Ybf,show s.a.length-1=n by omega,ga]
 have hE:Zit s=(decide (fv (s.b[n]'kb)=0)&&(decide (fv (s.c[n]'kc)=1)&&decide ((s.a[n]'ka).map fv=(s.b.take n).map fv))):=by
  unfold Zit;rw[eb,ec,ea,hn,Yem]
 rw[hE];have zb:=zbr H.nb _ (Yj kb);have zc:=zbr H.nc _ (Yj kc);have za:=zf6 H.na _ (Yj ka);have la:=zbu _ _ H.sh _ (Yj ka);have d1:=zvh (T:=T) (s.b[n]'kb) (by omega);have d2:=zqi (T:=T);have d3:=zec (T:=T) (s.c[n]'kc) (fz 1) (by omega) (by rw[zbe,zx1];omega);rw[zcz]at d3;have d4:=zf4 (T:=T) (s.a[n]'ka) (s.b.take n) (by omega) (fun x hx=>Yc (za x hx) (by decide)) (fun x hx=>Yc (zbr H.nb x (Yak hx)) (by decide));have w1:IntKind.wrap .i64 ((s.b.length:Int)-1)=(n:Int):=by rw[zac _ (by omega)];omega
 have e0:(fv (s.b[n]'kb)=0)↔sgQ (fv (s.b[n]'kb))=0:=by
  have h1:=@z4v (fv (s.b[n]'kb));have h2:=@z4w (fv (s.b[n]'kb));constructor
  ·intro h;have a1:¬ 0<sgQ (fv (s.b[n]'kb)):=fun h3=>by rw[h1,h]at h3;grind
   have a2:¬ sgQ (fv (s.b[n]'kb))<0:=fun h3=>by rw[h2,h]at h3;grind
   omega
  ·intro h;have a1:¬ 0<fv (s.b[n]'kb):=fun h3=>by rw[←h1]at h3;omega
   have a2:¬ fv (s.b[n]'kb)<0:=fun h3=>by rw[←h2]at h3;omega
   grind
 have e1:decide (fv (s.b[n]'kb)=0)=decide (sgQ (fv (s.b[n]'kb))=0):=by rw[decide_eq_decide];exact e0
 rw[e1];have kb':(n:Int)<s.b.length:=by omega
 have kc':(n:Int)<s.c.length:=by omega
 have ka':(n:Int)<s.a.length:=by omega
 have kb2:(n:Int)≤s.b.length:=by omega
 have kb3:n≤s.b.length:=by omega
 clear hs hk H e0 e1 hE eb ec ea za la zb zc n1 n8 nc na;generalize hxb:s.b[n]'kb=xb at *
 generalize hxc:s.c[n]'kc=xc at *
 generalize hxa:s.a[n]'ka=xa at *
 generalize decide (fv xc=1)=D1 at *
 generalize decide (xa.map fv=(s.b.take n).map fv)=D2 at *
 generalize sgQ (fv xb)=g at *
 generalize fz 1=z1 at *
 obtain⟨nm,c,a,b,e⟩:=s;obtain⟨b1,b2,b3⟩:=xb;obtain⟨c1',c2',c3'⟩:=xc;obtain⟨y1,y2,y3⟩:=z1;dsimp only at *
 by_cases hg:g=0
 ·subst hg;cases D1 with
  | false=>simp -implicitDefEqProofs[c1,w1,kb,kc,ka,kb',kc',ka',kb2,kb3,gb,gc,ga,hxb,hxc,hxa,d1,d2,d3]
  | true=>simp -implicitDefEqProofs[c1,w1,kb,kc,ka,kb',kc',ka',kb2,kb3,gb,gc,ga,hxb,hxc,hxa,d1,d2,d3,d4,zcv]
 ·simp -implicitDefEqProofs[c1,w1,kb,kc,ka,kb',kc',ka',kb2,kb3,gb,gc,ga,hxb,hxc,hxa,d1,d2,d3,hg]
end
end Go.Ab
end
section
namespace Go.Ab
abbrev Zku:List UInt8:=[104,101,117,110,10,48,124,10,49,124,49,10,98,32,49,47,50,44,49,47,50,10,101,32,49,44,48]
abbrev Zl0:List UInt8:=[101,117,108,101,114,10,48,124,10,98,32,50]
def Zd9:Sm:=⟨[104,101,117,110],[fz 0,fz 1],[[],[fz 1]],[fz (mkRat 1 2),fz (mkRat 1 2)],[fz 1,fz 0]⟩
def Zkv:Sm:=⟨[101,117,108,101,114],[fz 0],[[]],[fz 2],[]⟩
theorem znm:Zcq Zku=(Zd9,0,0):=rfl
theorem zqu:Zcq Zl0=(Zkv,0,0):=rfl
theorem zdi{q:Rat}(h:sz q≤2):Zaf (fz q)=true:=by
 unfold Zaf Zb0;rw[zcz,decide_eq_true rfl,Yd3,decide_eq_true_eq];have:=z4c (x:=fz q) (k:=2) (by rw[zbe];exact h);omega
theorem zlf:sz (mkRat 1 2)≤1:=zvq (by decide) (by decide)
theorem sz_0:sz 0≤1:=zvq (by decide) (by decide)
theorem sz_1:sz 1≤1:=zvq (by decide) (by decide)
theorem sz_2:sz 2≤1:=zvq (by decide) (by decide)
theorem zw6:SmS Zd9:=by
 have h0:fsz (fz 0)≤300:=by rw[zbe];have:=sz_0;omega
 have h1:fsz (fz 1)≤300:=by rw[zbe];have:=sz_1;omega
 have h2:fsz (fz (mkRat 1 2))≤300:=by rw[zbe];have:=zlf;omega
 unfold Zd9;constructor
 ·decide
 ·simp
 ·simp
 ·simp
 ·simp
 ·intro x hx;simp only[Yt,Ya2,or_false]at hx;rcases hx with rfl | rfl<;>assumption
 ·intro r hr;simp only[Yt,Ya2,or_false]at hr;rcases hr with rfl | rfl
  ·exact⟨by simp,by simp⟩
  ·exact⟨by simp,fun x hx=>by simp only[Yt,Ya2,or_false]at hx;subst hx;assumption⟩
 ·intro x hx;simp only[Yt,Ya2,or_false]at hx;rcases hx with rfl | rfl<;>assumption
 ·intro x hx;simp only[Yt,Ya2,or_false]at hx;rcases hx with rfl | rfl<;>assumption
theorem z9s:SmS Zkv:=by
 have h0:fsz (fz 0)≤300:=by rw[zbe];have:=sz_0;omega
 have h2:fsz (fz 2)≤300:=by rw[zbe];have:=sz_2;omega
 unfold Zkv;constructor
 ·decide
 ·simp
 ·simp
 ·simp
 ·simp
 ·intro x hx;simp only[Yt,Ya2,or_false]at hx;subst hx;assumption
 ·intro r hr;simp only[Yt,Ya2,or_false]at hr;subst hr;exact⟨by simp,by simp⟩
 ·intro x hx;simp only[Yt,Ya2,or_false]at hx;subst hx;assumption
 ·simp
theorem zka:Zbu Zd9=0:=by
 have n0:Zaf (fz 0)=true:=zdi (by have:=sz_0;omega);have n1:Zaf (fz 1)=true:=zdi (by have:=sz_1;omega);have n2:Zaf (fz (mkRat 1 2))=true:=zdi (by have:=zlf;omega);have r1:Zax 2 [104,101,117,110]=true:=rfl;have s1:sumF [fz (mkRat 1 2),fz (mkRat 1 2)]=1:=by unfold sumF;simp only[Yca,Yc7,zcz];decide +kernel
 have s2:sumF [fz 1,fz 0]=1:=by unfold sumF;simp only[Yca,Yc7,zcz];decide +kernel
 have s3:sumF [fz 1]=1:=by unfold sumF;simp only[Yca,Yc7,zcz];decide +kernel
 have s4:sumF []=0:=rfl;unfold Zbu Zd9 Zbg Zci Zbq;simp[Zay,n0,n1,n2,r1,s1,s2,s3,s4,zcz]
theorem znn:Zbu Zkv=5:=by
 have n0:Zaf (fz 0)=true:=zdi (by have:=sz_0;omega);have n2:Zaf (fz 2)=true:=zdi (by have:=sz_2;omega);have r1:Zax 2 [101,117,108,101,114]=true:=rfl;have s1:sumF [fz 2]≠1:=by unfold sumF;simp only[Yca,Yc7,zcz];decide +kernel
 have s4:sumF []=0:=rfl;unfold Zbu Zkv Zbg Zci Zbq;simp[Zay,n0,n2,r1,s1,s4,zcz]
theorem zs2:Ze1 Zku=(Zd9,0,0):=by
 unfold Ze1;rw[if_neg (by decide),znm,if_neg (by simp),if_neg (by simp[zka])]
theorem zw7:Ze1 Zl0=(⟨[],[],[],[],[]⟩,2,5):=by
 unfold Ze1;rw[if_neg (by decide),zqu,if_neg (by simp),if_pos (by simp[znn])];dsimp only;rw[znn]
theorem z0b:Zgl Zd9=[fz (-(mkRat 1 2)),fz (mkRat 1 2)]:=by
 have ho:okS Zd9=true:=by unfold okS;rw[zka];rfl
 unfold Zgl;rw[if_pos ⟨ho,by unfold Zd9;simp⟩];unfold Zbw Zd9 Zfo Zc9 fzs;simp only[Y0,Yb7,zcz,List.zipWith_cons_cons,List.zipWith_nil_left];have e1:mkRat 1 2+((-1:Int):Rat)*1=-(mkRat 1 2):=by decide +kernel
 have e2:mkRat 1 2+((-1:Int):Rat)*0=mkRat 1 2:=by decide +kernel
 rw[e1,e2]
end Go.Ab
end
section
namespace Go.Ab
end Go.Ab
end
section
namespace Go.Ab
class Zk7 (T:Tbl):Prop where
end Go.Ab
end
section
namespace Go.Ab
class Zk6 (T:Tbl):Prop where
end Go.Ab
end
section
namespace Go.Ab
end Go.Ab
end
section
namespace Go.Ab
theorem zct{K:Nat}:∀(ts:List (List UInt8)),(∀t∈ts,t.length≤K)→(List.intercalate [44] ts).length≤ts.length*(K+1)
 | [],_=>by simp[List.intercalate]
 | [t],h=>by
  have:=h t Yz;simp[List.intercalate];omega
 | t::t2::ts,h=>by
  have h1:=h t Yz;have h2:=zct (t2::ts) fun t ht=>h t (Yn _ ht);have e:List.intercalate [44] (t::t2::ts)=t++44::List.intercalate [44] (t2::ts):=by simp[List.intercalate]
  rw[e,Yy,Ye];simp only[Ye]at h2 ⊢;rw[Yel];omega
section
variable{T:Tbl}[Zac T][Zq T][Zw T][Zz T][Zs T][Zu T][Zn T][Zaz T][Ze T][Zl T][Zv T][Zbl T][Za9 T][Zc8 T][Zaw T][Zcd T][Zc6 T][Zav T][Zbf T][Zdb T][Zem T][Z5 T][Zal T][Z1 T][Zah T][Z2 T][Zaj T][Zx T][Zai T][Zel T][Zcx T][Zce T][Zk6 T][Zk7 T]
def Zn7(l:List Fz)(i:Nat):St:=⟨[(0,.sl (Zd l) .an),(3,.i .i64 (Zmm (l.take i))),(4,.i .i64 i)],[],2⟩
end
end Go.Ab
end
section
namespace Go.Ab
theorem zcl(c:List UInt8):∀(ts:List (List UInt8)) (t:List UInt8),ts≠[]→List.intercalate c (ts++[t])=List.intercalate c ts++(c++t)
 | [],_,h=>absurd rfl h
 | [a],t,_=>by simp[List.intercalate,List.intersperse]
 | a::b::r,t,_=>by
  have ih:=zcl c (b::r) t (by simp);simp only[List.intercalate,Ybd,List.intersperse,Yer]at ih ⊢;rw[ih];simp only[Y8]
theorem zcm{q:Rat}(h:sz q≤20):(Zam q.num.natAbs).length≤193∧(Zam q.den).length≤193∧(Zc4 q.num).length≤194∧(Z3 q).length≤400:=by
 have h1:=zi4 (n:=q.num.natAbs) (k:=20) (d:=192) (Yc (zf8 q) h) (by decide +kernel);have h2:=zi4 (n:=q.den) (k:=20) (d:=192) (Yc (ze9 q) h) (by decide +kernel);have h3:(Zc4 q.num).length≤194:=by
  unfold Zc4;split
  ·simp;omega
  ·omega
 refine⟨h1,h2,h3,?_⟩;unfold Z3;split
 ·omega
 ·simp;omega
section
variable{T:Tbl}[Z5 T][Zal T][Z1 T][Zah T][Z2 T][Zaj T][Zx T][Zdt T][Zai T][Ze7 T]
theorem zz4(n:Bool)(a d:List UInt32):Za T 234 [efz (n,a,d)]=some (wh n a):=by
 rw[zab Zx.h234 rfl,b234];simp -implicitDefEqProofs
theorem zj6(q:Rat)(hq:sz q≤20):Za T 259 [efz (fz q)]=some (.s (Z3 q)):=by
 obtain⟨t1,t2,t3,t4⟩:=zcm hq;have l1:=zf8 q;have l2:=ze9 q;have h1:=zz4 (T:=T) (decide (q.num<0)) (ofN q.num.natAbs) (ofN q.den);have h2:=zsl (T:=T) (decide (q.num<0)) (ofN q.num.natAbs) (by omega);rw[zg2]at h2;have h3:=zig (T:=T) (ofN q.den);rw[zae]at h3;have h4:=zj1 (T:=T) (ofN q.den) (by omega);rw[zae]at h4;have e':fz q=(decide (q.num<0),ofN q.num.natAbs,ofN q.den):=rfl;rw[e',zab Zdt.h259 rfl,b259];unfold Z3;have c1:1+(Zam q.den).length≤9223372036854775807:=by omega
 have c2:(Zc4 q.num).length+((Zam q.den).length+1)≤9223372036854775807:=by omega
 clear e' l1 l2 t4;generalize ofN q.den=D at *
 generalize ofN q.num.natAbs=A at *
 by_cases hd:q.den=1
 ·rw[decide_eq_true hd]at h3;simp -implicitDefEqProofs[h1,h2,h3,h4,hd]
 ·rw[decide_eq_false hd]at h3;generalize Zam q.den=TD at *
  generalize Zc4 q.num=TZ at *
  generalize decide (q.num<0)=B at *
  simp -implicitDefEqProofs[h1,h2,h3,h4,hd,c1,c2]
theorem zss(p:List Rat)(hl:p.length≤1000)(hp:∀q∈p,sz q≤20):Za T 284 [.sl (Zd (fzs p)) .an]=some (.s (List.intercalate [44] (p.map Z3))):=by
 have hloop:∀i:Nat,i≤p.length→Zf T 0 0 (.norm false [3]) l284_0 ⟨[(0,.sl (Zd (fzs p)) .an),(3,.s (List.intercalate [44] ((p.take i).map Z3))),(4,.i .i64 i)],[],2⟩=some (.n,⟨[(3,.s (List.intercalate [44] (p.map Z3)))],[],2⟩):=by
  refine zaq (fun i:Nat=>⟨[(0,.sl (Zd (fzs p)) .an),(3,.s (List.intercalate [44] ((p.take i).map Z3))),(4,.i .i64 i)],[],2⟩) _ (fun i=>p.length-i) _ ?_;intro i hi;by_cases h0:i<p.length
  ·left;have hws:=zbs h0 (by omega);have hg:(fzs p)[i]? = some (fz (p[i]'h0)):=zwz (Ya h0);obtain⟨hil,hgE⟩:=Yu.1 hg;have hil':(i:Int)<(fzs p).length:=by omega
   have cm:=zj6 (T:=T) (p[i]'h0) (hp _ (Yj h0));have hd:(p.take (i+1)).map Z3=(p.take i).map Z3++[Z3 (p[i]'h0)]:=zbq p Z3 h0;have hb:=zct (K:=400) ((p.take i).map Z3) (fun t ht=>by
    obtain⟨q,hq,rfl⟩:=Yab.1 ht;exact(zcm (hp q (Yak hq))).2.2.2)
   have hlen:((p.take i).map Z3).length=i:=by rw[Ya3,Yai];omega
   rw[hlen]at hb;have hb2:i*(400+1)≤1000*401:=Ydr (by omega) (Yd _);have ht4:=(zcm (hp _ (Yj h0))).2.2.2;have c1:(List.intercalate [44] ((p.take i).map Z3)).length+1≤9223372036854775807:=by omega
   have c2:(List.intercalate [44] ((p.take i).map Z3)).length+((Z3 (p[i]'h0)).length+1)≤9223372036854775807:=by omega
   have c3:(List.intercalate [44] ((p.take i).map Z3)).length+1+(Z3 (p[i]'h0)).length≤9223372036854775807:=by omega
   have c4:(Z3 (p[i]'h0)).length≤9223372036854775807:=by omega
   refine⟨i+1,h0,by show p.length-(i+1)<p.length-i;omega,?_,rfl⟩;by_cases hi0:i=0
   ·subst hi0;have e1:List.intercalate [44] ((p.take 1).map Z3)=Z3 (p[0]'h0):=by
     rw[show (1:Nat)=0+1 from rfl,hd];simp[List.intercalate]
    rw[show (0+1:Nat)=1 from rfl,e1];have e2:List.intercalate [44] ((p.take 0).map Z3)=([]:List UInt8):=by simp[List.intercalate]
    rw[e2];clear hd hb hb2 hlen c1 c2 c3 hp e1 e2;generalize Z3 (p[0]'h0)=TX at *
    generalize fz (p[0]'h0)=X at *
    generalize fzs p=PP at *
    simp -implicitDefEqProofs[l284_0,hil,hil',hg,hgE,hws,cm,c4]
   ·have hne:(p.take i).map Z3≠[]:=by
     intro h;rw[h]at hlen;exact hi0 (by simpa using hlen.symm)
    have e1:=zcl [44] ((p.take i).map Z3) (Z3 (p[i]'h0)) hne;rw[hd,e1];have hip:(0:Int)<i:=by omega
    have hip':0<i:=by omega
    clear hd hb hb2 hlen hp e1 hne;generalize List.intercalate [44] ((p.take i).map Z3)=S at *
    generalize Z3 (p[i]'h0)=TX at *
    generalize fz (p[i]'h0)=X at *
    generalize fzs p=PP at *
    simp -implicitDefEqProofs[l284_0,hil,hil',hg,hgE,hws,cm,hip,hip',c1,c2,c3]
  ·right;have:i=p.length:=by omega
   subst this;rw[Yc8];have hlp:(p.length:Int)=(fzs p).length:=by rw[zdh]
   clear hp;rw[hlp];generalize fzs p=PP at *
   generalize List.intercalate [44] (p.map Z3)=S at *
   constructor<;>simp -implicitDefEqProofs[l284_0]
 have h:=hloop 0 (Yp _);have e2:List.intercalate [44] ((p.take 0).map Z3)=([]:List UInt8):=by simp[List.intercalate]
 rw[e2]at h;simp only[Yv]at h;rw[zab Zai.h284 rfl,b284];clear hp hloop;generalize fzs p=PP at *
 generalize List.intercalate [44] (p.map Z3)=S at *
 simp -implicitDefEqProofs[h]
def Zoh(s:List UInt8)(y:Nat×Nat×List Rat):St:=
 ⟨[(0,.s s),(5,.bs (.loc 5) 1 3 0 y.2.2.length),(6,.i .i64 y.2.1),(7,.i .i64 y.1)],[(.loc 5,⟨1,.own,3,Zd (fzs y.2.2)⟩)],3⟩
def Znf(r:List Rat×Int×Int):Option (Ex×St):=
 if r.2.1=0 then some (.n,⟨[(5,.bs (.loc 5) 1 3 0 r.1.length)],[(.loc 5,⟨1,.own,3,Zd (fzs r.1)⟩)],3⟩)
 else some (.r,⟨[(2,.sl [] .an),(3,.i .i64 r.2.1),(4,.i .i64 r.2.2)],[],2⟩)
def Zm2(s:List UInt8)(y:Nat×Nat×List Rat):List Rat×Int×Int:=
 if y.1≤s.length then Zb3 (Z6 44 (s.drop y.2.1)) y.2.1 y.2.2 else (y.2.2,0,0)
def piece(s:List UInt8)(i from_:Nat):List UInt8:=(s.drop from_).take (i-from_)
end
end Go.Ab
end
section
namespace Go.Ab
theorem zw8:Z3 (mkRat 1 2)=[49,47,50]:=by
 have e1:(mkRat 1 2).num=1:=by decide
 have e2:(mkRat 1 2).den=2:=by decide
 unfold Z3 Zc4;rw[e1,e2];simp[zb4]
theorem zs3:Z3 (-(mkRat 1 2))=[45,49,47,50]:=by
 have e1:(-(mkRat 1 2)).num=-1:=by decide
 have e2:(-(mkRat 1 2)).den=2:=by decide
 unfold Z3 Zc4;rw[e1,e2];simp[zb4]
theorem z0c:List.intercalate [44] (Zat [fz (-(mkRat 1 2)),fz (mkRat 1 2)])=[45,49,47,50,44,49,47,50]:=by
 unfold Zat;simp only[Y0,Yb7,zcz,zw8,zs3]
 rfl
section
variable{T:Tbl}[Zac T][Zq T][Zw T][Zz T][Zs T][Zu T][Zn T][Zaz T][Ze T][Zl T][Zv T][Zbl T][Za5 T][Za9 T][Zc8 T][Zaw T][Zcd T][Zc6 T][Zco T][Zb9 T][Zc2 T][Zfa T][Ze9 T][Zav T][Zbf T][Zdb T][Zem T][Zca T][Zad T][Zak T][Zdp T][Zcy T]
theorem zo9(hcut:∀l:List UInt8,l.length≤1000000→Za T 184 [.s l,.s [124]]=some (.tup [.s (hdC 124 l),.s (tlC 124 l),.b (l.contains 124)])):Za T 596 []=some (.b true):=by
 have c1:=znp (T:=T) hcut Zku (by decide) (fun _ _=>by rw[znm];exact zw6);have c2:=znp (T:=T) hcut Zl0 (by decide) (fun _ _=>by rw[zqu];exact z9s);rw[zs2]at c1;rw[zw7]at c2;have c3:=zj9 (T:=T) Zd9 zw6;rw[z0b]at c3;have c4:=zg9 (T:=T) [fz (-(mkRat 1 2)),fz (mkRat 1 2)] (by simp) (by
  intro x hx;simp only[Yt,Ya2,or_false]at hx;rcases hx with rfl | rfl
  ·rw[zbe,z1s];have:=zlf;omega
  ·rw[zbe];have:=zlf;omega)
 rw[z0c]at c4;have hb:Zd9.b.length=2:=rfl;generalize [fz (-(mkRat 1 2)),fz (mkRat 1 2)]=G at *
 generalize Zd9=S at *
 obtain⟨nm,c,a,b,e⟩:=S;dsimp only at *
 rw[zab Zcy.h596 rfl,b596];simp -implicitDefEqProofs[c1,c2,c3,c4,hb]
def Zhf(s:Sm)(i:Nat):St:=⟨[(1,.ptr (.loc 1) 1 5 0 0),(4,.bs (.loc 33) 2 1 0 (i+1)),(14,.sl (Zt s.a) .an),(15,.i .i64 s.a.length),(16,.i .i64 i)],
 [(.loc 1,bxS s),(.loc 33,⟨2,.own,1,Zr ([s.nm]++((s.c.zip s.a).take i).map fun p=>Zdy p.1 p.2)⟩)],4⟩
def Zjv(s:Sm):Nat→St
 | 0=>⟨[(1,.ptr (.loc 1) 1 5 0 0),(4,.sl (Zr [s.nm]) .fu),(14,.sl (Zt s.a) .an),(15,.i .i64 s.a.length),(16,.i .i64 0)],[(.loc 1,bxS s)],3⟩
 | i+1=>Zhf s (i+1)
theorem z1i(s:Sm):Zjv s 0=⟨[(1,.ptr (.loc 1) 1 5 0 0),(4,.sl [[.s s.nm]] .fu),(14,.sl (Zt s.a) .an),(15,.i .i64 s.a.length),(16,.i .i64 0)],[(.loc 1,bxS s)],3⟩:=rfl
theorem z9t(s:Sm){i:Nat}(h:¬i=0):Zjv s i=Zhf s i:=by cases i with | zero=>omega | succ m=>rfl
theorem z1j(s:Sm)(i:Nat):Zjv s (i+1)=Zhf s (i+1):=rfl
theorem zs4(s:Sm)(hc:s.c.length=s.a.length)(h0:1≤s.a.length)(hl:s.a.length≤8)(h1:∀x∈s.c,fsz x≤6)(h2:∀r∈s.a,r.length≤8∧∀x∈r,fsz x≤6) :
  Zf T 0 0 (.norm false [1,4]) l597_0 (Zjv s 0)=some (.n,⟨[(1,.ptr (.loc 1) 1 5 0 0),(4,.bs (.loc 33) 2 1 0 (s.a.length+1))],[(.loc 1,bxS s),(.loc 33,⟨2,.own,1,Zr ([s.nm]++(s.c.zip s.a).map fun p=>Zdy p.1 p.2)⟩)],4⟩):=by
 refine zay (Zjv s) s.a.length _ (fun i hi=>?_) ?_
 ·have hj:i<s.c.length:=by omega
  have hj':(i:Int)<s.c.length:=by omega
  have hga:s.a[i]? = some (s.a[i]'hi):=Ya hi;have hgc:s.c[i]? = some (s.c[i]'hj):=Ya hj;have hws:=zbs hi (by omega);have q:=h2 _ (Yj hi);have c1:=zij (T:=T) (s.c[i]'hj) (by have:=h1 _ (Yj hj);omega);have c2:=zg9 (T:=T) (s.a[i]'hi) (by omega) (fun x hx=>by have:=q.2 x hx;omega);have hz:i<(s.c.zip s.a).length:=by rw[Yc1];omega
  have e:((s.c.zip s.a).take (i+1)).map (fun p=>Zdy p.1 p.2)=((s.c.zip s.a).take i).map (fun p=>Zdy p.1 p.2)++[Zdy (s.c[i]'hj) (s.a[i]'hi)]:=by
   rw[Yap hz,Ycz];simp
  have hml:([s.nm]++((s.c.zip s.a).take i).map (fun p=>Zdy p.1 p.2)).length=i+1:=by simp;omega
  have hx1:fsz (s.c[i]'hj)≤6:=h1 _ (Yj hj);have u1:=zik (q:=fv (s.c[i]'hj)) (by have:=zdc (L:=6) hx1 (by decide);omega);have u2:=zct (K:=10000) (Zat (s.a[i]'hi)) (fun t ht=>by
   obtain⟨x,hx,rfl⟩:=Yab.1 ht;have:=zdc (L:=6) (q.2 x hx) (by decide);exact zik (by omega))
  have u3:(Zat (s.a[i]'hi)).length≤8:=by unfold Zat;rw[Ya3];exact q.1
  have u4:(Zat (s.a[i]'hi)).length*(10000+1)≤8*(10000+1):=Yw _ u3;by_cases h0:i=0
  ·subst h0;rw[z1i,z1j];unfold Zhf bxS;rw[e,←Y8];have hst:Zdy (s.c[0]'hj) (s.a[0]'hi)=Z3 (fv (s.c[0]'hj))++([124]:List UInt8)++List.intercalate [44] (Zat (s.a[0]'hi)):=rfl;rw[hst];clear hst e;simp only[Yb8,Yb7,Yaq]at *
   generalize Z3 (fv (s.c[0]'hj))=t1 at *
   generalize List.intercalate [44] (Zat (s.a[0]'hi))=t2 at *
   have hp:=zdj [s.nm] (t1++([124]:List UInt8)++t2);rw[hml]at hp;have v1:t1.length≤9223372036854775806:=by omega
   have v2:t1.length+1+t2.length≤9223372036854775807:=by omega
   have v3:t1.length+(t2.length+1)≤9223372036854775807:=by omega
   rw[Y8]at hp;simp only[Ybd,Yaf]at hp
   skip
   generalize hxc:s.c[0]'hj=xc at *
   obtain⟨nm,C,A,B,E⟩:=s;obtain⟨y1,y2,y3⟩:=xc;dsimp only at *
   clear q h1 h2;simp -implicitDefEqProofs[Zr,l597_0,hi,hga,hj,hj',hgc,hxc,hws,c1,c2,v1,v2,v3]
  ·rw[z9t s h0,z1j];unfold Zhf bxS;rw[e,←Y8];have hst:Zdy (s.c[i]'hj) (s.a[i]'hi)=Z3 (fv (s.c[i]'hj))++[124]++List.intercalate [44] (Zat (s.a[i]'hi)):=rfl;rw[hst];clear hst e;generalize [s.nm]++((s.c.zip s.a).take i).map (fun p=>Zdy p.1 p.2)=M at *
   generalize Z3 (fv (s.c[i]'hj))=t1 at *
   generalize List.intercalate [44] (Zat (s.a[i]'hi))=t2 at *
   have hp:=zdj M (t1++[124]++t2);rw[hml]at hp;have v1:t1.length≤9223372036854775806:=by omega
   have v2:t1.length+1+t2.length≤9223372036854775807:=by omega
   have v3:t1.length+(t2.length+1)≤9223372036854775807:=by omega
   rw[Y8]at hp;simp only[Ybd,Yaf]at hp;have hb:i≤4294967294:=by omega
   generalize hxc:s.c[i]'hj=xc at *
   obtain⟨nm,C,A,B,E⟩:=s;obtain⟨y1,y2,y3⟩:=xc;dsimp only at *
   clear q h1 h2;simp -implicitDefEqProofs[l597_0,hi,hga,hj,hj',hgc,hxc,hws,c1,c2,hml,hb,hp,v1,v2,v3]
 ·have e:(s.c.zip s.a).take s.a.length=s.c.zip s.a:=Yb (by rw[Yc1];omega);have e2:Zjv s s.a.length=Zhf s s.a.length:=by
   cases h:s.a.length with
   | zero=>omega
   | succ m=>rfl
  rw[e2];unfold Zhf bxS;rw[e];generalize [s.nm]++(s.c.zip s.a).map (fun p=>Zdy p.1 p.2)=M at *
  constructor<;>simp -implicitDefEqProofs[l597_0]
theorem zpa(s:Sm)(hs:SmS s):Za T 597 [esm s]=some (.tup (if okS s=true then [.s (textS s),.b true] else [.s [],.b false])):=by
 have c1:=zc6 (T:=T) s hs;rw[zab Zdp.h597 rfl,b597];cases hk:okS s with
 | false=>
  rw[hk]at c1;clear hs hk;obtain⟨nm,c,a,b,e⟩:=s;simp -implicitDefEqProofs[c1]
 | true=>
 rw[hk]at c1;unfold esm at c1 ⊢;obtain⟨H,_⟩:=zf5 hk;have n1:=H.b1;have n8:=H.b8;have nc:=H.cl;have na:=H.al;have hnm:=hs.nm;have ha:∀r∈s.a,r.length≤8∧∀x∈r,fsz x≤6:=fun r hr=>⟨by have:=zbu _ _ H.sh r hr;omega,zf6 H.na r hr⟩;have hl:=zs4 (T:=T) s (by omega) (by omega) (by omega) (zbr H.nc) ha;have cb:=zg9 (T:=T) s.b (by omega) (fun x hx=>by have:=zbr H.nb x hx;omega);have hel:s.e.length≤8:=by rcases H.el with h | h<;>omega
 have ce:=zg9 (T:=T) s.e (by omega) (fun x hx=>by have:=zbr H.ne x hx;omega);have lt:∀l:List Fz,l.length≤8→(∀x∈l,fsz x≤6)→(∀t∈Zat l,t.length≤1000)∧(List.intercalate [44] (Zat l)).length≤8008:=by
  intro l h8 h6;have hq:∀t∈Zat l,t.length≤1000:=by
   intro t ht;obtain⟨x,hx,rfl⟩:=Yab.1 ht;have:=(zcm (q:=fv x) (by have:=zdc (L:=6) (h6 x hx) (by decide);omega)).2.2.2;omega
  refine⟨hq,?_⟩;have hb:=zct (K:=1000) (Zat l) hq;have u3:(Zat l).length≤8:=by unfold Zat;rw[Ya3];exact h8
  have u4:(Zat l).length*(1000+1)≤8*(1000+1):=Yw _ u3;omega
 have lb:=(lt s.b (by omega) (zbr H.nb)).2;have le:=(lt s.e hel (zbr H.ne)).2;have lst:∀p∈s.c.zip s.a,(Zdy p.1 p.2).length≤10000:=by
  intro p hp;have hm:=List.of_mem_zip hp;have l1:=(lt [p.1] (by simp) (fun x hx=>by rw[Ya5.1 hx];exact zbr H.nc _ hm.1)).1 (Z3 (fv p.1)) (by simp[Zat]);have l2:=(lt p.2 (ha _ hm.2).1 (ha _ hm.2).2).2;unfold Zdy;simp only[Yy,Ye,Yag];omega
 have hz:(s.c.zip s.a).length=s.a.length:=by rw[Yc1];omega
 have hj:Za T 183 [.sl (Zr (Ze2 s)) .an,.s [10]]=some (.s (textS s)):=by
  have g1:∀t∈Ze2 s,t.length≤10000:=by
   intro t ht;unfold Ze2 at ht;simp only[Ybc,Yab,Ya5]at ht;rcases ht with ((h | h) | h) | h
   ·rw[h];omega
   ·obtain⟨p,hp,h⟩:=h;rw[←h];exact lst p hp
   ·rw[h];simp only[Yy,Ye,Yag];omega
   ·by_cases h0:s.e=[]
    ·rw[if_pos h0]at h;cases h
    ·rw[if_neg h0,Ya5]at h;rw[h];simp only[Yy,Ye,Yag];omega
  have g2:(Ze2 s).length≤1000:=by
   unfold Ze2;simp only[Yy,Ya3,Ye,Yag,hz];split<;>simp<;>omega
  rw[p183,zkj _ _ g1 g2 (by decide)]
  rfl
 have e3:Ze2 s=[s.nm]++(s.c.zip s.a).map (fun p=>Zdy p.1 p.2)++[[98,32]++List.intercalate [44] (Zat s.b)]++(if s.e=[] then [] else [[101,32]++List.intercalate [44] (Zat s.e)]):=rfl;rw[e3]at hj;have hml:([s.nm]++(s.c.zip s.a).map (fun p=>Zdy p.1 p.2)).length=s.a.length+1:=by simp[hz]
 have h8:s.a.length≤8:=by omega
 rw[z1i]at hl;unfold bxS at hl;generalize [s.nm]++(s.c.zip s.a).map (fun p=>Zdy p.1 p.2)=M at *
 generalize textS s=X at *
 generalize List.intercalate [44] (Zat s.b)=tb at *
 generalize List.intercalate [44] (Zat s.e)=te at *
 clear lst lt ha H hs hk e3 hz nc n1 n8 hel;obtain⟨nm,C,A,B,E⟩:=s;dsimp only at *
 have p1:=zdj M ([98,32]++tb);rw[hml]at p1;have p2:=zdj (M++[[98,32]++tb]) ([101,32]++te);have hm2:(M++[[98,32]++tb]).length=A.length+2:=by simp[hml]
 rw[hm2]at p2;simp only[Ybd,Yaf]at p1 p2 hj hm2;have v1:2+tb.length≤9223372036854775807:=by omega
 have v2:2+te.length≤9223372036854775807:=by omega
 have v3:A.length≤4294967294:=by omega
 have v5:A.length≤4294967293:=by omega
 have v4:M.length≤4294967200:=by omega
 clear lb le h8 na;have r1:List.take (A.length+1) (Zr M)=Zr M:=Yb (by rw[za1,hml];omega);have r2:∀x:List AV,List.take (A.length+1+1) (Zr M++[x])=Zr M++[x]:=fun x=>Yb (by simp[za1,hml]);have r3:∀x y:List AV,List.take (A.length+1+1+1) (Zr M++[x,y])=Zr M++[x,y]:=fun x y=>Yb (by simp[za1,hml]);have ra:Zr (M++[98::32::tb])=Zr M++[[.s (98::32::tb)]]:=by simp[Zr]
 rw[r1]at p1;rw[ra,r2,Y8]at p2;simp only[Ybd,Yaf]at p2;cases E with
 | nil=>
  rw[show Zd []=[] from rfl]at *
  clear ce p2 hm2;simp only[if_true,Yaq]at hj;simp -implicitDefEqProofs[r1,r2,c1,hl,cb,p1,hml,v1,v3,v5,hj]
 | cons x E=>
  simp only[reduceCtorEq,if_false]at hj;rw[Y8]at hj;simp only[Ybd,Yaf]at hj;simp -implicitDefEqProofs[r1,r2,r3,c1,hl,cb,ce,p1,p2,hml,hm2,v1,v2,v3,v5,hj]
end
end Go.Ab
end
section
namespace Go.Ab
theorem zg1{K:Nat}(c:UInt8):∀(ts:List (List UInt8)),(∀t∈ts,t.length≤K)→(List.intercalate [c] ts).length≤ts.length*(K+1)
 | [],_=>by simp[List.intercalate]
 | [t],h=>by
  have:=h t Yz;simp[List.intercalate];omega
 | t::t2::ts,h=>by
  have h1:=h t Yz;have h2:=zg1 c (t2::ts) fun t ht=>h t (Yn _ ht);have e:List.intercalate [c] (t::t2::ts)=t++c::List.intercalate [c] (t2::ts):=by simp[List.intercalate]
  rw[e,Yy,Ye];simp only[Ye]at h2 ⊢;rw[Yel];omega
theorem zez{x:Fz}(h:Zaf x=true):x=fz (fv x):=by
 unfold Zaf Zb0 at h;simp only[Yr,decide_eq_true_eq]at h;exact h.1
theorem zin{l:List Fz}(h:l.all Zaf=true):l=fzs (l.map fv):=by
 unfold fzs;rw[Ybp];exact(List.map_id l).symm.trans (Ydb fun x hx=>zez (Yg.1 h x hx))
section
variable{T:Tbl}[Zac T][Zq T][Zw T][Zz T][Zs T][Zu T][Zn T][Zaz T][Ze T][Zl T][Zv T][Zbl T][Za5 T][Za9 T][Z5 T][Zal T][Z1 T][Z2 T][Zah T][Zaj T][Zx T][Zdt T][Zai T][Ze7 T][Zc8 T][Zaw T][Zcd T][Zc6 T][Zco T][Zb9 T][Zc2 T][Zfa T][Ze9 T][Zav T][Zbf T][Zdb T][Zem T][Zca T][Zad T][Zak T][Zdp T][Zcy T]
theorem z9u(x:Fz)(h:Zaf x=true):Za T 259 [efz x]=some (.s (Z3 (fv x))):=by
 have e:=zj6 (T:=T) (fv x) (by have:=zdc (L:=6) (zcy h) (by decide);omega)
 rwa [←zez h]at e
theorem zw9(l:List Fz)(hl:l.length≤8)(h:l.all Zaf=true):Za T 284 [.sl (Zd l) .an]=some (.s (List.intercalate [44] (Zat l))):=by
 have e:=zss (T:=T) (l.map fv) (by rw[Ya3];omega) (fun q hq=>by
  obtain⟨x,hx,rfl⟩:=Yab.1 hq;have:=zdc (L:=6) (zbr h x hx) (by decide);omega)
 rw[←zin h,Ybp]at e;exact e
theorem zha(l:List Fz)(h8:l.length≤8)(h6:l.all Zaf=true):(List.intercalate [44] (Zat l)).length≤8008:=by
 have hq:∀t∈Zat l,t.length≤1000:=by
  intro t ht;obtain⟨x,hx,rfl⟩:=Yab.1 ht;have:=(zcm (q:=fv x) (by have:=zdc (L:=6) (zbr h6 x hx) (by decide);omega)).2.2.2;omega
 have hb:=zct (K:=1000) (Zat l) hq;have u3:(Zat l).length≤8:=by unfold Zat;rw[Ya3];exact h8
 have u4:(Zat l).length*(1000+1)≤8*(1000+1):=Yw _ u3;omega
theorem zio(x:Fz)(h:Zaf x=true):(Z3 (fv x)).length≤1000:=by
 have:=(zcm (q:=fv x) (by have:=zdc (L:=6) (zcy h) (by decide);omega)).2.2.2;omega
def Zf7(s:Sm)(i:Nat):List UInt8:=List.intercalate [10] ([s.nm]++((s.c.zip s.a).take i).map fun p=>Zdy p.1 p.2)
def Ziu(s:Sm)(i:Nat):St:=⟨[(1,.ptr (.loc 1) 1 5 0 0),(3,.s (Zf7 s i)),(4,.i .i64 i)],[(.loc 1,bxS s)],3⟩
theorem zxa(s:Sm)(hc:s.c.length=s.a.length):textS s=Zf7 s s.a.length++(10::98::32::List.intercalate [44] (Zat s.b))++(if s.e=[] then [] else 10::101::32::List.intercalate [44] (Zat s.e)):=by
 unfold textS Ze2 Zf7;have e:(s.c.zip s.a).take s.a.length=s.c.zip s.a:=Yb (by rw[Yc1];omega);rw[e];split
 ·rw[Yaq,Yaq,zcl _ _ _ (by simp)]
  rfl
 ·rw[zcl _ _ _ (by simp),zcl _ _ _ (by simp)]
  rfl
theorem zxb(s:Sm)(hn:s.nm.length≤1000)(hl:s.a.length≤8)(h1:s.c.all Zaf=true)(h2:∀r∈s.a,r.length≤8∧r.all Zaf=true)(i:Nat):(Zf7 s i).length≤99010:=by
 have hm:∀t∈[s.nm]++((s.c.zip s.a).take i).map (fun p=>Zdy p.1 p.2),t.length≤10000:=by
  intro t ht;simp only[Ybc,Ya5,Yab]at ht;rcases ht with h | ⟨p,hp,h⟩
  ·rw[h];omega
  ·rw[←h];have hm:=List.of_mem_zip (Yak hp);have l1:=zio p.1 (Yg.1 h1 _ hm.1);have l2:=zha p.2 (h2 _ hm.2).1 (h2 _ hm.2).2;unfold Zdy;simp only[Yy,Ye,Yag];omega
 have b:=zg1 (K:=10000) 10 _ hm;have u:([s.nm]++((s.c.zip s.a).take i).map (fun p=>Zdy p.1 p.2)).length≤9:=by
  simp only[Yy,Ya3,Yai,Yc1,Ye,Yag];omega
 have u4:=Yw (10000+1) u;unfold Zf7;omega
theorem zs5(s:Sm)(hn:s.nm.length≤1000)(hc:s.c.length=s.a.length)(hl:s.a.length≤8)(h1:s.c.all Zaf=true)(h2:∀r∈s.a,r.length≤8∧r.all Zaf=true) :
  Zf T 0 0 (.norm false [1,3]) l602_0 (Ziu s 0)=some (.n,⟨[(1,.ptr (.loc 1) 1 5 0 0),(3,.s (Zf7 s s.a.length))],[(.loc 1,bxS s)],3⟩):=by
 have hacc:=zxb s hn hl h1 h2;refine zay (Ziu s) s.a.length _ (fun i hi=>?_) ?_
 ·have hi':(i:Int)<s.a.length:=by omega
  have hj:i<s.c.length:=by omega
  have hj':(i:Int)<s.c.length:=by omega
  have hga:s.a[i]? = some (s.a[i]'hi):=Ya hi;have hgc:s.c[i]? = some (s.c[i]'hj):=Ya hj;have hws:=zbs hi (by omega);have q:=h2 _ (Yj hi);have qc:=Yg.1 h1 _ (Yj hj);have c1:=z9u (T:=T) (s.c[i]'hj) qc;have c2:=zw9 (T:=T) (s.a[i]'hi) q.1 q.2;have hz:i<(s.c.zip s.a).length:=by rw[Yc1];omega
  have e:Zf7 s (i+1)=Zf7 s i++(10::(Z3 (fv (s.c[i]'hj))++124::List.intercalate [44] (Zat (s.a[i]'hi)))):=by
   unfold Zf7;rw[Yap hz,Ycz,←Y8,Y0,Yb7,zcl _ _ _ (by simp),List.getElem_zip];unfold Zdy;simp
  have u1:=zio (s.c[i]'hj) qc;have u2:=zha (s.a[i]'hi) q.1 q.2;have u3:=hacc i;unfold Ziu bxS;rw[e];clear hacc e h1 h2;generalize Zf7 s i=M at *
  generalize Z3 (fv (s.c[i]'hj))=t1 at *
  generalize List.intercalate [44] (Zat (s.a[i]'hi))=t2 at *
  have v1:1+t1.length≤9223372036854775807:=by omega
  have v2:t1.length+1+1+t2.length≤9223372036854775807:=by omega
  have v3:t1.length≤9223372036854775805:=by omega
  have v4:M.length+(t1.length+(t2.length+1)+1)≤9223372036854775807:=by omega
  generalize hxc:s.c[i]'hj=xc at *
  obtain⟨nm,C,A,B,E⟩:=s;obtain⟨y1,y2,y3⟩:=xc;dsimp only at *
  clear q qc;simp -implicitDefEqProofs[l602_0,hi,hi',hga,hj,hj',hgc,hxc,hws,c1,c2,v1,v2,v3,v4]
 ·unfold Ziu bxS;constructor<;>simp -implicitDefEqProofs[l602_0]
theorem zs6(s:Sm)(hs:SmS s)(hk:okS s=true):Za T 602 [esm s]=some (.s (textS s)):=by
 obtain⟨H,_⟩:=zf5 hk;have n8:=H.b8;have nc:=H.cl;have na:=H.al;have hnm:=hs.nm;have ha:∀r∈s.a,r.length≤8∧r.all Zaf=true:=fun r hr=>⟨by have:=zbu _ _ H.sh r hr;omega,Yg.1 H.na r hr⟩;have hl:=zs5 (T:=T) s (by omega) (by omega) (by omega) H.nc ha;have b0:=zxb s (by omega) (by omega) H.nc ha s.a.length;have hel:s.e.length≤8:=by rcases H.el with h | h<;>omega
 have cb:=zw9 (T:=T) s.b (by omega) H.nb;have ce:=zw9 (T:=T) s.e hel H.ne;have lb:=zha s.b (by omega) H.nb;have le:=zha s.e hel H.ne;have ez:Zf7 s 0=s.nm:=by unfold Zf7;simp[List.intercalate]
 rw[zxa s (by omega),zab Zdp.h602 rfl,b602];unfold Ziu at hl;rw[ez]at hl;unfold bxS at hl;simp only[Yv]at hl;generalize Zf7 s s.a.length=M at *
 generalize List.intercalate [44] (Zat s.b)=tb at *
 generalize List.intercalate [44] (Zat s.e)=te at *
 clear ha H hs hk n8 nc na hel hnm ez;have v1:3+tb.length≤9223372036854775807:=by omega
 have v2:3+te.length≤9223372036854775807:=by omega
 have v3:M.length+(tb.length+1+1+1)≤9223372036854775807:=by omega
 have v4:M.length+(tb.length+1+1+1)+(te.length+1+1+1)≤9223372036854775807:=by omega
 have v5:M.length+(tb.length+1+1+1+(te.length+1+1+1))≤9223372036854775807:=by omega
 obtain⟨nm,C,A,B,E⟩:=s;dsimp only at *
 cases E with
 | nil=>
  rw[show Zd []=[] from rfl]at *
  clear ce v2;simp only[if_true,Yaq];unfold esm;simp -implicitDefEqProofs[hl,cb,v1,v3]
 | cons x E=>
  simp only[reduceCtorEq,if_false];simp -implicitDefEqProofs[hl,cb,ce,v1,v2,v3,v4,v5]
end
end Go.Ab
end
section
namespace Go.Ab
theorem z0d{b e:List Fz}{i:Nat}(hb:i<b.length)(he:i<e.length):∃h:i<(Zbw b e).length,(Zbw b e)[i]'h=fz (fv (b[i]'hb)-fv (e[i]'he)):=by
 have hl:(Zbw b e).length=min b.length e.length:=by unfold Zbw fzs Zfo Zc9;simp
 refine⟨by omega,?_⟩;unfold Zbw fzs Zfo Zc9;simp only[List.getElem_map,Yd1];congr 1
 grind
section
variable{T:Tbl}[Zac T][Zq T][Zw T][Zz T][Zs T][Zu T][Zn T][Zaz T][Ze T][Zl T][Zv T][Zbl T][Za5 T][Za9 T][Z5 T][Zal T][Z1 T][Z2 T][Zah T][Zaj T][Zx T][Zdt T][Zai T][Ze7 T][Zc8 T][Zaw T][Zcd T][Zc6 T][Zco T][Zb9 T][Zc2 T][Zfa T][Ze9 T][Zav T][Zbf T][Zdb T][Zem T][Zel T][Zca T][Zad T][Zak T][Zdp T][Zcy T]
def Ziv(s:Sm)(m:List UInt8)(G:List Fz):St:=⟨[(2,.ptr (.loc 2) 1 5 0 0),(5,.ptr (.loc 5) 2 5 0 0),(6,.s m),(8,.sl (Zd G) .an),(10,.sl [] .fu),(11,.i .i64 0)],[(.loc 2,Zd8 1 s),(.loc 5,Zd8 2 s)],4⟩
def Zjw(s:Sm)(m:List UInt8)(G:List Fz)(i:Nat):St:=⟨[(2,.ptr (.loc 2) 1 5 0 0),(5,.ptr (.loc 5) 2 5 0 0),(6,.s m),(8,.sl (Zd G) .an),(10,.bs (.loc 106) 3 3 0 i),(11,.i .i64 i)],
 [(.loc 2,Zd8 1 s),(.loc 5,Zd8 2 s),(.loc 106,⟨3,.own,3,Zd ((Zbw s.b s.e).take i)⟩)],5⟩
def stW(s:Sm)(m:List UInt8)(G:List Fz):Nat→St
 | 0=>Ziv s m G
 | i+1=>Zjw s m G (i+1)
theorem z9v(s:Sm)(m:List UInt8)(G:List Fz):stW s m G 0=Ziv s m G:=rfl
theorem zah5(s:Sm)(m:List UInt8)(G:List Fz)(i:Nat):stW s m G (i+1)=Zjw s m G (i+1):=rfl
theorem z9w(s:Sm)(m:List UInt8)(G:List Fz){i:Nat}(h:¬i=0):stW s m G i=Zjw s m G i:=by
 cases i with
 | zero=>omega
 | succ i=>rfl
theorem zxc(s:Sm)(m:List UInt8)(G:List Fz)(he:s.e=[]) :
  Zf T 0 0 (.norm false [2,5,6,8,10]) l587_0 (Ziv s m G)=some (.n,⟨[(2,.ptr (.loc 2) 1 5 0 0),(5,.ptr (.loc 5) 2 5 0 0),(6,.s m),(8,.sl (Zd G) .an),(10,.sl [] .an)],[(.loc 2,Zd8 1 s),(.loc 5,Zd8 2 s)],4⟩):=by
 refine zay (fun _=>Ziv s m G) 0 _ (fun i hi=>by omega) ?_;obtain⟨nm,C,A,B,E⟩:=s;dsimp only at he;subst he;unfold Ziv Zd8;constructor<;>simp -implicitDefEqProofs[l587_0]
theorem zxd(s:Sm)(m:List UInt8)(G:List Fz)(hb:s.b.length≤8)(he:s.e.length=s.b.length)(h0:1≤s.b.length)(h1:s.b.all Zaf=true)(h2:s.e.all Zaf=true) :
  Zf T 0 0 (.norm false [2,5,6,8,10]) l587_0 (stW s m G 0)=some (.n,⟨[(2,.ptr (.loc 2) 1 5 0 0),(5,.ptr (.loc 5) 2 5 0 0),(6,.s m),(8,.sl (Zd G) .an),(10,.bs (.loc 106) 3 3 0 s.b.length)],
   [(.loc 2,Zd8 1 s),(.loc 5,Zd8 2 s),(.loc 106,⟨3,.own,3,Zd (Zbw s.b s.e)⟩)],5⟩):=by
 have hl:(Zbw s.b s.e).length=s.b.length:=by unfold Zbw fzs Zfo Zc9;simp[he]
 refine zay (stW s m G) s.b.length _ (fun i hi=>?_) ?_
 ·have hi':(i:Int)<s.b.length:=by omega
  have hj:i<s.e.length:=by omega
  have hj':(i:Int)<s.e.length:=by omega
  have hgb:s.b[i]? = some (s.b[i]'hi):=Ya hi;have hge:s.e[i]? = some (s.e[i]'hj):=Ya hj;have hws:=zbs hi (by omega);obtain⟨hw,ew⟩:=z0d hi hj;have nb:=Yg.1 h1 _ (Yj hi);have ne:=Yg.1 h2 _ (Yj hj);have c1:=zah4 (T:=T) (fv (s.b[i]'hi)) (fv (s.e[i]'hj)) (by have:=zdc (L:=6) (zcy nb) (by decide);omega) (by have:=zdc (L:=6) (zcy ne) (by decide);omega);rw[←zez nb,←zez ne,←ew]at c1;have e:(Zbw s.b s.e).take (i+1)=(Zbw s.b s.e).take i++[(Zbw s.b s.e)[i]'hw]:=Yap hw;have hml:((Zbw s.b s.e).take i).length=i:=by rw[Yai];omega
  have hp:=zcx hml ((Zbw s.b s.e)[i]'hw);rw[zah5];by_cases hz:i=0
  ·subst hz;rw[z9v];unfold Ziv Zjw Zd8;rw[e];simp only[Yb8,Yaf]at *
   generalize (Zbw s.b s.e)[0]'hw=R at *
   generalize hxb:s.b[0]'hi=xb at *
   generalize hxe:s.e[0]'hj=xe at *
   obtain⟨nm,C,A,B,E⟩:=s;obtain⟨y1,y2,y3⟩:=xb;obtain⟨z1,z2,z3⟩:=xe;obtain⟨r1,r2,r3⟩:=R;dsimp only at *
   clear nb ne h1 h2 ew e;have hr:Zd [(r1,r2,r3)]=[[.b r1,.sl (Zb r2) .an,.sl (Zb r3) .an]]:=rfl;simp -implicitDefEqProofs[l587_0,hi,hi',hgb,hj,hj',hge,hxb,hxe,hws,c1,hr]
  ·rw[z9w s m G hz];unfold Zjw Zd8;rw[e];generalize (Zbw s.b s.e)[i]'hw=R at *
   generalize (Zbw s.b s.e).take i=M at *
   generalize hxb:s.b[i]'hi=xb at *
   generalize hxe:s.e[i]'hj=xe at *
   obtain⟨nm,C,A,B,E⟩:=s;obtain⟨y1,y2,y3⟩:=xb;obtain⟨z1,z2,z3⟩:=xe;obtain⟨r1,r2,r3⟩:=R;dsimp only at *
   have hb':i≤4294967295:=by omega
   replace hp:wkL (Zd (List.take i M)++[[.b r1,.sl (Zb r2) .an,.sl (Zb r3) .an]])=Zd (M++[(r1,r2,r3)]):=hp;clear nb ne h1 h2 ew e;simp -implicitDefEqProofs[l587_0,hi,hi',hgb,hj,hj',hge,hxb,hxe,hws,c1,hml,hp,hb']
 ·rw[z9w s m G (by omega)];have e:(Zbw s.b s.e).take s.b.length=Zbw s.b s.e:=Yb (by omega);unfold Zjw Zd8;rw[e];generalize Zbw s.b s.e=M at *
  constructor<;>simp -implicitDefEqProofs[l587_0,he]
end
end Go.Ab
end
section
namespace Go.Ab
theorem zwj{c:UInt8}{n:Nat}(hn:n<256)(h:c≠UInt8.ofNat n):¬ c.toNat=n:=fun e=>h (by
 grind[UInt8.toNat_inj,UInt8.toNat_ofNat'])
section
variable{T:Tbl}[Zba T]
theorem zih(c:UInt8):Za T 189 [u8 c.toNat]=some (.b (isD c)):=by
 rw[zab Zba.h189 rfl,b189];by_cases h1:48≤c.toNat
 ·simp -implicitDefEqProofs[isD,h1]
 ·simp -implicitDefEqProofs[isD,h1]
theorem zg0(c:UInt8):Za T 190 [u8 c.toNat]=some (.b (isL c)):=by
 rw[zab Zba.h190 rfl,b190];by_cases h1:97≤c.toNat<;>by_cases h2:c.toNat≤122<;>by_cases h3:65≤c.toNat<;>by_cases h4:c.toNat≤90<;>by_cases h5:c.toNat=95 <;>
  simp -implicitDefEqProofs[isL,h1,h2,h3,h4,h5]
end
section
variable{T:Tbl}
theorem zwk(c:UInt8)(l:List UInt8)(hl:l.length≤1000)(R:Bool):∀i:Nat,(i≤l.length∧(l.drop i).contains c=R) →
  Zf T 0 0 (.norm false []) l181_0 ⟨[(0,u8 c.toNat),(3,.s l),(4,.i .i64 i)],[],2⟩=if R=true then some (.r,⟨[(2,.i .i64 3)],[],2⟩) else some (.n,⟨[],[],2⟩):=by
 refine zaq (fun i:Nat=>⟨[(0,u8 c.toNat),(3,.s l),(4,.i .i64 i)],[],2⟩) _ (fun i=>l.length-i) _ ?_
 rintro i ⟨hi,hR⟩
 by_cases h0:i<l.length
 ·have hg:l[i]? = some (l[i]'h0):=Ya h0;have hd:=Yi h0;have hw:IntKind.wrap .i64 ((i:Int)+1)=((i+1:Nat):Int):=zac _ (by omega);rw[hd,List.contains_cons]at hR;by_cases hc:(l[i]'h0).toNat=c.toNat
  ·right;have:c=l[i]'h0:=(UInt8.toNat_inj.1 hc).symm;have hR':R=true:=by grind
   subst hR';clear hR hd;constructor<;>simp -implicitDefEqProofs[l181_0,h0,hc]
  ·left;have hne:(c == l[i]'h0)=false:=by
    grind
   rw[hne,Bool.false_or]at hR;refine⟨i+1,⟨h0,hR⟩,by omega,?_,rfl⟩;simp -implicitDefEqProofs[l181_0,h0,hc,hw]
 ·right;have:i=l.length:=by omega
  subst this;subst hR;constructor<;>simp -implicitDefEqProofs[l181_0]
end
section
variable{T:Tbl}[Zba T]
theorem zew(c:UInt8):Za T 181 [u8 c.toNat]=some (.i .i64 (Zi c)):=by
 have h1:=zih (T:=T) c;have h2:=zg0 (T:=T) c;have h:=zwk (T:=T) c Zhh (by decide) _ 0 ⟨by decide,rfl⟩;rw[Yaa,show Zhh.contains c=isS c from rfl]at h;simp only[Zhh]at h;rw[zab Zba.h181 rfl,b181];cases e1:isD c<;>cases e2:isL c<;>cases e3:isS c<;>simp only[e3]at h<;>simp at h<;>simp -implicitDefEqProofs[Zi,h1,h2,h,e1,e2,e3]
theorem zgl(k:Nat)(c:UInt8):Za T 180 [.i .i64 k,u8 c.toNat]=some (.b (Zau k c)):=by
 have h1:=zih (T:=T) c;have h2:=zg0 (T:=T) c;rw[zab Zba.h180 rfl,b180];by_cases k1:k=1
 ·subst k1;cases e1:isD c<;>cases e2:isL c<;>simp -implicitDefEqProofs[Zau,h1,e1,e2]
 ·have k1':¬ (k:Int)=1:=by omega
  by_cases k2:k=2
  ·subst k2;cases e1:isD c<;>cases e2:isL c<;>simp -implicitDefEqProofs[Zau,h1,h2,e1,e2]
  ·have k2':¬ (k:Int)=2:=by omega
   simp -implicitDefEqProofs[Zau,k1,k2,k1',k2']
theorem zgm(k:Nat):Za T 182 [.i .i64 k]=some (.i .i64 (Zar k)):=by
 rw[zab Zba.h182 rfl,b182];by_cases k1:k=1
 ·subst k1;simp -implicitDefEqProofs[Zar]
 ·have k1':¬ (k:Int)=1:=by omega
  by_cases k2:k=2
  ·subst k2;simp -implicitDefEqProofs[Zar]
  ·have k2':¬ (k:Int)=2:=by omega
   simp -implicitDefEqProofs[Zar,k1,k2,k1',k2']
def Zcp(s:List UInt8)(i:Nat)(note:Bool)(acc:List Wd):St:=
 ⟨[(0,.s s),(4,.bs (.loc 4) 1 3 0 acc.length),(5,.b note),(6,.i .i64 i)],[(.loc 4,⟨1,.own,3,Z8 acc⟩)],3⟩
def Ze0:Except Nat (List Wd)→Option (Ex×St)
 | .ok ws=>some (.n,⟨[(4,.bs (.loc 4) 1 3 0 ws.length)],[(.loc 4,⟨1,.own,3,Z8 ws⟩)],3⟩)
 | .error e=>some (.r,⟨[(2,.sl [] .an),(3,.i .i64 e)],[],2⟩)
def Zni(acc:List Wd)(i:Nat):Prop:=∀k t a,acc.getLast? = some (k,t,a)→a+t.length≤i
theorem zwl(s:List UInt8)(hs:s.length≤4000)(i:Nat)(h0:i<s.length)(note:Bool)(acc:List Wd)(ha:acc.length≤i)(c:UInt8)(hc:s[i]'h0=c)
  (hsk:((if c=35 then true else if c=10 then false else note) || isB c)=true) :
  evX (orc T) T 0 l168_0 (Zcp s i note acc)=some (.n,Zcp s (i+1) (if c=35 then true else if c=10 then false else note) acc):=by
 have hw:IntKind.wrap .i64 ((i:Int)+1)=((i+1:Nat):Int):=zac _ (by omega);rw[z3f]at hsk;have e35:=zh9 c 35 (by decide);have e10:=zh9 c 10 (by decide);rw[show UInt8.ofNat 35=35 from rfl]at e35;rw[show UInt8.ofNat 10=10 from rfl]at e10;simp only[e35,e10]at hsk ⊢;obtain⟨n,hn⟩:∃n,n=c.toNat:=⟨_,rfl⟩;have hn':=hn.symm;by_cases c35:n=35
 ·subst c35;simp -implicitDefEqProofs[l168_0,Zcp,h0,hc,hn',hw]
 ·by_cases c10:n=10
  ·subst c10;simp -implicitDefEqProofs[l168_0,Zcp,h0,hc,hn',hw]
  ·cases note with
   | true=>simp -implicitDefEqProofs[l168_0,Zcp,h0,hc,hn',hw,c35,c10]
   | false=>
    by_cases c32:n=32
    ·subst c32;simp -implicitDefEqProofs[l168_0,Zcp,h0,hc,hn',hw]
    ·by_cases c9:n=9
     ·subst c9;simp -implicitDefEqProofs[l168_0,Zcp,h0,hc,hn',hw]
     ·have c13:n=13:=by grind
      subst c13;simp -implicitDefEqProofs[l168_0,Zcp,h0,hc,hn',hw]
theorem zcn(pre:List Wd)(k a:Nat)(t:List UInt8):(Z8 (pre++[(k,t,a)]))[pre.length]? = some [.i .i64 k,.s t,.i .i64 a]:=by
 simp[Z8,wdR]
theorem zwm(s:List UInt8)(hs:s.length≤4000)(i:Nat)(h0:i<s.length)(c:UInt8)(hc:s[i]'h0=c)
  (c35:¬ c.toNat=35) (c10:¬ c.toNat=10) (c32:¬ c.toNat=32) (c9:¬ c.toNat=9) (c13:¬ c.toNat=13) (k:Nat) (hk0:Zi c=k) (hz:¬ k=0) :
  evX (orc T) T 0 l168_0 (Zcp s i false [])=some (.n,Zcp s (i+1) false [(k,[c],i)]):=by
 have hw:IntKind.wrap .i64 ((i:Int)+1)=((i+1:Nat):Int):=zac _ (by omega);have hk:=zew (T:=T) c;rw[hk0]at hk;have b1:(i:Int)+1≤s.length:=by omega
 have b2:List.drop i (List.take (i+1) s)=[c]:=by
  grind[List.drop_eq_getElem_cons]
 have hm:=zgm (T:=T) k;have hq:=zem k;have hq':¬ ((Zar k:Nat):Int)<1:=by omega
 simp -implicitDefEqProofs[l168_0,Zcp,Z8,wdR,h0,hc,hw,c35,c10,c32,c9,c13,hk,hm,b1,b2,hz,hq']
theorem zlc(s:List UInt8)(hs:s.length≤4000)(i:Nat)(h0:i<s.length)(c:UInt8)(hc:s[i]'h0=c)
  (c35:¬ c.toNat=35) (c10:¬ c.toNat=10) (c32:¬ c.toNat=32) (c9:¬ c.toNat=9) (c13:¬ c.toNat=13) (hk0:Zi c=0) :
  Zey (evX (orc T) T 0 l168_0 (Zcp s i false []))=true∧Zex 0 0 (Gh.norm false [4]) (evX (orc T) T 0 l168_0 (Zcp s i false []))=Ze0 (.error i):=by
 have hw:IntKind.wrap .i64 ((i:Int)+1)=((i+1:Nat):Int):=zac _ (by omega);have hk:=zew (T:=T) c;rw[hk0]at hk;have b1:(i:Int)+1≤s.length:=by omega
 have b2:List.drop i (List.take (i+1) s)=[c]:=by
  grind[List.drop_eq_getElem_cons]
 constructor<;>simp -implicitDefEqProofs[l168_0,Zcp,Ze0,Z8,h0,hc,hw,c35,c10,c32,c9,c13,hk,b1,b2]
theorem zwn(s:List UInt8)(hs:s.length≤4000)(i:Nat)(h0:i<s.length)(c:UInt8)(hc:s[i]'h0=c)
  (c35:¬ c.toNat=35) (c10:¬ c.toNat=10) (c32:¬ c.toNat=32) (c9:¬ c.toNat=9) (c13:¬ c.toNat=13) (pre:List Wd) (hp:pre.length<i) (k0 a0:Nat) (t0:List UInt8) (ht0:a0+t0.length≤i) (hadj:¬ (a0+t0.length=i∧Zau k0 c=true)) (k:Nat) (hk0:Zi c=k) (hz:¬ k=0) :
  evX (orc T) T 0 l168_0 (Zcp s i false (pre++[(k0,t0,a0)]))=some (.n,Zcp s (i+1) false (pre++[(k0,t0,a0)]++[(k,[c],i)])):=by
 have hg:s[i]? = some c:=by grind
 have hw:IntKind.wrap .i64 ((i:Int)+1)=((i+1:Nat):Int):=zac _ (by omega);have hwi:IntKind.wrap .i64 (i:Int)=(i:Int):=zac _ (by omega);have b1:(i:Int)+1≤s.length:=by omega
 have b2:List.drop i (List.take (i+1) s)=[c]:=by
  grind[List.drop_eq_getElem_cons]
 have hmo:=zgl (T:=T) k0 c;have hl:=zcn pre k0 a0 t0;have hll:(Z8 (pre++[(k0,t0,a0)])).length=pre.length+1:=by simp
 have hl2:=zcn (pre++[(k0,t0,a0)]) k i [c];have hll2:(Z8 (pre++[(k0,t0,a0)]++[(k,[c],i)])).length=pre.length+2:=by simp
 have hpu:wkL (List.take (pre.length+1) (Z8 (pre++[(k0,t0,a0)]))++[[AV.i .i64 k,.s [c],.i .i64 i]])=Z8 (pre++[(k0,t0,a0)]++[(k,[c],i)]):=by
  grind[zjw,List.length_singleton]
 have hwp:IntKind.wrap .i64 (pre.length:Int)=(pre.length:Int):=zac _ (by omega);have hwp1:IntKind.wrap .i64 ((pre.length:Int)+1)=(pre.length:Int)+1:=zac _ (by omega);have hlt:(pre.length:Int)<(pre.length:Int)+1:=by omega
 have hws:IntKind.wrap .i64 ((a0:Int)+t0.length)=((a0:Int)+t0.length):=zac _ (by omega);have hk:=zew (T:=T) c;rw[hk0]at hk;have hm:=zgm (T:=T) k;have hq:=zem k;have hq':¬ ((Zar k:Nat):Int)<1:=by omega
 have hz':¬ (k:Int)=0:=by omega
 have hal:(pre++[(k0,t0,a0)]).length=pre.length+1:=by simp
 have hal2:(pre++[(k0,t0,a0)]++[(k,[c],i)]).length=pre.length+2:=by simp
 have hpl:pre.length≤4294967294:=by omega
 unfold Zcp;rw[hal,hal2];rw[hal]at hl2;have g1:=zdw (pre++[(k0,t0,a0)]);have g2:=zfx (pre++[(k0,t0,a0)]);have g3:=zdw (pre++[(k0,t0,a0)]++[(k,[c],i)]);have g4:=zfx (pre++[(k0,t0,a0)]++[(k,[c],i)]);generalize Z8 (pre++[(k0,t0,a0)]++[(k,[c],i)])=RW2 at *
 generalize Z8 (pre++[(k0,t0,a0)])=RW at *
 generalize pre.length=m at *
 obtain⟨hx1,hgE⟩:=Yu.1 hl;have hT:List.take (m+1) RW=RW:=Yb (by omega);rw[hT]at hpu;have hl3:(RW++[[AV.i .i64 k,.s [c],.i .i64 i]])[m+1]? = some [AV.i .i64 k,.s [c],.i .i64 i]:=by
  grind
 obtain⟨hx3,hgE3⟩:=Yu.1 hl3;have hm1:((m:Int)+1).toNat=m+1:=by omega
 by_cases had:a0+t0.length=i
 ·have had':(a0:Int)+t0.length=i:=by omega
  have hmm:Zau k0 c=false:=by grind
  simp -implicitDefEqProofs[l168_0,h0,hc,hw,hwi,c35,c10,c32,c9,c13,hk,hm,b1,b2,hz,hq',hmo,hll,hT,hpu,hm1,hwp,hwp1,hlt,hgE,hgE3,had',hmm,hpl]
 ·have had':¬ (a0:Int)+t0.length=i:=by omega
  simp -implicitDefEqProofs[l168_0,h0,hc,hw,c35,c10,c32,c9,c13,hk,hm,b1,b2,hz,hq',hll,hT,hpu,hm1,hwp,hwp1,hws,hlt,hgE,hgE3,had',hpl]
theorem zld(s:List UInt8)(hs:s.length≤4000)(i:Nat)(h0:i<s.length)(c:UInt8)(hc:s[i]'h0=c)
  (c35:¬ c.toNat=35) (c10:¬ c.toNat=10) (c32:¬ c.toNat=32) (c9:¬ c.toNat=9) (c13:¬ c.toNat=13) (pre:List Wd) (hp:pre.length<i) (k0 a0:Nat) (t0:List UInt8) (ht0:a0+t0.length≤i) (hadj:¬ (a0+t0.length=i∧Zau k0 c=true)) (hk0:Zi c=0) :
  Zey (evX (orc T) T 0 l168_0 (Zcp s i false (pre++[(k0,t0,a0)])))=true∧Zex 0 0 (Gh.norm false [4]) (evX (orc T) T 0 l168_0 (Zcp s i false (pre++[(k0,t0,a0)])))=Ze0 (.error i):=by
 obtain⟨k,hkk⟩:∃k:Nat,k=0:=⟨_,rfl⟩;have hw:IntKind.wrap .i64 ((i:Int)+1)=((i+1:Nat):Int):=zac _ (by omega);have hwi:IntKind.wrap .i64 (i:Int)=(i:Int):=zac _ (by omega);have b1:(i:Int)+1≤s.length:=by omega
 have b2:List.drop i (List.take (i+1) s)=[c]:=by
  grind[List.drop_eq_getElem_cons]
 have hmo:=zgl (T:=T) k0 c;have hl:=zcn pre k0 a0 t0;have hll:(Z8 (pre++[(k0,t0,a0)])).length=pre.length+1:=by simp
 have hl2:=zcn (pre++[(k0,t0,a0)]) k i [c];have hpu:wkL (List.take (pre.length+1) (Z8 (pre++[(k0,t0,a0)]))++[[AV.i .i64 k,.s [c],.i .i64 i]])=Z8 (pre++[(k0,t0,a0)]++[(k,[c],i)]):=by
  grind[zjw,List.length_singleton]
 have hwp:IntKind.wrap .i64 (pre.length:Int)=(pre.length:Int):=zac _ (by omega);have hwp1:IntKind.wrap .i64 ((pre.length:Int)+1)=(pre.length:Int)+1:=zac _ (by omega);have hlt:(pre.length:Int)<(pre.length:Int)+1:=by omega
 have hws:IntKind.wrap .i64 ((a0:Int)+t0.length)=((a0:Int)+t0.length):=zac _ (by omega);have hk:=zew (T:=T) c;rw[hk0]at hk;have hz':(k:Int)=0:=by omega
 have hal:(pre++[(k0,t0,a0)]).length=pre.length+1:=by simp
 have hpl:pre.length≤4294967294:=by omega
 unfold Zcp Ze0;rw[hal];have g4:=zfx (pre++[(k0,t0,a0)]++[(k,[c],i)]);generalize Z8 (pre++[(k0,t0,a0)])=RW at *
 generalize pre.length=m at *
 obtain⟨hx1,hgE⟩:=Yu.1 hl;have hT:List.take (m+1) RW=RW:=Yb (by omega);have hl3:(RW++[[AV.i .i64 k,.s [c],.i .i64 i]])[m+1]? = some [AV.i .i64 k,.s [c],.i .i64 i]:=by
  grind
 have hm1:((m:Int)+1).toNat=m+1:=by omega
 by_cases had:a0+t0.length=i
 ·have had':(a0:Int)+t0.length=i:=by omega
  have hmm:Zau k0 c=false:=by grind
  constructor<;>simp -implicitDefEqProofs[l168_0,h0,hc,hw,hwi,c35,c10,c32,c9,c13,hk,b1,b2,hmo,hll,hT,hm1,hwp,hwp1,hlt,hgE,had',hmm,hpl]
 ·have had':¬ (a0:Int)+t0.length=i:=by omega
  constructor<;>simp -implicitDefEqProofs[l168_0,h0,hc,hw,c35,c10,c32,c9,c13,hk,b1,b2,hll,hT,hm1,hwp,hwp1,hws,hlt,hgE,had',hpl]
theorem zwo(pre:List Wd)(k a:Nat)(t t':List UInt8):(Z8 (pre++[(k,t,a)])).set pre.length [.i .i64 k,.s t',.i .i64 a]=Z8 (pre++[(k,t',a)]):=by
 have e:Z8 (pre++[(k,t,a)])=Z8 pre++[wdR (k,t,a)]:=by simp[Z8]
 have e':Z8 (pre++[(k,t',a)])=Z8 pre++[wdR (k,t',a)]:=by simp[Z8]
 rw[e,e',Yac _ _ (by simp),zed,Yb1]
 rfl
theorem zz6(s:List UInt8)(hs:s.length≤4000)(i:Nat)(h0:i<s.length)(c:UInt8)(hc:s[i]'h0=c)
  (c35:¬ c.toNat=35) (c10:¬ c.toNat=10) (c32:¬ c.toNat=32) (c9:¬ c.toNat=9) (c13:¬ c.toNat=13) (pre:List Wd) (hp:pre.length<i) (k0 a0:Nat) (t0:List UInt8) (had:a0+t0.length=i) (hmm:Zau k0 c=true) (hz:¬ k0=0) :
  (t0.length+1≤Zar k0→evX (orc T) T 0 l168_0 (Zcp s i false (pre++[(k0,t0,a0)]))=some (.n,Zcp s (i+1) false (pre++[(k0,t0++[c],a0)]))) ∧
  (Zar k0<t0.length+1→Zey (evX (orc T) T 0 l168_0 (Zcp s i false (pre++[(k0,t0,a0)])))=true∧Zex 0 0 (Gh.norm false [4]) (evX (orc T) T 0 l168_0 (Zcp s i false (pre++[(k0,t0,a0)])))=Ze0 (.error i)):=by
 have hw:IntKind.wrap .i64 ((i:Int)+1)=((i+1:Nat):Int):=zac _ (by omega);have hwi:IntKind.wrap .i64 (i:Int)=(i:Int):=zac _ (by omega);have b1:(i:Int)+1≤s.length:=by omega
 have b2:List.drop i (List.take (i+1) s)=[c]:=by
  grind[List.drop_eq_getElem_cons]
 have hmo:=zgl (T:=T) k0 c;rw[hmm]at hmo;have hl:=zcn pre k0 a0 t0;have hll:(Z8 (pre++[(k0,t0,a0)])).length=pre.length+1:=by simp
 have hl2:=zcn pre k0 a0 (t0++[c]);have hll2:(Z8 (pre++[(k0,t0++[c],a0)])).length=pre.length+1:=by simp
 have hset:=zwo pre k0 a0 t0 (t0++[c]);have hwp:IntKind.wrap .i64 (pre.length:Int)=(pre.length:Int):=zac _ (by omega);have hlt:(pre.length:Int)<(pre.length:Int)+1:=by omega
 have had':(a0:Int)+t0.length=i:=by omega
 have hm:=zgm (T:=T) k0;have hal:(pre++[(k0,t0,a0)]).length=pre.length+1:=by simp
 have hal2:(pre++[(k0,t0++[c],a0)]).length=pre.length+1:=by simp
 have hcl:t0.length+1≤9223372036854775807:=by omega
 unfold Zcp Ze0;rw[hal,hal2];have g3:=zdw (pre++[(k0,t0++[c],a0)]);have g4:=zfx (pre++[(k0,t0++[c],a0)]);obtain⟨hx1,hgE⟩:=Yu.1 hl;obtain⟨hx2,hgE2⟩:=Yu.1 hl2;refine⟨fun hq=>?_,fun hq=>?_⟩
 ·have hq2:¬ ((Zar k0:Nat):Int)<(t0.length:Int)+1:=by omega
  simp -implicitDefEqProofs[l168_0,h0,hc,hw,hwi,c35,c10,c32,c9,c13,hm,b1,b2,hz,hmo,hll,hll2,hset,hwp,hlt,hgE,hgE2,had',hcl,hq2,g3]
 ·have hq2:((Zar k0:Nat):Int)<(t0.length:Int)+1:=by omega
  constructor<;>simp -implicitDefEqProofs[l168_0,h0,hc,hw,hwi,c35,c10,c32,c9,c13,hm,b1,b2,hz,hmo,hll,hll2,hset,hwp,hlt,hgE,hgE2,had',hcl,hq2]
theorem zwp(s:List UInt8)(hs:s.length≤4000):∀y:Nat×Bool×List Wd,(y.1≤s.length∧y.2.2.length≤y.1∧(∀k t a,y.2.2.getLast? = some (k,t,a)→a+t.length≤y.1∧¬ k=0)) →
  Zf T 0 0 (.norm false [4]) l168_0 (Zcp s y.1 y.2.1 y.2.2)=Ze0 (Zeq (s.drop y.1) y.1 y.2.1 y.2.2):=by
 refine zaq (fun y:Nat×Bool×List Wd=>Zcp s y.1 y.2.1 y.2.2) (fun y=>y.1≤s.length∧y.2.2.length≤y.1∧(∀k t a,y.2.2.getLast? = some (k,t,a)→a+t.length≤y.1∧¬ k=0)) (fun y=>s.length-y.1) (fun y=>Ze0 (Zeq (s.drop y.1) y.1 y.2.1 y.2.2)) ?_
 rintro⟨i,note,acc⟩ ⟨hi,ha,he⟩
 by_cases h0:i<s.length
 ·obtain⟨c,hc⟩:∃c,s[i]'h0=c:=⟨_,rfl⟩;have hd:s.drop i=c::s.drop (i+1):=by rw[Yi h0,hc]
  by_cases hsk:((if c=35 then true else if c=10 then false else note) || isB c)=true
  ·left;refine⟨(i+1,(if c=35 then true else if c=10 then false else note),acc),⟨h0,by grind,fun k t a h=>by
    grind⟩,by omega,zwl s hs i h0 note acc ha c hc hsk,?_⟩
   grind[Zeq]
  ·have hsk':=hsk;simp only[Ya4,not_or,Ydz]at hsk';obtain⟨h1,h2⟩:=hsk';have n35:c≠35:=fun e=>by grind
   have n10:c≠10:=fun e=>by subst e;simp[isB]at h2
   have hnote:note=false:=by grind
   subst hnote;have hB:¬ c=32∧¬ c=9∧¬ c=13:=by
    grind[isB]
   have c35:¬ c.toNat=35:=zwj (n:=35) (by decide) n35;have c10:¬ c.toNat=10:=zwj (n:=10) (by decide) n10;have c32:¬ c.toNat=32:=zwj (n:=32) (by decide) hB.1;have c9:¬ c.toNat=9:=zwj (n:=9) (by decide) hB.2.1;have c13:¬ c.toNat=13:=zwj (n:=13) (by decide) hB.2.2;have hR:Zeq (s.drop i) i false acc=if Zeo (Zcz c i acc)=true then .error i else Zeq (s.drop (i+1)) (i+1) false (Zcz c i acc):=by
    grind[Zeq]
   rw[hR];have hmp:=zem (Zi c);rcases List.eq_nil_or_concat acc with rfl | ⟨pre,⟨k0,t0,a0⟩,rfl⟩
   ·have hs1:Zcz c i []=[(Zi c,[c],i)]:=rfl;have hb1:Zeo [(Zi c,[c],i)]=decide (Zi c=0):=by
     simp[Zeo];omega
    rw[hs1,hb1];by_cases hk:Zi c=0
    ·grind[zlc]
    ·left;rw[decide_eq_false hk,if_neg (by decide)];refine⟨(i+1,false,[(Zi c,[c],i)]),⟨h0,by simp,fun k t a h=>by
      grind⟩,by omega,zwm (T:=T) s hs i h0 c hc c35 c10 c32 c9 c13 (Zi c) rfl hk,rfl⟩
   ·rw[List.concat_eq_append]at he ha ⊢;obtain⟨e1,e2⟩:=he k0 t0 a0 (by simp);have hp:pre.length<i:=by
     grind
    by_cases hadj:a0+t0.length=i∧Zau k0 c=true
    ·have hs1:Zcz c i (pre++[(k0,t0,a0)])=pre++[(k0,t0++[c],a0)]:=by simp[Zcz,hadj.1,hadj.2]
     have hb1:Zeo (pre++[(k0,t0++[c],a0)])=decide (Zar k0<t0.length+1):=by simp[Zeo,e2]
     rw[hs1,hb1];obtain⟨x1,x2⟩:=zz6 (T:=T) s hs i h0 c hc c35 c10 c32 c9 c13 pre hp k0 a0 t0 hadj.1 hadj.2 e2;by_cases hq:Zar k0<t0.length+1
     ·grind
     ·left;rw[decide_eq_false hq,if_neg (by decide)];refine⟨(i+1,false,pre++[(k0,t0++[c],a0)]),⟨h0,by grind,fun k t a h=>by
       grind⟩,by omega,x1 (by omega),rfl⟩
    ·have hs1:Zcz c i (pre++[(k0,t0,a0)])=pre++[(k0,t0,a0)]++[(Zi c,[c],i)]:=by
      unfold Zcz
      grind
     have hb1:Zeo (pre++[(k0,t0,a0)]++[(Zi c,[c],i)])=decide (Zi c=0):=by
      simp[Zeo];omega
     rw[hs1,hb1];by_cases hk:Zi c=0
     ·grind[zld]
     ·left;rw[decide_eq_false hk,if_neg (by decide)];refine⟨(i+1,false,pre++[(k0,t0,a0)]++[(Zi c,[c],i)]),⟨h0,by grind,fun k t a h=>by
       grind⟩,by omega,zwn (T:=T) s hs i h0 c hc c35 c10 c32 c9 c13 pre hp k0 a0 t0 e1 hadj (Zi c) rfl hk,rfl⟩
 ·right;have hi2:i=s.length:=by omega
  subst hi2;rw[Y7];have er:Zeq [] s.length note acc=.ok acc:=rfl;rw[er];simp only[Ze0,Zcp];have g1:=zdw acc;have g2:=zfx acc;have g3:=zed acc;generalize Z8 acc=RW at *
  generalize acc.length=m at *
  constructor<;>simp -implicitDefEqProofs[l168_0,g1]
def Zf5(r:Except Nat (List Wd)):AV:=
 match r with
 | .ok ws=>.tup [.sl (Z8 ws) .an,.i .i64 (-1)]
 | .error e=>.tup [.sl [] .an,.i .i64 e]
theorem zst(s:List UInt8)(hs:s.length≤1000000):Za T 168 [.s s]=some (Zf5 (Zin s)):=by
 rw[zab Zba.h168 rfl,b168];unfold Zin;by_cases h1:4000<s.length
 ·have h1':(4000:Int)<s.length:=by omega
  rw[if_pos h1];simp -implicitDefEqProofs[Zf5,h1']
 ·have h1':¬ (4000:Int)<s.length:=by omega
  rw[if_neg h1];have h:=zwp (T:=T) s (by omega) (0,false,[]) ⟨Yp _,Yd _,fun k t a h=>by grind⟩;simp only[Yaa]at h;rw[zx7]at h;have e0:Z8 []=[]:=rfl;simp only[Zcp,e0,Yag,Yv]at h;cases hr:Zdd (s.drop (Za6 false s)) (Za6 false s) []with
  | ok ws=>
   rw[hr]at h;simp only[Ze0]at h;have g1:=zdw ws;have g3:=zed ws;simp only[Zf5];generalize Z8 ws=RW at *
   generalize ws.length=m at *
   have ht:List.take m RW=RW:=Yb (by omega);simp -implicitDefEqProofs[h1',h,g1,ht,g3]
  | error e=>
   rw[hr]at h;simp only[Ze0]at h;simp -implicitDefEqProofs[Zf5,h1',h]
end
end Go.Ab
end
section
namespace Go.Ab
theorem zni:∀(n:Nat) (l:List UInt8) (i:Nat) (acc ws:List Wd),l.length=n→Zdd l i acc=.ok ws→∃r,ws=acc++r:=by
 intro n
 induction n using Nat.strongRecOn with
 | _ n ih=>
  intro l i acc ws hl h;cases l with
  | nil=>rw[zf9]at h;cases h;exact⟨[],by simp⟩
  | cons c r=>
   rw[zgs]at h;split at h
   ·cases h
   ·split at h
    ·cases h
    ·obtain⟨r',hr'⟩:=ih _ (by simp only[Yal,Ye]at hl ⊢;omega) _ _ _ _ rfl h;exact⟨_,by rw[hr',Y8]⟩
def Zfw(k:Int)(t:List UInt8):Except Nat (List Wd)→Bool
 | .ok [(k',t',_)]=>decide ((k':Int)=k)&&decide (t'=t)
 | _=>false
theorem zwq(k:Nat)(r:List UInt8):1≤Z4 k r∧Z4 k r≤r.length+1:=by
 unfold Z4;have:=(Ybk (Zau k) (l:=r)).length_le;omega
theorem zsu(k:Int)(t:List UInt8)(ht:t.length≤4000):Zfw k t (Zin t)=Zax k t:=by
 unfold Zin;rw[if_neg (by omega)];cases t with
 | nil=>simp[Za6,zf9,Zfw,Zax]
 | cons c r=>
  simp only[Ye]at ht;by_cases hsk:Za6 false (c::r)=0
  ·rw[hsk,Yaa,zgs];obtain⟨f1,f2⟩:=zwq (Zi c) r;by_cases hk:Zi c=0
   ·rw[if_pos hk];simp only[Zfw,Zax,hk];by_cases hk0:k=0
    ·simp[hk0]
    ·have:¬ (0:Int)=k:=fun h=>hk0 h.symm;simp[this]
   ·rw[if_neg hk];by_cases hm:Zar (Zi c)<Z4 (Zi c) r
    ·rw[if_pos hm];simp only[Zfw,Zax];by_cases hfl:Z4 (Zi c) r=r.length+1
     ·have:¬ r.length+1≤Zar (Zi c):=by omega
      simp[this]
     ·simp[hfl]
    ·rw[if_neg hm,Yaf];by_cases hfl:Z4 (Zi c) r=r.length+1
     ·have e1:r.drop (Z4 (Zi c) r-1)=[]:=by
       rw[hfl];exact List.drop_eq_nil_of_le (by omega)
      have e2:(c::r).take (Z4 (Zi c) r)=c::r:=by
       rw[hfl];exact Yb (by simp)
      rw[e1,e2];simp only[Za6,List.drop_nil,zf9,Zfw,Zax,hfl];have:r.length+1≤Zar (Zi c):=by omega
      by_cases hkk:(Zi c:Int)=k
      ·have hk0:k≠0:=by omega
       simp[hkk,hk0,this]
      ·simp[hkk]
     ·have hfalse:Zax k (c::r)=false:=by simp[Zax,hfl]
      rw[hfalse];generalize hws:Zdd ((r.drop (Z4 (Zi c) r-1)).drop (Za6 false (r.drop (Z4 (Zi c) r-1)))) (0+Z4 (Zi c) r+Za6 false (r.drop (Z4 (Zi c) r-1))) [(Zi c,(c::r).take (Z4 (Zi c) r),0)]=res;cases res with
      | error e=>rfl
      | ok ws=>
       obtain⟨x,hx⟩:=zni _ _ _ _ _ rfl hws;rw[hx];cases x with
       | nil=>
        simp only[Yaq,Zfw];have hne:¬ (c::r).take (Z4 (Zi c) r)=c::r:=fun h=>by
         have:=congrArg List.length h;rw[Yai,Ye]at this;omega
        rw[decide_eq_false hne,Bool.and_false]
       | cons y x=>rfl
  ·have hle:=zq3 false (c::r);have hk:Zi c=0∨isB c=true∨c=35:=by
    right;by_cases hb:((if c=35 then true else if c=10 then false else false) || isB c)=true
    ·by_cases h35:c=35
     ·exact .inr h35
     ·simp[h35]at hb;exact .inl hb
    ·exfalso;apply hsk;simp only[Za6];rw[if_neg hb]
   have hk0:Zi c=0:=by
    rcases hk with h | h | h
    ·exact h
    ·simp only[isB,Ya4,decide_eq_true_eq]at h;rcases h with ((rfl | rfl) | rfl) | rfl<;>decide
    ·subst h;decide
   have hr:Zax k (c::r)=false:=by
    simp only[Zax,hk0];by_cases hk0:k=0
    ·simp[hk0]
    ·have:¬ (0:Int)=k:=fun h=>hk0 h.symm;simp[this]
   rw[hr]
   -- every word is shorter than the text
   have key:∀(l:List UInt8) (i:Nat),l.length<(c::r).length→Zfw k (c::r) (Zdd l i [])=false:=by
    intro l i hl;cases l with
    | nil=>rw[zf9];rfl
    | cons d q=>
     rw[zgs];split
     ·rfl
     ·split
      ·rfl
      ·generalize hws:Zdd ((q.drop (Z4 (Zi d) q-1)).drop (Za6 false (q.drop (Z4 (Zi d) q-1)))) (i+Z4 (Zi d) q+Za6 false (q.drop (Z4 (Zi d) q-1))) ([]++[(Zi d,(d::q).take (Z4 (Zi d) q),i)])=res;cases res with
       | error e=>rfl
       | ok ws=>
        obtain⟨x,hx⟩:=zni _ _ _ _ _ rfl hws;rw[hx];cases x with
        | nil=>
         simp only[Yaf,Yaq,Zfw];have hne:¬ (d::q).take (Z4 (Zi d) q)=c::r:=fun h=>by
          have:=congrArg List.length h;rw[Yai]at this;omega
         rw[decide_eq_false hne,Bool.and_false]
        | cons y x=>rfl
   exact key _ _ (by rw[Yal];omega)
section
variable{T:Tbl}[Zba T]
theorem zo5(k a:Int)(t:List UInt8)(ht:t.length≤4000):Za T 173 [.agg [.i .i64 k,.s t,.i .i64 a]]=some (.b (Zax k t)):=by
 have c:=zst (T:=T) t (by omega);rw[←zsu k t ht,zab Zba.h173 rfl,b173];cases hr:Zin t with
 | error e=>
  rw[hr]at c;simp only[Zf5]at c;have he:¬ (e:Int)<0:=by omega
  simp -implicitDefEqProofs[c,Zfw,he]
 | ok ws=>
  rw[hr]at c;simp only[Zf5]at c
  match ws with
  | []=>
   have e0:Z8 []=[]:=rfl;rw[e0]at c;simp -implicitDefEqProofs[c,Zfw]
  | [(k',t',a')]=>
   have e1:Z8 [(k',t',a')]=[[.i .i64 k',.s t',.i .i64 a']]:=rfl;rw[e1]at c;by_cases hk:(k':Int)=k
   ·by_cases htt:t'=t
    ·simp -implicitDefEqProofs[c,Zfw,hk,htt]
    ·simp -implicitDefEqProofs[c,Zfw,hk,htt]
   ·simp -implicitDefEqProofs[c,Zfw,hk]
  | w1::w2::r=>
   have hl:(Z8 (w1::w2::r)).length=r.length+2:=by simp
   have hne:¬ ((r.length:Int)+2=1):=by omega
   have hne':¬ (r.length+2=1):=by omega
   have g1:=zdw (w1::w2::r);have hone:Zfw k t (.ok (w1::w2::r))=false:=rfl;rw[hone];generalize Z8 (w1::w2::r)=RW at *
   generalize r.length=m at *
   simp -implicitDefEqProofs[c,hl,hne,hne',g1]
end
end Go.Ab
end
section
namespace Go.Ab
theorem zj7{x:Fz}(h:Zaf x=true):x=fz (fv x):=by
 grind[Zaf,Zb0]
theorem zz7{l:List Fz}(h:l.all Zaf=true):l=fzs (l.map fv):=by
 unfold fzs
 conv=>lhs;rw[←List.map_id l]
 grind[List.map_congr_left,zj7]
theorem zz8(l:List Rat)(i:Nat)(h:i<l.length):sumF ((fzs l).take (i+1))=sumF ((fzs l).take i)+l[i]'h:=by
 have h':i<(fzs l).length:=by simp_all
 rw[zit (fzs l) h'];simp[fzs]
section
variable{T:Tbl}[Z5 T][Zal T][Z1 T][Zah T][Z2 T][Zaj T][Zx T][Zai T][Zel T][Zc7 T]
def Zhe(l:List Fz)(i:Nat):St:=⟨[(0,.sl (Zd l) .an),(3,.i .i64 i)],[],2⟩
theorem zsv(l:List Fz)(hl:l.length≤1000)(hw:∀x∈l,fsz x≤10000) :
  Zf T 0 0 (.norm false []) l540_0 (Zhe l 0)=if (l.drop 0).all Zaf=true then some (.n,⟨[],[],2⟩) else some (.r,⟨[(2,.b true)],[],2⟩):=by
 refine za0 (Zhe l) l.length (fun i=>if (l.drop i).all Zaf=true then some (.n,⟨[],[],2⟩) else some (.r,⟨[(2,.b true)],[],2⟩)) (fun i hi=>?_) ?_
 ·have hi':(i:Int)<l.length:=by omega
  have hws:=zbs hi (by omega);have hx:=hw _ (Yj hi);have c1:=zcj (T:=T) (l[i]'hi) hx;have c2:=zb2 (T:=T) (fz (fv (l[i]'hi))) (l[i]'hi) (by exact zdc hx (by decide));have c3:=zsz (T:=T) (l[i]'hi) hx;have key:(l.drop i).all Zaf=(Zaf (l[i]'hi)&&(l.drop (i+1)).all Zaf):=by rw[Yi hi,Yb6]
  have hn:Zaf (l[i]'hi)=(Zb0 (l[i]'hi)&&decide (Zc3 (l[i]'hi)≤190)):=rfl;have hr:decide (fz (fv (l[i]'hi))=l[i]'hi)=Zb0 (l[i]'hi):=by grind[Zb0]
  rw[hr]at c2;by_cases h1:Zb0 (l[i]'hi)=true
  ·by_cases h2:Zc3 (l[i]'hi)≤190
   ·left;refine⟨?_,by grind⟩;have h3:¬ (190:Int)<Zc3 (l[i]'hi):=by omega
    unfold Zhe;simp -implicitDefEqProofs[l540_0,hi,hi',hws,c1,c2,c3,h1,h3]
   ·right;have h3:(190:Int)<Zc3 (l[i]'hi):=by omega
    rw[if_neg (by grind)];unfold Zhe;constructor<;>simp -implicitDefEqProofs[l540_0,hi,hi',c1,c2,c3,h1,h3]
  ·right;have h1':Zb0 (l[i]'hi)=false:=by grind
   rw[if_neg (by grind)];unfold Zhe;constructor<;>simp -implicitDefEqProofs[l540_0,hi,hi',c1,c2,h1']
 ·simp only[Y7,Yej,if_true];unfold Zhe;constructor<;>simp -implicitDefEqProofs[l540_0]
theorem zf3(l:List Fz)(hl:l.length≤1000)(hw:∀x∈l,fsz x≤10000):Za T 540 [.sl (Zd l) .an]=some (.b (!l.all Zaf)):=by
 have h:=zsv (T:=T) l hl hw;unfold Zhe at h;rw[zab Zc7.h540 rfl,b540];cases hn:l.all Zaf with
 | true=>simp_all
 | false=>simp_all
def Zis(l:List Rat)(i:Nat):St:=⟨[(0,.sl (Zd (fzs l)) .an),(2,.ptr (.loc 2) 1 3 0 0),(3,.ptr (.loc 3) 2 3 0 0),(4,.i .i64 i)],
 [(.loc 2,⟨1,.str,3,[Zdx]⟩),(.loc 3,⟨2,.str,3,[Zdi (fz (sumF ((fzs l).take i)))]⟩)],4⟩
theorem zsw(l:List Rat){B:Nat}(hw:∀x∈l,sz x≤B)(hB:1≤B)(hS:l.length*(B+1)+1≤1000) :
  Zf T 0 0 (.norm false [2,3]) l541_0 (Zis l 0)=some (.n,⟨[(2,.ptr (.loc 2) 1 3 0 0),(3,.ptr (.loc 3) 2 3 0 0)],[(.loc 2,⟨1,.str,3,[Zdx]⟩),(.loc 3,⟨2,.str,3,[Zdi (fz (sumF (fzs l)))]⟩)],4⟩):=by
 refine zay (Zis l) l.length _ (fun i hi=>?_) ?_
 ·have hlen:l.length*1≤1000:=Yc (Yaj _ (show 1≤B+1 by omega)) (by omega);have hBB:B+1≤1000:=Yc (Ycd _ (show 0<l.length by omega)) (by omega);have hi2:i<(fzs l).length:=by simp_all
  have hga:(fzs l)[i]? = some (fz (l[i]'hi)):=by simp[fzs,hi]
  have hi':(i:Int)<(fzs l).length:=by omega
  have hws:=zbs hi (by omega);have ha1:=hw _ (Yj hi);have hw':∀x∈fzs l,fsz x≤B:=by
   intro x hx;obtain⟨q,hq,rfl⟩:=Yab.1 hx;rw[zbe];grind
  have s1:=ziu hw' hB i (by omega);have s2:i*(B+1)≤l.length*(B+1):=Yw _ (by omega);have c2:=zj5 (T:=T) (sumF ((fzs l).take i)) (l[i]'hi) (by omega) (by omega);rw[←zz8 l i hi]at c2;have hge:(fzs l)[i]'hi2=fz (l[i]'hi):=by grind
  unfold Zis;generalize fzs l=L at *
  simp -implicitDefEqProofs[l541_0,hi',hi2,hge,hws,c2]
 ·unfold Zis;rw[Yb (by simp_all)];constructor<;>simp -implicitDefEqProofs[l541_0]
theorem zwr(l:List Rat){B:Nat}(hw:∀x∈l,sz x≤B)(hB:1≤B)(hS:l.length*(B+1)+1≤1000) :
  Za T 541 [.sl (Zd (fzs l)) .an]=some (efz (fz (sumF (fzs l)))):=by
 have h0:=zsm (T:=T);have h:=zsw (T:=T) l hw hB hS;unfold Zis at h;have e0:sumF ((fzs l).take 0)=0:=rfl;rw[e0]at h;simp only[Yv]at h;rw[zab Zc7.h541 rfl,b541];simp -implicitDefEqProofs[h0,h]
theorem zex(l:List Fz)(hl:l.length≤8)(hn:l.all Zaf=true):Za T 541 [.sl (Zd l) .an]=some (efz (fz (sumF l))):=by
 have e:=zz7 hn;have c:=zwr (T:=T) (l.map fv) (B:=6) (fun q hq=>by
  obtain⟨x,hx,rfl⟩:=Yab.1 hq;exact zdc (zcy (Yg.1 hn x hx)) (by decide)) (by decide) (by grind)
 grind
end
end Go.Ab
end
section
namespace Go.Ab
theorem zii{p q:Rat}:fz p=fz q↔p=q:=⟨fun h=>by have:=congrArg fv h;rwa [zcz,zcz]at this,fun h=>by rw[h]⟩
section
variable{T:Tbl}[Z5 T][Zal T][Z1 T][Zah T][Z2 T][Zaj T][Zx T][Zai T][Zel T][Zba T][Zc7 T]
def Zhx(s:Sm)(i:Nat):St:=⟨[(1,.ptr (.loc 1) 1 5 0 0),(3,.i .i64 s.b.length),(4,.i .i64 i)],[(.loc 1,bxS s)],3⟩
theorem zws(s:Sm)(hl:s.b.length≤8)(ha:s.a.length=s.b.length) :
  Zf T 0 0 (.norm false [1,3]) l529_0 (Zhx s 0)=if Zay (s.a.drop 0) 0=true then some (.n,⟨[(1,.ptr (.loc 1) 1 5 0 0),(3,.i .i64 s.b.length)],[(.loc 1,bxS s)],3⟩) else some (.r,⟨[(2,.i .i64 2)],[],2⟩):=by
 refine za0 (Zhx s) s.a.length (fun i=>if Zay (s.a.drop i) i=true then some (.n,⟨[(1,.ptr (.loc 1) 1 5 0 0),(3,.i .i64 s.b.length)],[(.loc 1,bxS s)],3⟩) else some (.r,⟨[(2,.i .i64 2)],[],2⟩)) (fun i hi=>?_) ?_
 ·have hib:i<s.b.length:=by omega
  have hib':(i:Int)<s.b.length:=by omega
  have hia':(i:Int)<s.a.length:=by omega
  have hws:=zbs hi (by omega);have key:Zay (s.a.drop i) i=(decide ((s.a[i]'hi).length=i)&&Zay (s.a.drop (i+1)) (i+1)):=by rw[Yi hi,Zay]
  by_cases hr:(s.a[i]'hi).length=i
  ·left;refine⟨?_,by grind⟩;unfold Zhx bxS;simp -implicitDefEqProofs[l529_0,hi,hib',hia',hws,hr]
  ·right;have hr':¬ ((s.a[i]'hi).length:Int)=i:=by omega
   rw[if_neg (by grind)];unfold Zhx bxS;constructor<;>simp -implicitDefEqProofs[l529_0,hi,hib',hia',hr']
 ·have e:Zay [] s.a.length=true:=rfl;simp only[Y7,e,if_true];unfold Zhx bxS;have hx:¬ (s.a.length:Int)<s.b.length:=by omega
  have hx2:¬ s.a.length<s.b.length:=by omega
  constructor<;>simp -implicitDefEqProofs[l529_0,ha]
def Zhy(s:Sm)(i:Nat):St:=⟨[(1,.ptr (.loc 1) 1 5 0 0),(3,.i .i64 s.b.length),(5,.i .i64 i)],[(.loc 1,bxS s)],3⟩
theorem zwt(s:Sm)(hl:s.b.length≤8)(ha:s.a.length=s.b.length)(hw:∀r∈s.a,r.length≤1000∧∀x∈r,fsz x≤10000) :
  Zf T 0 2 (.norm false [1,3]) l529_1 (Zhy s 0)=if Zci (s.a.drop 0)=true then some (.n,⟨[(1,.ptr (.loc 1) 1 5 0 0),(3,.i .i64 s.b.length)],[(.loc 1,bxS s)],3⟩) else some (.r,⟨[(2,.i .i64 3)],[],2⟩):=by
 refine za0 (Zhy s) s.a.length (fun i=>if Zci (s.a.drop i)=true then some (.n,⟨[(1,.ptr (.loc 1) 1 5 0 0),(3,.i .i64 s.b.length)],[(.loc 1,bxS s)],3⟩) else some (.r,⟨[(2,.i .i64 3)],[],2⟩)) (fun i hi=>?_) ?_
 ·have hib:i<s.b.length:=by omega
  have hib':(i:Int)<s.b.length:=by omega
  have hia':(i:Int)<s.a.length:=by omega
  have hws:=zbs hi (by omega);obtain⟨g1,g2⟩:=hw _ (Yj hi);have cb:=zf3 (T:=T) (s.a[i]'hi) g1 g2;have key:Zci (s.a.drop i)=((s.a[i]'hi).all Zaf&&Zci (s.a.drop (i+1))):=by grind[Zci,List.drop_eq_getElem_cons]
  by_cases hr:(s.a[i]'hi).all Zaf=true
  ·left;rw[hr]at cb;refine⟨?_,by grind⟩;unfold Zhy bxS;simp -implicitDefEqProofs[l529_1,hi,hib',hia',hws,cb]
  ·right;have hr':(s.a[i]'hi).all Zaf=false:=(Ydz _).mp hr;rw[hr']at cb;rw[if_neg (by grind)];unfold Zhy bxS;constructor<;>simp -implicitDefEqProofs[l529_1,hi,hib',hia',cb]
 ·have e:Zci []=true:=rfl;simp only[Y7,e,if_true];unfold Zhy bxS;have hx:¬ (s.a.length:Int)<s.b.length:=by omega
  have hx2:¬ s.a.length<s.b.length:=by omega
  constructor<;>simp -implicitDefEqProofs[l529_1,ha]
def Zhz(s:Sm)(i:Nat):St:=⟨[(1,.ptr (.loc 1) 1 5 0 0),(3,.i .i64 s.b.length),(6,.i .i64 i)],[(.loc 1,bxS s)],3⟩
theorem zwu(s:Sm)(hl:s.b.length≤8)(ha:s.a.length=s.b.length)(hc:s.c.length=s.b.length)(h1:∀r∈s.a,r.length≤8∧r.all Zaf=true)(h2:s.c.all Zaf=true) :
  Zf T 0 4 (.norm false [1]) l529_2 (Zhz s 0)=if Zbq (s.a.drop 0) (s.c.drop 0)=true then some (.n,⟨[(1,.ptr (.loc 1) 1 5 0 0)],[(.loc 1,bxS s)],3⟩) else some (.r,⟨[(2,.i .i64 4)],[],2⟩):=by
 refine za0 (Zhz s) s.a.length (fun i=>if Zbq (s.a.drop i) (s.c.drop i)=true then some (.n,⟨[(1,.ptr (.loc 1) 1 5 0 0)],[(.loc 1,bxS s)],3⟩) else some (.r,⟨[(2,.i .i64 4)],[],2⟩)) (fun i hi=>?_) ?_
 ·have hic:i<s.c.length:=by omega
  have hib':(i:Int)<s.b.length:=by omega
  have hia':(i:Int)<s.a.length:=by omega
  have hic':(i:Int)<s.c.length:=by omega
  have hws:=zbs hi (by omega);obtain⟨g1,g2⟩:=h1 _ (Yj hi);have g3:=Yg.1 h2 _ (Yj hic);have c1:=zex (T:=T) (s.a[i]'hi) g1 g2;have z1:=ze0 g1 (fun x hx=>zcy (Yg.1 g2 x hx));have c2:=zb2 (T:=T) (fz (sumF (s.a[i]'hi))) (s.c[i]'hic) (by rw[zbe];omega);have hr3:=zj7 g3;have hd:decide (fz (sumF (s.a[i]'hi))=s.c[i]'hic)=decide (sumF (s.a[i]'hi)=fv (s.c[i]'hic)):=by
   grind[zcz]
  rw[hd]at c2;have key:Zbq (s.a.drop i) (s.c.drop i)=(decide (sumF (s.a[i]'hi)=fv (s.c[i]'hic))&&Zbq (s.a.drop (i+1)) (s.c.drop (i+1))):=by
   grind[Zbq,List.drop_eq_getElem_cons,List.zip_cons_cons]
  generalize fz (sumF (s.a[i]'hi))=z at *
  by_cases he:sumF (s.a[i]'hi)=fv (s.c[i]'hic)
  ·left;refine⟨?_,by grind⟩;unfold Zhz bxS;simp -implicitDefEqProofs[l529_2,hi,hib',hia',hws,c1,c2,he,hic,hic']
  ·right;rw[if_neg (by grind)];unfold Zhz bxS;constructor<;>simp -implicitDefEqProofs[l529_2,hi,hib',hia',c1,c2,he,hic,hic']
 ·have e:Zbq [] (s.c.drop s.a.length)=true:=rfl;simp only[Y7,e,if_true];unfold Zhz bxS;have hx:¬ (s.a.length:Int)<s.b.length:=by omega
  have hx2:¬ s.a.length<s.b.length:=by omega
  constructor<;>simp -implicitDefEqProofs[l529_2,ha]
theorem zah3(b c e:List Fz):Zci [b,c,e]=(b.all Zaf&&c.all Zaf&&e.all Zaf):=by
 grind[Zci]
theorem zo6(s:Sm)(hs:SmS s):Za T 529 [esm s]=some (.i .i64 (Zbu s)):=by
 have o1:=zj3 (T:=T);have c1:=zo5 (T:=T) 2 0 s.nm (Yc hs.nm (by decide));have kb:=zf3 (T:=T) s.b hs.bl (fun x hx=>Yc (hs.b x hx) (by decide));have kc:=zf3 (T:=T) s.c hs.cl (fun x hx=>Yc (hs.c x hx) (by decide));have ke:=zf3 (T:=T) s.e hs.el (fun x hx=>Yc (hs.e x hx) (by decide));have ha:=fun r hr=>(show r.length≤1000∧∀x∈r,fsz x≤10000 from ⟨(hs.a r hr).1,fun x hx=>Yc ((hs.a r hr).2 x hx) (by decide)⟩);rw[zab Zc7.h529 rfl,b529];unfold Zbu;cases g1:Zax 2 s.nm with
 | false=>
  rw[g1]at c1;obtain⟨nm,c,a,b,e⟩:=s;generalize fz 1=z1 at *
  dsimp only at *
  simp -implicitDefEqProofs[c1]
 | true=>
 rw[g1]at c1;by_cases p1:s.b.length<1
 ·have q2:s.b=[]:=Ya6.1 (by omega);have hsh:Zbg s=false:=by unfold Zbg;grind
  rw[hsh];obtain⟨nm,c,a,b,e⟩:=s;subst q2;simp -implicitDefEqProofs[c1]
 have m2:¬ (s.b.length:Int)<1:=by omega
 by_cases p2:8<s.b.length
 ·have m3:(8:Int)<s.b.length:=by omega
  have hsh:Zbg s=false:=by unfold Zbg;grind
  rw[hsh];simp -implicitDefEqProofs[c1,m2,m3]
 have p2':s.b.length≤8:=by omega
 have m3:¬ (8:Int)<s.b.length:=by omega
 by_cases p3:s.c.length=s.b.length
 rotate_left
 ·have q3:¬ (s.c.length:Int)=s.b.length:=by omega
  have hsh:Zbg s=false:=by unfold Zbg;grind
  rw[hsh];simp -implicitDefEqProofs[c1,m2,m3,q3]
 by_cases p4:s.a.length=s.b.length
 rotate_left
 ·have q4:¬ (s.a.length:Int)=s.b.length:=by omega
  have hsh:Zbg s=false:=by unfold Zbg;grind
  rw[hsh];simp -implicitDefEqProofs[c1,m2,m3,p3,q4]
 by_cases p5:s.e.length=s.b.length∨s.e.length=0
 rotate_left
 ·have q5:¬ (s.e.length:Int)=s.b.length:=by omega
  have q7:¬ s.e=[]:=fun h=>p5 (.inr (by grind));have hsh:Zbg s=false:=by
   grind[Zbg]
  rw[hsh];simp -implicitDefEqProofs[c1,m2,m3,p3,p4,q5,q7]
 -- the shapes are right as far as lengths go
 have hsh:Zbg s=Zay s.a 0:=by
  grind[Zbg]
 have h0:=zws (T:=T) s p2' p4;have h1:=zwt (T:=T) s p2' p4 ha;have h2:=fun g1 g2=>zwu (T:=T) s p2' p4 p3 g1 g2;rw[hsh];unfold Zhx bxS at h0;unfold Zhy bxS at h1;unfold Zhz bxS at h2;rw[Yaa]at h0 h1 h2;rw[Yaa]at h2;simp only[Yv]at h0 h1 h2;have hm:=zah3 s.b s.c s.e;have m6:¬ s.b=[]:=fun h=>by grind
 rcases p5 with p5 | p5
 ·have q6:¬ s.e=[]:=fun h=>by grind
  have q7:0<s.b.length:=by omega
  cases hq:Zay s.a 0 with
  | false=>
   rw[hq]at h0;simp -implicitDefEqProofs[c1,m2,m3,p3,p4,p5,m6,h0]
  | true=>
  rw[hq]at h0;cases hna:Zci s.a with
  | false=>
   rw[hna]at h1;simp -implicitDefEqProofs[c1,m2,m3,p3,p4,p5,m6,h0,h1]
  | true=>
  rw[hna]at h1;cases hnb:s.b.all Zaf with
  | false=>
   rw[hnb]at kb;rw[hnb]at hm;simp -implicitDefEqProofs[c1,m2,m3,p3,p4,p5,m6,h0,h1,kb,hm]
  | true=>
  rw[hnb]at kb;rw[hnb]at hm;cases hnc:s.c.all Zaf with
  | false=>
   rw[hnc]at kc;rw[hnc]at hm;simp -implicitDefEqProofs[c1,m2,m3,p3,p4,p5,m6,h0,h1,kb,kc,hm]
  | true=>
  rw[hnc]at kc;rw[hnc]at hm;cases hne:s.e.all Zaf with
  | false=>
   rw[hne]at ke;rw[hne]at hm;simp -implicitDefEqProofs[c1,m2,m3,p3,p4,p5,m6,h0,h1,kb,kc,ke,hm]
  | true=>
  rw[hne]at ke;rw[hne]at hm;have hna':=Yg.1 hna;have h2':=h2 (fun r hr=>⟨by have:=zbu _ _ hq r hr;omega,hna' r hr⟩) hnc;have k6:=zex (T:=T) s.b p2' hnb;have z6:=ze0 p2' (fun x hx=>zcy (Yg.1 hnb x hx));have d6:=zb2 (T:=T) (fz (sumF s.b)) (fz 1) (by rw[zbe];omega);have k7:=zex (T:=T) s.e (by omega) hne;have z7:=ze0 (l:=s.e) (by omega) (fun x hx=>zcy (Yg.1 hne x hx));have d7:=zb2 (T:=T) (fz (sumF s.e)) (fz 1) (by rw[zbe];omega);have i7:decide (fz (sumF s.e)=fz 1)=decide (sumF s.e=1):=by rw[decide_eq_decide];exact zii
  rw[i7]at d7;have i6:decide (fz (sumF s.b)=fz 1)=decide (sumF s.b=1):=by rw[decide_eq_decide];exact zii
  rw[i6]at d6;cases hrw:Zbq s.a s.c with
  | false=>
   rw[hrw]at h2';simp -implicitDefEqProofs[c1,m2,m3,p3,p4,p5,m6,h0,h1,kb,kc,ke,hm,h2']
  | true=>
  rw[hrw]at h2';generalize fz (sumF s.b)=zb at *
  generalize fz (sumF s.e)=ze at *
  by_cases g6:sumF s.b=1
  ·by_cases g8:sumF s.e=1
   ·dsimp only at *
    simp -implicitDefEqProofs[c1,m2,m3,p3,p4,p5,q6,q7,m6,h0,h1,kb,kc,ke,hm,h2',o1,k6,d6,g6,k7,d7,g8]
   ·dsimp only at *
    simp -implicitDefEqProofs[c1,m2,m3,p3,p4,p5,q6,q7,m6,h0,h1,kb,kc,ke,hm,h2',o1,k6,d6,g6,k7,d7,g8]
  ·dsimp only at *
   simp -implicitDefEqProofs[c1,m2,m3,p3,p4,p5,m6,h0,h1,kb,kc,ke,hm,h2',o1,k6,d6,g6]
 ·have e0:s.e=[]:=Ya6.1 p5;rw[e0]at ke;rw[←e0]at ke;cases hq:Zay s.a 0 with
  | false=>
   rw[hq]at h0;obtain⟨nm,c,a,b,e⟩:=s;subst e0;simp only[za8]at *
   simp -implicitDefEqProofs[c1,m2,m3,p3,p4,h0]
  | true=>
  rw[hq]at h0;cases hna:Zci s.a with
  | false=>
   rw[hna]at h1;obtain⟨nm,c,a,b,e⟩:=s;subst e0;simp only[za8]at *
   simp -implicitDefEqProofs[c1,m2,m3,p3,p4,h0,h1]
  | true=>
  rw[hna]at h1;cases hnb:s.b.all Zaf with
  | false=>
   rw[hnb]at kb;rw[hnb]at hm;obtain⟨nm,c,a,b,e⟩:=s;subst e0;simp only[za8]at *
   simp -implicitDefEqProofs[c1,m2,m3,p3,p4,h0,h1,kb,hm]
  | true=>
  rw[hnb]at kb;rw[hnb]at hm;cases hnc:s.c.all Zaf with
  | false=>
   rw[hnc]at kc;rw[hnc]at hm;obtain⟨nm,c,a,b,e⟩:=s;subst e0;simp only[za8]at *
   simp -implicitDefEqProofs[c1,m2,m3,p3,p4,h0,h1,kb,kc,hm]
  | true=>
  rw[hnc]at kc;rw[hnc]at hm;cases hne:s.e.all Zaf with
  | false=>
   grind
  | true=>
  rw[e0]at ke hm;have hna':=Yg.1 hna;have h2':=h2 (fun r hr=>⟨by have:=zbu _ _ hq r hr;omega,hna' r hr⟩) hnc;have k6:=zex (T:=T) s.b p2' hnb;have z6:=ze0 p2' (fun x hx=>zcy (Yg.1 hnb x hx));have d6:=zb2 (T:=T) (fz (sumF s.b)) (fz 1) (by rw[zbe];omega);have i6:decide (fz (sumF s.b)=fz 1)=decide (sumF s.b=1):=by rw[decide_eq_decide];exact zii
  rw[i6]at d6;cases hrw:Zbq s.a s.c with
  | false=>
   rw[hrw]at h2';obtain⟨nm,c,a,b,e⟩:=s;subst e0;simp only[za8]at *
   simp -implicitDefEqProofs[c1,m2,m3,p3,p4,h0,h1,kb,kc,ke,hm,h2']
  | true=>
  rw[hrw]at h2';generalize fz (sumF s.b)=zb at *
  by_cases g6:sumF s.b=1
  ·obtain⟨nm,c,a,b,e⟩:=s;subst e0;simp only[za8]at *
   simp -implicitDefEqProofs[c1,m2,m3,p3,p4,h0,h1,kb,kc,ke,hm,h2',o1,k6,d6,g6]
  ·obtain⟨nm,c,a,b,e⟩:=s;subst e0;simp only[za8]at *
   simp -implicitDefEqProofs[c1,m2,m3,p3,p4,h0,h1,kb,kc,ke,hm,h2',o1,k6,d6,g6]
end
end Go.Ab
end
section
namespace Go.Ab
section
variable{T:Tbl}[Zac T][Zq T][Zw T][Zz T][Zs T][Zu T][Ze T][Zl T][Zv T][Za5 T][Za9 T][Zcd T][Zco T][Zb9 T][Zc2 T][Zfa T][Ze9 T][Zn T][Zaz T][Zav T][Zbf T][Zje T]
def Zod(m:List (List Fz))(r:List Fz)(j i:Nat):St:=⟨[(7,.sl (Zt m) .an),(8,.i .i64 m.length),(9,.i .i64 j),(13,.sl (Zd r) .an),(14,.i .i64 r.length),(15,.i .i64 i)],[],2⟩
def Zoe(m:List (List Fz))(i:Nat):St:=⟨[(7,.sl (Zt m) .an),(8,.i .i64 m.length),(9,.i .i64 i)],[],2⟩
def bxH(h:Hs):Box:=⟨1,.str,5,[[.sl (Zen h.l) .an,.b h.t.1,.sl (Zb h.t.2.1) .an,.sl (Zb h.t.2.2) .an,.sl (Zd h.y) .an]]⟩
def Zof(h:Hs)(i:Nat):St:=⟨[(1,.ptr (.loc 1) 1 5 0 0),(6,.sl (Zen h.l) .an),(7,.i .i64 h.l.length),(8,.i .i64 i)],[(.loc 1,bxH h)],3⟩
def Zo9(l:List Tr)(i:Nat):St:=⟨[(6,.sl (Zen l) .an),(7,.i .i64 l.length),(8,.i .i64 i)],[],2⟩
def Zpa(h:Hs)(i:Nat):St:=⟨[(1,.ptr (.loc 1) 1 5 0 0),(8,.sl (Zen h.l) .an),(9,.i .i64 h.l.length),(10,.i .i64 i)],[(.loc 1,bxH h)],3⟩
theorem HsS.mono{h:Hs}{A B:Nat}(hs:HsS h A)(hAB:A≤B):HsS h B:=
 ⟨hs.len,Yc hs.t hAB,fun x hx=>Yc (hs.y x hx) hAB,hs.yl,fun r hr x hx=>Yc (hs.rt r hr x hx) hAB,fun r hr x hx=>Yc (hs.ry r hr x hx) hAB,hs.rl⟩
def Zpb(l:List Tr)(i n:Nat):St:=⟨[(3,.bs (.loc 3) 1 14 0 n),(8,.sl (Zen l) .an),(9,.i .i64 l.length),(10,.i .i64 i)],[(.loc 3,⟨1,.own,14,Zen (Zlf (l.take i))⟩)],3⟩
end
end Go.Ab
end
section
namespace Go.Ab
section
variable{T:Tbl}[Zac T][Zq T][Zw T][Zz T][Zs T][Zu T][Ze T][Zl T][Zv T][Za5 T][Za9 T][Zcd T][Zco T][Zb9 T][Zc2 T][Zfa T][Ze9 T][Zn T][Zaz T][Zav T][Zbf T][Zje T][Zi4 T]
def Zpc(A:List Tr)(i:Nat):St:=⟨[(3,.bs (.loc 3) 1 3 0 i),(7,.sl (Zen A) .an),(8,.i .i64 A.length),(9,.i .i64 i)],[(.loc 3,⟨1,.own,3,Zd ((A.take i).map (·.h))⟩)],3⟩
def Zpd(h:Hs)(A:List Tr)(i:Nat):St:=⟨[(1,.ptr (.loc 1) 1 5 0 0),(4,.bs (.loc 4) 2 3 0 i),(5,.bs (.loc 5) 3 1 0 i),(9,.sl (Zen A) .an),(10,.i .i64 A.length),(11,.i .i64 i)],
 [(.loc 1,bxH h),(.loc 4,⟨2,.own,3,Zd ((A.take i).map (·.t))⟩),(.loc 5,⟨3,.own,1,Zt ((A.take i).map (·.y))⟩)],5⟩
end
end Go.Ab
end
section
namespace Go.Ab
def Zpu(t h s:Rat):Rat:=(s-t)/h
def Zpv(h x y:Rat):List Rat:=[y*y*(1+2*x),x*x*(3 + -2*x),h*x*y*y,h*x*x * -y]
def Zpw(h x y:Rat):List Rat:=[-(6*x*y/h),6*x*y/h,y*(1 + -3*x),x*(-2+3*x)]
def Zpx(c:List Rat)(y0 y1 f0 f1:List Fz):List Rat:=Zmk ((fzs c).zip [y0,y1,f0,f1]) (List.replicate y0.length 0)
end Go.Ab
end
section
namespace Go.Ab
def Zmq(s:Rat):List Fz→Nat→Option Nat
 | [],_=>none
 | t::l,i=>if s≤fv t then some i else Zmq s l (i+1)
def Zpy(s:Rat):List Fz→Option Nat
 | []=>none
 | t::l=>if s<fv t then none else Zmq s l 0
def Znq:Option Nat→AV
 | some i=>.tup [.i .i64 i,.b true]
 | none=>.tup [.i .i64 (-1),.b false]
section
variable{T:Tbl}[Zac T][Zq T][Zw T][Zz T][Zs T][Zu T][Ze T][Zl T][Zv T][Za5 T][Za9 T][Zcd T][Zco T][Zb9 T][Zc2 T][Zfa T][Ze9 T][Zn T][Zaz T][Zav T][Zbf T][Zje T][Zi4 T][Zca T][Zad T][Zlo T][Zkg T][Zkh T]
def Zpz(s:Fz)(l:List Fz)(i:Nat):St:=⟨[(3,.ptr (.loc 3) 1 3 0 0),(25,.sl (Zd l) .an),(26,.i .i64 l.length),(27,.i .i64 i)],[(.loc 3,⟨1,.str,3,[Zdi s]⟩)],3⟩
def Zor:Option Nat→Ex×St
 | some i=>(.r,⟨[(4,.i .i64 i),(5,.b true)],[],2⟩)
 | none=>(.n,⟨[],[],2⟩)
end
end Go.Ab
end
section
namespace Go.Ab
def Zmh(t:Tp)(many words:Nat):Bool:=((t.code.take many).any fun i=>decide (words<fsz i.n)) || decide (many<t.code.length) || decide (many<t.outs.length)
def Zn8(x:PoF)(many words:Nat):Bool:=decide (words<fsz x.t) || Zbm x.y many words || Zbm x.p many words
section
variable{T:Tbl}[Z5 T][Zal T][Z1 T][Zah T][Z2 T][Zaj T][Zx T][Zai T][Zcx T][Zce T][Zg6 T]
def Zo1(t:Tp)(many words i:Nat):St:=⟨[(1,.i .i64 many),(2,.i .i64 words),(3,.ptr (.loc 3) 1 4 0 0),(7,.i .i64 i)],[(.loc 3,bxT t)],3⟩
def Zo2(t:Tp)(many:Nat):Ex×St:=(.n,⟨[(1,.i .i64 many),(3,.ptr (.loc 3) 1 4 0 0)],[(.loc 3,bxT t)],3⟩)
@[simp] theorem zahz(l:List Int):Option.all (fun r=>decide (r.length=1)) (ints l).head? = true:=by cases l<;>rfl
def fC:BId:=.fld (.loc 3) 0
def Zo3(t:Tp)(i:Nat):St:=⟨[(1,.ptr (.loc 1) 1 4 0 0),(2,.ptr (.loc 2) 2 4 0 0),(3,.ptr (.loc 3) 3 4 0 0),(4,.i .i64 i)],
 [(.loc 1,bxT t),(.loc 2,⟨2,.str,4,[[.sl [] .an,.sl [] .an,.i .i64 0,.i .i64 0]]⟩),(.loc 3,⟨3,.str,4,[[.bs fC 4 6 0 i,.bs (.loc 13) 5 1 0 t.outs.length,.i .i64 t.dim,.i .i64 t.par]]⟩),(fC,⟨4,.own,6,Zja (t.code.take i)⟩),(.loc 13,⟨5,.own,1,ints t.outs⟩)],7⟩
end
end Go.Ab
end
section
namespace Go.Ab
def Zeh(s:Sm)(many words:Nat):Bool:=decide (50<s.nm.length) || decide (many<s.a.length) || Zbm s.b many words || Zbm s.c many words || Zbm s.e many words || s.a.any fun r=>Zbm r many words
def Znc(p:Pb)(many stages words:Nat):Bool:=Zmh p.t many words || Zeh p.s stages 4 || Zbm p.p 6 words
def Zmj(r:Tr)(words:Nat):Bool:=Zbm r.nums 4 words || Zbm r.y 8 words
def Zob(h:Hs)(many words:Nat):Bool:=decide (many<h.l.length) || decide (words<fsz h.t) || Zbm h.y 8 words || h.l.any fun r=>Zmj r words
theorem zgy{s:Sm}{many words:Nat}(h:Zeh s many words=false)(hm:many≤1000)(hw:words≤300):SmS s∧(∀x∈s.c,fsz x≤words)∧s.b.length≤many∧s.a.length≤many∧s.c.length≤many∧s.e.length≤many∧(∀r∈s.a,r.length≤many):=by
 unfold Zeh at h;simp only[Bool.or_eq_false_iff,decide_eq_false_iff_not,List.any_eq_false]at h;obtain⟨⟨⟨⟨⟨h1,h2⟩,h3⟩,h4⟩,h5⟩,h6⟩:=h;obtain⟨b1,b2⟩:=zdz h3;obtain⟨c1,c2⟩:=zdz h4;obtain⟨e1,e2⟩:=zdz h5;have ha:∀r∈s.a,r.length≤many∧∀x∈r,fsz x≤words:=fun r hr=>zdz (by grind);exact⟨⟨by omega,by omega,by omega,by omega,by omega,fun x hx=>Yc (c2 x hx) hw,fun r hr=>⟨Yc (ha r hr).1 hm,fun x hx=>Yc ((ha r hr).2 x hx) hw⟩,fun x hx=>Yc (b2 x hx) hw,fun x hx=>Yc (e2 x hx) hw⟩,c2,b1,by omega,c1,e1,fun r hr=>(ha r hr).1⟩
section
variable{T:Tbl}[Zac T][Zq T][Zw T][Zz T][Zs T][Zu T][Ze T][Zl T][Zv T][Za5 T][Za9 T][Zcd T][Zco T][Zb9 T][Zc2 T][Zfa T][Ze9 T][Zn T][Zaz T][Zav T][Zbf T]
variable[Z5 T][Zal T][Z1 T][Zah T][Z2 T][Zaj T][Zx T][Zai T][Zdu T][Zcx T][Zce T][Zez T][Zg5 T][Zg6 T][Zeg T][Zgh T]
def Zkj(s:Sm):Box:=⟨1,.str,5,[[.s s.nm,.sl (Zd s.c) .an,.sl (Zt s.a) .an,.sl (Zd s.b) .an,.sl (Zd s.e) .an]]⟩
def Zhw(s:Sm)(many words i:Nat):St:=⟨[(1,.i .i64 many),(2,.i .i64 words),(3,.ptr (.loc 3) 1 5 0 0),(7,.i .i64 i)],[(.loc 3,Zkj s)],3⟩
theorem zjy(s:Sm)(many words:Nat)(hm:many≤1000):Za T 515 [esm s,.i .i64 many,.i .i64 words]=some (.b (Zeh s many words)):=by
 have cb:=zdy (T:=T) s.b many words hm;have cc:=zdy (T:=T) s.c many words hm;have ce:=zdy (T:=T) s.e many words hm;have hlp:s.a.length≤many→Zf T 0 0 (.norm false []) l515_0 (Zhw s many words 0)=if (s.a.drop 0).any (fun r=>Zbm r many words)=true then some (.r,⟨[(6,.b true)],[],2⟩) else some (.n,⟨[],[],2⟩):=by
  intro hl;refine za0 (Zhw s many words) s.a.length (fun i=>if (s.a.drop i).any (fun r=>Zbm r many words)=true then some (.r,⟨[(6,.b true)],[],2⟩) else some (.n,⟨[],[],2⟩)) (fun i hi=>?_) ?_
  ·have hi':(i:Int)<s.a.length:=by omega
   have hws:=zbs hi (by omega);have c:=zdy (T:=T) (s.a[i]'hi) many words hm;have key:(s.a.drop i).any (fun r=>Zbm r many words)=(Zbm (s.a[i]'hi) many words || (s.a.drop (i+1)).any fun r=>Zbm r many words):=by rw[Yi hi,List.any_cons]
   generalize hq:s.a[i]'hi=q at *
   obtain⟨nm,c',a,b,e⟩:=s;cases hL:Zbm q many words with
   | true=>
    right;rw[hL]at c;rw[if_pos (by rw[key,hL,Bool.true_or])];unfold Zhw Zkj;constructor<;>simp -implicitDefEqProofs[l515_0,hi,hi',hq,c]
   | false=>
    left;rw[hL]at c;refine⟨?_,by grind⟩;unfold Zhw Zkj;simp -implicitDefEqProofs[l515_0,hi,hi',hq,hws,c]
  ·simp only[Y7,List.any_nil,Y5,if_false];unfold Zhw Zkj;constructor<;>simp -implicitDefEqProofs[l515_0]
 rw[Yaa]at hlp;unfold Zhw Zkj at hlp;unfold Zeh;rw[zab Zeg.h515 rfl,b515];obtain⟨nm,c,a,b,e⟩:=s;dsimp only at *
 by_cases h1:50<nm.length
 ·have h1':(50:Int)<nm.length:=by omega
  simp -implicitDefEqProofs[h1,h1']
 have h1':¬ (50:Int)<nm.length:=by omega
 by_cases h2:many<a.length
 ·have h2':(many:Int)<a.length:=by omega
  simp -implicitDefEqProofs[h1,h1',h2,h2']
 have h2':¬ (many:Int)<a.length:=by omega
 have hl:=hlp (by omega);generalize Zbm b many words=B1 at *
 generalize Zbm c many words=B2 at *
 generalize Zbm e many words=B3 at *
 generalize a.any (fun r=>Zbm r many words)=B4 at *
 cases B1 with
 | true=>simp -implicitDefEqProofs[h1,h1',h2,h2',cb]
 | false=>
 cases B2 with
 | true=>simp -implicitDefEqProofs[h1,h1',h2,h2',cb,cc]
 | false=>
 cases B3 with
 | true=>simp -implicitDefEqProofs[h1,h1',h2,h2',cb,cc,ce]
 | false=>
  cases B4<;>simp at hl<;>simp -implicitDefEqProofs[h1,h1',h2,h2',cb,cc,ce,hl]
def Znd(h:Hs):Box:=⟨1,.str,5,[[.sl (Zen h.l) .an,.b h.t.1,.sl (Zb h.t.2.1) .an,.sl (Zb h.t.2.2) .an,.sl (Zd h.y) .an]]⟩
def Zoc(h:Hs)(words i:Nat):St:=⟨[(2,.i .i64 words),(3,.ptr (.loc 3) 1 5 0 0),(7,.i .i64 i)],[(.loc 3,Znd h)],3⟩
theorem zqo(s:Sm)(hs:SmS s):Za T 527 [esm s]=some (esm s):=by
 have c1:=zg7 (T:=T) s.c (by have:=hs.cl;omega);have c2:=zzd (T:=T) s.a (by have:=hs.al;omega) (fun r hr=>by have:=(hs.a r hr).1;omega);have c3:=zg7 (T:=T) s.b (by have:=hs.bl;omega);have c4:=zg7 (T:=T) s.e (by have:=hs.el;omega);rw[zab Zgh.h527 rfl,b527];obtain⟨nm,c,a,b,e⟩:=s;simp -implicitDefEqProofs[c1,c2,c3,c4]
def Zo5(h:Hs)(i:Nat):St:=⟨[(1,.ptr (.loc 1) 1 5 0 0),(2,.ptr (.loc 2) 2 5 0 0),(3,.ptr (.loc 3) 3 5 0 0),(4,.i .i64 i)],
 [(.loc 1,bxH h),(.loc 2,⟨2,.str,5,[[.sl [] .an,.b false,.sl [] .an,.sl [] .an,.sl [] .an]]⟩),(.loc 3,⟨3,.str,5,[[.bs fC 4 14 0 i,.b h.t.1,.sl (Zb h.t.2.1) .an,.sl (Zb h.t.2.2) .an,.sl (Zd h.y) .an]]⟩),(fC,⟨4,.own,14,Zen (h.l.take i)⟩)],6⟩
end
end Go.Ab
end
section
namespace Go.Ab
section
variable{T:Tbl}[Z5 T][Zal T][Z1 T][Zah T][Z2 T][Zaj T][Zx T][Zai T][Zel T][Zie T]
theorem zoz(q:Rat):Za T 235 [efz (fz q)]=some (.b (decide (q=0))):=by
 have h:((fz q).2.1.length=0)↔q=0:=by
  constructor
  ·intro h;have h1:(ofN q.num.natAbs).length=0:=h;rw[Ya6]at h1;have h2:val (ofN q.num.natAbs)=0:=by rw[h1];rfl
   rw[zae]at h2;exact zq0.1 (zqz.2 (by omega))
  ·intro h;rw[h,zph]
   rfl
 rw[zab Zx.h235 rfl,b235];by_cases hz:q=0
 ·have h1:=h.2 hz;rw[decide_eq_true hz];clear h;generalize fz q=R at *
  obtain⟨r0,r1,r2⟩:=R;dsimp only at h1;have h2:r1=[]:=Ya6.1 h1;subst h2;simp -implicitDefEqProofs
 ·have h1:¬ (fz q).2.1.length=0:=fun hh=>hz (h.1 hh);rw[decide_eq_false hz];clear h;generalize fz q=R at *
  obtain⟨r0,r1,r2⟩:=R;dsimp only at h1;have h2:¬ (r1.length:Int)=0:=by omega
  have h4:r1≠[]:=fun hh=>h1 (by rw[hh];rfl);simp -implicitDefEqProofs[h1,h2,h4]
def hpP(q r:Fz):Heap:=[(.loc 2,⟨1,.str,3,[Zdi q]⟩),(.loc 4,⟨2,.str,3,[[.b false,.sl [] .an,.sl [] .an]]⟩),(.loc 6,⟨3,.str,3,[Zdi r]⟩)]
def Zpf(q r:Fz)(e:Int)(i:Nat):St:=⟨[(1,.i .i64 e),(2,.ptr (.loc 2) 1 3 0 0),(4,.ptr (.loc 4) 2 3 0 0),(6,.ptr (.loc 6) 3 3 0 0),(7,.i .i64 i)],hpP q r,5⟩
def Zpg(q r:Fz)(e:Int)(i:Nat):St:=⟨[(1,.i .i64 e),(2,.ptr (.loc 2) 1 3 0 0),(4,.ptr (.loc 4) 2 3 0 0),(6,.ptr (.loc 6) 3 3 0 0),(8,.i .i64 (-(i:Int)))],hpP q r,5⟩
end
end Go.Ab
end
section
namespace Go.Ab
theorem z9x{s:Sm}(h:SmS s):SmS (Zf6 s):=by
 have q:∀{l:List Fz},(∀x∈l,fsz x≤300)→∀x∈nrm l,fsz x≤300:=by
  intro l hl x hx;unfold nrm at hx;obtain⟨y,hy,rfl⟩:=Yab.1 hx;rw[zbe];exact zdc (hl y hy) (by decide)
 have n:∀l:List Fz,(nrm l).length=l.length:=fun l=>by unfold nrm;simp
 unfold Zf6;exact⟨h.nm,by rw[n];exact h.cl,by rw[Ya3];exact h.al,by rw[n];exact h.bl,by rw[n];exact h.el,q h.c,
  fun r hr=>by obtain⟨y,hy,rfl⟩:=Yab.1 hr;exact⟨by rw[n];exact(h.a y hy).1,q (h.a y hy).2⟩,q h.b,q h.e⟩
section
variable{T:Tbl}[Zac T][Zq T][Zw T][Zz T][Zs T][Zu T][Zn T][Zaz T][Ze T][Zl T][Zv T][Zbl T][Za5 T][Za9 T][Z5 T][Zal T][Z1 T][Z2 T][Zah T][Zaj T][Zx T][Zdt T][Zai T][Ze7 T][Zc8 T][Zaw T][Zcd T][Zc6 T][Zco T][Zb9 T][Zc2 T][Zfa T][Ze9 T][Zav T][Zbf T][Zdb T][Zem T][Zel T][Zie T][Zdu T][Zba T][Zc7 T][Zcx T][Zce T][Zez T][Zg5 T][Zg6 T][Zeg T][Zgh T][Zca T][Zad T][Zak T][Zdp T][Zcy T]
theorem zxe(s:Sm)(H:OkSm s){n:Nat}(hn:s.b.length=n+1)(kb:n<s.b.length)(kc:n<s.c.length)(ka:n<s.a.length) :
  Za T 235 [efz (s.b[n]'kb)]=some (.b (decide (fv (s.b[n]'kb)=0)))∧Za T 233 [efz (s.c[n]'kc),efz (fz 1)]=some (.b (decide (fv (s.c[n]'kc)=1))) ∧
  Za T 279 [.sl (Zd (s.a[n]'ka)) .an,.sl (Zd (s.b.take n)) .an]=some (.b (decide ((s.a[n]'ka).map fv=(s.b.take n).map fv))) ∧
  Zit s=(decide (fv (s.b[n]'kb)=0)&&(decide (fv (s.c[n]'kc)=1)&&decide ((s.a[n]'ka).map fv=(s.b.take n).map fv))):=by
 have nc:=H.cl;have na:=H.al;have n8:=H.b8;have gb:s.b[n]? = some (s.b[n]'kb):=Ya kb;have gc:s.c[n]? = some (s.c[n]'kc):=Ya kc;have ga:s.a[n]? = some (s.a[n]'ka):=Ya ka;have eb:s.b.getLast? = some (s.b[n]'kb):=by rw[Ybf,show s.b.length-1=n by omega,gb]
 have ec:s.c.getLast? = some (s.c[n]'kc):=by rw[Ybf,show s.c.length-1=n by omega,gc]
 have ea:s.a.getLast? = some (s.a[n]'ka):=by rw[Ybf,show s.a.length-1=n by omega,ga]
 have rb:=zez (Yg.1 H.nb _ (Yj kb));have rc:=zez (Yg.1 H.nc _ (Yj kc));have zc:=zbr H.nc _ (Yj kc);have za:=zf6 H.na _ (Yj ka);have la:=zbu _ _ H.sh _ (Yj ka);have d1:=zoz (T:=T) (fv (s.b[n]'kb));rw[←rb]at d1;have d3:=zb2 (T:=T) (s.c[n]'kc) (fz 1) (by omega);have d4:=zck (T:=T) (s.a[n]'ka) (s.b.take n) (by omega) (fun x hx=>Yc (za x hx) (by decide));refine⟨d1,?_,?_,?_⟩
 ·rw[d3];congr 2;rw[decide_eq_decide];constructor
  ·intro h;rw[h,zcz]
  ·intro h;rw[rc,h]
 ·rw[d4];congr 2;rw[decide_eq_decide];constructor
  ·intro h;rw[h]
  ·intro h;have r1:=zin (Yg.1 H.na _ (Yj ka));have r2:=zin (l:=s.b.take n) (Yg.2 fun x hx=>Yg.1 H.nb x (Yak hx));rw[r1,r2,h]
 ·unfold Zit;rw[eb,ec,ea,hn,Yem]
theorem zpb(hcut:∀l:List UInt8,l.length≤1000000→Za T 184 [.s l,.s [124]]=some (.tup [.s (hdC 124 l),.s (tlC 124 l),.b (l.contains 124)]))(s o:Sm):Za T 587 [esm s,esm o]=some (.b true):=by
 have w:=zo9 (T:=T) hcut;have c1:Za T 515 [esm s,.i .i64 10,.i .i64 8]=some (.b (Zeh s 10 8)):=zjy (T:=T) s 10 8 (by decide);have c2:Za T 515 [esm o,.i .i64 10,.i .i64 8]=some (.b (Zeh o 10 8)):=zjy (T:=T) o 10 8 (by decide);rw[zab Zcy.h587 rfl,b587];cases hs:Zeh s 10 8 with
 | true=>
  rw[hs]at c1;clear c2 hs hcut;obtain⟨nm,c,a,b,e⟩:=s;obtain⟨nm',c',a',b',e'⟩:=o;simp -implicitDefEqProofs[c1,w]
 | false=>
 cases ho:Zeh o 10 8 with
 | true=>
  rw[hs]at c1;rw[ho]at c2;clear hs ho hcut;obtain⟨nm,c,a,b,e⟩:=s;obtain⟨nm',c',a',b',e'⟩:=o;simp -implicitDefEqProofs[c1,c2,w]
 | false=>
 rw[hs]at c1;rw[ho]at c2;obtain⟨S,_⟩:=zgy hs (by decide) (by decide);obtain⟨O,_⟩:=zgy ho (by decide) (by decide);have t1:=zqo (T:=T) s S;have t2:=zqo (T:=T) o O;have tx:=zpa (T:=T) s S;have gp:=zj9 (T:=T) s S;have rw1:=zo6 (T:=T) s S;have sw:=zei (T:=T) s S;have sr:=zc6 (T:=T) s S;have sm:=zo7 (T:=T) s o S O;have m1:=zim (T:=T) s S;have m2:=zim (T:=T) o O;have rs:=zs1 (T:=T) (Zf6 s) (Zf6 o) (z9x S);rw[z4e]at rs;have en:=zo8 (T:=T) s S;have hz:okS s=decide (Zbu s=0):=rfl;cases hk:okS s with
 | false=>
  have hw:¬ Zbu s=0:=by rw[hk]at hz;exact of_decide_eq_false hz.symm
  have hg:Zgl s=[]:=by unfold Zgl;rw[if_neg (by rw[hk];simp)]
  rw[hk]at tx sr en;rw[hg]at gp;rw[za8]at gp;simp only[Bool.false_and,Y5,if_false]at tx en;clear hcut hs ho S O hz hk hg;generalize Zh0 s o=B1 at *
  generalize Zbu s=W at *
  generalize Zf6 s=N1 at *
  generalize Zf6 o=N2 at *
  obtain⟨nm,c,a,b,e⟩:=s;obtain⟨nm',c',a',b',e'⟩:=o;obtain⟨nm1,c1',a1',b1',e1'⟩:=N1;obtain⟨nm2,c2',a2',b2',e2'⟩:=N2;simp -implicitDefEqProofs[c1,c2,w,t1,t2,tx,gp,rw1,sw,sr,sm,m1,m2,rs,en,hw]
 | true=>
 obtain⟨H,hw0⟩:=zf5 hk;have n1:=H.b1;have n8:=H.b8;have nc:=H.cl;have na:=H.al;obtain⟨n,hn⟩:∃n,s.b.length=n+1:=⟨s.b.length-1,by omega⟩;have kb:n<s.b.length:=by omega
 have kc:n<s.c.length:=by omega
 have ka:n<s.a.length:=by omega
 have gb:s.b[n]? = some (s.b[n]'kb):=Ya kb;have gc:s.c[n]? = some (s.c[n]'kc):=Ya kc;have ga:s.a[n]? = some (s.a[n]'ka):=Ya ka;have d2:=zj3 (T:=T);obtain⟨d1,d3,d4,hE⟩:=zxe (T:=T) s H hn kb kc ka;have w1:IntKind.wrap .i64 ((s.b.length:Int)-1)=(n:Int):=by rw[zac _ (by omega)];omega
 have kb':(n:Int)<s.b.length:=by omega
 have kc':(n:Int)<s.c.length:=by omega
 have ka':(n:Int)<s.a.length:=by omega
 have kb2:(n:Int)≤s.b.length:=by omega
 have kb3:n≤s.b.length:=by omega
 have r30:=zs6 (T:=T) s S hk;have L0:=fun h=>zxc (T:=T) s (textS s) (Zgl s) h;have L1:=fun h=>zxd (T:=T) s (textS s) (Zgl s) n8 h n1 H.nb H.ne;have hG1:s.e≠[]→Zgl s=Zbw s.b s.e:=fun h=>by unfold Zgl;rw[if_pos ⟨hk,h⟩]
 have hG0:s.e=[]→Zgl s=[]:=fun h=>by unfold Zgl;rw[if_neg (fun q=>q.2 h)]
 have hel:=H.el;have lis:s.e.length=s.b.length→Za T 289 [.sl (Zd (Zbw s.b s.e)) .an,.sl (Zd (Zbw s.b s.e)) .an]=some (.b true):=fun h=>by
  have q:=zqk (T:=T) (Zbw s.b s.e) (Zbw s.b s.e) (by unfold Zbw fzs Zfo Zc9;simp;omega) (fun x hx=>by
   unfold Zbw fzs at hx;obtain⟨q,hq,rfl⟩:=Yab.1 hx;rw[zbe];have hb:∀q∈s.b.map fv,sz q≤6:=fun q hq=>by obtain⟨x,hx,rfl⟩:=Yab.1 hq;exact zdc (zbr H.nb x hx) (by decide)
   have he:∀q∈s.e.map fv,sz q≤6:=fun q hq=>by obtain⟨x,hx,rfl⟩:=Yab.1 hq;exact zdc (zbr H.ne x hx) (by decide)
   have hc:sz ((-1:Int):Rat)≤1:=zvq (by decide) (by decide);have:=z43 hb (zx8 hc he) q hq;omega)
  rwa [decide_eq_true rfl]at q
 have li0:Za T 289 [.sl [] .an,.sl [] .an]=some (.b true):=by
  have q:=zqk (T:=T) [] [] (by simp) (by simp)
  rwa [decide_eq_true rfl]at q
 rw[hE]at en;rw[hk]at tx sr en;rw[hw0]at rw1 sw;simp only[if_true,Yd3]at tx en;clear hcut hs ho S O hz hk H hE n1 n8 nc na;generalize Zh0 s o=B1 at *
 generalize hxb:s.b[n]'kb=xb at *
 generalize hxc:s.c[n]'kc=xc at *
 generalize hxa:s.a[n]'ka=xa at *
 generalize decide (fv xb=0)=D1 at *
 generalize decide (fv xc=1)=D2 at *
 generalize decide (xa.map fv=(s.b.take n).map fv)=D3 at *
 generalize fz 1=z1 at *
 generalize Zf6 s=N1 at *
 generalize Zf6 o=N2 at *
 generalize textS s=M at *
 by_cases h0:s.e=[]
 ·have hl:=L0 h0;rw[hG0 h0]at gp hl;unfold Ziv Zd8 at hl;rw[za8]at gp hl;clear L0 L1 hG1 hG0 lis hel;obtain⟨nm,c,a,b,e⟩:=s;obtain⟨nm',c',a',b',e'⟩:=o;obtain⟨nm1,c1',a1',b1',e1'⟩:=N1;obtain⟨nm2,c2',a2',b2',e2'⟩:=N2;obtain⟨x1,x2,x3⟩:=xb;obtain⟨v1,v2,v3⟩:=xc;obtain⟨y1,y2,y3⟩:=z1;unfold esm at *
  dsimp only at *
  subst h0;rw[za8]at *
  cases D1 with
  | false=>simp -implicitDefEqProofs[c1,c2,w,t1,t2,tx,gp,rw1,sw,sr,sm,m1,m2,rs,en,hl,w1,d1,d2,d3,d4,r30,li0,kb,kc,ka,kb',kc',ka',kb2,kb3,gb,gc,ga,hxb,hxc,hxa,zcv]
  | true=>
  cases D2 with
  | false=>simp -implicitDefEqProofs[c1,c2,w,t1,t2,tx,gp,rw1,sw,sr,sm,m1,m2,rs,en,hl,w1,d1,d2,d3,d4,r30,li0,kb,kc,ka,kb',kc',ka',kb2,kb3,gb,gc,ga,hxb,hxc,hxa,zcv]
  | true=>
  cases D3<;>simp -implicitDefEqProofs[c1,c2,w,t1,t2,tx,gp,rw1,sw,sr,sm,m1,m2,rs,en,hl,w1,d1,d2,d3,d4,r30,li0,kb,kc,ka,kb',kc',ka',kb2,kb3,gb,gc,ga,hxb,hxc,hxa,zcv]
 ·have he:s.e.length=s.b.length:=by
   rcases hel with h | h
   ·exact h
   ·exact absurd (Ya6.1 h) h0
  have hl:=L1 he;rw[hG1 h0]at gp hl;replace lis:=lis he;rw[z9v]at hl;unfold Ziv Zd8 at hl;clear L0 L1 hG1 hG0 hel li0;have hwl:(Zbw s.b s.e).length=s.b.length:=by unfold Zbw fzs Zfo Zc9;simp[he]
  have htk:List.take s.b.length (Zd (Zbw s.b s.e))=Zd (Zbw s.b s.e):=Yb (by rw[zpi];omega);have htk2:List.take s.b.length (Zbw s.b s.e)=Zbw s.b s.e:=Yb (by omega);generalize Zbw s.b s.e=G at *
  obtain⟨nm,c,a,b,e⟩:=s;obtain⟨nm',c',a',b',e'⟩:=o;obtain⟨nm1,c1',a1',b1',e1'⟩:=N1;obtain⟨nm2,c2',a2',b2',e2'⟩:=N2;obtain⟨x1,x2,x3⟩:=xb;obtain⟨v1,v2,v3⟩:=xc;obtain⟨y1,y2,y3⟩:=z1;dsimp only at *
  cases D1 with
  | false=>simp -implicitDefEqProofs[c1,c2,w,t1,t2,tx,gp,rw1,sw,sr,sm,m1,m2,rs,en,hl,w1,d1,d2,d3,d4,r30,lis,hwl,htk,htk2,h0,kb,kc,ka,kb',kc',ka',kb2,kb3,gb,gc,ga,hxb,hxc,hxa,zcv]
  | true=>
  cases D2 with
  | false=>simp -implicitDefEqProofs[c1,c2,w,t1,t2,tx,gp,rw1,sw,sr,sm,m1,m2,rs,en,hl,w1,d1,d2,d3,d4,r30,lis,hwl,htk,htk2,h0,kb,kc,ka,kb',kc',ka',kb2,kb3,gb,gc,ga,hxb,hxc,hxa,zcv]
  | true=>
  cases D3<;>simp -implicitDefEqProofs[c1,c2,w,t1,t2,tx,gp,rw1,sw,sr,sm,m1,m2,rs,en,hl,w1,d1,d2,d3,d4,r30,lis,hwl,htk,htk2,h0,kb,kc,ka,kb',kc',ka',kb2,kb3,gb,gc,ga,hxb,hxc,hxa,zcv]
end
end Go.Ab
end
section
namespace Go.Ab
section
variable{T:Tbl}[Zac T][Zq T][Zw T][Zz T][Zs T][Zu T][Zn T][Zaz T][Ze T][Zl T][Zv T][Zbl T][Za5 T][Za9 T][Z5 T][Zal T][Z1 T][Z2 T][Zah T][Zaj T][Zx T][Zdt T][Zai T][Ze7 T][Zc8 T][Zaw T][Zcd T][Zc6 T][Zco T][Zb9 T][Zc2 T][Zfa T][Ze9 T][Zav T][Zbf T][Zdb T][Zem T][Zel T][Zie T][Zdu T][Zba T][Zc7 T][Zcx T][Zce T][Zez T][Zg5 T][Zg6 T][Zeg T][Zgh T][Zca T][Zad T][Zak T][Zdp T][Zcy T]
theorem zjd(s o:Sm):Za T 587 [esm s,esm o]=some (.b true):=
 zpb (T:=T) (fun l h=>by rw[p184,zkh l h];rfl) s o
end
end Go.Ab
end