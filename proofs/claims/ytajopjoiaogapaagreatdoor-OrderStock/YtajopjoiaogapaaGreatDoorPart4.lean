/-
  A calculus of values, boxes and code, and what functions of the program compute, proved in it.
  Conditions: none beyond those that the theorems state. (Part 4.)
-/
import Derived.Test.YtajopjoiaogapaaGreatDoorPart3
import Derived.Lib.IndexAny
import Derived.Lib.Bytealg

set_option linter.unusedSectionVars false
set_option linter.unusedVariables false
set_option linter.unusedSimpArgs false
set_option linter.unnecessarySimpa false

namespace Go.Ab
theorem zit{m:List UInt32}{j:Nat}(w:UInt32):(List.replicate (j+1) 0++m).set j w=List.replicate j 0++w::m:=by
 rw[List.set_append_left j w (by simp),List.replicate_succ',List.set_append_right j w (by simp)]
 simp
theorem ziu{m:List UInt32}{j:Nat}:(List.replicate (j+1) (0:UInt32)++m)[j]? = some 0:=by
 rw[List.getElem?_append_left (by simp),List.getElem?_replicate,if_pos (by omega)]
section
variable{T:Tbl}[CNat T][CTwos T][CProd T][CQuot T]
def stWd(a:List UInt32)(x:Nat)(y:Nat×Nat×List UInt32):St:=
 ⟨[(0,.sl (u32s a) .an),(1,u32 x),(4,.bs (.loc 12) 1 1 0 a.length),(5,u32 y.2.1),(7,.i .i64 ((y.1:Int)-1))],[(.loc 12,⟨1,.own,1,u32s (List.replicate y.1 0++y.2.2)⟩)],3⟩
end
section
variable{T:Tbl}[CNat T]
theorem zyj(a:List UInt32)(x:Nat)(hx:x<4294967296)(hl:a.length≤1000000):∀y:Nat×Nat×List UInt32,
  (y.1≤a.length∧y.2.1<x∧y.2.2.length=a.length-y.1∧val (a.drop y.1)=x*val y.2.2+y.2.1) →
  ∃r,(∃(c:Nat) (m:List UInt32),r=(Ex.n,(⟨[(4,.bs (.loc 12) 1 1 0 a.length),(5,u32 c)],[(.loc 12,⟨1,.own,1,u32s m⟩)],3⟩:St)) ∧
   m.length=a.length∧c<x∧val a=x*val m+c)∧loopN T 0 0 (.norm false [4,5]) l90_0 (stWd a x y)=some r:=by
 refine zax _ _ (fun y=>y.1) _ ?_
 rintro⟨k,c,m⟩ ⟨hk,hc,hm,hv⟩
 simp only at hk hc hm hv
 cases k with
 | zero=>
  right
  refine⟨_,⟨c,m,rfl,by omega,hc,hv⟩,?_,?_⟩<;>simp -implicitDefEqProofs[l90_0,stWd]
 | succ j=>
  left
  have hja:j<a.length:=by omega
  have hy:=zal (a[j]'hja)
  have hd:=List.drop_eq_getElem_cons hja
  have hw:IntKind.wrap .i64 ((j:Int)-1)=(j:Int)-1:=zab _ (by omega)
  have hs:=zit (m:=m) (j:=j) (w32 ((c*4294967296+(a[j]'hja).toNat)/x))
  have hq:(c*4294967296+(a[j]'hja).toNat)/x<4294967296:=by
   refine Nat.div_lt_of_lt_mul ?_
   omega
  have hdv:=zkl (T:=T) c (a[j]'hja).toNat x hc hy hx
  refine⟨(j,(c*4294967296+(a[j]'hja).toNat)%x,w32 ((c*4294967296+(a[j]'hja).toNat)/x)::m),⟨by omega,Nat.mod_lt _ (by omega),by grind,?_⟩,Nat.lt_succ_self j,?_⟩
  ·grind[zap,zah,Nat.div_add_mod]
  ·simp -implicitDefEqProofs[l90_0,stWd,hja,hw,hs,ziu,hdv,zbh _ _ _ hq]
end
section
variable{T:Tbl}[CNat T][CQuot T]
theorem zr9(a:List UInt32)(x:Nat)(hx:x<4294967296)(h0:0<x)(hl:a.length≤1000000) :
  callF T 90 [.sl (u32s a) .an,u32 x]=some (.tup [.sl (u32s (ofN (val a/x))) .an,u32 (val a%x),.b true]):=by
 obtain⟨_,⟨c,m,rfl,hm,hc,hv⟩,hr⟩:=zyj (T:=T) a x hx hl (a.length,0,[]) ⟨Nat.le_refl _,h0,by simp,by rw[List.drop_length,zbl,Nat.mul_zero,Nat.zero_add]⟩
 have e1:val a/x=val m:=by grind[Nat.mul_add_div,Nat.div_eq_of_lt]
 have e2:val a%x=c:=by rw[hv,Nat.mul_add_mod,Nat.mod_eq_of_lt hc]
 have hnm:=za4 (T:=T) m (by omega)
 unfold stWd at hr
 simp at hr
 have hx0:x≠0:=by omega
 have w1:IntKind.wrap .i64 ((a.length:Int)-1)=(a.length:Int)-1:=zab _ (by omega)
 have p1:(a.length:Int)≤4294967296:=by omega
 have htk:List.take a.length m=m:=List.take_of_length_le (by omega)
 rw[e1,e2,f90 _ rfl,b90]
 simp -implicitDefEqProofs[hr,hx0,w1,p1,htk,hm,hnm]
end
section
variable{T:Tbl}[CNat T][CTwos T][CProd T][CQuot T]
theorem zkw{p M w X s t y v D D':Nat}(h:M+X*t=s+p*D)(e:w+X*y+D=v+4294967296*D'):(M+p*w)+X*(t+p*y)=(s+p*v)+p*4294967296*D':=by
 grind
def stTk(P S b:List UInt32)(x:Nat)(y:Nat×(Nat×Nat)×List UInt32):St:=
 ⟨[(0,.bs (.bor 0) 0 1 0 (P.length+S.length)),(1,.i .i64 P.length),(2,.sl (u32s b) .an),(3,u32 x),(9,u32 y.2.1.1),(10,u32 y.2.1.2),(15,.sl (u32s b) .an),(16,.i .i64 b.length),(17,.i .i64 y.1)],
  [(.bor 0,⟨0,.own,1,u32s (P++(y.2.2++S.drop y.1))⟩)],4⟩
end
section
variable{T:Tbl}[CNat T]
theorem zyk(P S b:List UInt32)(x:Nat)(hx:x<4294967296)(hS:b.length<S.length)(hl:P.length+S.length≤1000000):∀y:Nat×(Nat×Nat)×List UInt32,
  (y.1≤b.length∧y.2.1.1<4294967296∧y.2.1.2≤1∧y.2.2.length=y.1∧val y.2.2+x*val (b.take y.1)=val (S.take y.1)+4294967296^y.1*(y.2.1.2+y.2.1.1)) →
  ∃r,(∃(C B:Nat) (m:List UInt32),r=(Ex.n,(⟨[(0,.bs (.bor 0) 0 1 0 (P.length+S.length)),(1,.i .i64 P.length),(2,.sl (u32s b) .an),(9,u32 C),(10,u32 B)],[(.bor 0,⟨0,.own,1,u32s (P++(m++S.drop b.length))⟩)],4⟩:St)) ∧
   C<4294967296∧B≤1∧m.length=b.length∧val m+x*val b=val (S.take b.length)+4294967296^b.length*(B+C))∧loopN T 1 0 (.norm false [0,1,2,9,10]) l120_0 (stTk P S b x y)=some r:=by
 refine zax _ _ (fun y=>b.length-y.1) _ ?_
 rintro⟨i,⟨C,B⟩,m⟩ ⟨hi,hC,hB,hm,hv⟩
 simp only at hi hC hB hm hv
 by_cases h0:i<b.length
 ·left
  have hb:b[i]? = some (b[i]'h0):=List.getElem?_eq_getElem h0
  have hiS:i<S.length:=by omega
  have hs:S[i]? = some (S[i]'hiS):=List.getElem?_eq_getElem hiS
  have hg:=ze4 (P:=P) hm hiS
  have hw:IntKind.wrap .i64 ((i:Int)+1)=((i+1:Nat):Int):=zab _ (by omega)
  have hw2:IntKind.wrap .i64 ((P.length:Int)+i)=((P.length+i:Nat):Int):=zab _ (by omega)
  have hlt2:(P.length:Int)+i<(P.length:Int)+S.length:=by omega
  have hlb:=zal (b[i]'h0)
  have hls:=zal (S[i]'hiS)
  have hmul:=zgp hx hlb
  have c1:=zgq (T:=T) x (b[i]'h0).toNat C 0 hx hlb hC (by decide)
  rw[Nat.add_zero]at c1
  obtain⟨lo,hlo⟩:∃lo,lo=(x*(b[i]'h0).toNat+C)%4294967296:=⟨_,rfl⟩
  obtain⟨C',hC'⟩:∃C',C'=(x*(b[i]'h0).toNat+C)/4294967296:=⟨_,rfl⟩
  rw[←hlo,←hC']at c1
  have c2:=zel (T:=T) (S[i]'hiS).toNat lo B hls (by omega) (by omega)
  obtain⟨w,hwd⟩:∃w,w=((S[i]'hiS).toNat+8589934592-(lo+B))%4294967296:=⟨_,rfl⟩
  obtain⟨B',hB'⟩:∃B',B'=2-((S[i]'hiS).toNat+8589934592-(lo+B))/4294967296:=⟨_,rfl⟩
  rw[←hwd,←hB']at c2
  have hwl:w<4294967296:=by omega
  have hset:=ze5 (P:=P) (w32 w) hm hiS
  refine⟨(i+1,(C',B'),m++[w32 w]),⟨h0,by grind,by simp only;omega,by grind,?_⟩,by omega,?_⟩
  ·simp only
   rw[zai,zaf hb,zaf hs,Nat.pow_succ,hm,zap,zbl,Nat.mul_zero,Nat.add_zero,zah hwl]
   exact zkw hv (by omega)
  ·simp -implicitDefEqProofs[l120_0,stTk,h0,hw,hw2,hlt2,hg,c1,c2,hset,zbh _ _ _ hwl]
 ·right
  have:i=b.length:=by omega
  subst this
  rw[List.take_of_length_le (Nat.le_refl b.length)]at hv
  refine⟨_,⟨C,B,m,rfl,hC,hB,hm,hv⟩,?_,?_⟩<;>simp -implicitDefEqProofs[l120_0,stTk]
end
section
variable{T:Tbl}[CNat T][CQuot T]
theorem zsa(P S b:List UInt32)(x:Nat)(hx:x<4294967296)(hS:b.length<S.length)(hl:P.length+S.length≤1000000) :
  ∃(B:Nat) (m:List UInt32),B≤1∧m.length=b.length+1∧val m+x*val b=val (S.take (b.length+1))+4294967296^(b.length+1)*B ∧
   callH T 120 [.bs (.bor 0) 0 1 0 (P.length+S.length),.i .i64 P.length,.sl (u32s b) .an,u32 x] [(.bor 0,⟨0,.own,1,u32s (P++S)⟩)] =
    some (.b (decide (0<B)),[(.bor 0,⟨0,.own,1,u32s (P++(m++S.drop (b.length+1)))⟩)]):=by
 obtain⟨_,⟨C,B,m,rfl,hC,hB,hm,hv⟩,hr⟩:=zyk (T:=T) P S b x hx hS hl (0,(0,0),[]) ⟨Nat.zero_le _,Nat.zero_lt_succ _,Nat.zero_le _,rfl,by simp⟩
 unfold stTk at hr
 simp at hr
 have hs:S[b.length]? = some (S[b.length]'hS):=List.getElem?_eq_getElem hS
 have hls:=zal (S[b.length]'hS)
 have hg:=ze4 (P:=P) hm hS
 have hw2:IntKind.wrap .i64 ((P.length:Int)+b.length)=((P.length+b.length:Nat):Int):=zab _ (by omega)
 have hlt2:(P.length:Int)+b.length<(P.length:Int)+S.length:=by omega
 have c2:=zel (T:=T) (S[b.length]'hS).toNat C B hls hC (by omega)
 obtain⟨w,hwd⟩:∃w,w=((S[b.length]'hS).toNat+8589934592-(C+B))%4294967296:=⟨_,rfl⟩
 obtain⟨B',hB'⟩:∃B',B'=2-((S[b.length]'hS).toNat+8589934592-(C+B))/4294967296:=⟨_,rfl⟩
 rw[←hwd,←hB']at c2
 have hwl:w<4294967296:=by omega
 have hset:=ze5 (P:=P) (w32 w) hm hS
 refine⟨B',m++[w32 w],by omega,by grind,?_,?_⟩
 ·rw[zai,zaf hs,Nat.pow_succ,hm,zap,zbl,Nat.mul_zero,Nat.add_zero,zah hwl]
  have:=zkw (y:=0) (w:=w) (v:=(S[b.length]'hS).toNat) (D':=B') hv (by omega)
  omega
 ·rw[f120 _ _ rfl,b120]
  simp -implicitDefEqProofs[hr,hw2,hlt2,hg,c2,hset,zbh _ _ _ hwl]
end
section
variable{T:Tbl}[CNat T][CTwos T][CProd T][CQuot T]
theorem zkx{p M w s t y v D D':Nat}(h:M+p*D=s+t)(e:w+4294967296*D'=v+y+D):(M+p*w)+p*4294967296*D'=(s+p*v)+(t+p*y):=by
 grind
def stGv(P S b:List UInt32)(y:Nat×Nat×List UInt32):St:=
 ⟨[(0,.bs (.bor 0) 0 1 0 (P.length+S.length)),(1,.i .i64 P.length),(2,.sl (u32s b) .an),(6,u32 y.2.1),(9,.sl (u32s b) .an),(10,.i .i64 b.length),(11,.i .i64 y.1)],
  [(.bor 0,⟨0,.own,1,u32s (P++(y.2.2++S.drop y.1))⟩)],4⟩
end
section
variable{T:Tbl}[CNat T]
theorem zyl(P S b:List UInt32)(hS:b.length<S.length)(hl:P.length+S.length≤1000000):∀y:Nat×Nat×List UInt32,
  (y.1≤b.length∧y.2.1≤1∧y.2.2.length=y.1∧val y.2.2+4294967296^y.1*y.2.1=val (S.take y.1)+val (b.take y.1)) →
  ∃r,(∃(C:Nat) (m:List UInt32),r=(Ex.n,(⟨[(0,.bs (.bor 0) 0 1 0 (P.length+S.length)),(1,.i .i64 P.length),(2,.sl (u32s b) .an),(6,u32 C)],[(.bor 0,⟨0,.own,1,u32s (P++(m++S.drop b.length))⟩)],4⟩:St)) ∧
   C≤1∧m.length=b.length∧val m+4294967296^b.length*C=val (S.take b.length)+val b)∧loopN T 1 0 (.norm false [0,1,2,6]) l121_0 (stGv P S b y)=some r:=by
 refine zax _ _ (fun y=>b.length-y.1) _ ?_
 rintro⟨i,C,m⟩ ⟨hi,hC,hm,hv⟩
 simp only at hi hC hm hv
 by_cases h0:i<b.length
 ·left
  have hb:b[i]? = some (b[i]'h0):=List.getElem?_eq_getElem h0
  have hiS:i<S.length:=by omega
  have hs:S[i]? = some (S[i]'hiS):=List.getElem?_eq_getElem hiS
  have hg:=ze4 (P:=P) hm hiS
  have hw:IntKind.wrap .i64 ((i:Int)+1)=((i+1:Nat):Int):=zab _ (by omega)
  have hw2:IntKind.wrap .i64 ((P.length:Int)+i)=((P.length+i:Nat):Int):=zab _ (by omega)
  have hlt2:(P.length:Int)+i<(P.length:Int)+S.length:=by omega
  have hlb:=zal (b[i]'h0)
  have hls:=zal (S[i]'hiS)
  have c2:=zdh (T:=T) (S[i]'hiS).toNat (b[i]'h0).toNat C hls hlb (by omega)
  obtain⟨w,hwd⟩:∃w,w=((S[i]'hiS).toNat+(b[i]'h0).toNat+C)%4294967296:=⟨_,rfl⟩
  obtain⟨C',hC'⟩:∃C',C'=((S[i]'hiS).toNat+(b[i]'h0).toNat+C)/4294967296:=⟨_,rfl⟩
  rw[←hwd,←hC']at c2
  have hwl:w<4294967296:=by omega
  have hset:=ze5 (P:=P) (w32 w) hm hiS
  refine⟨(i+1,C',m++[w32 w]),⟨h0,by grind,by grind,?_⟩,by omega,?_⟩
  ·simp only
   rw[zai,zaf hb,zaf hs,Nat.pow_succ,hm,zap,zbl,Nat.mul_zero,Nat.add_zero,zah hwl]
   exact zkx hv (by omega)
  ·simp -implicitDefEqProofs[l121_0,stGv,h0,hw,hw2,hlt2,hg,c2,hset,zbh _ _ _ hwl]
 ·right
  have:i=b.length:=by omega
  subst this
  rw[List.take_of_length_le (Nat.le_refl b.length)]at hv
  refine⟨_,⟨C,m,rfl,hC,hm,hv⟩,?_,?_⟩<;>simp -implicitDefEqProofs[l121_0,stGv]
end
section
variable{T:Tbl}[CNat T][CQuot T]
theorem zsb(P S b:List UInt32)(hS:b.length<S.length)(hl:P.length+S.length≤1000000) :
  ∃(D:Nat) (m:List UInt32),D≤1∧m.length=b.length+1∧val m+4294967296^(b.length+1)*D=val (S.take (b.length+1))+val b ∧
   callH T 121 [.bs (.bor 0) 0 1 0 (P.length+S.length),.i .i64 P.length,.sl (u32s b) .an] [(.bor 0,⟨0,.own,1,u32s (P++S)⟩)] =
    some (.tup [],[(.bor 0,⟨0,.own,1,u32s (P++(m++S.drop (b.length+1)))⟩)]):=by
 obtain⟨_,⟨C,m,rfl,hC,hm,hv⟩,hr⟩:=zyl (T:=T) P S b hS hl (0,0,[]) ⟨Nat.zero_le _,Nat.zero_le _,rfl,by simp⟩
 unfold stGv at hr
 simp at hr
 have hs:S[b.length]? = some (S[b.length]'hS):=List.getElem?_eq_getElem hS
 have hls:=zal (S[b.length]'hS)
 have hg:=ze4 (P:=P) hm hS
 have hw2:IntKind.wrap .i64 ((P.length:Int)+b.length)=((P.length+b.length:Nat):Int):=zab _ (by omega)
 have hlt2:(P.length:Int)+b.length<(P.length:Int)+S.length:=by omega
 obtain⟨w,hwd⟩:∃w,w=((S[b.length]'hS).toNat+C)%4294967296:=⟨_,rfl⟩
 have hwl:w<4294967296:=by omega
 have hset:=ze5 (P:=P) (w32 w) hm hS
 refine⟨((S[b.length]'hS).toNat+C)/4294967296,m++[w32 w],by omega,by grind,?_,?_⟩
 ·rw[zai,zaf hs,Nat.pow_succ,hm,zap,zbl,Nat.mul_zero,Nat.add_zero,zah hwl]
  have:=zkx (y:=0) (w:=w) (v:=(S[b.length]'hS).toNat) (D':=((S[b.length]'hS).toNat+C)/4294967296) hv (by omega)
  omega
 ·rw[f121 _ _ rfl,b121]
  simp -implicitDefEqProofs[hr,hw2,hlt2,hg,←hwd,hset,zbh _ _ _ hwl]
end
theorem zgo(q b1 b0:Nat):q*(b1*4294967296+b0)=q*b1*4294967296+q*b0:=by
 rw[Nat.mul_add q,←Nat.mul_assoc q]
theorem zim{a2 a1 a0 b1 b0 q r:Nat}(h:q*b1+r=a2*4294967296+a1)(hle:q*b0≤r*4294967296+a0) :
  q*(b1*4294967296+b0)≤(a2*4294967296+a1)*4294967296+a0:=by
 refine Nat.le_trans (Nat.le_of_eq (zgo q b1 b0)) ?_
 revert h hle
 generalize q*b1=u
 generalize q*b0=v
 omega
theorem zui{a2 a1 a0 b1 b0 q r:Nat}(h:q*b1+r=a2*4294967296+a1)(hgt:r*4294967296+a0<q*b0) :
  (a2*4294967296+a1)*4294967296+a0<q*(b1*4294967296+b0):=by
 refine Nat.lt_of_lt_of_eq ?_ (zgo q b1 b0).symm
 revert h hgt
 generalize q*b1=u
 generalize q*b0=v
 omega
theorem zrj{q b0 r a0:Nat}(h0:a0<4294967296):(q*b0/4294967296<r∨q*b0/4294967296=r∧q*b0%4294967296≤a0)↔q*b0≤r*4294967296+a0:=by
 generalize q*b0=m
 omega
section
variable{T:Tbl}[CNat T][CTwos T][CProd T][CQuot T]
def stGs(a0 b1 b0:Nat)(y:Nat×Nat):St:=⟨[(2,u32 a0),(3,u32 b1),(4,u32 b0),(11,u32 y.1),(12,u32 y.2)],[],2⟩
end
section
variable{T:Tbl}[CNat T]
theorem zrk(a2 a1 a0 b1 b0 g:Nat)(h0:a0<4294967296)(hb1:b1<4294967296)(hb0:b0<4294967296)
  (F1:∀q,q<4294967296→g≤q→q*(b1*4294967296+b0)≤(a2*4294967296+a1)*4294967296+a0→q=g)
  (F2:∀q,(a2*4294967296+a1)*4294967296+a0<q*(b1*4294967296+b0)→g<q):∀y:Nat×Nat,
  (y.1<4294967296∧y.2<4294967296∧y.1*b1+y.2=a2*4294967296+a1∧g≤y.1) →
  ∃r,(r=(Ex.n,(⟨[(11,u32 g)],[],2⟩:St)))∧loopN T 0 0 (.norm false [11]) l119_0 (stGs a0 b1 b0 y)=some r:=by
 refine zax _ _ (fun y=>y.1) _ ?_
 rintro⟨q,r⟩ ⟨hq,hr,hv,hg⟩
 simp only at hq hr hv hg
 have c1:=zgq (T:=T) q b0 0 0 hq hb0 (by decide) (by decide)
 have c2:=zdh (T:=T) r b1 0 hr hb1 (by decide)
 rw[Nat.add_zero]at c1
 rw[Nat.add_zero]at c2
 have hcmp:=zrj (q:=q) (b0:=b0) (r:=r) h0
 obtain⟨hi,hhi⟩:∃hi,hi=q*b0/4294967296:=⟨_,rfl⟩
 obtain⟨lo,hlo⟩:∃lo,lo=q*b0%4294967296:=⟨_,rfl⟩
 rw[←hhi,←hlo]at c1 hcmp
 have hlol:lo<4294967296:=by omega
 have hhil:hi<4294967296:=by
  have:=zgp hq hb0
  omega
 by_cases hle:q*b0≤r*4294967296+a0
 ·right
  have hqg:=F1 q hq hg (zim hv hle)
  subst hqg
  have hc:=hcmp.2 hle
  clear hhi hlo
  rcases hc with hc | ⟨rfl,hc2⟩
  ·refine⟨_,rfl,?_,?_⟩<;>simp -implicitDefEqProofs[l119_0,stGs,c1,hc]
  ·refine⟨_,rfl,?_,?_⟩<;>simp -implicitDefEqProofs[l119_0,stGs,c1,hc2]
 ·have hgt:r*4294967296+a0<q*b0:=by omega
  have hlt:=F2 q (zui hv hgt)
  have hc:¬ (hi<r∨hi=r∧lo≤a0):=fun h=>hle (hcmp.1 h)
  have hq1:q-1<4294967296:=by omega
  have hs:sub32 q 1=q-1:=by unfold sub32;omega
  have hqb:(q-1)*b1+(r+b1)=a2*4294967296+a1:=by
   have:q*b1=(q-1)*b1+b1:=by
    rw[←Nat.succ_mul]
    congr 1
    omega
   omega
  by_cases hcar:4294967296≤r+b1
  ·right
   have hmul:=zgp hq1 hb0
   have hqg:=F1 (q-1) hq1 (by omega) (zim hqb (by
    generalize (q-1)*b0=v at *
    omega))
   have m2:0<(r+b1)/4294967296:=Nat.div_pos hcar (by decide)
   have m3:(r+b1)/4294967296<4294967296:=by omega
   have hr2:¬ hi<r:=fun h=>hc (.inl h)
   clear hhi hlo
   refine⟨_,rfl,?_,?_⟩<;>by_cases he:hi=r
   ·have hc3:¬ lo≤a0:=fun h=>hc (.inr ⟨he,h⟩)
    subst he
    simp -implicitDefEqProofs[l119_0,stGs,c1,c2,hs,hc3,m2]
   ·simp -implicitDefEqProofs[l119_0,stGs,c1,c2,hs,hr2,he,m2]
   ·have hc3:¬ lo≤a0:=fun h=>hc (.inr ⟨he,h⟩)
    subst he
    simp -implicitDefEqProofs[l119_0,stGs,c1,c2,hs,hc3,m2,hqg]
   ·simp -implicitDefEqProofs[l119_0,stGs,c1,c2,hs,hr2,he,m2,hqg]
  ·left
   refine⟨(q-1,r+b1),⟨hq1,by simp only;omega,hqb,by simp only;omega⟩,by simp only;omega,?_⟩
   have m1:(r+b1)%4294967296=r+b1:=Nat.mod_eq_of_lt (by omega)
   have m2:(r+b1)/4294967296=0:=Nat.div_eq_of_lt (by omega)
   rw[m1,m2]at c2
   have hr2:¬ hi<r:=fun h=>hc (.inl h)
   clear hhi hlo
   by_cases he:hi=r
   ·have hc3:¬ lo≤a0:=fun h=>hc (.inr ⟨he,h⟩)
    subst he
    simp -implicitDefEqProofs[l119_0,stGs,c1,c2,hs,hc3]
   ·simp -implicitDefEqProofs[l119_0,stGs,c1,c2,hs,hr2,he]
end
section
variable{T:Tbl}[CNat T][CTwos T][CProd T][CQuot T]
theorem zx0{n two:Nat}(h:0<two):(∀q,q<4294967296→min 4294967295 (n/two)≤q→q*two≤n→q=min 4294967295 (n/two))∧(∀q,n<q*two→min 4294967295 (n/two)<q):=by
 constructor
 ·intro q hq hg hle
  have:=(Nat.le_div_iff_mul_le h).2 hle
  omega
 ·intro q hlt
  have:=(Nat.div_lt_iff_lt_mul h).2 hlt
  omega
theorem zuj{A a0 b1 b0:Nat}(h0:a0<4294967296)(hp:0<b1):A*4294967296+a0<(A/b1+1)*(b1*4294967296+b0):=by
 have h1:A<(A/b1+1)*b1:=by rw[Nat.mul_comm];exact Nat.lt_mul_div_succ A hp
 refine Nat.lt_of_lt_of_eq ?_ (zgo (A/b1+1) b1 b0).symm
 generalize (A/b1+1)*b1=u at *
 generalize (A/b1+1)*b0=v at *
 omega
end
section
variable{T:Tbl}[CNat T][CQuot T]
theorem zow(a2 a1 a0 b1 b0:Nat)(h2:a2<4294967296)(h1:a1<4294967296)(h0:a0<4294967296)(hb1:b1<4294967296)(hb0:b0<4294967296)(hp:0<b1) :
  callF T 119 [u32 a2,u32 a1,u32 a0,u32 b1,u32 b0]=some (u32 (min 4294967295 (((a2*4294967296+a1)*4294967296+a0)/(b1*4294967296+b0)))):=by
 obtain⟨F1,F2⟩:=zx0 (n:=(a2*4294967296+a1)*4294967296+a0) (two:=b1*4294967296+b0) (by omega)
 have hgle:=Nat.min_le_left 4294967295 (((a2*4294967296+a1)*4294967296+a0)/(b1*4294967296+b0))
 generalize min 4294967295 (((a2*4294967296+a1)*4294967296+a0)/(b1*4294967296+b0))=g at *
 by_cases hlt:a2<b1
 ·have hd:=zkl (T:=T) a2 a1 b1 hlt h1 hb1
  have hql:(a2*4294967296+a1)/b1<4294967296:=zv5 hlt h1
  have hrl:(a2*4294967296+a1)%b1<b1:=Nat.mod_lt _ hp
  have hdm:=Nat.div_add_mod (a2*4294967296+a1) b1
  rw[Nat.mul_comm]at hdm
  obtain⟨_,rfl,hr⟩:=zrk (T:=T) a2 a1 a0 b1 b0 g h0 hb1 hb0 F1 F2 ((a2*4294967296+a1)/b1,(a2*4294967296+a1)%b1) ⟨hql,by simp only;omega,hdm,by have:=F2 _ (zuj (A:=a2*4294967296+a1) (b0:=b0) h0 hp);simp only;omega⟩
  unfold stGs at hr
  simp at hr
  rw[f119 _ rfl,b119]
  simp -implicitDefEqProofs[hd,hr]
 ·have hd:=zoy (T:=T) a2 a1 b1 (by omega) h2 h1
  have ha:=zdh (T:=T) a1 b1 0 h1 hb1 (by decide)
  rw[Nat.add_zero]at ha
  by_cases hbig:b1<a2∨4294967296≤a1+b1
  ·have hg:4294967295=g:=by
    refine F1 4294967295 (by decide) hgle ?_
    refine zim (r:=a2*4294967296+a1-4294967295*b1) (by omega) ?_
    omega
   subst hg
   rw[f119 _ rfl,b119]
   rcases Nat.lt_or_ge b1 a2 with hb | hb
   ·simp -implicitDefEqProofs[hd,ha,hb]
   ·have hc:4294967296≤a1+b1:=by omega
    have hb2:¬ b1<a2:=by omega
    have m2:0<(a1+b1)/4294967296:=Nat.div_pos hc (by decide)
    simp -implicitDefEqProofs[hd,ha,hb2,m2]
  ·have hb2:¬ b1<a2:=fun h=>hbig (.inl h)
   have hc:a1+b1<4294967296:=by omega
   have m1:(a1+b1)%4294967296=a1+b1:=Nat.mod_eq_of_lt hc
   have m2:(a1+b1)/4294967296=0:=Nat.div_eq_of_lt hc
   rw[m1,m2]at ha
   obtain⟨_,rfl,hr⟩:=zrk (T:=T) a2 a1 a0 b1 b0 g h0 hb1 hb0 F1 F2 (4294967295,a1+b1) ⟨Nat.lt_succ_self 4294967295,hc,by simp only;omega,hgle⟩
   unfold stGs at hr
   simp at hr
   have hb3:a2≤b1:=by omega
   rw[f119 _ rfl,b119]
   simp -implicitDefEqProofs[hd,ha,hb2,hr]
end
theorem zta{V b d three two v0 b0:Nat}(hV:V=three*d+v0)(hv:v0<d)(hb:b=two*d+b0)(hb0:b0<d)(h2:4294967296≤two)(hlt:V<4294967296*b) :
  V/b≤min 4294967295 (three/two)∧min 4294967295 (three/two)≤V/b+1:=by
 have hd:0<d:=by omega
 have htp:0<two:=by omega
 have hbp:0<b:=by
  have:=Nat.mul_pos htp hd
  omega
 have hq:V/b<4294967296:=Nat.div_lt_of_lt_mul (by rw[Nat.mul_comm];exact hlt)
 have hqb:V/b*b≤V:=Nat.div_mul_le_self V b
 have hqb2:V<(V/b+1)*b:=by rw[Nat.mul_comm];exact Nat.lt_mul_div_succ V hbp
 generalize V/b=q at *
 constructor
 ·refine Nat.le_min.2 ⟨by omega,(Nat.le_div_iff_mul_le htp).2 ?_⟩
  have h3:q*two*d<(three+1)*d:=by
   have:q*two*d≤q*b:=by rw[hb,Nat.mul_add,Nat.mul_assoc];omega
   rw[Nat.add_mul,Nat.one_mul]
   omega
  have:=Nat.lt_of_mul_lt_mul_right h3
  omega
 ·generalize hx:min 4294967295 (three/two)=x
  have hx1:x≤three/two:=by rw[←hx];exact Nat.min_le_right _ _
  have hx2:x≤4294967295:=by rw[←hx];exact Nat.min_le_left _ _
  have hx3:x*two≤three:=(Nat.le_div_iff_mul_le htp).1 hx1
  rcases Nat.lt_or_ge (q+1) x with h | h
  ·exfalso
   have e1:(q+2)*two≤x*two:=Nat.mul_le_mul_right _ h
   have e2:(q+2)*two*d≤three*d:=Nat.mul_le_mul_right _ (Nat.le_trans e1 hx3)
   have e3:(q+1)*b=(q+1)*two*d+(q+1)*b0:=by rw[hb,Nat.mul_add,Nat.mul_assoc]
   have e4:(q+1)*b0≤(q+1)*d:=Nat.mul_le_mul_left _ (Nat.le_of_lt hb0)
   have e5:(q+2)*two*d=(q+1)*two*d+two*d:=by rw[show q+2=(q+1)+1 from rfl,Nat.add_mul (q+1) 1 two,Nat.one_mul,Nat.add_mul]
   have e6:(q+1)*d≤two*d:=Nat.mul_le_mul_right _ (by omega)
   omega
  ·exact h
theorem zuq{vA vA' t p V x r vb vm T:Nat}(h0:vA=t+p*V)(h1:vA'=t+p*r)(hV:V=vb*x+r)(hT:T=vA+p*4294967296*(vm*vb)) :
  T=vA'+p*((x+4294967296*vm)*vb):=by grind
theorem zrq{V b x Bo vm p:Nat}(hb:0<b)(h1:V/b≤x)(h2:x≤V/b+1)(_hp:V<p)(hm:vm<p)(hBo:Bo≤1)(h:vm+x*b=V+p*Bo) :
  (Bo=0→x=V/b∧vm=V%b)∧(Bo=1→x=V/b+1∧vm+b=V%b+p):=by
 have hd:=Nat.div_add_mod V b
 constructor
 ·intro h0
  subst h0
  have hx:x=V/b:=by
   have:x*b≤V:=by omega
   have:=(Nat.le_div_iff_mul_le hb).2 this
   omega
  grind
 ·intro h0
  subst h0
  have hx:x=V/b+1:=by
   grind
  grind
theorem zrr{vm b r p D vm':Nat}(_hr:r<p)(h:vm+b=r+p)(hm:vm'<p)(hD:D≤1)(hg:vm'+p*D=vm+b):vm'=r:=by
 rcases Nat.eq_zero_or_pos D with h0 | h0
 all_goals grind
theorem zkm{α:Type}{A:List α}{i k:Nat}(h:i=k)(hi:i<A.length)(hk:k<A.length):A[i]'hi=A[k]'hk:=by grind
theorem zio(A:List UInt32)(j n:Nat):val (A.drop j)=val ((A.drop j).take n)+4294967296^((A.drop j).take n).length*val (A.drop (j+n)):=by
 grind[List.take_append_drop,zai,List.drop_drop]
theorem zo0{q x:Nat}(h:x=q+1)(hx:x<4294967296):sub32 x 1=q:=by unfold sub32;omega
theorem zrs{A m1:List UInt32}{j n:Nat}(hm1:m1.length=n+1)(hj:j+n<A.length) :
  (A.take j++(m1++A.drop (j+(n+1)))).take j=A.take j∧(A.take j++(m1++A.drop (j+(n+1)))).drop (j+(n+1))=A.drop (j+(n+1)) ∧
  ((A.take j++(m1++A.drop (j+(n+1)))).drop j).take (n+1)=m1∧(A.take j++(m1++A.drop (j+(n+1)))).length=A.length:=by
 have htj:(A.take j).length=j:=by grind
 refine⟨?_,?_,?_,?_⟩
 ·rw[List.take_append_of_le_length (by omega),List.take_of_length_le (by omega)]
 ·rw[←List.drop_drop,List.drop_append_of_le_length (by omega),List.drop_of_length_le (l:=A.take j) (by omega),List.nil_append,List.drop_append_of_le_length (by omega),List.drop_of_length_le (by omega),List.nil_append]
 all_goals grind
theorem zrt{D:List UInt32}{n:Nat}(h:n+2<D.length):val (D.take (n+3))=(((D[n+2]'h).toNat*4294967296+(D[n+1]'(by omega)).toNat)*4294967296+(D[n]'(by omega)).toNat)*4294967296^n+val (D.take n):=by
 grind[zaf]
theorem zx4{D:List UInt32}{n:Nat}(h:n+1<D.length):val (D.take (n+2))=((D[n+1]'h).toNat*4294967296+(D[n]'(by omega)).toNat)*4294967296^n+val (D.take n):=by
 grind[zaf]
section
variable{T:Tbl}[CNat T][CQuot T]
theorem zo1(A b:List UInt32)(j x:Nat)(hx:x<4294967296)(hj:j+b.length<A.length)(hl:A.length≤1000000) :
  ∃(B:Nat) (m:List UInt32),B≤1∧m.length=b.length+1∧val m+x*val b=val ((A.drop j).take (b.length+1))+4294967296^(b.length+1)*B ∧
   callH T 120 [.bs (.bor 0) 0 1 0 A.length,.i .i64 j,.sl (u32s b) .an,u32 x] [(.bor 0,⟨0,.own,1,u32s A⟩)] =
    some (.b (decide (0<B)),[(.bor 0,⟨0,.own,1,u32s (A.take j++(m++A.drop (j+(b.length+1))))⟩)]):=by
 have h1:(A.take j).length=j:=by grind
 have h2:(A.drop j).length=A.length-j:=by simp
 obtain⟨B,m,hB,hm,hv,hc⟩:=zsa (T:=T) (A.take j) (A.drop j) b x hx (by omega) (by omega)
 grind[List.take_append_drop,List.drop_drop]
end
section
variable{T:Tbl}[CNat T][CQuot T]
theorem zo2(A b:List UInt32)(j:Nat)(hj:j+b.length<A.length)(hl:A.length≤1000000) :
  ∃(D:Nat) (m:List UInt32),D≤1∧m.length=b.length+1∧val m+4294967296^(b.length+1)*D=val ((A.drop j).take (b.length+1))+val b ∧
   callH T 121 [.bs (.bor 0) 0 1 0 A.length,.i .i64 j,.sl (u32s b) .an] [(.bor 0,⟨0,.own,1,u32s A⟩)] =
    some (.tup [],[(.bor 0,⟨0,.own,1,u32s (A.take j++(m++A.drop (j+(b.length+1))))⟩)]):=by
 have h1:(A.take j).length=j:=by grind
 have h2:(A.drop j).length=A.length-j:=by simp
 obtain⟨D,m,hD,hm,hv,hc⟩:=zsb (T:=T) (A.take j) (A.drop j) b (by omega) (by omega)
 rw[h1,h2,show j+(A.length-j)=A.length by omega,List.take_append_drop,List.drop_drop]at hc
 exact⟨D,m,hD,hm,hv,hc⟩
end
section
variable{T:Tbl}[CNat T][CTwos T][CProd T][CQuot T]
def stLg(b:List UInt32)(LA LQ:Nat)(y:Nat×List UInt32×List UInt32):St:=
 ⟨[(0,.bs (.bor 0) 0 1 0 LA),(1,.sl (u32s b) .an),(5,.i .i64 b.length),(6,.bs (.loc 15) 3 1 0 LQ),(7,.i .i64 ((y.1:Int)-1))],
  [(.bor 0,⟨0,.own,1,u32s y.2.1⟩),(.loc 15,⟨3,.own,1,u32s (List.replicate y.1 0++y.2.2)⟩)],5⟩
end
section
variable{T:Tbl}[CNat T][CQuot T]
set_option maxHeartbeats 2000000 in
theorem zx5(A0 b:List UInt32)(LQ nb:Nat)(hnb:b.length=nb+2)(hb1:0<(b[nb+1]'(by omega)).toNat)(hl:A0.length≤1000000)(hA0:A0.length=LQ+b.length):∀y:Nat×List UInt32×List UInt32,
  (y.1≤LQ∧y.2.1.length=A0.length∧y.2.2.length=LQ-y.1∧val (y.2.1.drop y.1)<val b∧val A0=val y.2.1+4294967296^y.1*(val y.2.2*val b)) →
  ∃r,(∃Q A:List UInt32,r=(Ex.n,(⟨[(6,.bs (.loc 15) 3 1 0 LQ)],[(.bor 0,⟨0,.own,1,u32s A⟩),(.loc 15,⟨3,.own,1,u32s Q⟩)],5⟩:St)) ∧
   Q.length=LQ∧A.length=A0.length∧val Q=val A0/val b∧val A=val A0%val b)∧loopN T 1 0 (.norm false [6]) l93_0 (stLg b A0.length LQ y)=some r:=by
 refine zax _ _ (fun y=>y.1) _ ?_
 rintro⟨k,A,m⟩ ⟨hk,hA,hm,hlt,hv⟩
 simp only at hk hA hm hlt hv
 have hbp:0<val b:=by omega
 cases k with
 | zero=>
  right
  rw[Nat.pow_zero,Nat.one_mul]at hv
  rw[List.drop_zero]at hlt
  refine⟨_,⟨m,A,rfl,by omega,hA,?_,?_⟩,?_,?_⟩
  ·rw[hv,Nat.add_mul_div_right _ _ hbp,Nat.div_eq_of_lt hlt,Nat.zero_add]
  ·rw[hv,Nat.add_mul_mod_self_right,Nat.mod_eq_of_lt hlt]
  ·simp -implicitDefEqProofs[l93_0,stLg]
  ·simp -implicitDefEqProofs[l93_0,stLg]
 | succ j=>
  left
  -- the window
  have hD:(A.drop j).length=A.length-j:=by simp
  have hDn:nb+2<(A.drop j).length:=by omega
  have hVlt:val (A.drop j)<4294967296*val b:=by
   have:=List.drop_eq_getElem_cons (show j<A.length by omega)
   rw[this,zap]
   have:=zal (A[j]'(by omega))
   omega
  have hbB:=za2 b
  rw[hnb]at hbB
  have hsplit:=zio A j (nb+3)
  have hlen3:((A.drop j).take (nb+3)).length=nb+3:=by simp;omega
  rw[hlen3]at hsplit
  have hz:val (A.drop (j+(nb+3)))=0:=by
   rcases Nat.eq_zero_or_pos (val (A.drop (j+(nb+3)))) with h | h
   ·exact h
   ·exfalso
    have h1:=Nat.mul_le_mul_left (4294967296^(nb+3)) h
    rw[Nat.pow_succ 4294967296 (nb+2)]at h1 hsplit
    generalize 4294967296^(nb+2)=p at *
    generalize p*4294967296*val (A.drop (j+(nb+3)))=u at *
    omega
  rw[hz,Nat.mul_zero,Nat.add_zero]at hsplit
  have h3:=zrt hDn
  have h2:=zx4 (D:=b) (n:=nb) (by omega)
  rw[zbf (a:=b) (i:=nb+2) (by omega)]at h2
  have hv0:=za2 ((A.drop j).take nb)
  have hb0:=za2 (b.take nb)
  rw[show ((A.drop j).take nb).length=nb by simp;omega]at hv0
  rw[show (b.take nb).length=nb by simp;omega]at hb0
  obtain⟨V,hV⟩:∃V,V=val (A.drop j):=⟨_,rfl⟩
  rw[←hV]at hsplit hVlt
  rw[←hsplit]at h3
  have hg:=zta (V:=V) (b:=val b) h3 hv0 h2 hb0 (by omega) hVlt
  obtain⟨p0,hp0⟩:∃p,p=j+b.length:=⟨_,rfl⟩
  obtain⟨p1,hp1⟩:∃p,p=j+(nb+1):=⟨_,rfl⟩
  obtain⟨p2,hp2⟩:∃p,p=j+nb:=⟨_,rfl⟩
  obtain⟨q1,hq1⟩:∃p,p=nb+1:=⟨_,rfl⟩
  have c1:p0<A.length:=by omega
  have c2:p1<A.length:=by omega
  have c3:p2<A.length:=by omega
  have c4:q1<b.length:=by omega
  have c5:nb<b.length:=by omega
  have e1:(A.drop j)[nb+2]'hDn=A[p0]'c1:=List.getElem_drop.trans (zkm (by omega) _ _)
  have e2:(A.drop j)[nb+1]'(by omega)=A[p1]'c2:=List.getElem_drop.trans (zkm (by omega) _ _)
  have e3:(A.drop j)[nb]'(by omega)=A[p2]'c3:=List.getElem_drop.trans (zkm (by omega) _ _)
  have e4:b[nb+1]'(by omega)=b[q1]'c4:=zkm (by omega) _ _
  rw[e1,e2,e3,e4]at hg
  rw[e4]at hb1
  have hgs:=zow (T:=T) (A[p0]'c1).toNat (A[p1]'c2).toNat (A[p2]'c3).toNat (b[q1]'c4).toNat (b[nb]'c5).toNat (zal _) (zal _) (zal _) (zal _) (zal _) hb1
  obtain⟨x,hxd⟩:∃x,x=min 4294967295 ((((A[p0]'c1).toNat*4294967296+(A[p1]'c2).toNat)*4294967296+(A[p2]'c3).toNat)/((b[q1]'c4).toNat*4294967296+(b[nb]'c5).toNat)):=⟨_,rfl⟩
  rw[←hxd]at hg hgs
  have hx:x<4294967296:=by rw[hxd];exact Nat.lt_of_le_of_lt (Nat.min_le_left _ _) (by decide)
  clear hxd
  obtain⟨Bo,m1,hBo,hm1,hvm1,hct⟩:=zo1 (T:=T) A b j x hx (by omega) (by omega)
  rw[hnb,show nb+2+1=nb+3 from rfl,←hsplit]at hvm1
  have hm1l:=za2 m1
  rw[hm1,hnb,show nb+2+1=nb+3 from rfl]at hm1l
  have hVp:V<4294967296^(nb+3):=by
   rw[Nat.pow_succ 4294967296 (nb+2)]
   generalize 4294967296^(nb+2)=p at *
   omega
  have hpk:=zrq hbp hg.1 hg.2 hVp hm1l hBo hvm1
  have hql:V/val b<4294967296:=Nat.div_lt_of_lt_mul (by rw[Nat.mul_comm];exact hVlt)
  have hzb:val (A.drop (j+(b.length+1)))=0:=by rw[hnb];exact hz
  have htj:(A.take j).length=j:=by simp;omega
  have fin:∀m2:List UInt32,m2.length=b.length+1→val m2=V%val b →
    (A.take j++(m2++A.drop (j+(b.length+1)))).length=A0.length∧val ((A.take j++(m2++A.drop (j+(b.length+1)))).drop j)<val b ∧
    val A0=val (A.take j++(m2++A.drop (j+(b.length+1))))+4294967296^j*(val (w32 (V/val b)::m)*val b):=by
   intro m2 hm2 hvm2
   refine⟨by simp[hm2];omega,?_,?_⟩
   ·rw[List.drop_append_of_le_length (by omega),List.drop_of_length_le (by omega),List.nil_append,zai,hzb,Nat.mul_zero,Nat.add_zero,hvm2]
    exact Nat.mod_lt _ hbp
   ·have t1:val A=val (A.take j)+4294967296^j*V:=by rw[hV];exact zk6 A j (by omega)
    have t2:val (A.take j++(m2++A.drop (j+(b.length+1))))=val (A.take j)+4294967296^j*(V%val b):=by
     rw[zai,zai,hzb,Nat.mul_zero,Nat.add_zero,hvm2,htj]
    rw[zap,zah hql]
    exact zuq t1 t2 (Nat.div_add_mod V (val b)).symm hv
  clear hv hvm1 hsplit h3 h2 hg hbB hVlt hlt hzb hz hv0 hb0 hm1l hVp
  have hw1:IntKind.wrap .i64 ((j:Int)-1)=(j:Int)-1:=zab _ (by omega)
  have hw2:IntKind.wrap .i64 ((j:Int)+b.length)=((p0:Nat):Int):=by rw[zab _ (by omega)];omega
  have hw3:IntKind.wrap .i64 ((p0:Int)-1)=((p1:Nat):Int):=by rw[zab _ (by omega)];omega
  have hw4:IntKind.wrap .i64 ((p0:Int)-2)=((p2:Nat):Int):=by rw[zab _ (by omega)];omega
  have hw5:IntKind.wrap .i64 ((b.length:Int)-1)=((q1:Nat):Int):=by rw[zab _ (by omega)];omega
  have hw6:IntKind.wrap .i64 ((b.length:Int)-2)=((nb:Nat):Int):=by rw[zab _ (by omega)];omega
  have hj1:j<LQ:=by omega
  rw[hA]at hct
  have hml:(w32 (V/val b)::m).length=LQ-j:=by simp[hm];omega
  have hjb:j+b.length<A.length:=by omega
  have hnb3:nb+3=b.length+1:=by omega
  have d1:p0<A0.length:=by omega
  have d2:p1<A0.length:=by omega
  have d3:p2<A0.length:=by omega
  rcases Nat.eq_zero_or_pos Bo with h0 | h0
  ·obtain⟨hxq,hvm⟩:=hpk.1 h0
   subst h0
   subst hxq
   have hset:=zit (m:=m) (j:=j) (w32 (V/val b))
   obtain⟨f1,f2,f3⟩:=fin m1 hm1 hvm
   refine⟨(j,A.take j++(m1++A.drop (j+(b.length+1))),w32 (V/val b)::m),⟨Nat.le_of_lt hj1,f1,hml,f2,f3⟩,Nat.lt_succ_self j,?_⟩
   simp -implicitDefEqProofs[l93_0,stLg,hw1,hw2,hw3,hw4,hw5,hw6,c4,c5,d1,d2,d3,hA,hj1,hgs,hct,hset,ziu,zbh _ _ _ hx]
  ·have h1:Bo=1:=by omega
   obtain⟨hxq,hvm⟩:=hpk.2 h1
   subst h1
   have hset:=zit (m:=m) (j:=j) (w32 (V/val b))
   obtain⟨t1,t2,t3,t4⟩:=zrs (A:=A) hm1 hjb
   rw[hA]at t4
   obtain⟨D,m2,hD,hm2,hvm2,hcg⟩:=zo2 (T:=T) (A.take j++(m1++A.drop (j+(b.length+1)))) b j (by rw[t4,←hA];exact hjb) (by rw[t4];exact hl)
   rw[t1,t2,t4]at hcg
   rw[t3]at hvm2
   have hm2l:=za2 m2
   rw[hm2]at hm2l
   have hVb:=Nat.mod_lt V hbp
   have hbq:val b<4294967296^(b.length+1):=Nat.lt_of_lt_of_le (za2 b) (Nat.pow_le_pow_right (by decide) (Nat.le_succ _))
   rw[hnb3]at hvm
   have hv2:=zrr (Nat.lt_trans hVb hbq) hvm hm2l hD hvm2
   have hsx:=zo0 hxq hx
   obtain⟨f1,f2,f3⟩:=fin m2 hm2 hv2
   refine⟨(j,A.take j++(m2++A.drop (j+(b.length+1))),w32 (V/val b)::m),⟨Nat.le_of_lt hj1,f1,hml,f2,f3⟩,Nat.lt_succ_self j,?_⟩
   simp -implicitDefEqProofs[l93_0,stLg,hw1,hw2,hw3,hw4,hw5,hw6,c4,c5,d1,d2,d3,hA,hj1,hgs,hct,hsx,hcg,hset,ziu,zbh _ _ _ hql]
end
section
variable{T:Tbl}[CNat T][CQuot T]
theorem zru(A b:List UInt32)(LQ nb:Nat)(hnb:b.length=nb+2)(hb1:0<(b[nb+1]'(by omega)).toNat)(hl:A.length≤1000000)(hA:A.length=LQ+b.length)(hlt:val (A.drop LQ)<val b) :
  ∃Q R:List UInt32,Q.length=LQ∧R.length=A.length∧val Q=val A/val b∧val R=val A%val b ∧
   callH T 93 [.bs (.bor 0) 0 1 0 A.length,.sl (u32s b) .an] [(.bor 0,⟨0,.own,1,u32s A⟩)]=some (.bs (.loc 15) 3 1 0 LQ,[(.bor 0,⟨0,.own,1,u32s R⟩),(.loc 15,⟨3,.own,1,u32s Q⟩)]):=by
 obtain⟨_,⟨Q,R,rfl,hQ,hR,hq,hr⟩,hlp⟩:=zx5 (T:=T) A b LQ nb hnb hb1 hl hA (LQ,A,[]) ⟨Nat.le_refl _,rfl,by simp,hlt,by simp⟩
 have hw:IntKind.wrap .i64 ((A.length:Int)-b.length)=(LQ:Int):=by rw[zab _ (by omega)];omega
 have hw1:IntKind.wrap .i64 ((LQ:Int)-1)=(LQ:Int)-1:=zab _ (by omega)
 have h1:(LQ:Int)≤4294967296:=by omega
 refine⟨Q,R,hQ,hR,hq,hr,?_⟩
 unfold stLg at hlp
 simp at hlp
 rw[f93 _ _ rfl,b93]
 simp -implicitDefEqProofs[hw,hw1,h1,hlp]
end
def b2071:AX:=
 (.seq
 (.reg [rg 2 (.mov (.c (.sl [] .nl)))])
 (.seq
 (.reg [mv 3 0,rg 4 (.call 86 [(.t 3)]),rg 5 (.call 2106 [(.t 4),(.c (.i .i64 0))]),mv 2 5])
 (.pre (.norm false [2]) .ret)))
def l2092_0:AX:=
 (.note
 (.seq
 (.reg [rg 27 (.bin .lss (.t 26) (.t 25))])
 (.seq
 (.cond (.t 27)
 .skip
 (.exit 0))
 (.seq
 (.block 1
 (.seq
 (.reg [mv 28 26,rg 29 (.iad 1 (.t 24) (.t 26)),rg 30 (.load none (.t 29)),mv 8 28,mv 9 30])
 (.seq
 (.reg [mv 31 9,rg 32 (.conv .u64 (.t 31)),mv 33 6,rg 34 (.bin .shl (.t 32) (.t 33)),mv 10 34])
 (.seq
 (.reg [mv 35 7,mv 36 5,mv 37 8,rg 38 (.bin .add (.t 36) (.t 37)),rg 39 (.iad 1 (.t 35) (.t 38)),rg 40 (.load none (.t 39)),mv 41 10,rg 42 (.conv .u32 (.t 41)),rg 43 (.bin .or (.t 40) (.t 42)),rg 44 (.iad 1 (.t 35) (.t 38)),so (.store 1 (.t 44) (.t 43))])
 (.reg [mv 45 7,mv 46 5,mv 47 8,rg 48 (.bin .add (.t 46) (.t 47)),rg 49 (.bin .add (.t 48) (.c (.i .i64 1))),mv 50 10,rg 51 (.bin .shr (.t 50) (.c (u64 32))),rg 52 (.conv .u32 (.t 51)),rg 53 (.iad 1 (.t 45) (.t 49)),so (.store 1 (.t 53) (.t 52))])))))
 (.reg [rg 54 (.bin .add (.t 26) (.c (.i .i64 1))),mv 26 54]))))
 (.norm false [5,6,7,24,25,26]))
def b2092:AX:=
 (.seq
 (.reg [rg 4 (.mov (.c (.sl [] .nl)))])
 (.seq
 (.reg [mv 11 1,rg 12 (.mm true [(.t 11),(.c (.i .i64 0))]),rg 13 (.mm false [(.t 12),(.c (.i .i64 4096))]),mv 1 13])
 (.seq
 (.reg [mv 14 1,rg 15 (.bin .quo (.t 14) (.c (.i .i64 32))),mv 16 1,rg 17 (.bin .rem (.t 16) (.c (.i .i64 32))),mv 5 15,mv 6 17])
 (.seq
 (.reg [mv 18 5,mv 19 0,rg 20 (.len (.t 19)),rg 21 (.bin .add (.t 18) (.t 20)),rg 22 (.bin .add (.t 21) (.c (.i .i64 1))),rg 23 (.mks 1 [(u32 0)] (.t 22) (.t 22)),mv 7 23])
 (.seq
 (.seq
 (.reg [mv 24 0,rg 25 (.len (.t 24)),rg 26 (.mov (.c (.i .i64 0)))])
 (.lp 0 (.norm false [5,6,7,24,25,26]) l2092_0 (.norm false [7])))
 (.seq
 (.reg [mv 55 7,rg 56 (.call 2071 [(.t 55)]),mv 4 56])
 (.pre (.norm false [4]) .ret)))))))
def b62:AX:=
 (.seq
 (.reg [rg 4 (.mov (.c (.sl [] .nl))),rg 5 (.mov (.c (.sl [] .nl))),rg 6 (.mov (.c (.b false)))])
 (.seq
 (.reg [mv 12 1,rg 13 (.call 71 [(.t 12)]),mv 1 13])
 (.seq
 (.block 0
 (.seq
 (.reg [mv 15 1,rg 16 (.len (.t 15)),rg 17 (.bin .eql (.t 16) (.c (.i .i64 0))),mv 14 17])
 (.cond (.t 14)
 (.seq
 (.reg [rg 4 (.mov (.c (.sl [] .nl))),rg 5 (.mov (.c (.sl [] .nl))),rg 6 (.mov (.c (.b false)))])
 (.pre (.norm false [4,5,6]) .ret))
 (.seq
 (.reg [mv 19 0,mv 20 1,rg 21 (.call 87 [(.t 19),(.t 20)]),rg 22 (.bin .lss (.t 21) (.c (.i .i64 0))),mv 18 22])
 (.cond (.t 18)
 (.seq
 (.reg [mv 23 0,rg 24 (.call 71 [(.t 23)]),rg 4 (.mov (.c (.sl [] .nl))),mv 5 24,rg 6 (.mov (.c (.b true)))])
 (.pre (.norm false [4,5,6]) .ret))
 (.seq
 (.reg [mv 26 1,rg 27 (.len (.t 26)),rg 28 (.bin .eql (.t 27) (.c (.i .i64 1))),mv 25 28])
 (.cond (.t 25)
 (.seq
 (.reg [mv 30 0,mv 31 1,rg 32 (.iad 1 (.t 31) (.c (.i .i64 0))),rg 33 (.load none (.t 32)),rg 34 (.call 90 [(.t 30),(.t 33)]),mv 29 34,rg 35 (.ext (.t 29) 0),rg 36 (.ext (.t 29) 1),rg 37 (.ext (.t 29) 2),mv 7 35,mv 8 36,mv 9 37])
 (.seq
 (.reg [mv 38 7,mv 39 8,rg 40 (.conv .u64 (.t 39)),rg 41 (.call 72 [(.t 40)]),mv 4 38,mv 5 41,rg 6 (.mov (.c (.b true)))])
 (.pre (.norm false [4,5,6]) .ret)))
 .skip)))))))
 (.seq
 (.reg [mv 42 1,mv 43 1,rg 44 (.len (.t 43)),rg 45 (.bin .sub (.t 44) (.c (.i .i64 1))),rg 46 (.iad 1 (.t 42) (.t 45)),rg 47 (.load none (.t 46)),rg 48 (.call 91 [(.t 47)]),rg 49 (.bin .sub (.c (.i .i64 32)) (.t 48)),mv 10 49])
 (.seq
 (.reg [mv 50 0,mv 51 10,rg 52 (.call 2092 [(.t 50),(.t 51)]),rg 53 (.bsl 1 [(u32 0)] 1 [(0,(.c (u32 0)))]),rg 54 (.app 1 (.t 52) (.t 53)),mv 11 54])
 (.seq
 (.reg [mv 55 11,mv 56 1,mv 57 10,rg 58 (.call 2092 [(.t 56),(.t 57)]),rg 59 (.call 93 [(.t 55),(.t 58)]),mv 4 59])
 (.seq
 (.reg [mv 60 4,rg 61 (.call 71 [(.t 60)]),mv 62 11,mv 63 10,rg 64 (.call 94 [(.t 62),(.t 63)]),mv 4 61,mv 5 64,rg 6 (.mov (.c (.b true)))])
 (.pre (.norm false [4,5,6]) .ret))))))))
class CQuotD (T:Tbl):Prop where
 h2071:T 2071=some ⟨1,6,[.t 2],b2071,(some [false]),false⟩
 h2092:T 2092=some ⟨2,57,[.t 4],b2092,(some [false,false]),false⟩
 h62:T 62=some ⟨2,65,[.t 4,.t 5,.t 6],b62,none,false⟩
section
variable{T:Tbl}[CQuotD T]{d:Option Nat}{st:St}
@[simp] theorem x2071(xs:List AV):callX (orc T) T 2071 xs d st=bL (frzM st.heap [false] xs) fun ys=>lentX ys (shareIds (refsM [false] xs) st.heap) (reach (shareIds (refsM [false] xs) st.heap) 40 (rootsM [false] xs) []) T 2071 false d st:=zaz CQuotD.h2071
theorem f2071(xs:List AV)(hb:Heap)(hn:xs.length=1):callH T 2071 xs hb=retH [.t 2] false hb.length (evX (orc T) T hb.length b2071 ⟨argEnv xs,hb,hb.length+1⟩):=zbp CQuotD.h2071 hn
@[simp] theorem x2092(xs:List AV):callX (orc T) T 2092 xs d st=bL (frzM st.heap [false,false] xs) fun ys=>lentX ys (shareIds (refsM [false,false] xs) st.heap) (reach (shareIds (refsM [false,false] xs) st.heap) 40 (rootsM [false,false] xs) []) T 2092 false d st:=zaz CQuotD.h2092
theorem f2092(xs:List AV)(hb:Heap)(hn:xs.length=2):callH T 2092 xs hb=retH [.t 4] false hb.length (evX (orc T) T hb.length b2092 ⟨argEnv xs,hb,hb.length+1⟩):=zbp CQuotD.h2092 hn
@[simp] theorem x62(xs:List AV):callX (orc T) T 62 xs d st=cP T 62 false xs d st:=zaa CQuotD.h62
theorem f62(xs:List AV)(hn:xs.length=2):callF T 62 xs=retF [.t 4,.t 5,.t 6] false (evX (orc T) T 0 b62 ⟨argEnv xs,[],1⟩):=zac CQuotD.h62 hn
end
theorem zym(x:Nat):x<2^blen x:=by
 unfold blen
 split
 ·subst x;decide
 ·exact Nat.lt_log2_self
theorem zsc{x:Nat}(h:x<4294967296):blen x≤32:=by
 unfold blen
 split
 ·omega
 ·rename_i h0
  have:=(Nat.log2_lt h0 (k:=32)).2 (by simpa using h)
  omega
theorem zv7{n k:Nat}(h:(ofN n).length=k+1):4294967296^k≤n:=by
 rcases Nat.lt_or_ge n (4294967296^k) with h1 | h1
 ·have:=zae h1
  omega
 ·exact h1
theorem z3w{b:List UInt32}{nb:Nat}(h:b.length=nb+2)(hb:b=ofN (val b)) :
  (ofN (val b*2^(32-blen (b[nb+1]'(by omega)).toNat))).length=nb+2:=by
 have hl:=zsc (zal (b[nb+1]'(by omega)))
 have hs:=zym (b[nb+1]'(by omega)).toNat
 have h1:val b=val (b.take (nb+1))+4294967296^(nb+1)*(b[nb+1]'(by omega)).toNat:=by
  have:=zaf (List.getElem?_eq_getElem (show nb+1<b.length by omega))
  rwa [zbf (by omega)]at this
 have h2:=za2 (b.take (nb+1))
 rw[show (b.take (nb+1)).length=nb+1 by simp;omega]at h2
 generalize (b[nb+1]'(by omega)).toNat=t at *
 refine Nat.le_antisymm (zae ?_) ?_
 ·have h3:val b<4294967296^(nb+1)*2^blen t:=by
   have:4294967296^(nb+1)*(t+1)≤4294967296^(nb+1)*2^blen t:=Nat.mul_le_mul_left _ hs
   rw[Nat.mul_add,Nat.mul_one]at this
   omega
  have h4:2^blen t*2^(32-blen t)=4294967296:=by
   rw[←Nat.pow_add,show blen t+(32-blen t)=32 by omega]
  have h5:=Nat.mul_lt_mul_of_pos_right h3 (Nat.pow_pos (n:=32-blen t) (show 0<2 by decide))
  rw[Nat.mul_assoc,h4,←Nat.pow_succ]at h5
  exact h5
 ·have h3:val b≤val b*2^(32-blen t):=Nat.le_mul_of_pos_right _ (Nat.pow_pos (by decide))
  have:=zbj h3
  rw[←hb]at this
  omega
theorem zyn{b:List UInt32}{nb:Nat}(h:b.length=nb+2)(hb:b=ofN (val b)):0<(b[nb+1]'(by omega)).toNat:=by
 have h1:val b=val (b.take (nb+1))+4294967296^(nb+1)*(b[nb+1]'(by omega)).toNat:=by
  have:=zaf (List.getElem?_eq_getElem (show nb+1<b.length by omega))
  rwa [zbf (by omega)]at this
 have h2:=za2 (b.take (nb+1))
 rw[show (b.take (nb+1)).length=nb+1 by simp;omega]at h2
 have h3:4294967296^(nb+1)≤val b:=zv7 (by rw[←hb];omega)
 rcases Nat.eq_zero_or_pos (b[nb+1]'(by omega)).toNat with h0 | h0
 ·rw[h0,Nat.mul_zero]at h1
  omega
 ·exact h0
theorem zgt(l:List UInt32):val (l++[0])=val l:=by rw[zai];simp
theorem z3x{A b:List UInt32}{nb L:Nat}(hA:(A++[0]).length=L+b.length)(hb:b.length=nb+2)(hbo:b=ofN (val b)):val ((A++[0]).drop L)<val b:=by
 have hl:L≤A.length:=by simp at hA;omega
 rw[List.drop_append_of_le_length hl,zgt]
 have h1:=za2 (A.drop L)
 have h2:(A.drop L).length=nb+1:=by simp at hA ⊢;omega
 rw[h2]at h1
 exact Nat.lt_of_lt_of_le h1 (zv7 (by rw[←hbo];omega))
section
variable{T:Tbl}[CNat T][CQuotD T]
theorem zky(a:List UInt32)(hl:a.length≤1000000):callH T 2071 [.sl (u32s a) .an] [] =
  some (.bs (.fld (.loc 5) 10) 1 1 0 (ofN (val a)).length,[(.fld (.loc 5) 10,⟨1,.own,1,u32s (ofN (val a))⟩)]):=by
 have h1:=zad a
 have h2:=zb7 (T:=T) (ofN (val a)) 0 (by omega)
 simp only[Int.natCast_zero,Nat.add_zero,List.replicate_zero,List.append_nil]at h2
 rw[f2071 _ _ rfl,b2071]
 simp -implicitDefEqProofs[zbi a (by omega),h2]
end
section
variable{T:Tbl}[CNat T][CQuotD T]
theorem zgu(a:List UInt32)(n:Nat)(hn:n≤4096)(hl:a.length≤100000):callH T 2092 [.sl (u32s a) .an,.i .i64 n] [] =
  some (.bs (.fld (.fld (.loc 56) 0) 6010) 1 1 0 (ofN (val a*2^n)).length,[(.fld (.fld (.loc 56) 0) 6010,⟨1,.own,1,u32s (ofN (val a*2^n))⟩)]):=by
 obtain⟨_,⟨c,m,rfl,hm,hc,hv⟩,hr⟩:=zs3 (T:=T) (List.replicate (n/32) 0) a (n%32) (Nat.mod_lt _ (by decide)) (by simp;omega) (0,0,[]) ⟨Nat.zero_le _,Nat.pow_pos (by decide),rfl,by simp⟩
 have hc32:c<4294967296:=Nat.lt_of_lt_of_le hc (by
  have:2^(n%32)≤2^32:=Nat.pow_le_pow_right (by decide) (by omega)
  simpa using this)
 have hval:val (List.replicate (n/32) 0++(m++[w32 c]))=val a*2^n:=by
  rw[zai,za5,List.length_replicate,zai,hm]
  simp only[zap,zbl,Nat.mul_zero,Nat.add_zero,zah hc32,Nat.zero_add]
  rw[hv,zvl,←Nat.mul_assoc,←Nat.pow_add,show 32*(n/32)+n%32=n by omega,Nat.mul_comm]
 have hlen:(List.replicate (n/32) 0++(m++[w32 c])).length=n/32+a.length+1:=by simp[hm];omega
 have hnm:=zky (T:=T) (List.replicate (n/32) 0++(m++[w32 c])) (by omega)
 rw[hval]at hnm
 rw[show l92_0=l2092_0 from rfl]at hr
 unfold stUp at hr
 generalize List.replicate (n/32) 0++(m++[w32 c])=Q at *
 simp at hr
 have hz:List.replicate (n/32) (0:UInt32)++w32 0::List.replicate a.length 0=List.replicate (n/32+a.length+1) 0:=by
  have:w32 0=0:=rfl
  rw[this,←List.replicate_succ,List.replicate_append_replicate,Nat.add_assoc]
 rw[hz]at hr
 have hn2:¬ (4096:Int)<(n:Int):=by omega
 have hq:(n:Int).tdiv 32=(n:Int)/32:=Int.tdiv_eq_ediv_of_nonneg (by omega)
 have hm2:(n:Int).tmod 32=(n:Int)%32:=Int.tmod_eq_emod_of_nonneg (by omega)
 have w1:IntKind.wrap .i64 ((n:Int)/32)=(n:Int)/32:=zab (n/32) (by omega)
 have w2:IntKind.wrap .i64 ((n:Int)/32+a.length)=(n:Int)/32+a.length:=zab _ (by omega)
 have w3:IntKind.wrap .i64 ((n:Int)/32+a.length+1)=(n:Int)/32+a.length+1:=zab _ (by omega)
 have p1:(0:Int)≤(n:Int)/32+a.length+1:=by omega
 have p2:(n:Int)/32+a.length+1≤4294967296:=by omega
 have p3:((n:Int)/32+a.length+1).toNat=n/32+a.length+1:=by omega
 have htk:List.take (n/32+a.length+1) Q=Q:=List.take_of_length_le (by omega)
 rw[f2092 _ _ rfl,b2092]
 simp -implicitDefEqProofs[hn2,hq,hm2,w1,w2,w3,p1,p2,p3,hr,hnm,htk,hlen]
end
section
variable{T:Tbl}[CNat T][CTwos T][CProd T][CQuot T][CQuotD T]
theorem zeq(a b:List UInt32)(ha:a.length≤90000)(hb:b.length≤90000):callF T 62 [.sl (u32s a) .an,.sl (u32s b) .an] =
  some (if val b=0 then .tup [.sl [] .an,.sl [] .an,.b false] else .tup [.sl (u32s (ofN (val a/val b))) .an,.sl (u32s (ofN (val a%val b))) .an,.b true]):=by
 have hnb:=za4 (T:=T) b (by omega)
 have hna:=za4 (T:=T) a (by omega)
 have hlb:=zad b
 have hla:=zad a
 have hcmp:=zgr (T:=T) a (ofN (val b)) (by omega) (by omega)
 rw[zag]at hcmp
 rw[f62 _ rfl,b62]
 by_cases h0:val b=0
 ·rw[h0]at hnb
  simp -implicitDefEqProofs[hnb,h0]
 ·have h0':ofN (val b)≠[]:=fun h=>h0 (za1.1 h)
  have hl0:(ofN (val b)).length≠0:=fun h=>h0' (List.eq_nil_of_length_eq_zero h)
  by_cases hlt:val a<val b
  ·have hd:=Nat.div_eq_of_lt hlt
   have hm:=Nat.mod_eq_of_lt hlt
   simp -implicitDefEqProofs[hnb,h0,hl0,hcmp,zc8,hlt,hna,hd,hm]
  ·rcases Nat.lt_or_ge 1 (ofN (val b)).length with h1 | h1
   ·obtain⟨b',hb'⟩:∃b',b'=ofN (val b):=⟨_,rfl⟩
    have hvb:val b'=val b:=by rw[hb',zag]
    have hbo:b'=ofN (val b'):=by rw[hvb,hb']
    rw[←hb']at hnb hcmp hl0 h1 hlb
    obtain⟨nb,hnbl⟩:∃nb,b'.length=nb+2:=⟨b'.length-2,by omega⟩
    have hll:=znl (T:=T) (b'[nb+1]'(by omega))
    have hbl:=zsc (zal (b'[nb+1]'(by omega)))
    have hup:=z3w hnbl hbo
    obtain⟨s,hs⟩:∃s,s=32-blen (b'[nb+1]'(by omega)).toNat:=⟨_,rfl⟩
    obtain⟨l,hll2⟩:∃l,l=blen (b'[nb+1]'(by omega)).toNat:=⟨_,rfl⟩
    rw[←hs]at hup
    rw[←hll2]at hll hs hbl
    obtain⟨B,hB⟩:∃B,B=ofN (val b'*2^s):=⟨_,rfl⟩
    obtain⟨A,hA⟩:∃A,A=ofN (val a*2^s):=⟨_,rfl⟩
    have hua:=zgu (T:=T) a s (by omega) (by omega)
    have hub:=zgu (T:=T) b' s (by omega) (by omega)
    rw[←hA]at hua
    rw[←hB]at hub hup
    have hBo:B=ofN (val B):=by rw[hB,zag]
    have hvA:val A=val a*2^s:=by rw[hA,zag]
    have hvB:val B=val b'*2^s:=by rw[hB,zag]
    have hAB:B.length≤A.length:=by
     rw[hA,hB]
     exact zbj (Nat.mul_le_mul_right _ (by omega))
    have hAl:A.length≤a.length+1:=by
     rw[hA]
     refine zae ?_
     have h2:2^s≤2^32:=Nat.pow_le_pow_right (by decide) (by omega)
     rw[Nat.pow_succ]
     exact Nat.lt_of_le_of_lt (Nat.mul_le_mul_left _ h2) (Nat.mul_lt_mul_of_pos_right (za2 a) (by decide))
    have hpos:=zyn (hup) hBo
    obtain⟨Q,R,hQ,hR,hvQ,hvR,hlong⟩:=zru (T:=T) (A++[0]) B (A.length+1-B.length) nb hup hpos (by simp;omega) (by simp;omega) (z3x (by simp;omega) hup hBo)
    rw[zgt,hvA,hvB,hvb,Nat.mul_div_mul_right _ _ (Nat.pow_pos (by decide))]at hvQ
    rw[zgt,hvA,hvB,hvb,Nat.mul_mod_mul_right]at hvR
    have hnq:=za4 (T:=T) Q (by omega)
    have hAl1:(A++[(0:UInt32)]).length=A.length+1:=by simp
    rw[hAl1]at hlong hR
    have hdn:=zs6 (T:=T) R s (by omega) (by omega)
    rw[hvR,Nat.mul_div_cancel _ (Nat.pow_pos (by decide))]at hdn
    rw[hvQ]at hnq
    obtain⟨q1,hq1⟩:∃p,p=nb+1:=⟨_,rfl⟩
    have c1:q1<b'.length:=by omega
    have hwt:b'[nb+1]'(by omega)=b'[q1]'c1:=zkm (by omega) _ _
    rw[hwt]at hll
    have w1:IntKind.wrap .i64 ((b'.length:Int)-1)=(q1:Int):=by rw[zab _ (by omega)];omega
    have w2:IntKind.wrap .i64 (32-(l:Int))=(s:Int):=by rw[zab _ (by omega)];omega
    have c3:A.length≤4294967295:=by omega
    have c4:w32 0=0:=rfl
    have c5:A.length+1≤A.length+1-B.length+B.length:=by omega
    have c2:¬ ((b'.length:Int)=1):=by omega
    have t1:List.take (A.length+1) R=R:=List.take_of_length_le (by omega)
    have t2:List.take (A.length+1-B.length) Q=Q:=List.take_of_length_le (by omega)
    simp -implicitDefEqProofs[hnb,h0,hl0,hcmp,zc8,hlt,w1,w2,c1,c2,c3,c4,c5,hll,hua,hub,hlong,hnq,hdn,t1,t2,hQ,hR]
   ·have hl1:(ofN (val b)).length=1:=by omega
    obtain⟨w,hw⟩:=List.length_eq_one_iff.1 hl1
    have hvb:val b=w.toNat:=by
     have:=zag (val b)
     rw[hw]at this
     simp at this
     omega
    have hwl:=zal w
    have hwd:=zr9 (T:=T) a (val b) (by omega) (by omega) (by omega)
    have hof:=zdv (T:=T) (val a%val b) (by have:=Nat.mod_lt (val a) (show 0<val b by omega);omega)
    have m1:val a%val b%18446744073709551616=val a%val b:=Nat.mod_eq_of_lt (by have:=Nat.mod_lt (val a) (show 0<val b by omega);omega)
    rw[hw]at hnb hcmp
    rw[←hvb]at hwl
    simp -implicitDefEqProofs[hnb,h0,hcmp,zc8,hlt,hwd,←hvb,hof,m1]
end
def digs(n:Nat):List UInt8:=if h:n<10 then [UInt8.ofNat (48+n)] else UInt8.ofNat (48+n%10)::digs (n/10)
termination_by n
decreasing_by omega
def textN(n:Nat):List UInt8:=(digs n).reverse
def wordOf:List AV→Option UInt32
 | [.i .u32 n]=>if 0≤n∧n<4294967296 then some (w32 n.toNat) else none
 | _=>none
def prim68:List AV→Option AV
 | [.sl els .an]=>if els.length≤1000 then (els.mapM wordOf).map fun l=>.s (textN (val l)) else none
 | _=>none
def wrAt:Nat→List UInt8→Int
 | _,[]=>-1
 | k,c::r=>if c.toNat<48∨57<c.toNat∨k=60 then k else wrAt (k+1) r
def wrongI(l:List UInt8):Int:=if l=[] then 0 else wrAt 0 l
theorem zmk:∀(k:Nat) (l:List UInt8),-1≤wrAt k l
 | _,[]=>by simp[wrAt]
 | k,c::r=>by
  simp only[wrAt]
  split
  ·omega
  ·exact zmk (k+1) r
theorem zg2:∀(k:Nat) (l:List UInt8),k≤60→wrAt k l≤60
 | _,[],_=>by simp[wrAt]
 | k,c::r,h=>by
  simp only[wrAt]
  split
  ·omega
  ·exact zg2 (k+1) r (by omega)
theorem zft:∀(k:Nat) (l:List UInt8),k≤60→wrAt k l<0→k+l.length≤60∧∀c∈l,48≤c.toNat∧c.toNat≤57
 | k,[],h,_=>⟨by simpa using h,by simp⟩
 | k,c::r,h,hw=>by
  simp only[wrAt]at hw
  split at hw
  ·omega
  ·rename_i hc
   obtain⟨h1,h2⟩:=zft (k+1) r (by omega) hw
   refine⟨by simp;omega,fun d hd=>?_⟩
   rcases List.mem_cons.1 hd with rfl | hd
   ·omega
   ·exact h2 d hd
def rd(l:List UInt8):Nat:=l.foldl (fun n c=>n*10+(c.toNat-48)) 0
theorem zy6(l:List UInt8):∀n,l.foldl (fun n c=>n*10+(c.toNat-48)) n=n*10^l.length+rd l:=by
 induction l with
 | nil=>intro n;simp[rd]
 | cons c l ih=>
  intro n
  simp only[List.foldl_cons,List.length_cons,rd]
  rw[ih,ih (0*10+(c.toNat-48)),Nat.pow_succ]
  grind
theorem zg3(a b:List UInt8):rd (a++b)=rd a*10^b.length+rd b:=by
 unfold rd
 rw[List.foldl_append,zy6]
 rfl
theorem zy7(a:List UInt8)(c:UInt8):rd (a++[c])=rd a*10+(c.toNat-48):=by
 rw[zg3];simp[rd]
theorem zk7{l:List UInt8}{i:Nat}{c:UInt8}(h:l[i]? = some c):rd (l.take (i+1))=rd (l.take i)*10+(c.toNat-48):=by
 rw[List.take_add_one,h]
 exact zy7 _ _
theorem ztb{l:List UInt8}(h:∀c∈l,48≤c.toNat∧c.toNat≤57):rd l<10^l.length:=by
 induction l with
 | nil=>simp[rd]
 | cons c l ih=>
  have h1:=ih fun d hd=>h d (List.mem_cons_of_mem _ hd)
  have h2:=h c List.mem_cons_self
  have:rd (c::l)=(c.toNat-48)*10^l.length+rd l:=by
   have:=zg3 [c] l
   simpa[rd]using this
  rw[this,List.length_cons,Nat.pow_succ]
  have h3:(c.toNat-48)*10^l.length≤9*10^l.length:=Nat.mul_le_mul_right _ (by omega)
  omega
def txN(n:Nat)(s:List UInt8):List UInt8:=if n=0∧s≠[] then s else textN n++s
def digK:Nat→Nat→List UInt8
 | 0,_=>[]
 | k+1,x=>digK k (x/10)++[UInt8.ofNat (48+x%10)]
def u8c(l:List UInt8):List AV:=l.map fun b=>u8 b.toNat
def b98:AX:=
 (.seq
 (.reg [rg 4 (.mov (.c (.s []))),rg 5 (.mov (.c (.b false)))])
 (.seq
 (.seq
 (.reg [mv 6 0,mv 7 1,rg 8 (.call 123 [(.t 6),(.t 7)]),rg 9 (.un .not (.t 8))])
 (.cond (.t 9)
 (.seq
 (.reg [mv 10 0,mv 4 10,rg 5 (.mov (.c (.b false)))])
 (.pre (.norm false [4,5]) .ret))
 .skip))
 (.seq
 (.reg [mv 11 0,mv 12 1,rg 13 (.lens (.t 12)),rg 14 (.slstr (.t 11) (some (.t 13)) none),mv 4 14,rg 5 (.mov (.c (.b true)))])
 (.pre (.norm false [4,5]) .ret))))
def b123:AX:=
 (.seq
 (.reg [rg 4 (.mov (.c (.b false)))])
 (.seq
 (.reg [mv 5 0,rg 6 (.lens (.t 5)),mv 7 1,rg 8 (.lens (.t 7)),rg 9 (.bin .geq (.t 6) (.t 8)),mv 10 9,gd 11 10 true (.mov (.t 0)),gd 12 10 true (.mov (.t 1)),gd 13 10 true (.lens (.t 12)),gd 14 10 true (.slstr (.t 11) none (some (.t 13))),gd 15 10 true (.mov (.t 1)),gd 16 10 true (.bin .eql (.t 14) (.t 15)),rg 17 (.pick (.t 10) (.t 16) (.c (.b false))),mv 4 17])
 (.pre (.norm false [4]) .ret)))
def b64:AX:=
 (.seq
 (.reg [rg 4 (.mov (.c (.s []))),rg 5 (.mov (.c (.b false)))])
 (.seq
 (.reg [mv 6 0,mv 7 1,rg 8 (.call 98 [(.t 6),(.t 7)]),rg 9 (.ext (.t 8) 0),rg 10 (.ext (.t 8) 1),mv 4 9,mv 5 10])
 (.pre (.norm false [4,5]) .ret)))
def l99_0:AX:=
 (.note
 (.seq
 (.reg [rg 7 (.bin .lss (.t 6) (.t 5))])
 (.seq
 (.cond (.t 7)
 .skip
 (.exit 0))
 (.seq
 (.block 1
 (.seq
 (.reg [mv 8 6,mv 3 8])
 (.seq
 (.reg [mv 9 0,mv 10 3,rg 11 (.ixs (.t 9) (.t 10)),rg 12 (.bin .lss (.t 11) (.c (u8 48))),mv 13 12,gd 14 13 false (.mov (.t 0)),gd 15 13 false (.mov (.t 3)),gd 16 13 false (.ixs (.t 14) (.t 15)),gd 17 13 false (.bin .gtr (.t 16) (.c (u8 57))),rg 18 (.pick (.t 13) (.c (.b true)) (.t 17)),mv 19 18,gd 20 19 false (.mov (.t 3)),gd 21 19 false (.bin .eql (.t 20) (.c (.i .i64 60))),rg 22 (.pick (.t 19) (.c (.b true)) (.t 21))])
 (.cond (.t 22)
 (.seq
 (.reg [mv 23 3,mv 2 23])
 (.pre (.norm false [2]) .ret))
 .skip))))
 (.reg [rg 24 (.bin .add (.t 6) (.c (.i .i64 1))),mv 6 24]))))
 (.norm false [0,5,6]))
def b99:AX:=
 (.seq
 (.reg [rg 2 (.mov (.c (.i .i64 0)))])
 (.seq
 (.seq
 (.reg [mv 4 0,rg 5 (.lens (.t 4)),rg 6 (.mov (.c (.i .i64 0)))])
 (.lp 0 (.norm false [0,5,6]) l99_0 (.norm false [0])))
 (.seq
 (.seq
 (.reg [mv 25 0,rg 26 (.bin .eql (.t 25) (.c (.s [])))])
 (.cond (.t 26)
 (.seq
 (.reg [rg 2 (.mov (.c (.i .i64 0)))])
 (.pre (.norm false [2]) .ret))
 .skip))
 (.seq
 (.reg [rg 2 (.mov (.c (.i .i64 (-1))))])
 (.pre (.norm false [2]) .ret)))))
def l65_0:AX:=
 (.note
 (.seq
 (.seq
 (.reg [mv 20 9,rg 21 (.bin .lss (.t 20) (.c (.i .i64 9))),mv 22 21,gd 23 22 true (.mov (.t 6)),gd 24 22 true (.mov (.t 0)),gd 25 22 true (.lens (.t 24)),gd 26 22 true (.bin .lss (.t 23) (.t 25)),rg 27 (.pick (.t 22) (.t 26) (.c (.b false)))])
 (.cond (.t 27)
 .skip
 (.exit 2)))
 (.seq
 (.block 3
 (.seq
 (.reg [mv 30 7,rg 31 (.bin .mul (.t 30) (.c (u32 10))),mv 32 0,mv 33 6,rg 34 (.ixs (.t 32) (.t 33)),rg 35 (.bin .sub (.t 34) (.c (u8 48))),rg 36 (.conv .u32 (.t 35)),rg 37 (.bin .add (.t 31) (.t 36)),mv 7 37])
 (.seq
 (.reg [mv 38 8,rg 39 (.bin .mul (.t 38) (.c (u32 10))),mv 8 39])
 (.reg [mv 40 6,rg 41 (.bin .add (.t 40) (.c (.i .i64 1))),mv 6 41]))))
 (.reg [mv 28 9,rg 29 (.bin .add (.t 28) (.c (.i .i64 1))),mv 9 29])))
 (.norm false [0,3,5,6,7,8,9]))
def l65_1:AX:=
 (.note
 (.seq
 (.seq
 (.reg [mv 16 6,mv 17 0,rg 18 (.lens (.t 17)),rg 19 (.bin .lss (.t 16) (.t 18))])
 (.cond (.t 19)
 .skip
 (.exit 0)))
 (.block 1
 (.seq
 (.reg [rg 7 (.mov (.c (u32 0))),rg 8 (.mov (.c (u32 1)))])
 (.seq
 (.seq
 (.reg [rg 9 (.mov (.c (.i .i64 0)))])
 (.lp 2 (.norm false [0,3,5,6,7,8,9]) l65_0 (.norm false [0,3,5,6,7,8])))
 (.reg [mv 42 5,mv 43 8,mv 44 7,rg 45 (.call 100 [(.t 42),(.t 43),(.t 44)]),mv 5 45])))))
 (.norm false [0,3,5,6]))
def b65:AX:=
 (.seq
 (.reg [rg 2 (.mov (.c (.sl [] .nl))),rg 3 (.alloc [(.i .i64 0),(.i .i64 0),(.i .i64 0),(.i .i64 0)])])
 (.seq
 (.seq
 (.reg [mv 10 0,rg 11 (.call 99 [(.t 10)]),mv 4 11])
 (.seq
 (.reg [mv 12 4,rg 13 (.bin .geq (.t 12) (.c (.i .i64 0)))])
 (.cond (.t 13)
 (.seq
 (.reg [mv 14 4,rg 15 (.build [(.i .i64 0),(.i .i64 0),(.i .i64 0),(.i .i64 0)] [(0,1,(.c (.i .i64 1))),(3,1,(.t 14))]),rg 2 (.mov (.c (.sl [] .nl))),so (.store 4 (.t 3) (.t 15))])
 (.pre (.norm false [2,3]) .ret))
 .skip)))
 (.seq
 (.reg [rg 5 (.mov (.c (.sl [] .nl)))])
 (.seq
 (.seq
 (.reg [rg 6 (.mov (.c (.i .i64 0)))])
 (.lp 0 (.norm false [0,3,5,6]) l65_1 (.norm false [3,5])))
 (.seq
 (.reg [mv 46 5,rg 47 (.build [(.i .i64 0),(.i .i64 0),(.i .i64 0),(.i .i64 0)] []),mv 2 46,so (.store 4 (.t 3) (.t 47))])
 (.pre (.norm false [2,3]) .ret))))))
class CDigits (T:Tbl):Prop where
 h98:T 98=some ⟨2,15,[.t 4,.t 5],b98,none,false⟩
 h123:T 123=some ⟨2,18,[.t 4],b123,none,false⟩
 h64:T 64=some ⟨2,11,[.t 4,.t 5],b64,none,false⟩
 h99:T 99=some ⟨1,27,[.t 2],b99,none,false⟩
 h65:T 65=some ⟨1,48,[.t 2,.cell 3 (some 4)],b65,none,false⟩
section
variable{T:Tbl}[CDigits T]{d:Option Nat}{st:St}
@[simp] theorem x98(xs:List AV):callX (orc T) T 98 xs d st=cP T 98 false xs d st:=zaa CDigits.h98
theorem f98(xs:List AV)(hn:xs.length=2):callF T 98 xs=retF [.t 4,.t 5] false (evX (orc T) T 0 b98 ⟨argEnv xs,[],1⟩):=zac CDigits.h98 hn
@[simp] theorem x123(xs:List AV):callX (orc T) T 123 xs d st=cP T 123 false xs d st:=zaa CDigits.h123
theorem f123(xs:List AV)(hn:xs.length=2):callF T 123 xs=retF [.t 4] false (evX (orc T) T 0 b123 ⟨argEnv xs,[],1⟩):=zac CDigits.h123 hn
@[simp] theorem x64(xs:List AV):callX (orc T) T 64 xs d st=cP T 64 false xs d st:=zaa CDigits.h64
theorem f64(xs:List AV)(hn:xs.length=2):callF T 64 xs=retF [.t 4,.t 5] false (evX (orc T) T 0 b64 ⟨argEnv xs,[],1⟩):=zac CDigits.h64 hn
@[simp] theorem x99(xs:List AV):callX (orc T) T 99 xs d st=cP T 99 false xs d st:=zaa CDigits.h99
theorem f99(xs:List AV)(hn:xs.length=1):callF T 99 xs=retF [.t 2] false (evX (orc T) T 0 b99 ⟨argEnv xs,[],1⟩):=zac CDigits.h99 hn
@[simp] theorem x65(xs:List AV):callX (orc T) T 65 xs d st=cP T 65 false xs d st:=zaa CDigits.h65
theorem f65(xs:List AV)(hn:xs.length=1):callF T 65 xs=retF [.t 2,.cell 3 (some 4)] false (evX (orc T) T 0 b65 ⟨argEnv xs,[],1⟩):=zac CDigits.h65 hn
end
class CText (T:Tbl):Prop where
class CTrim (T:Tbl):Prop where
section
variable{T:Tbl}[CDigits T]
theorem zrd(l:List UInt8)(hl:l.length≤1000000):callF T 64 [.s l,.s [45]]=some (.tup [.s (if l.head? = some 45 then l.tail else l),.b (l.head? = some 45)]):=by
 have h1:callF T 123 [.s l,.s [45]]=some (.b (l.head? = some 45)):=by
  rw[f123 _ rfl,b123]
  cases l with
  | nil=>simp -implicitDefEqProofs
  | cons c r=>
   have h2:(1:Int)≤(r.length:Int)+1:=by omega
   by_cases hc:c=45<;>simp -implicitDefEqProofs[h2,hc]
 have h3:callF T 98 [.s l,.s [45]]=some (.tup [.s (if l.head? = some 45 then l.tail else l),.b (l.head? = some 45)]):=by
  rw[f98 _ rfl,b98]
  cases l with
  | nil=>simp -implicitDefEqProofs[h1]
  | cons c r=>
   have h2:(1:Int)≤(r.length:Int)+1:=by omega
   by_cases hc:c=45
   ·subst hc
    simp -implicitDefEqProofs[h1,h2]
   ·simp -implicitDefEqProofs[h1,hc]
 rw[f64 _ rfl,b64]
 simp -implicitDefEqProofs[h3]
end
section
variable{T:Tbl}
theorem zxw(l:List UInt8)(hl:l.length≤1000000):∀i:Nat,i≤l.length →
  loopN T 0 0 (.norm false [0]) l99_0 ⟨[(0,.s l),(5,.i .i64 l.length),(6,.i .i64 i)],[],2⟩ =
   if 0≤wrAt i (l.drop i) then some (.r,⟨[(2,.i .i64 (wrAt i (l.drop i)))],[],2⟩) else some (.n,⟨[(0,.s l)],[],2⟩):=by
 refine za3 (fun i:Nat=>⟨[(0,.s l),(5,.i .i64 l.length),(6,.i .i64 i)],[],2⟩) _ (fun i=>l.length-i) _ ?_
 intro i hi
 by_cases h0:i<l.length
 ·have hg:l[i]? = some (l[i]'h0):=List.getElem?_eq_getElem h0
  have hd:=List.drop_eq_getElem_cons h0
  have hw:IntKind.wrap .i64 ((i:Int)+1)=((i+1:Nat):Int):=zab _ (by omega)
  by_cases hc:(l[i]'h0).toNat<48∨57<(l[i]'h0).toNat∨i=60
  ·right
   rw[hd]
   have e:wrAt i (l[i]'h0::List.drop (i+1) l)=i:=by simp only[wrAt];rw[if_pos hc]
   rw[e]
   by_cases c1:(l[i]'h0).toNat<48
   ·constructor<;>simp -implicitDefEqProofs[l99_0,h0,c1]
   ·by_cases c2:57<(l[i]'h0).toNat
    ·constructor<;>simp -implicitDefEqProofs[l99_0,h0,c1,c2]
    ·have c3:i=60:=by omega
     subst c3
     have h0':(60:Int)<(l.length:Int):=by omega
     constructor<;>simp -implicitDefEqProofs[l99_0,h0,h0',c1,c2]
  ·left
   have e:wrAt i (l.drop i)=wrAt (i+1) (l.drop (i+1)):=by rw[hd];simp only[wrAt];rw[if_neg hc]
   have c1:¬ (l[i]'h0).toNat<48:=fun h=>hc (.inl h)
   have c2:¬ 57<(l[i]'h0).toNat:=fun h=>hc (.inr (.inl h))
   have c3:¬ ((i:Int)=60):=fun h=>hc (.inr (.inr (by omega)))
   refine⟨i+1,h0,by show l.length-(i+1)<l.length-i;omega,?_,?_⟩
   ·simp -implicitDefEqProofs[l99_0,h0,c1,c2,c3,hw]
   ·simp only[e]
 ·right
  have:i=l.length:=by omega
  subst this
  rw[List.drop_length]
  constructor<;>simp -implicitDefEqProofs[l99_0,wrAt]
end
section
variable{T:Tbl}[CDigits T]
theorem zkf(l:List UInt8)(hl:l.length≤1000000):callF T 99 [.s l]=some (.i .i64 (wrongI l)):=by
 have h:=zxw (T:=T) l hl 0 (Nat.zero_le _)
 have hg:=zmk 0 l
 rw[List.drop_zero]at h
 simp at h
 rw[f99 _ rfl,b99]
 unfold wrongI
 by_cases h0:l=[]
 ·subst h0
  simp[wrAt]at h
  simp -implicitDefEqProofs[h]
 ·by_cases h1:0≤wrAt 0 l
  ·rw[if_pos h1]at h
   simp -implicitDefEqProofs[h,h0]
  ·rw[if_neg h1]at h
   have h2:wrAt 0 l=-1:=by omega
   simp -implicitDefEqProofs[h,h0,h2]
end
section
variable{T:Tbl}[CNat T][CProd T][CDigits T]
def stRi(l:List UInt8)(o:List UInt32)(i0 k:Nat):St:=
 ⟨[(0,.s l),(3,.ptr (.loc 3) 1 4 0 0),(5,.sl (u32s o) .an),(6,.i .i64 (i0+k:Nat)),(7,u32 (rd ((l.drop i0).take k))),(8,u32 (10^k)),(9,.i .i64 k)],[(.loc 3,⟨1,.str,4,[[.i .i64 0,.i .i64 0,.i .i64 0,.i .i64 0]]⟩)],3⟩
end
section
variable{T:Tbl}
theorem zxx(l:List UInt8)(o:List UInt32)(i0 kf:Nat)(hl:l.length≤60)(hd:∀c∈l,48≤c.toNat∧c.toNat≤57)(hkf:kf=min 9 (l.length-i0))(hi0:i0≤l.length):∀k,k≤kf →
  loopN T 0 2 (.norm false [0,3,5,6,7,8]) l65_0 (stRi l o i0 k) =
   some (.n,⟨[(0,.s l),(3,.ptr (.loc 3) 1 4 0 0),(5,.sl (u32s o) .an),(6,.i .i64 (i0+kf:Nat)),(7,u32 (rd ((l.drop i0).take kf))),(8,u32 (10^kf))],[(.loc 3,⟨1,.str,4,[[.i .i64 0,.i .i64 0,.i .i64 0,.i .i64 0]]⟩)],3⟩):=by
 refine za3 (fun k=>stRi l o i0 k) _ (fun k=>kf-k) _ ?_
 intro k hk
 by_cases h0:k<kf
 ·left
  have hi:i0+k<l.length:=by omega
  have hg:l[i0+k]? = some (l[i0+k]'hi):=List.getElem?_eq_getElem hi
  have hgd:(l.drop i0)[k]? = some (l[i0+k]'hi):=by rw[List.getElem?_drop];exact hg
  have hc:=hd _ (List.getElem_mem hi)
  obtain⟨p,hp⟩:∃p,p=i0+k:=⟨_,rfl⟩
  have hx:=ztb (l:=(l.drop i0).take k) fun c hc=>hd c (List.mem_of_mem_drop (List.mem_of_mem_take hc))
  have hlen:((l.drop i0).take k).length=k:=by simp;omega
  rw[hlen]at hx
  have hp8:10^k≤10^8:=Nat.pow_le_pow_right (by decide) (by omega)
  have hr:=zk7 hgd
  have hw:IntKind.wrap .i64 ((k:Int)+1)=((k+1:Nat):Int):=zab _ (by omega)
  have hw2:IntKind.wrap .i64 ((p:Int)+1)=((i0+(k+1):Nat):Int):=by rw[zab _ (by omega)];omega
  have hk9:(k:Int)<9:=by omega
  have hpl:(p:Int)<l.length:=by omega
  refine⟨k+1,h0,by show kf-(k+1)<kf-k;omega,?_,rfl⟩
  unfold stRi
  rw[hr,Nat.pow_succ]
  subst hp
  generalize hcd:(l[i0+k]'hi).toNat=c at *
  generalize rd ((l.drop i0).take k)=x at *
  generalize 10^k=t at *
  have m1:x*10%4294967296=x*10:=Nat.mod_eq_of_lt (by omega)
  have m2:sub8 c 48=c-48:=zxq (by omega) (by omega)
  have m3:(c-48)%4294967296=c-48:=Nat.mod_eq_of_lt (by omega)
  have m4:(x*10+(c-48))%4294967296=x*10+(c-48):=Nat.mod_eq_of_lt (by omega)
  have m5:t*10%4294967296=t*10:=Nat.mod_eq_of_lt (by omega)
  have hpl':(i0:Int)+k<l.length:=by omega
  have hw2':IntKind.wrap .i64 ((i0:Int)+k+1)=(i0:Int)+(k+1):=by rw[zab _ (by omega)];omega
  simp -implicitDefEqProofs[l65_0,hk9,hpl',hi,hcd,m1,m2,m3,m4,m5,hw,hw2']
 ·right
  have:k=kf:=by omega
  subst this
  unfold stRi
  generalize rd ((l.drop i0).take k)=x
  generalize 10^k=t
  by_cases h9:k=9
  ·subst h9
   constructor<;>simp -implicitDefEqProofs[l65_0]
  ·have hk9:(k:Int)<9:=by omega
   have hpl':¬ ((i0:Int)+k<l.length):=by omega
   constructor<;>simp -implicitDefEqProofs[l65_0,hk9,hpl']
end
section
variable{T:Tbl}[CProd T]
theorem zxy(l:List UInt8)(hl:l.length≤60)(hd:∀c∈l,48≤c.toNat∧c.toNat≤57):∀i:Nat,i≤l.length →
  loopN T 0 0 (.norm false [3,5]) l65_1 ⟨[(0,.s l),(3,.ptr (.loc 3) 1 4 0 0),(5,.sl (u32s (ofN (rd (l.take i)))) .an),(6,.i .i64 i)],[(.loc 3,⟨1,.str,4,[[.i .i64 0,.i .i64 0,.i .i64 0,.i .i64 0]]⟩)],3⟩ =
   some (.n,⟨[(3,.ptr (.loc 3) 1 4 0 0),(5,.sl (u32s (ofN (rd l))) .an)],[(.loc 3,⟨1,.str,4,[[.i .i64 0,.i .i64 0,.i .i64 0,.i .i64 0]]⟩)],3⟩):=by
 refine za3 (fun i:Nat=>⟨[(0,.s l),(3,.ptr (.loc 3) 1 4 0 0),(5,.sl (u32s (ofN (rd (l.take i)))) .an),(6,.i .i64 i)],[(.loc 3,⟨1,.str,4,[[.i .i64 0,.i .i64 0,.i .i64 0,.i .i64 0]]⟩)],3⟩) _ (fun i=>l.length-i) _ ?_
 intro i hi
 by_cases h0:i<l.length
 ·left
  obtain⟨kf,hkf⟩:∃kf,kf=min 9 (l.length-i):=⟨_,rfl⟩
  have h:=zxx (T:=T) l (ofN (rd (l.take i))) i kf hl hd hkf hi 0 (Nat.zero_le _)
  unfold stRi at h
  simp[show rd []=0 from rfl]at h
  have hx:=ztb (l:=(l.drop i).take kf) fun c hc=>hd c (List.mem_of_mem_drop (List.mem_of_mem_take hc))
  have hlen:((l.drop i).take kf).length=kf:=by simp;omega
  rw[hlen]at hx
  have hp8:10^kf≤10^9:=Nat.pow_le_pow_right (by decide) (by omega)
  have hol:(ofN (rd (l.take i))).length≤60:=by
   refine zae ?_
   have h1:=ztb (l:=l.take i) fun c hc=>hd c (List.mem_of_mem_take hc)
   have h2:10^(l.take i).length≤10^60:=Nat.pow_le_pow_right (by decide) (by simp;omega)
   exact Nat.lt_of_lt_of_le h1 (Nat.le_trans h2 (by decide))
  have hpw:=zr8 (T:=T) (ofN (rd (l.take i))) (10^kf) (rd ((l.drop i).take kf)) (by omega) (by omega) (by omega)
  have hr:rd (l.take (i+kf))=rd (l.take i)*10^kf+rd ((l.drop i).take kf):=by
   rw[List.take_add,zg3,hlen]
  rw[zag,←hr]at hpw
  refine⟨i+kf,by omega,by show l.length-(i+kf)<l.length-i;omega,?_,rfl⟩
  simp -implicitDefEqProofs[l65_1,h0,h,hpw]
 ·right
  have:i=l.length:=by omega
  subst this
  rw[List.take_length]
  constructor<;>simp -implicitDefEqProofs[l65_1]
end
section
variable{T:Tbl}[CProd T][CDigits T]
theorem zgl(l:List UInt8)(hl:l.length≤1000000):callF T 65 [.s l]=some (.tup (if 0≤wrongI l then [.sl [] .an,.agg [.i .i64 1,.i .i64 0,.i .i64 0,.i .i64 (wrongI l)]]
  else [.sl (u32s (ofN (rd l))) .an,.agg [.i .i64 0,.i .i64 0,.i .i64 0,.i .i64 0]])):=by
 have hw:=zkf (T:=T) l hl
 rw[f65 _ rfl,b65]
 by_cases h0:0≤wrongI l
 ·simp -implicitDefEqProofs[hw,h0]
 ·have h1:wrAt 0 l<0:=by
   unfold wrongI at h0
   split at h0
   ·omega
   ·omega
  obtain⟨h2,h3⟩:=zft 0 l (Nat.zero_le _) h1
  have h:=zxy (T:=T) l (by omega) h3 0 (Nat.zero_le _)
  simp[show rd []=0 from rfl]at h
  simp -implicitDefEqProofs[hw,h0,h]
end
def sg(n:Bool)(k:Nat):Int:=if n then -(k:Int) else k
def wv(n:Bool)(a:List UInt32):Int:=sg n (val a)
abbrev wh(n:Bool)(a:List UInt32):AV:=.agg [.b n,.sl (u32s a) .an]
abbrev ez(z:Int):AV:=wh (decide (z<0)) (ofN z.natAbs)
def sgI(z:Int):Int:=if z<0 then -1 else if z=0 then 0 else 1
theorem zwd(n:Bool)(k:Nat):decide (sg n k<0)=(n&&decide (k≠0)):=by
 cases n
 ·simp[sg]
 ·by_cases h:k=0<;>simp[sg,h]
  omega
theorem zk8(n:Bool)(k:Nat):(sg n k).natAbs=k:=by cases n<;>simp[sg]
@[simp] theorem zi4(z:Int):wv (decide (z<0)) (ofN z.natAbs)=z:=by
 unfold wv
 rw[zag]
 by_cases h:z<0
 ·simp[sg,h];omega
 ·simp[sg,h];omega
theorem z37(n:Bool)(a:List UInt32):(wv n a).natAbs=val a:=zk8 n _
theorem z38(n:Bool)(k:Nat):ez (sg n k)=wh (n&&decide (k≠0)) (ofN k):=by
 unfold ez
 rw[zwd,zk8]
theorem zml(n:Bool)(x y:Nat):sg n (x+y)=sg n x+sg n y:=by cases n<;>simp[sg]<;>omega
theorem ztc{n m:Bool}(h:n≠m){x y:Nat}(hxy:x<y):sg m (y-x)=sg n x+sg m y:=by
 cases n<;>cases m<;>simp[sg]at h ⊢<;>omega
theorem ztd{n m:Bool}(h:n≠m){x y:Nat}(hxy:¬ x<y):sg n (x-y)=sg n x+sg m y:=by
 cases n<;>cases m<;>simp[sg]at h ⊢<;>omega
theorem z39(n:Bool)(x:Nat):sg (!n) x=- sg n x:=by cases n<;>simp[sg]
theorem z4a(n m:Bool)(x y:Nat):sg (n != m) (x*y)=sg n x*sg m y:=by cases n<;>cases m<;>simp[sg,Int.mul_neg,Int.neg_mul]
theorem z4b(n:Bool)(x:Nat):sgI (sg n x)=if x=0 then 0 else if n then -1 else 1:=by
 unfold sgI
 cases n<;>simp[sg]<;>split<;>(try split)<;>omega
def textZ(z:Int):List UInt8:=if z<0 then 45::textN z.natAbs else textN z.natAbs
theorem zcd{x y:Int}{L:Nat}(hx:(ofN x.natAbs).length≤L)(hy:(ofN y.natAbs).length≤L):(ofN (x+y).natAbs).length≤L+1:=by
 refine zae ?_
 have h1:=za2 (ofN x.natAbs)
 have h2:=za2 (ofN y.natAbs)
 rw[zag]at h1 h2
 have h3:4294967296^(ofN x.natAbs).length≤4294967296^L:=Nat.pow_le_pow_right (by decide) hx
 have h4:4294967296^(ofN y.natAbs).length≤4294967296^L:=Nat.pow_le_pow_right (by decide) hy
 rw[Nat.pow_succ]
 generalize 4294967296^L=p at *
 omega
theorem zg4(x:Int):ofN (-x).natAbs=ofN x.natAbs:=by rw[Int.natAbs_neg]
theorem za6{x y:Int}{L M:Nat}(hx:(ofN x.natAbs).length≤L)(hy:(ofN y.natAbs).length≤M):(ofN (x*y).natAbs).length≤L+M:=by
 refine zae ?_
 have h1:=za2 (ofN x.natAbs)
 have h2:=za2 (ofN y.natAbs)
 rw[zag]at h1 h2
 rw[Int.natAbs_mul,Nat.pow_add]
 exact Nat.mul_lt_mul'' (Nat.lt_of_lt_of_le h1 (Nat.pow_le_pow_right (by decide) hx)) (Nat.lt_of_lt_of_le h2 (Nat.pow_le_pow_right (by decide) hy))
theorem zcn(n:Bool)(a:List UInt32):(ofN (wv n a).natAbs).length≤a.length:=by rw[z37];exact zad a
def readZ(l:List UInt8):Int:=sg (l.head? = some 45) (rd (if l.head? = some 45 then l.tail else l))
def wrongZ(l:List UInt8):Int:=wrongI (if l.head? = some 45 then l.tail else l)
def minus(l:List UInt8):Int:=if l.head? = some 45 then 1 else 0
theorem zi5{l:List UInt8}(h0:¬ 0≤wrongZ l):(ofN (readZ l).natAbs).length≤60:=by
 unfold wrongZ at h0
 unfold readZ
 rw[zk8]
 generalize (if l.head? = some 45 then l.tail else l)=l' at *
 have h1:wrAt 0 l'<0:=by
  unfold wrongI at h0
  split at h0
  ·omega
  ·omega
 obtain⟨h2,h3⟩:=zft 0 l' (Nat.zero_le _) h1
 refine zae (k:=60) ?_
 have h4:=ztb h3
 have h5:10^l'.length≤10^60:=Nat.pow_le_pow_right (by decide) (by omega)
 exact Nat.lt_of_lt_of_le h4 (Nat.le_trans h5 (by decide))
def b55:AX:=
 (.seq
 (.reg [rg 4 (.alloc [(.b false),(.sl [] .nl)])])
 (.seq
 (.reg [mv 5 0,mv 6 5,gd 7 6 true (.mov (.t 1)),gd 8 6 true (.len (.t 7)),gd 9 6 true (.bin .gtr (.t 8) (.c (.i .i64 0))),rg 10 (.pick (.t 6) (.t 9) (.c (.b false))),mv 11 1,rg 12 (.build [(.b false),(.sl [] .nl)] [(0,1,(.t 10)),(1,1,(.t 11))]),so (.store 2 (.t 4) (.t 12))])
 (.pre (.norm false [4]) .ret)))
def b38:AX:=
 (.seq
 (.reg [rg 1 (.xop (.box 2) [(.t 0)]),rg 2 (.alloc [(.b false),(.sl [] .nl)])])
 (.seq
 (.drawT [rg 3 (.fad 0 (.t 1)),rg 4 (.load none (.t 3)),rg 5 (.fad 1 (.t 1)),rg 6 (.load none (.t 5)),rg 7 (.call 71 [(.t 6)])]
 [rg 8 (.call 55 [(.t 4),(.t 7)]),so (.store 2 (.t 2) (.t 8))])
 (.pre (.norm false [2]) .ret)))
def b40:AX:=
 (.seq
 (.reg [rg 1 (.xop (.box 2) [(.t 0)]),rg 2 (.alloc [(.b false),(.sl [] .nl)])])
 (.seq
 (.drawT [rg 3 (.fad 0 (.t 1)),rg 4 (.load none (.t 3)),rg 5 (.un .not (.t 4)),rg 6 (.fad 1 (.t 1)),rg 7 (.load none (.t 6)),rg 8 (.call 71 [(.t 7)])]
 [rg 9 (.call 55 [(.t 5),(.t 8)]),so (.store 2 (.t 2) (.t 9))])
 (.pre (.norm false [2]) .ret)))
def b23:AX:=
 (.seq
 (.reg [rg 2 (.xop (.box 2) [(.t 0)]),rg 3 (.xop (.box 2) [(.t 1)]),rg 4 (.alloc [(.b false),(.sl [] .nl)])])
 (.seq
 (.seq
 (.reg [rg 7 (.fad 0 (.t 2)),rg 8 (.load none (.t 7)),rg 9 (.fad 0 (.t 3)),rg 10 (.load none (.t 9)),rg 11 (.eqb false (.t 8) (.t 10))])
 (.cond (.t 11)
 (.seq
 (.drawT [rg 12 (.fad 0 (.t 2)),rg 13 (.load none (.t 12)),rg 14 (.fad 1 (.t 2)),rg 15 (.load none (.t 14)),rg 16 (.fad 1 (.t 3)),rg 17 (.load none (.t 16)),rg 18 (.bsl 1 [(.sl [] .nl)] 2 [(0,(.t 15)),(1,(.t 17))]),rg 19 (.call 56 [(.t 18)])]
 [rg 20 (.call 55 [(.t 13),(.t 19)]),so (.store 2 (.t 4) (.t 20))])
 (.pre (.norm false [4]) .ret))
 .skip))
 (.seq
 (.reg [rg 22 (.fad 1 (.t 2)),rg 23 (.load none (.t 22)),rg 24 (.fad 1 (.t 3)),rg 25 (.load none (.t 24)),rg 26 (.call 57 [(.t 23),(.t 25)]),mv 21 26,rg 27 (.ext (.t 21) 0),rg 28 (.ext (.t 21) 1),mv 5 27,mv 6 28])
 (.seq
 (.seq
 (.reg [mv 29 6,rg 30 (.bin .lss (.t 29) (.c (.i .i64 0)))])
 (.cond (.t 30)
 (.seq
 (.reg [rg 31 (.fad 0 (.t 3)),rg 32 (.load none (.t 31)),mv 33 5,rg 34 (.call 55 [(.t 32),(.t 33)]),so (.store 2 (.t 4) (.t 34))])
 (.pre (.norm false [4]) .ret))
 .skip))
 (.seq
 (.reg [rg 35 (.fad 0 (.t 2)),rg 36 (.load none (.t 35)),mv 37 5,rg 38 (.call 55 [(.t 36),(.t 37)]),so (.store 2 (.t 4) (.t 38))])
 (.pre (.norm false [4]) .ret))))))
def b25:AX:=
 (.seq
 (.reg [rg 2 (.xop (.box 2) [(.t 0)]),rg 3 (.xop (.box 2) [(.t 1)]),rg 4 (.alloc [(.b false),(.sl [] .nl)])])
 (.seq
 (.drawT [rg 5 (.load (some 2) (.t 2)),rg 6 (.load (some 2) (.t 3)),rg 7 (.call 40 [(.t 6)])]
 [rg 8 (.call 23 [(.t 5),(.t 7)]),so (.store 2 (.t 4) (.t 8))])
 (.pre (.norm false [4]) .ret)))
def b27:AX:=
 (.seq
 (.reg [rg 2 (.xop (.box 2) [(.t 0)]),rg 3 (.xop (.box 2) [(.t 1)]),rg 4 (.alloc [(.b false),(.sl [] .nl)])])
 (.seq
 (.drawT [rg 5 (.fad 0 (.t 2)),rg 6 (.load none (.t 5)),rg 7 (.fad 0 (.t 3)),rg 8 (.load none (.t 7)),rg 9 (.eqb true (.t 6) (.t 8)),rg 10 (.fad 1 (.t 2)),rg 11 (.load none (.t 10)),rg 12 (.fad 1 (.t 3)),rg 13 (.load none (.t 12)),rg 14 (.call 60 [(.t 11),(.t 13)])]
 [rg 15 (.call 55 [(.t 9),(.t 14)]),so (.store 2 (.t 4) (.t 15))])
 (.pre (.norm false [4]) .ret)))
def b37:AX:=
 (.seq
 (.reg [rg 1 (.xop (.box 2) [(.t 0)]),rg 2 (.mov (.c (.i .i64 0)))])
 (.seq
 (.block 0
 (.seq
 (.reg [rg 4 (.fad 1 (.t 1)),rg 5 (.load none (.t 4)),rg 6 (.call 70 [(.t 5)]),mv 3 6])
 (.cond (.t 3)
 (.seq
 (.reg [rg 2 (.mov (.c (.i .i64 0)))])
 (.pre (.norm false [2]) .ret))
 (.seq
 (.reg [rg 8 (.fad 0 (.t 1)),rg 9 (.load none (.t 8)),mv 7 9])
 (.cond (.t 7)
 (.seq
 (.reg [rg 2 (.mov (.c (.i .i64 (-1))))])
 (.pre (.norm false [2]) .ret))
 .skip)))))
 (.seq
 (.reg [rg 2 (.mov (.c (.i .i64 1)))])
 (.pre (.norm false [2]) .ret))))
def b41:AX:=
 (.seq
 (.reg [rg 2 (.alloc [(.b false),(.sl [] .nl)])])
 (.seq
 (.seq
 (.reg [mv 3 0,rg 4 (.bin .lss (.t 3) (.c (.i .i64 0)))])
 (.cond (.t 4)
 (.seq
 (.reg [mv 5 0,rg 6 (.conv .u64 (.t 5)),rg 7 (.un .neg (.t 6)),rg 8 (.call 72 [(.t 7)]),rg 9 (.call 55 [(.c (.b true)),(.t 8)]),so (.store 2 (.t 2) (.t 9))])
 (.pre (.norm false [2]) .ret))
 .skip))
 (.seq
 (.reg [mv 10 0,rg 11 (.conv .u64 (.t 10)),rg 12 (.call 72 [(.t 11)]),rg 13 (.call 55 [(.c (.b false)),(.t 12)]),so (.store 2 (.t 2) (.t 13))])
 (.pre (.norm false [2]) .ret))))
def b36:AX:=
 (.seq
 (.reg [rg 2 (.xop (.box 2) [(.t 0)]),rg 3 (.xop (.box 2) [(.t 1)]),rg 4 (.mov (.c (.i .i64 0)))])
 (.seq
 (.reg [rg 5 (.load (some 2) (.t 2)),rg 6 (.load (some 2) (.t 3)),rg 7 (.call 25 [(.t 5),(.t 6)]),rg 8 (.call 37 [(.t 7)]),mv 4 8])
 (.pre (.norm false [4]) .ret)))
def b32:AX:=
 (.seq
 (.reg [rg 2 (.alloc [(.b false),(.sl [] .nl)]),rg 3 (.alloc [(.i .i64 0),(.i .i64 0),(.i .i64 0),(.i .i64 0)])])
 (.seq
 (.reg [mv 9 0,rg 10 (.call 64 [(.t 9),(.c (.s [45]))]),mv 8 10,rg 11 (.ext (.t 8) 0),rg 12 (.ext (.t 8) 1),mv 4 11,mv 5 12])
 (.seq
 (.reg [mv 14 4,rg 15 (.call 65 [(.t 14)]),mv 13 15,rg 16 (.ext (.t 13) 0),rg 17 (.ext (.t 13) 1),rg 7 (.alloc [(.i .i64 0),(.i .i64 0),(.i .i64 0),(.i .i64 0)]),mv 6 16,so (.store 4 (.t 7) (.t 17))])
 (.seq
 (.seq
 (.reg [rg 18 (.load (some 4) (.t 7)),rg 19 (.build [(.i .i64 0),(.i .i64 0),(.i .i64 0),(.i .i64 0)] []),rg 20 (.eqs true [(0,.int),(1,.int),(2,.int),(3,.int)] (.t 18) (.t 19))])
 (.cond (.t 20)
 (.seq
 (.reg [rg 21 (.fad 3 (.t 7)),rg 22 (.load none (.t 21)),mv 23 0,rg 24 (.lens (.t 23)),mv 25 4,rg 26 (.lens (.t 25)),rg 27 (.bin .sub (.t 24) (.t 26)),rg 28 (.bin .add (.t 22) (.t 27)),rg 29 (.fad 3 (.t 7)),so (.store 1 (.t 29) (.t 28))])
 (.seq
 (.draw [⟨rg 30 (.build [(.b false),(.sl [] .nl)] []),0,0⟩,⟨rg 31 (.load (some 4) (.t 7)),0,1⟩,⟨so (.store 2 (.t 2) (.t 30)),0,1⟩,⟨so (.store 4 (.t 3) (.t 31)),1,2⟩])
 (.pre (.norm false [2,3]) .ret)))
 .skip))
 (.seq
 (.reg [mv 32 5,mv 33 6,rg 34 (.call 55 [(.t 32),(.t 33)]),rg 35 (.build [(.i .i64 0),(.i .i64 0),(.i .i64 0),(.i .i64 0)] []),so (.store 2 (.t 2) (.t 34)),so (.store 4 (.t 3) (.t 35))])
 (.pre (.norm false [2,3]) .ret))))))
class CWhole (T:Tbl):Prop where
 h55:T 55=some ⟨2,13,[.cell 4 (some 2)],b55,none,false⟩
 h38:T 38=some ⟨1,9,[.cell 2 (some 2)],b38,none,false⟩
 h40:T 40=some ⟨1,10,[.cell 2 (some 2)],b40,none,false⟩
 h23:T 23=some ⟨2,39,[.cell 4 (some 2)],b23,none,false⟩
 h25:T 25=some ⟨2,9,[.cell 4 (some 2)],b25,none,false⟩
 h27:T 27=some ⟨2,16,[.cell 4 (some 2)],b27,none,false⟩
 h37:T 37=some ⟨1,10,[.t 2],b37,none,false⟩
 h41:T 41=some ⟨1,14,[.cell 2 (some 2)],b41,none,false⟩
 h36:T 36=some ⟨2,9,[.t 4],b36,none,false⟩
 h32:T 32=some ⟨1,36,[.cell 2 (some 2),.cell 3 (some 4)],b32,none,false⟩
section
variable{T:Tbl}[CWhole T]{d:Option Nat}{st:St}
@[simp] theorem x55(xs:List AV):callX (orc T) T 55 xs d st=cP T 55 false xs d st:=zaa CWhole.h55
theorem f55(xs:List AV)(hn:xs.length=2):callF T 55 xs=retF [.cell 4 (some 2)] false (evX (orc T) T 0 b55 ⟨argEnv xs,[],1⟩):=zac CWhole.h55 hn
@[simp] theorem x38(xs:List AV):callX (orc T) T 38 xs d st=cP T 38 false xs d st:=zaa CWhole.h38
theorem f38(xs:List AV)(hn:xs.length=1):callF T 38 xs=retF [.cell 2 (some 2)] false (evX (orc T) T 0 b38 ⟨argEnv xs,[],1⟩):=zac CWhole.h38 hn
@[simp] theorem y40{e:Env}{h:Heap}{older:List Heap}(args:List Opd):opD (orc T) T (.call 40 args) e h older=dR (callF T 40 ((args.map (ev e.get)).map (wkIf false))) (args.map (ev e.get)):=zas CWhole.h40
theorem f40(xs:List AV)(hn:xs.length=1):callF T 40 xs=retF [.cell 2 (some 2)] false (evX (orc T) T 0 b40 ⟨argEnv xs,[],1⟩):=zac CWhole.h40 hn
@[simp] theorem x23(xs:List AV):callX (orc T) T 23 xs d st=cP T 23 false xs d st:=zaa CWhole.h23
@[simp] theorem y23{e:Env}{h:Heap}{older:List Heap}(args:List Opd):opD (orc T) T (.call 23 args) e h older=dR (callF T 23 ((args.map (ev e.get)).map (wkIf false))) (args.map (ev e.get)):=zas CWhole.h23
theorem f23(xs:List AV)(hn:xs.length=2):callF T 23 xs=retF [.cell 4 (some 2)] false (evX (orc T) T 0 b23 ⟨argEnv xs,[],1⟩):=zac CWhole.h23 hn
@[simp] theorem x25(xs:List AV):callX (orc T) T 25 xs d st=cP T 25 false xs d st:=zaa CWhole.h25
theorem f25(xs:List AV)(hn:xs.length=2):callF T 25 xs=retF [.cell 4 (some 2)] false (evX (orc T) T 0 b25 ⟨argEnv xs,[],1⟩):=zac CWhole.h25 hn
@[simp] theorem x27(xs:List AV):callX (orc T) T 27 xs d st=cP T 27 false xs d st:=zaa CWhole.h27
theorem f27(xs:List AV)(hn:xs.length=2):callF T 27 xs=retF [.cell 4 (some 2)] false (evX (orc T) T 0 b27 ⟨argEnv xs,[],1⟩):=zac CWhole.h27 hn
@[simp] theorem x37(xs:List AV):callX (orc T) T 37 xs d st=cP T 37 false xs d st:=zaa CWhole.h37
theorem f37(xs:List AV)(hn:xs.length=1):callF T 37 xs=retF [.t 2] false (evX (orc T) T 0 b37 ⟨argEnv xs,[],1⟩):=zac CWhole.h37 hn
@[simp] theorem x41(xs:List AV):callX (orc T) T 41 xs d st=cP T 41 false xs d st:=zaa CWhole.h41
theorem f41(xs:List AV)(hn:xs.length=1):callF T 41 xs=retF [.cell 2 (some 2)] false (evX (orc T) T 0 b41 ⟨argEnv xs,[],1⟩):=zac CWhole.h41 hn
@[simp] theorem x36(xs:List AV):callX (orc T) T 36 xs d st=cP T 36 false xs d st:=zaa CWhole.h36
theorem f36(xs:List AV)(hn:xs.length=2):callF T 36 xs=retF [.t 4] false (evX (orc T) T 0 b36 ⟨argEnv xs,[],1⟩):=zac CWhole.h36 hn
@[simp] theorem x32(xs:List AV):callX (orc T) T 32 xs d st=cP T 32 false xs d st:=zaa CWhole.h32
theorem f32(xs:List AV)(hn:xs.length=1):callF T 32 xs=retF [.cell 2 (some 2),.cell 3 (some 4)] false (evX (orc T) T 0 b32 ⟨argEnv xs,[],1⟩):=zac CWhole.h32 hn
end
def l198_0:AX:=
 (.note
 (.seq
 (.seq
 (.reg [mv 5 1,rg 6 (.bin .neq (.t 5) (.c (u64 0)))])
 (.cond (.t 6)
 .skip
 (.exit 0)))
 (.block 1
 (.drawT [mv 7 1,mv 8 0,mv 9 1,rg 10 (.bin .rem (.t 8) (.t 9)),mv 0 7]
 [mv 1 10])))
 (.norm false [0,1]))
def b198:AX:=
 (.seq
 (.reg [rg 4 (.mov (.c (u64 0)))])
 (.seq
 (.lp 0 (.norm false [0,1]) l198_0 (.norm false [0]))
 (.seq
 (.reg [mv 11 0,mv 4 11])
 (.pre (.norm false [4]) .ret))))
def l199_0:AX:=
 (.note
 (.seq
 (.seq
 (.reg [mv 19 1,rg 20 (.len (.t 19)),rg 21 (.bin .gtr (.t 20) (.c (.i .i64 2)))])
 (.cond (.t 21)
 .skip
 (.exit 0)))
 (.block 1
 (.seq
 (.reg [mv 23 0,mv 24 1,rg 25 (.call 62 [(.t 23),(.t 24)]),mv 22 25,rg 26 (.ext (.t 22) 0),rg 27 (.ext (.t 22) 1),rg 28 (.ext (.t 22) 2),mv 5 26,mv 6 27,mv 7 28])
 (.reg [mv 29 1,mv 30 6,mv 0 29,mv 1 30]))))
 (.norm false [0,1]))
def b199:AX:=
 (.seq
 (.reg [rg 4 (.mov (.c (.sl [] .nl)))])
 (.seq
 (.reg [mv 15 0,rg 16 (.call 71 [(.t 15)]),mv 17 1,rg 18 (.call 71 [(.t 17)]),mv 0 16,mv 1 18])
 (.seq
 (.lp 0 (.norm false [0,1]) l199_0 (.norm false [0,1]))
 (.seq
 (.seq
 (.reg [mv 31 1,rg 32 (.len (.t 31)),rg 33 (.bin .eql (.t 32) (.c (.i .i64 0)))])
 (.cond (.t 33)
 (.seq
 (.reg [mv 34 0,mv 4 34])
 (.pre (.norm false [4]) .ret))
 .skip))
 (.seq
 (.reg [mv 36 0,mv 37 1,rg 38 (.call 62 [(.t 36),(.t 37)]),mv 35 38,rg 39 (.ext (.t 35) 0),rg 40 (.ext (.t 35) 1),rg 41 (.ext (.t 35) 2),mv 8 39,mv 9 40,mv 10 41])
 (.seq
 (.reg [mv 43 1,rg 44 (.call 73 [(.t 43)]),mv 42 44,rg 45 (.ext (.t 42) 0),rg 46 (.ext (.t 42) 1),mv 11 45,mv 12 46])
 (.seq
 (.reg [mv 48 9,rg 49 (.call 73 [(.t 48)]),mv 47 49,rg 50 (.ext (.t 47) 0),rg 51 (.ext (.t 47) 1),mv 13 50,mv 14 51])
 (.seq
 (.reg [mv 52 11,mv 53 13,rg 54 (.call 198 [(.t 52),(.t 53)]),rg 55 (.call 72 [(.t 54)]),mv 4 55])
 (.pre (.norm false [4]) .ret)))))))))
def b200:AX:=
 (.seq
 (.reg [rg 2 (.mov (.c (.b false)))])
 (.seq
 (.reg [mv 3 0,rg 4 (.len (.t 3)),rg 5 (.bin .eql (.t 4) (.c (.i .i64 1))),mv 6 5,gd 7 6 true (.mov (.t 0)),gd 8 6 true (.iad 1 (.t 7) (.c (.i .i64 0))),gd 9 6 true (.load none (.t 8)),gd 10 6 true (.bin .eql (.t 9) (.c (u32 1))),rg 11 (.pick (.t 6) (.t 10) (.c (.b false))),mv 2 11])
 (.pre (.norm false [2]) .ret)))
def b201:AX:=
 (.seq
 (.reg [rg 4 (.mov (.c (.sl [] .nl))),rg 5 (.mov (.c (.sl [] .nl)))])
 (.seq
 (.reg [mv 7 0,mv 8 1,rg 9 (.call 199 [(.t 7),(.t 8)]),mv 6 9])
 (.seq
 (.block 0
 (.seq
 (.reg [mv 11 6,rg 12 (.len (.t 11)),rg 13 (.bin .eql (.t 12) (.c (.i .i64 0))),mv 10 13])
 (.cond (.t 10)
 (.seq
 (.reg [rg 4 (.mov (.c (.sl [] .nl))),rg 5 (.mov (.c (.sl [] .nl)))])
 (.pre (.norm false [4,5]) .ret))
 (.seq
 (.reg [mv 15 6,rg 16 (.call 200 [(.t 15)]),mv 14 16])
 (.cond (.t 14)
 (.seq
 (.reg [mv 17 0,rg 18 (.call 71 [(.t 17)]),mv 19 1,rg 20 (.call 71 [(.t 19)]),mv 4 18,mv 5 20])
 (.pre (.norm false [4,5]) .ret))
 .skip)))))
 (.seq
 (.reg [mv 22 0,mv 23 6,rg 24 (.call 62 [(.t 22),(.t 23)]),mv 21 24,rg 25 (.ext (.t 21) 0),rg 26 (.ext (.t 21) 1),rg 27 (.ext (.t 21) 2),mv 4 25])
 (.seq
 (.reg [mv 29 1,mv 30 6,rg 31 (.call 62 [(.t 29),(.t 30)]),mv 28 31,rg 32 (.ext (.t 28) 0),rg 33 (.ext (.t 28) 1),rg 34 (.ext (.t 28) 2),mv 5 32])
 (.seq
 (.reg [mv 35 4,mv 36 5,mv 4 35,mv 5 36])
 (.pre (.norm false [4,5]) .ret)))))))
class CCommon (T:Tbl):Prop where
 h198:T 198=some ⟨2,12,[.t 4],b198,none,false⟩
 h199:T 199=some ⟨2,56,[.t 4],b199,none,false⟩
 h200:T 200=some ⟨1,12,[.t 2],b200,none,false⟩
 h201:T 201=some ⟨2,37,[.t 4,.t 5],b201,none,false⟩
section
variable{T:Tbl}[CCommon T]{d:Option Nat}{st:St}{xs:List AV}{ps:List Opd}{e:Env}{h:Heap}{ol:List Heap}
@[simp] theorem x198:callX (orc T) T 198 xs d st=cP T 198 false xs d st:=zaa CCommon.h198
theorem f198(xs:List AV)(hn:xs.length=2):callF T 198 xs=retF [.t 4] false (evX (orc T) T 0 b198 ⟨argEnv xs,[],1⟩):=zac CCommon.h198 hn
@[simp] theorem x199:callX (orc T) T 199 xs d st=cP T 199 false xs d st:=zaa CCommon.h199
theorem f199(xs:List AV)(hn:xs.length=2):callF T 199 xs=retF [.t 4] false (evX (orc T) T 0 b199 ⟨argEnv xs,[],1⟩):=zac CCommon.h199 hn
@[simp] theorem x200:callX (orc T) T 200 xs d st=cP T 200 false xs d st:=zaa CCommon.h200
theorem f200(xs:List AV)(hn:xs.length=1):callF T 200 xs=retF [.t 2] false (evX (orc T) T 0 b200 ⟨argEnv xs,[],1⟩):=zac CCommon.h200 hn
@[simp] theorem x201:callX (orc T) T 201 xs d st=cP T 201 false xs d st:=zaa CCommon.h201
theorem f201(xs:List AV)(hn:xs.length=2):callF T 201 xs=retF [.t 4,.t 5] false (evX (orc T) T 0 b201 ⟨argEnv xs,[],1⟩):=zac CCommon.h201 hn
end
def b202:AX:=
 (.seq
 (.reg [rg 2 (.xop (.box 2) [(.t 0)]),rg 4 (.alloc [(.b false),(.sl [] .nl),(.sl [] .nl)])])
 (.seq
 (.reg [rg 8 (.fad 1 (.t 2)),rg 9 (.load none (.t 8)),mv 10 1,rg 11 (.call 201 [(.t 9),(.t 10)]),mv 7 11,rg 12 (.ext (.t 7) 0),rg 13 (.ext (.t 7) 1),mv 5 12,mv 6 13])
 (.seq
 (.reg [rg 14 (.fad 0 (.t 2)),rg 15 (.load none (.t 14)),mv 16 5,rg 17 (.build [(.b false),(.sl [] .nl)] [(0,1,(.t 15)),(1,1,(.t 16))]),rg 18 (.call 38 [(.t 17)]),mv 19 6,rg 20 (.build [(.b false),(.sl [] .nl),(.sl [] .nl)] [(0,2,(.t 18)),(2,1,(.t 19))]),so (.store 3 (.t 4) (.t 20))])
 (.pre (.norm false [4]) .ret))))
def b203:AX:=
 (.seq
 (.reg [rg 1 (.xop (.box 3) [(.t 0)]),rg 2 (.alloc [(.b false),(.sl [] .nl)]),rg 3 (.mov (.c (.sl [] .nl)))])
 (.seq
 (.seq
 (.reg [rg 4 (.fad 2 (.t 1)),rg 5 (.load none (.t 4)),rg 6 (.call 70 [(.t 5)])])
 (.cond (.t 6)
 (.seq
 (.reg [rg 7 (.build [(.b false),(.sl [] .nl)] []),rg 8 (.call 72 [(.c (u64 1))]),so (.store 2 (.t 2) (.t 7)),mv 3 8])
 (.pre (.norm false [2,3]) .ret))
 .skip))
 (.seq
 (.draw [⟨rg 9 (.fad 0 (.t 1)),0,0⟩,⟨rg 10 (.load (some 2) (.t 9)),0,0⟩,⟨rg 11 (.fad 2 (.t 1)),0,1⟩,⟨rg 12 (.load none (.t 11)),0,1⟩,⟨so (.store 2 (.t 2) (.t 10)),0,1⟩,⟨mv 3 12,1,1⟩])
 (.pre (.norm false [2,3]) .ret))))
def b205:AX:=
 (.seq
 (.reg [rg 2 (.alloc [(.b false),(.sl [] .nl),(.sl [] .nl)])])
 (.seq
 (.reg [mv 3 0,rg 4 (.call 41 [(.t 3)]),rg 5 (.call 72 [(.c (u64 1))]),rg 6 (.build [(.b false),(.sl [] .nl),(.sl [] .nl)] [(0,2,(.t 4)),(2,1,(.t 5))]),so (.store 3 (.t 2) (.t 6))])
 (.pre (.norm false [2]) .ret)))
def b207:AX:=
 (.seq
 (.reg [rg 1 (.xop (.box 3) [(.t 0)]),rg 2 (.alloc [(.b false),(.sl [] .nl),(.sl [] .nl)])])
 (.seq
 (.reg [rg 3 (.load (some 3) (.t 1)),rg 4 (.call 203 [(.t 3)]),rg 5 (.ext (.t 4) 0),rg 6 (.ext (.t 4) 1),rg 7 (.call 202 [(.t 5),(.t 6)]),so (.store 3 (.t 2) (.t 7))])
 (.pre (.norm false [2]) .ret)))
def b210:AX:=
 (.seq
 (.reg [rg 2 (.xop (.box 2) [(.t 0)]),rg 4 (.alloc [(.b false),(.sl [] .nl)])])
 (.seq
 (.reg [rg 5 (.load (some 2) (.t 2)),mv 6 1,rg 7 (.build [(.b false),(.sl [] .nl)] [(1,1,(.t 6))]),rg 8 (.call 27 [(.t 5),(.t 7)]),so (.store 2 (.t 4) (.t 8))])
 (.pre (.norm false [4]) .ret)))
def b211:AX:=
 (.seq
 (.reg [rg 2 (.xop (.box 3) [(.t 0)]),rg 3 (.xop (.box 3) [(.t 1)]),rg 4 (.mov (.c (.i .i64 0)))])
 (.seq
 (.reg [rg 10 (.load (some 3) (.t 2)),rg 11 (.call 203 [(.t 10)]),mv 9 11,rg 12 (.ext (.t 9) 0),rg 13 (.ext (.t 9) 1),rg 5 (.alloc [(.b false),(.sl [] .nl)]),so (.store 2 (.t 5) (.t 12)),mv 6 13])
 (.seq
 (.reg [rg 15 (.load (some 3) (.t 3)),rg 16 (.call 203 [(.t 15)]),mv 14 16,rg 17 (.ext (.t 14) 0),rg 18 (.ext (.t 14) 1),rg 7 (.alloc [(.b false),(.sl [] .nl)]),so (.store 2 (.t 7) (.t 17)),mv 8 18])
 (.seq
 (.drawT [rg 19 (.load (some 2) (.t 5)),mv 20 8,rg 21 (.call 210 [(.t 19),(.t 20)]),rg 22 (.load (some 2) (.t 7)),mv 23 6]
 [rg 24 (.call 210 [(.t 22),(.t 23)]),rg 25 (.call 36 [(.t 21),(.t 24)]),mv 4 25])
 (.pre (.norm false [4]) .ret)))))
def b212:AX:=
 (.seq
 (.reg [rg 2 (.xop (.box 3) [(.t 0)]),rg 3 (.xop (.box 3) [(.t 1)]),rg 4 (.mov (.c (.b false)))])
 (.seq
 (.reg [rg 5 (.load (some 3) (.t 2)),rg 6 (.load (some 3) (.t 3)),rg 7 (.call 211 [(.t 5),(.t 6)]),rg 8 (.bin .eql (.t 7) (.c (.i .i64 0))),mv 4 8])
 (.pre (.norm false [4]) .ret)))
def b215:AX:=
 (.seq
 (.reg [rg 2 (.xop (.box 3) [(.t 0)]),rg 3 (.xop (.box 3) [(.t 1)]),rg 4 (.alloc [(.b false),(.sl [] .nl),(.sl [] .nl)])])
 (.seq
 (.reg [rg 10 (.load (some 3) (.t 2)),rg 11 (.call 203 [(.t 10)]),mv 9 11,rg 12 (.ext (.t 9) 0),rg 13 (.ext (.t 9) 1),rg 5 (.alloc [(.b false),(.sl [] .nl)]),so (.store 2 (.t 5) (.t 12)),mv 6 13])
 (.seq
 (.reg [rg 15 (.load (some 3) (.t 3)),rg 16 (.call 203 [(.t 15)]),mv 14 16,rg 17 (.ext (.t 14) 0),rg 18 (.ext (.t 14) 1),rg 7 (.alloc [(.b false),(.sl [] .nl)]),so (.store 2 (.t 7) (.t 17)),mv 8 18])
 (.seq
 (.drawT [rg 19 (.load (some 2) (.t 5)),mv 20 8,rg 21 (.call 210 [(.t 19),(.t 20)]),rg 22 (.load (some 2) (.t 7)),mv 23 6,rg 24 (.call 210 [(.t 22),(.t 23)]),rg 25 (.call 23 [(.t 21),(.t 24)]),mv 26 6,mv 27 8]
 [rg 28 (.call 60 [(.t 26),(.t 27)]),rg 29 (.call 202 [(.t 25),(.t 28)]),so (.store 3 (.t 4) (.t 29))])
 (.pre (.norm false [4]) .ret)))))
def b217:AX:=
 (.seq
 (.reg [rg 2 (.xop (.box 3) [(.t 0)]),rg 3 (.xop (.box 3) [(.t 1)]),rg 4 (.alloc [(.b false),(.sl [] .nl),(.sl [] .nl)])])
 (.seq
 (.reg [rg 10 (.load (some 3) (.t 2)),rg 11 (.call 203 [(.t 10)]),mv 9 11,rg 12 (.ext (.t 9) 0),rg 13 (.ext (.t 9) 1),rg 5 (.alloc [(.b false),(.sl [] .nl)]),so (.store 2 (.t 5) (.t 12)),mv 6 13])
 (.seq
 (.reg [rg 15 (.load (some 3) (.t 3)),rg 16 (.call 203 [(.t 15)]),mv 14 16,rg 17 (.ext (.t 14) 0),rg 18 (.ext (.t 14) 1),rg 7 (.alloc [(.b false),(.sl [] .nl)]),so (.store 2 (.t 7) (.t 17)),mv 8 18])
 (.seq
 (.reg [rg 19 (.load (some 2) (.t 5)),rg 20 (.load (some 2) (.t 7)),rg 21 (.call 27 [(.t 19),(.t 20)]),mv 22 6,mv 23 8,rg 24 (.call 60 [(.t 22),(.t 23)]),rg 25 (.call 202 [(.t 21),(.t 24)]),so (.store 3 (.t 4) (.t 25))])
 (.pre (.norm false [4]) .ret)))))
class CFrac (T:Tbl):Prop where
 h202:T 202=some ⟨2,21,[.cell 4 (some 3)],b202,none,false⟩
 h203:T 203=some ⟨1,13,[.cell 2 (some 2),.t 3],b203,none,false⟩
 h205:T 205=some ⟨1,7,[.cell 2 (some 3)],b205,none,false⟩
 h207:T 207=some ⟨1,8,[.cell 2 (some 3)],b207,none,false⟩
 h210:T 210=some ⟨2,9,[.cell 4 (some 2)],b210,none,false⟩
 h211:T 211=some ⟨2,26,[.t 4],b211,none,false⟩
 h212:T 212=some ⟨2,9,[.t 4],b212,none,false⟩
 h215:T 215=some ⟨2,30,[.cell 4 (some 3)],b215,none,false⟩
 h217:T 217=some ⟨2,26,[.cell 4 (some 3)],b217,none,false⟩
section
variable{T:Tbl}[CFrac T]{d:Option Nat}{st:St}{xs:List AV}{ps:List Opd}{e:Env}{h:Heap}{ol:List Heap}
@[simp] theorem x202:callX (orc T) T 202 xs d st=cP T 202 false xs d st:=zaa CFrac.h202
theorem f202(xs:List AV)(hn:xs.length=2):callF T 202 xs=retF [.cell 4 (some 3)] false (evX (orc T) T 0 b202 ⟨argEnv xs,[],1⟩):=zac CFrac.h202 hn
@[simp] theorem x203:callX (orc T) T 203 xs d st=cP T 203 false xs d st:=zaa CFrac.h203
theorem f203(xs:List AV)(hn:xs.length=1):callF T 203 xs=retF [.cell 2 (some 2),.t 3] false (evX (orc T) T 0 b203 ⟨argEnv xs,[],1⟩):=zac CFrac.h203 hn
@[simp] theorem x205:callX (orc T) T 205 xs d st=cP T 205 false xs d st:=zaa CFrac.h205
@[simp] theorem y205:opD (orc T) T (.call 205 ps) e h ol=dP T 205 false ps e:=zas CFrac.h205
theorem f205(xs:List AV)(hn:xs.length=1):callF T 205 xs=retF [.cell 2 (some 3)] false (evX (orc T) T 0 b205 ⟨argEnv xs,[],1⟩):=zac CFrac.h205 hn
@[simp] theorem x207:callX (orc T) T 207 xs d st=cP T 207 false xs d st:=zaa CFrac.h207
theorem f207(xs:List AV)(hn:xs.length=1):callF T 207 xs=retF [.cell 2 (some 3)] false (evX (orc T) T 0 b207 ⟨argEnv xs,[],1⟩):=zac CFrac.h207 hn
@[simp] theorem x210:callX (orc T) T 210 xs d st=cP T 210 false xs d st:=zaa CFrac.h210
@[simp] theorem y210:opD (orc T) T (.call 210 ps) e h ol=dP T 210 false ps e:=zas CFrac.h210
theorem f210(xs:List AV)(hn:xs.length=2):callF T 210 xs=retF [.cell 4 (some 2)] false (evX (orc T) T 0 b210 ⟨argEnv xs,[],1⟩):=zac CFrac.h210 hn
@[simp] theorem x211:callX (orc T) T 211 xs d st=cP T 211 false xs d st:=zaa CFrac.h211
theorem f211(xs:List AV)(hn:xs.length=2):callF T 211 xs=retF [.t 4] false (evX (orc T) T 0 b211 ⟨argEnv xs,[],1⟩):=zac CFrac.h211 hn
@[simp] theorem x212:callX (orc T) T 212 xs d st=cP T 212 false xs d st:=zaa CFrac.h212
theorem f212(xs:List AV)(hn:xs.length=2):callF T 212 xs=retF [.t 4] false (evX (orc T) T 0 b212 ⟨argEnv xs,[],1⟩):=zac CFrac.h212 hn
@[simp] theorem x215:callX (orc T) T 215 xs d st=cP T 215 false xs d st:=zaa CFrac.h215
theorem f215(xs:List AV)(hn:xs.length=2):callF T 215 xs=retF [.cell 4 (some 3)] false (evX (orc T) T 0 b215 ⟨argEnv xs,[],1⟩):=zac CFrac.h215 hn
@[simp] theorem x217:callX (orc T) T 217 xs d st=cP T 217 false xs d st:=zaa CFrac.h217
@[simp] theorem y217:opD (orc T) T (.call 217 ps) e h ol=dP T 217 false ps e:=zas CFrac.h217
theorem f217(xs:List AV)(hn:xs.length=2):callF T 217 xs=retF [.cell 4 (some 3)] false (evX (orc T) T 0 b217 ⟨argEnv xs,[],1⟩):=zac CFrac.h217 hn
end
def b204:AX:=
 (.seq
 (.reg [rg 2 (.xop (.box 2) [(.t 0)]),rg 4 (.alloc [(.b false),(.sl [] .nl),(.sl [] .nl)]),rg 5 (.mov (.c (.b false)))])
 (.seq
 (.seq
 (.reg [mv 6 1,rg 7 (.call 70 [(.t 6)])])
 (.cond (.t 7)
 (.seq
 (.reg [rg 8 (.call 205 [(.c (.i .i64 0))]),so (.store 3 (.t 4) (.t 8)),rg 5 (.mov (.c (.b false)))])
 (.pre (.norm false [4,5]) .ret))
 .skip))
 (.seq
 (.reg [rg 9 (.load (some 2) (.t 2)),mv 10 1,rg 11 (.call 202 [(.t 9),(.t 10)]),so (.store 3 (.t 4) (.t 11)),rg 5 (.mov (.c (.b true)))])
 (.pre (.norm false [4,5]) .ret))))
class CFrac2 (T:Tbl):Prop where
 h204:T 204=some ⟨2,12,[.cell 4 (some 3),.t 5],b204,none,false⟩
section
variable{T:Tbl}[CFrac2 T]{d:Option Nat}{st:St}{xs:List AV}{ps:List Opd}{e:Env}{h:Heap}{ol:List Heap}
@[simp] theorem x204:callX (orc T) T 204 xs d st=cP T 204 false xs d st:=zaa CFrac2.h204
@[simp] theorem y204:opD (orc T) T (.call 204 ps) e h ol=dP T 204 false ps e:=zas CFrac2.h204
theorem f204(xs:List AV)(hn:xs.length=2):callF T 204 xs=retF [.cell 4 (some 3),.t 5] false (evX (orc T) T 0 b204 ⟨argEnv xs,[],1⟩):=zac CFrac2.h204 hn
end
def b208:AX:=
 (.seq
 (.reg [rg 1 (.xop (.box 3) [(.t 0)]),rg 2 (.mov (.c (.b false)))])
 (.seq
 (.reg [rg 4 (.load (some 3) (.t 1)),rg 5 (.call 207 [(.t 4)]),rg 3 (.alloc [(.b false),(.sl [] .nl),(.sl [] .nl)]),so (.store 3 (.t 3) (.t 5))])
 (.seq
 (.reg [rg 6 (.fad 0 (.t 1)),rg 7 (.fad 0 (.t 6)),rg 8 (.load none (.t 7)),rg 9 (.fad 0 (.t 3)),rg 10 (.fad 0 (.t 9)),rg 11 (.load none (.t 10)),rg 12 (.eqb false (.t 8) (.t 11)),mv 13 12,gd 14 13 true (.fad 0 (.t 1)),gd 15 13 true (.fad 1 (.t 14)),gd 16 13 true (.load none (.t 15)),gd 17 13 true (.len (.t 16)),gd 18 13 true (.fad 0 (.t 3)),gd 19 13 true (.fad 1 (.t 18)),gd 20 13 true (.load none (.t 19)),gd 21 13 true (.len (.t 20)),gd 22 13 true (.bin .eql (.t 17) (.t 21)),rg 23 (.pick (.t 13) (.t 22) (.c (.b false))),mv 24 23,gd 25 24 true (.fad 2 (.t 1)),gd 26 24 true (.load none (.t 25)),gd 27 24 true (.len (.t 26)),gd 28 24 true (.fad 2 (.t 3)),gd 29 24 true (.load none (.t 28)),gd 30 24 true (.len (.t 29)),gd 31 24 true (.bin .eql (.t 27) (.t 30)),rg 32 (.pick (.t 24) (.t 31) (.c (.b false))),mv 33 32,gd 34 33 true (.fad 0 (.t 1)),gd 35 33 true (.fad 1 (.t 34)),gd 36 33 true (.load none (.t 35)),gd 37 33 true (.fad 0 (.t 3)),gd 38 33 true (.fad 1 (.t 37)),gd 39 33 true (.load none (.t 38)),gd 40 33 true (.call 87 [(.t 36),(.t 39)]),gd 41 33 true (.bin .eql (.t 40) (.c (.i .i64 0))),rg 42 (.pick (.t 33) (.t 41) (.c (.b false))),mv 43 42,gd 44 43 true (.fad 2 (.t 1)),gd 45 43 true (.load none (.t 44)),gd 46 43 true (.fad 2 (.t 3)),gd 47 43 true (.load none (.t 46)),gd 48 43 true (.call 87 [(.t 45),(.t 47)]),gd 49 43 true (.bin .eql (.t 48) (.c (.i .i64 0))),rg 50 (.pick (.t 43) (.t 49) (.c (.b false))),mv 2 50])
 (.pre (.norm false [2]) .ret))))
class CFrac3 (T:Tbl):Prop where
 h208:T 208=some ⟨1,51,[.t 2],b208,none,false⟩
section
variable{T:Tbl}[CFrac3 T]{d:Option Nat}{st:St}{xs:List AV}{ps:List Opd}{e:Env}{h:Heap}{ol:List Heap}
@[simp] theorem x208:callX (orc T) T 208 xs d st=cP T 208 false xs d st:=zaa CFrac3.h208
theorem f208(xs:List AV)(hn:xs.length=1):callF T 208 xs=retF [.t 2] false (evX (orc T) T 0 b208 ⟨argEnv xs,[],1⟩):=zac CFrac3.h208 hn
end
def b223:AX:=
 (.seq
 (.reg [rg 1 (.xop (.box 3) [(.t 0)]),rg 2 (.mov (.c (.i .i64 0)))])
 (.seq
 (.drawT [rg 3 (.fad 0 (.t 1)),rg 4 (.fad 1 (.t 3)),rg 5 (.load none (.t 4)),rg 6 (.call 356 [(.t 5)]),rg 7 (.fad 2 (.t 1)),rg 8 (.load none (.t 7))]
 [rg 9 (.call 356 [(.t 8)]),rg 10 (.bin .add (.t 6) (.t 9)),mv 2 10])
 (.pre (.norm false [2]) .ret)))
class CFrac5 (T:Tbl):Prop where
 h223:T 223=some ⟨1,11,[.t 2],b223,none,false⟩
section
variable{T:Tbl}[CFrac5 T]{d:Option Nat}{st:St}{xs:List AV}{ps:List Opd}{e:Env}{h:Heap}{ol:List Heap}
@[simp] theorem x223:callX (orc T) T 223 xs d st=cP T 223 false xs d st:=zaa CFrac5.h223
theorem f223(xs:List AV)(hn:xs.length=1):callF T 223 xs=retF [.t 2] false (evX (orc T) T 0 b223 ⟨argEnv xs,[],1⟩):=zac CFrac5.h223 hn
end
def prim344:List AV→Option AV
 | [.s s,.s [47,46]]=>if s.length≤1000000 then some (.i .i64 (Lib.indexAny s [47,46])) else none
 | _=>none
def prim194:List AV→Option AV
 | [.s s,.s [c]]=>some (.i .i64 (Lib.indexByte s c))
 | _=>none
def prim361:List AV→Option AV
 | [.s s,.s [c]]=>some (.i .i64 (Lib.countByte s c))
 | _=>none
def prim343:List AV→Option AV
 | [.s [48],.i .i64 n]=>if 0≤n∧n≤64 then some (.s (List.replicate n.toNat 48)) else none
 | _=>none
class CStr (T:Tbl):Prop where
 h344:T 344=some ⟨0,0,[],.prim prim344,none,false⟩
 h194:T 194=some ⟨0,0,[],.prim prim194,none,false⟩
 h361:T 361=some ⟨0,0,[],.prim prim361,none,false⟩
section
variable{T:Tbl}[CStr T]{d:Option Nat}{st:St}{xs:List AV}{ps:List Opd}{e:Env}{h:Heap}{ol:List Heap}
@[simp] theorem x344:callX (orc T) T 344 xs d st=cP T 344 false xs d st:=zaa CStr.h344
theorem p344(xs:List AV):callF T 344 xs=prim344 xs:=zcu CStr.h344
@[simp] theorem x194:callX (orc T) T 194 xs d st=cP T 194 false xs d st:=zaa CStr.h194
theorem p194(xs:List AV):callF T 194 xs=prim194 xs:=zcu CStr.h194
@[simp] theorem x361:callX (orc T) T 361 xs d st=cP T 361 false xs d st:=zaa CStr.h361
theorem p361(xs:List AV):callF T 361 xs=prim361 xs:=zcu CStr.h361
end
def b346:AX:=
 (.seq
 (.reg [rg 4 (.mov (.c (.sl [] .nl)))])
 (.seq
 (.reg [mv 5 0,mv 6 1,rg 7 (.call 354 [(.t 5),(.t 6),(.c (.i .i64 0)),(.c (.i .i64 (-1)))]),mv 4 7])
 (.pre (.norm false [4]) .ret)))
def l354_0:AX:=
 (.note
 (.seq
 (.seq
 (.reg [mv 34 10,mv 35 3,rg 36 (.bin .lss (.t 34) (.t 35))])
 (.cond (.t 36)
 .skip
 (.exit 0)))
 (.block 1
 (.seq
 (.reg [mv 37 0,mv 38 1,rg 39 (.call 362 [(.t 37),(.t 38)]),mv 11 39])
 (.seq
 (.seq
 (.reg [mv 40 11,rg 41 (.bin .lss (.t 40) (.c (.i .i64 0)))])
 (.cond (.t 41)
 (.exit 0)
 .skip))
 (.seq
 (.reg [mv 42 9,mv 43 10,mv 44 0,mv 45 11,mv 46 2,rg 47 (.bin .add (.t 45) (.t 46)),rg 48 (.slstr (.t 44) none (some (.t 47))),rg 49 (.iad 1 (.t 42) (.t 43)),so (.store 1 (.t 49) (.t 48))])
 (.seq
 (.reg [mv 50 0,mv 51 11,mv 52 1,rg 53 (.lens (.t 52)),rg 54 (.bin .add (.t 51) (.t 53)),rg 55 (.slstr (.t 50) (some (.t 54)) none),mv 0 55])
 (.reg [mv 56 10,rg 57 (.bin .add (.t 56) (.c (.i .i64 1))),mv 10 57])))))))
 (.norm false [0,1,2,3,9,10]))
def b354:AX:=
 (.seq
 (.reg [rg 8 (.mov (.c (.sl [] .nl)))])
 (.seq
 (.seq
 (.reg [mv 12 3,rg 13 (.bin .eql (.t 12) (.c (.i .i64 0)))])
 (.cond (.t 13)
 (.seq
 (.reg [rg 8 (.mov (.c (.sl [] .nl)))])
 (.pre (.norm false [8]) .ret))
 .skip))
 (.seq
 (.seq
 (.reg [mv 14 1,rg 15 (.bin .eql (.t 14) (.c (.s [])))])
 (.cond (.t 15)
 (.seq
 (.reg [mv 16 0,mv 17 3,rg 18 (.call 360 [(.t 16),(.t 17)]),mv 8 18])
 (.pre (.norm false [8]) .ret))
 .skip))
 (.seq
 (.seq
 (.reg [mv 19 3,rg 20 (.bin .lss (.t 19) (.c (.i .i64 0)))])
 (.cond (.t 20)
 (.reg [mv 21 0,mv 22 1,rg 23 (.call 361 [(.t 21),(.t 22)]),rg 24 (.bin .add (.t 23) (.c (.i .i64 1))),mv 3 24])
 .skip))
 (.seq
 (.reg [mv 25 3,mv 26 0,rg 27 (.lens (.t 26)),rg 28 (.bin .add (.t 27) (.c (.i .i64 1))),rg 29 (.mm false [(.t 25),(.t 28)]),mv 3 29])
 (.seq
 (.reg [mv 30 3,rg 31 (.mks 1 [(.s [])] (.t 30) (.t 30)),mv 9 31])
 (.seq
 (.reg [mv 32 3,rg 33 (.bin .sub (.t 32) (.c (.i .i64 1))),mv 3 33])
 (.seq
 (.reg [rg 10 (.mov (.c (.i .i64 0)))])
 (.seq
 (.lp 0 (.norm false [0,1,2,3,9,10]) l354_0 (.norm false [0,9,10]))
 (.seq
 (.reg [mv 58 9,mv 59 10,mv 60 0,rg 61 (.iad 1 (.t 58) (.t 59)),so (.store 1 (.t 61) (.t 60))])
 (.seq
 (.reg [mv 62 9,mv 63 10,rg 64 (.bin .add (.t 63) (.c (.i .i64 1))),rg 65 (.slc 1 (.t 62) none (some (.t 64)) none),mv 8 65])
 (.pre (.norm false [8]) .ret))))))))))))
def b362:AX:=
 (.seq
 (.reg [rg 4 (.mov (.c (.i .i64 0)))])
 (.seq
 (.reg [mv 5 0,mv 6 1,rg 7 (.call 194 [(.t 5),(.t 6)]),mv 4 7])
 (.pre (.norm false [4]) .ret)))
def b345:AX:=
 (.seq
 (.reg [rg 4 (.mov (.c (.b false)))])
 (.seq
 (.reg [mv 5 0,mv 6 1,rg 7 (.call 123 [(.t 5),(.t 6)]),mv 4 7])
 (.pre (.norm false [4]) .ret)))
class CSplit (T:Tbl):Prop where
 h346:T 346=some ⟨2,8,[.t 4],b346,none,false⟩
 h354:T 354=some ⟨4,66,[.t 8],b354,none,false⟩
 h362:T 362=some ⟨2,8,[.t 4],b362,none,false⟩
 h345:T 345=some ⟨2,8,[.t 4],b345,none,false⟩
section
variable{T:Tbl}[CSplit T]{d:Option Nat}{st:St}{xs:List AV}{ps:List Opd}{e:Env}{h:Heap}{ol:List Heap}
@[simp] theorem x346:callX (orc T) T 346 xs d st=cP T 346 false xs d st:=zaa CSplit.h346
theorem f346(xs:List AV)(hn:xs.length=2):callF T 346 xs=retF [.t 4] false (evX (orc T) T 0 b346 ⟨argEnv xs,[],1⟩):=zac CSplit.h346 hn
@[simp] theorem x354:callX (orc T) T 354 xs d st=cP T 354 false xs d st:=zaa CSplit.h354
theorem f354(xs:List AV)(hn:xs.length=4):callF T 354 xs=retF [.t 8] false (evX (orc T) T 0 b354 ⟨argEnv xs,[],1⟩):=zac CSplit.h354 hn
@[simp] theorem x362:callX (orc T) T 362 xs d st=cP T 362 false xs d st:=zaa CSplit.h362
theorem f362(xs:List AV)(hn:xs.length=2):callF T 362 xs=retF [.t 4] false (evX (orc T) T 0 b362 ⟨argEnv xs,[],1⟩):=zac CSplit.h362 hn
@[simp] theorem y345:opD (orc T) T (.call 345 ps) e h ol=dP T 345 false ps e:=zas CSplit.h345
theorem f345(xs:List AV)(hn:xs.length=2):callF T 345 xs=retF [.t 4] false (evX (orc T) T 0 b345 ⟨argEnv xs,[],1⟩):=zac CSplit.h345 hn
end
def l258_0:AX:=
 (.note
 (.seq
 (.seq
 (.reg [mv 36 8,rg 37 (.bin .geq (.t 36) (.c (.i .i64 0)))])
 (.cond (.t 37)
 .skip
 (.exit 0)))
 (.seq
 (.block 1
 (.seq
 (.reg [mv 40 7,rg 41 (.call 357 [(.t 40)]),mv 7 41])
 (.seq
 (.reg [mv 42 1,mv 43 8,rg 44 (.bin .shr (.t 42) (.t 43)),rg 45 (.bin .and (.t 44) (.c (.i .i64 1))),rg 46 (.bin .eql (.t 45) (.c (.i .i64 1)))])
 (.cond (.t 46)
 (.reg [mv 47 7,mv 48 0,rg 49 (.call 60 [(.t 47),(.t 48)]),mv 7 49])
 .skip))))
 (.reg [mv 38 8,rg 39 (.bin .sub (.t 38) (.c (.i .i64 1))),mv 8 39])))
 (.norm false [0,1,7,8]))
def b258:AX:=
 (.seq
 (.reg [rg 4 (.mov (.c (.sl [] .nl))),rg 5 (.mov (.c (.b false)))])
 (.seq
 (.reg [mv 9 0,rg 10 (.call 356 [(.t 9)]),mv 6 10])
 (.seq
 (.seq
 (.reg [mv 11 1,rg 12 (.bin .lss (.t 11) (.c (.i .i64 0))),mv 13 12,gd 14 13 false (.mov (.t 6)),gd 15 13 false (.bin .gtr (.t 14) (.c (.i .i64 1))),gd 16 13 false (.mov (.t 15)),gd 17 16 true (.mov (.t 1)),gd 18 16 true (.mov (.t 6)),gd 19 16 true (.bin .quo (.c (.i .i64 65536)) (.t 18)),gd 20 16 true (.bin .gtr (.t 17) (.t 19)),gd 21 13 false (.pick (.t 16) (.t 20) (.c (.b false))),rg 22 (.pick (.t 13) (.c (.b true)) (.t 21))])
 (.cond (.t 22)
 (.seq
 (.reg [rg 4 (.mov (.c (.sl [] .nl))),rg 5 (.mov (.c (.b false)))])
 (.pre (.norm false [4,5]) .ret))
 .skip))
 (.seq
 (.reg [rg 23 (.call 72 [(.c (u64 1))]),mv 7 23])
 (.seq
 (.seq
 (.reg [mv 24 6,rg 25 (.bin .lss (.t 24) (.c (.i .i64 2)))])
 (.cond (.t 25)
 (.seq
 (.seq
 (.reg [mv 26 1,rg 27 (.bin .gtr (.t 26) (.c (.i .i64 0)))])
 (.cond (.t 27)
 (.reg [mv 28 0,rg 29 (.call 71 [(.t 28)]),mv 7 29])
 .skip))
 (.seq
 (.reg [mv 30 7,mv 4 30,rg 5 (.mov (.c (.b true)))])
 (.pre (.norm false [4,5]) .ret)))
 .skip))
 (.seq
 (.seq
 (.reg [mv 31 1,rg 32 (.conv .u64 (.t 31)),rg 33 (.call 72 [(.t 32)]),rg 34 (.call 356 [(.t 33)]),rg 35 (.bin .sub (.t 34) (.c (.i .i64 1))),mv 8 35])
 (.lp 0 (.norm false [0,1,7,8]) l258_0 (.norm false [7])))
 (.seq
 (.reg [mv 50 7,mv 4 50,rg 5 (.mov (.c (.b true)))])
 (.pre (.norm false [4,5]) .ret))))))))
def b356:AX:=
 (.seq
 (.reg [rg 2 (.mov (.c (.i .i64 0)))])
 (.seq
 (.reg [mv 4 0,rg 5 (.call 71 [(.t 4)]),mv 0 5])
 (.seq
 (.reg [mv 6 0,rg 7 (.len (.t 6)),mv 3 7])
 (.seq
 (.seq
 (.reg [mv 8 3,rg 9 (.bin .eql (.t 8) (.c (.i .i64 0)))])
 (.cond (.t 9)
 (.seq
 (.reg [rg 2 (.mov (.c (.i .i64 0)))])
 (.pre (.norm false [2]) .ret))
 .skip))
 (.seq
 (.reg [mv 10 3,rg 11 (.bin .sub (.t 10) (.c (.i .i64 1))),rg 12 (.bin .mul (.c (.i .i64 32)) (.t 11)),mv 13 0,mv 14 3,rg 15 (.bin .sub (.t 14) (.c (.i .i64 1))),rg 16 (.iad 1 (.t 13) (.t 15)),rg 17 (.load none (.t 16)),rg 18 (.call 91 [(.t 17)]),rg 19 (.bin .add (.t 12) (.t 18)),mv 2 19])
 (.pre (.norm false [2]) .ret))))))
def l357_0:AX:=
 (.note
 (.seq
 (.reg [rg 18 (.bin .lss (.t 17) (.t 16))])
 (.seq
 (.cond (.t 18)
 .skip
 (.exit 0))
 (.seq
 (.block 1
 (.seq
 (.reg [mv 19 17,rg 20 (.iad 1 (.t 15) (.t 17)),rg 21 (.load none (.t 20)),mv 4 19,mv 5 21])
 (.reg [mv 22 3,mv 23 4,rg 24 (.bin .mul (.c (.i .i64 2)) (.t 23)),rg 25 (.bin .add (.t 24) (.c (.i .i64 1))),mv 26 0,mv 27 4,rg 28 (.bin .add (.t 27) (.c (.i .i64 1))),rg 29 (.slc 1 (.t 26) (some (.t 28)) none none),mv 30 5,rg 31 (.call 89 [(.t 22),(.t 25),(.t 29),(.t 30),(.c (u32 0))])])))
 (.reg [rg 32 (.bin .add (.t 17) (.c (.i .i64 1))),mv 17 32]))))
 (.norm false [0,3,15,16,17]))
def l357_1:AX:=
 (.note
 (.seq
 (.reg [rg 42 (.bin .lss (.t 41) (.t 40))])
 (.seq
 (.cond (.t 42)
 .skip
 (.exit 2))
 (.seq
 (.block 3
 (.seq
 (.reg [mv 43 41,rg 44 (.iad 1 (.t 39) (.t 41)),rg 45 (.load none (.t 44)),mv 8 43,mv 9 45])
 (.reg [mv 47 7,mv 48 8,rg 49 (.bin .mul (.c (.i .i64 2)) (.t 48)),rg 50 (.bin .add (.t 49) (.c (.i .i64 1))),mv 51 7,mv 52 8,rg 53 (.bin .mul (.c (.i .i64 2)) (.t 52)),mv 54 9,mv 55 9,rg 56 (.call 117 [(.t 54),(.t 55),(.c (u32 0)),(.c (u32 0))]),mv 46 56,rg 57 (.ext (.t 46) 0),rg 58 (.ext (.t 46) 1),rg 59 (.iad 1 (.t 47) (.t 50)),so (.store 1 (.t 59) (.t 57)),rg 60 (.iad 1 (.t 51) (.t 53)),so (.store 1 (.t 60) (.t 58))])))
 (.reg [rg 61 (.bin .add (.t 41) (.c (.i .i64 1))),mv 41 61]))))
 (.norm false [6,7,39,40,41]))
def b357:AX:=
 (.seq
 (.reg [rg 2 (.mov (.c (.sl [] .nl)))])
 (.seq
 (.reg [mv 10 0,rg 11 (.len (.t 10)),rg 12 (.bin .mul (.c (.i .i64 2)) (.t 11)),rg 13 (.bin .add (.t 12) (.c (.i .i64 1))),rg 14 (.mks 1 [(u32 0)] (.t 13) (.t 13)),mv 3 14])
 (.seq
 (.seq
 (.reg [mv 15 0,rg 16 (.len (.t 15)),rg 17 (.mov (.c (.i .i64 0)))])
 (.lp 0 (.norm false [0,3,15,16,17]) l357_0 (.norm false [0,3])))
 (.seq
 (.reg [mv 33 3,rg 34 (.call 92 [(.t 33),(.c (.i .i64 1))]),mv 6 34])
 (.seq
 (.reg [mv 35 0,rg 36 (.len (.t 35)),rg 37 (.bin .mul (.c (.i .i64 2)) (.t 36)),rg 38 (.mks 1 [(u32 0)] (.t 37) (.t 37)),mv 7 38])
 (.seq
 (.seq
 (.reg [mv 39 0,rg 40 (.len (.t 39)),rg 41 (.mov (.c (.i .i64 0)))])
 (.lp 2 (.norm false [6,7,39,40,41]) l357_1 (.norm false [6,7])))
 (.seq
 (.reg [mv 62 6,mv 63 7,rg 64 (.bsl 1 [(.sl [] .nl)] 2 [(0,(.t 62)),(1,(.t 63))]),rg 65 (.call 56 [(.t 64)]),mv 2 65])
 (.pre (.norm false [2]) .ret))))))))
class CPow (T:Tbl):Prop where
 h258:T 258=some ⟨2,51,[.t 4,.t 5],b258,none,false⟩
 h356:T 356=some ⟨1,20,[.t 2],b356,none,false⟩
 h357:T 357=some ⟨1,66,[.t 2],b357,none,false⟩
section
variable{T:Tbl}[CPow T]{d:Option Nat}{st:St}{xs:List AV}{ps:List Opd}{e:Env}{h:Heap}{ol:List Heap}
@[simp] theorem x258:callX (orc T) T 258 xs d st=cP T 258 false xs d st:=zaa CPow.h258
theorem f258(xs:List AV)(hn:xs.length=2):callF T 258 xs=retF [.t 4,.t 5] false (evX (orc T) T 0 b258 ⟨argEnv xs,[],1⟩):=zac CPow.h258 hn
@[simp] theorem x356:callX (orc T) T 356 xs d st=cP T 356 false xs d st:=zaa CPow.h356
@[simp] theorem y356:opD (orc T) T (.call 356 ps) e h ol=dP T 356 false ps e:=zas CPow.h356
theorem f356(xs:List AV)(hn:xs.length=1):callF T 356 xs=retF [.t 2] false (evX (orc T) T 0 b356 ⟨argEnv xs,[],1⟩):=zac CPow.h356 hn
@[simp] theorem x357:callX (orc T) T 357 xs d st=cP T 357 false xs d st:=zaa CPow.h357
theorem f357(xs:List AV)(hn:xs.length=1):callF T 357 xs=retF [.t 2] false (evX (orc T) T 0 b357 ⟨argEnv xs,[],1⟩):=zac CPow.h357 hn
end
def b252:AX:=
 (.seq
 (.reg [rg 2 (.mov (.c (.sl [] .nl)))])
 (.seq
 (.reg [rg 6 (.call 72 [(.c (u64 10))]),mv 7 0,rg 8 (.call 258 [(.t 6),(.t 7)]),mv 5 8,rg 9 (.ext (.t 5) 0),rg 10 (.ext (.t 5) 1),mv 3 9,mv 4 10])
 (.seq
 (.reg [mv 11 3,mv 2 11])
 (.pre (.norm false [2]) .ret))))
def b253:AX:=
 (.seq
 (.reg [rg 4 (.mov (.c (.sl [] .nl))),rg 5 (.alloc [(.i .i64 0),(.i .i64 0),(.i .i64 0),(.i .i64 0)])])
 (.seq
 (.reg [mv 9 0,mv 10 1,rg 11 (.slstr (.t 9) (some (.t 10)) none),rg 12 (.call 65 [(.t 11)]),mv 8 12,rg 13 (.ext (.t 8) 0),rg 14 (.ext (.t 8) 1),rg 7 (.alloc [(.i .i64 0),(.i .i64 0),(.i .i64 0),(.i .i64 0)]),mv 6 13,so (.store 4 (.t 7) (.t 14))])
 (.seq
 (.seq
 (.reg [rg 15 (.load (some 4) (.t 7)),rg 16 (.build [(.i .i64 0),(.i .i64 0),(.i .i64 0),(.i .i64 0)] []),rg 17 (.eqs true [(0,.int),(1,.int),(2,.int),(3,.int)] (.t 15) (.t 16))])
 (.cond (.t 17)
 (.reg [rg 18 (.fad 3 (.t 7)),rg 19 (.load none (.t 18)),mv 20 1,rg 21 (.bin .add (.t 19) (.t 20)),rg 22 (.fad 3 (.t 7)),so (.store 1 (.t 22) (.t 21))])
 .skip))
 (.seq
 (.drawT [mv 23 6,rg 24 (.load (some 4) (.t 7)),mv 4 23]
 [so (.store 4 (.t 5) (.t 24))])
 (.pre (.norm false [4,5]) .ret)))))
def b254:AX:=
 (.seq
 (.reg [rg 3 (.xop (.box 2) [(.t 0)]),rg 6 (.alloc [(.b false),(.sl [] .nl),(.sl [] .nl)]),rg 7 (.alloc [(.i .i64 0),(.i .i64 0),(.i .i64 0),(.i .i64 0)])])
 (.seq
 (.reg [mv 13 1,mv 14 2,rg 15 (.call 253 [(.t 13),(.t 14)]),mv 12 15,rg 16 (.ext (.t 12) 0),rg 17 (.ext (.t 12) 1),rg 9 (.alloc [(.i .i64 0),(.i .i64 0),(.i .i64 0),(.i .i64 0)]),mv 8 16,so (.store 4 (.t 9) (.t 17))])
 (.seq
 (.seq
 (.reg [rg 18 (.load (some 4) (.t 9)),rg 19 (.build [(.i .i64 0),(.i .i64 0),(.i .i64 0),(.i .i64 0)] []),rg 20 (.eqs true [(0,.int),(1,.int),(2,.int),(3,.int)] (.t 18) (.t 19))])
 (.cond (.t 20)
 (.seq
 (.draw [⟨rg 21 (.call 205 [(.c (.i .i64 0))]),0,0⟩,⟨rg 22 (.load (some 4) (.t 9)),0,1⟩,⟨so (.store 3 (.t 6) (.t 21)),0,1⟩,⟨so (.store 4 (.t 7) (.t 22)),1,2⟩])
 (.pre (.norm false [6,7]) .ret))
 .skip))
 (.seq
 (.reg [rg 24 (.load (some 2) (.t 3)),mv 25 8,rg 26 (.call 204 [(.t 24),(.t 25)]),mv 23 26,rg 27 (.ext (.t 23) 0),rg 28 (.ext (.t 23) 1),rg 10 (.alloc [(.b false),(.sl [] .nl),(.sl [] .nl)]),so (.store 3 (.t 10) (.t 27)),mv 11 28])
 (.seq
 (.seq
 (.reg [mv 29 11,rg 30 (.un .not (.t 29))])
 (.cond (.t 30)
 (.seq
 (.reg [rg 31 (.load (some 3) (.t 10)),mv 32 2,rg 33 (.build [(.i .i64 0),(.i .i64 0),(.i .i64 0),(.i .i64 0)] [(0,1,(.c (.i .i64 2))),(3,1,(.t 32))]),so (.store 3 (.t 6) (.t 31)),so (.store 4 (.t 7) (.t 33))])
 (.pre (.norm false [6,7]) .ret))
 .skip))
 (.seq
 (.reg [rg 34 (.load (some 3) (.t 10)),rg 35 (.build [(.i .i64 0),(.i .i64 0),(.i .i64 0),(.i .i64 0)] []),so (.store 3 (.t 6) (.t 34)),so (.store 4 (.t 7) (.t 35))])
 (.pre (.norm false [6,7]) .ret)))))))
def b255:AX:=
 (.seq
 (.reg [rg 4 (.xop (.box 2) [(.t 0)]),rg 8 (.alloc [(.b false),(.sl [] .nl),(.sl [] .nl)]),rg 9 (.alloc [(.i .i64 0),(.i .i64 0),(.i .i64 0),(.i .i64 0)])])
 (.seq
 (.reg [mv 17 2,mv 18 3,rg 19 (.call 253 [(.t 17),(.t 18)]),mv 16 19,rg 20 (.ext (.t 16) 0),rg 21 (.ext (.t 16) 1),rg 11 (.alloc [(.i .i64 0),(.i .i64 0),(.i .i64 0),(.i .i64 0)]),mv 10 20,so (.store 4 (.t 11) (.t 21))])
 (.seq
 (.seq
 (.reg [rg 22 (.load (some 4) (.t 11)),rg 23 (.build [(.i .i64 0),(.i .i64 0),(.i .i64 0),(.i .i64 0)] []),rg 24 (.eqs true [(0,.int),(1,.int),(2,.int),(3,.int)] (.t 22) (.t 23))])
 (.cond (.t 24)
 (.seq
 (.draw [⟨rg 25 (.call 205 [(.c (.i .i64 0))]),0,0⟩,⟨rg 26 (.load (some 4) (.t 11)),0,1⟩,⟨so (.store 3 (.t 8) (.t 25)),0,1⟩,⟨so (.store 4 (.t 9) (.t 26)),1,2⟩])
 (.pre (.norm false [8,9]) .ret))
 .skip))
 (.seq
 (.reg [mv 27 2,rg 28 (.lens (.t 27)),mv 29 3,rg 30 (.bin .sub (.t 28) (.t 29)),rg 31 (.call 252 [(.t 30)]),mv 12 31])
 (.seq
 (.reg [rg 32 (.fad 1 (.t 4)),rg 33 (.load none (.t 32)),mv 34 12,rg 35 (.call 60 [(.t 33),(.t 34)]),mv 36 10,rg 37 (.bsl 1 [(.sl [] .nl)] 2 [(0,(.t 35)),(1,(.t 36))]),rg 38 (.call 56 [(.t 37)]),mv 13 38])
 (.seq
 (.reg [mv 40 1,mv 41 13,rg 42 (.build [(.b false),(.sl [] .nl)] [(0,1,(.t 40)),(1,1,(.t 41))]),mv 43 12,rg 44 (.call 204 [(.t 42),(.t 43)]),mv 39 44,rg 45 (.ext (.t 39) 0),rg 46 (.ext (.t 39) 1),rg 14 (.alloc [(.b false),(.sl [] .nl),(.sl [] .nl)]),so (.store 3 (.t 14) (.t 45)),mv 15 46])
 (.seq
 (.reg [rg 47 (.load (some 3) (.t 14)),rg 48 (.build [(.i .i64 0),(.i .i64 0),(.i .i64 0),(.i .i64 0)] []),so (.store 3 (.t 8) (.t 47)),so (.store 4 (.t 9) (.t 48))])
 (.pre (.norm false [8,9]) .ret))))))))
def b256:AX:=
 (.seq
 (.reg [rg 2 (.alloc [(.b false),(.sl [] .nl),(.sl [] .nl)]),rg 3 (.alloc [(.i .i64 0),(.i .i64 0),(.i .i64 0),(.i .i64 0)])])
 (.seq
 (.reg [mv 10 0,rg 11 (.call 344 [(.t 10),(.c (.s [47,46]))]),mv 4 11])
 (.seq
 (.reg [mv 12 0,mv 5 12])
 (.seq
 (.seq
 (.reg [mv 13 4,rg 14 (.bin .geq (.t 13) (.c (.i .i64 0)))])
 (.cond (.t 14)
 (.reg [mv 15 0,mv 16 4,rg 17 (.slstr (.t 15) none (some (.t 16))),mv 5 17])
 .skip))
 (.seq
 (.reg [mv 19 5,rg 20 (.call 32 [(.t 19)]),mv 18 20,rg 21 (.ext (.t 18) 0),rg 22 (.ext (.t 18) 1),rg 6 (.alloc [(.b false),(.sl [] .nl)]),rg 7 (.alloc [(.i .i64 0),(.i .i64 0),(.i .i64 0),(.i .i64 0)]),so (.store 2 (.t 6) (.t 21)),so (.store 4 (.t 7) (.t 22))])
 (.seq
 (.block 0
 (.seq
 (.reg [rg 24 (.load (some 4) (.t 7)),rg 25 (.build [(.i .i64 0),(.i .i64 0),(.i .i64 0),(.i .i64 0)] []),rg 26 (.eqs true [(0,.int),(1,.int),(2,.int),(3,.int)] (.t 24) (.t 25)),mv 23 26])
 (.cond (.t 23)
 (.seq
 (.draw [⟨rg 27 (.call 205 [(.c (.i .i64 0))]),0,0⟩,⟨rg 28 (.load (some 4) (.t 7)),0,1⟩,⟨so (.store 3 (.t 2) (.t 27)),0,1⟩,⟨so (.store 4 (.t 3) (.t 28)),1,2⟩])
 (.pre (.norm false [2,3]) .ret))
 (.seq
 (.reg [mv 30 4,rg 31 (.bin .lss (.t 30) (.c (.i .i64 0))),mv 29 31])
 (.cond (.t 29)
 (.seq
 (.draw [⟨rg 33 (.load (some 2) (.t 6)),0,1⟩,⟨rg 34 (.call 72 [(.c (u64 1))]),0,1⟩,⟨rg 35 (.call 204 [(.t 33),(.t 34)]),0,1⟩,⟨mv 32 35,0,1⟩,⟨rg 36 (.ext (.t 32) 0),0,1⟩,⟨rg 37 (.ext (.t 32) 1),0,2⟩,⟨rg 8 (.alloc [(.b false),(.sl [] .nl),(.sl [] .nl)]),0,1⟩,⟨so (.store 3 (.t 8) (.t 36)),1,2⟩,⟨mv 9 37,2,2⟩])
 (.seq
 (.reg [rg 38 (.load (some 3) (.t 8)),rg 39 (.build [(.i .i64 0),(.i .i64 0),(.i .i64 0),(.i .i64 0)] []),so (.store 3 (.t 2) (.t 38)),so (.store 4 (.t 3) (.t 39))])
 (.pre (.norm false [2,3]) .ret)))
 (.seq
 (.reg [mv 41 0,mv 42 4,rg 43 (.ixs (.t 41) (.t 42)),rg 44 (.bin .eql (.t 43) (.c (u8 47))),mv 40 44])
 (.cond (.t 40)
 (.seq
 (.reg [rg 45 (.load (some 2) (.t 6)),mv 46 0,mv 47 4,rg 48 (.bin .add (.t 47) (.c (.i .i64 1))),rg 49 (.call 254 [(.t 45),(.t 46),(.t 48)]),rg 50 (.ext (.t 49) 0),rg 51 (.ext (.t 49) 1),so (.store 3 (.t 2) (.t 50)),so (.store 4 (.t 3) (.t 51))])
 (.pre (.norm false [2,3]) .ret))
 .skip)))))))
 (.seq
 (.drawT [rg 52 (.load (some 2) (.t 6)),mv 53 0,rg 54 (.call 345 [(.t 53),(.c (.s [45]))]),mv 55 0,mv 56 4,rg 57 (.bin .add (.t 56) (.c (.i .i64 1))),rg 58 (.call 255 [(.t 52),(.t 54),(.t 55),(.t 57)]),rg 59 (.ext (.t 58) 0),rg 60 (.ext (.t 58) 1)]
 [so (.store 3 (.t 2) (.t 59)),so (.store 4 (.t 3) (.t 60))])
 (.pre (.norm false [2,3]) .ret))))))))
class CFig (T:Tbl):Prop where
 h252:T 252=some ⟨1,12,[.t 2],b252,none,false⟩
 h253:T 253=some ⟨2,25,[.t 4,.cell 5 (some 4)],b253,none,false⟩
 h254:T 254=some ⟨3,36,[.cell 6 (some 3),.cell 7 (some 4)],b254,none,false⟩
 h255:T 255=some ⟨4,49,[.cell 8 (some 3),.cell 9 (some 4)],b255,none,false⟩
 h256:T 256=some ⟨1,61,[.cell 2 (some 3),.cell 3 (some 4)],b256,none,false⟩
section
variable{T:Tbl}[CFig T]{d:Option Nat}{st:St}{xs:List AV}{ps:List Opd}{e:Env}{h:Heap}{ol:List Heap}
@[simp] theorem x252:callX (orc T) T 252 xs d st=cP T 252 false xs d st:=zaa CFig.h252
theorem f252(xs:List AV)(hn:xs.length=1):callF T 252 xs=retF [.t 2] false (evX (orc T) T 0 b252 ⟨argEnv xs,[],1⟩):=zac CFig.h252 hn
@[simp] theorem x253:callX (orc T) T 253 xs d st=cP T 253 false xs d st:=zaa CFig.h253
theorem f253(xs:List AV)(hn:xs.length=2):callF T 253 xs=retF [.t 4,.cell 5 (some 4)] false (evX (orc T) T 0 b253 ⟨argEnv xs,[],1⟩):=zac CFig.h253 hn
@[simp] theorem x254:callX (orc T) T 254 xs d st=cP T 254 false xs d st:=zaa CFig.h254
theorem f254(xs:List AV)(hn:xs.length=3):callF T 254 xs=retF [.cell 6 (some 3),.cell 7 (some 4)] false (evX (orc T) T 0 b254 ⟨argEnv xs,[],1⟩):=zac CFig.h254 hn
@[simp] theorem y255:opD (orc T) T (.call 255 ps) e h ol=dP T 255 false ps e:=zas CFig.h255
theorem f255(xs:List AV)(hn:xs.length=4):callF T 255 xs=retF [.cell 8 (some 3),.cell 9 (some 4)] false (evX (orc T) T 0 b255 ⟨argEnv xs,[],1⟩):=zac CFig.h255 hn
@[simp] theorem x256:callX (orc T) T 256 xs d st=cP T 256 false xs d st:=zaa CFig.h256
theorem f256(xs:List AV)(hn:xs.length=1):callF T 256 xs=retF [.cell 2 (some 3),.cell 3 (some 4)] false (evX (orc T) T 0 b256 ⟨argEnv xs,[],1⟩):=zac CFig.h256 hn
end
class CTape (T:Tbl):Prop where
class CGauge (T:Tbl):Prop where
class CEval (T:Tbl):Prop where
class CRun (T:Tbl):Prop where
def meths1:List RV:=[.cell 1 (some 445),.cell 2 (some 444),.cell 3 (some 441),.cell 4 (some 448),.cell 5 (some 443),.cell 6 (some 447),.cell 7 (some 446),.cell 8 (some 442)]
class CIfc (T:Tbl):Prop where
def isD(c:UInt8):Bool:=decide (48≤c.toNat)&&decide (c.toNat≤57)
def isL(c:UInt8):Bool:=decide (97≤c.toNat)&&decide (c.toNat≤122) || decide (65≤c.toNat)&&decide (c.toNat≤90) || decide (c.toNat=95)
def signB:List UInt8:=[43,45,42,47,94,40,41,91,93,44,59,61]
def isS(c:UInt8):Bool:=signB.contains c
def kindN(c:UInt8):Nat:=if isD c then 1 else if isL c then 2 else if isS c then 3 else 0
def moreN(k:Nat)(c:UInt8):Bool:=decide (k=1)&&isD c || decide (k=2)&&(isL c || isD c)
def mostN(k:Nat):Nat:=if k=1 then 60 else if k=2 then 12 else 1
def isB(c:UInt8):Bool:=decide (c=32) || decide (c=9) || decide (c=10) || decide (c=13)
abbrev Wd:=Nat×List UInt8×Nat
def skipC:Bool→List UInt8→Nat
 | _,[]=>0
 | note,c::r=>
  let note':=if c=35 then true else if c=10 then false else note
  if (note' || isB c)=true then 1+skipC note' r else 0
def firstN(k:Nat)(r:List UInt8):Nat:=1+(r.takeWhile (moreN k)).length
def scanL(l:List UInt8)(i:Nat)(acc:List Wd):Except Nat (List Wd):=
 match l with
 | []=>.ok acc
 | c::r=>
  if kindN c=0 then .error i
  else if mostN (kindN c)<firstN (kindN c) r then .error (i+mostN (kindN c))
  else scanL ((r.drop (firstN (kindN c) r-1)).drop (skipC false (r.drop (firstN (kindN c) r-1)))) (i+firstN (kindN c) r+skipC false (r.drop (firstN (kindN c) r-1)))
   (acc++[(kindN c,(c::r).take (firstN (kindN c) r),i)])
termination_by l.length
decreasing_by grind
def stepWd(c:UInt8)(i:Nat)(acc:List Wd):List Wd:=
 match acc.getLast? with
 | some (k,t,a)=>if a+t.length=i∧moreN k c=true then acc.dropLast++[(k,t++[c],a)] else acc++[(kindN c,[c],i)]
 | none=>acc++[(kindN c,[c],i)]
def badWd(acc:List Wd):Bool:=
 match acc.getLast? with
 | some (k,t,_)=>decide (k=0) || decide (mostN k<t.length)
 | none=>false
def refL:List UInt8→Nat→Bool→List Wd→Except Nat (List Wd)
 | [],_,_,acc=>.ok acc
 | c::r,i,note,acc=>
  let note':=if c=35 then true else if c=10 then false else note
  if (note' || isB c)=true then refL r (i+1) note' acc
  else if badWd (stepWd c i acc)=true then .error i
  else refL r (i+1) note' (stepWd c i acc)
def Fresh(acc:List Wd)(i:Nat)(l:List UInt8):Prop:=∀k t a,acc.getLast? = some (k,t,a)→a+t.length=i→∀c r,l=c::r→moreN k c=false
def prim187:List AV→Option AV
 | [.i .u8 n]=>if 0≤n∧n<256 then some (.b (isS (UInt8.ofNat n.toNat))) else none
 | _=>none
theorem zpk(c:UInt8):prim187 [u8 c.toNat]=some (.b (isS c)):=by
 have:=c.toNat_lt
 simp only[prim187,u8]
 rw[if_pos ⟨by omega,by omega⟩]
 simp
def prim184:List AV→Option AV
 | [.s l,.s [c]]=>if l.length≤1000000 then some (.tup [.s (l.takeWhile (· != c)),.s ((l.dropWhile (· != c)).drop 1),.b (l.contains c)]) else none
 | _=>none
theorem zfd(l:List UInt8)(h:l.length≤1000000){c:UInt8}:prim184 [.s l,.s [c]]=some (.tup [.s (l.takeWhile (· != c)),.s ((l.dropWhile (· != c)).drop 1),.b (l.contains c)]):=by
 simp only[prim184,h,if_true]
def textOf:List AV→Option (List UInt8)
 | [.s l]=>if l.length≤10000 then some l else none
 | _=>none
def prim183:List AV→Option AV
 | [.sl els .an,.s sep]=>if els.length≤1000∧sep.length≤100 then (els.mapM textOf).map fun ts=>.s (List.intercalate sep ts) else none
 | _=>none
def rowsT(l:List (List UInt8)):List (List AV):=l.map fun s=>[.s s]
@[simp] theorem zco(l:List (List UInt8)):(rowsT l).length=l.length:=by simp[rowsT]
@[simp] theorem zeu(l:List (List UInt8)):wkL (rowsT l)=rowsT l:=by
 induction l with
 | nil=>rfl
 | cons x l ih=>simpa[rowsT,wkL,wkR]using ih
class CJoin (T:Tbl):Prop where
class CRow (T:Tbl):Prop where
def l275_0:AX:=
 (.note
 (.seq
 (.reg [rg 17 (.bin .lss (.t 16) (.t 15))])
 (.seq
 (.cond (.t 17)
 .skip
 (.exit 0))
 (.seq
 (.block 1
 (.seq
 (.reg [rg 18 (.iad 1 (.t 14) (.t 16)),rg 19 (.load none (.t 18)),mv 7 19])
 (.seq
 (.reg [mv 21 7,rg 22 (.call 256 [(.t 21)]),mv 20 22,rg 23 (.ext (.t 20) 0),rg 24 (.ext (.t 20) 1),rg 8 (.alloc [(.b false),(.sl [] .nl),(.sl [] .nl)]),rg 9 (.alloc [(.i .i64 0),(.i .i64 0),(.i .i64 0),(.i .i64 0)]),so (.store 3 (.t 8) (.t 23)),so (.store 4 (.t 9) (.t 24))])
 (.seq
 (.seq
 (.reg [rg 25 (.load (some 4) (.t 9)),rg 26 (.build [(.i .i64 0),(.i .i64 0),(.i .i64 0),(.i .i64 0)] []),rg 27 (.eqs true [(0,.int),(1,.int),(2,.int),(3,.int)] (.t 25) (.t 26))])
 (.cond (.t 27)
 (.seq
 (.reg [rg 28 (.fad 3 (.t 9)),rg 29 (.load none (.t 28)),mv 30 5,rg 31 (.bin .add (.t 29) (.t 30)),rg 32 (.fad 3 (.t 9)),so (.store 1 (.t 32) (.t 31))])
 (.seq
 (.drawT [rg 33 (.load (some 4) (.t 9)),rg 2 (.mov (.c (.sl [] .nl)))]
 [so (.store 4 (.t 3) (.t 33))])
 (.pre (.norm false [2,3]) .ret)))
 .skip))
 (.seq
 (.reg [mv 34 4,rg 35 (.load (some 3) (.t 8)),rg 36 (.bsl 3 [(.b false),(.sl [] .nl),(.sl [] .nl)] 1 [(0,(.t 35))]),rg 37 (.app 3 (.t 34) (.t 36)),mv 4 37])
 (.reg [mv 38 5,mv 39 7,rg 40 (.lens (.t 39)),rg 41 (.bin .add (.t 40) (.c (.i .i64 1))),rg 42 (.bin .add (.t 38) (.t 41)),mv 5 42]))))))
 (.reg [rg 43 (.bin .add (.t 16) (.c (.i .i64 1))),mv 16 43]))))
 (.norm false [3,4,5,14,15,16]))
def b275:AX:=
 (.seq
 (.reg [rg 2 (.mov (.c (.sl [] .nl))),rg 3 (.alloc [(.i .i64 0),(.i .i64 0),(.i .i64 0),(.i .i64 0)])])
 (.seq
 (.seq
 (.reg [mv 10 0,rg 11 (.bin .eql (.t 10) (.c (.s [])))])
 (.cond (.t 11)
 (.seq
 (.reg [rg 12 (.build [(.i .i64 0),(.i .i64 0),(.i .i64 0),(.i .i64 0)] []),rg 2 (.mov (.c (.sl [] .nl))),so (.store 4 (.t 3) (.t 12))])
 (.pre (.norm false [2,3]) .ret))
 .skip))
 (.seq
 (.note (.reg [rg 4 (.mov (.c (.sl [] .nl)))]) (.nil 4 3))
 (.seq
 (.reg [rg 5 (.mov (.c (.i .i64 0)))])
 (.seq
 (.seq
 (.reg [mv 13 0,rg 14 (.call 346 [(.t 13),(.c (.s [44]))]),rg 15 (.len (.t 14)),rg 16 (.mov (.c (.i .i64 0)))])
 (.lp 0 (.norm false [3,4,5,14,15,16]) l275_0 (.norm false [3,4])))
 (.seq
 (.reg [mv 44 4,rg 45 (.build [(.i .i64 0),(.i .i64 0),(.i .i64 0),(.i .i64 0)] []),mv 2 44,so (.store 4 (.t 3) (.t 45))])
 (.pre (.norm false [2,3]) .ret)))))))
class CRow2 (T:Tbl):Prop where
 h275:T 275=some ⟨1,46,[.t 2,.cell 3 (some 4)],b275,none,false⟩
section
variable{T:Tbl}[CRow2 T]{d:Option Nat}{st:St}{xs:List AV}{ps:List Opd}{e:Env}{h:Heap}{ol:List Heap}
@[simp] theorem x275:callX (orc T) T 275 xs d st=cP T 275 false xs d st:=zaa CRow2.h275
theorem f275(xs:List AV)(hn:xs.length=1):callF T 275 xs=retF [.t 2,.cell 3 (some 4)] false (evX (orc T) T 0 b275 ⟨argEnv xs,[],1⟩):=zac CRow2.h275 hn
end
class CRow5 (T:Tbl):Prop where
def b185:AX:=
 (.seq
 (.reg [rg 2 (.mov (.c (.b false)))])
 (.seq
 (.reg [mv 3 0,rg 4 (.bin .geq (.t 3) (.c (u8 48))),mv 5 4,gd 6 5 true (.mov (.t 0)),gd 7 5 true (.bin .leq (.t 6) (.c (u8 57))),rg 8 (.pick (.t 5) (.t 7) (.c (.b false))),mv 2 8])
 (.pre (.norm false [2]) .ret)))
def b186:AX:=
 (.seq
 (.reg [rg 2 (.mov (.c (.b false)))])
 (.seq
 (.reg [mv 3 0,rg 4 (.bin .geq (.t 3) (.c (u8 97))),mv 5 4,gd 6 5 true (.mov (.t 0)),gd 7 5 true (.bin .leq (.t 6) (.c (u8 122))),rg 8 (.pick (.t 5) (.t 7) (.c (.b false))),mv 9 8,gd 10 9 false (.mov (.t 0)),gd 11 9 false (.bin .geq (.t 10) (.c (u8 65))),gd 12 9 false (.mov (.t 11)),gd 13 12 true (.mov (.t 0)),gd 14 12 true (.bin .leq (.t 13) (.c (u8 90))),gd 15 9 false (.pick (.t 12) (.t 14) (.c (.b false))),rg 16 (.pick (.t 9) (.c (.b true)) (.t 15)),mv 17 16,gd 18 17 false (.mov (.t 0)),gd 19 17 false (.bin .eql (.t 18) (.c (u8 95))),rg 20 (.pick (.t 17) (.c (.b true)) (.t 19)),mv 2 20])
 (.pre (.norm false [2]) .ret)))
def b177:AX:=
 (.seq
 (.reg [rg 2 (.mov (.c (.i .i64 0)))])
 (.seq
 (.block 0
 (.seq
 (.reg [mv 4 0,rg 5 (.call 185 [(.t 4)]),mv 3 5])
 (.cond (.t 3)
 (.seq
 (.reg [rg 2 (.mov (.c (.i .i64 1)))])
 (.pre (.norm false [2]) .ret))
 (.seq
 (.reg [mv 7 0,rg 8 (.call 186 [(.t 7)]),mv 6 8])
 (.cond (.t 6)
 (.seq
 (.reg [rg 2 (.mov (.c (.i .i64 2)))])
 (.pre (.norm false [2]) .ret))
 (.seq
 (.reg [mv 10 0,rg 11 (.call 187 [(.t 10)]),mv 9 11])
 (.cond (.t 9)
 (.seq
 (.reg [rg 2 (.mov (.c (.i .i64 3)))])
 (.pre (.norm false [2]) .ret))
 .skip)))))))
 (.seq
 (.reg [rg 2 (.mov (.c (.i .i64 0)))])
 (.pre (.norm false [2]) .ret))))
def b188:AX:=
 (.seq
 (.reg [rg 4 (.mov (.c (.b false)))])
 (.seq
 (.reg [mv 5 0,rg 6 (.bin .eql (.t 5) (.c (.i .i64 1))),mv 7 6,gd 8 7 true (.mov (.t 1)),gd 9 7 true (.call 185 [(.t 8)]),rg 10 (.pick (.t 7) (.t 9) (.c (.b false))),mv 11 10,gd 12 11 false (.mov (.t 0)),gd 13 11 false (.bin .eql (.t 12) (.c (.i .i64 2))),gd 14 11 false (.mov (.t 13)),gd 15 14 true (.mov (.t 1)),gd 16 14 true (.call 186 [(.t 15)]),gd 17 14 true (.mov (.t 16)),gd 18 17 false (.mov (.t 1)),gd 19 17 false (.call 185 [(.t 18)]),gd 20 14 true (.pick (.t 17) (.c (.b true)) (.t 19)),gd 21 11 false (.pick (.t 14) (.t 20) (.c (.b false))),rg 22 (.pick (.t 11) (.c (.b true)) (.t 21)),mv 4 22])
 (.pre (.norm false [4]) .ret)))
def b179:AX:=
 (.seq
 (.reg [rg 2 (.mov (.c (.i .i64 0)))])
 (.seq
 (.seq
 (.reg [mv 3 0])
 (.block 0
 (.seq
 (.reg [rg 5 (.bin .eql (.t 3) (.c (.i .i64 1))),mv 4 5])
 (.cond (.t 4)
 (.seq
 (.reg [rg 2 (.mov (.c (.i .i64 60)))])
 (.pre (.norm false [2]) .ret))
 (.seq
 (.reg [rg 7 (.bin .eql (.t 3) (.c (.i .i64 2))),mv 6 7])
 (.cond (.t 6)
 (.seq
 (.reg [rg 2 (.mov (.c (.i .i64 12)))])
 (.pre (.norm false [2]) .ret))
 .skip))))))
 (.seq
 (.reg [rg 2 (.mov (.c (.i .i64 1)))])
 (.pre (.norm false [2]) .ret))))
def l178_0:AX:=
 (.note
 (.seq
 (.seq
 (.reg [mv 6 5,mv 7 0,rg 8 (.lens (.t 7)),rg 9 (.bin .lss (.t 6) (.t 8)),mv 10 9,gd 11 10 true (.mov (.t 1)),gd 12 10 true (.mov (.t 0)),gd 13 10 true (.mov (.t 5)),gd 14 10 true (.ixs (.t 12) (.t 13)),gd 15 10 true (.call 188 [(.t 11),(.t 14)]),rg 16 (.pick (.t 10) (.t 15) (.c (.b false)))])
 (.cond (.t 16)
 .skip
 (.exit 0)))
 (.block 1
 (.reg [mv 17 5,rg 18 (.bin .add (.t 17) (.c (.i .i64 1))),mv 5 18])))
 (.norm false [0,1,5]))
def b178:AX:=
 (.seq
 (.reg [rg 4 (.mov (.c (.i .i64 0)))])
 (.seq
 (.reg [rg 5 (.mov (.c (.i .i64 1)))])
 (.seq
 (.lp 0 (.norm false [0,1,5]) l178_0 (.norm false [5]))
 (.seq
 (.reg [mv 19 5,mv 4 19])
 (.pre (.norm false [4]) .ret)))))
def b172:AX:=
 (.seq
 (.reg [rg 1 (.xop (.box 3) [(.t 0)]),rg 2 (.mov (.c (.b false)))])
 (.seq
 (.seq
 (.drawT [rg 3 (.fad 1 (.t 1)),rg 4 (.load none (.t 3)),rg 5 (.bin .eql (.t 4) (.c (.s []))),mv 6 5,gd 7 6 false (.fad 0 (.t 1)),gd 8 6 false (.load none (.t 7)),gd 9 6 false (.bin .eql (.t 8) (.c (.i .i64 0))),rg 10 (.pick (.t 6) (.c (.b true)) (.t 9)),mv 11 10,gd 12 11 false (.fad 1 (.t 1)),gd 13 11 false (.load none (.t 12)),gd 14 11 false (.ixs (.t 13) (.c (.i .i64 0))),gd 15 11 false (.call 177 [(.t 14)]),gd 16 11 false (.fad 0 (.t 1)),gd 17 11 false (.load none (.t 16))]
 [gd 18 11 false (.bin .neq (.t 15) (.t 17)),rg 19 (.pick (.t 11) (.c (.b true)) (.t 18))])
 (.cond (.t 19)
 (.seq
 (.reg [rg 2 (.mov (.c (.b false)))])
 (.pre (.norm false [2]) .ret))
 .skip))
 (.seq
 (.drawT [rg 20 (.fad 1 (.t 1)),rg 21 (.load none (.t 20)),rg 22 (.fad 0 (.t 1)),rg 23 (.load none (.t 22)),rg 24 (.call 178 [(.t 21),(.t 23)]),rg 25 (.fad 1 (.t 1)),rg 26 (.load none (.t 25)),rg 27 (.lens (.t 26)),rg 28 (.bin .eql (.t 24) (.t 27)),mv 29 28,gd 30 29 true (.fad 1 (.t 1)),gd 31 29 true (.load none (.t 30)),gd 32 29 true (.lens (.t 31)),gd 33 29 true (.fad 0 (.t 1)),gd 34 29 true (.load none (.t 33)),gd 35 29 true (.call 179 [(.t 34)])]
 [gd 36 29 true (.bin .leq (.t 32) (.t 35)),rg 37 (.pick (.t 29) (.t 36) (.c (.b false))),mv 2 37])
 (.pre (.norm false [2]) .ret))))
class CLex (T:Tbl):Prop where
 h185:T 185=some ⟨1,9,[.t 2],b185,none,false⟩
 h186:T 186=some ⟨1,21,[.t 2],b186,none,false⟩
 h187:T 187=some ⟨0,0,[],.prim prim187,none,false⟩
 h177:T 177=some ⟨1,12,[.t 2],b177,none,false⟩
 h188:T 188=some ⟨2,23,[.t 4],b188,none,false⟩
 h179:T 179=some ⟨1,8,[.t 2],b179,none,false⟩
 h178:T 178=some ⟨2,20,[.t 4],b178,none,false⟩
 h172:T 172=some ⟨1,38,[.t 2],b172,none,false⟩
 h184:T 184=some ⟨0,0,[],.prim prim184,none,false⟩
section
variable{T:Tbl}[CLex T]{d:Option Nat}{st:St}{xs:List AV}{ps:List Opd}{e:Env}{h:Heap}{ol:List Heap}
@[simp] theorem x185:callX (orc T) T 185 xs d st=cP T 185 false xs d st:=zaa CLex.h185
theorem f185(xs:List AV)(hn:xs.length=1):callF T 185 xs=retF [.t 2] false (evX (orc T) T 0 b185 ⟨argEnv xs,[],1⟩):=zac CLex.h185 hn
@[simp] theorem x186:callX (orc T) T 186 xs d st=cP T 186 false xs d st:=zaa CLex.h186
theorem f186(xs:List AV)(hn:xs.length=1):callF T 186 xs=retF [.t 2] false (evX (orc T) T 0 b186 ⟨argEnv xs,[],1⟩):=zac CLex.h186 hn
@[simp] theorem x187:callX (orc T) T 187 xs d st=cP T 187 false xs d st:=zaa CLex.h187
theorem p187(xs:List AV):callF T 187 xs=prim187 xs:=zcu CLex.h187
@[simp] theorem y177:opD (orc T) T (.call 177 ps) e h ol=dP T 177 false ps e:=zas CLex.h177
theorem f177(xs:List AV)(hn:xs.length=1):callF T 177 xs=retF [.t 2] false (evX (orc T) T 0 b177 ⟨argEnv xs,[],1⟩):=zac CLex.h177 hn
@[simp] theorem x188:callX (orc T) T 188 xs d st=cP T 188 false xs d st:=zaa CLex.h188
theorem f188(xs:List AV)(hn:xs.length=2):callF T 188 xs=retF [.t 4] false (evX (orc T) T 0 b188 ⟨argEnv xs,[],1⟩):=zac CLex.h188 hn
@[simp] theorem y179:opD (orc T) T (.call 179 ps) e h ol=dP T 179 false ps e:=zas CLex.h179
theorem f179(xs:List AV)(hn:xs.length=1):callF T 179 xs=retF [.t 2] false (evX (orc T) T 0 b179 ⟨argEnv xs,[],1⟩):=zac CLex.h179 hn
@[simp] theorem y178:opD (orc T) T (.call 178 ps) e h ol=dP T 178 false ps e:=zas CLex.h178
theorem f178(xs:List AV)(hn:xs.length=2):callF T 178 xs=retF [.t 4] false (evX (orc T) T 0 b178 ⟨argEnv xs,[],1⟩):=zac CLex.h178 hn
@[simp] theorem x172:callX (orc T) T 172 xs d st=cP T 172 false xs d st:=zaa CLex.h172
theorem f172(xs:List AV)(hn:xs.length=1):callF T 172 xs=retF [.t 2] false (evX (orc T) T 0 b172 ⟨argEnv xs,[],1⟩):=zac CLex.h172 hn
@[simp] theorem x184:callX (orc T) T 184 xs d st=cP T 184 false xs d st:=zaa CLex.h184
theorem p184(xs:List AV):callF T 184 xs=prim184 xs:=zcu CLex.h184
end
def b536:AX:=
 (.seq
 (.reg [rg 1 (.xop (.box 5) [(.t 0)]),rg 2 (.mov (.c (.b false)))])
 (.seq
 (.reg [rg 3 (.load (some 5) (.t 1)),rg 4 (.call 551 [(.t 3)]),rg 5 (.bin .eql (.t 4) (.c (.i .i64 0))),mv 2 5])
 (.pre (.norm false [2]) .ret)))
def b551:AX:=
 (.seq
 (.reg [rg 1 (.xop (.box 5) [(.t 0)]),rg 2 (.mov (.c (.i .i64 0)))])
 (.seq
 (.reg [rg 4 (.call 205 [(.c (.i .i64 1))]),rg 3 (.alloc [(.b false),(.sl [] .nl),(.sl [] .nl)]),so (.store 3 (.t 3) (.t 4))])
 (.seq
 (.block 0
 (.seq
 (.reg [rg 6 (.fad 0 (.t 1)),rg 7 (.load none (.t 6)),rg 8 (.build [(.i .i64 0),(.s []),(.i .i64 0)] [(0,1,(.c (.i .i64 2))),(1,1,(.t 7))]),rg 9 (.call 172 [(.t 8)]),rg 10 (.un .not (.t 9)),mv 5 10])
 (.cond (.t 5)
 (.seq
 (.reg [rg 2 (.mov (.c (.i .i64 1)))])
 (.pre (.norm false [2]) .ret))
 (.seq
 (.reg [rg 12 (.load (some 5) (.t 1)),rg 13 (.call 559 [(.t 12)]),rg 14 (.un .not (.t 13)),mv 11 14])
 (.cond (.t 11)
 (.seq
 (.reg [rg 2 (.mov (.c (.i .i64 2)))])
 (.pre (.norm false [2]) .ret))
 (.seq
 (.reg [rg 16 (.fad 2 (.t 1)),rg 17 (.load none (.t 16)),rg 18 (.call 560 [(.t 17)]),rg 19 (.un .not (.t 18)),mv 20 19,gd 21 20 false (.fad 3 (.t 1)),gd 22 20 false (.load none (.t 21)),gd 23 20 false (.fad 1 (.t 1)),gd 24 20 false (.load none (.t 23)),gd 25 20 false (.fad 4 (.t 1)),gd 26 20 false (.load none (.t 25)),gd 27 20 false (.bsl 1 [(.sl [] .nl)] 3 [(0,(.t 22)),(1,(.t 24)),(2,(.t 26))]),gd 28 20 false (.call 560 [(.t 27)]),gd 29 20 false (.un .not (.t 28)),rg 30 (.pick (.t 20) (.c (.b true)) (.t 29)),mv 15 30])
 (.cond (.t 15)
 (.seq
 (.reg [rg 2 (.mov (.c (.i .i64 3)))])
 (.pre (.norm false [2]) .ret))
 (.seq
 (.reg [rg 32 (.load (some 5) (.t 1)),rg 33 (.call 561 [(.t 32)]),rg 34 (.un .not (.t 33)),mv 31 34])
 (.cond (.t 31)
 (.seq
 (.reg [rg 2 (.mov (.c (.i .i64 4)))])
 (.pre (.norm false [2]) .ret))
 (.seq
 (.drawT [rg 36 (.fad 3 (.t 1)),rg 37 (.load none (.t 36)),rg 38 (.call 562 [(.t 37)]),rg 39 (.load (some 3) (.t 3))]
 [rg 40 (.call 212 [(.t 38),(.t 39)]),rg 41 (.un .not (.t 40)),mv 35 41])
 (.cond (.t 35)
 (.seq
 (.reg [rg 2 (.mov (.c (.i .i64 5)))])
 (.pre (.norm false [2]) .ret))
 (.seq
 (.drawT [rg 43 (.fad 4 (.t 1)),rg 44 (.load none (.t 43)),rg 45 (.len (.t 44)),rg 46 (.bin .gtr (.t 45) (.c (.i .i64 0))),mv 47 46,gd 48 47 true (.fad 4 (.t 1)),gd 49 47 true (.load none (.t 48)),gd 50 47 true (.call 562 [(.t 49)]),gd 51 47 true (.load (some 3) (.t 3))]
 [gd 52 47 true (.call 212 [(.t 50),(.t 51)]),gd 53 47 true (.un .not (.t 52)),rg 54 (.pick (.t 47) (.t 53) (.c (.b false))),mv 42 54])
 (.cond (.t 42)
 (.seq
 (.reg [rg 2 (.mov (.c (.i .i64 6)))])
 (.pre (.norm false [2]) .ret))
 .skip)))))))))))))
 (.seq
 (.reg [rg 2 (.mov (.c (.i .i64 0)))])
 (.pre (.norm false [2]) .ret)))))
def l559_0:AX:=
 (.note
 (.seq
 (.reg [rg 46 (.bin .lss (.t 45) (.t 44))])
 (.seq
 (.cond (.t 46)
 .skip
 (.exit 0))
 (.seq
 (.block 1
 (.seq
 (.reg [mv 47 45,rg 48 (.iad 1 (.t 43) (.t 45)),rg 49 (.load none (.t 48)),mv 4 47,mv 5 49])
 (.seq
 (.reg [mv 50 5,rg 51 (.len (.t 50)),mv 52 4,rg 53 (.bin .neq (.t 51) (.t 52))])
 (.cond (.t 53)
 (.seq
 (.reg [rg 2 (.mov (.c (.b false)))])
 (.pre (.norm false [2]) .ret))
 .skip))))
 (.reg [rg 54 (.bin .add (.t 45) (.c (.i .i64 1))),mv 45 54]))))
 (.norm false [43,44,45]))
def b559:AX:=
 (.seq
 (.reg [rg 1 (.xop (.box 5) [(.t 0)]),rg 2 (.mov (.c (.b false)))])
 (.seq
 (.reg [rg 6 (.fad 3 (.t 1)),rg 7 (.load none (.t 6)),rg 8 (.len (.t 7)),mv 3 8])
 (.seq
 (.seq
 (.reg [mv 9 3,rg 10 (.bin .lss (.t 9) (.c (.i .i64 1))),mv 11 10,gd 12 11 false (.mov (.t 3)),gd 13 11 false (.bin .gtr (.t 12) (.c (.i .i64 8))),rg 14 (.pick (.t 11) (.c (.b true)) (.t 13)),mv 15 14,gd 16 15 false (.fad 1 (.t 1)),gd 17 15 false (.load none (.t 16)),gd 18 15 false (.len (.t 17)),gd 19 15 false (.mov (.t 3)),gd 20 15 false (.bin .neq (.t 18) (.t 19)),rg 21 (.pick (.t 15) (.c (.b true)) (.t 20)),mv 22 21,gd 23 22 false (.fad 2 (.t 1)),gd 24 22 false (.load none (.t 23)),gd 25 22 false (.len (.t 24)),gd 26 22 false (.mov (.t 3)),gd 27 22 false (.bin .neq (.t 25) (.t 26)),rg 28 (.pick (.t 22) (.c (.b true)) (.t 27)),mv 29 28,gd 30 29 false (.fad 4 (.t 1)),gd 31 29 false (.load none (.t 30)),gd 32 29 false (.len (.t 31)),gd 33 29 false (.mov (.t 3)),gd 34 29 false (.bin .neq (.t 32) (.t 33)),gd 35 29 false (.mov (.t 34)),gd 36 35 true (.fad 4 (.t 1)),gd 37 35 true (.load none (.t 36)),gd 38 35 true (.len (.t 37)),gd 39 35 true (.bin .neq (.t 38) (.c (.i .i64 0))),gd 40 29 false (.pick (.t 35) (.t 39) (.c (.b false))),rg 41 (.pick (.t 29) (.c (.b true)) (.t 40))])
 (.cond (.t 41)
 (.seq
 (.reg [rg 2 (.mov (.c (.b false)))])
 (.pre (.norm false [2]) .ret))
 .skip))
 (.seq
 (.seq
 (.reg [rg 42 (.fad 2 (.t 1)),rg 43 (.load none (.t 42)),rg 44 (.len (.t 43)),rg 45 (.mov (.c (.i .i64 0)))])
 (.lp 0 (.norm false [43,44,45]) l559_0 (.norm false [])))
 (.seq
 (.reg [rg 2 (.mov (.c (.b true)))])
 (.pre (.norm false [2]) .ret))))))
def l560_0:AX:=
 (.note
 (.seq
 (.reg [rg 16 (.bin .lss (.t 15) (.t 14))])
 (.seq
 (.cond (.t 16)
 .skip
 (.exit 2))
 (.seq
 (.block 3
 (.seq
 (.reg [rg 17 (.iad 3 (.t 13) (.t 15)),rg 18 (.load (some 3) (.t 17)),rg 6 (.alloc [(.b false),(.sl [] .nl),(.sl [] .nl)]),so (.store 3 (.t 6) (.t 18))])
 (.seq
 (.reg [rg 19 (.load (some 3) (.t 6)),rg 20 (.call 208 [(.t 19)]),rg 21 (.un .not (.t 20)),mv 22 21,gd 23 22 false (.load (some 3) (.t 6)),gd 24 22 false (.call 223 [(.t 23)]),gd 25 22 false (.bin .gtr (.t 24) (.c (.i .i64 190))),rg 26 (.pick (.t 22) (.c (.b true)) (.t 25))])
 (.cond (.t 26)
 (.seq
 (.reg [rg 2 (.mov (.c (.b false)))])
 (.pre (.norm false [2]) .ret))
 .skip))))
 (.reg [rg 27 (.bin .add (.t 15) (.c (.i .i64 1))),mv 15 27]))))
 (.norm false [7,8,9,13,14,15]))
def l560_1:AX:=
 (.note
 (.seq
 (.reg [rg 10 (.bin .lss (.t 9) (.t 8))])
 (.seq
 (.cond (.t 10)
 .skip
 (.exit 0))
 (.seq
 (.block 1
 (.seq
 (.reg [rg 11 (.iad 1 (.t 7) (.t 9)),rg 12 (.load none (.t 11)),mv 4 12])
 (.seq
 (.reg [mv 13 4,rg 14 (.len (.t 13)),rg 15 (.mov (.c (.i .i64 0)))])
 (.lp 2 (.norm false [7,8,9,13,14,15]) l560_0 (.norm false [7,8,9])))))
 (.reg [rg 28 (.bin .add (.t 9) (.c (.i .i64 1))),mv 9 28]))))
 (.norm false [7,8,9]))
def b560:AX:=
 (.seq
 (.reg [rg 2 (.mov (.c (.b false)))])
 (.seq
 (.seq
 (.reg [mv 7 0,rg 8 (.len (.t 7)),rg 9 (.mov (.c (.i .i64 0)))])
 (.lp 0 (.norm false [7,8,9]) l560_1 (.norm false [])))
 (.seq
 (.reg [rg 2 (.mov (.c (.b true)))])
 (.pre (.norm false [2]) .ret))))
def l561_0:AX:=
 (.note
 (.seq
 (.reg [rg 9 (.bin .lss (.t 8) (.t 7))])
 (.seq
 (.cond (.t 9)
 .skip
 (.exit 0))
 (.seq
 (.block 1
 (.seq
 (.reg [mv 10 8,rg 11 (.iad 1 (.t 6) (.t 8)),rg 12 (.load none (.t 11)),mv 3 10,mv 4 12])
 (.seq
 (.drawT [mv 13 4,rg 14 (.call 562 [(.t 13)]),rg 15 (.fad 1 (.t 1)),rg 16 (.load none (.t 15)),mv 17 3,rg 18 (.iad 3 (.t 16) (.t 17)),rg 19 (.load (some 3) (.t 18))]
 [rg 20 (.call 212 [(.t 14),(.t 19)]),rg 21 (.un .not (.t 20))])
 (.cond (.t 21)
 (.seq
 (.reg [rg 2 (.mov (.c (.b false)))])
 (.pre (.norm false [2]) .ret))
 .skip))))
 (.reg [rg 22 (.bin .add (.t 8) (.c (.i .i64 1))),mv 8 22]))))
 (.norm false [1,6,7,8]))
def b561:AX:=
 (.seq
 (.reg [rg 1 (.xop (.box 5) [(.t 0)]),rg 2 (.mov (.c (.b false)))])
 (.seq
 (.seq
 (.reg [rg 5 (.fad 2 (.t 1)),rg 6 (.load none (.t 5)),rg 7 (.len (.t 6)),rg 8 (.mov (.c (.i .i64 0)))])
 (.lp 0 (.norm false [1,6,7,8]) l561_0 (.norm false [])))
 (.seq
 (.reg [rg 2 (.mov (.c (.b true)))])
 (.pre (.norm false [2]) .ret))))
def l562_0:AX:=
 (.note
 (.seq
 (.reg [rg 10 (.bin .lss (.t 9) (.t 8))])
 (.seq
 (.cond (.t 10)
 .skip
 (.exit 0))
 (.seq
 (.block 1
 (.seq
 (.reg [rg 11 (.iad 3 (.t 7) (.t 9)),rg 12 (.load (some 3) (.t 11)),rg 5 (.alloc [(.b false),(.sl [] .nl),(.sl [] .nl)]),so (.store 3 (.t 5) (.t 12))])
 (.reg [rg 13 (.load (some 3) (.t 3)),rg 14 (.load (some 3) (.t 5)),rg 15 (.call 215 [(.t 13),(.t 14)]),so (.store 3 (.t 3) (.t 15))])))
 (.reg [rg 16 (.bin .add (.t 9) (.c (.i .i64 1))),mv 9 16]))))
 (.norm false [2,3,7,8,9]))
def b562:AX:=
 (.seq
 (.reg [rg 2 (.alloc [(.b false),(.sl [] .nl),(.sl [] .nl)])])
 (.seq
 (.reg [rg 6 (.call 205 [(.c (.i .i64 0))]),rg 3 (.alloc [(.b false),(.sl [] .nl),(.sl [] .nl)]),so (.store 3 (.t 3) (.t 6))])
 (.seq
 (.seq
 (.reg [mv 7 0,rg 8 (.len (.t 7)),rg 9 (.mov (.c (.i .i64 0)))])
 (.lp 0 (.norm false [2,3,7,8,9]) l562_0 (.norm false [2,3])))
 (.seq
 (.reg [rg 17 (.load (some 3) (.t 3)),so (.store 3 (.t 2) (.t 17))])
 (.pre (.norm false [2]) .ret)))))
class CScheme (T:Tbl):Prop where
 h536:T 536=some ⟨1,6,[.t 2],b536,none,false⟩
 h551:T 551=some ⟨1,55,[.t 2],b551,none,false⟩
 h559:T 559=some ⟨1,55,[.t 2],b559,none,false⟩
 h560:T 560=some ⟨1,29,[.t 2],b560,none,false⟩
 h561:T 561=some ⟨1,23,[.t 2],b561,none,false⟩
 h562:T 562=some ⟨1,18,[.cell 2 (some 3)],b562,none,false⟩
section
variable{T:Tbl}[CScheme T]{d:Option Nat}{st:St}{xs:List AV}{ps:List Opd}{e:Env}{h:Heap}{ol:List Heap}
@[simp] theorem x536:callX (orc T) T 536 xs d st=cP T 536 false xs d st:=zaa CScheme.h536
theorem f536(xs:List AV)(hn:xs.length=1):callF T 536 xs=retF [.t 2] false (evX (orc T) T 0 b536 ⟨argEnv xs,[],1⟩):=zac CScheme.h536 hn
@[simp] theorem x551:callX (orc T) T 551 xs d st=cP T 551 false xs d st:=zaa CScheme.h551
theorem f551(xs:List AV)(hn:xs.length=1):callF T 551 xs=retF [.t 2] false (evX (orc T) T 0 b551 ⟨argEnv xs,[],1⟩):=zac CScheme.h551 hn
@[simp] theorem x559:callX (orc T) T 559 xs d st=cP T 559 false xs d st:=zaa CScheme.h559
theorem f559(xs:List AV)(hn:xs.length=1):callF T 559 xs=retF [.t 2] false (evX (orc T) T 0 b559 ⟨argEnv xs,[],1⟩):=zac CScheme.h559 hn
@[simp] theorem x560:callX (orc T) T 560 xs d st=cP T 560 false xs d st:=zaa CScheme.h560
theorem f560(xs:List AV)(hn:xs.length=1):callF T 560 xs=retF [.t 2] false (evX (orc T) T 0 b560 ⟨argEnv xs,[],1⟩):=zac CScheme.h560 hn
@[simp] theorem x561:callX (orc T) T 561 xs d st=cP T 561 false xs d st:=zaa CScheme.h561
theorem f561(xs:List AV)(hn:xs.length=1):callF T 561 xs=retF [.t 2] false (evX (orc T) T 0 b561 ⟨argEnv xs,[],1⟩):=zac CScheme.h561 hn
@[simp] theorem y562:opD (orc T) T (.call 562 ps) e h ol=dP T 562 false ps e:=zas CScheme.h562
theorem f562(xs:List AV)(hn:xs.length=1):callF T 562 xs=retF [.cell 2 (some 3)] false (evX (orc T) T 0 b562 ⟨argEnv xs,[],1⟩):=zac CScheme.h562 hn
end
def b608:AX:=
 (.seq
 (.reg [rg 2 (.alloc [(.s []),(.sl [] .nl),(.sl [] .nl),(.sl [] .nl),(.sl [] .nl)]),rg 3 (.alloc [(.i .i64 0),(.i .i64 0),(.i .i64 0),(.i .i64 0)])])
 (.seq
 (.seq
 (.reg [mv 7 0,rg 8 (.lens (.t 7)),rg 9 (.bin .gtr (.t 8) (.c (.i .i64 4000)))])
 (.cond (.t 9)
 (.seq
 (.reg [rg 10 (.build [(.s []),(.sl [] .nl),(.sl [] .nl),(.sl [] .nl),(.sl [] .nl)] []),rg 11 (.build [(.i .i64 0),(.i .i64 0),(.i .i64 0),(.i .i64 0)] [(0,1,(.c (.i .i64 1))),(3,1,(.c (.i .i64 4000)))]),so (.store 5 (.t 2) (.t 10)),so (.store 4 (.t 3) (.t 11))])
 (.pre (.norm false [2,3]) .ret))
 .skip))
 (.seq
 (.reg [mv 13 0,rg 14 (.call 612 [(.t 13)]),mv 12 14,rg 15 (.ext (.t 12) 0),rg 16 (.ext (.t 12) 1),rg 4 (.alloc [(.s []),(.sl [] .nl),(.sl [] .nl),(.sl [] .nl),(.sl [] .nl)]),rg 5 (.alloc [(.i .i64 0),(.i .i64 0),(.i .i64 0),(.i .i64 0)]),so (.store 5 (.t 4) (.t 15)),so (.store 4 (.t 5) (.t 16))])
 (.seq
 (.seq
 (.reg [rg 17 (.load (some 4) (.t 5)),rg 18 (.build [(.i .i64 0),(.i .i64 0),(.i .i64 0),(.i .i64 0)] []),rg 19 (.eqs true [(0,.int),(1,.int),(2,.int),(3,.int)] (.t 17) (.t 18))])
 (.cond (.t 19)
 (.seq
 (.draw [⟨rg 20 (.build [(.s []),(.sl [] .nl),(.sl [] .nl),(.sl [] .nl),(.sl [] .nl)] []),0,0⟩,⟨rg 21 (.load (some 4) (.t 5)),0,1⟩,⟨so (.store 5 (.t 2) (.t 20)),0,1⟩,⟨so (.store 4 (.t 3) (.t 21)),1,2⟩])
 (.pre (.norm false [2,3]) .ret))
 .skip))
 (.seq
 (.seq
 (.reg [rg 22 (.load (some 5) (.t 4)),rg 23 (.call 551 [(.t 22)]),mv 6 23])
 (.seq
 (.reg [mv 24 6,rg 25 (.bin .neq (.t 24) (.c (.i .i64 0)))])
 (.cond (.t 25)
 (.seq
 (.reg [rg 26 (.build [(.s []),(.sl [] .nl),(.sl [] .nl),(.sl [] .nl),(.sl [] .nl)] []),mv 27 6,rg 28 (.build [(.i .i64 0),(.i .i64 0),(.i .i64 0),(.i .i64 0)] [(0,1,(.c (.i .i64 2))),(3,1,(.t 27))]),so (.store 5 (.t 2) (.t 26)),so (.store 4 (.t 3) (.t 28))])
 (.pre (.norm false [2,3]) .ret))
 .skip)))
 (.seq
 (.draw [⟨rg 29 (.load (some 5) (.t 4)),0,0⟩,⟨rg 30 (.load (some 4) (.t 5)),0,1⟩,⟨so (.store 5 (.t 2) (.t 29)),0,1⟩,⟨so (.store 4 (.t 3) (.t 30)),1,2⟩])
 (.pre (.norm false [2,3]) .ret)))))))
def b612:AX:=
 (.seq
 (.reg [rg 2 (.alloc [(.s []),(.sl [] .nl),(.sl [] .nl),(.sl [] .nl),(.sl [] .nl)]),rg 3 (.alloc [(.i .i64 0),(.i .i64 0),(.i .i64 0),(.i .i64 0)])])
 (.seq
 (.reg [rg 4 (.alloc [(.s []),(.sl [] .nl),(.sl [] .nl),(.sl [] .nl),(.sl [] .nl)])])
 (.seq
 (.reg [mv 7 0,rg 8 (.build [(.s []),(.i .i64 0),(.b false)] [(0,1,(.t 7))]),rg 9 (.xop (.box 3) [(.t 8)]),mv 5 9])
 (.seq
 (.reg [mv 11 5,rg 12 (.call 614 [(.t 11)]),mv 10 12,rg 13 (.ext (.t 10) 0),rg 14 (.ext (.t 10) 1),rg 15 (.ext (.t 10) 2),rg 16 (.fad 0 (.t 4)),so (.store 1 (.t 16) (.t 13))])
 (.seq
 (.seq
 (.reg [rg 17 (.fad 0 (.t 4)),rg 18 (.load none (.t 17)),rg 19 (.build [(.i .i64 0),(.s []),(.i .i64 0)] [(0,1,(.c (.i .i64 2))),(1,1,(.t 18))]),rg 20 (.call 172 [(.t 19)]),rg 21 (.un .not (.t 20))])
 (.cond (.t 21)
 (.seq
 (.reg [rg 22 (.load (some 5) (.t 4)),rg 23 (.build [(.i .i64 0),(.i .i64 0),(.i .i64 0),(.i .i64 0)] [(0,1,(.c (.i .i64 1)))]),so (.store 5 (.t 2) (.t 22)),so (.store 4 (.t 3) (.t 23))])
 (.pre (.norm false [2,3]) .ret))
 .skip))
 (.seq
 (.reg [mv 24 5,mv 25 0,rg 26 (.call 615 [(.t 24),(.t 25),(.t 4)]),rg 6 (.alloc [(.i .i64 0),(.i .i64 0),(.i .i64 0),(.i .i64 0)]),so (.store 4 (.t 6) (.t 26))])
 (.seq
 (.seq
 (.reg [rg 27 (.load (some 4) (.t 6)),rg 28 (.build [(.i .i64 0),(.i .i64 0),(.i .i64 0),(.i .i64 0)] []),rg 29 (.eqs true [(0,.int),(1,.int),(2,.int),(3,.int)] (.t 27) (.t 28))])
 (.cond (.t 29)
 (.seq
 (.draw [⟨rg 30 (.load (some 5) (.t 4)),0,0⟩,⟨rg 31 (.load (some 4) (.t 6)),0,1⟩,⟨so (.store 5 (.t 2) (.t 30)),0,1⟩,⟨so (.store 4 (.t 3) (.t 31)),1,2⟩])
 (.pre (.norm false [2,3]) .ret))
 .skip))
 (.seq
 (.seq
 (.reg [mv 33 5,rg 34 (.call 616 [(.t 33),(.c (.s [98]))]),mv 32 34,rg 35 (.ext (.t 32) 0),rg 36 (.ext (.t 32) 1),rg 37 (.fad 3 (.t 4)),so (.store 1 (.t 37) (.t 35)),so (.store 4 (.t 6) (.t 36))])
 (.seq
 (.reg [rg 38 (.load (some 4) (.t 6)),rg 39 (.build [(.i .i64 0),(.i .i64 0),(.i .i64 0),(.i .i64 0)] []),rg 40 (.eqs true [(0,.int),(1,.int),(2,.int),(3,.int)] (.t 38) (.t 39)),mv 41 40,gd 42 41 false (.mov (.t 5)),gd 43 41 false (.nilc (.t 42)),gd 44 41 false (.fad 2 (.t 43)),gd 45 41 false (.load none (.t 44)),rg 46 (.pick (.t 41) (.c (.b true)) (.t 45))])
 (.cond (.t 46)
 (.seq
 (.draw [⟨rg 47 (.load (some 5) (.t 4)),0,0⟩,⟨rg 48 (.load (some 4) (.t 6)),0,1⟩,⟨so (.store 5 (.t 2) (.t 47)),0,1⟩,⟨so (.store 4 (.t 3) (.t 48)),1,2⟩])
 (.pre (.norm false [2,3]) .ret))
 .skip)))
 (.seq
 (.seq
 (.reg [mv 50 5,rg 51 (.call 616 [(.t 50),(.c (.s [101]))]),mv 49 51,rg 52 (.ext (.t 49) 0),rg 53 (.ext (.t 49) 1),rg 54 (.fad 4 (.t 4)),so (.store 1 (.t 54) (.t 52)),so (.store 4 (.t 6) (.t 53))])
 (.seq
 (.reg [rg 55 (.load (some 4) (.t 6)),rg 56 (.build [(.i .i64 0),(.i .i64 0),(.i .i64 0),(.i .i64 0)] []),rg 57 (.eqs true [(0,.int),(1,.int),(2,.int),(3,.int)] (.t 55) (.t 56)),mv 58 57,gd 59 58 false (.mov (.t 5)),gd 60 58 false (.nilc (.t 59)),gd 61 58 false (.fad 2 (.t 60)),gd 62 58 false (.load none (.t 61)),rg 63 (.pick (.t 58) (.c (.b true)) (.t 62))])
 (.cond (.t 63)
 (.seq
 (.draw [⟨rg 64 (.load (some 5) (.t 4)),0,0⟩,⟨rg 65 (.load (some 4) (.t 6)),0,1⟩,⟨so (.store 5 (.t 2) (.t 64)),0,1⟩,⟨so (.store 4 (.t 3) (.t 65)),1,2⟩])
 (.pre (.norm false [2,3]) .ret))
 .skip)))
 (.seq
 (.draw [⟨rg 66 (.load (some 5) (.t 4)),0,0⟩,⟨mv 67 5,0,1⟩,⟨rg 68 (.nilc (.t 67)),0,1⟩,⟨rg 69 (.fad 1 (.t 68)),0,1⟩,⟨rg 70 (.load none (.t 69)),0,1⟩,⟨rg 71 (.build [(.i .i64 0),(.i .i64 0),(.i .i64 0),(.i .i64 0)] [(0,1,(.c (.i .i64 1))),(3,1,(.t 70))]),0,1⟩,⟨so (.store 5 (.t 2) (.t 66)),0,1⟩,⟨so (.store 4 (.t 3) (.t 71)),1,2⟩])
 (.pre (.norm false [2,3]) .ret)))))))))))
def b614:AX:=
 (.seq
 (.reg [rg 2 (.mov (.c (.s []))),rg 3 (.mov (.c (.i .i64 0))),rg 4 (.mov (.c (.b false)))])
 (.seq
 (.seq
 (.reg [mv 9 0,rg 10 (.nilc (.t 9)),rg 11 (.fad 2 (.t 10)),rg 12 (.load none (.t 11))])
 (.cond (.t 12)
 (.seq
 (.drawT [mv 13 0,rg 14 (.nilc (.t 13)),rg 15 (.fad 1 (.t 14)),rg 16 (.load none (.t 15)),rg 2 (.mov (.c (.s [])))]
 [mv 3 16,rg 4 (.mov (.c (.b false)))])
 (.pre (.norm false [2,3,4]) .ret))
 .skip))
 (.seq
 (.reg [mv 17 0,rg 18 (.nilc (.t 17)),rg 19 (.fad 1 (.t 18)),rg 20 (.load none (.t 19)),mv 5 20])
 (.seq
 (.reg [mv 22 0,rg 23 (.nilc (.t 22)),rg 24 (.fad 0 (.t 23)),rg 25 (.load none (.t 24)),rg 26 (.call 184 [(.t 25),(.c (.s [10]))]),mv 21 26,rg 27 (.ext (.t 21) 0),rg 28 (.ext (.t 21) 1),rg 29 (.ext (.t 21) 2),mv 6 27,mv 7 28,mv 8 29])
 (.seq
 (.reg [mv 30 0,mv 31 0,mv 32 7,mv 33 8,rg 34 (.un .not (.t 33)),rg 35 (.nilc (.t 30)),rg 36 (.fad 0 (.t 35)),so (.store 1 (.t 36) (.t 32)),rg 37 (.nilc (.t 31)),rg 38 (.fad 2 (.t 37)),so (.store 1 (.t 38) (.t 34))])
 (.seq
 (.reg [mv 39 0,rg 40 (.nilc (.t 39)),rg 41 (.fad 1 (.t 40)),rg 42 (.load none (.t 41)),mv 43 6,rg 44 (.lens (.t 43)),rg 45 (.bin .add (.t 42) (.t 44)),rg 46 (.nilc (.t 39)),rg 47 (.fad 1 (.t 46)),so (.store 1 (.t 47) (.t 45))])
 (.seq
 (.seq
 (.reg [mv 48 8])
 (.cond (.t 48)
 (.reg [mv 49 0,rg 50 (.nilc (.t 49)),rg 51 (.fad 1 (.t 50)),rg 52 (.load none (.t 51)),rg 53 (.bin .add (.t 52) (.c (.i .i64 1))),rg 54 (.nilc (.t 49)),rg 55 (.fad 1 (.t 54)),so (.store 1 (.t 55) (.t 53))])
 .skip))
 (.seq
 (.reg [mv 56 6,mv 57 5,mv 2 56,mv 3 57,rg 4 (.mov (.c (.b true)))])
 (.pre (.norm false [2,3,4]) .ret)))))))))
def l615_0:AX:=
 (.note
 (.block 1
 (.seq
 (.reg [mv 14 0,rg 15 (.call 614 [(.t 14)]),mv 13 15,rg 16 (.ext (.t 13) 0),rg 17 (.ext (.t 13) 1),rg 18 (.ext (.t 13) 2),mv 7 16,mv 8 17,mv 9 18])
 (.seq
 (.seq
 (.reg [mv 19 9,rg 20 (.un .not (.t 19))])
 (.cond (.t 20)
 (.seq
 (.reg [rg 21 (.build [(.i .i64 0),(.i .i64 0),(.i .i64 0),(.i .i64 0)] []),so (.store 4 (.t 6) (.t 21))])
 (.pre (.norm true [6]) .ret))
 .skip))
 (.seq
 (.seq
 (.reg [mv 22 7,rg 23 (.call 618 [(.t 22),(.c (.s [124]))]),rg 24 (.un .not (.t 23))])
 (.cond (.t 24)
 (.seq
 (.reg [mv 25 0,mv 26 1,mv 27 8,rg 28 (.call 619 [(.t 25),(.t 26),(.t 27)])])
 (.seq
 (.reg [rg 29 (.build [(.i .i64 0),(.i .i64 0),(.i .i64 0),(.i .i64 0)] []),so (.store 4 (.t 6) (.t 29))])
 (.pre (.norm true [6]) .ret)))
 .skip))
 (.seq
 (.reg [mv 31 7,mv 32 8,rg 33 (.call 620 [(.t 31),(.t 32)]),mv 30 33,rg 34 (.ext (.t 30) 0),rg 35 (.ext (.t 30) 1),rg 36 (.ext (.t 30) 2),rg 10 (.alloc [(.b false),(.sl [] .nl),(.sl [] .nl)]),rg 12 (.alloc [(.i .i64 0),(.i .i64 0),(.i .i64 0),(.i .i64 0)]),so (.store 3 (.t 10) (.t 34)),mv 11 35,so (.store 4 (.t 12) (.t 36))])
 (.seq
 (.seq
 (.reg [rg 37 (.load (some 4) (.t 12)),rg 38 (.build [(.i .i64 0),(.i .i64 0),(.i .i64 0),(.i .i64 0)] []),rg 39 (.eqs true [(0,.int),(1,.int),(2,.int),(3,.int)] (.t 37) (.t 38))])
 (.cond (.t 39)
 (.seq
 (.reg [rg 40 (.load (some 4) (.t 12)),so (.store 4 (.t 6) (.t 40))])
 (.pre (.norm true [6]) .ret))
 .skip))
 (.seq
 (.draw [⟨mv 41 2,0,1⟩,⟨mv 42 2,0,0⟩,⟨rg 43 (.nilc (.t 42)),0,0⟩,⟨rg 44 (.fad 1 (.t 43)),0,0⟩,⟨rg 45 (.load none (.t 44)),0,0⟩,⟨rg 46 (.load (some 3) (.t 10)),0,0⟩,⟨rg 47 (.bsl 3 [(.b false),(.sl [] .nl),(.sl [] .nl)] 1 [(0,(.t 46))]),0,0⟩,⟨rg 48 (.app 3 (.t 45) (.t 47)),0,1⟩,⟨rg 49 (.nilc (.t 41)),1,1⟩,⟨rg 50 (.fad 1 (.t 49)),1,1⟩,⟨so (.store 1 (.t 50) (.t 48)),1,2⟩])
 (.reg [mv 51 2,mv 52 2,rg 53 (.nilc (.t 52)),rg 54 (.fad 2 (.t 53)),rg 55 (.load none (.t 54)),mv 56 11,rg 57 (.bsl 1 [(.sl [] .nl)] 1 [(0,(.t 56))]),rg 58 (.app 1 (.t 55) (.t 57)),rg 59 (.nilc (.t 51)),rg 60 (.fad 2 (.t 59)),so (.store 1 (.t 60) (.t 58))]))))))))
 (.norm true [0,1,2,6]))
def b615:AX:=
 (.seq
 (.reg [rg 6 (.alloc [(.i .i64 0),(.i .i64 0),(.i .i64 0),(.i .i64 0)])])
 (.pre (.fld 2 0 1 3) (.pre (.fld 2 0 2 1) (.lp 0 (.norm true [0,1,2,6]) l615_0 (.norm true [6])))))
def b616:AX:=
 (.seq
 (.reg [rg 4 (.mov (.c (.sl [] .nl))),rg 5 (.alloc [(.i .i64 0),(.i .i64 0),(.i .i64 0),(.i .i64 0)])])
 (.seq
 (.reg [mv 14 0,rg 15 (.call 614 [(.t 14)]),mv 13 15,rg 16 (.ext (.t 13) 0),rg 17 (.ext (.t 13) 1),rg 18 (.ext (.t 13) 2),mv 6 16,mv 7 17,mv 8 18])
 (.seq
 (.reg [mv 20 6,mv 21 1,rg 22 (.bin .add (.t 21) (.c (.s [32]))),rg 23 (.call 64 [(.t 20),(.t 22)]),mv 19 23,rg 24 (.ext (.t 19) 0),rg 25 (.ext (.t 19) 1),mv 9 24,mv 10 25])
 (.seq
 (.seq
 (.reg [mv 26 10,rg 27 (.un .not (.t 26))])
 (.cond (.t 27)
 (.seq
 (.reg [mv 28 7,rg 29 (.build [(.i .i64 0),(.i .i64 0),(.i .i64 0),(.i .i64 0)] [(0,1,(.c (.i .i64 1))),(3,1,(.t 28))]),rg 4 (.mov (.c (.sl [] .nl))),so (.store 4 (.t 5) (.t 29))])
 (.pre (.norm false [4,5]) .ret))
 .skip))
 (.seq
 (.reg [mv 31 9,rg 32 (.call 275 [(.t 31)]),mv 30 32,rg 33 (.ext (.t 30) 0),rg 34 (.ext (.t 30) 1),rg 12 (.alloc [(.i .i64 0),(.i .i64 0),(.i .i64 0),(.i .i64 0)]),mv 11 33,so (.store 4 (.t 12) (.t 34))])
 (.seq
 (.reg [mv 35 11,rg 36 (.load (some 4) (.t 12)),mv 37 7,mv 38 1,rg 39 (.lens (.t 38)),rg 40 (.bin .add (.t 37) (.t 39)),rg 41 (.bin .add (.t 40) (.c (.i .i64 1))),rg 42 (.call 621 [(.t 36),(.t 41)]),mv 4 35,so (.store 4 (.t 5) (.t 42))])
 (.pre (.norm false [4,5]) .ret)))))))
def b618:AX:=
 (.seq
 (.reg [rg 4 (.mov (.c (.b false)))])
 (.seq
 (.reg [mv 5 0,mv 6 1,rg 7 (.call 362 [(.t 5),(.t 6)]),rg 8 (.bin .geq (.t 7) (.c (.i .i64 0))),mv 4 8])
 (.pre (.norm false [4]) .ret)))
def b619:AX:=
 (.reg [mv 6 0,mv 7 0,mv 8 0,mv 9 1,mv 10 2,rg 11 (.slstr (.t 9) (some (.t 10)) none),mv 12 2,rg 13 (.nilc (.t 6)),rg 14 (.fad 0 (.t 13)),so (.store 1 (.t 14) (.t 11)),rg 15 (.nilc (.t 7)),rg 16 (.fad 1 (.t 15)),so (.store 1 (.t 16) (.t 12)),rg 17 (.nilc (.t 8)),rg 18 (.fad 2 (.t 17)),so (.store 1 (.t 18) (.c (.b false)))])
def b620:AX:=
 (.seq
 (.reg [rg 4 (.alloc [(.b false),(.sl [] .nl),(.sl [] .nl)]),rg 5 (.mov (.c (.sl [] .nl))),rg 6 (.alloc [(.i .i64 0),(.i .i64 0),(.i .i64 0),(.i .i64 0)])])
 (.seq
 (.reg [mv 14 0,rg 15 (.call 184 [(.t 14),(.c (.s [124]))]),mv 13 15,rg 16 (.ext (.t 13) 0),rg 17 (.ext (.t 13) 1),rg 18 (.ext (.t 13) 2),mv 7 16,mv 8 17,mv 9 18])
 (.seq
 (.reg [mv 20 7,rg 21 (.call 256 [(.t 20)]),mv 19 21,rg 22 (.ext (.t 19) 0),rg 23 (.ext (.t 19) 1),rg 10 (.alloc [(.b false),(.sl [] .nl),(.sl [] .nl)]),rg 11 (.alloc [(.i .i64 0),(.i .i64 0),(.i .i64 0),(.i .i64 0)]),so (.store 3 (.t 10) (.t 22)),so (.store 4 (.t 11) (.t 23))])
 (.seq
 (.seq
 (.reg [rg 24 (.load (some 4) (.t 11)),rg 25 (.build [(.i .i64 0),(.i .i64 0),(.i .i64 0),(.i .i64 0)] []),rg 26 (.eqs true [(0,.int),(1,.int),(2,.int),(3,.int)] (.t 24) (.t 25))])
 (.cond (.t 26)
 (.seq
 (.drawT [rg 27 (.load (some 3) (.t 10)),rg 28 (.load (some 4) (.t 11)),mv 29 1,rg 30 (.call 621 [(.t 28),(.t 29)])]
 [so (.store 3 (.t 4) (.t 27)),rg 5 (.mov (.c (.sl [] .nl))),so (.store 4 (.t 6) (.t 30))])
 (.pre (.norm false [4,5,6]) .ret))
 .skip))
 (.seq
 (.reg [mv 32 8,rg 33 (.call 275 [(.t 32)]),mv 31 33,rg 34 (.ext (.t 31) 0),rg 35 (.ext (.t 31) 1),mv 12 34,so (.store 4 (.t 11) (.t 35))])
 (.seq
 (.draw [⟨rg 36 (.load (some 3) (.t 10)),0,0⟩,⟨mv 37 12,0,1⟩,⟨rg 38 (.load (some 4) (.t 11)),0,0⟩,⟨mv 39 1,0,0⟩,⟨mv 40 7,0,0⟩,⟨rg 41 (.lens (.t 40)),0,0⟩,⟨rg 42 (.bin .add (.t 39) (.t 41)),0,0⟩,⟨rg 43 (.bin .add (.t 42) (.c (.i .i64 1))),0,0⟩,⟨rg 44 (.call 621 [(.t 38),(.t 43)]),0,0⟩,⟨so (.store 3 (.t 4) (.t 36)),0,1⟩,⟨mv 5 37,1,1⟩,⟨so (.store 4 (.t 6) (.t 44)),1,2⟩])
 (.pre (.norm false [4,5,6]) .ret)))))))
def b621:AX:=
 (.seq
 (.reg [rg 2 (.xop (.box 4) [(.t 0)]),rg 4 (.alloc [(.i .i64 0),(.i .i64 0),(.i .i64 0),(.i .i64 0)])])
 (.seq
 (.seq
 (.reg [rg 5 (.load (some 4) (.t 2)),rg 6 (.build [(.i .i64 0),(.i .i64 0),(.i .i64 0),(.i .i64 0)] []),rg 7 (.eqs true [(0,.int),(1,.int),(2,.int),(3,.int)] (.t 5) (.t 6))])
 (.cond (.t 7)
 (.reg [rg 8 (.fad 3 (.t 2)),rg 9 (.load none (.t 8)),mv 10 1,rg 11 (.bin .add (.t 9) (.t 10)),rg 12 (.fad 3 (.t 2)),so (.store 1 (.t 12) (.t 11))])
 .skip))
 (.seq
 (.reg [rg 13 (.load (some 4) (.t 2)),so (.store 4 (.t 4) (.t 13))])
 (.pre (.norm false [4]) .ret))))
class CSchP (T:Tbl):Prop where
 h608:T 608=some ⟨1,31,[.cell 2 (some 5),.cell 3 (some 4)],b608,none,false⟩
 h612:T 612=some ⟨1,72,[.cell 2 (some 5),.cell 3 (some 4)],b612,none,false⟩
 h614:T 614=some ⟨1,58,[.t 2,.t 3,.t 4],b614,(some [true]),false⟩
 h615:T 615=some ⟨3,61,[.cell 6 (some 4)],b615,(some [true,false,true]),true⟩
 h616:T 616=some ⟨2,43,[.t 4,.cell 5 (some 4)],b616,(some [true,false]),false⟩
 h618:T 618=some ⟨2,9,[.t 4],b618,none,false⟩
 h619:T 619=some ⟨3,19,[],b619,(some [true,false,false]),false⟩
 h620:T 620=some ⟨2,45,[.cell 4 (some 3),.t 5,.cell 6 (some 4)],b620,none,false⟩
 h621:T 621=some ⟨2,14,[.cell 4 (some 4)],b621,none,false⟩
section
variable{T:Tbl}[CSchP T]{d:Option Nat}{st:St}{xs:List AV}{ps:List Opd}{e:Env}{h:Heap}{ol:List Heap}
@[simp] theorem x608:callX (orc T) T 608 xs d st=cP T 608 false xs d st:=zaa CSchP.h608
theorem f608(xs:List AV)(hn:xs.length=1):callF T 608 xs=retF [.cell 2 (some 5),.cell 3 (some 4)] false (evX (orc T) T 0 b608 ⟨argEnv xs,[],1⟩):=zac CSchP.h608 hn
@[simp] theorem x612:callX (orc T) T 612 xs d st=cP T 612 false xs d st:=zaa CSchP.h612
theorem f612(xs:List AV)(hn:xs.length=1):callF T 612 xs=retF [.cell 2 (some 5),.cell 3 (some 4)] false (evX (orc T) T 0 b612 ⟨argEnv xs,[],1⟩):=zac CSchP.h612 hn
@[simp] theorem x614:callX (orc T) T 614 xs d st=cL T 614 false [true] xs d st:=zaz CSchP.h614
theorem f614(xs:List AV)(hb:Heap)(hn:xs.length=1):callH T 614 xs hb=retH [.t 2,.t 3,.t 4] false hb.length (evX (orc T) T hb.length b614 ⟨argEnv xs,hb,hb.length+1⟩):=zbp CSchP.h614 hn
@[simp] theorem x615:callX (orc T) T 615 xs d st=cL T 615 true [true,false,true] xs d st:=zaz CSchP.h615
theorem f615(xs:List AV)(hb:Heap)(hn:xs.length=3):callH T 615 xs hb=retH [.cell 6 (some 4)] true hb.length (evX (orc T) T hb.length b615 ⟨argEnv xs,hb,hb.length+1⟩):=zbp CSchP.h615 hn
@[simp] theorem x616:callX (orc T) T 616 xs d st=cL T 616 false [true,false] xs d st:=zaz CSchP.h616
theorem f616(xs:List AV)(hb:Heap)(hn:xs.length=2):callH T 616 xs hb=retH [.t 4,.cell 5 (some 4)] false hb.length (evX (orc T) T hb.length b616 ⟨argEnv xs,hb,hb.length+1⟩):=zbp CSchP.h616 hn
@[simp] theorem x618:callX (orc T) T 618 xs d st=cP T 618 false xs d st:=zaa CSchP.h618
theorem f618(xs:List AV)(hn:xs.length=2):callF T 618 xs=retF [.t 4] false (evX (orc T) T 0 b618 ⟨argEnv xs,[],1⟩):=zac CSchP.h618 hn
@[simp] theorem x619:callX (orc T) T 619 xs d st=cL T 619 false [true,false,false] xs d st:=zaz CSchP.h619
theorem f619(xs:List AV)(hb:Heap)(hn:xs.length=3):callH T 619 xs hb=retH [] false hb.length (evX (orc T) T hb.length b619 ⟨argEnv xs,hb,hb.length+1⟩):=zbp CSchP.h619 hn
@[simp] theorem x620:callX (orc T) T 620 xs d st=cP T 620 false xs d st:=zaa CSchP.h620
theorem f620(xs:List AV)(hn:xs.length=2):callF T 620 xs=retF [.cell 4 (some 3),.t 5,.cell 6 (some 4)] false (evX (orc T) T 0 b620 ⟨argEnv xs,[],1⟩):=zac CSchP.h620 hn
@[simp] theorem x621:callX (orc T) T 621 xs d st=cP T 621 false xs d st:=zaa CSchP.h621
@[simp] theorem y621:opD (orc T) T (.call 621 ps) e h ol=dP T 621 false ps e:=zas CSchP.h621
theorem f621(xs:List AV)(hn:xs.length=2):callF T 621 xs=retF [.cell 4 (some 4)] false (evX (orc T) T 0 b621 ⟨argEnv xs,[],1⟩):=zac CSchP.h621 hn
end
class CSchT (T:Tbl):Prop where
class CLaw30 (T:Tbl):Prop where
def l603_0:AX:=
 (.note
 (.seq
 (.reg [rg 10 (.bin .lss (.t 9) (.c (.i .i64 6)))])
 (.seq
 (.cond (.t 10)
 .skip
 (.exit 0))
 (.seq
 (.block 1
 (.seq
 (.reg [rg 11 (.ixa 1 6 none (.t 8) (.t 9)),mv 5 11])
 (.seq
 (.reg [mv 12 5,rg 13 (.call 610 [(.t 12)]),mv 14 0,rg 15 (.bin .eql (.t 13) (.t 14))])
 (.cond (.t 15)
 (.seq
 (.reg [mv 17 5,rg 18 (.call 608 [(.t 17)]),mv 16 18,rg 19 (.ext (.t 16) 0),rg 20 (.ext (.t 16) 1),rg 6 (.alloc [(.s []),(.sl [] .nl),(.sl [] .nl),(.sl [] .nl),(.sl [] .nl)]),rg 7 (.alloc [(.i .i64 0),(.i .i64 0),(.i .i64 0),(.i .i64 0)]),so (.store 5 (.t 6) (.t 19)),so (.store 4 (.t 7) (.t 20))])
 (.seq
 (.reg [rg 21 (.load (some 5) (.t 6)),so (.store 5 (.t 2) (.t 21)),rg 3 (.mov (.c (.b true)))])
 (.pre (.norm false [2,3]) .ret)))
 .skip))))
 (.reg [rg 22 (.bin .add (.t 9) (.c (.i .i64 1))),mv 9 22]))))
 (.norm false [0,2,8,9]))
def b603:AX:=
 (.seq
 (.reg [rg 2 (.alloc [(.s []),(.sl [] .nl),(.sl [] .nl),(.sl [] .nl),(.sl [] .nl)]),rg 3 (.mov (.c (.b false)))])
 (.seq
 (.seq
 (.reg [rg 8 (.call 609 []),rg 9 (.mov (.c (.i .i64 0)))])
 (.lp 0 (.norm false [0,2,8,9]) l603_0 (.norm false [2])))
 (.seq
 (.reg [rg 23 (.build [(.s []),(.sl [] .nl),(.sl [] .nl),(.sl [] .nl),(.sl [] .nl)] []),so (.store 5 (.t 2) (.t 23)),rg 3 (.mov (.c (.b false)))])
 (.pre (.norm false [2,3]) .ret))))
def b609:AX:=
 (.seq
 (.reg [rg 0 (.alloc [(.s []),(.s []),(.s []),(.s []),(.s []),(.s [])])])
 (.seq
 (.reg [rg 1 (.build [(.s []),(.s []),(.s []),(.s []),(.s []),(.s [])] [(0,1,(.c (.s [101,117,108,101,114,10,48,124,10,98,32,49]))),(1,1,(.c (.s [104,101,117,110,10,48,124,10,49,124,49,10,98,32,49,47,50,44,49,47,50,10,101,32,49,44,48]))),(2,1,(.c (.s [109,105,100,112,111,105,110,116,10,48,124,10,49,47,50,124,49,47,50,10,98,32,48,44,49,10,101,32,49,44,48]))),(3,1,(.c (.s [114,107,52,10,48,124,10,49,47,50,124,49,47,50,10,49,47,50,124,48,44,49,47,50,10,49,124,48,44,48,44,49,10,98,32,49,47,54,44,49,47,51,44,49,47,51,44,49,47,54]))),(4,1,(.c (.s [98,115,50,51,10,48,124,10,49,47,50,124,49,47,50,10,51,47,52,124,48,44,51,47,52,10,49,124,50,47,57,44,49,47,51,44,52,47,57,10,98,32,50,47,57,44,49,47,51,44,52,47,57,44,48,10,101,32,55,47,50,52,44,49,47,52,44,49,47,51,44,49,47,56]))),(5,1,(.c (.s [100,112,52,53,10,48,124,10,49,47,53,124,49,47,53,10,51,47,49,48,124,51,47,52,48,44,57,47,52,48,10,52,47,53,124,52,52,47,52,53,44,45,53,54,47,49,53,44,51,50,47,57,10,56,47,57,124,49,57,51,55,50,47,54,53,54,49,44,45,50,53,51,54,48,47,50,49,56,55,44,54,52,52,52,56,47,54,53,54,49,44,45,50,49,50,47,55,50,57,10,49,124,57,48,49,55,47,51,49,54,56,44,45,51,53,53,47,51,51,44,52,54,55,51,50,47,53,50,52,55,44,52,57,47,49,55,54,44,45,53,49,48,51,47,49,56,54,53,54,10,49,124,51,53,47,51,56,52,44,48,44,53,48,48,47,49,49,49,51,44,49,50,53,47,49,57,50,44,45,50,49,56,55,47,54,55,56,52,44,49,49,47,56,52,10,98,32,51,53,47,51,56,52,44,48,44,53,48,48,47,49,49,49,51,44,49,50,53,47,49,57,50,44,45,50,49,56,55,47,54,55,56,52,44,49,49,47,56,52,44,48,10,101,32,53,49,55,57,47,53,55,54,48,48,44,48,44,55,53,55,49,47,49,54,54,57,53,44,51,57,51,47,54,52,48,44,45,57,50,48,57,55,47,51,51,57,50,48,48,44,49,56,55,47,50,49,48,48,44,49,47,52,48])))]),so (.store 6 (.t 0) (.t 1))])
 (.pre (.norm false [0]) .ret)))
def b610:AX:=
 (.seq
 (.reg [rg 2 (.mov (.c (.s [])))])
 (.seq
 (.reg [mv 7 0,rg 8 (.call 184 [(.t 7),(.c (.s [10]))]),mv 6 8,rg 9 (.ext (.t 6) 0),rg 10 (.ext (.t 6) 1),rg 11 (.ext (.t 6) 2),mv 3 9,mv 4 10,mv 5 11])
 (.seq
 (.reg [mv 12 3,mv 2 12])
 (.pre (.norm false [2]) .ret))))
def l634_0:AX:=
 (.note
 (.seq
 (.reg [rg 8 (.bin .lss (.t 7) (.c (.i .i64 6)))])
 (.seq
 (.cond (.t 8)
 .skip
 (.exit 0))
 (.seq
 (.block 1
 (.seq
 (.reg [rg 9 (.ixa 1 6 none (.t 6) (.t 7)),mv 3 9])
 (.seq
 (.reg [mv 11 3,rg 12 (.call 608 [(.t 11)]),mv 10 12,rg 13 (.ext (.t 10) 0),rg 14 (.ext (.t 10) 1),rg 4 (.alloc [(.s []),(.sl [] .nl),(.sl [] .nl),(.sl [] .nl),(.sl [] .nl)]),rg 5 (.alloc [(.i .i64 0),(.i .i64 0),(.i .i64 0),(.i .i64 0)]),so (.store 5 (.t 4) (.t 13)),so (.store 4 (.t 5) (.t 14))])
 (.reg [mv 15 1,rg 16 (.load (some 5) (.t 4)),rg 17 (.bsl 5 [(.s []),(.sl [] .nl),(.sl [] .nl),(.sl [] .nl),(.sl [] .nl)] 1 [(0,(.t 16))]),rg 18 (.app 5 (.t 15) (.t 17)),mv 1 18]))))
 (.reg [rg 19 (.bin .add (.t 7) (.c (.i .i64 1))),mv 7 19]))))
 (.norm false [1,6,7]))
def b634:AX:=
 (.seq
 (.reg [rg 0 (.mov (.c (.sl [] .nl)))])
 (.seq
 (.note (.reg [rg 1 (.mov (.c (.sl [] .nl)))]) (.nil 1 5))
 (.seq
 (.seq
 (.reg [rg 6 (.call 609 []),rg 7 (.mov (.c (.i .i64 0)))])
 (.lp 0 (.norm false [1,6,7]) l634_0 (.norm false [1])))
 (.seq
 (.reg [mv 20 1,mv 0 20])
 (.pre (.norm false [0]) .ret)))))
class CStock (T:Tbl):Prop where
 h603:T 603=some ⟨1,24,[.cell 2 (some 5),.t 3],b603,none,false⟩
 h609:T 609=some ⟨0,2,[.cell 0 (some 6)],b609,none,false⟩
 h610:T 610=some ⟨1,13,[.t 2],b610,none,false⟩
 h634:T 634=some ⟨0,21,[.t 0],b634,none,false⟩
section
variable{T:Tbl}[CStock T]{d:Option Nat}{st:St}{xs:List AV}{ps:List Opd}{e:Env}{h:Heap}{ol:List Heap}
@[simp] theorem x603:callX (orc T) T 603 xs d st=cP T 603 false xs d st:=zaa CStock.h603
theorem f603(xs:List AV)(hn:xs.length=1):callF T 603 xs=retF [.cell 2 (some 5),.t 3] false (evX (orc T) T 0 b603 ⟨argEnv xs,[],1⟩):=zac CStock.h603 hn
@[simp] theorem x609:callX (orc T) T 609 xs d st=cP T 609 false xs d st:=zaa CStock.h609
theorem f609(xs:List AV)(hn:xs.length=0):callF T 609 xs=retF [.cell 0 (some 6)] false (evX (orc T) T 0 b609 ⟨argEnv xs,[],1⟩):=zac CStock.h609 hn
@[simp] theorem x610:callX (orc T) T 610 xs d st=cP T 610 false xs d st:=zaa CStock.h610
theorem f610(xs:List AV)(hn:xs.length=1):callF T 610 xs=retF [.t 2] false (evX (orc T) T 0 b610 ⟨argEnv xs,[],1⟩):=zac CStock.h610 hn
@[simp] theorem x634:callX (orc T) T 634 xs d st=cP T 634 false xs d st:=zaa CStock.h634
theorem f634(xs:List AV)(hn:xs.length=0):callF T 634 xs=retF [.t 0] false (evX (orc T) T 0 b634 ⟨argEnv xs,[],1⟩):=zac CStock.h634 hn
end
def l589_0:AX:=
 (.note
 (.seq
 (.reg [rg 17 (.bin .lss (.t 16) (.t 15))])
 (.seq
 (.cond (.t 17)
 .skip
 (.exit 0))
 (.seq
 (.block 1
 (.seq
 (.reg [mv 18 16,mv 5 18])
 (.reg [mv 19 4,mv 20 5,rg 21 (.bsl 1 [(.i .i64 0)] 1 [(0,(.t 20))]),rg 22 (.app 1 (.t 19) (.t 21)),mv 4 22])))
 (.reg [rg 23 (.bin .add (.t 16) (.c (.i .i64 1))),mv 16 23]))))
 (.norm false [0,3,4,15,16]))
def l589_1:AX:=
 (.note
 (.seq
 (.seq
 (.reg [mv 31 6,rg 32 (.bin .gtr (.t 31) (.c (.i .i64 0))),mv 33 32,gd 34 33 true (.mov (.t 4)),gd 35 33 true (.mov (.t 6)),gd 36 33 true (.iad 1 (.t 34) (.t 35)),gd 37 33 true (.load none (.t 36)),gd 38 33 true (.bin .lss (.t 37) (.c (.i .i64 2))),rg 39 (.pick (.t 33) (.t 38) (.c (.b false)))])
 (.cond (.t 39)
 .skip
 (.exit 2)))
 (.seq
 (.block 3
 .skip)
 (.reg [mv 40 6,rg 41 (.bin .sub (.t 40) (.c (.i .i64 1))),mv 6 41])))
 (.norm false [0,3,4,6]))
def l589_2:AX:=
 (.note
 (.seq
 (.seq
 (.reg [mv 49 8,mv 50 0,rg 51 (.bin .lss (.t 49) (.t 50))])
 (.cond (.t 51)
 .skip
 (.exit 4)))
 (.seq
 (.block 5
 (.reg [mv 54 4,mv 55 8,mv 56 4,mv 57 8,mv 58 6,rg 59 (.bin .sub (.t 57) (.t 58)),mv 60 7,rg 61 (.bin .add (.t 59) (.t 60)),rg 62 (.iad 1 (.t 56) (.t 61)),rg 63 (.load none (.t 62)),rg 64 (.iad 1 (.t 54) (.t 55)),so (.store 1 (.t 64) (.t 63))]))
 (.reg [mv 52 8,rg 53 (.bin .add (.t 52) (.c (.i .i64 1))),mv 8 53])))
 (.norm false [0,3,4,6,7,8]))
def g589_0:AX:=
 (.pre (.norm false [0,3,4])
 (.seq
 (.reg [mv 24 3,mv 25 4,rg 26 (.app 1 (.c (.sl [] .nl)) (.t 25)),rg 27 (.bsl 1 [(.sl [] .nl)] 1 [(0,(.t 26))]),rg 28 (.app 1 (.t 24) (.t 27)),mv 3 28])
 (.seq
 (.seq
 (.reg [mv 29 0,rg 30 (.bin .sub (.t 29) (.c (.i .i64 1))),mv 6 30])
 (.lp 2 (.norm false [0,3,4,6]) l589_1 (.norm false [0,3,4,6])))
 (.seq
 (.seq
 (.reg [mv 42 6,rg 43 (.bin .lss (.t 42) (.c (.i .i64 1)))])
 (.cond (.t 43)
 (.seq
 (.reg [mv 44 3,mv 2 44])
 (.pre (.norm false [2]) .ret))
 .skip))
 (.seq
 (.reg [mv 45 4,mv 46 6,rg 47 (.call 605 [(.t 45),(.t 46)]),mv 7 47])
 (.seq
 (.seq
 (.reg [mv 48 6,mv 8 48])
 (.lp 4 (.norm false [0,3,4,6,7,8]) l589_2 (.norm false [0,3,4])))
 (.goto 0)))))))
def b589:AX:=
 (.seq
 (.reg [rg 2 (.mov (.c (.sl [] .nl)))])
 (.gsc 0
 (.seq
 (.seq
 (.reg [mv 9 0,rg 10 (.bin .lss (.t 9) (.c (.i .i64 1))),mv 11 10,gd 12 11 false (.mov (.t 0)),gd 13 11 false (.bin .gtr (.t 12) (.c (.i .i64 5))),rg 14 (.pick (.t 11) (.c (.b true)) (.t 13))])
 (.cond (.t 14)
 (.seq
 (.reg [rg 2 (.mov (.c (.sl [] .nl)))])
 (.pre (.norm false [2]) .ret))
 .skip))
 (.seq
 (.note (.reg [rg 3 (.mov (.c (.sl [] .nl)))]) (.nil 3 1))
 (.seq
 (.note (.reg [rg 4 (.mov (.c (.sl [] .nl)))]) (.nil 4 1))
 (.seq
 (.seq
 (.reg [mv 15 0,rg 16 (.mov (.c (.i .i64 0)))])
 (.lp 0 (.norm false [0,3,4,15,16]) l589_0 (.norm false [0,3,4])))
 (.seq
 (.reg [rg 6 (.mov (.c (.i .i64 0))),rg 7 (.mov (.c (.i .i64 0)))])
 (.seq (.label 0) g589_0))))))
 (.seq .skip g589_0)))
def l594_0:AX:=
 (.note
 (.seq
 (.seq
 (.reg [mv 13 3,mv 14 0,rg 15 (.len (.t 14)),rg 16 (.bin .lss (.t 13) (.t 15))])
 (.cond (.t 16)
 .skip
 (.exit 0)))
 (.seq
 (.block 1
 (.seq
 (.drawT [mv 19 0,mv 20 3,rg 21 (.iad 1 (.t 19) (.t 20)),rg 22 (.load none (.t 21)),rg 23 (.bin .lss (.t 22) (.c (.i .i64 1))),mv 24 23,gd 25 24 false (.mov (.t 0)),gd 26 24 false (.mov (.t 3)),gd 27 24 false (.iad 1 (.t 25) (.t 26)),gd 28 24 false (.load none (.t 27)),gd 29 24 false (.bin .sub (.t 28) (.c (.i .i64 1))),gd 30 24 false (.mov (.t 0)),gd 31 24 false (.mov (.t 3)),gd 32 24 false (.bin .sub (.t 31) (.c (.i .i64 1))),gd 33 24 false (.iad 1 (.t 30) (.t 32)),gd 34 24 false (.load none (.t 33))]
 [gd 35 24 false (.bin .gtr (.t 29) (.t 34)),rg 36 (.pick (.t 24) (.c (.b true)) (.t 35))])
 (.cond (.t 36)
 (.seq
 (.reg [rg 2 (.mov (.c (.b false)))])
 (.pre (.norm false [2]) .ret))
 .skip)))
 (.reg [mv 17 3,rg 18 (.bin .add (.t 17) (.c (.i .i64 1))),mv 3 18])))
 (.norm false [0,3]))
def b594:AX:=
 (.seq
 (.reg [rg 2 (.mov (.c (.b false)))])
 (.seq
 (.seq
 (.reg [mv 4 0,rg 5 (.len (.t 4)),rg 6 (.bin .eql (.t 5) (.c (.i .i64 0))),mv 7 6,gd 8 7 false (.mov (.t 0)),gd 9 7 false (.iad 1 (.t 8) (.c (.i .i64 0))),gd 10 7 false (.load none (.t 9)),gd 11 7 false (.bin .neq (.t 10) (.c (.i .i64 0))),rg 12 (.pick (.t 7) (.c (.b true)) (.t 11))])
 (.cond (.t 12)
 (.seq
 (.reg [rg 2 (.mov (.c (.b false)))])
 (.pre (.norm false [2]) .ret))
 .skip))
 (.seq
 (.seq
 (.reg [rg 3 (.mov (.c (.i .i64 1)))])
 (.lp 0 (.norm false [0,3]) l594_0 (.norm false [])))
 (.seq
 (.reg [rg 2 (.mov (.c (.b true)))])
 (.pre (.norm false [2]) .ret)))))
def l595_0:AX:=
 (.note
 (.seq
 (.seq
 (.reg [mv 15 5,rg 16 (.bin .geq (.t 15) (.c (.i .i64 0)))])
 (.cond (.t 16)
 .skip
 (.exit 0)))
 (.seq
 (.block 1
 (.seq
 (.reg [mv 19 3,mv 20 5,rg 21 (.iad 1 (.t 19) (.t 20)),rg 22 (.load none (.t 21)),rg 23 (.bin .add (.t 22) (.c (.i .i64 1))),rg 24 (.iad 1 (.t 19) (.t 20)),so (.store 1 (.t 24) (.t 23))])
 (.seq
 (.reg [mv 25 4,mv 26 3,mv 27 5,rg 28 (.iad 1 (.t 26) (.t 27)),rg 29 (.load none (.t 28)),rg 30 (.bin .mul (.t 25) (.t 29)),mv 4 30])
 (.seq
 (.reg [mv 31 5,rg 32 (.bin .gtr (.t 31) (.c (.i .i64 0)))])
 (.cond (.t 32)
 (.drawT [mv 33 3,mv 34 0,mv 35 5,rg 36 (.call 605 [(.t 34),(.t 35)]),rg 37 (.iad 1 (.t 33) (.t 36)),rg 38 (.load none (.t 37)),mv 39 3,mv 40 5,rg 41 (.iad 1 (.t 39) (.t 40)),rg 42 (.load none (.t 41))]
 [rg 43 (.bin .add (.t 38) (.t 42)),rg 44 (.iad 1 (.t 33) (.t 36)),so (.store 1 (.t 44) (.t 43))])
 .skip)))))
 (.reg [mv 17 5,rg 18 (.bin .sub (.t 17) (.c (.i .i64 1))),mv 5 18])))
 (.norm false [0,3,4,5]))
def b595:AX:=
 (.seq
 (.reg [rg 2 (.mov (.c (.i .i64 0)))])
 (.seq
 (.seq
 (.reg [mv 6 0,rg 7 (.call 607 [(.t 6)]),rg 8 (.un .not (.t 7))])
 (.cond (.t 8)
 (.seq
 (.reg [rg 2 (.mov (.c (.i .i64 0)))])
 (.pre (.norm false [2]) .ret))
 .skip))
 (.seq
 (.reg [mv 9 0,rg 10 (.len (.t 9)),rg 11 (.mks 1 [(.i .i64 0)] (.t 10) (.t 10)),mv 3 11])
 (.seq
 (.reg [rg 4 (.mov (.c (.i .i64 1)))])
 (.seq
 (.seq
 (.reg [mv 12 0,rg 13 (.len (.t 12)),rg 14 (.bin .sub (.t 13) (.c (.i .i64 1))),mv 5 14])
 (.lp 0 (.norm false [0,3,4,5]) l595_0 (.norm false [4])))
 (.seq
 (.reg [mv 45 4,mv 2 45])
 (.pre (.norm false [2]) .ret)))))))
def l605_0:AX:=
 (.note
 (.seq
 (.seq
 (.drawT [mv 8 0,mv 9 5,rg 10 (.iad 1 (.t 8) (.t 9)),rg 11 (.load none (.t 10)),mv 12 0,mv 13 1,rg 14 (.iad 1 (.t 12) (.t 13)),rg 15 (.load none (.t 14)),rg 16 (.bin .sub (.t 15) (.c (.i .i64 1)))]
 [rg 17 (.bin .neq (.t 11) (.t 16))])
 (.cond (.t 17)
 .skip
 (.exit 0)))
 (.block 1
 (.reg [mv 18 5,rg 19 (.bin .sub (.t 18) (.c (.i .i64 1))),mv 5 19])))
 (.norm false [0,1,5]))
def b605:AX:=
 (.seq
 (.reg [rg 4 (.mov (.c (.i .i64 0)))])
 (.seq
 (.reg [mv 6 1,rg 7 (.bin .sub (.t 6) (.c (.i .i64 1))),mv 5 7])
 (.seq
 (.lp 0 (.norm false [0,1,5]) l605_0 (.norm false [5]))
 (.seq
 (.reg [mv 20 5,mv 4 20])
 (.pre (.norm false [4]) .ret)))))
def b607:AX:=
 (.seq
 (.reg [rg 2 (.mov (.c (.b false)))])
 (.seq
 (.reg [mv 3 0,rg 4 (.len (.t 3)),rg 5 (.bin .leq (.t 4) (.c (.i .i64 8))),mv 6 5,gd 7 6 true (.mov (.t 0)),gd 8 6 true (.call 594 [(.t 7)]),rg 9 (.pick (.t 6) (.t 8) (.c (.b false))),mv 2 9])
 (.pre (.norm false [2]) .ret)))
class COrder (T:Tbl):Prop where
 h589:T 589=some ⟨1,65,[.t 2],b589,none,false⟩
 h594:T 594=some ⟨1,37,[.t 2],b594,none,false⟩
 h595:T 595=some ⟨1,46,[.t 2],b595,none,false⟩
 h605:T 605=some ⟨2,21,[.t 4],b605,none,false⟩
 h607:T 607=some ⟨1,10,[.t 2],b607,none,false⟩
section
variable{T:Tbl}[COrder T]{d:Option Nat}{st:St}{xs:List AV}{ps:List Opd}{e:Env}{h:Heap}{ol:List Heap}
@[simp] theorem x589:callX (orc T) T 589 xs d st=cP T 589 false xs d st:=zaa COrder.h589
theorem f589(xs:List AV)(hn:xs.length=1):callF T 589 xs=retF [.t 2] false (evX (orc T) T 0 b589 ⟨argEnv xs,[],1⟩):=zac COrder.h589 hn
@[simp] theorem x594:callX (orc T) T 594 xs d st=cP T 594 false xs d st:=zaa COrder.h594
theorem f594(xs:List AV)(hn:xs.length=1):callF T 594 xs=retF [.t 2] false (evX (orc T) T 0 b594 ⟨argEnv xs,[],1⟩):=zac COrder.h594 hn
@[simp] theorem x595:callX (orc T) T 595 xs d st=cP T 595 false xs d st:=zaa COrder.h595
@[simp] theorem y595:opD (orc T) T (.call 595 ps) e h ol=dP T 595 false ps e:=zas COrder.h595
theorem f595(xs:List AV)(hn:xs.length=1):callF T 595 xs=retF [.t 2] false (evX (orc T) T 0 b595 ⟨argEnv xs,[],1⟩):=zac COrder.h595 hn
@[simp] theorem x605:callX (orc T) T 605 xs d st=cP T 605 false xs d st:=zaa COrder.h605
@[simp] theorem y605:opD (orc T) T (.call 605 ps) e h ol=dP T 605 false ps e:=zas COrder.h605
theorem f605(xs:List AV)(hn:xs.length=2):callF T 605 xs=retF [.t 4] false (evX (orc T) T 0 b605 ⟨argEnv xs,[],1⟩):=zac COrder.h605 hn
@[simp] theorem x607:callX (orc T) T 607 xs d st=cP T 607 false xs d st:=zaa COrder.h607
theorem f607(xs:List AV)(hn:xs.length=1):callF T 607 xs=retF [.t 2] false (evX (orc T) T 0 b607 ⟨argEnv xs,[],1⟩):=zac COrder.h607 hn
end
def b604:AX:=
 (.seq
 (.reg [rg 1 (.xop (.box 5) [(.t 0)]),rg 2 (.mov (.c (.i .i64 0))),rg 3 (.mov (.c (.i .i64 0)))])
 (.seq
 (.drawT [rg 4 (.load (some 5) (.t 1)),rg 5 (.fad 3 (.t 1)),rg 6 (.load none (.t 5)),rg 7 (.call 611 [(.t 4),(.t 6)]),rg 8 (.load (some 5) (.t 1)),rg 9 (.fad 4 (.t 1)),rg 10 (.load none (.t 9))]
 [rg 11 (.call 611 [(.t 8),(.t 10)]),mv 2 7,mv 3 11])
 (.pre (.norm false [2,3]) .ret)))
def l611_0:AX:=
 (.note
 (.seq
 (.seq
 (.reg [mv 6 5,rg 7 (.bin .lss (.t 6) (.c (.i .i64 5))),mv 8 7,gd 9 8 true (.load (some 5) (.t 2)),gd 10 8 true (.mov (.t 1)),gd 11 8 true (.mov (.t 5)),gd 12 8 true (.bin .add (.t 11) (.c (.i .i64 1))),gd 13 8 true (.call 613 [(.t 9),(.t 10),(.t 12)]),rg 14 (.pick (.t 8) (.t 13) (.c (.b false)))])
 (.cond (.t 14)
 .skip
 (.exit 0)))
 (.block 1
 (.reg [mv 15 5,rg 16 (.bin .add (.t 15) (.c (.i .i64 1))),mv 5 16])))
 (.norm false [1,2,5]))
def b611:AX:=
 (.seq
 (.reg [rg 2 (.xop (.box 5) [(.t 0)]),rg 4 (.mov (.c (.i .i64 0)))])
 (.seq
 (.reg [rg 5 (.mov (.c (.i .i64 0)))])
 (.seq
 (.lp 0 (.norm false [1,2,5]) l611_0 (.norm false [5]))
 (.seq
 (.reg [mv 17 5,mv 4 17])
 (.pre (.norm false [4]) .ret)))))
def l613_0:AX:=
 (.note
 (.seq
 (.reg [rg 15 (.bin .lss (.t 14) (.t 13))])
 (.seq
 (.cond (.t 15)
 .skip
 (.exit 0))
 (.seq
 (.block 1
 (.seq
 (.reg [rg 16 (.iad 1 (.t 12) (.t 14)),rg 17 (.load none (.t 16)),mv 8 17])
 (.seq
 (.reg [rg 19 (.load (some 5) (.t 3)),mv 20 1,mv 21 8,rg 22 (.call 617 [(.t 19),(.t 20),(.t 21)]),mv 18 22,rg 23 (.ext (.t 18) 0),rg 24 (.ext (.t 18) 1),rg 9 (.alloc [(.b false),(.sl [] .nl),(.sl [] .nl)]),so (.store 3 (.t 9) (.t 23)),mv 10 24])
 (.seq
 (.drawT [mv 25 10,rg 26 (.un .not (.t 25)),mv 27 26,gd 28 27 false (.load (some 3) (.t 9)),gd 29 27 false (.mov (.t 8)),gd 30 27 false (.call 595 [(.t 29)]),gd 31 27 false (.call 205 [(.t 30)])]
 [gd 32 27 false (.call 217 [(.t 28),(.t 31)]),gd 33 27 false (.call 205 [(.c (.i .i64 1))]),gd 34 27 false (.call 212 [(.t 32),(.t 33)]),gd 35 27 false (.un .not (.t 34)),rg 36 (.pick (.t 27) (.c (.b true)) (.t 35))])
 (.cond (.t 36)
 (.seq
 (.reg [rg 6 (.mov (.c (.b false)))])
 (.pre (.norm false [6]) .ret))
 .skip)))))
 (.reg [rg 37 (.bin .add (.t 14) (.c (.i .i64 1))),mv 14 37]))))
 (.norm false [1,3,12,13,14]))
def b613:AX:=
 (.seq
 (.reg [rg 3 (.xop (.box 5) [(.t 0)]),rg 6 (.mov (.c (.b false)))])
 (.seq
 (.seq
 (.reg [mv 11 2,rg 12 (.call 589 [(.t 11)]),rg 13 (.len (.t 12)),rg 14 (.mov (.c (.i .i64 0)))])
 (.lp 0 (.norm false [1,3,12,13,14]) l613_0 (.norm false [])))
 (.seq
 (.reg [rg 6 (.mov (.c (.b true)))])
 (.pre (.norm false [6]) .ret))))
def l617_0:AX:=
 (.note
 (.seq
 (.reg [rg 47 (.bin .lss (.t 46) (.t 45))])
 (.seq
 (.cond (.t 47)
 .skip
 (.exit 2))
 (.seq
 (.block 3
 (.draw [⟨mv 48 9,0,1⟩,⟨mv 49 10,0,1⟩,⟨mv 50 9,0,0⟩,⟨mv 51 10,0,0⟩,⟨rg 52 (.iad 1 (.t 50) (.t 51)),0,0⟩,⟨rg 53 (.load none (.t 52)),0,0⟩,⟨rg 54 (.call 205 [(.c (.i .i64 1))]),0,0⟩,⟨rg 55 (.bsl 3 [(.b false),(.sl [] .nl),(.sl [] .nl)] 1 [(0,(.t 54))]),0,0⟩,⟨rg 56 (.app 3 (.t 53) (.t 55)),0,1⟩,⟨rg 57 (.iad 1 (.t 48) (.t 49)),1,1⟩,⟨so (.store 1 (.t 57) (.t 56)),1,2⟩]))
 (.reg [rg 58 (.bin .add (.t 46) (.c (.i .i64 1))),mv 46 58]))))
 (.trm [1,2,3,6,8,9,10,39,40,45,46]))
def l617_1:AX:=
 (.note
 (.seq
 (.reg [rg 41 (.bin .lss (.t 40) (.t 39))])
 (.seq
 (.cond (.t 41)
 .skip
 (.exit 0))
 (.seq
 (.block 1
 (.seq
 (.reg [mv 42 40,mv 10 42])
 (.seq
 (.reg [rg 43 (.fad 3 (.t 3)),rg 44 (.load none (.t 43)),rg 45 (.len (.t 44)),rg 46 (.mov (.c (.i .i64 0)))])
 (.pre (.opn 9 10 3) (.lp 2 (.trm [1,2,3,6,8,9,10,39,40,45,46]) l617_0 (.trm [1,2,3,6,8,9,39,40]))))))
 (.reg [rg 59 (.bin .add (.t 40) (.c (.i .i64 1))),mv 40 59]))))
 (.trm [1,2,3,6,8,9,39,40]))
def l617_2:AX:=
 (.note
 (.seq
 (.reg [rg 81 (.bin .lss (.t 80) (.t 79))])
 (.seq
 (.cond (.t 81)
 .skip
 (.exit 6))
 (.seq
 (.block 7
 (.seq
 (.reg [mv 82 80,rg 83 (.iad 3 (.t 78) (.t 80)),rg 84 (.load (some 3) (.t 83)),rg 14 (.alloc [(.b false),(.sl [] .nl),(.sl [] .nl)]),mv 13 82,so (.store 3 (.t 14) (.t 84))])
 (.drawT [mv 85 12,mv 86 13,mv 87 12,mv 88 13,rg 89 (.iad 3 (.t 87) (.t 88)),rg 90 (.load (some 3) (.t 89)),rg 91 (.load (some 3) (.t 14)),rg 92 (.call 217 [(.t 90),(.t 91)])]
 [rg 93 (.iad 3 (.t 85) (.t 86)),so (.store 3 (.t 93) (.t 92))])))
 (.reg [rg 94 (.bin .add (.t 80) (.c (.i .i64 1))),mv 80 94]))))
 (.trm [1,2,3,6,8,9,11,12,78,79,80]))
def l617_3:AX:=
 (.note
 (.seq
 (.seq
 (.reg [mv 63 11,rg 64 (.bin .gtr (.t 63) (.c (.i .i64 0)))])
 (.cond (.t 64)
 .skip
 (.exit 4)))
 (.seq
 (.block 5
 (.seq
 (.reg [mv 67 9,mv 68 2,mv 69 11,rg 70 (.call 605 [(.t 68),(.t 69)]),rg 71 (.iad 1 (.t 67) (.t 70)),rg 72 (.load none (.t 71)),mv 12 72])
 (.seq
 (.pre (.shi 9 11) (.draw [⟨rg 73 (.load (some 5) (.t 3)),0,0⟩,⟨mv 74 9,0,0⟩,⟨mv 75 11,0,0⟩,⟨rg 76 (.iad 1 (.t 74) (.t 75)),0,0⟩,⟨rg 77 (.load none (.t 76)),0,0⟩,⟨rg 78 (.call 622 [(.t 73),(.t 77)]),0,0⟩,⟨rg 79 (.len (.t 78)),0,0⟩,⟨rg 80 (.mov (.c (.i .i64 0))),0,0⟩]))
 (.lp 6 (.trm [1,2,3,6,8,9,11,12,78,79,80]) l617_2 (.trm [1,2,3,6,8,9,11])))))
 (.reg [mv 65 11,rg 66 (.bin .sub (.t 65) (.c (.i .i64 1))),mv 11 66])))
 (.trm [1,2,3,6,8,9,11]))
def l617_4:AX:=
 (.note
 (.seq
 (.reg [rg 98 (.bin .lss (.t 97) (.t 96))])
 (.seq
 (.cond (.t 98)
 .skip
 (.exit 8))
 (.seq
 (.block 9
 (.seq
 (.reg [mv 99 97,rg 100 (.iad 3 (.t 95) (.t 97)),rg 101 (.load (some 3) (.t 100)),rg 16 (.alloc [(.b false),(.sl [] .nl),(.sl [] .nl)]),mv 15 99,so (.store 3 (.t 16) (.t 101))])
 (.drawT [rg 102 (.load (some 3) (.t 8)),rg 103 (.load (some 3) (.t 16)),mv 104 9,rg 105 (.iad 1 (.t 104) (.c (.i .i64 0))),rg 106 (.load none (.t 105)),mv 107 15,rg 108 (.iad 3 (.t 106) (.t 107)),rg 109 (.load (some 3) (.t 108)),rg 110 (.call 217 [(.t 103),(.t 109)])]
 [rg 111 (.call 215 [(.t 102),(.t 110)]),so (.store 3 (.t 8) (.t 111))])))
 (.reg [rg 112 (.bin .add (.t 97) (.c (.i .i64 1))),mv 97 112]))))
 (.trm [6,8,9,95,96,97]))
def b617:AX:=
 (.seq
 (.reg [rg 3 (.xop (.box 5) [(.t 0)]),rg 6 (.alloc [(.b false),(.sl [] .nl),(.sl [] .nl)]),rg 7 (.mov (.c (.b false)))])
 (.seq
 (.reg [rg 17 (.call 205 [(.c (.i .i64 0))]),rg 8 (.alloc [(.b false),(.sl [] .nl),(.sl [] .nl)]),so (.store 3 (.t 8) (.t 17))])
 (.seq
 (.seq
 (.reg [rg 18 (.load (some 5) (.t 3)),rg 19 (.call 536 [(.t 18)]),rg 20 (.un .not (.t 19)),mv 21 20,gd 22 21 false (.mov (.t 1)),gd 23 21 false (.len (.t 22)),gd 24 21 false (.fad 3 (.t 3)),gd 25 21 false (.load none (.t 24)),gd 26 21 false (.len (.t 25)),gd 27 21 false (.bin .neq (.t 23) (.t 26)),rg 28 (.pick (.t 21) (.c (.b true)) (.t 27)),mv 29 28,gd 30 29 false (.mov (.t 2)),gd 31 29 false (.call 607 [(.t 30)]),gd 32 29 false (.un .not (.t 31)),rg 33 (.pick (.t 29) (.c (.b true)) (.t 32))])
 (.cond (.t 33)
 (.seq
 (.reg [rg 34 (.load (some 3) (.t 8)),so (.store 3 (.t 6) (.t 34)),rg 7 (.mov (.c (.b false)))])
 (.pre (.norm false [6,7]) .ret))
 .skip))
 (.seq
 (.reg [mv 35 2,rg 36 (.len (.t 35)),rg 37 (.mks 1 [(.sl [] .nl)] (.t 36) (.t 36)),mv 9 37])
 (.seq
 (.seq
 (.reg [mv 38 9,rg 39 (.len (.t 38)),rg 40 (.mov (.c (.i .i64 0)))])
 (.lp 0 (.trm [1,2,3,6,8,9,39,40]) l617_1 (.trm [1,2,3,6,8,9])))
 (.seq
 (.seq
 (.reg [mv 60 2,rg 61 (.len (.t 60)),rg 62 (.bin .sub (.t 61) (.c (.i .i64 1))),mv 11 62])
 (.lp 4 (.trm [1,2,3,6,8,9,11]) l617_3 (.trm [1,6,8,9])))
 (.seq
 (.seq
 (.reg [mv 95 1,rg 96 (.len (.t 95)),rg 97 (.mov (.c (.i .i64 0)))])
 (.lp 8 (.trm [6,8,9,95,96,97]) l617_4 (.trm [6,8])))
 (.seq
 (.reg [rg 113 (.load (some 3) (.t 8)),so (.store 3 (.t 6) (.t 113)),rg 7 (.mov (.c (.b true)))])
 (.pre (.norm false [6,7]) .ret)))))))))
def l622_0:AX:=
 (.note
 (.seq
 (.reg [rg 22 (.bin .lss (.t 21) (.t 20))])
 (.seq
 (.cond (.t 22)
 .skip
 (.exit 2))
 (.seq
 (.block 3
 (.seq
 (.reg [mv 23 21,rg 24 (.iad 3 (.t 19) (.t 21)),rg 25 (.load (some 3) (.t 24)),rg 10 (.alloc [(.b false),(.sl [] .nl),(.sl [] .nl)]),mv 9 23,so (.store 3 (.t 10) (.t 25))])
 (.drawT [rg 26 (.load (some 3) (.t 8)),rg 27 (.load (some 3) (.t 10)),mv 28 1,mv 29 9,rg 30 (.iad 3 (.t 28) (.t 29)),rg 31 (.load (some 3) (.t 30)),rg 32 (.call 217 [(.t 27),(.t 31)])]
 [rg 33 (.call 215 [(.t 26),(.t 32)]),so (.store 3 (.t 8) (.t 33))])))
 (.reg [rg 34 (.bin .add (.t 21) (.c (.i .i64 1))),mv 21 34]))))
 (.norm false [1,5,8,12,13,14,19,20,21]))
def l622_1:AX:=
 (.note
 (.seq
 (.reg [rg 15 (.bin .lss (.t 14) (.t 13))])
 (.seq
 (.cond (.t 15)
 .skip
 (.exit 0))
 (.seq
 (.block 1
 (.seq
 (.reg [rg 16 (.iad 1 (.t 12) (.t 14)),rg 17 (.load none (.t 16)),mv 7 17])
 (.seq
 (.reg [rg 18 (.call 205 [(.c (.i .i64 0))]),rg 8 (.alloc [(.b false),(.sl [] .nl),(.sl [] .nl)]),so (.store 3 (.t 8) (.t 18))])
 (.seq
 (.seq
 (.reg [mv 19 7,rg 20 (.len (.t 19)),rg 21 (.mov (.c (.i .i64 0)))])
 (.lp 2 (.norm false [1,5,8,12,13,14,19,20,21]) l622_0 (.norm false [1,5,8,12,13,14])))
 (.reg [mv 35 5,rg 36 (.load (some 3) (.t 8)),rg 37 (.bsl 3 [(.b false),(.sl [] .nl),(.sl [] .nl)] 1 [(0,(.t 36))]),rg 38 (.app 3 (.t 35) (.t 37)),mv 5 38])))))
 (.reg [rg 39 (.bin .add (.t 14) (.c (.i .i64 1))),mv 14 39]))))
 (.norm false [1,5,12,13,14]))
def b622:AX:=
 (.seq
 (.reg [rg 2 (.xop (.box 5) [(.t 0)]),rg 4 (.mov (.c (.sl [] .nl)))])
 (.seq
 (.note (.reg [rg 5 (.mov (.c (.sl [] .nl)))]) (.nil 5 3))
 (.seq
 (.seq
 (.reg [rg 11 (.fad 2 (.t 2)),rg 12 (.load none (.t 11)),rg 13 (.len (.t 12)),rg 14 (.mov (.c (.i .i64 0)))])
 (.lp 0 (.norm false [1,5,12,13,14]) l622_1 (.norm false [5])))
 (.seq
 (.reg [mv 40 5,mv 4 40])
 (.pre (.norm false [4]) .ret)))))
class COrder2 (T:Tbl):Prop where
 h604:T 604=some ⟨1,12,[.t 2,.t 3],b604,none,false⟩
 h611:T 611=some ⟨2,18,[.t 4],b611,none,false⟩
 h613:T 613=some ⟨3,38,[.t 6],b613,none,false⟩
 h617:T 617=some ⟨3,114,[.cell 6 (some 3),.t 7],b617,none,false⟩
 h622:T 622=some ⟨2,41,[.t 4],b622,none,false⟩
section
variable{T:Tbl}[COrder2 T]{d:Option Nat}{st:St}{xs:List AV}{ps:List Opd}{e:Env}{h:Heap}{ol:List Heap}
@[simp] theorem x604:callX (orc T) T 604 xs d st=cP T 604 false xs d st:=zaa COrder2.h604
theorem f604(xs:List AV)(hn:xs.length=1):callF T 604 xs=retF [.t 2,.t 3] false (evX (orc T) T 0 b604 ⟨argEnv xs,[],1⟩):=zac COrder2.h604 hn
@[simp] theorem x611:callX (orc T) T 611 xs d st=cP T 611 false xs d st:=zaa COrder2.h611
@[simp] theorem y611:opD (orc T) T (.call 611 ps) e h ol=dP T 611 false ps e:=zas COrder2.h611
theorem f611(xs:List AV)(hn:xs.length=2):callF T 611 xs=retF [.t 4] false (evX (orc T) T 0 b611 ⟨argEnv xs,[],1⟩):=zac COrder2.h611 hn
@[simp] theorem x613:callX (orc T) T 613 xs d st=cP T 613 false xs d st:=zaa COrder2.h613
theorem f613(xs:List AV)(hn:xs.length=3):callF T 613 xs=retF [.t 6] false (evX (orc T) T 0 b613 ⟨argEnv xs,[],1⟩):=zac COrder2.h613 hn
@[simp] theorem x617:callX (orc T) T 617 xs d st=cP T 617 false xs d st:=zaa COrder2.h617
theorem f617(xs:List AV)(hn:xs.length=3):callF T 617 xs=retF [.cell 6 (some 3),.t 7] false (evX (orc T) T 0 b617 ⟨argEnv xs,[],1⟩):=zac COrder2.h617 hn
theorem f622(xs:List AV)(hn:xs.length=2):callF T 622 xs=retF [.t 4] false (evX (orc T) T 0 b622 ⟨argEnv xs,[],1⟩):=zac COrder2.h622 hn
end
class CRef32 (T:Tbl):Prop where
def b588:AX:=
 (.seq
 (.reg [rg 0 (.mov (.c (.b false)))])
 (.seq
 (.reg [rg 6 (.call 603 [(.c (.s [104,101,117,110]))]),mv 5 6,rg 7 (.ext (.t 5) 0),rg 8 (.ext (.t 5) 1),rg 1 (.alloc [(.s []),(.sl [] .nl),(.sl [] .nl),(.sl [] .nl),(.sl [] .nl)]),so (.store 5 (.t 1) (.t 7)),mv 2 8])
 (.seq
 (.reg [rg 10 (.load (some 5) (.t 1)),rg 11 (.call 604 [(.t 10)]),mv 9 11,rg 12 (.ext (.t 9) 0),rg 13 (.ext (.t 9) 1),mv 3 12,mv 4 13])
 (.seq
 (.reg [mv 14 2,mv 15 14,gd 16 15 true (.call 589 [(.c (.i .i64 3))]),gd 17 15 true (.len (.t 16)),gd 18 15 true (.bin .eql (.t 17) (.c (.i .i64 2))),rg 19 (.pick (.t 15) (.t 18) (.c (.b false))),mv 20 19,gd 21 20 true (.bsl 1 [(.i .i64 0)] 3 [(0,(.c (.i .i64 0))),(1,(.c (.i .i64 1))),(2,(.c (.i .i64 2)))]),gd 22 20 true (.call 595 [(.t 21)]),gd 23 20 true (.bin .eql (.t 22) (.c (.i .i64 6))),rg 24 (.pick (.t 20) (.t 23) (.c (.b false))),mv 25 24,gd 26 25 true (.mov (.t 3)),gd 27 25 true (.bin .eql (.t 26) (.c (.i .i64 2))),rg 28 (.pick (.t 25) (.t 27) (.c (.b false))),mv 29 28,gd 30 29 true (.mov (.t 4)),gd 31 29 true (.bin .eql (.t 30) (.c (.i .i64 1))),rg 32 (.pick (.t 29) (.t 31) (.c (.b false))),mv 0 32])
 (.pre (.norm false [0]) .ret)))))
class CLaw32 (T:Tbl):Prop where
 h588:T 588=some ⟨0,33,[.t 0],b588,none,false⟩
section
variable{T:Tbl}[CLaw32 T]{d:Option Nat}{st:St}{xs:List AV}{ps:List Opd}{e:Env}{h:Heap}{ol:List Heap}
@[simp] theorem x588:callX (orc T) T 588 xs d st=cP T 588 false xs d st:=zaa CLaw32.h588
theorem f588(xs:List AV)(hn:xs.length=0):callF T 588 xs=retF [.t 0] false (evX (orc T) T 0 b588 ⟨argEnv xs,[],1⟩):=zac CLaw32.h588 hn
end
def l639_0:AX:=
 (.note
 (.seq
 (.seq
 (.reg [mv 16 4,rg 17 (.bin .leq (.t 16) (.c (.i .i64 5)))])
 (.cond (.t 17)
 .skip
 (.exit 0)))
 (.seq
 (.block 1
 (.reg [mv 20 3,mv 21 4,rg 22 (.call 589 [(.t 21)]),rg 23 (.len (.t 22)),rg 24 (.bin .add (.t 20) (.t 23)),mv 3 24]))
 (.reg [mv 18 4,rg 19 (.bin .add (.t 18) (.c (.i .i64 1))),mv 4 19])))
 (.norm false [1,2,3,4]))
def l639_1:AX:=
 (.note
 (.seq
 (.seq
 (.reg [mv 32 5,mv 33 2,rg 34 (.len (.t 33)),rg 35 (.bin .lss (.t 32) (.t 34))])
 (.cond (.t 35)
 .skip
 (.exit 2)))
 (.seq
 (.block 3
 (.seq
 (.reg [mv 39 2,mv 40 5,rg 41 (.iad 5 (.t 39) (.t 40)),rg 42 (.load (some 5) (.t 41)),rg 43 (.call 604 [(.t 42)]),mv 38 43,rg 44 (.ext (.t 38) 0),rg 45 (.ext (.t 38) 1),mv 6 44,mv 7 45])
 (.seq
 (.reg [mv 46 6,mv 47 5,rg 48 (.iaa 2 6 (.t 1) (.t 47)),rg 49 (.iaa 1 2 (.t 48) (.c (.i .i64 0))),rg 50 (.load none (.t 49)),rg 51 (.bin .neq (.t 46) (.t 50)),mv 52 51,gd 53 52 false (.mov (.t 7)),gd 54 52 false (.mov (.t 5)),gd 55 52 false (.iaa 2 6 (.t 1) (.t 54)),gd 56 52 false (.iaa 1 2 (.t 55) (.c (.i .i64 1))),gd 57 52 false (.load none (.t 56)),gd 58 52 false (.bin .neq (.t 53) (.t 57)),rg 59 (.pick (.t 52) (.c (.b true)) (.t 58))])
 (.cond (.t 59)
 (.seq
 (.reg [rg 0 (.mov (.c (.b false)))])
 (.pre (.norm false [0]) .ret))
 .skip))))
 (.reg [mv 36 5,rg 37 (.bin .add (.t 36) (.c (.i .i64 1))),mv 5 37])))
 (.norm false [1,2,5]))
def b639:AX:=
 (.seq
 (.reg [rg 0 (.mov (.c (.b false)))])
 (.seq
 (.reg [rg 8 (.build [(.i .i64 0),(.i .i64 0)] [(0,1,(.c (.i .i64 1))),(1,1,(.c (.i .i64 0)))]),rg 9 (.build [(.i .i64 0),(.i .i64 0)] [(0,1,(.c (.i .i64 2))),(1,1,(.c (.i .i64 1)))]),rg 10 (.build [(.i .i64 0),(.i .i64 0)] [(0,1,(.c (.i .i64 2))),(1,1,(.c (.i .i64 1)))]),rg 11 (.build [(.i .i64 0),(.i .i64 0)] [(0,1,(.c (.i .i64 4))),(1,1,(.c (.i .i64 0)))]),rg 12 (.build [(.i .i64 0),(.i .i64 0)] [(0,1,(.c (.i .i64 3))),(1,1,(.c (.i .i64 2)))]),rg 13 (.build [(.i .i64 0),(.i .i64 0)] [(0,1,(.c (.i .i64 5))),(1,1,(.c (.i .i64 4)))]),rg 14 (.build [(.i .i64 0),(.i .i64 0),(.i .i64 0),(.i .i64 0),(.i .i64 0),(.i .i64 0),(.i .i64 0),(.i .i64 0),(.i .i64 0),(.i .i64 0),(.i .i64 0),(.i .i64 0)] [(0,2,(.t 8)),(2,2,(.t 9)),(4,2,(.t 10)),(6,2,(.t 11)),(8,2,(.t 12)),(10,2,(.t 13))]),rg 1 (.alloc [(.i .i64 0),(.i .i64 0),(.i .i64 0),(.i .i64 0),(.i .i64 0),(.i .i64 0),(.i .i64 0),(.i .i64 0),(.i .i64 0),(.i .i64 0),(.i .i64 0),(.i .i64 0)]),so (.store 12 (.t 1) (.t 14))])
 (.seq
 (.reg [rg 15 (.call 634 []),mv 2 15])
 (.seq
 (.reg [rg 3 (.mov (.c (.i .i64 0)))])
 (.seq
 (.seq
 (.reg [rg 4 (.mov (.c (.i .i64 1)))])
 (.lp 0 (.norm false [1,2,3,4]) l639_0 (.norm false [1,2,3])))
 (.seq
 (.seq
 (.reg [mv 25 2,rg 26 (.len (.t 25)),rg 27 (.bin .neq (.t 26) (.c (.i .i64 6))),mv 28 27,gd 29 28 false (.mov (.t 3)),gd 30 28 false (.bin .neq (.t 29) (.c (.i .i64 17))),rg 31 (.pick (.t 28) (.c (.b true)) (.t 30))])
 (.cond (.t 31)
 (.seq
 (.reg [rg 0 (.mov (.c (.b false)))])
 (.pre (.norm false [0]) .ret))
 .skip))
 (.seq
 (.seq
 (.reg [rg 5 (.mov (.c (.i .i64 0)))])
 (.lp 2 (.norm false [1,2,5]) l639_1 (.norm false [])))
 (.seq
 (.reg [rg 60 (.call 588 []),mv 0 60])
 (.pre (.norm false [0]) .ret)))))))))
class CLaw32s (T:Tbl):Prop where
 h639:T 639=some ⟨0,61,[.t 0],b639,none,false⟩
section
variable{T:Tbl}[CLaw32s T]{d:Option Nat}{st:St}{xs:List AV}{ps:List Opd}{e:Env}{h:Heap}{ol:List Heap}
theorem f639(xs:List AV)(hn:xs.length=0):callF T 639 xs=retF [.t 0] false (evX (orc T) T 0 b639 ⟨argEnv xs,[],1⟩):=zac CLaw32s.h639 hn
end
section
open Go.RowKit
def opU:AOp→List Nat
 | .call u _=>[u]
 | .ifc k _=>[1000000+k]
 | .inv _ k u _ _=>[1000000+k,u]
 | .xop (.mkf k) _ | .xop (.mkv k) _=>[1000000+k]
 | _=>[]
def cXs:AX→List Nat
 | .reg l=>l.flatMap fun o=>opU o.op
 | .draw l=>l.flatMap fun o=>opU o.ao.op
 | .drawT hd tl=>(hd.flatMap fun o=>opU o.op)++tl.flatMap fun o=>opU o.op
 | .drawM hd tl=>(hd.flatMap fun o=>opU o.op)++tl.flatMap fun o=>opU o.op
 | .seq a b=>cXs a++cXs b
 | .cond _ x y=>cXs x++cXs y
 | .block _ c | .loop c | .note c _ | .pre _ c | .scope c | .lp _ _ c _=>cXs c
 | .gsc _ c r=>cXs c++cXs r
 | _=>[]
structure Agr (R:Nat→Bool) (T T':Tbl) (O O':Orc):Prop where
 tbl:∀u,R u=true→T u=T' u
 call:∀u xs hb,R u=true→O.call u xs hb=O'.call u xs hb
 loop:∀k c st,(∀u∈cXs c,R u=true)→O.loop k c st=O'.loop k c st
section
variable{R:Nat→Bool}{T T':Tbl}{O O':Orc}
theorem zj1(h:Agr R T T' O O'){u:Nat}(hu:R u=true){xs:List AV}{d:Option Nat}{st:St}:callX O T u xs d st=callX O' T' u xs d st:=by
 unfold callX
 rw[h.tbl u hu]
 simp only[h.call u _ _ hu]
theorem zwr(h:Agr R T T' O O'){op:AOp}(hu:∀u∈opU op,R u=true){d:Option Nat}{st:St}:opX O T op d st=opX O' T' op d st:=by
 cases op<;>simp only[opX]
 case call u args=>exact zj1 h (hu _ (by simp[opU]))
 case ifc k x=>unfold tyNum;rw[h.tbl _ (hu _ (by simp[opU]))]
 case inv nm k u r args=>
  have e1:tyNum T k=tyNum T' k:=by unfold tyNum;rw[h.tbl _ (hu _ (by simp[opU]))]
  have e2:methsT T k=methsT T' k:=by unfold methsT;rw[h.tbl _ (hu _ (by simp[opU]))]
  have e3:funT T k=funT T' k:=by unfold funT;rw[h.tbl _ (hu _ (by simp[opU]))]
  grind[zj1,opU]
 case xop k xs=>
  cases k<;>simp only
  all_goals rename_i k
  all_goals
   have e1:tyNum T k=tyNum T' k:=by unfold tyNum;rw[h.tbl _ (hu _ (by simp[opU]))]
   rw[e1]
theorem zqt(h:Agr R T T' O O'){o:AO}(hu:∀u∈opU o.op,R u=true){st:St}:stepX O T o st=stepX O' T' o st:=by
 unfold stepX gX
 simp only[zwr h hu]
theorem zfn(h:Agr R T T' O O'):∀(l:List AO),(∀o∈l,∀u∈opU o.op,R u=true)→∀st,runX O T l st=runX O' T' l st
 | [],_,st=>rfl
 | o::l,hu,st=>by
  simp only[runX]
  rw[zqt h (hu o List.mem_cons_self)]
  congr 1
  funext s
  exact zfn h l (fun o ho=>hu o (List.mem_cons_of_mem _ ho)) s
theorem zws(h:Agr R T T' O O'){op:AOp}(hu:∀u∈opU op,R u=true){e:Env}{hp:Heap}{older:List Heap}:opD O T op e hp older=opD O' T' op e hp older:=by
 by_cases hap:∃z x0 y,op=.app z x0 y
 ·obtain⟨z,x0,y,rfl⟩:=hap
  by_cases hc:x0=.c (.sl [] .nl)
  ·subst hc;rfl
  ·rw[zls hc,zls hc]
 cases op<;>(try exact absurd ⟨_,_,_,rfl⟩ hap)<;>simp only[opD]
 case call u args=>
  rw[h.tbl _ (hu _ (by simp[opU]))]
  simp only[h.call _ _ _ (hu _ (show u∈_ by simp[opU]))]
 case ifc k x=>unfold tyNum;rw[h.tbl _ (hu _ (by simp[opU]))]
 case inv nm k u r args=>
  have e1:tyNum T k=tyNum T' k:=by unfold tyNum;rw[h.tbl _ (hu _ (by simp[opU]))]
  have e2:methsT T k=methsT T' k:=by unfold methsT;rw[h.tbl _ (hu _ (by simp[opU]))]
  rw[e1,e2,h.tbl u (hu u (by simp[opU]))]
  simp only[h.call u _ _ (hu u (by simp[opU]))]
theorem zqu(h:Agr R T T' O O'){o:AO}(hu:∀u∈opU o.op,R u=true){e:Env}{hp:Heap}{older:List Heap}:qX O T o e hp older=qX O' T' o e hp older:=by
 unfold qX
 simp only[zws h hu]
theorem zqv(h:Agr R T T' O O'){u:Nat}(hu:R u=true){ys:List AV}:callR O T u ys=callR O' T' u ys:=by
 unfold callR
 rw[h.tbl u hu]
 simp only[h.call u _ _ hu]
theorem zj2(h:Agr R T T' O O'):∀(l:List DO),(∀o∈l,∀u∈opU o.ao.op,R u=true)→∀e hp clk older pend,drawX O T l e hp clk older pend=drawX O' T' l e hp clk older pend
 | [],_,e,hp,clk,older,pend=>rfl
 | o::l,hu,e,hp,clk,older,pend=>by
  have ih:=zj2 h l (fun o ho=>hu o (List.mem_cons_of_mem _ ho))
  simp only[drawX]
  rw[zqu h (hu o List.mem_cons_self)]
  simp only[ih]
  cases o.ao.op.writes with
  | true=>rfl
  | false=>
   cases hrow:rowQ o.ao.guard o.ao.op.callN e hp (older.take (older.length-o.lo)) with
   | none=>rfl
   | some p=>
    obtain⟨_,args,hop,_⟩:=zj0 hrow
    have hp:R p.1=true:=hu o List.mem_cons_self _ (by rw[hop];simp[opU])
    simp only[zqv h hp]
theorem zj3(h:Agr R T T' O O')(tl:List AO)(ht:∀o∈tl,∀u∈opU o.op,R u=true):∀(l:List AO),(∀o∈l,∀u∈opU o.op,R u=true)→∀e hp clk,headX O T tl l e hp clk=headX O' T' tl l e hp clk
 | [],_,e,hp,clk=>zfn h tl ht _
 | o::l,hu,e,hp,clk=>by
  have ih:=zj3 h tl ht l (fun o ho=>hu o (List.mem_cons_of_mem _ ho))
  simp only[headX]
  rw[zqu h (hu o List.mem_cons_self)]
  simp only[ih]
theorem zqw(h:Agr R T T' O O'){u:Nat}(hu:R u=true){xs:List AV}{d clk:Nat}:callM O T u xs d clk=callM O' T' u xs d clk:=by
 unfold callM
 rw[h.tbl u hu]
 simp only[h.call u _ _ hu]
theorem zj4(h:Agr R T T' O O')(tl:List AO)(ht:∀o∈tl,∀u∈opU o.op,R u=true)(h0:Heap)(c0:Nat)(X:Heap):∀(l:List AO),(∀o∈l,∀u∈opU o.op,R u=true)→∀e hp clk,headM O T tl h0 c0 X l e hp clk=headM O' T' tl h0 c0 X l e hp clk
 | [],_,e,hp,clk=>zfn h tl ht _
 | o::l,hu,e,hp,clk=>by
  have ih:=zj4 h tl ht h0 c0 X l (fun o ho=>hu o (List.mem_cons_of_mem _ ho))
  simp only[headM]
  rw[zqu h (hu o List.mem_cons_self)]
  simp only[ih]
  cases hm:o.op.maker with
  | true=>rfl
  | false=>
   cases hst:o.op.isStore with
   | true=>rfl
   | false=>
   cases hl:o.op.lentN with
   | none=>rfl
   | some ua=>
    have hua:R ua.1=true:=hu o List.mem_cons_self _ (by rw[zhq hl];simp[opU])
    simp only[zqw h hua]
theorem zbr(h:Agr R T T' O O')(k:Nat):∀(c:AX),(∀u∈cXs c,R u=true)→∀st,evX O T k c st=evX O' T' k c st
 | .skip,_,st=>rfl
 | .reg l,hu,st=>by
  simp only[evX]
  rw[zfn h l fun o ho u hou=>hu u (List.mem_flatMap.2 ⟨o,ho,hou⟩)]
 | .draw l,hu,st=>by
  simp only[evX]
  rw[zj2 h l fun o ho u hou=>hu u (List.mem_flatMap.2 ⟨o,ho,hou⟩)]
 | .drawT hd tl,hu,st=>by
  simp only[evX]
  rw[zj3 h tl (fun o ho u hou=>hu u (List.mem_append_right _ (List.mem_flatMap.2 ⟨o,ho,hou⟩))) hd (fun o ho u hou=>hu u (List.mem_append_left _ (List.mem_flatMap.2 ⟨o,ho,hou⟩)))]
 | .drawM hd tl,hu,st=>by
  simp only[evX]
  rw[zj4 h tl (fun o ho u hou=>hu u (List.mem_append_right _ (List.mem_flatMap.2 ⟨o,ho,hou⟩))) _ _ _ hd (fun o ho u hou=>hu u (List.mem_append_left _ (List.mem_flatMap.2 ⟨o,ho,hou⟩)))]
 | .bad,_,st=>rfl
 | .prim f,_,st=>rfl
 | .seq a b,hu,st=>by
  simp only[evX]
  rw[zbr h k a fun u hm=>hu u (List.mem_append_left _ hm)]
  congr 1
  funext r
  rw[zbr h k b fun u hm=>hu u (List.mem_append_right _ hm)]
 | .cond c x y,hu,st=>by
  simp only[evX]
  rw[zbr h k x fun u hm=>hu u (List.mem_append_left _ hm),zbr h k y fun u hm=>hu u (List.mem_append_right _ hm)]
 | .block id c,hu,st=>by
  simp only[evX]
  rw[zbr h k c hu]
 | .loop c,hu,st=>h.loop k c st hu
 | .exit id,_,st=>rfl
 | .ret,_,st=>rfl
 | .note c g,hu,st=>by
  simp only[evX]
  rw[zbr h k c hu]
 | .pre g c,hu,st=>by
  simp only[evX]
  congr 1
  funext s
  exact zbr h k c hu s
 | .scope c,hu,st=>by
  simp only[evX]
  rw[zbr h k c hu]
 | .label _,_,st=>rfl
 | .goto _,_,st=>rfl
 | .gsc l c r,hu,st=>by
  simp only[evX]
  rw[zbr h k c fun u hm=>hu u (List.mem_append_left _ hm)]
  congr 1
  funext s
  exact zbr h k r (fun u hm=>hu u (List.mem_append_right _ hm)) s
 | .lp id g c g2,hu,st=>by
  simp only[evX,h.loop k c _ hu]
theorem zqx(hc:∀u af,R u=true→T u=some af→∀v∈cXs af.body,R v=true)(h:Agr R T T' O O'):Agr R T T' (nextO T O) (nextO T' O') where
 tbl:=h.tbl
 call u xs hb hu:=by
  simp only[nextO]
  rw[←h.tbl u hu]
  cases ht:T u with
  | none=>rfl
  | some af=>
   grind[zbr]
 loop k c st hu:=by
  simp only[nextO]
  rw[zbr h k c hu]
  congr 1
  funext r
  rw[h.loop k c _ hu]
theorem zie(ht:∀u,R u=true→T u=T' u)(hc:∀u af,R u=true→T u=some af→∀v∈cXs af.body,R v=true):∀n,Agr R T T' (orcN T n) (orcN T' n)
 | 0=>⟨ht,fun _ _ _ _=>rfl,fun _ _ _ _=>rfl⟩
 | n+1=>zqx hc (zie ht hc n)
theorem zwt(ht:∀u,R u=true→T u=T' u)(hc:∀u af,R u=true→T u=some af→∀v∈cXs af.body,R v=true):Agr R T T' (orc T) (orc T'):=by
 refine⟨ht,fun u xs hb hu=>?_,fun k c st hu=>?_⟩
 ·simp only[orc]
  congr 1
  funext n
  exact(zie ht hc n).call u xs hb hu
 ·simp only[orc]
  congr 1
  funext n
  exact(zie ht hc n).loop k c st hu
end
theorem zc4{l:List (Nat×AFx)}{u:Nat}{af:AFx}(h:l.lookup u=some af):(u,af)∈l:=by
 induction l with
 | nil=>cases h
 | cons q l ih=>
  grind
structure Part (l l':List (Nat×AFx)):Prop where
 sub:∀p∈l',l.lookup p.1=some p.2
 clo:(l'.all fun p=>(cXs p.2.body).all fun v=>(l'.lookup v).isSome || (l.lookup v).isNone)=true
theorem Part.agr{l l':List (Nat×AFx)}(h:Part l l'):Agr (fun u=>(l'.lookup u).isSome || (l.lookup u).isNone) (fun u=>l.lookup u) (fun u=>l'.lookup u) (orc fun u=>l.lookup u) (orc fun u=>l'.lookup u):=by
 refine zwt (fun v hv=>?_) (fun v a hv hva w hw=>?_)
 ·cases hv2:l'.lookup v with
  | none=>
   cases hv3:l.lookup v with
   | none=>rfl
   | some a=>grind
  | some a=>exact h.sub _ (zc4 hv2)
 ·cases hv2:l'.lookup v with
  | none=>grind
  | some b=>
   have hb:=zc4 hv2
   have h1:=h.sub _ hb
   rw[hva]at h1
   cases h1
   exact List.all_eq_true.1 (List.all_eq_true.1 h.clo _ hb) w hw
theorem Part.ev{l l':List (Nat×AFx)}(h:Part l l'){c:AX}(hc:((cXs c).all fun v=>(l'.lookup v).isSome)=true){st:St}{r:Option (Ex×St)}
  (he:evX (orc fun u=>l.lookup u) (fun u=>l.lookup u) 0 c st=r):evX (orc fun u=>l'.lookup u) (fun u=>l'.lookup u) 0 c st=r:=by
 rw[←zbr h.agr 0 c (fun v hv=>by grind) st]
 omega
theorem Part.call{l l':List (Nat×AFx)}(h:Part l l'){u:Nat}(hu:(l'.lookup u).isSome=true){xs:List AV}{r:Option AV}(he:callF (fun u=>l.lookup u) u xs=r):callF (fun u=>l'.lookup u) u xs=r:=by
 rw[←he]
 unfold callF
 rw[h.agr.call u xs [] (by grind)]
end
end Go.Ab