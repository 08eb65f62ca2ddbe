/-
  A calculus of values, boxes and code, and what functions of the program compute, proved in it.
  Conditions: none beyond those that the theorems state. (Part 4.)
-/
import Derived.Test.YtfgfjicelfagcaaGreatDoorPart3

set_option linter.unusedSectionVars false
set_option linter.unusedVariables false
set_option linter.unusedSimpArgs false
set_option linter.unnecessarySimpa false

namespace Go.Ab
def l92_0:AX:=
 (.note
 (.seq
 (.reg [rg 27 (.bin .lss (.t 26) (.t 25))])
 (.seq
 (.cond (.t 27)
 .skip
 (.exit 0))
 (.seq
 (.block 1
 (.seq
 (.reg [mv 28 26,rg 29 (.iad 1 (.t 24) (.t 26)),rg 30 (.load none (.t 29)),mv 8 28,mv 9 30])
 (.seq
 (.reg [mv 31 9,rg 32 (.conv .u64 (.t 31)),mv 33 6,rg 34 (.bin .shl (.t 32) (.t 33)),mv 10 34])
 (.seq
 (.reg [mv 35 7,mv 36 5,mv 37 8,rg 38 (.bin .add (.t 36) (.t 37)),rg 39 (.iad 1 (.t 35) (.t 38)),rg 40 (.load none (.t 39)),mv 41 10,rg 42 (.conv .u32 (.t 41)),rg 43 (.bin .or (.t 40) (.t 42)),rg 44 (.iad 1 (.t 35) (.t 38)),so (.store 1 (.t 44) (.t 43))])
 (.reg [mv 45 7,mv 46 5,mv 47 8,rg 48 (.bin .add (.t 46) (.t 47)),rg 49 (.bin .add (.t 48) (.c (.i .i64 1))),mv 50 10,rg 51 (.bin .shr (.t 50) (.c (u64 32))),rg 52 (.conv .u32 (.t 51)),rg 53 (.iad 1 (.t 45) (.t 49)),so (.store 1 (.t 53) (.t 52))])))))
 (.reg [rg 54 (.bin .add (.t 26) (.c (.i .i64 1))),mv 26 54]))))
 (.norm false [5,6,7,24,25,26]))
def b92:AX:=
 (.seq
 (.reg [rg 4 (.mov (.c (.sl [] .nl)))])
 (.seq
 (.reg [mv 11 1,rg 12 (.mm true [(.t 11),(.c (.i .i64 0))]),rg 13 (.mm false [(.t 12),(.c (.i .i64 4096))]),mv 1 13])
 (.seq
 (.reg [mv 14 1,rg 15 (.bin .quo (.t 14) (.c (.i .i64 32))),mv 16 1,rg 17 (.bin .rem (.t 16) (.c (.i .i64 32))),mv 5 15,mv 6 17])
 (.seq
 (.reg [mv 18 5,mv 19 0,rg 20 (.len (.t 19)),rg 21 (.bin .add (.t 18) (.t 20)),rg 22 (.bin .add (.t 21) (.c (.i .i64 1))),rg 23 (.mks 1 [(u32 0)] (.t 22) (.t 22)),mv 7 23])
 (.seq
 (.seq
 (.reg [mv 24 0,rg 25 (.len (.t 24)),rg 26 (.mov (.c (.i .i64 0)))])
 (.lp 0 (.norm false [5,6,7,24,25,26]) l92_0 (.norm false [7])))
 (.seq
 (.reg [mv 55 7,rg 56 (.call 71 [(.t 55)]),mv 4 56])
 (.pre (.norm false [4]) .ret)))))))
def l94_0:AX:=
 (.note
 (.seq
 (.reg [rg 28 (.bin .lss (.t 27) (.t 26))])
 (.seq
 (.cond (.t 28)
 .skip
 (.exit 0))
 (.seq
 (.block 1
 (.seq
 (.reg [mv 29 27,mv 8 29])
 (.seq
 (.reg [mv 30 0,mv 31 5,mv 32 8,rg 33 (.bin .add (.t 31) (.t 32)),rg 34 (.iad 1 (.t 30) (.t 33)),rg 35 (.load none (.t 34)),rg 36 (.conv .u64 (.t 35)),mv 9 36])
 (.seq
 (.seq
 (.reg [mv 37 5,mv 38 8,rg 39 (.bin .add (.t 37) (.t 38)),rg 40 (.bin .add (.t 39) (.c (.i .i64 1))),mv 41 0,rg 42 (.len (.t 41)),rg 43 (.bin .lss (.t 40) (.t 42))])
 (.cond (.t 43)
 (.reg [mv 44 9,mv 45 0,mv 46 5,mv 47 8,rg 48 (.bin .add (.t 46) (.t 47)),rg 49 (.bin .add (.t 48) (.c (.i .i64 1))),rg 50 (.iad 1 (.t 45) (.t 49)),rg 51 (.load none (.t 50)),rg 52 (.conv .u64 (.t 51)),rg 53 (.bin .shl (.t 52) (.c (u64 32))),rg 54 (.bin .or (.t 44) (.t 53)),mv 9 54])
 .skip))
 (.reg [mv 55 7,mv 56 8,mv 57 9,mv 58 6,rg 59 (.bin .shr (.t 57) (.t 58)),rg 60 (.conv .u32 (.t 59)),rg 61 (.iad 1 (.t 55) (.t 56)),so (.store 1 (.t 61) (.t 60))])))))
 (.reg [rg 62 (.bin .add (.t 27) (.c (.i .i64 1))),mv 27 62]))))
 (.norm false [0,5,6,7,26,27]))
def b94:AX:=
 (.seq
 (.reg [rg 4 (.mov (.c (.sl [] .nl)))])
 (.seq
 (.reg [mv 10 1,rg 11 (.mm true [(.t 10),(.c (.i .i64 0))]),mv 1 11])
 (.seq
 (.reg [mv 12 1,rg 13 (.bin .quo (.t 12) (.c (.i .i64 32))),mv 14 1,rg 15 (.bin .rem (.t 14) (.c (.i .i64 32))),mv 5 13,mv 6 15])
 (.seq
 (.seq
 (.reg [mv 16 5,mv 17 0,rg 18 (.len (.t 17)),rg 19 (.bin .geq (.t 16) (.t 18))])
 (.cond (.t 19)
 (.seq
 (.reg [rg 4 (.mov (.c (.sl [] .nl)))])
 (.pre (.norm false [4]) .ret))
 .skip))
 (.seq
 (.reg [mv 20 0,rg 21 (.len (.t 20)),mv 22 5,rg 23 (.bin .sub (.t 21) (.t 22)),rg 24 (.mks 1 [(u32 0)] (.t 23) (.t 23)),mv 7 24])
 (.seq
 (.seq
 (.reg [mv 25 7,rg 26 (.len (.t 25)),rg 27 (.mov (.c (.i .i64 0)))])
 (.lp 0 (.norm false [0,5,6,7,26,27]) l94_0 (.norm false [7])))
 (.seq
 (.reg [mv 63 7,rg 64 (.call 71 [(.t 63)]),mv 4 64])
 (.pre (.norm false [4]) .ret))))))))
class CTwos (T:Tbl):Prop where
 h92:T 92=some ⟨2,57,[.t 4],b92,none,false⟩
 h94:T 94=some ⟨2,65,[.t 4],b94,none,false⟩
section
variable{T:Tbl}[CTwos T]{d:Option Nat}{st:St}
@[simp] theorem x94(xs:List AV):callX (orc T) T 94 xs d st=cP T 94 false xs d st:=zaa CTwos.h94
theorem f94(xs:List AV)(hn:xs.length=2):callF T 94 xs=retF [.t 4] false (evX (orc T) T 0 b94 ⟨argEnv xs,[],1⟩):=zab CTwos.h94 hn
end
theorem ze7{P m S:List UInt32}{i:Nat}(hm:m.length=i)(hi:i<S.length):(P++(m++S.drop i))[P.length+i]? = some (S[i]'hi):=by
 rw[List.getElem?_append_right (by omega),Nat.add_sub_cancel_left,List.getElem?_append_right (by omega),hm,Nat.sub_self,List.getElem?_drop,Nat.add_zero,List.getElem?_eq_getElem hi]
theorem ze8{P m S:List UInt32}{i:Nat}(w:UInt32)(hm:m.length=i)(hi:i<S.length):(P++(m++S.drop i)).set (P.length+i) w=P++((m++[w])++S.drop (i+1)):=by
 rw[List.set_append_right (P.length+i) w (by omega),Nat.add_sub_cancel_left,List.set_append_right i w (by omega),hm,Nat.sub_self,List.drop_eq_getElem_cons hi,List.set_cons_zero]
 simp
section
variable{T:Tbl}[CProd T]
def stRow(P S a:List UInt32)(x:Nat)(y:Nat×Nat×List UInt32):St:=
 ⟨[(0,.bs (.bor 0) 0 1 0 (P.length+S.length)),(1,.i .i64 P.length),(2,.sl (u32s a) .an),(3,u32 x),(4,u32 y.2.1),(12,.sl (u32s a) .an),(13,.i .i64 a.length),(14,.i .i64 y.1)],
  [(.bor 0,⟨0,.own,1,u32s (P++(y.2.2++S.drop y.1))⟩)],4⟩
theorem zvx{p m w c c' s x y t v k:Nat}(h:m+p*c=s+x*t+k)(e:w+4294967296*c'=x*y+v+c):(m+p*w)+p*4294967296*c'=(s+p*v)+x*(t+p*y)+k:=by
 have e2:p*w+p*4294967296*c'=p*(x*y)+p*v+p*c:=by rw[Nat.mul_assoc,←Nat.mul_add,e,Nat.mul_add,Nat.mul_add]
 have e3:x*(t+p*y)=x*t+p*(x*y):=by rw[Nat.mul_add,←Nat.mul_assoc,Nat.mul_comm x p,Nat.mul_assoc]
 omega
theorem zvy(P S a:List UInt32)(x c0:Nat)(hx:x<4294967296)(hS:a.length<S.length)(hl:P.length+S.length≤1000000):∀y:Nat×Nat×List UInt32,
  (y.1≤a.length∧y.2.1<4294967296∧y.2.2.length=y.1∧val y.2.2+4294967296^y.1*y.2.1=val (S.take y.1)+x*val (a.take y.1)+c0) →
  ∃r,(∃(c:Nat) (m:List UInt32),r=(Ex.n,(⟨[(0,.bs (.bor 0) 0 1 0 (P.length+S.length)),(1,.i .i64 P.length),(2,.sl (u32s a) .an),(4,u32 c)],[(.bor 0,⟨0,.own,1,u32s (P++(m++S.drop a.length))⟩)],4⟩:St)) ∧
   m.length=a.length∧c<4294967296∧val m+4294967296^a.length*c=val (S.take a.length)+x*val a+c0)∧loopN T 1 0 (.norm false [0,1,2,4]) l89_0 (stRow P S a x y)=some r:=by
 refine zaw _ _ (fun y=>a.length-y.1) _ ?_
 rintro⟨i,c,m⟩ ⟨hi,hc,hm,hv⟩
 simp only at hi hc hm hv
 by_cases h0:i<a.length
 ·left
  have ha:a[i]? = some (a[i]'h0):=List.getElem?_eq_getElem h0
  have hiS:i<S.length:=by omega
  have hs:S[i]? = some (S[i]'hiS):=List.getElem?_eq_getElem hiS
  have hg:=ze7 (P:=P) hm hiS
  have hw:IntKind.wrap .i64 ((i:Int)+1)=((i+1:Nat):Int):=zac _ (by omega)
  have hw2:IntKind.wrap .i64 ((P.length:Int)+i)=((P.length+i:Nat):Int):=zac _ (by omega)
  have hlt:P.length+i<P.length+S.length:=by omega
  have hlt2:((P.length+i:Nat):Int)<(P.length:Int)+S.length:=by omega
  have hla:=zam (a[i]'h0)
  have hls:=zam (S[i]'hiS)
  have hmul:=zib hx hla
  have hlen:(P++(m++S.drop i)).length=P.length+S.length:=by simp;omega
  have hcall:=zgy (T:=T) x (a[i]'h0).toNat (S[i]'hiS).toNat c hx hla hls hc
  have hset:=ze8 (P:=P) (w32 (x*(a[i]'h0).toNat+(S[i]'hiS).toNat+c)) hm hiS
  refine⟨(i+1,(x*(a[i]'h0).toNat+(S[i]'hiS).toNat+c)/4294967296,m++[w32 (x*(a[i]'h0).toNat+(S[i]'hiS).toNat+c)]),⟨h0,by simp only;omega,by simp[hm],?_⟩,by simp only;omega,?_⟩
  ·simp only
   rw[zak,zad ha,zad hs,Nat.pow_succ,hm]
   simp only[zao,zby,Nat.mul_zero,Nat.add_zero,zda]
   exact zvx hv (by have:=Nat.div_add_mod (x*(a[i]'h0).toNat+(S[i]'hiS).toNat+c) 4294967296;omega)
  ·simp[l89_0,stRow,h0,hw,hw2,hiS,hg,hcall,hset]
 ·right
  have:i=a.length:=by omega
  subst this
  rw[List.take_of_length_le (Nat.le_refl a.length)]at hv
  refine⟨_,⟨c,m,rfl,hm,hc,hv⟩,?_,?_⟩<;>simp[l89_0,stRow]
theorem zvz(P S a:List UInt32)(x c0:Nat)(hx:x<4294967296)(hc:c0<4294967296)(hS:a.length<S.length)(hl:P.length+S.length≤1000000) :
  ∃m,m.length=a.length+1∧val m=val (S.take a.length)+x*val a+c0 ∧
   callH T 89 [.bs (.bor 0) 0 1 0 (P.length+S.length),.i .i64 P.length,.sl (u32s a) .an,u32 x,u32 c0] [(.bor 0,⟨0,.own,1,u32s (P++S)⟩)] =
    some (.tup [],[(.bor 0,⟨0,.own,1,u32s (P++(m++S.drop (a.length+1)))⟩)]):=by
 obtain⟨_,⟨c,m,rfl,hm,hc1,hv⟩,hr⟩:=zvy (T:=T) P S a x c0 hx hS hl (0,c0,[]) ⟨Nat.zero_le _,hc,rfl,by simp⟩
 unfold stRow at hr
 simp at hr
 refine⟨m++[w32 c],by simp[hm],by rw[zak,hm];simpa[zae hc1]using hv,?_⟩
 have hw2:IntKind.wrap .i64 ((P.length:Int)+a.length)=((P.length+a.length:Nat):Int):=zac _ (by omega)
 have hlt:P.length+a.length<P.length+S.length:=by omega
 have hlt2:((P.length+a.length:Nat):Int)<(P.length:Int)+S.length:=by omega
 have hg:=ze7 (P:=P) hm hS
 have hset:=ze8 (P:=P) (w32 c) hm hS
 rw[f89 _ _ rfl,b89]
 simp[hr,hw2,hg,hS,zba _ _ _ hc1,hset]
def stMul(a b:List UInt32)(y:Nat×List UInt32):St:=
 ⟨[(0,.sl (u32s a) .an),(5,.bs (.loc 14) 1 1 0 (a.length+b.length+1)),(15,.sl (u32s b) .an),(16,.i .i64 b.length),(17,.i .i64 y.1)],[(.loc 14,⟨1,.own,1,u32s (y.2++List.replicate (b.length+1-y.1) 0)⟩)],3⟩
theorem zv0(a b:List UInt32)(ha:a.length≤100000)(hb:b.length≤100000):∀y:Nat×List UInt32,
  (y.1≤b.length∧y.2.length=a.length+y.1∧val y.2=val a*val (b.take y.1)) →
  ∃r,(∃out:List UInt32,r=(Ex.n,(⟨[(5,.bs (.loc 14) 1 1 0 (a.length+b.length+1))],[(.loc 14,⟨1,.own,1,u32s out⟩)],3⟩:St))∧out.length=a.length+b.length+1∧val out=val a*val b) ∧
   loopN T 0 0 (.norm false [5]) l60_0 (stMul a b y)=some r:=by
 refine zaw _ _ (fun y=>b.length-y.1) _ ?_
 rintro⟨i,X⟩ ⟨hi,hX,hv⟩
 simp only at hi hX hv
 by_cases h0:i<b.length
 ·left
  have hbg:b[i]? = some (b[i]'h0):=List.getElem?_eq_getElem h0
  have hw:IntKind.wrap .i64 ((i:Int)+1)=((i+1:Nat):Int):=zac _ (by omega)
  obtain⟨m,hm1,hm2,hc⟩:=zvz (T:=T) (X.take i) (X.drop i++List.replicate (b.length+1-i) 0) a (b[i]'h0).toNat 0 (zam _) (by decide) (by simp;omega) (by simp;omega)
  have e1:X.take i++(X.drop i++List.replicate (b.length+1-i) 0)=X++List.replicate (b.length+1-i) 0:=by rw[←List.append_assoc,List.take_append_drop]
  have e2:(X.take i).length=i:=by simp;omega
  have e3:(X.drop i++List.replicate (b.length+1-i) 0).length=a.length+b.length+1-i:=by simp;omega
  have e4:i+(a.length+b.length+1-i)=a.length+b.length+1:=by omega
  have e5:(X.drop i++List.replicate (b.length+1-i) 0).drop (a.length+1)=List.replicate (b.length+1-(i+1)) 0:=by
   rw[List.drop_append,List.drop_of_length_le (by simp;omega),List.drop_replicate]
   simp only[List.nil_append,List.length_drop]
   congr 1
   omega
  have e6:(X.drop i++List.replicate (b.length+1-i) 0).take a.length=X.drop i:=by
   rw[List.take_append_of_le_length (by simp;omega),List.take_of_length_le (by simp;omega)]
  rw[e1,e2,e3,e4,e5]at hc
  rw[e6]at hm2
  simp only[←List.append_assoc]at hc
  refine⟨(i+1,X.take i++m),⟨h0,by simp only[List.length_append,e2,hm1];omega,?_⟩,by simp only;omega,?_⟩
  ·simp only
   have e7:=zak (X.take i) (X.drop i)
   rw[List.take_append_drop,e2]at e7
   rw[zak,e2,hm2,zad hbg,Nat.mul_add (val a),←hv,e7,Nat.mul_add,Nat.mul_add]
   have e8:4294967296^i*((b[i]'h0).toNat*val a)=val a*(4294967296^i*(b[i]'h0).toNat):=by
    rw[Nat.mul_comm (b[i]'h0).toNat,←Nat.mul_assoc,Nat.mul_comm (4294967296^i) (val a),Nat.mul_assoc]
   rw[e8]
   omega
  ·simp[l60_0,stMul,h0,hw,hc]
 ·right
  have:i=b.length:=by omega
  subst this
  rw[List.take_of_length_le (Nat.le_refl _)]at hv
  refine⟨_,⟨X++List.replicate (b.length+1-b.length) 0,rfl,by simp;omega,by rw[zak,zdb,hv];simp⟩,?_,?_⟩<;>simp[l60_0,stMul]
theorem zv1(a b:List UInt32)(ha:a.length≤100000)(hb:b.length≤100000):callF T 60 [.sl (u32s a) .an,.sl (u32s b) .an]=some (.sl (u32s (ofN (val a*val b))) .an):=by
 obtain⟨_,⟨out,rfl,ho,hv⟩,hr⟩:=zv0 (T:=T) a b ha hb (0,List.replicate a.length 0) ⟨Nat.zero_le _,by simp,by simp[zdb]⟩
 unfold stMul at hr
 simp at hr
 have hw1:IntKind.wrap .i64 ((a.length:Int)+b.length)=(a.length:Int)+b.length:=zac _ (by omega)
 have hw:IntKind.wrap .i64 ((a.length:Int)+b.length+1)=(a.length:Int)+b.length+1:=zac _ (by omega)
 have hle:(a.length:Int)+b.length+1≤4294967296:=by omega
 have hn:=zbc (T:=T) out (by omega)
 rw[hv]at hn
 have htk:List.take (a.length+b.length+1) out=out:=List.take_of_length_le (by omega)
 have he:a.length+(b.length+1)=a.length+b.length+1:=by omega
 rw[he]at hr
 rw[f60 _ rfl,b60]
 simp[hw,hw1,hle,hr,ho,htk,hn]
end
theorem zzd(w:Nat):4294967296^w=2^(32*w):=by
 rw[Nat.pow_mul]
theorem zld(a:List UInt32)(w:Nat)(h:w≤a.length):val a=val (a.take w)+4294967296^w*val (a.drop w):=by
 have:=zak (a.take w) (a.drop w)
 rw[List.take_append_drop,List.length_take,Nat.min_eq_left h]at this
 exact this
theorem zze(a:List UInt32)(w:Nat)(h:w≤a.length):val a/4294967296^w=val (a.drop w):=by
 have hp:0<4294967296^w:=Nat.pow_pos (by decide)
 have hlt:=za2 (a.take w)
 rw[List.length_take,Nat.min_eq_left h]at hlt
 rw[zld a w h,Nat.add_mul_div_left _ _ hp,Nat.div_eq_of_lt hlt,Nat.zero_add]
theorem zw7{a b n:Nat}(h:a<2^n):a ||| 2^n*b=a+2^n*b:=by
 rw[Nat.or_comm,←Nat.two_pow_add_eq_or_of_lt h,Nat.add_comm]
theorem zzf{x c n:Nat}(hx:x<4294967296)(hn:n<32)(hc:c<2^n) :
  x*2^n<18446744073709551616∧(c ||| x*2^n%4294967296)=c+x*2^n%4294967296∧c+x*2^n%4294967296<4294967296∧x*2^n/4294967296<2^n∧2^n<4294967296:=by
 have hp:2^(n+(32-n))=4294967296:=by rw[show n+(32-n)=32 by omega]
 rw[Nat.pow_add]at hp
 have hq:0<2^n:=Nat.pow_pos (by decide)
 have hr:1<2^(32-n):=Nat.one_lt_two_pow (by omega)
 have e1:x*2^n%4294967296=2^n*(x%2^(32-n)):=by rw[←hp,Nat.mul_comm x,Nat.mul_mod_mul_left]
 have e2:=zw7 (b:=x%2^(32-n)) hc
 rw[←e1]at e2
 have hlt:2^n<4294967296:=by
  have h1:=Nat.mul_le_mul_left (2^n) (show 2≤2^(32-n) from hr)
  rw[hp]at h1
  omega
 refine⟨?_,e2,?_,?_,hlt⟩
 ·have:=Nat.mul_lt_mul'' hx hlt
  simpa using this
 ·rw[e1]
  have h1:x%2^(32-n)+1≤2^(32-n):=Nat.mod_lt _ (by omega)
  have h2:=Nat.mul_le_mul_left (2^n) h1
  rw[hp,Nat.mul_add,Nat.mul_one]at h2
  omega
 ·exact Nat.div_lt_of_lt_mul (by rw[Nat.mul_comm x];rw[Nat.mul_comm 4294967296];exact Nat.mul_lt_mul_of_pos_left hx hq)
theorem ztz{x y R b:Nat}(hb:b<32)(hx:x<4294967296) :
  (x+4294967296*(y+4294967296*R))/2^b=(x+y*4294967296)/2^b%4294967296+4294967296*((y+4294967296*R)/2^b):=by
 have hq:0<2^b:=Nat.pow_pos (by decide)
 have h1:(x+4294967296*(y+4294967296*R))/4294967296=y+4294967296*R:=by omega
 have h2:(x+4294967296*(y+4294967296*R))/2^b/4294967296=(y+4294967296*R)/2^b:=by
  rw[Nat.div_div_eq_div_mul,Nat.mul_comm (2^b),←Nat.div_div_eq_div_mul,h1]
 have hp:2^b*2^(32-b)=4294967296:=by rw[←Nat.pow_add,show b+(32-b)=32 by omega]
 have h3:x+4294967296*(y+4294967296*R)=(x+y*4294967296)+2^b*(4294967296*(2^(32-b)*R)):=by
  have:2^b*(4294967296*(2^(32-b)*R))=4294967296*(4294967296*R):=by
   rw[Nat.mul_left_comm,←Nat.mul_assoc (2^b),hp]
  omega
 have h4:(x+4294967296*(y+4294967296*R))/2^b%4294967296=(x+y*4294967296)/2^b%4294967296:=by
  rw[h3,Nat.add_mul_div_left _ _ hq,Nat.add_mul_mod_self_left]
 have h5:=Nat.mod_add_div ((x+4294967296*(y+4294967296*R))/2^b) 4294967296
 rw[h2,h4]at h5
 exact h5.symm
theorem zob{P m R:List UInt32}{i:Nat}{c:UInt32}(hm:m.length=i):(P++(m++c::R))[P.length+i]? = some c:=by
 grind
theorem zjd{P m R:List UInt32}{i:Nat}{c:UInt32}(w:UInt32)(hm:m.length=i):(P++(m++c::R)).set (P.length+i) w=P++(m++w::R):=by
 rw[List.set_append_right (P.length+i) w (by omega),Nat.add_sub_cancel_left,List.set_append_right i w (by omega),hm,Nat.sub_self,List.set_cons_zero]
theorem zv6{P m R:List UInt32}{i:Nat}{c d:UInt32}(w:UInt32)(hm:m.length=i):(P++(m++c::d::R)).set (P.length+i+1) w=P++(m++c::w::R):=by
 rw[Nat.add_assoc,List.set_append_right (P.length+(i+1)) w (by omega),Nat.add_sub_cancel_left,List.set_append_right (i+1) w (by omega),hm,show i+1-i=1 by omega]
 rfl
theorem zv7{P m R:List UInt32}{i:Nat}{c d:UInt32}(hm:m.length=i):(P++(m++c::d::R))[P.length+i+1]? = some d:=by
 grind
theorem zfo(n:Nat):w32 (n%4294967296)=w32 n:=zw6 (by rw[zda,Nat.mod_mod])
section
variable{T:Tbl}[CNat T][CTwos T]
def stUp(P a:List UInt32)(n:Nat)(y:Nat×Nat×List UInt32):St:=
 ⟨[(5,.i .i64 P.length),(6,.i .i64 n),(7,.bs (.loc 23) 1 1 0 (P.length+a.length+1)),(24,.sl (u32s a) .an),(25,.i .i64 a.length),(26,.i .i64 y.1)],[(.loc 23,⟨1,.own,1,u32s (P++(y.2.2++w32 y.2.1::List.replicate (a.length-y.1) 0))⟩)],3⟩
end
section
variable{T:Tbl}
theorem zza(P a:List UInt32)(n:Nat)(hn:n<32)(hl:P.length+a.length≤1000000):∀y:Nat×Nat×List UInt32,
  (y.1≤a.length∧y.2.1<2^n∧y.2.2.length=y.1∧val y.2.2+4294967296^y.1*y.2.1=2^n*val (a.take y.1)) →
  ∃r,(∃(c:Nat) (m:List UInt32),r=(Ex.n,(⟨[(7,.bs (.loc 23) 1 1 0 (P.length+a.length+1))],[(.loc 23,⟨1,.own,1,u32s (P++(m++[w32 c]))⟩)],3⟩:St)) ∧
   m.length=a.length∧c<2^n∧val m+4294967296^a.length*c=2^n*val a)∧loopN T 0 0 (.norm false [7]) l92_0 (stUp P a n y)=some r:=by
 refine zaw _ _ (fun y=>a.length-y.1) _ ?_
 rintro⟨i,c,m⟩ ⟨hi,hc,hm,hv⟩
 simp only at hi hc hm hv
 by_cases h0:i<a.length
 ·left
  have ha:a[i]? = some (a[i]'h0):=List.getElem?_eq_getElem h0
  obtain⟨u1,u2,u3,u4,u5⟩:=zzf (zam (a[i]'h0)) hn hc
  have hx:=zam (a[i]'h0)
  have hrep:List.replicate (a.length-i) (0:UInt32)=0::List.replicate (a.length-(i+1)) 0:=by
   rw[show a.length-i=a.length-(i+1)+1 by omega,List.replicate_succ]
  have hw:IntKind.wrap .i64 ((i:Int)+1)=((i+1:Nat):Int):=zac _ (by omega)
  have hw2:IntKind.wrap .i64 ((P.length:Int)+i)=((P.length+i:Nat):Int):=zac _ (by omega)
  have hw3:IntKind.wrap .i64 ((P.length:Int)+i+1)=((P.length+i+1:Nat):Int):=zac _ (by omega)
  have hg:=zob (P:=P) (c:=w32 c) (R:=0::List.replicate (a.length-(i+1)) 0) hm
  have hg3:=zv7 (P:=P) (c:=w32 (c+(a[i]'h0).toNat*2^n%4294967296)) (d:=0) (R:=List.replicate (a.length-(i+1)) 0) hm
  have hs1:=zjd (P:=P) (c:=w32 c) (R:=0::List.replicate (a.length-(i+1)) 0) (w32 (c+(a[i]'h0).toNat*2^n%4294967296)) hm
  have hs2:=zv6 (P:=P) (c:=w32 (c+(a[i]'h0).toNat*2^n%4294967296)) (d:=0) (R:=List.replicate (a.length-(i+1)) 0) (w32 ((a[i]'h0).toNat*2^n/4294967296)) hm
  have hmin:min n 64=n:=by omega
  have hlt1:(P.length:Int)+i<(P.length:Int)+a.length+1:=by omega
  have hlt2:(P.length:Int)+i<(P.length:Int)+a.length:=by omega
  have m1:(a[i]'h0).toNat%18446744073709551616=(a[i]'h0).toNat:=Nat.mod_eq_of_lt (by omega)
  have m2:=Nat.mod_eq_of_lt u1
  have m3:=Nat.mod_eq_of_lt u3
  have hcc:c<4294967296:=by omega
  have m4:(a[i]'h0).toNat*2^n/4294967296%4294967296=(a[i]'h0).toNat*2^n/4294967296:=Nat.mod_eq_of_lt (by omega)
  have m5:(a[i]'h0).toNat*2^n/4294967296<4294967296:=by omega
  refine⟨(i+1,(a[i]'h0).toNat*2^n/4294967296,m++[w32 (c+(a[i]'h0).toNat*2^n%4294967296)]),⟨h0,u4,by grind,?_⟩,by omega,?_⟩
  ·grind[zak,zad,zao,zby,zae,Nat.div_add_mod]
  ·simp -implicitDefEqProofs[l92_0,stUp,h0,hrep,hw,hw2,hw3,hg,hg3,hs1,hs2,zba _ _ _ u3,zba _ _ _ m5,hmin,hlt1,hlt2,m1,m2,m3,m4,u2,zae hcc]
 ·right
  have:i=a.length:=by omega
  subst this
  rw[List.take_of_length_le (Nat.le_refl a.length)]at hv
  refine⟨_,⟨c,m,rfl,hm,hc,hv⟩,?_,?_⟩<;>simp -implicitDefEqProofs[l92_0,stUp]
end
section
variable{T:Tbl}[CNat T][CTwos T]
def stDn(a:List UInt32)(W n:Nat)(y:Nat×List UInt32):St:=
 ⟨[(0,.sl (u32s a) .an),(5,.i .i64 W),(6,.i .i64 n),(7,.bs (.loc 24) 1 1 0 (a.length-W)),(26,.i .i64 (a.length-W:Nat)),(27,.i .i64 y.1)],[(.loc 24,⟨1,.own,1,u32s (y.2++List.replicate (a.length-W-y.1) 0)⟩)],3⟩
end
section
variable{T:Tbl}
theorem ztt(a:List UInt32)(W n:Nat)(hn:n<32)(hW:W≤a.length)(hl:a.length≤1000000):∀y:Nat×List UInt32,
  (y.1≤a.length-W∧y.2.length=y.1∧val y.2+4294967296^y.1*(val (a.drop (W+y.1))/2^n)=val (a.drop W)/2^n) →
  ∃r,(∃m:List UInt32,r=(Ex.n,(⟨[(7,.bs (.loc 24) 1 1 0 (a.length-W))],[(.loc 24,⟨1,.own,1,u32s m⟩)],3⟩:St)) ∧
   m.length=a.length-W∧val m=val (a.drop W)/2^n)∧loopN T 0 0 (.norm false [7]) l94_0 (stDn a W n y)=some r:=by
 refine zaw _ _ (fun y=>a.length-W-y.1) _ ?_
 rintro⟨i,m⟩ ⟨hi,hm,hv⟩
 by_cases h0:i<a.length-W
 ·left
  have hWi:W+i<a.length:=by omega
  have ha:a[W+i]? = some (a[W+i]'hWi):=List.getElem?_eq_getElem hWi
  have hx:=zam (a[W+i]'hWi)
  have hd:=List.drop_eq_getElem_cons hWi
  have hrep:List.replicate (a.length-W-i) (0:UInt32)=0::List.replicate (a.length-W-(i+1)) 0:=by
   rw[show a.length-W-i=a.length-W-(i+1)+1 by omega,List.replicate_succ]
  have hw:IntKind.wrap .i64 ((i:Int)+1)=((i+1:Nat):Int):=zac _ (by omega)
  have hw2:IntKind.wrap .i64 ((W:Int)+i)=((W+i:Nat):Int):=zac _ (by omega)
  have hw3:IntKind.wrap .i64 ((W:Int)+i+1)=((W+i+1:Nat):Int):=zac _ (by omega)
  have hg:=zob (P:=[]) (c:=0) (R:=List.replicate (a.length-W-(i+1)) 0) hm
  have hmin:min n 64=n:=by omega
  have hlt1:(W:Int)+i<(a.length:Int):=by omega
  have hlt3:((W:Int)+i).toNat=W+i:=by omega
  have m1:(a[W+i]'hWi).toNat%18446744073709551616=(a[W+i]'hWi).toNat:=Nat.mod_eq_of_lt (by omega)
  have fin:∀y R:Nat,val (a.drop (W+i+1))=y+4294967296*R→val (m++[w32 (((a[W+i]'hWi).toNat+y*4294967296)/2^n%4294967296)])+4294967296^(i+1)*(val (a.drop (W+(i+1)))/2^n)=val (a.drop W)/2^n:=by
   intro y R hR
   have hmod:((a[W+i]'hWi).toNat+y*4294967296)/2^n%4294967296<4294967296:=Nat.mod_lt _ (by decide)
   have hdw:=ztz (x:=(a[W+i]'hWi).toNat) (y:=y) (R:=R) hn hx
   rw[hd,zao,hR,hdw,←hR]at hv
   grind[zak,zao,zby,zae]
  by_cases h1:W+i+1<a.length
  ·have hd1:=List.drop_eq_getElem_cons h1
   have hy:=zam (a[W+i+1]'h1)
   have m2:(a[W+i+1]'h1).toNat%18446744073709551616=(a[W+i+1]'h1).toNat:=Nat.mod_eq_of_lt (by omega)
   have m3:(a[W+i+1]'h1).toNat*4294967296%18446744073709551616=(a[W+i+1]'h1).toNat*4294967296:=Nat.mod_eq_of_lt (by omega)
   have hor:(a[W+i]'hWi).toNat ||| (a[W+i+1]'h1).toNat*4294967296=(a[W+i]'hWi).toNat+(a[W+i+1]'h1).toNat*4294967296:=by
    have:=zw7 (a:=(a[W+i]'hWi).toNat) (b:=(a[W+i+1]'h1).toNat) (n:=32) (by simp)
    grind
   have m4:((a[W+i]'hWi).toNat+(a[W+i+1]'h1).toNat*4294967296)%18446744073709551616=(a[W+i]'hWi).toNat+(a[W+i+1]'h1).toNat*4294967296:=Nat.mod_eq_of_lt (by omega)
   have hs1:=zjd (P:=[]) (c:=0) (R:=List.replicate (a.length-W-(i+1)) 0) (w32 (((a[W+i]'hWi).toNat+(a[W+i+1]'h1).toNat*4294967296)/2^n%4294967296)) hm
   have hlt2:(W:Int)+i+1<(a.length:Int):=by omega
   have hlt4:((W:Int)+i+1).toNat=W+i+1:=by omega
   refine⟨(i+1,m++[w32 (((a[W+i]'hWi).toNat+(a[W+i+1]'h1).toNat*4294967296)/2^n%4294967296)]),⟨h0,by grind,fin _ (val (a.drop (W+i+1+1))) (by rw[hd1,zao])⟩,by omega,?_⟩
   simp at hg
   simp[zfo]at hs1
   simp -implicitDefEqProofs[l94_0,stDn,h0,ha,hrep,hw,hw2,hw3,hg,hs1,zfo,hmin,hlt1,hlt2,hlt3,hlt4,m1,m2,m3,m4,hor,h1]
  ·have hs1:=zjd (P:=[]) (c:=0) (R:=List.replicate (a.length-W-(i+1)) 0) (w32 ((a[W+i]'hWi).toNat/2^n%4294967296)) hm
   have hlt2:¬ (W:Int)+i+1<(a.length:Int):=by omega
   have f0:=fin 0 0 (by rw[List.drop_of_length_le (by omega),zby,Nat.mul_zero])
   refine⟨(i+1,m++[w32 ((a[W+i]'hWi).toNat/2^n%4294967296)]),⟨h0,by grind,f0⟩,by omega,?_⟩
   simp at hg
   simp[zfo]at hs1
   simp -implicitDefEqProofs[l94_0,stDn,h0,ha,hrep,hw,hw2,hw3,hg,hs1,zfo,hmin,hlt1,hlt2,hlt3,m1]
 ·right
  have:i=a.length-W:=by omega
  subst this
  rw[show W+(a.length-W)=a.length by omega,List.drop_length,zby,Nat.zero_div,Nat.mul_zero,Nat.add_zero]at hv
  refine⟨_,⟨m++List.replicate (a.length-W-(a.length-W)) 0,rfl,by grind,by grind⟩,?_,?_⟩<;>simp -implicitDefEqProofs[l94_0,stDn]
end
section
variable{T:Tbl}[CNat T][CTwos T]
theorem ztu(a:List UInt32)(n:Nat)(h:n/32≤a.length):val (a.drop (n/32))/2^(n%32)=val a/2^n:=by
 rw[←zze a _ h,Nat.div_div_eq_div_mul,zzd,←Nat.pow_add,show 32*(n/32)+n%32=n by omega]
theorem ztv(a:List UInt32)(n:Nat)(hn:n≤100000000)(hl:a.length≤100000):callF T 94 [.sl (u32s a) .an,.i .i64 n]=some (.sl (u32s (ofN (val a/2^n))) .an):=by
 have hn2:¬ (n:Int)<0:=by omega
 have hq:(n:Int).tdiv 32=(n:Int)/32:=Int.tdiv_eq_ediv_of_nonneg (by omega)
 have hm2:(n:Int).tmod 32=(n:Int)%32:=Int.tmod_eq_emod_of_nonneg (by omega)
 have w1:IntKind.wrap .i64 ((n:Int)/32)=(n:Int)/32:=zac (n/32) (by omega)
 rcases Nat.lt_or_ge (n/32) a.length with h0 | h0
 ·obtain⟨_,⟨m,rfl,hm,hv⟩,hr⟩:=ztt (T:=T) a (n/32) (n%32) (Nat.mod_lt _ (by decide)) (by omega) (by omega) (0,[]) ⟨Nat.zero_le _,rfl,by rw[zby,Nat.pow_zero,Nat.one_mul,Nat.zero_add,Nat.add_zero]⟩
  rw[ztu a n (by omega)]at hv
  have hnm:=zbc (T:=T) m (by omega)
  rw[hv]at hnm
  unfold stDn at hr
  have hsub:((a.length-n/32:Nat):Int)=(a.length:Int)-(n:Int)/32:=by omega
  simp[hsub]at hr
  have p0:¬ (a.length:Int)≤(n:Int)/32:=by omega
  have w2:IntKind.wrap .i64 ((a.length:Int)-(n:Int)/32)=(a.length:Int)-(n:Int)/32:=zac _ (by omega)
  have p1:(n:Int)/32≤(a.length:Int):=by omega
  have p2:(a.length:Int)-(n:Int)/32≤4294967296:=by omega
  have p3:((a.length:Int)-(n:Int)/32).toNat=a.length-n/32:=by omega
  have htk:List.take (a.length-n/32) m=m:=List.take_of_length_le (by omega)
  have p5:a.length≤a.length-n/32+n/32:=by omega
  rw[f94 _ rfl,b94]
  simp -implicitDefEqProofs[hn2,hq,hm2,w1,w2,p0,p5,p1,p2,p3,hsub,hr,hnm,htk,hm]
 ·have hz:val a/2^n=0:=by
   refine Nat.div_eq_of_lt (Nat.lt_of_lt_of_le (za2 a) ?_)
   rw[zzd]
   exact Nat.pow_le_pow_right (by decide) (by omega)
  have p0:(a.length:Int)≤(n:Int)/32:=by omega
  rw[hz,zje,f94 _ rfl,b94]
  simp -implicitDefEqProofs[hn2,hq,hm2,w1,p0]
end
def l90_0:AX:=
 (.note
 (.seq
 (.seq
 (.reg [mv 16 7,rg 17 (.bin .geq (.t 16) (.c (.i .i64 0)))])
 (.cond (.t 17)
 .skip
 (.exit 0)))
 (.seq
 (.block 1
 (.reg [mv 21 4,mv 22 7,mv 23 5,mv 24 0,mv 25 7,rg 26 (.iad 1 (.t 24) (.t 25)),rg 27 (.load none (.t 26)),mv 28 1,rg 29 (.call 118 [(.t 23),(.t 27),(.t 28)]),mv 20 29,rg 30 (.ext (.t 20) 0),rg 31 (.ext (.t 20) 1),rg 32 (.ext (.t 20) 2),rg 33 (.iad 1 (.t 21) (.t 22)),so (.store 1 (.t 33) (.t 30)),mv 5 31]))
 (.reg [mv 18 7,rg 19 (.bin .sub (.t 18) (.c (.i .i64 1))),mv 7 19])))
 (.norm false [0,1,4,5,7]))
def b90:AX:=
 (.seq
 (.reg [rg 4 (.mov (.c (.sl [] .nl))),rg 5 (.mov (.c (u32 0))),rg 6 (.mov (.c (.b false)))])
 (.seq
 (.seq
 (.reg [mv 8 1,rg 9 (.bin .eql (.t 8) (.c (u32 0)))])
 (.cond (.t 9)
 (.seq
 (.reg [rg 4 (.mov (.c (.sl [] .nl))),rg 5 (.mov (.c (u32 0))),rg 6 (.mov (.c (.b false)))])
 (.pre (.norm false [4,5,6]) .ret))
 .skip))
 (.seq
 (.reg [mv 10 0,rg 11 (.len (.t 10)),rg 12 (.mks 1 [(u32 0)] (.t 11) (.t 11)),mv 4 12])
 (.seq
 (.seq
 (.reg [mv 13 0,rg 14 (.len (.t 13)),rg 15 (.bin .sub (.t 14) (.c (.i .i64 1))),mv 7 15])
 (.lp 0 (.norm false [0,1,4,5,7]) l90_0 (.norm false [4,5])))
 (.seq
 (.reg [mv 34 4,rg 35 (.call 71 [(.t 34)]),mv 36 5,mv 4 35,mv 5 36,rg 6 (.mov (.c (.b true)))])
 (.pre (.norm false [4,5,6]) .ret))))))
def l119_0:AX:=
 (.note
 (.block 1
 (.seq
 (.reg [mv 46 11,mv 47 4,rg 48 (.call 117 [(.t 46),(.t 47),(.c (u32 0)),(.c (u32 0))]),mv 45 48,rg 49 (.ext (.t 45) 0),rg 50 (.ext (.t 45) 1),mv 16 49,mv 17 50])
 (.seq
 (.seq
 (.reg [mv 51 16,mv 52 12,rg 53 (.bin .lss (.t 51) (.t 52)),mv 54 53,gd 55 54 false (.mov (.t 16)),gd 56 54 false (.mov (.t 12)),gd 57 54 false (.bin .eql (.t 55) (.t 56)),gd 58 54 false (.mov (.t 57)),gd 59 58 true (.mov (.t 17)),gd 60 58 true (.mov (.t 2)),gd 61 58 true (.bin .leq (.t 59) (.t 60)),gd 62 54 false (.pick (.t 58) (.t 61) (.c (.b false))),rg 63 (.pick (.t 54) (.c (.b true)) (.t 62))])
 (.cond (.t 63)
 (.exit 0)
 .skip))
 (.seq
 (.reg [mv 64 11,rg 65 (.bin .sub (.t 64) (.c (u32 1))),mv 11 65])
 (.seq
 (.reg [mv 67 12,mv 68 3,rg 69 (.call 115 [(.t 67),(.t 68),(.c (u32 0))]),mv 66 69,rg 70 (.ext (.t 66) 0),rg 71 (.ext (.t 66) 1),mv 18 70,mv 19 71])
 (.seq
 (.seq
 (.reg [mv 72 19,rg 73 (.bin .gtr (.t 72) (.c (u32 0)))])
 (.cond (.t 73)
 (.exit 0)
 .skip))
 (.reg [mv 74 18,mv 12 74])))))))
 (.norm false [2,3,4,11,12]))
def b119:AX:=
 (.seq
 (.reg [rg 10 (.mov (.c (u32 0)))])
 (.scope
 (.seq
 (.reg [mv 21 0,mv 22 1,mv 23 3,rg 24 (.call 118 [(.t 21),(.t 22),(.t 23)]),mv 20 24,rg 25 (.ext (.t 20) 0),rg 26 (.ext (.t 20) 1),rg 27 (.ext (.t 20) 2),mv 11 25,mv 12 26,mv 13 27])
 (.seq
 (.seq
 (.reg [mv 28 13,rg 29 (.un .not (.t 28))])
 (.cond (.t 29)
 (.seq
 (.reg [rg 11 (.mov (.c (u32 4294967295)))])
 (.seq
 (.reg [mv 31 1,mv 32 3,rg 33 (.call 115 [(.t 31),(.t 32),(.c (u32 0))]),mv 30 33,rg 34 (.ext (.t 30) 0),rg 35 (.ext (.t 30) 1),mv 14 34,mv 15 35])
 (.seq
 (.seq
 (.reg [mv 36 0,mv 37 3,rg 38 (.bin .gtr (.t 36) (.t 37)),mv 39 38,gd 40 39 false (.mov (.t 15)),gd 41 39 false (.bin .gtr (.t 40) (.c (u32 0))),rg 42 (.pick (.t 39) (.c (.b true)) (.t 41))])
 (.cond (.t 42)
 (.seq
 (.reg [mv 43 11,mv 10 43])
 (.pre (.norm false [10]) .ret))
 .skip))
 (.reg [mv 44 14,mv 12 44]))))
 .skip))
 (.seq
 (.label 0)
 (.seq
 (.lp 0 (.norm false [2,3,4,11,12]) l119_0 (.norm false [11]))
 (.seq
 (.reg [mv 75 11,mv 10 75])
 (.pre (.norm false [10]) .ret))))))))
def l120_0:AX:=
 (.note
 (.seq
 (.reg [rg 18 (.bin .lss (.t 17) (.t 16))])
 (.seq
 (.cond (.t 18)
 .skip
 (.exit 0))
 (.seq
 (.block 1
 (.seq
 (.reg [mv 19 17,rg 20 (.iad 1 (.t 15) (.t 17)),rg 21 (.load none (.t 20)),mv 11 19,mv 12 21])
 (.seq
 (.reg [rg 13 (.mov (.c (u32 0)))])
 (.seq
 (.reg [mv 23 3,mv 24 12,mv 25 9,rg 26 (.call 117 [(.t 23),(.t 24),(.t 25),(.c (u32 0))]),mv 22 26,rg 27 (.ext (.t 22) 0),rg 28 (.ext (.t 22) 1),mv 9 27,mv 13 28])
 (.reg [mv 30 0,mv 31 1,mv 32 11,rg 33 (.bin .add (.t 31) (.t 32)),mv 34 0,mv 35 1,mv 36 11,rg 37 (.bin .add (.t 35) (.t 36)),rg 38 (.iad 1 (.t 34) (.t 37)),rg 39 (.load none (.t 38)),mv 40 13,mv 41 10,rg 42 (.call 116 [(.t 39),(.t 40),(.t 41)]),mv 29 42,rg 43 (.ext (.t 29) 0),rg 44 (.ext (.t 29) 1),rg 45 (.iad 1 (.t 30) (.t 33)),so (.store 1 (.t 45) (.t 43)),mv 10 44])))))
 (.reg [rg 46 (.bin .add (.t 17) (.c (.i .i64 1))),mv 17 46]))))
 (.norm false [0,1,2,3,9,10,15,16,17]))
def b120:AX:=
 (.seq
 (.reg [rg 8 (.mov (.c (.b false)))])
 (.seq
 (.reg [rg 9 (.mov (.c (u32 0))),rg 10 (.mov (.c (u32 0)))])
 (.seq
 (.seq
 (.reg [mv 15 2,rg 16 (.len (.t 15)),rg 17 (.mov (.c (.i .i64 0)))])
 (.lp 0 (.norm false [0,1,2,3,9,10,15,16,17]) l120_0 (.norm false [0,1,2,9,10])))
 (.seq
 (.reg [mv 47 1,mv 48 2,rg 49 (.len (.t 48)),rg 50 (.bin .add (.t 47) (.t 49)),mv 14 50])
 (.seq
 (.reg [mv 52 0,mv 53 14,mv 54 0,mv 55 14,rg 56 (.iad 1 (.t 54) (.t 55)),rg 57 (.load none (.t 56)),mv 58 9,mv 59 10,rg 60 (.call 116 [(.t 57),(.t 58),(.t 59)]),mv 51 60,rg 61 (.ext (.t 51) 0),rg 62 (.ext (.t 51) 1),rg 63 (.iad 1 (.t 52) (.t 53)),so (.store 1 (.t 63) (.t 61)),mv 10 62])
 (.seq
 (.reg [mv 64 10,rg 65 (.bin .gtr (.t 64) (.c (u32 0))),mv 8 65])
 (.pre (.norm false [8]) .ret)))))))
def l121_0:AX:=
 (.note
 (.seq
 (.reg [rg 12 (.bin .lss (.t 11) (.t 10))])
 (.seq
 (.cond (.t 12)
 .skip
 (.exit 0))
 (.seq
 (.block 1
 (.seq
 (.reg [mv 13 11,rg 14 (.iad 1 (.t 9) (.t 11)),rg 15 (.load none (.t 14)),mv 7 13,mv 8 15])
 (.reg [mv 17 0,mv 18 1,mv 19 7,rg 20 (.bin .add (.t 18) (.t 19)),mv 21 0,mv 22 1,mv 23 7,rg 24 (.bin .add (.t 22) (.t 23)),rg 25 (.iad 1 (.t 21) (.t 24)),rg 26 (.load none (.t 25)),mv 27 8,mv 28 6,rg 29 (.call 115 [(.t 26),(.t 27),(.t 28)]),mv 16 29,rg 30 (.ext (.t 16) 0),rg 31 (.ext (.t 16) 1),rg 32 (.iad 1 (.t 17) (.t 20)),so (.store 1 (.t 32) (.t 30)),mv 6 31])))
 (.reg [rg 33 (.bin .add (.t 11) (.c (.i .i64 1))),mv 11 33]))))
 (.norm false [0,1,2,6,9,10,11]))
def b121:AX:=
 (.seq
 (.reg [rg 6 (.mov (.c (u32 0)))])
 (.seq
 (.seq
 (.reg [mv 9 2,rg 10 (.len (.t 9)),rg 11 (.mov (.c (.i .i64 0)))])
 (.lp 0 (.norm false [0,1,2,6,9,10,11]) l121_0 (.norm false [0,1,2,6])))
 (.reg [mv 34 0,mv 35 1,mv 36 2,rg 37 (.len (.t 36)),rg 38 (.bin .add (.t 35) (.t 37)),rg 39 (.iad 1 (.t 34) (.t 38)),rg 40 (.load none (.t 39)),mv 41 6,rg 42 (.bin .add (.t 40) (.t 41)),rg 43 (.iad 1 (.t 34) (.t 38)),so (.store 1 (.t 43) (.t 42))])))
def l93_0:AX:=
 (.note
 (.seq
 (.seq
 (.reg [mv 19 7,rg 20 (.bin .geq (.t 19) (.c (.i .i64 0)))])
 (.cond (.t 20)
 .skip
 (.exit 0)))
 (.seq
 (.block 1
 (.seq
 (.drawT [mv 23 0,mv 24 7,mv 25 5,rg 26 (.bin .add (.t 24) (.t 25)),rg 27 (.iad 1 (.t 23) (.t 26)),rg 28 (.load none (.t 27)),mv 29 0,mv 30 7,mv 31 5,rg 32 (.bin .add (.t 30) (.t 31)),rg 33 (.bin .sub (.t 32) (.c (.i .i64 1))),rg 34 (.iad 1 (.t 29) (.t 33)),rg 35 (.load none (.t 34)),mv 36 0,mv 37 7,mv 38 5,rg 39 (.bin .add (.t 37) (.t 38)),rg 40 (.bin .sub (.t 39) (.c (.i .i64 2))),rg 41 (.iad 1 (.t 36) (.t 40)),rg 42 (.load none (.t 41)),mv 43 1,mv 44 5,rg 45 (.bin .sub (.t 44) (.c (.i .i64 1))),rg 46 (.iad 1 (.t 43) (.t 45)),rg 47 (.load none (.t 46)),mv 48 1,mv 49 5,rg 50 (.bin .sub (.t 49) (.c (.i .i64 2))),rg 51 (.iad 1 (.t 48) (.t 50)),rg 52 (.load none (.t 51))]
 [rg 53 (.call 119 [(.t 28),(.t 35),(.t 42),(.t 47),(.t 52)]),mv 8 53])
 (.seq
 (.seq
 (.reg [mv 54 0,mv 55 7,mv 56 1,mv 57 8,rg 58 (.call 120 [(.t 54),(.t 55),(.t 56),(.t 57)])])
 (.cond (.t 58)
 (.seq
 (.reg [mv 59 8,rg 60 (.bin .sub (.t 59) (.c (u32 1))),mv 8 60])
 (.reg [mv 61 0,mv 62 7,mv 63 1,rg 64 (.call 121 [(.t 61),(.t 62),(.t 63)])]))
 .skip))
 (.reg [mv 65 6,mv 66 7,mv 67 8,rg 68 (.iad 1 (.t 65) (.t 66)),so (.store 1 (.t 68) (.t 67))]))))
 (.reg [mv 21 7,rg 22 (.bin .sub (.t 21) (.c (.i .i64 1))),mv 7 22])))
 (.norm false [0,1,5,6,7]))
def b93:AX:=
 (.seq
 (.reg [rg 4 (.mov (.c (.sl [] .nl)))])
 (.seq
 (.reg [mv 9 1,rg 10 (.len (.t 9)),mv 5 10])
 (.seq
 (.reg [mv 11 0,rg 12 (.len (.t 11)),mv 13 5,rg 14 (.bin .sub (.t 12) (.t 13)),rg 15 (.mks 1 [(u32 0)] (.t 14) (.t 14)),mv 6 15])
 (.seq
 (.seq
 (.reg [mv 16 6,rg 17 (.len (.t 16)),rg 18 (.bin .sub (.t 17) (.c (.i .i64 1))),mv 7 18])
 (.lp 0 (.norm false [0,1,5,6,7]) l93_0 (.norm false [6])))
 (.seq
 (.reg [mv 69 6,mv 4 69])
 (.pre (.norm false [4]) .ret))))))
class CQuot (T:Tbl):Prop where
 h90:T 90=some ⟨2,37,[.t 4,.t 5,.t 6],b90,none,false⟩
 h119:T 119=some ⟨5,76,[.t 10],b119,none,false⟩
 h120:T 120=some ⟨4,66,[.t 8],b120,(some [true,false,false,false]),false⟩
 h121:T 121=some ⟨3,44,[],b121,(some [true,false,false]),false⟩
 h93:T 93=some ⟨2,70,[.t 4],b93,(some [true,false]),false⟩
section
variable{T:Tbl}[CQuot T]{d:Option Nat}{st:St}
@[simp] theorem x90(xs:List AV):callX (orc T) T 90 xs d st=cP T 90 false xs d st:=zaa CQuot.h90
theorem f90(xs:List AV)(hn:xs.length=2):callF T 90 xs=retF [.t 4,.t 5,.t 6] false (evX (orc T) T 0 b90 ⟨argEnv xs,[],1⟩):=zab CQuot.h90 hn
@[simp] theorem x119(xs:List AV):callX (orc T) T 119 xs d st=cP T 119 false xs d st:=zaa CQuot.h119
theorem f119(xs:List AV)(hn:xs.length=5):callF T 119 xs=retF [.t 10] false (evX (orc T) T 0 b119 ⟨argEnv xs,[],1⟩):=zab CQuot.h119 hn
@[simp] theorem x120(xs:List AV):callX (orc T) T 120 xs d st=bL (frzM st.heap [true,false,false,false] xs) fun ys=>lentX ys (shareIds (refsM [true,false,false,false] xs) st.heap) (reach (shareIds (refsM [true,false,false,false] xs) st.heap) 40 (rootsM [true,false,false,false] xs) []) T 120 false d st:=zat CQuot.h120
theorem f120(xs:List AV)(hb:Heap)(hn:xs.length=4):callH T 120 xs hb=retH [.t 8] false hb.length (evX (orc T) T hb.length b120 ⟨argEnv xs,hb,hb.length+1⟩):=zbo CQuot.h120 hn
@[simp] theorem x121(xs:List AV):callX (orc T) T 121 xs d st=bL (frzM st.heap [true,false,false] xs) fun ys=>lentX ys (shareIds (refsM [true,false,false] xs) st.heap) (reach (shareIds (refsM [true,false,false] xs) st.heap) 40 (rootsM [true,false,false] xs) []) T 121 false d st:=zat CQuot.h121
theorem f121(xs:List AV)(hb:Heap)(hn:xs.length=3):callH T 121 xs hb=retH [] false hb.length (evX (orc T) T hb.length b121 ⟨argEnv xs,hb,hb.length+1⟩):=zbo CQuot.h121 hn
@[simp] theorem x93(xs:List AV):callX (orc T) T 93 xs d st=bL (frzM st.heap [true,false] xs) fun ys=>lentX ys (shareIds (refsM [true,false] xs) st.heap) (reach (shareIds (refsM [true,false] xs) st.heap) 40 (rootsM [true,false] xs) []) T 93 false d st:=zat CQuot.h93
theorem f93(xs:List AV)(hb:Heap)(hn:xs.length=2):callH T 93 xs hb=retH [.t 4] false hb.length (evX (orc T) T hb.length b93 ⟨argEnv xs,hb,hb.length+1⟩):=zbo CQuot.h93 hn
end
theorem zi9{m:List UInt32}{j:Nat}(w:UInt32):(List.replicate (j+1) 0++m).set j w=List.replicate j 0++w::m:=by
 rw[List.set_append_left j w (by simp),List.replicate_succ',List.set_append_right j w (by simp)]
 simp
theorem zja{m:List UInt32}{j:Nat}:(List.replicate (j+1) (0:UInt32)++m)[j]? = some 0:=by
 rw[List.getElem?_append_left (by simp),List.getElem?_replicate,if_pos (by omega)]
section
variable{T:Tbl}[CNat T][CTwos T][CProd T][CQuot T]
def stWd(a:List UInt32)(x:Nat)(y:Nat×Nat×List UInt32):St:=
 ⟨[(0,.sl (u32s a) .an),(1,u32 x),(4,.bs (.loc 12) 1 1 0 a.length),(5,u32 y.2.1),(7,.i .i64 ((y.1:Int)-1))],[(.loc 12,⟨1,.own,1,u32s (List.replicate y.1 0++y.2.2)⟩)],3⟩
end
section
variable{T:Tbl}[CNat T]
theorem zyz(a:List UInt32)(x:Nat)(hx:x<4294967296)(hl:a.length≤1000000):∀y:Nat×Nat×List UInt32,
  (y.1≤a.length∧y.2.1<x∧y.2.2.length=a.length-y.1∧val (a.drop y.1)=x*val y.2.2+y.2.1) →
  ∃r,(∃(c:Nat) (m:List UInt32),r=(Ex.n,(⟨[(4,.bs (.loc 12) 1 1 0 a.length),(5,u32 c)],[(.loc 12,⟨1,.own,1,u32s m⟩)],3⟩:St)) ∧
   m.length=a.length∧c<x∧val a=x*val m+c)∧loopN T 0 0 (.norm false [4,5]) l90_0 (stWd a x y)=some r:=by
 refine zaw _ _ (fun y=>y.1) _ ?_
 rintro⟨k,c,m⟩ ⟨hk,hc,hm,hv⟩
 simp only at hk hc hm hv
 cases k with
 | zero=>
  right
  refine⟨_,⟨c,m,rfl,by omega,hc,hv⟩,?_,?_⟩<;>simp -implicitDefEqProofs[l90_0,stWd]
 | succ j=>
  left
  have hja:j<a.length:=by omega
  have hy:=zam (a[j]'hja)
  have hd:=List.drop_eq_getElem_cons hja
  have hw:IntKind.wrap .i64 ((j:Int)-1)=(j:Int)-1:=zac _ (by omega)
  have hs:=zi9 (m:=m) (j:=j) (w32 ((c*4294967296+(a[j]'hja).toNat)/x))
  have hq:(c*4294967296+(a[j]'hja).toNat)/x<4294967296:=by
   refine Nat.div_lt_of_lt_mul ?_
   omega
  have hdv:=zk1 (T:=T) c (a[j]'hja).toNat x hc hy hx
  refine⟨(j,(c*4294967296+(a[j]'hja).toNat)%x,w32 ((c*4294967296+(a[j]'hja).toNat)/x)::m),⟨by omega,Nat.mod_lt _ (by omega),by grind,?_⟩,Nat.lt_succ_self j,?_⟩
  ·grind[zao,zae,Nat.div_add_mod]
  ·simp -implicitDefEqProofs[l90_0,stWd,hja,hw,hs,zja,hdv,zba _ _ _ hq]
end
section
variable{T:Tbl}[CNat T][CQuot T]
theorem zk5(a:List UInt32)(x:Nat)(hx:x<4294967296)(h0:0<x)(hl:a.length≤1000000) :
  callF T 90 [.sl (u32s a) .an,u32 x]=some (.tup [.sl (u32s (ofN (val a/x))) .an,u32 (val a%x),.b true]):=by
 obtain⟨_,⟨c,m,rfl,hm,hc,hv⟩,hr⟩:=zyz (T:=T) a x hx hl (a.length,0,[]) ⟨Nat.le_refl _,h0,by simp,by rw[List.drop_length,zby,Nat.mul_zero,Nat.zero_add]⟩
 have e1:val a/x=val m:=by grind[Nat.mul_add_div,Nat.div_eq_of_lt]
 have e2:val a%x=c:=by rw[hv,Nat.mul_add_mod,Nat.mod_eq_of_lt hc]
 have hnm:=zbc (T:=T) m (by omega)
 unfold stWd at hr
 simp at hr
 have hx0:x≠0:=by omega
 have w1:IntKind.wrap .i64 ((a.length:Int)-1)=(a.length:Int)-1:=zac _ (by omega)
 have p1:(a.length:Int)≤4294967296:=by omega
 have htk:List.take a.length m=m:=List.take_of_length_le (by omega)
 rw[e1,e2,f90 _ rfl,b90]
 simp -implicitDefEqProofs[hr,hx0,w1,p1,htk,hm,hnm]
end
section
variable{T:Tbl}[CNat T][CTwos T][CProd T][CQuot T]
theorem zk6{p M w X s t y v D D':Nat}(h:M+X*t=s+p*D)(e:w+X*y+D=v+4294967296*D'):(M+p*w)+X*(t+p*y)=(s+p*v)+p*4294967296*D':=by
 grind
def stTk(P S b:List UInt32)(x:Nat)(y:Nat×(Nat×Nat)×List UInt32):St:=
 ⟨[(0,.bs (.bor 0) 0 1 0 (P.length+S.length)),(1,.i .i64 P.length),(2,.sl (u32s b) .an),(3,u32 x),(9,u32 y.2.1.1),(10,u32 y.2.1.2),(15,.sl (u32s b) .an),(16,.i .i64 b.length),(17,.i .i64 y.1)],
  [(.bor 0,⟨0,.own,1,u32s (P++(y.2.2++S.drop y.1))⟩)],4⟩
end
section
variable{T:Tbl}[CNat T]
theorem zy0(P S b:List UInt32)(x:Nat)(hx:x<4294967296)(hS:b.length<S.length)(hl:P.length+S.length≤1000000):∀y:Nat×(Nat×Nat)×List UInt32,
  (y.1≤b.length∧y.2.1.1<4294967296∧y.2.1.2≤1∧y.2.2.length=y.1∧val y.2.2+x*val (b.take y.1)=val (S.take y.1)+4294967296^y.1*(y.2.1.2+y.2.1.1)) →
  ∃r,(∃(C B:Nat) (m:List UInt32),r=(Ex.n,(⟨[(0,.bs (.bor 0) 0 1 0 (P.length+S.length)),(1,.i .i64 P.length),(2,.sl (u32s b) .an),(9,u32 C),(10,u32 B)],[(.bor 0,⟨0,.own,1,u32s (P++(m++S.drop b.length))⟩)],4⟩:St)) ∧
   C<4294967296∧B≤1∧m.length=b.length∧val m+x*val b=val (S.take b.length)+4294967296^b.length*(B+C))∧loopN T 1 0 (.norm false [0,1,2,9,10]) l120_0 (stTk P S b x y)=some r:=by
 refine zaw _ _ (fun y=>b.length-y.1) _ ?_
 rintro⟨i,⟨C,B⟩,m⟩ ⟨hi,hC,hB,hm,hv⟩
 simp only at hi hC hB hm hv
 by_cases h0:i<b.length
 ·left
  have hb:b[i]? = some (b[i]'h0):=List.getElem?_eq_getElem h0
  have hiS:i<S.length:=by omega
  have hs:S[i]? = some (S[i]'hiS):=List.getElem?_eq_getElem hiS
  have hg:=ze7 (P:=P) hm hiS
  have hw:IntKind.wrap .i64 ((i:Int)+1)=((i+1:Nat):Int):=zac _ (by omega)
  have hw2:IntKind.wrap .i64 ((P.length:Int)+i)=((P.length+i:Nat):Int):=zac _ (by omega)
  have hlt2:(P.length:Int)+i<(P.length:Int)+S.length:=by omega
  have hlb:=zam (b[i]'h0)
  have hls:=zam (S[i]'hiS)
  have hmul:=zib hx hlb
  have c1:=zgy (T:=T) x (b[i]'h0).toNat C 0 hx hlb hC (by decide)
  rw[Nat.add_zero]at c1
  obtain⟨lo,hlo⟩:∃lo,lo=(x*(b[i]'h0).toNat+C)%4294967296:=⟨_,rfl⟩
  obtain⟨C',hC'⟩:∃C',C'=(x*(b[i]'h0).toNat+C)/4294967296:=⟨_,rfl⟩
  rw[←hlo,←hC']at c1
  have c2:=zes (T:=T) (S[i]'hiS).toNat lo B hls (by omega) (by omega)
  obtain⟨w,hwd⟩:∃w,w=((S[i]'hiS).toNat+8589934592-(lo+B))%4294967296:=⟨_,rfl⟩
  obtain⟨B',hB'⟩:∃B',B'=2-((S[i]'hiS).toNat+8589934592-(lo+B))/4294967296:=⟨_,rfl⟩
  rw[←hwd,←hB']at c2
  have hwl:w<4294967296:=by omega
  have hset:=ze8 (P:=P) (w32 w) hm hiS
  refine⟨(i+1,(C',B'),m++[w32 w]),⟨h0,by grind,by simp only;omega,by grind,?_⟩,by omega,?_⟩
  ·simp only
   rw[zak,zad hb,zad hs,Nat.pow_succ,hm,zao,zby,Nat.mul_zero,Nat.add_zero,zae hwl]
   exact zk6 hv (by omega)
  ·simp -implicitDefEqProofs[l120_0,stTk,h0,hw,hw2,hlt2,hg,c1,c2,hset,zba _ _ _ hwl]
 ·right
  have:i=b.length:=by omega
  subst this
  rw[List.take_of_length_le (Nat.le_refl b.length)]at hv
  refine⟨_,⟨C,B,m,rfl,hC,hB,hm,hv⟩,?_,?_⟩<;>simp -implicitDefEqProofs[l120_0,stTk]
end
section
variable{T:Tbl}[CNat T][CQuot T]
theorem ztj(P S b:List UInt32)(x:Nat)(hx:x<4294967296)(hS:b.length<S.length)(hl:P.length+S.length≤1000000) :
  ∃(B:Nat) (m:List UInt32),B≤1∧m.length=b.length+1∧val m+x*val b=val (S.take (b.length+1))+4294967296^(b.length+1)*B ∧
   callH T 120 [.bs (.bor 0) 0 1 0 (P.length+S.length),.i .i64 P.length,.sl (u32s b) .an,u32 x] [(.bor 0,⟨0,.own,1,u32s (P++S)⟩)] =
    some (.b (decide (0<B)),[(.bor 0,⟨0,.own,1,u32s (P++(m++S.drop (b.length+1)))⟩)]):=by
 obtain⟨_,⟨C,B,m,rfl,hC,hB,hm,hv⟩,hr⟩:=zy0 (T:=T) P S b x hx hS hl (0,(0,0),[]) ⟨Nat.zero_le _,Nat.zero_lt_succ _,Nat.zero_le _,rfl,by simp⟩
 unfold stTk at hr
 simp at hr
 have hs:S[b.length]? = some (S[b.length]'hS):=List.getElem?_eq_getElem hS
 have hls:=zam (S[b.length]'hS)
 have hg:=ze7 (P:=P) hm hS
 have hw2:IntKind.wrap .i64 ((P.length:Int)+b.length)=((P.length+b.length:Nat):Int):=zac _ (by omega)
 have hlt2:(P.length:Int)+b.length<(P.length:Int)+S.length:=by omega
 have c2:=zes (T:=T) (S[b.length]'hS).toNat C B hls hC (by omega)
 obtain⟨w,hwd⟩:∃w,w=((S[b.length]'hS).toNat+8589934592-(C+B))%4294967296:=⟨_,rfl⟩
 obtain⟨B',hB'⟩:∃B',B'=2-((S[b.length]'hS).toNat+8589934592-(C+B))/4294967296:=⟨_,rfl⟩
 rw[←hwd,←hB']at c2
 have hwl:w<4294967296:=by omega
 have hset:=ze8 (P:=P) (w32 w) hm hS
 refine⟨B',m++[w32 w],by omega,by grind,?_,?_⟩
 ·rw[zak,zad hs,Nat.pow_succ,hm,zao,zby,Nat.mul_zero,Nat.add_zero,zae hwl]
  have:=zk6 (y:=0) (w:=w) (v:=(S[b.length]'hS).toNat) (D':=B') hv (by omega)
  omega
 ·rw[f120 _ _ rfl,b120]
  simp -implicitDefEqProofs[hr,hw2,hlt2,hg,c2,hset,zba _ _ _ hwl]
end
section
variable{T:Tbl}[CNat T][CTwos T][CProd T][CQuot T]
theorem zk7{p M w s t y v D D':Nat}(h:M+p*D=s+t)(e:w+4294967296*D'=v+y+D):(M+p*w)+p*4294967296*D'=(s+p*v)+(t+p*y):=by
 grind
def stGv(P S b:List UInt32)(y:Nat×Nat×List UInt32):St:=
 ⟨[(0,.bs (.bor 0) 0 1 0 (P.length+S.length)),(1,.i .i64 P.length),(2,.sl (u32s b) .an),(6,u32 y.2.1),(9,.sl (u32s b) .an),(10,.i .i64 b.length),(11,.i .i64 y.1)],
  [(.bor 0,⟨0,.own,1,u32s (P++(y.2.2++S.drop y.1))⟩)],4⟩
end
section
variable{T:Tbl}[CNat T]
theorem zy1(P S b:List UInt32)(hS:b.length<S.length)(hl:P.length+S.length≤1000000):∀y:Nat×Nat×List UInt32,
  (y.1≤b.length∧y.2.1≤1∧y.2.2.length=y.1∧val y.2.2+4294967296^y.1*y.2.1=val (S.take y.1)+val (b.take y.1)) →
  ∃r,(∃(C:Nat) (m:List UInt32),r=(Ex.n,(⟨[(0,.bs (.bor 0) 0 1 0 (P.length+S.length)),(1,.i .i64 P.length),(2,.sl (u32s b) .an),(6,u32 C)],[(.bor 0,⟨0,.own,1,u32s (P++(m++S.drop b.length))⟩)],4⟩:St)) ∧
   C≤1∧m.length=b.length∧val m+4294967296^b.length*C=val (S.take b.length)+val b)∧loopN T 1 0 (.norm false [0,1,2,6]) l121_0 (stGv P S b y)=some r:=by
 refine zaw _ _ (fun y=>b.length-y.1) _ ?_
 rintro⟨i,C,m⟩ ⟨hi,hC,hm,hv⟩
 simp only at hi hC hm hv
 by_cases h0:i<b.length
 ·left
  have hb:b[i]? = some (b[i]'h0):=List.getElem?_eq_getElem h0
  have hiS:i<S.length:=by omega
  have hs:S[i]? = some (S[i]'hiS):=List.getElem?_eq_getElem hiS
  have hg:=ze7 (P:=P) hm hiS
  have hw:IntKind.wrap .i64 ((i:Int)+1)=((i+1:Nat):Int):=zac _ (by omega)
  have hw2:IntKind.wrap .i64 ((P.length:Int)+i)=((P.length+i:Nat):Int):=zac _ (by omega)
  have hlt2:(P.length:Int)+i<(P.length:Int)+S.length:=by omega
  have hlb:=zam (b[i]'h0)
  have hls:=zam (S[i]'hiS)
  have c2:=zdq (T:=T) (S[i]'hiS).toNat (b[i]'h0).toNat C hls hlb (by omega)
  obtain⟨w,hwd⟩:∃w,w=((S[i]'hiS).toNat+(b[i]'h0).toNat+C)%4294967296:=⟨_,rfl⟩
  obtain⟨C',hC'⟩:∃C',C'=((S[i]'hiS).toNat+(b[i]'h0).toNat+C)/4294967296:=⟨_,rfl⟩
  rw[←hwd,←hC']at c2
  have hwl:w<4294967296:=by omega
  have hset:=ze8 (P:=P) (w32 w) hm hiS
  refine⟨(i+1,C',m++[w32 w]),⟨h0,by grind,by grind,?_⟩,by omega,?_⟩
  ·simp only
   rw[zak,zad hb,zad hs,Nat.pow_succ,hm,zao,zby,Nat.mul_zero,Nat.add_zero,zae hwl]
   exact zk7 hv (by omega)
  ·simp -implicitDefEqProofs[l121_0,stGv,h0,hw,hw2,hlt2,hg,c2,hset,zba _ _ _ hwl]
 ·right
  have:i=b.length:=by omega
  subst this
  rw[List.take_of_length_le (Nat.le_refl b.length)]at hv
  refine⟨_,⟨C,m,rfl,hC,hm,hv⟩,?_,?_⟩<;>simp -implicitDefEqProofs[l121_0,stGv]
end
section
variable{T:Tbl}[CNat T][CQuot T]
theorem ztk(P S b:List UInt32)(hS:b.length<S.length)(hl:P.length+S.length≤1000000) :
  ∃(D:Nat) (m:List UInt32),D≤1∧m.length=b.length+1∧val m+4294967296^(b.length+1)*D=val (S.take (b.length+1))+val b ∧
   callH T 121 [.bs (.bor 0) 0 1 0 (P.length+S.length),.i .i64 P.length,.sl (u32s b) .an] [(.bor 0,⟨0,.own,1,u32s (P++S)⟩)] =
    some (.tup [],[(.bor 0,⟨0,.own,1,u32s (P++(m++S.drop (b.length+1)))⟩)]):=by
 obtain⟨_,⟨C,m,rfl,hC,hm,hv⟩,hr⟩:=zy1 (T:=T) P S b hS hl (0,0,[]) ⟨Nat.zero_le _,Nat.zero_le _,rfl,by simp⟩
 unfold stGv at hr
 simp at hr
 have hs:S[b.length]? = some (S[b.length]'hS):=List.getElem?_eq_getElem hS
 have hls:=zam (S[b.length]'hS)
 have hg:=ze7 (P:=P) hm hS
 have hw2:IntKind.wrap .i64 ((P.length:Int)+b.length)=((P.length+b.length:Nat):Int):=zac _ (by omega)
 have hlt2:(P.length:Int)+b.length<(P.length:Int)+S.length:=by omega
 obtain⟨w,hwd⟩:∃w,w=((S[b.length]'hS).toNat+C)%4294967296:=⟨_,rfl⟩
 have hwl:w<4294967296:=by omega
 have hset:=ze8 (P:=P) (w32 w) hm hS
 refine⟨((S[b.length]'hS).toNat+C)/4294967296,m++[w32 w],by omega,by grind,?_,?_⟩
 ·rw[zak,zad hs,Nat.pow_succ,hm,zao,zby,Nat.mul_zero,Nat.add_zero,zae hwl]
  have:=zk7 (y:=0) (w:=w) (v:=(S[b.length]'hS).toNat) (D':=((S[b.length]'hS).toNat+C)/4294967296) hv (by omega)
  omega
 ·rw[f121 _ _ rfl,b121]
  simp -implicitDefEqProofs[hr,hw2,hlt2,hg,←hwd,hset,zba _ _ _ hwl]
end
theorem zgx(q b1 b0:Nat):q*(b1*4294967296+b0)=q*b1*4294967296+q*b0:=by
 rw[Nat.mul_add q,←Nat.mul_assoc q]
theorem zi5{a2 a1 a0 b1 b0 q r:Nat}(h:q*b1+r=a2*4294967296+a1)(hle:q*b0≤r*4294967296+a0) :
  q*(b1*4294967296+b0)≤(a2*4294967296+a1)*4294967296+a0:=by
 refine Nat.le_trans (Nat.le_of_eq (zgx q b1 b0)) ?_
 revert h hle
 generalize q*b1=u
 generalize q*b0=v
 omega
theorem zvc{a2 a1 a0 b1 b0 q r:Nat}(h:q*b1+r=a2*4294967296+a1)(hgt:r*4294967296+a0<q*b0) :
  (a2*4294967296+a1)*4294967296+a0<q*(b1*4294967296+b0):=by
 refine Nat.lt_of_lt_of_eq ?_ (zgx q b1 b0).symm
 revert h hgt
 generalize q*b1=u
 generalize q*b0=v
 omega
theorem zs5{q b0 r a0:Nat}(h0:a0<4294967296):(q*b0/4294967296<r∨q*b0/4294967296=r∧q*b0%4294967296≤a0)↔q*b0≤r*4294967296+a0:=by
 generalize q*b0=m
 omega
section
variable{T:Tbl}[CNat T][CTwos T][CProd T][CQuot T]
def stGs(a0 b1 b0:Nat)(y:Nat×Nat):St:=⟨[(2,u32 a0),(3,u32 b1),(4,u32 b0),(11,u32 y.1),(12,u32 y.2)],[],2⟩
end
section
variable{T:Tbl}[CNat T]
theorem zs6(a2 a1 a0 b1 b0 g:Nat)(h0:a0<4294967296)(hb1:b1<4294967296)(hb0:b0<4294967296)
  (F1:∀q,q<4294967296→g≤q→q*(b1*4294967296+b0)≤(a2*4294967296+a1)*4294967296+a0→q=g)
  (F2:∀q,(a2*4294967296+a1)*4294967296+a0<q*(b1*4294967296+b0)→g<q):∀y:Nat×Nat,
  (y.1<4294967296∧y.2<4294967296∧y.1*b1+y.2=a2*4294967296+a1∧g≤y.1) →
  ∃r,(r=(Ex.n,(⟨[(11,u32 g)],[],2⟩:St)))∧loopN T 0 0 (.norm false [11]) l119_0 (stGs a0 b1 b0 y)=some r:=by
 refine zaw _ _ (fun y=>y.1) _ ?_
 rintro⟨q,r⟩ ⟨hq,hr,hv,hg⟩
 simp only at hq hr hv hg
 have c1:=zgy (T:=T) q b0 0 0 hq hb0 (by decide) (by decide)
 have c2:=zdq (T:=T) r b1 0 hr hb1 (by decide)
 rw[Nat.add_zero]at c1
 rw[Nat.add_zero]at c2
 have hcmp:=zs5 (q:=q) (b0:=b0) (r:=r) h0
 obtain⟨hi,hhi⟩:∃hi,hi=q*b0/4294967296:=⟨_,rfl⟩
 obtain⟨lo,hlo⟩:∃lo,lo=q*b0%4294967296:=⟨_,rfl⟩
 rw[←hhi,←hlo]at c1 hcmp
 have hlol:lo<4294967296:=by omega
 have hhil:hi<4294967296:=by
  have:=zib hq hb0
  omega
 by_cases hle:q*b0≤r*4294967296+a0
 ·right
  have hqg:=F1 q hq hg (zi5 hv hle)
  subst hqg
  have hc:=hcmp.2 hle
  clear hhi hlo
  rcases hc with hc | ⟨rfl,hc2⟩
  ·refine⟨_,rfl,?_,?_⟩<;>simp -implicitDefEqProofs[l119_0,stGs,c1,hc]
  ·refine⟨_,rfl,?_,?_⟩<;>simp -implicitDefEqProofs[l119_0,stGs,c1,hc2]
 ·have hgt:r*4294967296+a0<q*b0:=by omega
  have hlt:=F2 q (zvc hv hgt)
  have hc:¬ (hi<r∨hi=r∧lo≤a0):=fun h=>hle (hcmp.1 h)
  have hq1:q-1<4294967296:=by omega
  have hs:sub32 q 1=q-1:=by unfold sub32;omega
  have hqb:(q-1)*b1+(r+b1)=a2*4294967296+a1:=by
   have:q*b1=(q-1)*b1+b1:=by
    rw[←Nat.succ_mul]
    congr 1
    omega
   omega
  by_cases hcar:4294967296≤r+b1
  ·right
   have hmul:=zib hq1 hb0
   have hqg:=F1 (q-1) hq1 (by omega) (zi5 hqb (by
    generalize (q-1)*b0=v at *
    omega))
   have m2:0<(r+b1)/4294967296:=Nat.div_pos hcar (by decide)
   have m3:(r+b1)/4294967296<4294967296:=by omega
   have hr2:¬ hi<r:=fun h=>hc (.inl h)
   clear hhi hlo
   refine⟨_,rfl,?_,?_⟩<;>by_cases he:hi=r
   ·have hc3:¬ lo≤a0:=fun h=>hc (.inr ⟨he,h⟩)
    subst he
    simp -implicitDefEqProofs[l119_0,stGs,c1,c2,hs,hc3,m2]
   ·simp -implicitDefEqProofs[l119_0,stGs,c1,c2,hs,hr2,he,m2]
   ·have hc3:¬ lo≤a0:=fun h=>hc (.inr ⟨he,h⟩)
    subst he
    simp -implicitDefEqProofs[l119_0,stGs,c1,c2,hs,hc3,m2,hqg]
   ·simp -implicitDefEqProofs[l119_0,stGs,c1,c2,hs,hr2,he,m2,hqg]
  ·left
   refine⟨(q-1,r+b1),⟨hq1,by simp only;omega,hqb,by simp only;omega⟩,by simp only;omega,?_⟩
   have m1:(r+b1)%4294967296=r+b1:=Nat.mod_eq_of_lt (by omega)
   have m2:(r+b1)/4294967296=0:=Nat.div_eq_of_lt (by omega)
   rw[m1,m2]at c2
   have hr2:¬ hi<r:=fun h=>hc (.inl h)
   clear hhi hlo
   by_cases he:hi=r
   ·have hc3:¬ lo≤a0:=fun h=>hc (.inr ⟨he,h⟩)
    subst he
    simp -implicitDefEqProofs[l119_0,stGs,c1,c2,hs,hc3]
   ·simp -implicitDefEqProofs[l119_0,stGs,c1,c2,hs,hr2,he]
end
section
variable{T:Tbl}[CNat T][CTwos T][CProd T][CQuot T]
theorem zyv{n two:Nat}(h:0<two):(∀q,q<4294967296→min 4294967295 (n/two)≤q→q*two≤n→q=min 4294967295 (n/two))∧(∀q,n<q*two→min 4294967295 (n/two)<q):=by
 constructor
 ·intro q hq hg hle
  have:=(Nat.le_div_iff_mul_le h).2 hle
  omega
 ·intro q hlt
  have:=(Nat.div_lt_iff_lt_mul h).2 hlt
  omega
theorem zvd{A a0 b1 b0:Nat}(h0:a0<4294967296)(hp:0<b1):A*4294967296+a0<(A/b1+1)*(b1*4294967296+b0):=by
 have h1:A<(A/b1+1)*b1:=by rw[Nat.mul_comm];exact Nat.lt_mul_div_succ A hp
 refine Nat.lt_of_lt_of_eq ?_ (zgx (A/b1+1) b1 b0).symm
 generalize (A/b1+1)*b1=u at *
 generalize (A/b1+1)*b0=v at *
 omega
end
section
variable{T:Tbl}[CNat T][CQuot T]
theorem zpq(a2 a1 a0 b1 b0:Nat)(h2:a2<4294967296)(h1:a1<4294967296)(h0:a0<4294967296)(hb1:b1<4294967296)(hb0:b0<4294967296)(hp:0<b1) :
  callF T 119 [u32 a2,u32 a1,u32 a0,u32 b1,u32 b0]=some (u32 (min 4294967295 (((a2*4294967296+a1)*4294967296+a0)/(b1*4294967296+b0)))):=by
 obtain⟨F1,F2⟩:=zyv (n:=(a2*4294967296+a1)*4294967296+a0) (two:=b1*4294967296+b0) (by omega)
 have hgle:=Nat.min_le_left 4294967295 (((a2*4294967296+a1)*4294967296+a0)/(b1*4294967296+b0))
 generalize min 4294967295 (((a2*4294967296+a1)*4294967296+a0)/(b1*4294967296+b0))=g at *
 by_cases hlt:a2<b1
 ·have hd:=zk1 (T:=T) a2 a1 b1 hlt h1 hb1
  have hql:(a2*4294967296+a1)/b1<4294967296:=zw4 hlt h1
  have hrl:(a2*4294967296+a1)%b1<b1:=Nat.mod_lt _ hp
  have hdm:=Nat.div_add_mod (a2*4294967296+a1) b1
  rw[Nat.mul_comm]at hdm
  obtain⟨_,rfl,hr⟩:=zs6 (T:=T) a2 a1 a0 b1 b0 g h0 hb1 hb0 F1 F2 ((a2*4294967296+a1)/b1,(a2*4294967296+a1)%b1) ⟨hql,by simp only;omega,hdm,by have:=F2 _ (zvd (A:=a2*4294967296+a1) (b0:=b0) h0 hp);simp only;omega⟩
  unfold stGs at hr
  simp at hr
  rw[f119 _ rfl,b119]
  simp -implicitDefEqProofs[hd,hr]
 ·have hd:=zpu (T:=T) a2 a1 b1 (by omega) h2 h1
  have ha:=zdq (T:=T) a1 b1 0 h1 hb1 (by decide)
  rw[Nat.add_zero]at ha
  by_cases hbig:b1<a2∨4294967296≤a1+b1
  ·have hg:4294967295=g:=by
    refine F1 4294967295 (by decide) hgle ?_
    refine zi5 (r:=a2*4294967296+a1-4294967295*b1) (by omega) ?_
    omega
   subst hg
   rw[f119 _ rfl,b119]
   rcases Nat.lt_or_ge b1 a2 with hb | hb
   ·simp -implicitDefEqProofs[hd,ha,hb]
   ·have hc:4294967296≤a1+b1:=by omega
    have hb2:¬ b1<a2:=by omega
    have m2:0<(a1+b1)/4294967296:=Nat.div_pos hc (by decide)
    simp -implicitDefEqProofs[hd,ha,hb2,m2]
  ·have hb2:¬ b1<a2:=fun h=>hbig (.inl h)
   have hc:a1+b1<4294967296:=by omega
   have m1:(a1+b1)%4294967296=a1+b1:=Nat.mod_eq_of_lt hc
   have m2:(a1+b1)/4294967296=0:=Nat.div_eq_of_lt hc
   rw[m1,m2]at ha
   obtain⟨_,rfl,hr⟩:=zs6 (T:=T) a2 a1 a0 b1 b0 g h0 hb1 hb0 F1 F2 (4294967295,a1+b1) ⟨Nat.lt_succ_self 4294967295,hc,by simp only;omega,hgle⟩
   unfold stGs at hr
   simp at hr
   have hb3:a2≤b1:=by omega
   rw[f119 _ rfl,b119]
   simp -implicitDefEqProofs[hd,ha,hb2,hr]
end
theorem zt0{V b d three two v0 b0:Nat}(hV:V=three*d+v0)(hv:v0<d)(hb:b=two*d+b0)(hb0:b0<d)(h2:4294967296≤two)(hlt:V<4294967296*b) :
  V/b≤min 4294967295 (three/two)∧min 4294967295 (three/two)≤V/b+1:=by
 have hd:0<d:=by omega
 have htp:0<two:=by omega
 have hbp:0<b:=by
  have:=Nat.mul_pos htp hd
  omega
 have hq:V/b<4294967296:=Nat.div_lt_of_lt_mul (by rw[Nat.mul_comm];exact hlt)
 have hqb:V/b*b≤V:=Nat.div_mul_le_self V b
 have hqb2:V<(V/b+1)*b:=by rw[Nat.mul_comm];exact Nat.lt_mul_div_succ V hbp
 generalize V/b=q at *
 constructor
 ·refine Nat.le_min.2 ⟨by omega,(Nat.le_div_iff_mul_le htp).2 ?_⟩
  have h3:q*two*d<(three+1)*d:=by
   have:q*two*d≤q*b:=by rw[hb,Nat.mul_add,Nat.mul_assoc];omega
   rw[Nat.add_mul,Nat.one_mul]
   omega
  have:=Nat.lt_of_mul_lt_mul_right h3
  omega
 ·generalize hx:min 4294967295 (three/two)=x
  have hx1:x≤three/two:=by rw[←hx];exact Nat.min_le_right _ _
  have hx2:x≤4294967295:=by rw[←hx];exact Nat.min_le_left _ _
  have hx3:x*two≤three:=(Nat.le_div_iff_mul_le htp).1 hx1
  rcases Nat.lt_or_ge (q+1) x with h | h
  ·exfalso
   have e1:(q+2)*two≤x*two:=Nat.mul_le_mul_right _ h
   have e2:(q+2)*two*d≤three*d:=Nat.mul_le_mul_right _ (Nat.le_trans e1 hx3)
   have e3:(q+1)*b=(q+1)*two*d+(q+1)*b0:=by rw[hb,Nat.mul_add,Nat.mul_assoc]
   have e4:(q+1)*b0≤(q+1)*d:=Nat.mul_le_mul_left _ (Nat.le_of_lt hb0)
   have e5:(q+2)*two*d=(q+1)*two*d+two*d:=by rw[show q+2=(q+1)+1 from rfl,Nat.add_mul (q+1) 1 two,Nat.one_mul,Nat.add_mul]
   have e6:(q+1)*d≤two*d:=Nat.mul_le_mul_right _ (by omega)
   omega
  ·exact h
theorem zvo{vA vA' t p V x r vb vm T:Nat}(h0:vA=t+p*V)(h1:vA'=t+p*r)(hV:V=vb*x+r)(hT:T=vA+p*4294967296*(vm*vb)) :
  T=vA'+p*((x+4294967296*vm)*vb):=by grind
theorem zs9{V b x Bo vm p:Nat}(hb:0<b)(h1:V/b≤x)(h2:x≤V/b+1)(_hp:V<p)(hm:vm<p)(hBo:Bo≤1)(h:vm+x*b=V+p*Bo) :
  (Bo=0→x=V/b∧vm=V%b)∧(Bo=1→x=V/b+1∧vm+b=V%b+p):=by
 have hd:=Nat.div_add_mod V b
 constructor
 ·intro h0
  subst h0
  have hx:x=V/b:=by
   have:x*b≤V:=by omega
   have:=(Nat.le_div_iff_mul_le hb).2 this
   omega
  grind
 ·intro h0
  subst h0
  have hx:x=V/b+1:=by
   grind
  grind
theorem zta{vm b r p D vm':Nat}(_hr:r<p)(h:vm+b=r+p)(hm:vm'<p)(hD:D≤1)(hg:vm'+p*D=vm+b):vm'=r:=by
 rcases Nat.eq_zero_or_pos D with h0 | h0
 all_goals grind
theorem zk2{α:Type}{A:List α}{i k:Nat}(h:i=k)(hi:i<A.length)(hk:k<A.length):A[i]'hi=A[k]'hk:=by grind
theorem zi8(A:List UInt32)(j n:Nat):val (A.drop j)=val ((A.drop j).take n)+4294967296^((A.drop j).take n).length*val (A.drop (j+n)):=by
 grind[List.take_append_drop,zak,List.drop_drop]
theorem zpx{q x:Nat}(h:x=q+1)(hx:x<4294967296):sub32 x 1=q:=by unfold sub32;omega
theorem ztb{A m1:List UInt32}{j n:Nat}(hm1:m1.length=n+1)(hj:j+n<A.length) :
  (A.take j++(m1++A.drop (j+(n+1)))).take j=A.take j∧(A.take j++(m1++A.drop (j+(n+1)))).drop (j+(n+1))=A.drop (j+(n+1)) ∧
  ((A.take j++(m1++A.drop (j+(n+1)))).drop j).take (n+1)=m1∧(A.take j++(m1++A.drop (j+(n+1)))).length=A.length:=by
 have htj:(A.take j).length=j:=by grind
 refine⟨?_,?_,?_,?_⟩
 ·rw[List.take_append_of_le_length (by omega),List.take_of_length_le (by omega)]
 ·rw[←List.drop_drop,List.drop_append_of_le_length (by omega),List.drop_of_length_le (l:=A.take j) (by omega),List.nil_append,List.drop_append_of_le_length (by omega),List.drop_of_length_le (by omega),List.nil_append]
 all_goals grind
theorem ztc{D:List UInt32}{n:Nat}(h:n+2<D.length):val (D.take (n+3))=(((D[n+2]'h).toNat*4294967296+(D[n+1]'(by omega)).toNat)*4294967296+(D[n]'(by omega)).toNat)*4294967296^n+val (D.take n):=by
 grind[zad]
theorem zyw{D:List UInt32}{n:Nat}(h:n+1<D.length):val (D.take (n+2))=((D[n+1]'h).toNat*4294967296+(D[n]'(by omega)).toNat)*4294967296^n+val (D.take n):=by
 grind[zad]
section
variable{T:Tbl}[CNat T][CQuot T]
theorem zpy(A b:List UInt32)(j x:Nat)(hx:x<4294967296)(hj:j+b.length<A.length)(hl:A.length≤1000000) :
  ∃(B:Nat) (m:List UInt32),B≤1∧m.length=b.length+1∧val m+x*val b=val ((A.drop j).take (b.length+1))+4294967296^(b.length+1)*B ∧
   callH T 120 [.bs (.bor 0) 0 1 0 A.length,.i .i64 j,.sl (u32s b) .an,u32 x] [(.bor 0,⟨0,.own,1,u32s A⟩)] =
    some (.b (decide (0<B)),[(.bor 0,⟨0,.own,1,u32s (A.take j++(m++A.drop (j+(b.length+1))))⟩)]):=by
 have h1:(A.take j).length=j:=by grind
 have h2:(A.drop j).length=A.length-j:=by simp
 obtain⟨B,m,hB,hm,hv,hc⟩:=ztj (T:=T) (A.take j) (A.drop j) b x hx (by omega) (by omega)
 grind[List.take_append_drop,List.drop_drop]
end
section
variable{T:Tbl}[CNat T][CQuot T]
theorem zpz(A b:List UInt32)(j:Nat)(hj:j+b.length<A.length)(hl:A.length≤1000000) :
  ∃(D:Nat) (m:List UInt32),D≤1∧m.length=b.length+1∧val m+4294967296^(b.length+1)*D=val ((A.drop j).take (b.length+1))+val b ∧
   callH T 121 [.bs (.bor 0) 0 1 0 A.length,.i .i64 j,.sl (u32s b) .an] [(.bor 0,⟨0,.own,1,u32s A⟩)] =
    some (.tup [],[(.bor 0,⟨0,.own,1,u32s (A.take j++(m++A.drop (j+(b.length+1))))⟩)]):=by
 have h1:(A.take j).length=j:=by grind
 have h2:(A.drop j).length=A.length-j:=by simp
 obtain⟨D,m,hD,hm,hv,hc⟩:=ztk (T:=T) (A.take j) (A.drop j) b (by omega) (by omega)
 rw[h1,h2,show j+(A.length-j)=A.length by omega,List.take_append_drop,List.drop_drop]at hc
 exact⟨D,m,hD,hm,hv,hc⟩
end
section
variable{T:Tbl}[CNat T][CTwos T][CProd T][CQuot T]
def stLg(b:List UInt32)(LA LQ:Nat)(y:Nat×List UInt32×List UInt32):St:=
 ⟨[(0,.bs (.bor 0) 0 1 0 LA),(1,.sl (u32s b) .an),(5,.i .i64 b.length),(6,.bs (.loc 15) 3 1 0 LQ),(7,.i .i64 ((y.1:Int)-1))],
  [(.bor 0,⟨0,.own,1,u32s y.2.1⟩),(.loc 15,⟨3,.own,1,u32s (List.replicate y.1 0++y.2.2)⟩)],5⟩
end
section
variable{T:Tbl}[CNat T][CQuot T]
set_option maxHeartbeats 2000000 in
theorem zyx(A0 b:List UInt32)(LQ nb:Nat)(hnb:b.length=nb+2)(hb1:0<(b[nb+1]'(by omega)).toNat)(hl:A0.length≤1000000)(hA0:A0.length=LQ+b.length):∀y:Nat×List UInt32×List UInt32,
  (y.1≤LQ∧y.2.1.length=A0.length∧y.2.2.length=LQ-y.1∧val (y.2.1.drop y.1)<val b∧val A0=val y.2.1+4294967296^y.1*(val y.2.2*val b)) →
  ∃r,(∃Q A:List UInt32,r=(Ex.n,(⟨[(6,.bs (.loc 15) 3 1 0 LQ)],[(.bor 0,⟨0,.own,1,u32s A⟩),(.loc 15,⟨3,.own,1,u32s Q⟩)],5⟩:St)) ∧
   Q.length=LQ∧A.length=A0.length∧val Q=val A0/val b∧val A=val A0%val b)∧loopN T 1 0 (.norm false [6]) l93_0 (stLg b A0.length LQ y)=some r:=by
 refine zaw _ _ (fun y=>y.1) _ ?_
 rintro⟨k,A,m⟩ ⟨hk,hA,hm,hlt,hv⟩
 simp only at hk hA hm hlt hv
 have hbp:0<val b:=by omega
 cases k with
 | zero=>
  right
  rw[Nat.pow_zero,Nat.one_mul]at hv
  rw[List.drop_zero]at hlt
  refine⟨_,⟨m,A,rfl,by omega,hA,?_,?_⟩,?_,?_⟩
  ·rw[hv,Nat.add_mul_div_right _ _ hbp,Nat.div_eq_of_lt hlt,Nat.zero_add]
  ·rw[hv,Nat.add_mul_mod_self_right,Nat.mod_eq_of_lt hlt]
  ·simp -implicitDefEqProofs[l93_0,stLg]
  ·simp -implicitDefEqProofs[l93_0,stLg]
 | succ j=>
  left
  -- the window
  have hD:(A.drop j).length=A.length-j:=by simp
  have hDn:nb+2<(A.drop j).length:=by omega
  have hVlt:val (A.drop j)<4294967296*val b:=by
   have:=List.drop_eq_getElem_cons (show j<A.length by omega)
   rw[this,zao]
   have:=zam (A[j]'(by omega))
   omega
  have hbB:=za2 b
  rw[hnb]at hbB
  have hsplit:=zi8 A j (nb+3)
  have hlen3:((A.drop j).take (nb+3)).length=nb+3:=by simp;omega
  rw[hlen3]at hsplit
  have hz:val (A.drop (j+(nb+3)))=0:=by
   rcases Nat.eq_zero_or_pos (val (A.drop (j+(nb+3)))) with h | h
   ·exact h
   ·exfalso
    have h1:=Nat.mul_le_mul_left (4294967296^(nb+3)) h
    rw[Nat.pow_succ 4294967296 (nb+2)]at h1 hsplit
    generalize 4294967296^(nb+2)=p at *
    generalize p*4294967296*val (A.drop (j+(nb+3)))=u at *
    omega
  rw[hz,Nat.mul_zero,Nat.add_zero]at hsplit
  have h3:=ztc hDn
  have h2:=zyw (D:=b) (n:=nb) (by omega)
  rw[za8 (a:=b) (i:=nb+2) (by omega)]at h2
  have hv0:=za2 ((A.drop j).take nb)
  have hb0:=za2 (b.take nb)
  rw[show ((A.drop j).take nb).length=nb by simp;omega]at hv0
  rw[show (b.take nb).length=nb by simp;omega]at hb0
  obtain⟨V,hV⟩:∃V,V=val (A.drop j):=⟨_,rfl⟩
  rw[←hV]at hsplit hVlt
  rw[←hsplit]at h3
  have hg:=zt0 (V:=V) (b:=val b) h3 hv0 h2 hb0 (by omega) hVlt
  obtain⟨p0,hp0⟩:∃p,p=j+b.length:=⟨_,rfl⟩
  obtain⟨p1,hp1⟩:∃p,p=j+(nb+1):=⟨_,rfl⟩
  obtain⟨p2,hp2⟩:∃p,p=j+nb:=⟨_,rfl⟩
  obtain⟨q1,hq1⟩:∃p,p=nb+1:=⟨_,rfl⟩
  have c1:p0<A.length:=by omega
  have c2:p1<A.length:=by omega
  have c3:p2<A.length:=by omega
  have c4:q1<b.length:=by omega
  have c5:nb<b.length:=by omega
  have e1:(A.drop j)[nb+2]'hDn=A[p0]'c1:=List.getElem_drop.trans (zk2 (by omega) _ _)
  have e2:(A.drop j)[nb+1]'(by omega)=A[p1]'c2:=List.getElem_drop.trans (zk2 (by omega) _ _)
  have e3:(A.drop j)[nb]'(by omega)=A[p2]'c3:=List.getElem_drop.trans (zk2 (by omega) _ _)
  have e4:b[nb+1]'(by omega)=b[q1]'c4:=zk2 (by omega) _ _
  rw[e1,e2,e3,e4]at hg
  rw[e4]at hb1
  have hgs:=zpq (T:=T) (A[p0]'c1).toNat (A[p1]'c2).toNat (A[p2]'c3).toNat (b[q1]'c4).toNat (b[nb]'c5).toNat (zam _) (zam _) (zam _) (zam _) (zam _) hb1
  obtain⟨x,hxd⟩:∃x,x=min 4294967295 ((((A[p0]'c1).toNat*4294967296+(A[p1]'c2).toNat)*4294967296+(A[p2]'c3).toNat)/((b[q1]'c4).toNat*4294967296+(b[nb]'c5).toNat)):=⟨_,rfl⟩
  rw[←hxd]at hg hgs
  have hx:x<4294967296:=by rw[hxd];exact Nat.lt_of_le_of_lt (Nat.min_le_left _ _) (by decide)
  clear hxd
  obtain⟨Bo,m1,hBo,hm1,hvm1,hct⟩:=zpy (T:=T) A b j x hx (by omega) (by omega)
  rw[hnb,show nb+2+1=nb+3 from rfl,←hsplit]at hvm1
  have hm1l:=za2 m1
  rw[hm1,hnb,show nb+2+1=nb+3 from rfl]at hm1l
  have hVp:V<4294967296^(nb+3):=by
   rw[Nat.pow_succ 4294967296 (nb+2)]
   generalize 4294967296^(nb+2)=p at *
   omega
  have hpk:=zs9 hbp hg.1 hg.2 hVp hm1l hBo hvm1
  have hql:V/val b<4294967296:=Nat.div_lt_of_lt_mul (by rw[Nat.mul_comm];exact hVlt)
  have hzb:val (A.drop (j+(b.length+1)))=0:=by rw[hnb];exact hz
  have htj:(A.take j).length=j:=by simp;omega
  have fin:∀m2:List UInt32,m2.length=b.length+1→val m2=V%val b →
    (A.take j++(m2++A.drop (j+(b.length+1)))).length=A0.length∧val ((A.take j++(m2++A.drop (j+(b.length+1)))).drop j)<val b ∧
    val A0=val (A.take j++(m2++A.drop (j+(b.length+1))))+4294967296^j*(val (w32 (V/val b)::m)*val b):=by
   intro m2 hm2 hvm2
   refine⟨by simp[hm2];omega,?_,?_⟩
   ·rw[List.drop_append_of_le_length (by omega),List.drop_of_length_le (by omega),List.nil_append,zak,hzb,Nat.mul_zero,Nat.add_zero,hvm2]
    exact Nat.mod_lt _ hbp
   ·have t1:val A=val (A.take j)+4294967296^j*V:=by rw[hV];exact zld A j (by omega)
    have t2:val (A.take j++(m2++A.drop (j+(b.length+1))))=val (A.take j)+4294967296^j*(V%val b):=by
     rw[zak,zak,hzb,Nat.mul_zero,Nat.add_zero,hvm2,htj]
    rw[zao,zae hql]
    exact zvo t1 t2 (Nat.div_add_mod V (val b)).symm hv
  clear hv hvm1 hsplit h3 h2 hg hbB hVlt hlt hzb hz hv0 hb0 hm1l hVp
  have hw1:IntKind.wrap .i64 ((j:Int)-1)=(j:Int)-1:=zac _ (by omega)
  have hw2:IntKind.wrap .i64 ((j:Int)+b.length)=((p0:Nat):Int):=by rw[zac _ (by omega)];omega
  have hw3:IntKind.wrap .i64 ((p0:Int)-1)=((p1:Nat):Int):=by rw[zac _ (by omega)];omega
  have hw4:IntKind.wrap .i64 ((p0:Int)-2)=((p2:Nat):Int):=by rw[zac _ (by omega)];omega
  have hw5:IntKind.wrap .i64 ((b.length:Int)-1)=((q1:Nat):Int):=by rw[zac _ (by omega)];omega
  have hw6:IntKind.wrap .i64 ((b.length:Int)-2)=((nb:Nat):Int):=by rw[zac _ (by omega)];omega
  have hj1:j<LQ:=by omega
  rw[hA]at hct
  have hml:(w32 (V/val b)::m).length=LQ-j:=by simp[hm];omega
  have hjb:j+b.length<A.length:=by omega
  have hnb3:nb+3=b.length+1:=by omega
  have d1:p0<A0.length:=by omega
  have d2:p1<A0.length:=by omega
  have d3:p2<A0.length:=by omega
  rcases Nat.eq_zero_or_pos Bo with h0 | h0
  ·obtain⟨hxq,hvm⟩:=hpk.1 h0
   subst h0
   subst hxq
   have hset:=zi9 (m:=m) (j:=j) (w32 (V/val b))
   obtain⟨f1,f2,f3⟩:=fin m1 hm1 hvm
   refine⟨(j,A.take j++(m1++A.drop (j+(b.length+1))),w32 (V/val b)::m),⟨Nat.le_of_lt hj1,f1,hml,f2,f3⟩,Nat.lt_succ_self j,?_⟩
   simp -implicitDefEqProofs[l93_0,stLg,hw1,hw2,hw3,hw4,hw5,hw6,c4,c5,d1,d2,d3,hA,hj1,hgs,hct,hset,zja,zba _ _ _ hx]
  ·have h1:Bo=1:=by omega
   obtain⟨hxq,hvm⟩:=hpk.2 h1
   subst h1
   have hset:=zi9 (m:=m) (j:=j) (w32 (V/val b))
   obtain⟨t1,t2,t3,t4⟩:=ztb (A:=A) hm1 hjb
   rw[hA]at t4
   obtain⟨D,m2,hD,hm2,hvm2,hcg⟩:=zpz (T:=T) (A.take j++(m1++A.drop (j+(b.length+1)))) b j (by rw[t4,←hA];exact hjb) (by rw[t4];exact hl)
   rw[t1,t2,t4]at hcg
   rw[t3]at hvm2
   have hm2l:=za2 m2
   rw[hm2]at hm2l
   have hVb:=Nat.mod_lt V hbp
   have hbq:val b<4294967296^(b.length+1):=Nat.lt_of_lt_of_le (za2 b) (Nat.pow_le_pow_right (by decide) (Nat.le_succ _))
   rw[hnb3]at hvm
   have hv2:=zta (Nat.lt_trans hVb hbq) hvm hm2l hD hvm2
   have hsx:=zpx hxq hx
   obtain⟨f1,f2,f3⟩:=fin m2 hm2 hv2
   refine⟨(j,A.take j++(m2++A.drop (j+(b.length+1))),w32 (V/val b)::m),⟨Nat.le_of_lt hj1,f1,hml,f2,f3⟩,Nat.lt_succ_self j,?_⟩
   simp -implicitDefEqProofs[l93_0,stLg,hw1,hw2,hw3,hw4,hw5,hw6,c4,c5,d1,d2,d3,hA,hj1,hgs,hct,hsx,hcg,hset,zja,zba _ _ _ hql]
end
section
variable{T:Tbl}[CNat T][CQuot T]
theorem ztd(A b:List UInt32)(LQ nb:Nat)(hnb:b.length=nb+2)(hb1:0<(b[nb+1]'(by omega)).toNat)(hl:A.length≤1000000)(hA:A.length=LQ+b.length)(hlt:val (A.drop LQ)<val b) :
  ∃Q R:List UInt32,Q.length=LQ∧R.length=A.length∧val Q=val A/val b∧val R=val A%val b ∧
   callH T 93 [.bs (.bor 0) 0 1 0 A.length,.sl (u32s b) .an] [(.bor 0,⟨0,.own,1,u32s A⟩)]=some (.bs (.loc 15) 3 1 0 LQ,[(.bor 0,⟨0,.own,1,u32s R⟩),(.loc 15,⟨3,.own,1,u32s Q⟩)]):=by
 obtain⟨_,⟨Q,R,rfl,hQ,hR,hq,hr⟩,hlp⟩:=zyx (T:=T) A b LQ nb hnb hb1 hl hA (LQ,A,[]) ⟨Nat.le_refl _,rfl,by simp,hlt,by simp⟩
 have hw:IntKind.wrap .i64 ((A.length:Int)-b.length)=(LQ:Int):=by rw[zac _ (by omega)];omega
 have hw1:IntKind.wrap .i64 ((LQ:Int)-1)=(LQ:Int)-1:=zac _ (by omega)
 have h1:(LQ:Int)≤4294967296:=by omega
 refine⟨Q,R,hQ,hR,hq,hr,?_⟩
 unfold stLg at hlp
 simp at hlp
 rw[f93 _ _ rfl,b93]
 simp -implicitDefEqProofs[hw,hw1,h1,hlp]
end
def b2071:AX:=
 (.seq
 (.reg [rg 2 (.mov (.c (.sl [] .nl)))])
 (.seq
 (.reg [mv 3 0,rg 4 (.call 86 [(.t 3)]),rg 5 (.call 2106 [(.t 4),(.c (.i .i64 0))]),mv 2 5])
 (.pre (.norm false [2]) .ret)))
def l2092_0:AX:=
 (.note
 (.seq
 (.reg [rg 27 (.bin .lss (.t 26) (.t 25))])
 (.seq
 (.cond (.t 27)
 .skip
 (.exit 0))
 (.seq
 (.block 1
 (.seq
 (.reg [mv 28 26,rg 29 (.iad 1 (.t 24) (.t 26)),rg 30 (.load none (.t 29)),mv 8 28,mv 9 30])
 (.seq
 (.reg [mv 31 9,rg 32 (.conv .u64 (.t 31)),mv 33 6,rg 34 (.bin .shl (.t 32) (.t 33)),mv 10 34])
 (.seq
 (.reg [mv 35 7,mv 36 5,mv 37 8,rg 38 (.bin .add (.t 36) (.t 37)),rg 39 (.iad 1 (.t 35) (.t 38)),rg 40 (.load none (.t 39)),mv 41 10,rg 42 (.conv .u32 (.t 41)),rg 43 (.bin .or (.t 40) (.t 42)),rg 44 (.iad 1 (.t 35) (.t 38)),so (.store 1 (.t 44) (.t 43))])
 (.reg [mv 45 7,mv 46 5,mv 47 8,rg 48 (.bin .add (.t 46) (.t 47)),rg 49 (.bin .add (.t 48) (.c (.i .i64 1))),mv 50 10,rg 51 (.bin .shr (.t 50) (.c (u64 32))),rg 52 (.conv .u32 (.t 51)),rg 53 (.iad 1 (.t 45) (.t 49)),so (.store 1 (.t 53) (.t 52))])))))
 (.reg [rg 54 (.bin .add (.t 26) (.c (.i .i64 1))),mv 26 54]))))
 (.norm false [5,6,7,24,25,26]))
def b2092:AX:=
 (.seq
 (.reg [rg 4 (.mov (.c (.sl [] .nl)))])
 (.seq
 (.reg [mv 11 1,rg 12 (.mm true [(.t 11),(.c (.i .i64 0))]),rg 13 (.mm false [(.t 12),(.c (.i .i64 4096))]),mv 1 13])
 (.seq
 (.reg [mv 14 1,rg 15 (.bin .quo (.t 14) (.c (.i .i64 32))),mv 16 1,rg 17 (.bin .rem (.t 16) (.c (.i .i64 32))),mv 5 15,mv 6 17])
 (.seq
 (.reg [mv 18 5,mv 19 0,rg 20 (.len (.t 19)),rg 21 (.bin .add (.t 18) (.t 20)),rg 22 (.bin .add (.t 21) (.c (.i .i64 1))),rg 23 (.mks 1 [(u32 0)] (.t 22) (.t 22)),mv 7 23])
 (.seq
 (.seq
 (.reg [mv 24 0,rg 25 (.len (.t 24)),rg 26 (.mov (.c (.i .i64 0)))])
 (.lp 0 (.norm false [5,6,7,24,25,26]) l2092_0 (.norm false [7])))
 (.seq
 (.reg [mv 55 7,rg 56 (.call 2071 [(.t 55)]),mv 4 56])
 (.pre (.norm false [4]) .ret)))))))
def b62:AX:=
 (.seq
 (.reg [rg 4 (.mov (.c (.sl [] .nl))),rg 5 (.mov (.c (.sl [] .nl))),rg 6 (.mov (.c (.b false)))])
 (.seq
 (.reg [mv 12 1,rg 13 (.call 71 [(.t 12)]),mv 1 13])
 (.seq
 (.block 0
 (.seq
 (.reg [mv 15 1,rg 16 (.len (.t 15)),rg 17 (.bin .eql (.t 16) (.c (.i .i64 0))),mv 14 17])
 (.cond (.t 14)
 (.seq
 (.reg [rg 4 (.mov (.c (.sl [] .nl))),rg 5 (.mov (.c (.sl [] .nl))),rg 6 (.mov (.c (.b false)))])
 (.pre (.norm false [4,5,6]) .ret))
 (.seq
 (.reg [mv 19 0,mv 20 1,rg 21 (.call 87 [(.t 19),(.t 20)]),rg 22 (.bin .lss (.t 21) (.c (.i .i64 0))),mv 18 22])
 (.cond (.t 18)
 (.seq
 (.reg [mv 23 0,rg 24 (.call 71 [(.t 23)]),rg 4 (.mov (.c (.sl [] .nl))),mv 5 24,rg 6 (.mov (.c (.b true)))])
 (.pre (.norm false [4,5,6]) .ret))
 (.seq
 (.reg [mv 26 1,rg 27 (.len (.t 26)),rg 28 (.bin .eql (.t 27) (.c (.i .i64 1))),mv 25 28])
 (.cond (.t 25)
 (.seq
 (.reg [mv 30 0,mv 31 1,rg 32 (.iad 1 (.t 31) (.c (.i .i64 0))),rg 33 (.load none (.t 32)),rg 34 (.call 90 [(.t 30),(.t 33)]),mv 29 34,rg 35 (.ext (.t 29) 0),rg 36 (.ext (.t 29) 1),rg 37 (.ext (.t 29) 2),mv 7 35,mv 8 36,mv 9 37])
 (.seq
 (.reg [mv 38 7,mv 39 8,rg 40 (.conv .u64 (.t 39)),rg 41 (.call 72 [(.t 40)]),mv 4 38,mv 5 41,rg 6 (.mov (.c (.b true)))])
 (.pre (.norm false [4,5,6]) .ret)))
 .skip)))))))
 (.seq
 (.reg [mv 42 1,mv 43 1,rg 44 (.len (.t 43)),rg 45 (.bin .sub (.t 44) (.c (.i .i64 1))),rg 46 (.iad 1 (.t 42) (.t 45)),rg 47 (.load none (.t 46)),rg 48 (.call 91 [(.t 47)]),rg 49 (.bin .sub (.c (.i .i64 32)) (.t 48)),mv 10 49])
 (.seq
 (.reg [mv 50 0,mv 51 10,rg 52 (.call 2092 [(.t 50),(.t 51)]),rg 53 (.bsl 1 [(u32 0)] 1 [(0,(.c (u32 0)))]),rg 54 (.app 1 (.t 52) (.t 53)),mv 11 54])
 (.seq
 (.reg [mv 55 11,mv 56 1,mv 57 10,rg 58 (.call 2092 [(.t 56),(.t 57)]),rg 59 (.call 93 [(.t 55),(.t 58)]),mv 4 59])
 (.seq
 (.reg [mv 60 4,rg 61 (.call 71 [(.t 60)]),mv 62 11,mv 63 10,rg 64 (.call 94 [(.t 62),(.t 63)]),mv 4 61,mv 5 64,rg 6 (.mov (.c (.b true)))])
 (.pre (.norm false [4,5,6]) .ret))))))))
class CQuotD (T:Tbl):Prop where
 h2071:T 2071=some ⟨1,6,[.t 2],b2071,(some [false]),false⟩
 h2092:T 2092=some ⟨2,57,[.t 4],b2092,(some [false,false]),false⟩
 h62:T 62=some ⟨2,65,[.t 4,.t 5,.t 6],b62,none,false⟩
section
variable{T:Tbl}[CQuotD T]{d:Option Nat}{st:St}
@[simp] theorem x2071(xs:List AV):callX (orc T) T 2071 xs d st=bL (frzM st.heap [false] xs) fun ys=>lentX ys (shareIds (refsM [false] xs) st.heap) (reach (shareIds (refsM [false] xs) st.heap) 40 (rootsM [false] xs) []) T 2071 false d st:=zat CQuotD.h2071
theorem f2071(xs:List AV)(hb:Heap)(hn:xs.length=1):callH T 2071 xs hb=retH [.t 2] false hb.length (evX (orc T) T hb.length b2071 ⟨argEnv xs,hb,hb.length+1⟩):=zbo CQuotD.h2071 hn
@[simp] theorem x2092(xs:List AV):callX (orc T) T 2092 xs d st=bL (frzM st.heap [false,false] xs) fun ys=>lentX ys (shareIds (refsM [false,false] xs) st.heap) (reach (shareIds (refsM [false,false] xs) st.heap) 40 (rootsM [false,false] xs) []) T 2092 false d st:=zat CQuotD.h2092
theorem f2092(xs:List AV)(hb:Heap)(hn:xs.length=2):callH T 2092 xs hb=retH [.t 4] false hb.length (evX (orc T) T hb.length b2092 ⟨argEnv xs,hb,hb.length+1⟩):=zbo CQuotD.h2092 hn
@[simp] theorem x62(xs:List AV):callX (orc T) T 62 xs d st=cP T 62 false xs d st:=zaa CQuotD.h62
theorem f62(xs:List AV)(hn:xs.length=2):callF T 62 xs=retF [.t 4,.t 5,.t 6] false (evX (orc T) T 0 b62 ⟨argEnv xs,[],1⟩):=zab CQuotD.h62 hn
end
theorem zy2(x:Nat):x<2^blen x:=by
 unfold blen
 split
 ·subst x;decide
 ·exact Nat.lt_log2_self
theorem ztl{x:Nat}(h:x<4294967296):blen x≤32:=by
 unfold blen
 split
 ·omega
 ·rename_i h0
  have:=(Nat.log2_lt h0 (k:=32)).2 (by simpa using h)
  omega
theorem zw5{n k:Nat}(h:(ofN n).length=k+1):4294967296^k≤n:=by
 rcases Nat.lt_or_ge n (4294967296^k) with h1 | h1
 ·have:=zaq h1
  omega
 ·exact h1
theorem z35{b:List UInt32}{nb:Nat}(h:b.length=nb+2)(hb:b=ofN (val b)) :
  (ofN (val b*2^(32-blen (b[nb+1]'(by omega)).toNat))).length=nb+2:=by
 have hl:=ztl (zam (b[nb+1]'(by omega)))
 have hs:=zy2 (b[nb+1]'(by omega)).toNat
 have h1:val b=val (b.take (nb+1))+4294967296^(nb+1)*(b[nb+1]'(by omega)).toNat:=by
  have:=zad (List.getElem?_eq_getElem (show nb+1<b.length by omega))
  rwa [za8 (by omega)]at this
 have h2:=za2 (b.take (nb+1))
 rw[show (b.take (nb+1)).length=nb+1 by simp;omega]at h2
 generalize (b[nb+1]'(by omega)).toNat=t at *
 refine Nat.le_antisymm (zaq ?_) ?_
 ·have h3:val b<4294967296^(nb+1)*2^blen t:=by
   have:4294967296^(nb+1)*(t+1)≤4294967296^(nb+1)*2^blen t:=Nat.mul_le_mul_left _ hs
   rw[Nat.mul_add,Nat.mul_one]at this
   omega
  have h4:2^blen t*2^(32-blen t)=4294967296:=by
   rw[←Nat.pow_add,show blen t+(32-blen t)=32 by omega]
  have h5:=Nat.mul_lt_mul_of_pos_right h3 (Nat.pow_pos (n:=32-blen t) (show 0<2 by decide))
  rw[Nat.mul_assoc,h4,←Nat.pow_succ]at h5
  exact h5
 ·have h3:val b≤val b*2^(32-blen t):=Nat.le_mul_of_pos_right _ (Nat.pow_pos (by decide))
  have:=za0 h3
  rw[←hb]at this
  omega
theorem zy3{b:List UInt32}{nb:Nat}(h:b.length=nb+2)(hb:b=ofN (val b)):0<(b[nb+1]'(by omega)).toNat:=by
 have h1:val b=val (b.take (nb+1))+4294967296^(nb+1)*(b[nb+1]'(by omega)).toNat:=by
  have:=zad (List.getElem?_eq_getElem (show nb+1<b.length by omega))
  rwa [za8 (by omega)]at this
 have h2:=za2 (b.take (nb+1))
 rw[show (b.take (nb+1)).length=nb+1 by simp;omega]at h2
 have h3:4294967296^(nb+1)≤val b:=zw5 (by rw[←hb];omega)
 rcases Nat.eq_zero_or_pos (b[nb+1]'(by omega)).toNat with h0 | h0
 ·rw[h0,Nat.mul_zero]at h1
  omega
 ·exact h0
theorem zg0(l:List UInt32):val (l++[0])=val l:=by rw[zak];simp
theorem z36{A b:List UInt32}{nb L:Nat}(hA:(A++[0]).length=L+b.length)(hb:b.length=nb+2)(hbo:b=ofN (val b)):val ((A++[0]).drop L)<val b:=by
 have hl:L≤A.length:=by simp at hA;omega
 rw[List.drop_append_of_le_length hl,zg0]
 have h1:=za2 (A.drop L)
 have h2:(A.drop L).length=nb+1:=by simp at hA ⊢;omega
 rw[h2]at h1
 exact Nat.lt_of_lt_of_le h1 (zw5 (by rw[←hbo];omega))
section
variable{T:Tbl}[CNat T][CQuotD T]
theorem zk8(a:List UInt32)(hl:a.length≤1000000):callH T 2071 [.sl (u32s a) .an] [] =
  some (.bs (.fld (.loc 5) 10) 1 1 0 (ofN (val a)).length,[(.fld (.loc 5) 10,⟨1,.own,1,u32s (ofN (val a))⟩)]):=by
 have h1:=zaf a
 have h2:=zcc (T:=T) (ofN (val a)) 0 (by omega)
 simp only[Int.natCast_zero,Nat.add_zero,List.replicate_zero,List.append_nil]at h2
 rw[f2071 _ _ rfl,b2071]
 simp -implicitDefEqProofs[zbb a (by omega),h2]
end
section
variable{T:Tbl}[CNat T][CQuotD T]
theorem zg1(a:List UInt32)(n:Nat)(hn:n≤4096)(hl:a.length≤100000):callH T 2092 [.sl (u32s a) .an,.i .i64 n] [] =
  some (.bs (.fld (.fld (.loc 56) 0) 6010) 1 1 0 (ofN (val a*2^n)).length,[(.fld (.fld (.loc 56) 0) 6010,⟨1,.own,1,u32s (ofN (val a*2^n))⟩)]):=by
 obtain⟨_,⟨c,m,rfl,hm,hc,hv⟩,hr⟩:=zza (T:=T) (List.replicate (n/32) 0) a (n%32) (Nat.mod_lt _ (by decide)) (by simp;omega) (0,0,[]) ⟨Nat.zero_le _,Nat.pow_pos (by decide),rfl,by simp⟩
 have hc32:c<4294967296:=Nat.lt_of_lt_of_le hc (by
  have:2^(n%32)≤2^32:=Nat.pow_le_pow_right (by decide) (by omega)
  simpa using this)
 have hval:val (List.replicate (n/32) 0++(m++[w32 c]))=val a*2^n:=by
  rw[zak,zdb,List.length_replicate,zak,hm]
  simp only[zao,zby,Nat.mul_zero,Nat.add_zero,zae hc32,Nat.zero_add]
  rw[hv,zzd,←Nat.mul_assoc,←Nat.pow_add,show 32*(n/32)+n%32=n by omega,Nat.mul_comm]
 have hlen:(List.replicate (n/32) 0++(m++[w32 c])).length=n/32+a.length+1:=by simp[hm];omega
 have hnm:=zk8 (T:=T) (List.replicate (n/32) 0++(m++[w32 c])) (by omega)
 rw[hval]at hnm
 rw[show l92_0=l2092_0 from rfl]at hr
 unfold stUp at hr
 generalize List.replicate (n/32) 0++(m++[w32 c])=Q at *
 simp at hr
 have hz:List.replicate (n/32) (0:UInt32)++w32 0::List.replicate a.length 0=List.replicate (n/32+a.length+1) 0:=by
  have:w32 0=0:=rfl
  rw[this,←List.replicate_succ,List.replicate_append_replicate,Nat.add_assoc]
 rw[hz]at hr
 have hn2:¬ (4096:Int)<(n:Int):=by omega
 have hq:(n:Int).tdiv 32=(n:Int)/32:=Int.tdiv_eq_ediv_of_nonneg (by omega)
 have hm2:(n:Int).tmod 32=(n:Int)%32:=Int.tmod_eq_emod_of_nonneg (by omega)
 have w1:IntKind.wrap .i64 ((n:Int)/32)=(n:Int)/32:=zac (n/32) (by omega)
 have w2:IntKind.wrap .i64 ((n:Int)/32+a.length)=(n:Int)/32+a.length:=zac _ (by omega)
 have w3:IntKind.wrap .i64 ((n:Int)/32+a.length+1)=(n:Int)/32+a.length+1:=zac _ (by omega)
 have p1:(0:Int)≤(n:Int)/32+a.length+1:=by omega
 have p2:(n:Int)/32+a.length+1≤4294967296:=by omega
 have p3:((n:Int)/32+a.length+1).toNat=n/32+a.length+1:=by omega
 have htk:List.take (n/32+a.length+1) Q=Q:=List.take_of_length_le (by omega)
 rw[f2092 _ _ rfl,b2092]
 simp -implicitDefEqProofs[hn2,hq,hm2,w1,w2,w3,p1,p2,p3,hr,hnm,htk,hlen]
end
section
variable{T:Tbl}[CNat T][CTwos T][CProd T][CQuot T][CQuotD T]
theorem zeu(a b:List UInt32)(ha:a.length≤90000)(hb:b.length≤90000):callF T 62 [.sl (u32s a) .an,.sl (u32s b) .an] =
  some (if val b=0 then .tup [.sl [] .an,.sl [] .an,.b false] else .tup [.sl (u32s (ofN (val a/val b))) .an,.sl (u32s (ofN (val a%val b))) .an,.b true]):=by
 have hnb:=zbc (T:=T) b (by omega)
 have hna:=zbc (T:=T) a (by omega)
 have hlb:=zaf b
 have hla:=zaf a
 have hcmp:=zgz (T:=T) a (ofN (val b)) (by omega) (by omega)
 rw[zaj]at hcmp
 rw[f62 _ rfl,b62]
 by_cases h0:val b=0
 ·rw[h0]at hnb
  simp -implicitDefEqProofs[hnb,h0]
 ·have h0':ofN (val b)≠[]:=fun h=>h0 (zbz.1 h)
  have hl0:(ofN (val b)).length≠0:=fun h=>h0' (List.eq_nil_of_length_eq_zero h)
  by_cases hlt:val a<val b
  ·have hd:=Nat.div_eq_of_lt hlt
   have hm:=Nat.mod_eq_of_lt hlt
   simp -implicitDefEqProofs[hnb,h0,hl0,hcmp,zc9,hlt,hna,hd,hm]
  ·rcases Nat.lt_or_ge 1 (ofN (val b)).length with h1 | h1
   ·obtain⟨b',hb'⟩:∃b',b'=ofN (val b):=⟨_,rfl⟩
    have hvb:val b'=val b:=by rw[hb',zaj]
    have hbo:b'=ofN (val b'):=by rw[hvb,hb']
    rw[←hb']at hnb hcmp hl0 h1 hlb
    obtain⟨nb,hnbl⟩:∃nb,b'.length=nb+2:=⟨b'.length-2,by omega⟩
    have hll:=zvn (T:=T) (b'[nb+1]'(by omega))
    have hbl:=ztl (zam (b'[nb+1]'(by omega)))
    have hup:=z35 hnbl hbo
    obtain⟨s,hs⟩:∃s,s=32-blen (b'[nb+1]'(by omega)).toNat:=⟨_,rfl⟩
    obtain⟨l,hll2⟩:∃l,l=blen (b'[nb+1]'(by omega)).toNat:=⟨_,rfl⟩
    rw[←hs]at hup
    rw[←hll2]at hll hs hbl
    obtain⟨B,hB⟩:∃B,B=ofN (val b'*2^s):=⟨_,rfl⟩
    obtain⟨A,hA⟩:∃A,A=ofN (val a*2^s):=⟨_,rfl⟩
    have hua:=zg1 (T:=T) a s (by omega) (by omega)
    have hub:=zg1 (T:=T) b' s (by omega) (by omega)
    rw[←hA]at hua
    rw[←hB]at hub hup
    have hBo:B=ofN (val B):=by rw[hB,zaj]
    have hvA:val A=val a*2^s:=by rw[hA,zaj]
    have hvB:val B=val b'*2^s:=by rw[hB,zaj]
    have hAB:B.length≤A.length:=by
     rw[hA,hB]
     exact za0 (Nat.mul_le_mul_right _ (by omega))
    have hAl:A.length≤a.length+1:=by
     rw[hA]
     refine zaq ?_
     have h2:2^s≤2^32:=Nat.pow_le_pow_right (by decide) (by omega)
     rw[Nat.pow_succ]
     exact Nat.lt_of_le_of_lt (Nat.mul_le_mul_left _ h2) (Nat.mul_lt_mul_of_pos_right (za2 a) (by decide))
    have hpos:=zy3 (hup) hBo
    obtain⟨Q,R,hQ,hR,hvQ,hvR,hlong⟩:=ztd (T:=T) (A++[0]) B (A.length+1-B.length) nb hup hpos (by simp;omega) (by simp;omega) (z36 (by simp;omega) hup hBo)
    rw[zg0,hvA,hvB,hvb,Nat.mul_div_mul_right _ _ (Nat.pow_pos (by decide))]at hvQ
    rw[zg0,hvA,hvB,hvb,Nat.mul_mod_mul_right]at hvR
    have hnq:=zbc (T:=T) Q (by omega)
    have hAl1:(A++[(0:UInt32)]).length=A.length+1:=by simp
    rw[hAl1]at hlong hR
    have hdn:=ztv (T:=T) R s (by omega) (by omega)
    rw[hvR,Nat.mul_div_cancel _ (Nat.pow_pos (by decide))]at hdn
    rw[hvQ]at hnq
    obtain⟨q1,hq1⟩:∃p,p=nb+1:=⟨_,rfl⟩
    have c1:q1<b'.length:=by omega
    have hwt:b'[nb+1]'(by omega)=b'[q1]'c1:=zk2 (by omega) _ _
    rw[hwt]at hll
    have w1:IntKind.wrap .i64 ((b'.length:Int)-1)=(q1:Int):=by rw[zac _ (by omega)];omega
    have w2:IntKind.wrap .i64 (32-(l:Int))=(s:Int):=by rw[zac _ (by omega)];omega
    have c3:A.length≤4294967295:=by omega
    have c4:w32 0=0:=rfl
    have c5:A.length+1≤A.length+1-B.length+B.length:=by omega
    have c2:¬ ((b'.length:Int)=1):=by omega
    have t1:List.take (A.length+1) R=R:=List.take_of_length_le (by omega)
    have t2:List.take (A.length+1-B.length) Q=Q:=List.take_of_length_le (by omega)
    simp -implicitDefEqProofs[hnb,h0,hl0,hcmp,zc9,hlt,w1,w2,c1,c2,c3,c4,c5,hll,hua,hub,hlong,hnq,hdn,t1,t2,hQ,hR]
   ·have hl1:(ofN (val b)).length=1:=by omega
    obtain⟨w,hw⟩:=List.length_eq_one_iff.1 hl1
    have hvb:val b=w.toNat:=by
     have:=zaj (val b)
     rw[hw]at this
     simp at this
     omega
    have hwl:=zam w
    have hwd:=zk5 (T:=T) a (val b) (by omega) (by omega) (by omega)
    have hof:=ztg (T:=T) (val a%val b) (by have:=Nat.mod_lt (val a) (show 0<val b by omega);omega)
    have m1:val a%val b%18446744073709551616=val a%val b:=Nat.mod_eq_of_lt (by have:=Nat.mod_lt (val a) (show 0<val b by omega);omega)
    rw[hw]at hnb hcmp
    rw[←hvb]at hwl
    simp -implicitDefEqProofs[hnb,h0,hcmp,zc9,hlt,hwd,←hvb,hof,m1]
end
def digs(n:Nat):List UInt8:=if h:n<10 then [UInt8.ofNat (48+n)] else UInt8.ofNat (48+n%10)::digs (n/10)
termination_by n
decreasing_by omega
def textN(n:Nat):List UInt8:=(digs n).reverse
def wordOf:List AV→Option UInt32
 | [.i .u32 n]=>if 0≤n∧n<4294967296 then some (w32 n.toNat) else none
 | _=>none
def prim68:List AV→Option AV
 | [.sl els .an]=>if els.length≤1000 then (els.mapM wordOf).map fun l=>.s (textN (val l)) else none
 | _=>none
theorem zqj(l:List UInt32):(u32s l).mapM wordOf=some l:=by
 induction l with
 | nil=>rfl
 | cons x l ih=>
  have hx:=zam x
  have h1:wordOf [u32 x.toNat]=some x:=by
   unfold wordOf u32
   simp only
   rw[if_pos ⟨by omega,by omega⟩]
   simp
  have e:u32s (x::l)=[u32 x.toNat]::u32s l:=rfl
  rw[e,List.mapM_cons,h1,ih]
  rfl
theorem zg5(a:List UInt32)(h:a.length≤1000):prim68 [.sl (u32s a) .an]=some (.s (textN (val a))):=by
 unfold prim68
 simp only[zgr,h,if_true,zqj,Option.map_some]
def wrAt:Nat→List UInt8→Int
 | _,[]=>-1
 | k,c::r=>if c.toNat<48∨57<c.toNat∨k=60 then k else wrAt (k+1) r
def wrongI(l:List UInt8):Int:=if l=[] then 0 else wrAt 0 l
def rd(l:List UInt8):Nat:=l.foldl (fun n c=>n*10+(c.toNat-48)) 0
theorem zzg(l:List UInt8):∀n,l.foldl (fun n c=>n*10+(c.toNat-48)) n=n*10^l.length+rd l:=by
 induction l with
 | nil=>intro n;simp[rd]
 | cons c l ih=>
  intro n
  simp only[List.foldl_cons,List.length_cons,rd]
  rw[ih,ih (0*10+(c.toNat-48)),Nat.pow_succ]
  grind
theorem zt1(a b:List UInt8):rd (a++b)=rd a*10^b.length+rd b:=by
 unfold rd
 rw[List.foldl_append,zzg]
 rfl
theorem zzh(a:List UInt8)(c:UInt8):rd (a++[c])=rd a*10+(c.toNat-48):=by
 rw[zt1];simp[rd]
theorem zig{n:Nat}(h:n<10):digs n=[UInt8.ofNat (48+n)]:=by rw[digs,dif_pos h]
theorem zoc{n:Nat}(h:¬ n<10):digs n=UInt8.ofNat (48+n%10)::digs (n/10):=by rw[digs,dif_neg h]
theorem zd9{n:Nat}(h:n<10):textN n=[UInt8.ofNat (48+n)]:=by rw[textN,zig h];rfl
theorem zle{n:Nat}(h:¬ n<10):textN n=textN (n/10)++[UInt8.ofNat (48+n%10)]:=by rw[textN,zoc h];simp[textN]
def txN(n:Nat)(s:List UInt8):List UInt8:=if n=0∧s≠[] then s else textN n++s
def digK:Nat→Nat→List UInt8
 | 0,_=>[]
 | k+1,x=>digK k (x/10)++[UInt8.ofNat (48+x%10)]
def u8c(l:List UInt8):List AV:=l.map fun b=>u8 b.toNat
@[simp] theorem z1h(l:List UInt8):(u8c l).length=l.length:=by simp[u8c]
@[simp] theorem zafv(l:List UInt8):(u8c l).flatMap rfC=[]:=by induction l with | nil=>rfl | cons x l ih=>simp[u8c]
@[simp] theorem zacz{σn:BId→BId}{σg:Nat→Nat}(l:List UInt8):(u8c l).map (fun c=>rlC σn σg (wkA c))=u8c l:=by induction l with | nil=>rfl | cons x l ih=>simp[u8c]
@[simp] theorem zv9(l:List UInt8):(u8c l).all pureC=true:=by induction l with | nil=>rfl | cons x l ih=>simp[u8c]
@[simp] theorem z4b(l:List UInt8):(∀x,x∈u8c l→pureC x=true)=True:=by
 have:=zv9 l
 rw[List.all_eq_true]at this
 simpa using this
theorem zzi{l:List UInt8}{j d:Nat}(h:d<256)(hj:j<l.length):(u8c l).take j++u8 d::(u8c l).drop (j+1)=u8c (l.set j (UInt8.ofNat d)):=by
 rw[List.set_eq_take_append_cons_drop,if_pos hj]
 simp[u8c,List.map_take,List.map_drop,Nat.mod_eq_of_lt h]
theorem zea:∀k x,(digK k x).length=k
 | 0,_=>rfl
 | k+1,x=>by simp[digK,zea k]
theorem zg6(x:Nat):digK 0 x=[]:=rfl
theorem zdr(k x:Nat):digK (k+1) x=digK k (x/10)++[UInt8.ofNat (48+x%10)]:=rfl
theorem zwa{m:List UInt8}{j:Nat}(w:UInt8):(List.replicate (j+1) 0++m).set j w=List.replicate j 0++w::m:=by
 rw[List.set_append_left j w (by simp),List.replicate_succ',List.set_append_right j w (by simp)]
 simp
theorem zwb(m:List UInt8):((u8c m).map fun c=>[c]).mapM byteOfRow=some m:=by
 induction m with
 | nil=>rfl
 | cons b m ih=>
  have e:((u8c (b::m)).map fun c=>[c])=[u8 b.toNat]::((u8c m).map fun c=>[c]):=rfl
  rw[e,List.mapM_cons,ih]
  simp[byteOfRow,u8]
def l101_0:AX:=
 (.note
 (.seq
 (.seq
 (.reg [mv 5 4,rg 6 (.bin .geq (.t 5) (.c (.i .i64 0)))])
 (.cond (.t 6)
 .skip
 (.exit 0)))
 (.seq
 (.block 1
 (.seq
 (.reg [mv 9 4,mv 10 0,rg 11 (.bin .rem (.t 10) (.c (u32 10))),rg 12 (.bin .add (.c (u32 48)) (.t 11)),rg 13 (.conv .u8 (.t 12)),rg 14 (.iaa 1 9 (.t 3) (.t 9)),so (.store 1 (.t 14) (.t 13))])
 (.reg [mv 15 0,rg 16 (.bin .quo (.t 15) (.c (u32 10))),mv 0 16])))
 (.reg [mv 7 4,rg 8 (.bin .sub (.t 7) (.c (.i .i64 1))),mv 4 8])))
 (.norm false [0,3,4]))
def b101:AX:=
 (.seq
 (.reg [rg 2 (.mov (.c (.s [])))])
 (.seq
 (.reg [rg 3 (.alloc [(u8 0),(u8 0),(u8 0),(u8 0),(u8 0),(u8 0),(u8 0),(u8 0),(u8 0)])])
 (.seq
 (.seq
 (.reg [rg 4 (.mov (.c (.i .i64 8)))])
 (.lp 0 (.norm false [0,3,4]) l101_0 (.norm false [3])))
 (.seq
 (.reg [rg 17 (.xop (.arsl 9) [(.t 3)]),rg 18 (.xop .bstr [(.t 17)]),mv 2 18])
 (.pre (.norm false [2]) .ret)))))
class CDigits (T:Tbl):Prop where
 h101:T 101=some ⟨1,19,[.t 2],b101,none,false⟩
section
variable{T:Tbl}[CDigits T]{d:Option Nat}{st:St}
@[simp] theorem x101(xs:List AV):callX (orc T) T 101 xs d st=cP T 101 false xs d st:=zaa CDigits.h101
theorem f101(xs:List AV)(hn:xs.length=1):callF T 101 xs=retF [.t 2] false (evX (orc T) T 0 b101 ⟨argEnv xs,[],1⟩):=zab CDigits.h101 hn
end
class CText (T:Tbl):Prop where
 h68:T 68=some ⟨0,0,[],.prim prim68,none,false⟩
section
variable{T:Tbl}[CText T]{d:Option Nat}{st:St}
@[simp] theorem x68(xs:List AV):callX (orc T) T 68 xs d st=cP T 68 false xs d st:=zaa CText.h68
theorem p68(xs:List AV):callF T 68 xs=prim68 xs:=zh5 CText.h68
end
def b103:AX:=
 (.seq
 (.reg [rg 4 (.mov (.c (.s [])))])
 (.seq
 (.seq
 (.reg [mv 7 0,rg 8 (.bin .eql (.t 7) (.c (.s []))),mv 9 8,gd 10 9 false (.mov (.t 1)),gd 11 9 false (.bin .eql (.t 10) (.c (.s []))),rg 12 (.pick (.t 9) (.c (.b true)) (.t 11))])
 (.cond (.t 12)
 (.seq
 (.reg [mv 13 0,mv 4 13])
 (.pre (.norm false [4]) .ret))
 .skip))
 (.seq
 (.seq
 (.reg [mv 14 1,rg 15 (.lens (.t 14)),rg 16 (.bin .eql (.t 15) (.c (.i .i64 1))),mv 17 16,gd 18 17 true (.mov (.t 1)),gd 19 17 true (.ixs (.t 18) (.c (.i .i64 0))),gd 20 17 true (.bin .lss (.t 19) (.c (u8 128))),rg 21 (.pick (.t 17) (.t 20) (.c (.b false)))])
 (.cond (.t 21)
 (.seq
 (.reg [mv 22 0,mv 23 1,rg 24 (.ixs (.t 23) (.c (.i .i64 0))),rg 25 (.call 125 [(.t 22),(.t 24)]),mv 4 25])
 (.pre (.norm false [4]) .ret))
 .skip))
 (.seq
 (.seq
 (.reg [mv 27 1,rg 28 (.call 126 [(.t 27)]),mv 26 28,rg 29 (.ext (.t 26) 0),rg 30 (.ext (.t 26) 1),rg 5 (.alloc [(.b false),(.b false),(.b false),(.b false),(.b false),(.b false),(.b false),(.b false),(.b false),(.b false),(.b false),(.b false),(.b false),(.b false),(.b false),(.b false),(.b false),(.b false),(.b false),(.b false),(.b false),(.b false),(.b false),(.b false),(.b false),(.b false),(.b false),(.b false),(.b false),(.b false),(.b false),(.b false),(.b false),(.b false),(.b false),(.b false),(.b false),(.b false),(.b false),(.b false),(.b false),(.b false),(.b false),(.b false),(.b false),(.b false),(.b false),(.b false),(.b false),(.b false),(.b false),(.b false),(.b false),(.b false),(.b false),(.b false),(.b false),(.b false),(.b false),(.b false),(.b false),(.b false),(.b false),(.b false),(.b false),(.b false),(.b false),(.b false),(.b false),(.b false),(.b false),(.b false),(.b false),(.b false),(.b false),(.b false),(.b false),(.b false),(.b false),(.b false),(.b false),(.b false),(.b false),(.b false),(.b false),(.b false),(.b false),(.b false),(.b false),(.b false),(.b false),(.b false),(.b false),(.b false),(.b false),(.b false),(.b false),(.b false),(.b false),(.b false),(.b false),(.b false),(.b false),(.b false),(.b false),(.b false),(.b false),(.b false),(.b false),(.b false),(.b false),(.b false),(.b false),(.b false),(.b false),(.b false),(.b false),(.b false),(.b false),(.b false),(.b false),(.b false),(.b false),(.b false),(.b false),(.b false),(.b false),(.b false),(.b false),(.b false),(.b false),(.b false),(.b false),(.b false),(.b false),(.b false),(.b false),(.b false),(.b false),(.b false),(.b false),(.b false),(.b false),(.b false),(.b false),(.b false),(.b false),(.b false),(.b false),(.b false),(.b false),(.b false),(.b false),(.b false),(.b false),(.b false),(.b false),(.b false),(.b false),(.b false),(.b false),(.b false),(.b false),(.b false),(.b false),(.b false),(.b false),(.b false),(.b false),(.b false),(.b false),(.b false),(.b false),(.b false),(.b false),(.b false),(.b false),(.b false),(.b false),(.b false),(.b false),(.b false),(.b false),(.b false),(.b false),(.b false),(.b false),(.b false),(.b false),(.b false),(.b false),(.b false),(.b false),(.b false),(.b false),(.b false),(.b false),(.b false),(.b false),(.b false),(.b false),(.b false),(.b false),(.b false),(.b false),(.b false),(.b false),(.b false),(.b false),(.b false),(.b false),(.b false),(.b false),(.b false),(.b false),(.b false),(.b false),(.b false),(.b false),(.b false),(.b false),(.b false),(.b false),(.b false),(.b false),(.b false),(.b false),(.b false),(.b false),(.b false),(.b false),(.b false),(.b false),(.b false),(.b false),(.b false),(.b false),(.b false),(.b false),(.b false),(.b false),(.b false),(.b false),(.b false),(.b false),(.b false),(.b false),(.b false),(.b false),(.b false),(.b false),(.b false),(.b false),(.b false),(.b false),(.b false)]),so (.store 256 (.t 5) (.t 29)),mv 6 30])
 (.seq
 (.reg [mv 31 6])
 (.cond (.t 31)
 (.seq
 (.reg [mv 32 0,rg 33 (.call 127 [(.t 32),(.t 5)]),mv 4 33])
 (.pre (.norm false [4]) .ret))
 .skip)))
 (.seq
 (.reg [mv 34 0,mv 35 1,rg 36 (.call 128 [(.t 34),(.t 35)]),mv 4 36])
 (.pre (.norm false [4]) .ret))))))
def l125_0:AX:=
 (.note
 (.seq
 (.seq
 (.reg [mv 5 0,rg 6 (.lens (.t 5)),rg 7 (.bin .gtr (.t 6) (.c (.i .i64 0))),mv 8 7,gd 9 8 true (.mov (.t 0)),gd 10 8 true (.ixs (.t 9) (.c (.i .i64 0))),gd 11 8 true (.mov (.t 1)),gd 12 8 true (.bin .eql (.t 10) (.t 11)),rg 13 (.pick (.t 8) (.t 12) (.c (.b false)))])
 (.cond (.t 13)
 .skip
 (.exit 0)))
 (.block 1
 (.reg [mv 14 0,rg 15 (.slstr (.t 14) (some (.c (.i .i64 1))) none),mv 0 15])))
 (.norm false [0,1]))
def b125:AX:=
 (.seq
 (.reg [rg 4 (.mov (.c (.s [])))])
 (.seq
 (.lp 0 (.norm false [0,1]) l125_0 (.norm false [0]))
 (.seq
 (.reg [mv 16 0,mv 4 16])
 (.pre (.norm false [4]) .ret))))
class CTrim (T:Tbl):Prop where
 h103:T 103=some ⟨2,37,[.t 4],b103,none,false⟩
 h125:T 125=some ⟨2,17,[.t 4],b125,none,false⟩
section
variable{T:Tbl}[CTrim T]{d:Option Nat}{st:St}
theorem f103(xs:List AV)(hn:xs.length=2):callF T 103 xs=retF [.t 4] false (evX (orc T) T 0 b103 ⟨argEnv xs,[],1⟩):=zab CTrim.h103 hn
@[simp] theorem x125(xs:List AV):callX (orc T) T 125 xs d st=cP T 125 false xs d st:=zaa CTrim.h125
theorem f125(xs:List AV)(hn:xs.length=2):callF T 125 xs=retF [.t 4] false (evX (orc T) T 0 b125 ⟨argEnv xs,[],1⟩):=zab CTrim.h125 hn
end
class CRef02 (T:Tbl):Prop where
section
variable{T:Tbl}[CRef02 T]
def atW(a:List UInt32)(i:Nat):Nat:=(a[i]?.map UInt32.toNat).getD 0
end
section
variable{T:Tbl}[CRef02 T]
def stAdd2(a b:List UInt32)(n:Nat)(y:Nat×Nat×List UInt32):St:=
 ⟨[(0,.sl (u32s a) .an),(1,.sl (u32s b) .an),(5,.i .i64 n),(6,.bs (.loc 16) 1 1 0 n),(7,u64 y.2.1),(8,.i .i64 y.1)],[(.loc 16,⟨1,.own,1,u32s y.2.2⟩)],3⟩
def stSub2(a b:List UInt32)(n:Nat)(y:Nat×Nat×List UInt32):St:=
 ⟨[(0,.sl (u32s a) .an),(1,.sl (u32s b) .an),(5,.i .i64 n),(6,.bs (.loc 17) 1 1 0 n),(7,u64 y.2.1),(8,.i .i64 y.1)],[(.loc 17,⟨1,.own,1,u32s y.2.2⟩)],3⟩
end
class CRef04 (T:Tbl):Prop extends CRef02 T where
section
variable{T:Tbl}[CRef04 T]
def stIn4(P S a b:List UInt32)(y:Nat×Nat×List UInt32):St:=
 ⟨[(0,.sl (u32s a) .an),(1,.sl (u32s b) .an),(5,.bs (.loc 14) 1 1 0 (P.length+S.length)),(6,.i .i64 P.length),(7,u64 y.2.1),(8,.i .i64 y.1)],[(.loc 14,⟨1,.own,1,u32s (P++(y.2.2++S.drop y.1))⟩)],3⟩
end
section
variable{T:Tbl}[CRef04 T]
def stMul4(a b:List UInt32)(y:Nat×List UInt32):St:=
 ⟨[(0,.sl (u32s a) .an),(1,.sl (u32s b) .an),(5,.bs (.loc 14) 1 1 0 (a.length+b.length)),(6,.i .i64 y.1)],[(.loc 14,⟨1,.own,1,u32s (y.2++List.replicate (a.length-y.1) 0)⟩)],3⟩
end
class CRef05 (T:Tbl):Prop extends CRef04 T where
section
variable{T:Tbl}[CRef05 T]
def stDb(a:List UInt32)(y:Nat×Nat×List UInt32):St:=
 ⟨[(0,.bs (.bor 0) 0 1 0 a.length),(4,u32 y.2.1),(5,.i .i64 y.1)],[(.bor 0,⟨0,.own,1,u32s (y.2.2++a.drop y.1)⟩)],4⟩
end
section
variable{T:Tbl}[CRef05 T]
def stLs(a b:List UInt32)(y:Nat×Nat×List UInt32):St:=
 ⟨[(0,.bs (.bor 0) 0 1 0 a.length),(1,.sl (u32s b) .an),(4,u64 y.2.1),(5,.i .i64 y.1)],[(.bor 0,⟨0,.own,1,u32s (y.2.2++a.drop y.1)⟩)],4⟩
def stHs(x i:Nat)(y:Nat):St:=⟨[(1,.i .i64 i),(5,u32 (x/2^y)),(6,.i .i64 y)],[],2⟩
end
section
variable{T:Tbl}[CRef05 T]
def stLn(a:List UInt32)(y:Nat):St:=⟨[(0,.sl (u32s a) .an),(3,.i .i64 y)],[],2⟩
end
section
variable{T:Tbl}[CRef05 T]
def stDv(a b:List UInt32)(y:Nat×List UInt32×List UInt32):St:=
 ⟨[(0,.sl (u32s a) .an),(1,.sl (u32s b) .an),(6,.bs (.loc 11) 1 1 0 a.length),(7,.bs (.loc 15) 2 1 0 (b.length+1)),(8,.i .i64 ((y.1:Int)-1))],[(.loc 11,⟨1,.own,1,u32s y.2.1⟩),(.loc 15,⟨2,.own,1,u32s y.2.2⟩)],4⟩
end
class CRef07 (T:Tbl):Prop extends CRef05 T where
def b129:AX:=
 (.seq
 (.reg [rg 2 (.mov (.c (.i .i64 0)))])
 (.seq
 (.reg [mv 3 0,rg 4 (.call 68 [(.t 3)]),rg 5 (.lens (.t 4)),mv 2 5])
 (.pre (.norm false [2]) .ret)))
class CLenD (T:Tbl):Prop where
 h129:T 129=some ⟨1,6,[.t 2],b129,none,false⟩
section
variable{T:Tbl}[CLenD T]{d:Option Nat}{st:St}{xs:List AV}{ps:List Opd}{e:Env}{h:Heap}{ol:List Heap}
@[simp] theorem x129:callX (orc T) T 129 xs d st=cP T 129 false xs d st:=zaa CLenD.h129
theorem f129(xs:List AV)(hn:xs.length=1):callF T 129 xs=retF [.t 2] false (evX (orc T) T 0 b129 ⟨argEnv xs,[],1⟩):=zab CLenD.h129 hn
end
def b76:AX:=
 (.seq
 (.reg [rg 2 (.mov (.c (.i .i64 0)))])
 (.seq
 (.seq
 (.reg [mv 3 0])
 (.block 0
 (.seq
 (.seq
 (.reg [rg 5 (.bin .eql (.t 3) (.c (.i .i64 1))),mv 4 5])
 (.cond (.t 4)
 .skip
 (.seq
 (.reg [rg 6 (.bin .eql (.t 3) (.c (.i .i64 2))),mv 4 6])
 (.cond (.t 4)
 .skip
 (.seq
 (.reg [rg 7 (.bin .eql (.t 3) (.c (.i .i64 3))),mv 4 7])
 (.cond (.t 4)
 .skip
 (.seq
 (.reg [rg 8 (.bin .eql (.t 3) (.c (.i .i64 4))),mv 4 8])
 (.cond (.t 4)
 .skip
 (.reg [rg 9 (.bin .eql (.t 3) (.c (.i .i64 5))),mv 4 9])))))))))
 (.cond (.t 4)
 (.seq
 (.reg [rg 2 (.mov (.c (.i .i64 0)))])
 (.pre (.norm false [2]) .ret))
 (.seq
 (.seq
 (.reg [rg 11 (.bin .eql (.t 3) (.c (.i .i64 6))),mv 10 11])
 (.cond (.t 10)
 .skip
 (.reg [rg 12 (.bin .eql (.t 3) (.c (.i .i64 11))),mv 10 12])))
 (.cond (.t 10)
 (.seq
 (.reg [rg 2 (.mov (.c (.i .i64 1)))])
 (.pre (.norm false [2]) .ret))
 (.seq
 (.seq
 (.reg [rg 14 (.bin .eql (.t 3) (.c (.i .i64 7))),mv 13 14])
 (.cond (.t 13)
 .skip
 (.seq
 (.reg [rg 15 (.bin .eql (.t 3) (.c (.i .i64 8))),mv 13 15])
 (.cond (.t 13)
 .skip
 (.seq
 (.reg [rg 16 (.bin .eql (.t 3) (.c (.i .i64 9))),mv 13 16])
 (.cond (.t 13)
 .skip
 (.reg [rg 17 (.bin .eql (.t 3) (.c (.i .i64 10))),mv 13 17])))))))
 (.cond (.t 13)
 (.seq
 (.reg [rg 2 (.mov (.c (.i .i64 2)))])
 (.pre (.norm false [2]) .ret))
 .skip))))))))
 (.seq
 (.reg [rg 2 (.mov (.c (.i .i64 (-1))))])
 (.pre (.norm false [2]) .ret))))
def l74_0:AX:=
 (.note
 (.seq
 (.reg [rg 10 (.bin .lss (.t 9) (.t 8))])
 (.seq
 (.cond (.t 10)
 .skip
 (.exit 0))
 (.seq
 (.block 1
 (.seq
 (.reg [mv 11 9,rg 12 (.iad 3 (.t 7) (.t 9)),rg 13 (.load (some 3) (.t 12)),rg 5 (.alloc [(.i .i64 0),(.i .i64 0),(.sl [] .nl)]),mv 4 11,so (.store 3 (.t 5) (.t 13))])
 (.seq
 (.reg [rg 14 (.fad 0 (.t 5)),rg 15 (.load none (.t 14)),rg 16 (.call 76 [(.t 15)]),mv 6 16])
 (.seq
 (.seq
 (.reg [mv 17 6,rg 18 (.bin .lss (.t 17) (.c (.i .i64 0))),mv 19 18,gd 20 19 false (.mov (.t 6)),gd 21 19 false (.mov (.t 3)),gd 22 19 false (.bin .gtr (.t 20) (.t 21)),rg 23 (.pick (.t 19) (.c (.b true)) (.t 22))])
 (.cond (.t 23)
 (.seq
 (.reg [mv 24 4,mv 2 24])
 (.pre (.norm false [2]) .ret))
 .skip))
 (.reg [mv 25 3,mv 26 6,rg 27 (.bin .sub (.c (.i .i64 1)) (.t 26)),rg 28 (.bin .add (.t 25) (.t 27)),mv 3 28])))))
 (.reg [rg 29 (.bin .add (.t 9) (.c (.i .i64 1))),mv 9 29]))))
 (.norm false [0,3,7,8,9]))
def b74:AX:=
 (.seq
 (.reg [rg 2 (.mov (.c (.i .i64 0)))])
 (.seq
 (.reg [rg 3 (.mov (.c (.i .i64 0)))])
 (.seq
 (.seq
 (.reg [mv 7 0,rg 8 (.len (.t 7)),rg 9 (.mov (.c (.i .i64 0)))])
 (.lp 0 (.norm false [0,3,7,8,9]) l74_0 (.norm false [0,3])))
 (.seq
 (.seq
 (.reg [mv 30 3,rg 31 (.bin .neq (.t 30) (.c (.i .i64 1)))])
 (.cond (.t 31)
 (.seq
 (.reg [mv 32 0,rg 33 (.len (.t 32)),mv 2 33])
 (.pre (.norm false [2]) .ret))
 .skip))
 (.seq
 (.reg [rg 2 (.mov (.c (.i .i64 (-1))))])
 (.pre (.norm false [2]) .ret))))))
def b44:AX:=
 (.seq
 (.reg [rg 2 (.mov (.c (.b false)))])
 (.seq
 (.reg [mv 3 0,rg 4 (.call 74 [(.t 3)]),rg 5 (.bin .lss (.t 4) (.c (.i .i64 0))),mv 2 5])
 (.pre (.norm false [2]) .ret)))
def b108:AX:=
 (.seq
 (.reg [rg 4 (.mov (.c (.b false)))])
 (.seq
 (.reg [mv 5 0,rg 6 (.bin .geq (.t 5) (.c (.i .i64 0))),mv 7 6,gd 8 7 true (.mov (.t 0)),gd 9 7 true (.mov (.t 1)),gd 10 7 true (.bin .lss (.t 8) (.t 9)),rg 11 (.pick (.t 7) (.t 10) (.c (.b false))),mv 4 11])
 (.pre (.norm false [4]) .ret)))
def b107:AX:=
 (.seq
 (.reg [rg 2 (.mov (.c (.b false)))])
 (.seq
 (.reg [mv 3 0,rg 4 (.call 71 [(.t 3)]),rg 5 (.len (.t 4)),mv 6 0,rg 7 (.len (.t 6)),rg 8 (.bin .eql (.t 5) (.t 7)),mv 9 8,gd 10 9 true (.mov (.t 0)),gd 11 9 true (.call 129 [(.t 10)]),gd 12 9 true (.bin .leq (.t 11) (.c (.i .i64 60))),rg 13 (.pick (.t 9) (.t 12) (.c (.b false))),mv 2 13])
 (.pre (.norm false [2]) .ret)))
def b75:AX:=
 (.seq
 (.reg [rg 4 (.xop (.box 3) [(.t 0)]),rg 8 (.mov (.c (.b false)))])
 (.seq
 (.seq
 (.reg [rg 9 (.fad 0 (.t 4)),rg 10 (.load none (.t 9)),rg 11 (.bin .neq (.t 10) (.c (.i .i64 1))),mv 12 11,gd 13 12 true (.fad 2 (.t 4)),gd 14 12 true (.load none (.t 13)),gd 15 12 true (.len (.t 14)),gd 16 12 true (.bin .gtr (.t 15) (.c (.i .i64 0))),rg 17 (.pick (.t 12) (.t 16) (.c (.b false)))])
 (.cond (.t 17)
 (.seq
 (.reg [rg 8 (.mov (.c (.b false)))])
 (.pre (.norm false [8]) .ret))
 .skip))
 (.seq
 (.seq
 (.reg [rg 18 (.fad 0 (.t 4)),rg 19 (.load none (.t 18))])
 (.block 0
 (.seq
 (.reg [rg 21 (.bin .eql (.t 19) (.c (.i .i64 1))),mv 20 21])
 (.cond (.t 20)
 (.seq
 (.reg [rg 22 (.fad 1 (.t 4)),rg 23 (.load none (.t 22)),rg 24 (.bin .eql (.t 23) (.c (.i .i64 0))),mv 25 24,gd 26 25 true (.fad 2 (.t 4)),gd 27 25 true (.load none (.t 26)),gd 28 25 true (.call 107 [(.t 27)]),rg 29 (.pick (.t 25) (.t 28) (.c (.b false))),mv 8 29])
 (.pre (.norm false [8]) .ret))
 (.seq
 (.reg [rg 31 (.bin .eql (.t 19) (.c (.i .i64 3))),mv 30 31])
 (.cond (.t 30)
 (.seq
 (.reg [rg 32 (.fad 1 (.t 4)),rg 33 (.load none (.t 32)),mv 34 1,rg 35 (.call 108 [(.t 33),(.t 34)]),mv 8 35])
 (.pre (.norm false [8]) .ret))
 (.seq
 (.reg [rg 37 (.bin .eql (.t 19) (.c (.i .i64 4))),mv 36 37])
 (.cond (.t 36)
 (.seq
 (.reg [rg 38 (.fad 1 (.t 4)),rg 39 (.load none (.t 38)),mv 40 2,rg 41 (.call 108 [(.t 39),(.t 40)]),mv 8 41])
 (.pre (.norm false [8]) .ret))
 (.seq
 (.reg [rg 43 (.bin .eql (.t 19) (.c (.i .i64 5))),mv 42 43])
 (.cond (.t 42)
 (.seq
 (.reg [rg 44 (.fad 1 (.t 4)),rg 45 (.load none (.t 44)),mv 46 3,rg 47 (.call 108 [(.t 45),(.t 46)]),mv 8 47])
 (.pre (.norm false [8]) .ret))
 (.seq
 (.reg [rg 49 (.bin .eql (.t 19) (.c (.i .i64 11))),mv 48 49])
 (.cond (.t 48)
 (.seq
 (.reg [rg 50 (.fad 1 (.t 4)),rg 51 (.load none (.t 50)),rg 52 (.bin .geq (.t 51) (.c (.i .i64 (-8)))),mv 53 52,gd 54 53 true (.fad 1 (.t 4)),gd 55 53 true (.load none (.t 54)),gd 56 53 true (.bin .leq (.t 55) (.c (.i .i64 8))),rg 57 (.pick (.t 53) (.t 56) (.c (.b false))),mv 8 57])
 (.pre (.norm false [8]) .ret))
 .skip))))))))))))
 (.seq
 (.reg [rg 58 (.fad 1 (.t 4)),rg 59 (.load none (.t 58)),rg 60 (.bin .eql (.t 59) (.c (.i .i64 0))),mv 61 60,gd 62 61 true (.fad 0 (.t 4)),gd 63 61 true (.load none (.t 62)),gd 64 61 true (.call 76 [(.t 63)]),gd 65 61 true (.bin .geq (.t 64) (.c (.i .i64 0))),rg 66 (.pick (.t 61) (.t 65) (.c (.b false))),mv 8 66])
 (.pre (.norm false [8]) .ret)))))
def l46_0:AX:=
 (.note
 (.seq
 (.reg [rg 17 (.bin .lss (.t 16) (.t 15))])
 (.seq
 (.cond (.t 17)
 .skip
 (.exit 0))
 (.seq
 (.block 1
 (.seq
 (.reg [mv 18 16,rg 19 (.iad 3 (.t 14) (.t 16)),rg 20 (.load (some 3) (.t 19)),rg 11 (.alloc [(.i .i64 0),(.i .i64 0),(.sl [] .nl)]),mv 10 18,so (.store 3 (.t 11) (.t 20))])
 (.seq
 (.reg [mv 21 10,mv 22 9,rg 23 (.bin .eql (.t 21) (.t 22)),mv 24 23,gd 25 24 false (.load (some 3) (.t 11)),gd 26 24 false (.mov (.t 1)),gd 27 24 false (.mov (.t 2)),gd 28 24 false (.mov (.t 3)),gd 29 24 false (.call 75 [(.t 25),(.t 26),(.t 27),(.t 28)]),gd 30 24 false (.un .not (.t 29)),rg 31 (.pick (.t 24) (.c (.b true)) (.t 30))])
 (.cond (.t 31)
 (.seq
 (.reg [mv 32 10,mv 8 32])
 (.pre (.norm false [8]) .ret))
 .skip))))
 (.reg [rg 33 (.bin .add (.t 16) (.c (.i .i64 1))),mv 16 33]))))
 (.norm false [1,2,3,9,14,15,16]))
def b46:AX:=
 (.seq
 (.reg [rg 8 (.mov (.c (.i .i64 0)))])
 (.seq
 (.reg [mv 12 0,rg 13 (.call 74 [(.t 12)]),mv 9 13])
 (.seq
 (.seq
 (.reg [mv 14 0,rg 15 (.len (.t 14)),rg 16 (.mov (.c (.i .i64 0)))])
 (.lp 0 (.norm false [1,2,3,9,14,15,16]) l46_0 (.norm false [9])))
 (.seq
 (.reg [mv 34 9,mv 8 34])
 (.pre (.norm false [8]) .ret)))))
class CTree (T:Tbl):Prop where
 h76:T 76=some ⟨1,18,[.t 2],b76,none,false⟩
 h74:T 74=some ⟨1,34,[.t 2],b74,none,false⟩
 h44:T 44=some ⟨1,6,[.t 2],b44,none,false⟩
 h108:T 108=some ⟨2,12,[.t 4],b108,none,false⟩
 h107:T 107=some ⟨1,14,[.t 2],b107,none,false⟩
 h75:T 75=some ⟨4,67,[.t 8],b75,none,false⟩
 h46:T 46=some ⟨4,35,[.t 8],b46,none,false⟩
section
variable{T:Tbl}[CTree T]{d:Option Nat}{st:St}{xs:List AV}{ps:List Opd}{e:Env}{h:Heap}{ol:List Heap}
@[simp] theorem x76:callX (orc T) T 76 xs d st=cP T 76 false xs d st:=zaa CTree.h76
theorem f76(xs:List AV)(hn:xs.length=1):callF T 76 xs=retF [.t 2] false (evX (orc T) T 0 b76 ⟨argEnv xs,[],1⟩):=zab CTree.h76 hn
@[simp] theorem x74:callX (orc T) T 74 xs d st=cP T 74 false xs d st:=zaa CTree.h74
theorem f74(xs:List AV)(hn:xs.length=1):callF T 74 xs=retF [.t 2] false (evX (orc T) T 0 b74 ⟨argEnv xs,[],1⟩):=zab CTree.h74 hn
@[simp] theorem x44:callX (orc T) T 44 xs d st=cP T 44 false xs d st:=zaa CTree.h44
theorem f44(xs:List AV)(hn:xs.length=1):callF T 44 xs=retF [.t 2] false (evX (orc T) T 0 b44 ⟨argEnv xs,[],1⟩):=zab CTree.h44 hn
@[simp] theorem x108:callX (orc T) T 108 xs d st=cP T 108 false xs d st:=zaa CTree.h108
theorem f108(xs:List AV)(hn:xs.length=2):callF T 108 xs=retF [.t 4] false (evX (orc T) T 0 b108 ⟨argEnv xs,[],1⟩):=zab CTree.h108 hn
@[simp] theorem x107:callX (orc T) T 107 xs d st=cP T 107 false xs d st:=zaa CTree.h107
theorem f107(xs:List AV)(hn:xs.length=1):callF T 107 xs=retF [.t 2] false (evX (orc T) T 0 b107 ⟨argEnv xs,[],1⟩):=zab CTree.h107 hn
@[simp] theorem x75:callX (orc T) T 75 xs d st=cP T 75 false xs d st:=zaa CTree.h75
theorem f75(xs:List AV)(hn:xs.length=4):callF T 75 xs=retF [.t 8] false (evX (orc T) T 0 b75 ⟨argEnv xs,[],1⟩):=zab CTree.h75 hn
@[simp] theorem x46:callX (orc T) T 46 xs d st=cP T 46 false xs d st:=zaa CTree.h46
theorem f46(xs:List AV)(hn:xs.length=4):callF T 46 xs=retF [.t 8] false (evX (orc T) T 0 b46 ⟨argEnv xs,[],1⟩):=zab CTree.h46 hn
end
def l483_0:AX:=
 (.note
 (.seq
 (.reg [rg 9 (.bin .lss (.t 8) (.t 7))])
 (.seq
 (.cond (.t 9)
 .skip
 (.exit 0))
 (.seq
 (.block 1
 (.seq
 (.reg [rg 10 (.iad 3 (.t 6) (.t 8)),rg 11 (.load (some 3) (.t 10)),rg 5 (.alloc [(.i .i64 0),(.i .i64 0),(.sl [] .nl)]),so (.store 3 (.t 5) (.t 11))])
 (.drawT [mv 12 3,rg 13 (.fad 0 (.t 5)),rg 14 (.load none (.t 13)),rg 15 (.fad 1 (.t 5)),rg 16 (.load none (.t 15)),rg 17 (.fad 2 (.t 5)),rg 18 (.load none (.t 17)),rg 19 (.app 1 (.c (.sl [] .nl)) (.t 18)),rg 20 (.build [(.i .i64 0),(.i .i64 0),(.sl [] .nl)] [(0,1,(.t 14)),(1,1,(.t 16)),(2,1,(.t 19))]),rg 21 (.bsl 3 [(.i .i64 0),(.i .i64 0),(.sl [] .nl)] 1 [(0,(.t 20))])]
 [rg 22 (.app 3 (.t 12) (.t 21)),mv 3 22])))
 (.reg [rg 23 (.bin .add (.t 8) (.c (.i .i64 1))),mv 8 23]))))
 (.norm false [3,6,7,8]))
def b483:AX:=
 (.seq
 (.reg [rg 2 (.mov (.c (.sl [] .nl)))])
 (.seq
 (.note (.reg [rg 3 (.mov (.c (.sl [] .nl)))]) (.nil 3 3))
 (.seq
 (.seq
 (.reg [mv 6 0,rg 7 (.len (.t 6)),rg 8 (.mov (.c (.i .i64 0)))])
 (.lp 0 (.norm false [3,6,7,8]) l483_0 (.norm false [3])))
 (.seq
 (.reg [mv 24 3,mv 2 24])
 (.pre (.norm false [2]) .ret)))))
def l493_0:AX:=
 (.note
 (.seq
 (.reg [rg 12 (.bin .lss (.t 11) (.t 10))])
 (.seq
 (.cond (.t 12)
 .skip
 (.exit 0))
 (.seq
 (.block 1
 (.seq
 (.reg [rg 13 (.iad 2 (.t 9) (.t 11)),rg 14 (.load (some 2) (.t 13)),rg 5 (.alloc [(.s []),(.sl [] .nl)]),so (.store 2 (.t 5) (.t 14))])
 (.reg [mv 15 3,rg 16 (.fad 1 (.t 5)),rg 17 (.load none (.t 16)),rg 18 (.call 483 [(.t 17)]),rg 19 (.bsl 1 [(.sl [] .nl)] 1 [(0,(.t 18))]),rg 20 (.app 1 (.t 15) (.t 19)),mv 3 20])))
 (.reg [rg 21 (.bin .add (.t 11) (.c (.i .i64 1))),mv 11 21]))))
 (.norm false [1,3,9,10,11]))
def l493_1:AX:=
 (.note
 (.seq
 (.reg [rg 26 (.bin .lss (.t 25) (.t 24))])
 (.seq
 (.cond (.t 26)
 .skip
 (.exit 2))
 (.seq
 (.block 3
 (.seq
 (.reg [rg 27 (.iad 1 (.t 23) (.t 25)),rg 28 (.load none (.t 27)),mv 7 28])
 (.reg [mv 29 3,mv 30 7,rg 31 (.call 483 [(.t 30)]),rg 32 (.bsl 1 [(.sl [] .nl)] 1 [(0,(.t 31))]),rg 33 (.app 1 (.t 29) (.t 32)),mv 3 33])))
 (.reg [rg 34 (.bin .add (.t 25) (.c (.i .i64 1))),mv 25 34]))))
 (.norm false [3,23,24,25]))
def b493:AX:=
 (.seq
 (.reg [rg 1 (.xop (.box 2) [(.t 0)]),rg 2 (.mov (.c (.sl [] .nl)))])
 (.seq
 (.note (.reg [rg 3 (.mov (.c (.sl [] .nl)))]) (.nil 3 1))
 (.seq
 (.seq
 (.reg [rg 8 (.fad 0 (.t 1)),rg 9 (.load none (.t 8)),rg 10 (.len (.t 9)),rg 11 (.mov (.c (.i .i64 0)))])
 (.lp 0 (.norm false [1,3,9,10,11]) l493_0 (.norm false [1,3])))
 (.seq
 (.seq
 (.reg [rg 22 (.fad 1 (.t 1)),rg 23 (.load none (.t 22)),rg 24 (.len (.t 23)),rg 25 (.mov (.c (.i .i64 0)))])
 (.lp 2 (.norm false [3,23,24,25]) l493_1 (.norm false [3])))
 (.seq
 (.reg [mv 35 3,mv 2 35])
 (.pre (.norm false [2]) .ret))))))
def l491_0:AX:=
 (.note
 (.seq
 (.reg [rg 10 (.bin .lss (.t 9) (.t 8))])
 (.seq
 (.cond (.t 10)
 .skip
 (.exit 0))
 (.seq
 (.block 1
 (.seq
 (.reg [rg 11 (.iad 1 (.t 7) (.t 9)),rg 12 (.load none (.t 11)),mv 5 12])
 (.reg [mv 13 3,mv 14 5,rg 15 (.len (.t 14)),rg 16 (.bin .add (.t 13) (.t 15)),mv 3 16])))
 (.reg [rg 17 (.bin .add (.t 9) (.c (.i .i64 1))),mv 9 17]))))
 (.norm false [3,7,8,9]))
def b491:AX:=
 (.seq
 (.reg [rg 1 (.xop (.box 2) [(.t 0)]),rg 2 (.mov (.c (.i .i64 0)))])
 (.seq
 (.reg [rg 3 (.mov (.c (.i .i64 0)))])
 (.seq
 (.seq
 (.reg [rg 6 (.load (some 2) (.t 1)),rg 7 (.call 493 [(.t 6)]),rg 8 (.len (.t 7)),rg 9 (.mov (.c (.i .i64 0)))])
 (.lp 0 (.norm false [3,7,8,9]) l491_0 (.norm false [3])))
 (.seq
 (.reg [mv 18 3,mv 2 18])
 (.pre (.norm false [2]) .ret)))))
def l492_0:AX:=
 (.note
 (.seq
 (.reg [rg 20 (.bin .lss (.t 19) (.t 18))])
 (.seq
 (.cond (.t 20)
 .skip
 (.exit 2))
 (.seq
 (.block 3
 (.seq
 (.reg [mv 21 6,mv 22 3,mv 23 3,rg 24 (.len (.t 23)),rg 25 (.bin .sub (.t 24) (.c (.i .i64 1))),rg 26 (.iad 1 (.t 22) (.t 25)),rg 27 (.load none (.t 26)),rg 28 (.mm true [(.t 21),(.t 27)]),mv 6 28])
 (.reg [mv 29 3,mv 30 3,rg 31 (.len (.t 30)),rg 32 (.bin .sub (.t 31) (.c (.i .i64 1))),rg 33 (.slc 1 (.t 29) none (some (.t 32)) none),mv 3 33])))
 (.reg [rg 34 (.bin .add (.t 19) (.c (.i .i64 1))),mv 19 34]))))
 (.norm false [3,6,10,11,12,18,19]))
def l492_1:AX:=
 (.note
 (.seq
 (.reg [rg 13 (.bin .lss (.t 12) (.t 11))])
 (.seq
 (.cond (.t 13)
 .skip
 (.exit 0))
 (.seq
 (.block 1
 (.seq
 (.reg [rg 14 (.iad 3 (.t 10) (.t 12)),rg 15 (.load (some 3) (.t 14)),rg 5 (.alloc [(.i .i64 0),(.i .i64 0),(.sl [] .nl)]),so (.store 3 (.t 5) (.t 15))])
 (.seq
 (.reg [rg 6 (.mov (.c (.i .i64 0)))])
 (.seq
 (.seq
 (.reg [rg 16 (.fad 0 (.t 5)),rg 17 (.load none (.t 16)),rg 18 (.call 76 [(.t 17)]),rg 19 (.mov (.c (.i .i64 0)))])
 (.lp 2 (.norm false [3,6,10,11,12,18,19]) l492_0 (.norm false [3,6,10,11,12])))
 (.reg [mv 35 3,mv 36 6,rg 37 (.bin .add (.t 36) (.c (.i .i64 1))),rg 38 (.bsl 1 [(.i .i64 0)] 1 [(0,(.t 37))]),rg 39 (.app 1 (.t 35) (.t 38)),mv 3 39])))))
 (.reg [rg 40 (.bin .add (.t 12) (.c (.i .i64 1))),mv 12 40]))))
 (.norm false [3,10,11,12]))
def b492:AX:=
 (.seq
 (.reg [rg 2 (.mov (.c (.i .i64 0)))])
 (.seq
 (.seq
 (.reg [mv 7 0,rg 8 (.call 44 [(.t 7)]),rg 9 (.un .not (.t 8))])
 (.cond (.t 9)
 (.seq
 (.reg [rg 2 (.mov (.c (.i .i64 0)))])
 (.pre (.norm false [2]) .ret))
 .skip))
 (.seq
 (.note (.reg [rg 3 (.mov (.c (.sl [] .nl)))]) (.nil 3 1))
 (.seq
 (.seq
 (.reg [mv 10 0,rg 11 (.len (.t 10)),rg 12 (.mov (.c (.i .i64 0)))])
 (.lp 0 (.norm false [3,10,11,12]) l492_1 (.norm false [3])))
 (.seq
 (.reg [mv 41 3,rg 42 (.iad 1 (.t 41) (.c (.i .i64 0))),rg 43 (.load none (.t 42)),mv 2 43])
 (.pre (.norm false [2]) .ret))))))
class CTree2 (T:Tbl):Prop where
 h483:T 483=some ⟨1,25,[.t 2],b483,none,false⟩
 h493:T 493=some ⟨1,36,[.t 2],b493,none,false⟩
 h491:T 491=some ⟨1,19,[.t 2],b491,none,false⟩
 h492:T 492=some ⟨1,44,[.t 2],b492,none,false⟩
section
variable{T:Tbl}[CTree2 T]{d:Option Nat}{st:St}{xs:List AV}{ps:List Opd}{e:Env}{h:Heap}{ol:List Heap}
@[simp] theorem x483:callX (orc T) T 483 xs d st=cP T 483 false xs d st:=zaa CTree2.h483
theorem f483(xs:List AV)(hn:xs.length=1):callF T 483 xs=retF [.t 2] false (evX (orc T) T 0 b483 ⟨argEnv xs,[],1⟩):=zab CTree2.h483 hn
@[simp] theorem x493:callX (orc T) T 493 xs d st=cP T 493 false xs d st:=zaa CTree2.h493
theorem f493(xs:List AV)(hn:xs.length=1):callF T 493 xs=retF [.t 2] false (evX (orc T) T 0 b493 ⟨argEnv xs,[],1⟩):=zab CTree2.h493 hn
@[simp] theorem x491:callX (orc T) T 491 xs d st=cP T 491 false xs d st:=zaa CTree2.h491
theorem f491(xs:List AV)(hn:xs.length=1):callF T 491 xs=retF [.t 2] false (evX (orc T) T 0 b491 ⟨argEnv xs,[],1⟩):=zab CTree2.h491 hn
@[simp] theorem x492:callX (orc T) T 492 xs d st=cP T 492 false xs d st:=zaa CTree2.h492
theorem f492(xs:List AV)(hn:xs.length=1):callF T 492 xs=retF [.t 2] false (evX (orc T) T 0 b492 ⟨argEnv xs,[],1⟩):=zab CTree2.h492 hn
end
def l10_0:AX:=
 (.note
 (.seq
 (.seq
 (.reg [mv 8 7,mv 9 0,rg 10 (.len (.t 9)),rg 11 (.bin .lss (.t 8) (.t 10)),mv 12 11,gd 13 12 true (.mov (.t 7)),gd 14 12 true (.mov (.t 1)),gd 15 12 true (.bin .lss (.t 13) (.t 14)),rg 16 (.pick (.t 12) (.t 15) (.c (.b false)))])
 (.cond (.t 16)
 .skip
 (.exit 0)))
 (.seq
 (.block 1
 (.seq
 (.reg [mv 19 0,mv 20 7,rg 21 (.iad 3 (.t 19) (.t 20)),rg 22 (.fad 2 (.t 21)),rg 23 (.load none (.t 22)),rg 24 (.len (.t 23)),mv 25 2,rg 26 (.bin .gtr (.t 24) (.t 25))])
 (.cond (.t 26)
 (.seq
 (.reg [rg 6 (.mov (.c (.b true)))])
 (.pre (.norm false [6]) .ret))
 .skip)))
 (.reg [mv 17 7,rg 18 (.bin .add (.t 17) (.c (.i .i64 1))),mv 7 18])))
 (.norm false [0,1,2,7]))
def b10:AX:=
 (.seq
 (.reg [rg 6 (.mov (.c (.b false)))])
 (.seq
 (.seq
 (.reg [rg 7 (.mov (.c (.i .i64 0)))])
 (.lp 0 (.norm false [0,1,2,7]) l10_0 (.norm false [0,1])))
 (.seq
 (.reg [mv 27 0,rg 28 (.len (.t 27)),mv 29 1,rg 30 (.bin .gtr (.t 28) (.t 29)),mv 6 30])
 (.pre (.norm false [6]) .ret))))
class CRef17 (T:Tbl):Prop where
 h10:T 10=some ⟨3,31,[.t 6],b10,none,false⟩
section
variable{T:Tbl}[CRef17 T]{d:Option Nat}{st:St}{xs:List AV}{ps:List Opd}{e:Env}{h:Heap}{ol:List Heap}
@[simp] theorem x10:callX (orc T) T 10 xs d st=cP T 10 false xs d st:=zaa CRef17.h10
theorem f10(xs:List AV)(hn:xs.length=3):callF T 10 xs=retF [.t 6] false (evX (orc T) T 0 b10 ⟨argEnv xs,[],1⟩):=zab CRef17.h10 hn
end
def l13_0:AX:=
 (.note
 (.seq
 (.seq
 (.reg [mv 5 4,mv 6 0,rg 7 (.len (.t 6)),rg 8 (.bin .lss (.t 5) (.t 7))])
 (.cond (.t 8)
 .skip
 (.exit 0)))
 (.seq
 (.block 1
 (.drawT [mv 11 3,mv 12 0,mv 13 4,rg 14 (.iad 3 (.t 12) (.t 13)),rg 15 (.fad 0 (.t 14)),rg 16 (.load none (.t 15)),mv 17 0,mv 18 4,rg 19 (.iad 3 (.t 17) (.t 18)),rg 20 (.fad 1 (.t 19)),rg 21 (.load none (.t 20)),mv 22 0,mv 23 4,rg 24 (.iad 3 (.t 22) (.t 23)),rg 25 (.fad 2 (.t 24)),rg 26 (.load none (.t 25)),rg 27 (.build [(.i .i64 0),(.i .i64 0),(.sl [] .nl)] [(0,1,(.t 16)),(1,1,(.t 21)),(2,1,(.t 26))]),rg 28 (.bsl 3 [(.i .i64 0),(.i .i64 0),(.sl [] .nl)] 1 [(0,(.t 27))])]
 [rg 29 (.app 3 (.t 11) (.t 28)),mv 3 29]))
 (.reg [mv 9 4,rg 10 (.bin .add (.t 9) (.c (.i .i64 1))),mv 4 10])))
 (.norm false [0,3,4]))
def b13:AX:=
 (.seq
 (.reg [rg 2 (.mov (.c (.sl [] .nl)))])
 (.seq
 (.note (.reg [rg 3 (.mov (.c (.sl [] .nl)))]) (.nil 3 3))
 (.seq
 (.seq
 (.reg [rg 4 (.mov (.c (.i .i64 0)))])
 (.lp 0 (.norm false [0,3,4]) l13_0 (.norm false [3])))
 (.seq
 (.reg [mv 30 3,mv 2 30])
 (.pre (.norm false [2]) .ret)))))
class CLaw17 (T:Tbl):Prop where
 h13:T 13=some ⟨1,31,[.t 2],b13,none,false⟩
section
variable{T:Tbl}[CLaw17 T]{d:Option Nat}{st:St}{xs:List AV}{ps:List Opd}{e:Env}{h:Heap}{ol:List Heap}
@[simp] theorem x13:callX (orc T) T 13 xs d st=cP T 13 false xs d st:=zaa CLaw17.h13
@[simp] theorem y13:opD (orc T) T (.call 13 ps) e h ol=dP T 13 false ps e:=zcb CLaw17.h13
theorem f13(xs:List AV)(hn:xs.length=1):callF T 13 xs=retF [.t 2] false (evX (orc T) T 0 b13 ⟨argEnv xs,[],1⟩):=zab CLaw17.h13 hn
end
def b485:AX:=
 (.seq
 (.reg [rg 3 (.xop (.box 2) [(.t 0)]),rg 6 (.mov (.c (.b false)))])
 (.seq
 (.reg [mv 7 1,rg 8 (.bin .geq (.t 7) (.c (.i .i64 1))),mv 9 8,gd 10 9 true (.mov (.t 1)),gd 11 9 true (.bin .leq (.t 10) (.c (.i .i64 6))),rg 12 (.pick (.t 9) (.t 11) (.c (.b false))),mv 13 12,gd 14 13 true (.mov (.t 2)),gd 15 13 true (.bin .geq (.t 14) (.c (.i .i64 0))),rg 16 (.pick (.t 13) (.t 15) (.c (.b false))),mv 17 16,gd 18 17 true (.mov (.t 2)),gd 19 17 true (.bin .leq (.t 18) (.c (.i .i64 6))),rg 20 (.pick (.t 17) (.t 19) (.c (.b false))),mv 21 20,gd 22 21 true (.fad 1 (.t 3)),gd 23 21 true (.load none (.t 22)),gd 24 21 true (.len (.t 23)),gd 25 21 true (.mov (.t 1)),gd 26 21 true (.bin .eql (.t 24) (.t 25)),rg 27 (.pick (.t 21) (.t 26) (.c (.b false))),mv 28 27,gd 29 28 true (.fad 0 (.t 3)),gd 30 28 true (.load none (.t 29)),gd 31 28 true (.len (.t 30)),gd 32 28 true (.bin .leq (.t 31) (.c (.i .i64 10))),rg 33 (.pick (.t 28) (.t 32) (.c (.b false))),mv 34 33,gd 35 34 true (.load (some 2) (.t 3)),gd 36 34 true (.call 491 [(.t 35)]),gd 37 34 true (.bin .leq (.t 36) (.c (.i .i64 300))),rg 38 (.pick (.t 34) (.t 37) (.c (.b false))),mv 6 38])
 (.pre (.norm false [6]) .ret)))
def b486:AX:=
 (.seq
 (.reg [rg 2 (.mov (.c (.b false)))])
 (.seq
 (.seq
 (.reg [mv 3 0])
 (.block 0
 (.seq
 (.seq
 (.reg [rg 5 (.bin .eql (.t 3) (.c (.s [116]))),mv 4 5])
 (.cond (.t 4)
 .skip
 (.seq
 (.reg [rg 6 (.bin .eql (.t 3) (.c (.s [121]))),mv 4 6])
 (.cond (.t 4)
 .skip
 (.seq
 (.reg [rg 7 (.bin .eql (.t 3) (.c (.s [112]))),mv 4 7])
 (.cond (.t 4)
 .skip
 (.reg [rg 8 (.bin .eql (.t 3) (.c (.s [108,101,116]))),mv 4 8])))))))
 (.cond (.t 4)
 (.seq
 (.reg [rg 2 (.mov (.c (.b false)))])
 (.pre (.norm false [2]) .ret))
 .skip))))
 (.seq
 (.reg [mv 9 0,rg 10 (.build [(.i .i64 0),(.s []),(.i .i64 0)] [(0,1,(.c (.i .i64 2))),(1,1,(.t 9))]),rg 11 (.call 172 [(.t 10)]),mv 2 11])
 (.pre (.norm false [2]) .ret))))
def l487_0:AX:=
 (.note
 (.seq
 (.reg [rg 8 (.bin .lss (.t 7) (.t 6))])
 (.seq
 (.cond (.t 8)
 .skip
 (.exit 0))
 (.seq
 (.block 1
 (.seq
 (.reg [mv 9 7,mv 5 9])
 (.seq
 (.drawT [mv 10 0,mv 11 5,rg 12 (.iad 2 (.t 10) (.t 11)),rg 13 (.fad 0 (.t 12)),rg 14 (.load none (.t 13)),mv 15 0,mv 16 1,rg 17 (.iad 2 (.t 15) (.t 16)),rg 18 (.fad 0 (.t 17)),rg 19 (.load none (.t 18))]
 [rg 20 (.bin .eql (.t 14) (.t 19))])
 (.cond (.t 20)
 (.seq
 (.reg [rg 4 (.mov (.c (.b true)))])
 (.pre (.norm false [4]) .ret))
 .skip))))
 (.reg [rg 21 (.bin .add (.t 7) (.c (.i .i64 1))),mv 7 21]))))
 (.norm false [0,1,6,7]))
def b487:AX:=
 (.seq
 (.reg [rg 4 (.mov (.c (.b false)))])
 (.seq
 (.seq
 (.reg [mv 6 1,rg 7 (.mov (.c (.i .i64 0)))])
 (.lp 0 (.norm false [0,1,6,7]) l487_0 (.norm false [])))
 (.seq
 (.reg [rg 4 (.mov (.c (.b false)))])
 (.pre (.norm false [4]) .ret))))
def b488:AX:=
 (.seq
 (.reg [rg 10 (.alloc [(.i .i64 0),(.i .i64 0),(.i .i64 0),(.i .i64 0)])])
 (.seq
 (.reg [mv 12 0,mv 13 2,mv 14 3,mv 15 4,rg 16 (.call 46 [(.t 12),(.t 13),(.t 14),(.t 15)]),mv 11 16])
 (.seq
 (.seq
 (.reg [mv 17 11,rg 18 (.bin .lss (.t 17) (.c (.i .i64 0))),mv 19 18,gd 20 19 true (.mov (.t 0)),gd 21 19 true (.call 492 [(.t 20)]),gd 22 19 true (.bin .gtr (.t 21) (.c (.i .i64 40))),rg 23 (.pick (.t 19) (.t 22) (.c (.b false)))])
 (.cond (.t 23)
 (.reg [mv 24 0,rg 25 (.len (.t 24)),mv 11 25])
 .skip))
 (.seq
 (.seq
 (.reg [mv 26 11,rg 27 (.bin .lss (.t 26) (.c (.i .i64 0)))])
 (.cond (.t 27)
 (.seq
 (.reg [rg 28 (.build [(.i .i64 0),(.i .i64 0),(.i .i64 0),(.i .i64 0)] []),so (.store 4 (.t 10) (.t 28))])
 (.pre (.norm false [10]) .ret))
 .skip))
 (.seq
 (.reg [mv 29 1,mv 30 11,rg 31 (.build [(.i .i64 0),(.i .i64 0),(.i .i64 0),(.i .i64 0)] [(0,1,(.c (.i .i64 2))),(1,1,(.t 29)),(3,1,(.t 30))]),so (.store 4 (.t 10) (.t 31))])
 (.pre (.norm false [10]) .ret))))))
def l477_0:AX:=
 (.note
 (.seq
 (.reg [rg 23 (.bin .lss (.t 22) (.t 21))])
 (.seq
 (.cond (.t 23)
 .skip
 (.exit 0))
 (.seq
 (.block 1
 (.seq
 (.reg [mv 24 22,rg 25 (.iad 2 (.t 20) (.t 22)),rg 26 (.load (some 2) (.t 25)),rg 8 (.alloc [(.s []),(.sl [] .nl)]),mv 7 24,so (.store 2 (.t 8) (.t 26))])
 (.seq
 (.seq
 (.reg [rg 27 (.fad 0 (.t 8)),rg 28 (.load none (.t 27)),rg 29 (.call 486 [(.t 28)]),rg 30 (.un .not (.t 29)),mv 31 30,gd 32 31 false (.fad 0 (.t 3)),gd 33 31 false (.load none (.t 32)),gd 34 31 false (.mov (.t 7)),gd 35 31 false (.call 487 [(.t 33),(.t 34)]),rg 36 (.pick (.t 31) (.c (.b true)) (.t 35))])
 (.cond (.t 36)
 (.seq
 (.reg [mv 37 7,rg 38 (.bin .add (.t 37) (.c (.i .i64 1))),rg 39 (.build [(.i .i64 0),(.i .i64 0),(.i .i64 0),(.i .i64 0)] [(0,1,(.c (.i .i64 2))),(1,1,(.t 38)),(2,1,(.c (.i .i64 1)))]),so (.store 4 (.t 6) (.t 39))])
 (.pre (.norm false [6]) .ret))
 .skip))
 (.seq
 (.reg [rg 40 (.fad 1 (.t 8)),rg 41 (.load none (.t 40)),mv 42 7,rg 43 (.bin .add (.t 42) (.c (.i .i64 1))),mv 44 1,mv 45 2,mv 46 7,rg 47 (.call 488 [(.t 41),(.t 43),(.t 44),(.t 45),(.t 46)]),rg 9 (.alloc [(.i .i64 0),(.i .i64 0),(.i .i64 0),(.i .i64 0)]),so (.store 4 (.t 9) (.t 47))])
 (.seq
 (.reg [rg 48 (.load (some 4) (.t 9)),rg 49 (.build [(.i .i64 0),(.i .i64 0),(.i .i64 0),(.i .i64 0)] []),rg 50 (.eqs true [(0,.int),(1,.int),(2,.int),(3,.int)] (.t 48) (.t 49))])
 (.cond (.t 50)
 (.seq
 (.reg [rg 51 (.load (some 4) (.t 9)),so (.store 4 (.t 6) (.t 51))])
 (.pre (.norm false [6]) .ret))
 .skip))))))
 (.reg [rg 52 (.bin .add (.t 22) (.c (.i .i64 1))),mv 22 52]))))
 (.norm false [1,2,3,6,20,21,22]))
def l477_1:AX:=
 (.note
 (.seq
 (.reg [rg 57 (.bin .lss (.t 56) (.t 55))])
 (.seq
 (.cond (.t 57)
 .skip
 (.exit 2))
 (.seq
 (.block 3
 (.seq
 (.reg [mv 58 56,rg 59 (.iad 1 (.t 54) (.t 56)),rg 60 (.load none (.t 59)),mv 10 58,mv 11 60])
 (.seq
 (.reg [mv 61 11,rg 62 (.fad 0 (.t 3)),rg 63 (.load none (.t 62)),rg 64 (.len (.t 63)),mv 65 10,rg 66 (.bin .add (.t 64) (.t 65)),rg 67 (.bin .add (.t 66) (.c (.i .i64 1))),mv 68 1,mv 69 2,rg 70 (.fad 0 (.t 3)),rg 71 (.load none (.t 70)),rg 72 (.len (.t 71)),rg 73 (.call 488 [(.t 61),(.t 67),(.t 68),(.t 69),(.t 72)]),rg 12 (.alloc [(.i .i64 0),(.i .i64 0),(.i .i64 0),(.i .i64 0)]),so (.store 4 (.t 12) (.t 73))])
 (.seq
 (.reg [rg 74 (.load (some 4) (.t 12)),rg 75 (.build [(.i .i64 0),(.i .i64 0),(.i .i64 0),(.i .i64 0)] []),rg 76 (.eqs true [(0,.int),(1,.int),(2,.int),(3,.int)] (.t 74) (.t 75))])
 (.cond (.t 76)
 (.seq
 (.reg [rg 77 (.load (some 4) (.t 12)),so (.store 4 (.t 6) (.t 77))])
 (.pre (.norm false [6]) .ret))
 .skip)))))
 (.reg [rg 78 (.bin .add (.t 56) (.c (.i .i64 1))),mv 56 78]))))
 (.norm false [1,2,3,6,54,55,56]))
def b477:AX:=
 (.seq
 (.reg [rg 3 (.xop (.box 2) [(.t 0)]),rg 6 (.alloc [(.i .i64 0),(.i .i64 0),(.i .i64 0),(.i .i64 0)])])
 (.seq
 (.seq
 (.reg [rg 13 (.load (some 2) (.t 3)),mv 14 1,mv 15 2,rg 16 (.call 485 [(.t 13),(.t 14),(.t 15)]),rg 17 (.un .not (.t 16))])
 (.cond (.t 17)
 (.seq
 (.reg [rg 18 (.build [(.i .i64 0),(.i .i64 0),(.i .i64 0),(.i .i64 0)] [(0,1,(.c (.i .i64 2)))]),so (.store 4 (.t 6) (.t 18))])
 (.pre (.norm false [6]) .ret))
 .skip))
 (.seq
 (.seq
 (.reg [rg 19 (.fad 0 (.t 3)),rg 20 (.load none (.t 19)),rg 21 (.len (.t 20)),rg 22 (.mov (.c (.i .i64 0)))])
 (.lp 0 (.norm false [1,2,3,6,20,21,22]) l477_0 (.norm false [1,2,3,6])))
 (.seq
 (.seq
 (.reg [rg 53 (.fad 1 (.t 3)),rg 54 (.load none (.t 53)),rg 55 (.len (.t 54)),rg 56 (.mov (.c (.i .i64 0)))])
 (.lp 2 (.norm false [1,2,3,6,54,55,56]) l477_1 (.norm false [6])))
 (.seq
 (.reg [rg 79 (.build [(.i .i64 0),(.i .i64 0),(.i .i64 0),(.i .i64 0)] []),so (.store 4 (.t 6) (.t 79))])
 (.pre (.norm false [6]) .ret))))))
class CCheck (T:Tbl):Prop where
 h485:T 485=some ⟨3,39,[.t 6],b485,none,false⟩
 h486:T 486=some ⟨1,12,[.t 2],b486,none,false⟩
 h487:T 487=some ⟨2,22,[.t 4],b487,none,false⟩
 h488:T 488=some ⟨5,32,[.cell 10 (some 4)],b488,none,false⟩
 h477:T 477=some ⟨3,80,[.cell 6 (some 4)],b477,none,false⟩
section
variable{T:Tbl}[CCheck T]{d:Option Nat}{st:St}{xs:List AV}{ps:List Opd}{e:Env}{h:Heap}{ol:List Heap}
@[simp] theorem x485:callX (orc T) T 485 xs d st=cP T 485 false xs d st:=zaa CCheck.h485
theorem f485(xs:List AV)(hn:xs.length=3):callF T 485 xs=retF [.t 6] false (evX (orc T) T 0 b485 ⟨argEnv xs,[],1⟩):=zab CCheck.h485 hn
@[simp] theorem x486:callX (orc T) T 486 xs d st=cP T 486 false xs d st:=zaa CCheck.h486
theorem f486(xs:List AV)(hn:xs.length=1):callF T 486 xs=retF [.t 2] false (evX (orc T) T 0 b486 ⟨argEnv xs,[],1⟩):=zab CCheck.h486 hn
@[simp] theorem x487:callX (orc T) T 487 xs d st=cP T 487 false xs d st:=zaa CCheck.h487
theorem f487(xs:List AV)(hn:xs.length=2):callF T 487 xs=retF [.t 4] false (evX (orc T) T 0 b487 ⟨argEnv xs,[],1⟩):=zab CCheck.h487 hn
@[simp] theorem x488:callX (orc T) T 488 xs d st=cP T 488 false xs d st:=zaa CCheck.h488
theorem f488(xs:List AV)(hn:xs.length=5):callF T 488 xs=retF [.cell 10 (some 4)] false (evX (orc T) T 0 b488 ⟨argEnv xs,[],1⟩):=zab CCheck.h488 hn
@[simp] theorem x477:callX (orc T) T 477 xs d st=cP T 477 false xs d st:=zaa CCheck.h477
theorem f477(xs:List AV)(hn:xs.length=3):callF T 477 xs=retF [.cell 6 (some 4)] false (evX (orc T) T 0 b477 ⟨argEnv xs,[],1⟩):=zab CCheck.h477 hn
end
def isD(c:UInt8):Bool:=decide (48≤c.toNat)&&decide (c.toNat≤57)
def isL(c:UInt8):Bool:=decide (97≤c.toNat)&&decide (c.toNat≤122) || decide (65≤c.toNat)&&decide (c.toNat≤90) || decide (c.toNat=95)
def signB:List UInt8:=[43,45,42,47,94,40,41,91,93,44,59,61]
def isS(c:UInt8):Bool:=signB.contains c
def kindN(c:UInt8):Nat:=if isD c then 1 else if isL c then 2 else if isS c then 3 else 0
def moreN(k:Nat)(c:UInt8):Bool:=decide (k=1)&&isD c || decide (k=2)&&(isL c || isD c)
def mostN(k:Nat):Nat:=if k=1 then 60 else if k=2 then 12 else 1
def isB(c:UInt8):Bool:=decide (c=32) || decide (c=9) || decide (c=10) || decide (c=13)
abbrev Wd:=Nat×List UInt8×Nat
def skipC:Bool→List UInt8→Nat
 | _,[]=>0
 | note,c::r=>
  let note':=if c=35 then true else if c=10 then false else note
  if (note' || isB c)=true then 1+skipC note' r else 0
def firstN(k:Nat)(r:List UInt8):Nat:=1+(r.takeWhile (moreN k)).length
def scanL(l:List UInt8)(i:Nat)(acc:List Wd):Except Nat (List Wd):=
 match l with
 | []=>.ok acc
 | c::r=>
  if kindN c=0 then .error i
  else if mostN (kindN c)<firstN (kindN c) r then .error (i+mostN (kindN c))
  else scanL ((r.drop (firstN (kindN c) r-1)).drop (skipC false (r.drop (firstN (kindN c) r-1)))) (i+firstN (kindN c) r+skipC false (r.drop (firstN (kindN c) r-1)))
   (acc++[(kindN c,(c::r).take (firstN (kindN c) r),i)])
termination_by l.length
decreasing_by grind
def stepWd(c:UInt8)(i:Nat)(acc:List Wd):List Wd:=
 match acc.getLast? with
 | some (k,t,a)=>if a+t.length=i∧moreN k c=true then acc.dropLast++[(k,t++[c],a)] else acc++[(kindN c,[c],i)]
 | none=>acc++[(kindN c,[c],i)]
def badWd(acc:List Wd):Bool:=
 match acc.getLast? with
 | some (k,t,_)=>decide (k=0) || decide (mostN k<t.length)
 | none=>false
def refL:List UInt8→Nat→Bool→List Wd→Except Nat (List Wd)
 | [],_,_,acc=>.ok acc
 | c::r,i,note,acc=>
  let note':=if c=35 then true else if c=10 then false else note
  if (note' || isB c)=true then refL r (i+1) note' acc
  else if badWd (stepWd c i acc)=true then .error i
  else refL r (i+1) note' (stepWd c i acc)
def Fresh(acc:List Wd)(i:Nat)(l:List UInt8):Prop:=∀k t a,acc.getLast? = some (k,t,a)→a+t.length=i→∀c r,l=c::r→moreN k c=false
def prim187:List AV→Option AV
 | [.i .u8 n]=>if 0≤n∧n<256 then some (.b (isS (UInt8.ofNat n.toNat))) else none
 | _=>none
theorem zqn(c:UInt8):prim187 [u8 c.toNat]=some (.b (isS c)):=by
 have:=c.toNat_lt
 simp only[prim187,u8]
 rw[if_pos ⟨by omega,by omega⟩]
 simp
def prim184:List AV→Option AV
 | [.s l,.s [c]]=>if l.length≤1000000 then some (.tup [.s (l.takeWhile (· != c)),.s ((l.dropWhile (· != c)).drop 1),.b (l.contains c)]) else none
 | _=>none
def textOf:List AV→Option (List UInt8)
 | [.s l]=>if l.length≤10000 then some l else none
 | _=>none
def prim183:List AV→Option AV
 | [.sl els .an,.s sep]=>if els.length≤1000∧sep.length≤100 then (els.mapM textOf).map fun ts=>.s (List.intercalate sep ts) else none
 | _=>none
def rowsT(l:List (List UInt8)):List (List AV):=l.map fun s=>[.s s]
class CJoin (T:Tbl):Prop where
def b185:AX:=
 (.seq
 (.reg [rg 2 (.mov (.c (.b false)))])
 (.seq
 (.reg [mv 3 0,rg 4 (.bin .geq (.t 3) (.c (u8 48))),mv 5 4,gd 6 5 true (.mov (.t 0)),gd 7 5 true (.bin .leq (.t 6) (.c (u8 57))),rg 8 (.pick (.t 5) (.t 7) (.c (.b false))),mv 2 8])
 (.pre (.norm false [2]) .ret)))
def b186:AX:=
 (.seq
 (.reg [rg 2 (.mov (.c (.b false)))])
 (.seq
 (.reg [mv 3 0,rg 4 (.bin .geq (.t 3) (.c (u8 97))),mv 5 4,gd 6 5 true (.mov (.t 0)),gd 7 5 true (.bin .leq (.t 6) (.c (u8 122))),rg 8 (.pick (.t 5) (.t 7) (.c (.b false))),mv 9 8,gd 10 9 false (.mov (.t 0)),gd 11 9 false (.bin .geq (.t 10) (.c (u8 65))),gd 12 9 false (.mov (.t 11)),gd 13 12 true (.mov (.t 0)),gd 14 12 true (.bin .leq (.t 13) (.c (u8 90))),gd 15 9 false (.pick (.t 12) (.t 14) (.c (.b false))),rg 16 (.pick (.t 9) (.c (.b true)) (.t 15)),mv 17 16,gd 18 17 false (.mov (.t 0)),gd 19 17 false (.bin .eql (.t 18) (.c (u8 95))),rg 20 (.pick (.t 17) (.c (.b true)) (.t 19)),mv 2 20])
 (.pre (.norm false [2]) .ret)))
def b177:AX:=
 (.seq
 (.reg [rg 2 (.mov (.c (.i .i64 0)))])
 (.seq
 (.block 0
 (.seq
 (.reg [mv 4 0,rg 5 (.call 185 [(.t 4)]),mv 3 5])
 (.cond (.t 3)
 (.seq
 (.reg [rg 2 (.mov (.c (.i .i64 1)))])
 (.pre (.norm false [2]) .ret))
 (.seq
 (.reg [mv 7 0,rg 8 (.call 186 [(.t 7)]),mv 6 8])
 (.cond (.t 6)
 (.seq
 (.reg [rg 2 (.mov (.c (.i .i64 2)))])
 (.pre (.norm false [2]) .ret))
 (.seq
 (.reg [mv 10 0,rg 11 (.call 187 [(.t 10)]),mv 9 11])
 (.cond (.t 9)
 (.seq
 (.reg [rg 2 (.mov (.c (.i .i64 3)))])
 (.pre (.norm false [2]) .ret))
 .skip)))))))
 (.seq
 (.reg [rg 2 (.mov (.c (.i .i64 0)))])
 (.pre (.norm false [2]) .ret))))
def b188:AX:=
 (.seq
 (.reg [rg 4 (.mov (.c (.b false)))])
 (.seq
 (.reg [mv 5 0,rg 6 (.bin .eql (.t 5) (.c (.i .i64 1))),mv 7 6,gd 8 7 true (.mov (.t 1)),gd 9 7 true (.call 185 [(.t 8)]),rg 10 (.pick (.t 7) (.t 9) (.c (.b false))),mv 11 10,gd 12 11 false (.mov (.t 0)),gd 13 11 false (.bin .eql (.t 12) (.c (.i .i64 2))),gd 14 11 false (.mov (.t 13)),gd 15 14 true (.mov (.t 1)),gd 16 14 true (.call 186 [(.t 15)]),gd 17 14 true (.mov (.t 16)),gd 18 17 false (.mov (.t 1)),gd 19 17 false (.call 185 [(.t 18)]),gd 20 14 true (.pick (.t 17) (.c (.b true)) (.t 19)),gd 21 11 false (.pick (.t 14) (.t 20) (.c (.b false))),rg 22 (.pick (.t 11) (.c (.b true)) (.t 21)),mv 4 22])
 (.pre (.norm false [4]) .ret)))
def b179:AX:=
 (.seq
 (.reg [rg 2 (.mov (.c (.i .i64 0)))])
 (.seq
 (.seq
 (.reg [mv 3 0])
 (.block 0
 (.seq
 (.reg [rg 5 (.bin .eql (.t 3) (.c (.i .i64 1))),mv 4 5])
 (.cond (.t 4)
 (.seq
 (.reg [rg 2 (.mov (.c (.i .i64 60)))])
 (.pre (.norm false [2]) .ret))
 (.seq
 (.reg [rg 7 (.bin .eql (.t 3) (.c (.i .i64 2))),mv 6 7])
 (.cond (.t 6)
 (.seq
 (.reg [rg 2 (.mov (.c (.i .i64 12)))])
 (.pre (.norm false [2]) .ret))
 .skip))))))
 (.seq
 (.reg [rg 2 (.mov (.c (.i .i64 1)))])
 (.pre (.norm false [2]) .ret))))
def l178_0:AX:=
 (.note
 (.seq
 (.seq
 (.reg [mv 6 5,mv 7 0,rg 8 (.lens (.t 7)),rg 9 (.bin .lss (.t 6) (.t 8)),mv 10 9,gd 11 10 true (.mov (.t 1)),gd 12 10 true (.mov (.t 0)),gd 13 10 true (.mov (.t 5)),gd 14 10 true (.ixs (.t 12) (.t 13)),gd 15 10 true (.call 188 [(.t 11),(.t 14)]),rg 16 (.pick (.t 10) (.t 15) (.c (.b false)))])
 (.cond (.t 16)
 .skip
 (.exit 0)))
 (.block 1
 (.reg [mv 17 5,rg 18 (.bin .add (.t 17) (.c (.i .i64 1))),mv 5 18])))
 (.norm false [0,1,5]))
def b178:AX:=
 (.seq
 (.reg [rg 4 (.mov (.c (.i .i64 0)))])
 (.seq
 (.reg [rg 5 (.mov (.c (.i .i64 1)))])
 (.seq
 (.lp 0 (.norm false [0,1,5]) l178_0 (.norm false [5]))
 (.seq
 (.reg [mv 19 5,mv 4 19])
 (.pre (.norm false [4]) .ret)))))
def b172:AX:=
 (.seq
 (.reg [rg 1 (.xop (.box 3) [(.t 0)]),rg 2 (.mov (.c (.b false)))])
 (.seq
 (.seq
 (.drawT [rg 3 (.fad 1 (.t 1)),rg 4 (.load none (.t 3)),rg 5 (.bin .eql (.t 4) (.c (.s []))),mv 6 5,gd 7 6 false (.fad 0 (.t 1)),gd 8 6 false (.load none (.t 7)),gd 9 6 false (.bin .eql (.t 8) (.c (.i .i64 0))),rg 10 (.pick (.t 6) (.c (.b true)) (.t 9)),mv 11 10,gd 12 11 false (.fad 1 (.t 1)),gd 13 11 false (.load none (.t 12)),gd 14 11 false (.ixs (.t 13) (.c (.i .i64 0))),gd 15 11 false (.call 177 [(.t 14)]),gd 16 11 false (.fad 0 (.t 1)),gd 17 11 false (.load none (.t 16))]
 [gd 18 11 false (.bin .neq (.t 15) (.t 17)),rg 19 (.pick (.t 11) (.c (.b true)) (.t 18))])
 (.cond (.t 19)
 (.seq
 (.reg [rg 2 (.mov (.c (.b false)))])
 (.pre (.norm false [2]) .ret))
 .skip))
 (.seq
 (.drawT [rg 20 (.fad 1 (.t 1)),rg 21 (.load none (.t 20)),rg 22 (.fad 0 (.t 1)),rg 23 (.load none (.t 22)),rg 24 (.call 178 [(.t 21),(.t 23)]),rg 25 (.fad 1 (.t 1)),rg 26 (.load none (.t 25)),rg 27 (.lens (.t 26)),rg 28 (.bin .eql (.t 24) (.t 27)),mv 29 28,gd 30 29 true (.fad 1 (.t 1)),gd 31 29 true (.load none (.t 30)),gd 32 29 true (.lens (.t 31)),gd 33 29 true (.fad 0 (.t 1)),gd 34 29 true (.load none (.t 33)),gd 35 29 true (.call 179 [(.t 34)])]
 [gd 36 29 true (.bin .leq (.t 32) (.t 35)),rg 37 (.pick (.t 29) (.t 36) (.c (.b false))),mv 2 37])
 (.pre (.norm false [2]) .ret))))
class CLex (T:Tbl):Prop where
 h185:T 185=some ⟨1,9,[.t 2],b185,none,false⟩
 h186:T 186=some ⟨1,21,[.t 2],b186,none,false⟩
 h187:T 187=some ⟨0,0,[],.prim prim187,none,false⟩
 h177:T 177=some ⟨1,12,[.t 2],b177,none,false⟩
 h188:T 188=some ⟨2,23,[.t 4],b188,none,false⟩
 h179:T 179=some ⟨1,8,[.t 2],b179,none,false⟩
 h178:T 178=some ⟨2,20,[.t 4],b178,none,false⟩
 h172:T 172=some ⟨1,38,[.t 2],b172,none,false⟩
section
variable{T:Tbl}[CLex T]{d:Option Nat}{st:St}{xs:List AV}{ps:List Opd}{e:Env}{h:Heap}{ol:List Heap}
@[simp] theorem x185:callX (orc T) T 185 xs d st=cP T 185 false xs d st:=zaa CLex.h185
theorem f185(xs:List AV)(hn:xs.length=1):callF T 185 xs=retF [.t 2] false (evX (orc T) T 0 b185 ⟨argEnv xs,[],1⟩):=zab CLex.h185 hn
@[simp] theorem x186:callX (orc T) T 186 xs d st=cP T 186 false xs d st:=zaa CLex.h186
theorem f186(xs:List AV)(hn:xs.length=1):callF T 186 xs=retF [.t 2] false (evX (orc T) T 0 b186 ⟨argEnv xs,[],1⟩):=zab CLex.h186 hn
@[simp] theorem x187:callX (orc T) T 187 xs d st=cP T 187 false xs d st:=zaa CLex.h187
theorem p187(xs:List AV):callF T 187 xs=prim187 xs:=zh5 CLex.h187
@[simp] theorem y177:opD (orc T) T (.call 177 ps) e h ol=dP T 177 false ps e:=zcb CLex.h177
theorem f177(xs:List AV)(hn:xs.length=1):callF T 177 xs=retF [.t 2] false (evX (orc T) T 0 b177 ⟨argEnv xs,[],1⟩):=zab CLex.h177 hn
@[simp] theorem x188:callX (orc T) T 188 xs d st=cP T 188 false xs d st:=zaa CLex.h188
theorem f188(xs:List AV)(hn:xs.length=2):callF T 188 xs=retF [.t 4] false (evX (orc T) T 0 b188 ⟨argEnv xs,[],1⟩):=zab CLex.h188 hn
@[simp] theorem y179:opD (orc T) T (.call 179 ps) e h ol=dP T 179 false ps e:=zcb CLex.h179
theorem f179(xs:List AV)(hn:xs.length=1):callF T 179 xs=retF [.t 2] false (evX (orc T) T 0 b179 ⟨argEnv xs,[],1⟩):=zab CLex.h179 hn
@[simp] theorem y178:opD (orc T) T (.call 178 ps) e h ol=dP T 178 false ps e:=zcb CLex.h178
theorem f178(xs:List AV)(hn:xs.length=2):callF T 178 xs=retF [.t 4] false (evX (orc T) T 0 b178 ⟨argEnv xs,[],1⟩):=zab CLex.h178 hn
@[simp] theorem x172:callX (orc T) T 172 xs d st=cP T 172 false xs d st:=zaa CLex.h172
theorem f172(xs:List AV)(hn:xs.length=1):callF T 172 xs=retF [.t 2] false (evX (orc T) T 0 b172 ⟨argEnv xs,[],1⟩):=zab CLex.h172 hn
end
class CRef16 (T:Tbl):Prop where
def l466_0:AX:=
 (.note
 (.seq
 (.seq
 (.reg [mv 23 9,rg 24 (.fad 0 (.t 4)),rg 25 (.load none (.t 24)),rg 26 (.len (.t 25)),rg 27 (.bin .lss (.t 23) (.t 26))])
 (.cond (.t 27)
 .skip
 (.exit 0)))
 (.seq
 (.block 1
 (.seq
 (.reg [rg 30 (.fad 0 (.t 4)),rg 31 (.load none (.t 30)),mv 32 9,rg 33 (.iad 2 (.t 31) (.t 32)),rg 34 (.fad 0 (.t 33)),rg 35 (.load none (.t 34)),rg 36 (.lens (.t 35)),rg 37 (.bin .gtr (.t 36) (.c (.i .i64 100))),mv 38 37,gd 39 38 false (.fad 0 (.t 4)),gd 40 38 false (.load none (.t 39)),gd 41 38 false (.mov (.t 9)),gd 42 38 false (.iad 2 (.t 40) (.t 41)),gd 43 38 false (.fad 1 (.t 42)),gd 44 38 false (.load none (.t 43)),gd 45 38 false (.mov (.t 2)),gd 46 38 false (.mov (.t 3)),gd 47 38 false (.call 10 [(.t 44),(.t 45),(.t 46)]),rg 48 (.pick (.t 38) (.c (.b true)) (.t 47))])
 (.cond (.t 48)
 (.seq
 (.reg [rg 8 (.mov (.c (.b true)))])
 (.pre (.norm false [8]) .ret))
 .skip)))
 (.reg [mv 28 9,rg 29 (.bin .add (.t 28) (.c (.i .i64 1))),mv 9 29])))
 (.norm false [2,3,4,9]))
def l466_1:AX:=
 (.note
 (.seq
 (.seq
 (.reg [mv 49 10,rg 50 (.fad 1 (.t 4)),rg 51 (.load none (.t 50)),rg 52 (.len (.t 51)),rg 53 (.bin .lss (.t 49) (.t 52))])
 (.cond (.t 53)
 .skip
 (.exit 2)))
 (.seq
 (.block 3
 (.seq
 (.reg [rg 56 (.fad 1 (.t 4)),rg 57 (.load none (.t 56)),mv 58 10,rg 59 (.iad 1 (.t 57) (.t 58)),rg 60 (.load none (.t 59)),mv 61 2,mv 62 3,rg 63 (.call 10 [(.t 60),(.t 61),(.t 62)])])
 (.cond (.t 63)
 (.seq
 (.reg [rg 8 (.mov (.c (.b true)))])
 (.pre (.norm false [8]) .ret))
 .skip)))
 (.reg [mv 54 10,rg 55 (.bin .add (.t 54) (.c (.i .i64 1))),mv 10 55])))
 (.norm false [2,3,4,10]))
def b466:AX:=
 (.seq
 (.reg [rg 4 (.xop (.box 2) [(.t 0)]),rg 8 (.mov (.c (.b false)))])
 (.seq
 (.seq
 (.reg [rg 11 (.fad 0 (.t 4)),rg 12 (.load none (.t 11)),rg 13 (.len (.t 12)),mv 14 1,rg 15 (.bin .gtr (.t 13) (.t 14)),mv 16 15,gd 17 16 false (.fad 1 (.t 4)),gd 18 16 false (.load none (.t 17)),gd 19 16 false (.len (.t 18)),gd 20 16 false (.mov (.t 1)),gd 21 16 false (.bin .gtr (.t 19) (.t 20)),rg 22 (.pick (.t 16) (.c (.b true)) (.t 21))])
 (.cond (.t 22)
 (.seq
 (.reg [rg 8 (.mov (.c (.b true)))])
 (.pre (.norm false [8]) .ret))
 .skip))
 (.seq
 (.seq
 (.reg [rg 9 (.mov (.c (.i .i64 0)))])
 (.lp 0 (.norm false [2,3,4,9]) l466_0 (.norm false [2,3,4])))
 (.seq
 (.seq
 (.reg [rg 10 (.mov (.c (.i .i64 0)))])
 (.lp 2 (.norm false [2,3,4,10]) l466_1 (.norm false [])))
 (.seq
 (.reg [rg 8 (.mov (.c (.b false)))])
 (.pre (.norm false [8]) .ret))))))
class CRef19 (T:Tbl):Prop where
 h466:T 466=some ⟨4,64,[.t 8],b466,none,false⟩
section
variable{T:Tbl}[CRef19 T]{d:Option Nat}{st:St}{xs:List AV}{ps:List Opd}{e:Env}{h:Heap}{ol:List Heap}
@[simp] theorem x466:callX (orc T) T 466 xs d st=cP T 466 false xs d st:=zaa CRef19.h466
theorem f466(xs:List AV)(hn:xs.length=4):callF T 466 xs=retF [.t 8] false (evX (orc T) T 0 b466 ⟨argEnv xs,[],1⟩):=zab CRef19.h466 hn
end
def l468_0:AX:=
 (.note
 (.seq
 (.seq
 (.reg [mv 6 4,rg 7 (.fad 0 (.t 1)),rg 8 (.load none (.t 7)),rg 9 (.len (.t 8)),rg 10 (.bin .lss (.t 6) (.t 9))])
 (.cond (.t 10)
 .skip
 (.exit 0)))
 (.seq
 (.block 1
 (.drawT [rg 13 (.fad 0 (.t 3)),rg 14 (.load none (.t 13)),rg 15 (.fad 0 (.t 1)),rg 16 (.load none (.t 15)),mv 17 4,rg 18 (.iad 2 (.t 16) (.t 17)),rg 19 (.fad 0 (.t 18)),rg 20 (.load none (.t 19)),rg 21 (.fad 0 (.t 1)),rg 22 (.load none (.t 21)),mv 23 4,rg 24 (.iad 2 (.t 22) (.t 23)),rg 25 (.fad 1 (.t 24)),rg 26 (.load none (.t 25)),rg 27 (.call 13 [(.t 26)]),rg 28 (.build [(.s []),(.sl [] .nl)] [(0,1,(.t 20)),(1,1,(.t 27))]),rg 29 (.bsl 2 [(.s []),(.sl [] .nl)] 1 [(0,(.t 28))])]
 [rg 30 (.app 2 (.t 14) (.t 29)),rg 31 (.fad 0 (.t 3)),so (.store 1 (.t 31) (.t 30))]))
 (.reg [mv 11 4,rg 12 (.bin .add (.t 11) (.c (.i .i64 1))),mv 4 12])))
 (.norm false [1,2,3,4]))
def l468_1:AX:=
 (.note
 (.seq
 (.seq
 (.reg [mv 32 5,rg 33 (.fad 1 (.t 1)),rg 34 (.load none (.t 33)),rg 35 (.len (.t 34)),rg 36 (.bin .lss (.t 32) (.t 35))])
 (.cond (.t 36)
 .skip
 (.exit 2)))
 (.seq
 (.block 3
 (.drawT [rg 39 (.fad 1 (.t 3)),rg 40 (.load none (.t 39)),rg 41 (.fad 1 (.t 1)),rg 42 (.load none (.t 41)),mv 43 5,rg 44 (.iad 1 (.t 42) (.t 43)),rg 45 (.load none (.t 44)),rg 46 (.call 13 [(.t 45)]),rg 47 (.bsl 1 [(.sl [] .nl)] 1 [(0,(.t 46))])]
 [rg 48 (.app 1 (.t 40) (.t 47)),rg 49 (.fad 1 (.t 3)),so (.store 1 (.t 49) (.t 48))]))
 (.reg [mv 37 5,rg 38 (.bin .add (.t 37) (.c (.i .i64 1))),mv 5 38])))
 (.norm false [1,2,3,5]))
def b468:AX:=
 (.seq
 (.reg [rg 1 (.xop (.box 2) [(.t 0)]),rg 2 (.alloc [(.sl [] .nl),(.sl [] .nl)])])
 (.seq
 (.reg [rg 3 (.alloc [(.sl [] .nl),(.sl [] .nl)])])
 (.seq
 (.seq
 (.reg [rg 4 (.mov (.c (.i .i64 0)))])
 (.pre (.fld 3 0 0 2) (.pre (.fld 3 0 1 1) (.lp 0 (.norm false [1,2,3,4]) l468_0 (.norm false [1,2,3])))))
 (.seq
 (.seq
 (.reg [rg 5 (.mov (.c (.i .i64 0)))])
 (.lp 2 (.norm false [1,2,3,5]) l468_1 (.norm false [2,3])))
 (.seq
 (.reg [rg 50 (.load (some 2) (.t 3)),so (.store 2 (.t 2) (.t 50))])
 (.pre (.norm false [2]) .ret))))))
class CLaw21 (T:Tbl):Prop where
 h468:T 468=some ⟨1,51,[.cell 2 (some 2)],b468,none,false⟩
section
variable{T:Tbl}[CLaw21 T]{d:Option Nat}{st:St}{xs:List AV}{ps:List Opd}{e:Env}{h:Heap}{ol:List Heap}
@[simp] theorem x468:callX (orc T) T 468 xs d st=cP T 468 false xs d st:=zaa CLaw21.h468
theorem f468(xs:List AV)(hn:xs.length=1):callF T 468 xs=retF [.cell 2 (some 2)] false (evX (orc T) T 0 b468 ⟨argEnv xs,[],1⟩):=zab CLaw21.h468 hn
end
section
variable{T:Tbl}
theorem zs2(x0:Nat)(_hx0:x0<4294967296):∀y:Nat×Nat×List UInt8,(y.1≤9∧y.2.1<4294967296∧y.2.2.length=9-y.1∧digK y.1 y.2.1++y.2.2=digK 9 x0) →
  loopN T 0 0 (.norm false [3]) l101_0 ⟨[(0,u32 y.2.1),(3,.ptr (.loc 3) 1 9 0 0),(4,.i .i64 ((y.1:Int)-1))],[(.loc 3,⟨1,.str,9,[u8c (List.replicate y.1 0++y.2.2)]⟩)],3⟩ =
   some (.n,⟨[(3,.ptr (.loc 3) 1 9 0 0)],[(.loc 3,⟨1,.str,9,[u8c (digK 9 x0)]⟩)],3⟩):=by
 refine zbg (fun y:Nat×Nat×List UInt8=>⟨[(0,u32 y.2.1),(3,.ptr (.loc 3) 1 9 0 0),(4,.i .i64 ((y.1:Int)-1))],[(.loc 3,⟨1,.str,9,[u8c (List.replicate y.1 0++y.2.2)]⟩)],3⟩) _ (fun y=>y.1) _ ?_
 rintro⟨k,x,m⟩ ⟨hk,hx,hm,hd⟩
 simp only at hk hx hm hd
 cases k with
 | zero=>
  right
  have hd:m=digK 9 x0:=by simpa only[zg6,List.nil_append]using hd
  subst hd
  generalize digK 9 x0=m
  constructor<;>simp -implicitDefEqProofs[l101_0]
 | succ j=>
  left
  have hw:IntKind.wrap .i64 ((j:Int)-1)=(j:Int)-1:=zac _ (by omega)
  have h1:(j:Int)<9:=by omega
  have h2:j≤8:=by omega
  have hd1:48+x%10<256:=by omega
  have hs:=(zzi (l:=List.replicate (j+1) 0++m) (j:=j) hd1 (by simp;omega)).trans (congrArg u8c (zwa (j:=j) (m:=m) (UInt8.ofNat (48+x%10))))
  have m1:(48+x%10)%4294967296=48+x%10:=Nat.mod_eq_of_lt (by omega)
  have m2:(48+x%10)%256=48+x%10:=Nat.mod_eq_of_lt (by omega)
  have m3:x/10%4294967296=x/10:=Nat.mod_eq_of_lt (by omega)
  have hlen:j+1+m.length=9:=by omega
  refine⟨(j,x/10,UInt8.ofNat (48+x%10)::m),⟨by simp only;omega,by simp only;omega,by simp;omega,?_⟩,Nat.lt_succ_self j,?_,rfl⟩
  ·simp only
   rw[←hd,zdr,List.append_assoc]
   rfl
  ·simp -implicitDefEqProofs[l101_0,hw,h1,h2,hs,m1,m2,m3,hlen]
end
section
variable{T:Tbl}[CDigits T]
theorem zmq(x:Nat)(hx:x<4294967296):callF T 101 [u32 x]=some (.s (digK 9 x)):=by
 have h:=zs2 (T:=T) x hx (9,x,[]) ⟨Nat.le_refl _,hx,rfl,by simp⟩
 have e:u8c (List.replicate 9 0++[])=[u8 0,u8 0,u8 0,u8 0,u8 0,u8 0,u8 0,u8 0,u8 0]:=rfl
 simp only[e]at h
 rw[f101 _ rfl,b101]
 have h8:IntKind.wrap .i64 8=8:=by decide
 have hl9:=zea 9 x
 generalize hm:digK 9 x=m at *
 have t9:List.take 9 ((u8c m).map fun c=>[c])=(u8c m).map fun c=>[c]:=List.take_of_length_le (by simp[hl9])
 have hr:=zwb m
 simp at h
 simp -implicitDefEqProofs[h,hr,hl9,t9]
end
section
variable{T:Tbl}[CNat T][CProd T][CDigits T]
def stRi(l:List UInt8)(o:List UInt32)(i0 k:Nat):St:=
 ⟨[(0,.s l),(3,.ptr (.loc 3) 1 4 0 0),(5,.sl (u32s o) .an),(6,.i .i64 (i0+k:Nat)),(7,u32 (rd ((l.drop i0).take k))),(8,u32 (10^k)),(9,.i .i64 k)],[(.loc 3,⟨1,.str,4,[[.i .i64 0,.i .i64 0,.i .i64 0,.i .i64 0]]⟩)],3⟩
end
def sg(n:Bool)(k:Nat):Int:=if n then -(k:Int) else k
def wv(n:Bool)(a:List UInt32):Int:=sg n (val a)
abbrev wh(n:Bool)(a:List UInt32):AV:=.agg [.b n,.sl (u32s a) .an]
abbrev ez(z:Int):AV:=wh (decide (z<0)) (ofN z.natAbs)
def sgI(z:Int):Int:=if z<0 then -1 else if z=0 then 0 else 1
theorem zw8(n:Bool)(k:Nat):decide (sg n k<0)=(n&&decide (k≠0)):=by
 cases n
 ·simp[sg]
 ·by_cases h:k=0<;>simp[sg,h]
  omega
theorem zt2(n:Bool)(k:Nat):(sg n k).natAbs=k:=by cases n<;>simp[sg]
@[simp] theorem zwc(z:Int):wv (decide (z<0)) (ofN z.natAbs)=z:=by
 unfold wv
 rw[zaj]
 by_cases h:z<0
 ·simp[sg,h];omega
 ·simp[sg,h];omega
theorem z4c(n:Bool)(a:List UInt32):(wv n a).natAbs=val a:=zt2 n _
theorem z4d(n:Bool)(k:Nat):ez (sg n k)=wh (n&&decide (k≠0)) (ofN k):=by
 unfold ez
 rw[zw8,zt2]
theorem zm1(n:Bool)(x y:Nat):sg n (x+y)=sg n x+sg n y:=by cases n<;>simp[sg]<;>omega
theorem zt3{n m:Bool}(h:n≠m){x y:Nat}(hxy:x<y):sg m (y-x)=sg n x+sg m y:=by
 cases n<;>cases m<;>simp[sg]at h ⊢<;>omega
theorem zt4{n m:Bool}(h:n≠m){x y:Nat}(hxy:¬ x<y):sg n (x-y)=sg n x+sg m y:=by
 cases n<;>cases m<;>simp[sg]at h ⊢<;>omega
theorem z4e(n:Bool)(x:Nat):sg (!n) x=- sg n x:=by cases n<;>simp[sg]
theorem z4f(n m:Bool)(x y:Nat):sg (n != m) (x*y)=sg n x*sg m y:=by cases n<;>cases m<;>simp[sg,Int.mul_neg,Int.neg_mul]
theorem z4g(n:Bool)(x:Nat):sgI (sg n x)=if x=0 then 0 else if n then -1 else 1:=by
 unfold sgI
 cases n<;>simp[sg]<;>split<;>(try split)<;>omega
def textZ(z:Int):List UInt8:=if z<0 then 45::textN z.natAbs else textN z.natAbs
theorem zm2{x y:Int}{L:Nat}(hx:(ofN x.natAbs).length≤L)(hy:(ofN y.natAbs).length≤L):(ofN (x+y).natAbs).length≤L+1:=by
 refine zaq ?_
 have h1:=za2 (ofN x.natAbs)
 have h2:=za2 (ofN y.natAbs)
 rw[zaj]at h1 h2
 have h3:4294967296^(ofN x.natAbs).length≤4294967296^L:=Nat.pow_le_pow_right (by decide) hx
 have h4:4294967296^(ofN y.natAbs).length≤4294967296^L:=Nat.pow_le_pow_right (by decide) hy
 rw[Nat.pow_succ]
 generalize 4294967296^L=p at *
 omega
theorem zg7(x:Int):ofN (-x).natAbs=ofN x.natAbs:=by rw[Int.natAbs_neg]
theorem zg8{x y:Int}{L M:Nat}(hx:(ofN x.natAbs).length≤L)(hy:(ofN y.natAbs).length≤M):(ofN (x*y).natAbs).length≤L+M:=by
 refine zaq ?_
 have h1:=za2 (ofN x.natAbs)
 have h2:=za2 (ofN y.natAbs)
 rw[zaj]at h1 h2
 rw[Int.natAbs_mul,Nat.pow_add]
 exact Nat.mul_lt_mul'' (Nat.lt_of_lt_of_le h1 (Nat.pow_le_pow_right (by decide) hx)) (Nat.lt_of_lt_of_le h2 (Nat.pow_le_pow_right (by decide) hy))
theorem zff(n:Bool)(a:List UInt32):(ofN (wv n a).natAbs).length≤a.length:=by rw[z4c];exact zaf a
def readZ(l:List UInt8):Int:=sg (l.head? = some 45) (rd (if l.head? = some 45 then l.tail else l))
def wrongZ(l:List UInt8):Int:=wrongI (if l.head? = some 45 then l.tail else l)
def minus(l:List UInt8):Int:=if l.head? = some 45 then 1 else 0
def b55:AX:=
 (.seq
 (.reg [rg 4 (.alloc [(.b false),(.sl [] .nl)])])
 (.seq
 (.reg [mv 5 0,mv 6 5,gd 7 6 true (.mov (.t 1)),gd 8 6 true (.len (.t 7)),gd 9 6 true (.bin .gtr (.t 8) (.c (.i .i64 0))),rg 10 (.pick (.t 6) (.t 9) (.c (.b false))),mv 11 1,rg 12 (.build [(.b false),(.sl [] .nl)] [(0,1,(.t 10)),(1,1,(.t 11))]),so (.store 2 (.t 4) (.t 12))])
 (.pre (.norm false [4]) .ret)))
def b38:AX:=
 (.seq
 (.reg [rg 1 (.xop (.box 2) [(.t 0)]),rg 2 (.alloc [(.b false),(.sl [] .nl)])])
 (.seq
 (.drawT [rg 3 (.fad 0 (.t 1)),rg 4 (.load none (.t 3)),rg 5 (.fad 1 (.t 1)),rg 6 (.load none (.t 5)),rg 7 (.call 71 [(.t 6)])]
 [rg 8 (.call 55 [(.t 4),(.t 7)]),so (.store 2 (.t 2) (.t 8))])
 (.pre (.norm false [2]) .ret)))
def b40:AX:=
 (.seq
 (.reg [rg 1 (.xop (.box 2) [(.t 0)]),rg 2 (.alloc [(.b false),(.sl [] .nl)])])
 (.seq
 (.drawT [rg 3 (.fad 0 (.t 1)),rg 4 (.load none (.t 3)),rg 5 (.un .not (.t 4)),rg 6 (.fad 1 (.t 1)),rg 7 (.load none (.t 6)),rg 8 (.call 71 [(.t 7)])]
 [rg 9 (.call 55 [(.t 5),(.t 8)]),so (.store 2 (.t 2) (.t 9))])
 (.pre (.norm false [2]) .ret)))
def b23:AX:=
 (.seq
 (.reg [rg 2 (.xop (.box 2) [(.t 0)]),rg 3 (.xop (.box 2) [(.t 1)]),rg 4 (.alloc [(.b false),(.sl [] .nl)])])
 (.seq
 (.seq
 (.reg [rg 7 (.fad 0 (.t 2)),rg 8 (.load none (.t 7)),rg 9 (.fad 0 (.t 3)),rg 10 (.load none (.t 9)),rg 11 (.eqb false (.t 8) (.t 10))])
 (.cond (.t 11)
 (.seq
 (.drawT [rg 12 (.fad 0 (.t 2)),rg 13 (.load none (.t 12)),rg 14 (.fad 1 (.t 2)),rg 15 (.load none (.t 14)),rg 16 (.fad 1 (.t 3)),rg 17 (.load none (.t 16)),rg 18 (.bsl 1 [(.sl [] .nl)] 2 [(0,(.t 15)),(1,(.t 17))]),rg 19 (.call 56 [(.t 18)])]
 [rg 20 (.call 55 [(.t 13),(.t 19)]),so (.store 2 (.t 4) (.t 20))])
 (.pre (.norm false [4]) .ret))
 .skip))
 (.seq
 (.reg [rg 22 (.fad 1 (.t 2)),rg 23 (.load none (.t 22)),rg 24 (.fad 1 (.t 3)),rg 25 (.load none (.t 24)),rg 26 (.call 57 [(.t 23),(.t 25)]),mv 21 26,rg 27 (.ext (.t 21) 0),rg 28 (.ext (.t 21) 1),mv 5 27,mv 6 28])
 (.seq
 (.seq
 (.reg [mv 29 6,rg 30 (.bin .lss (.t 29) (.c (.i .i64 0)))])
 (.cond (.t 30)
 (.seq
 (.reg [rg 31 (.fad 0 (.t 3)),rg 32 (.load none (.t 31)),mv 33 5,rg 34 (.call 55 [(.t 32),(.t 33)]),so (.store 2 (.t 4) (.t 34))])
 (.pre (.norm false [4]) .ret))
 .skip))
 (.seq
 (.reg [rg 35 (.fad 0 (.t 2)),rg 36 (.load none (.t 35)),mv 37 5,rg 38 (.call 55 [(.t 36),(.t 37)]),so (.store 2 (.t 4) (.t 38))])
 (.pre (.norm false [4]) .ret))))))
def b25:AX:=
 (.seq
 (.reg [rg 2 (.xop (.box 2) [(.t 0)]),rg 3 (.xop (.box 2) [(.t 1)]),rg 4 (.alloc [(.b false),(.sl [] .nl)])])
 (.seq
 (.drawT [rg 5 (.load (some 2) (.t 2)),rg 6 (.load (some 2) (.t 3)),rg 7 (.call 40 [(.t 6)])]
 [rg 8 (.call 23 [(.t 5),(.t 7)]),so (.store 2 (.t 4) (.t 8))])
 (.pre (.norm false [4]) .ret)))
def b27:AX:=
 (.seq
 (.reg [rg 2 (.xop (.box 2) [(.t 0)]),rg 3 (.xop (.box 2) [(.t 1)]),rg 4 (.alloc [(.b false),(.sl [] .nl)])])
 (.seq
 (.drawT [rg 5 (.fad 0 (.t 2)),rg 6 (.load none (.t 5)),rg 7 (.fad 0 (.t 3)),rg 8 (.load none (.t 7)),rg 9 (.eqb true (.t 6) (.t 8)),rg 10 (.fad 1 (.t 2)),rg 11 (.load none (.t 10)),rg 12 (.fad 1 (.t 3)),rg 13 (.load none (.t 12)),rg 14 (.call 60 [(.t 11),(.t 13)])]
 [rg 15 (.call 55 [(.t 9),(.t 14)]),so (.store 2 (.t 4) (.t 15))])
 (.pre (.norm false [4]) .ret)))
def b37:AX:=
 (.seq
 (.reg [rg 1 (.xop (.box 2) [(.t 0)]),rg 2 (.mov (.c (.i .i64 0)))])
 (.seq
 (.block 0
 (.seq
 (.reg [rg 4 (.fad 1 (.t 1)),rg 5 (.load none (.t 4)),rg 6 (.call 70 [(.t 5)]),mv 3 6])
 (.cond (.t 3)
 (.seq
 (.reg [rg 2 (.mov (.c (.i .i64 0)))])
 (.pre (.norm false [2]) .ret))
 (.seq
 (.reg [rg 8 (.fad 0 (.t 1)),rg 9 (.load none (.t 8)),mv 7 9])
 (.cond (.t 7)
 (.seq
 (.reg [rg 2 (.mov (.c (.i .i64 (-1))))])
 (.pre (.norm false [2]) .ret))
 .skip)))))
 (.seq
 (.reg [rg 2 (.mov (.c (.i .i64 1)))])
 (.pre (.norm false [2]) .ret))))
def b41:AX:=
 (.seq
 (.reg [rg 2 (.alloc [(.b false),(.sl [] .nl)])])
 (.seq
 (.seq
 (.reg [mv 3 0,rg 4 (.bin .lss (.t 3) (.c (.i .i64 0)))])
 (.cond (.t 4)
 (.seq
 (.reg [mv 5 0,rg 6 (.conv .u64 (.t 5)),rg 7 (.un .neg (.t 6)),rg 8 (.call 72 [(.t 7)]),rg 9 (.call 55 [(.c (.b true)),(.t 8)]),so (.store 2 (.t 2) (.t 9))])
 (.pre (.norm false [2]) .ret))
 .skip))
 (.seq
 (.reg [mv 10 0,rg 11 (.conv .u64 (.t 10)),rg 12 (.call 72 [(.t 11)]),rg 13 (.call 55 [(.c (.b false)),(.t 12)]),so (.store 2 (.t 2) (.t 13))])
 (.pre (.norm false [2]) .ret))))
def b36:AX:=
 (.seq
 (.reg [rg 2 (.xop (.box 2) [(.t 0)]),rg 3 (.xop (.box 2) [(.t 1)]),rg 4 (.mov (.c (.i .i64 0)))])
 (.seq
 (.reg [rg 5 (.load (some 2) (.t 2)),rg 6 (.load (some 2) (.t 3)),rg 7 (.call 25 [(.t 5),(.t 6)]),rg 8 (.call 37 [(.t 7)]),mv 4 8])
 (.pre (.norm false [4]) .ret)))
class CWhole (T:Tbl):Prop where
 h55:T 55=some ⟨2,13,[.cell 4 (some 2)],b55,none,false⟩
 h38:T 38=some ⟨1,9,[.cell 2 (some 2)],b38,none,false⟩
 h40:T 40=some ⟨1,10,[.cell 2 (some 2)],b40,none,false⟩
 h23:T 23=some ⟨2,39,[.cell 4 (some 2)],b23,none,false⟩
 h25:T 25=some ⟨2,9,[.cell 4 (some 2)],b25,none,false⟩
 h27:T 27=some ⟨2,16,[.cell 4 (some 2)],b27,none,false⟩
 h37:T 37=some ⟨1,10,[.t 2],b37,none,false⟩
 h41:T 41=some ⟨1,14,[.cell 2 (some 2)],b41,none,false⟩
 h36:T 36=some ⟨2,9,[.t 4],b36,none,false⟩
section
variable{T:Tbl}[CWhole T]{d:Option Nat}{st:St}
@[simp] theorem x55(xs:List AV):callX (orc T) T 55 xs d st=cP T 55 false xs d st:=zaa CWhole.h55
theorem f55(xs:List AV)(hn:xs.length=2):callF T 55 xs=retF [.cell 4 (some 2)] false (evX (orc T) T 0 b55 ⟨argEnv xs,[],1⟩):=zab CWhole.h55 hn
@[simp] theorem x38(xs:List AV):callX (orc T) T 38 xs d st=cP T 38 false xs d st:=zaa CWhole.h38
theorem f38(xs:List AV)(hn:xs.length=1):callF T 38 xs=retF [.cell 2 (some 2)] false (evX (orc T) T 0 b38 ⟨argEnv xs,[],1⟩):=zab CWhole.h38 hn
@[simp] theorem y40{e:Env}{h:Heap}{older:List Heap}(args:List Opd):opD (orc T) T (.call 40 args) e h older=dR (callF T 40 ((args.map (ev e.get)).map (wkIf false))) (args.map (ev e.get)):=zcb CWhole.h40
theorem f40(xs:List AV)(hn:xs.length=1):callF T 40 xs=retF [.cell 2 (some 2)] false (evX (orc T) T 0 b40 ⟨argEnv xs,[],1⟩):=zab CWhole.h40 hn
@[simp] theorem x23(xs:List AV):callX (orc T) T 23 xs d st=cP T 23 false xs d st:=zaa CWhole.h23
theorem f23(xs:List AV)(hn:xs.length=2):callF T 23 xs=retF [.cell 4 (some 2)] false (evX (orc T) T 0 b23 ⟨argEnv xs,[],1⟩):=zab CWhole.h23 hn
@[simp] theorem x25(xs:List AV):callX (orc T) T 25 xs d st=cP T 25 false xs d st:=zaa CWhole.h25
theorem f25(xs:List AV)(hn:xs.length=2):callF T 25 xs=retF [.cell 4 (some 2)] false (evX (orc T) T 0 b25 ⟨argEnv xs,[],1⟩):=zab CWhole.h25 hn
@[simp] theorem x27(xs:List AV):callX (orc T) T 27 xs d st=cP T 27 false xs d st:=zaa CWhole.h27
theorem f27(xs:List AV)(hn:xs.length=2):callF T 27 xs=retF [.cell 4 (some 2)] false (evX (orc T) T 0 b27 ⟨argEnv xs,[],1⟩):=zab CWhole.h27 hn
@[simp] theorem x37(xs:List AV):callX (orc T) T 37 xs d st=cP T 37 false xs d st:=zaa CWhole.h37
theorem f37(xs:List AV)(hn:xs.length=1):callF T 37 xs=retF [.t 2] false (evX (orc T) T 0 b37 ⟨argEnv xs,[],1⟩):=zab CWhole.h37 hn
@[simp] theorem x36(xs:List AV):callX (orc T) T 36 xs d st=cP T 36 false xs d st:=zaa CWhole.h36
theorem f36(xs:List AV)(hn:xs.length=2):callF T 36 xs=retF [.t 4] false (evX (orc T) T 0 b36 ⟨argEnv xs,[],1⟩):=zab CWhole.h36 hn
end
def l198_0:AX:=
 (.note
 (.seq
 (.seq
 (.reg [mv 5 1,rg 6 (.bin .neq (.t 5) (.c (u64 0)))])
 (.cond (.t 6)
 .skip
 (.exit 0)))
 (.block 1
 (.drawT [mv 7 1,mv 8 0,mv 9 1,rg 10 (.bin .rem (.t 8) (.t 9)),mv 0 7]
 [mv 1 10])))
 (.norm false [0,1]))
def b198:AX:=
 (.seq
 (.reg [rg 4 (.mov (.c (u64 0)))])
 (.seq
 (.lp 0 (.norm false [0,1]) l198_0 (.norm false [0]))
 (.seq
 (.reg [mv 11 0,mv 4 11])
 (.pre (.norm false [4]) .ret))))
def l199_0:AX:=
 (.note
 (.seq
 (.seq
 (.reg [mv 19 1,rg 20 (.len (.t 19)),rg 21 (.bin .gtr (.t 20) (.c (.i .i64 2)))])
 (.cond (.t 21)
 .skip
 (.exit 0)))
 (.block 1
 (.seq
 (.reg [mv 23 0,mv 24 1,rg 25 (.call 62 [(.t 23),(.t 24)]),mv 22 25,rg 26 (.ext (.t 22) 0),rg 27 (.ext (.t 22) 1),rg 28 (.ext (.t 22) 2),mv 5 26,mv 6 27,mv 7 28])
 (.reg [mv 29 1,mv 30 6,mv 0 29,mv 1 30]))))
 (.norm false [0,1]))
def b199:AX:=
 (.seq
 (.reg [rg 4 (.mov (.c (.sl [] .nl)))])
 (.seq
 (.reg [mv 15 0,rg 16 (.call 71 [(.t 15)]),mv 17 1,rg 18 (.call 71 [(.t 17)]),mv 0 16,mv 1 18])
 (.seq
 (.lp 0 (.norm false [0,1]) l199_0 (.norm false [0,1]))
 (.seq
 (.seq
 (.reg [mv 31 1,rg 32 (.len (.t 31)),rg 33 (.bin .eql (.t 32) (.c (.i .i64 0)))])
 (.cond (.t 33)
 (.seq
 (.reg [mv 34 0,mv 4 34])
 (.pre (.norm false [4]) .ret))
 .skip))
 (.seq
 (.reg [mv 36 0,mv 37 1,rg 38 (.call 62 [(.t 36),(.t 37)]),mv 35 38,rg 39 (.ext (.t 35) 0),rg 40 (.ext (.t 35) 1),rg 41 (.ext (.t 35) 2),mv 8 39,mv 9 40,mv 10 41])
 (.seq
 (.reg [mv 43 1,rg 44 (.call 73 [(.t 43)]),mv 42 44,rg 45 (.ext (.t 42) 0),rg 46 (.ext (.t 42) 1),mv 11 45,mv 12 46])
 (.seq
 (.reg [mv 48 9,rg 49 (.call 73 [(.t 48)]),mv 47 49,rg 50 (.ext (.t 47) 0),rg 51 (.ext (.t 47) 1),mv 13 50,mv 14 51])
 (.seq
 (.reg [mv 52 11,mv 53 13,rg 54 (.call 198 [(.t 52),(.t 53)]),rg 55 (.call 72 [(.t 54)]),mv 4 55])
 (.pre (.norm false [4]) .ret)))))))))
def b200:AX:=
 (.seq
 (.reg [rg 2 (.mov (.c (.b false)))])
 (.seq
 (.reg [mv 3 0,rg 4 (.len (.t 3)),rg 5 (.bin .eql (.t 4) (.c (.i .i64 1))),mv 6 5,gd 7 6 true (.mov (.t 0)),gd 8 6 true (.iad 1 (.t 7) (.c (.i .i64 0))),gd 9 6 true (.load none (.t 8)),gd 10 6 true (.bin .eql (.t 9) (.c (u32 1))),rg 11 (.pick (.t 6) (.t 10) (.c (.b false))),mv 2 11])
 (.pre (.norm false [2]) .ret)))
def b201:AX:=
 (.seq
 (.reg [rg 4 (.mov (.c (.sl [] .nl))),rg 5 (.mov (.c (.sl [] .nl)))])
 (.seq
 (.reg [mv 7 0,mv 8 1,rg 9 (.call 199 [(.t 7),(.t 8)]),mv 6 9])
 (.seq
 (.block 0
 (.seq
 (.reg [mv 11 6,rg 12 (.len (.t 11)),rg 13 (.bin .eql (.t 12) (.c (.i .i64 0))),mv 10 13])
 (.cond (.t 10)
 (.seq
 (.reg [rg 4 (.mov (.c (.sl [] .nl))),rg 5 (.mov (.c (.sl [] .nl)))])
 (.pre (.norm false [4,5]) .ret))
 (.seq
 (.reg [mv 15 6,rg 16 (.call 200 [(.t 15)]),mv 14 16])
 (.cond (.t 14)
 (.seq
 (.reg [mv 17 0,rg 18 (.call 71 [(.t 17)]),mv 19 1,rg 20 (.call 71 [(.t 19)]),mv 4 18,mv 5 20])
 (.pre (.norm false [4,5]) .ret))
 .skip)))))
 (.seq
 (.reg [mv 22 0,mv 23 6,rg 24 (.call 62 [(.t 22),(.t 23)]),mv 21 24,rg 25 (.ext (.t 21) 0),rg 26 (.ext (.t 21) 1),rg 27 (.ext (.t 21) 2),mv 4 25])
 (.seq
 (.reg [mv 29 1,mv 30 6,rg 31 (.call 62 [(.t 29),(.t 30)]),mv 28 31,rg 32 (.ext (.t 28) 0),rg 33 (.ext (.t 28) 1),rg 34 (.ext (.t 28) 2),mv 5 32])
 (.seq
 (.reg [mv 35 4,mv 36 5,mv 4 35,mv 5 36])
 (.pre (.norm false [4,5]) .ret)))))))
class CCommon (T:Tbl):Prop where
 h198:T 198=some ⟨2,12,[.t 4],b198,none,false⟩
 h199:T 199=some ⟨2,56,[.t 4],b199,none,false⟩
 h200:T 200=some ⟨1,12,[.t 2],b200,none,false⟩
 h201:T 201=some ⟨2,37,[.t 4,.t 5],b201,none,false⟩
section
variable{T:Tbl}[CCommon T]{d:Option Nat}{st:St}{xs:List AV}{ps:List Opd}{e:Env}{h:Heap}{ol:List Heap}
@[simp] theorem x198:callX (orc T) T 198 xs d st=cP T 198 false xs d st:=zaa CCommon.h198
theorem f198(xs:List AV)(hn:xs.length=2):callF T 198 xs=retF [.t 4] false (evX (orc T) T 0 b198 ⟨argEnv xs,[],1⟩):=zab CCommon.h198 hn
@[simp] theorem x199:callX (orc T) T 199 xs d st=cP T 199 false xs d st:=zaa CCommon.h199
theorem f199(xs:List AV)(hn:xs.length=2):callF T 199 xs=retF [.t 4] false (evX (orc T) T 0 b199 ⟨argEnv xs,[],1⟩):=zab CCommon.h199 hn
@[simp] theorem x200:callX (orc T) T 200 xs d st=cP T 200 false xs d st:=zaa CCommon.h200
theorem f200(xs:List AV)(hn:xs.length=1):callF T 200 xs=retF [.t 2] false (evX (orc T) T 0 b200 ⟨argEnv xs,[],1⟩):=zab CCommon.h200 hn
@[simp] theorem x201:callX (orc T) T 201 xs d st=cP T 201 false xs d st:=zaa CCommon.h201
theorem f201(xs:List AV)(hn:xs.length=2):callF T 201 xs=retF [.t 4,.t 5] false (evX (orc T) T 0 b201 ⟨argEnv xs,[],1⟩):=zab CCommon.h201 hn
end
def b202:AX:=
 (.seq
 (.reg [rg 2 (.xop (.box 2) [(.t 0)]),rg 4 (.alloc [(.b false),(.sl [] .nl),(.sl [] .nl)])])
 (.seq
 (.reg [rg 8 (.fad 1 (.t 2)),rg 9 (.load none (.t 8)),mv 10 1,rg 11 (.call 201 [(.t 9),(.t 10)]),mv 7 11,rg 12 (.ext (.t 7) 0),rg 13 (.ext (.t 7) 1),mv 5 12,mv 6 13])
 (.seq
 (.reg [rg 14 (.fad 0 (.t 2)),rg 15 (.load none (.t 14)),mv 16 5,rg 17 (.build [(.b false),(.sl [] .nl)] [(0,1,(.t 15)),(1,1,(.t 16))]),rg 18 (.call 38 [(.t 17)]),mv 19 6,rg 20 (.build [(.b false),(.sl [] .nl),(.sl [] .nl)] [(0,2,(.t 18)),(2,1,(.t 19))]),so (.store 3 (.t 4) (.t 20))])
 (.pre (.norm false [4]) .ret))))
def b203:AX:=
 (.seq
 (.reg [rg 1 (.xop (.box 3) [(.t 0)]),rg 2 (.alloc [(.b false),(.sl [] .nl)]),rg 3 (.mov (.c (.sl [] .nl)))])
 (.seq
 (.seq
 (.reg [rg 4 (.fad 2 (.t 1)),rg 5 (.load none (.t 4)),rg 6 (.call 70 [(.t 5)])])
 (.cond (.t 6)
 (.seq
 (.reg [rg 7 (.build [(.b false),(.sl [] .nl)] []),rg 8 (.call 72 [(.c (u64 1))]),so (.store 2 (.t 2) (.t 7)),mv 3 8])
 (.pre (.norm false [2,3]) .ret))
 .skip))
 (.seq
 (.draw [⟨rg 9 (.fad 0 (.t 1)),0,0⟩,⟨rg 10 (.load (some 2) (.t 9)),0,0⟩,⟨rg 11 (.fad 2 (.t 1)),0,1⟩,⟨rg 12 (.load none (.t 11)),0,1⟩,⟨so (.store 2 (.t 2) (.t 10)),0,1⟩,⟨mv 3 12,1,1⟩])
 (.pre (.norm false [2,3]) .ret))))
def b205:AX:=
 (.seq
 (.reg [rg 2 (.alloc [(.b false),(.sl [] .nl),(.sl [] .nl)])])
 (.seq
 (.reg [mv 3 0,rg 4 (.call 41 [(.t 3)]),rg 5 (.call 72 [(.c (u64 1))]),rg 6 (.build [(.b false),(.sl [] .nl),(.sl [] .nl)] [(0,2,(.t 4)),(2,1,(.t 5))]),so (.store 3 (.t 2) (.t 6))])
 (.pre (.norm false [2]) .ret)))
def b207:AX:=
 (.seq
 (.reg [rg 1 (.xop (.box 3) [(.t 0)]),rg 2 (.alloc [(.b false),(.sl [] .nl),(.sl [] .nl)])])
 (.seq
 (.reg [rg 3 (.load (some 3) (.t 1)),rg 4 (.call 203 [(.t 3)]),rg 5 (.ext (.t 4) 0),rg 6 (.ext (.t 4) 1),rg 7 (.call 202 [(.t 5),(.t 6)]),so (.store 3 (.t 2) (.t 7))])
 (.pre (.norm false [2]) .ret)))
def b210:AX:=
 (.seq
 (.reg [rg 2 (.xop (.box 2) [(.t 0)]),rg 4 (.alloc [(.b false),(.sl [] .nl)])])
 (.seq
 (.reg [rg 5 (.load (some 2) (.t 2)),mv 6 1,rg 7 (.build [(.b false),(.sl [] .nl)] [(1,1,(.t 6))]),rg 8 (.call 27 [(.t 5),(.t 7)]),so (.store 2 (.t 4) (.t 8))])
 (.pre (.norm false [4]) .ret)))
def b211:AX:=
 (.seq
 (.reg [rg 2 (.xop (.box 3) [(.t 0)]),rg 3 (.xop (.box 3) [(.t 1)]),rg 4 (.mov (.c (.i .i64 0)))])
 (.seq
 (.reg [rg 10 (.load (some 3) (.t 2)),rg 11 (.call 203 [(.t 10)]),mv 9 11,rg 12 (.ext (.t 9) 0),rg 13 (.ext (.t 9) 1),rg 5 (.alloc [(.b false),(.sl [] .nl)]),so (.store 2 (.t 5) (.t 12)),mv 6 13])
 (.seq
 (.reg [rg 15 (.load (some 3) (.t 3)),rg 16 (.call 203 [(.t 15)]),mv 14 16,rg 17 (.ext (.t 14) 0),rg 18 (.ext (.t 14) 1),rg 7 (.alloc [(.b false),(.sl [] .nl)]),so (.store 2 (.t 7) (.t 17)),mv 8 18])
 (.seq
 (.drawT [rg 19 (.load (some 2) (.t 5)),mv 20 8,rg 21 (.call 210 [(.t 19),(.t 20)]),rg 22 (.load (some 2) (.t 7)),mv 23 6]
 [rg 24 (.call 210 [(.t 22),(.t 23)]),rg 25 (.call 36 [(.t 21),(.t 24)]),mv 4 25])
 (.pre (.norm false [4]) .ret)))))
def b212:AX:=
 (.seq
 (.reg [rg 2 (.xop (.box 3) [(.t 0)]),rg 3 (.xop (.box 3) [(.t 1)]),rg 4 (.mov (.c (.b false)))])
 (.seq
 (.reg [rg 5 (.load (some 3) (.t 2)),rg 6 (.load (some 3) (.t 3)),rg 7 (.call 211 [(.t 5),(.t 6)]),rg 8 (.bin .eql (.t 7) (.c (.i .i64 0))),mv 4 8])
 (.pre (.norm false [4]) .ret)))
class CFrac (T:Tbl):Prop where
 h202:T 202=some ⟨2,21,[.cell 4 (some 3)],b202,none,false⟩
 h203:T 203=some ⟨1,13,[.cell 2 (some 2),.t 3],b203,none,false⟩
 h205:T 205=some ⟨1,7,[.cell 2 (some 3)],b205,none,false⟩
 h207:T 207=some ⟨1,8,[.cell 2 (some 3)],b207,none,false⟩
 h210:T 210=some ⟨2,9,[.cell 4 (some 2)],b210,none,false⟩
 h211:T 211=some ⟨2,26,[.t 4],b211,none,false⟩
 h212:T 212=some ⟨2,9,[.t 4],b212,none,false⟩
section
variable{T:Tbl}[CFrac T]{d:Option Nat}{st:St}{xs:List AV}{ps:List Opd}{e:Env}{h:Heap}{ol:List Heap}
@[simp] theorem x202:callX (orc T) T 202 xs d st=cP T 202 false xs d st:=zaa CFrac.h202
theorem f202(xs:List AV)(hn:xs.length=2):callF T 202 xs=retF [.cell 4 (some 3)] false (evX (orc T) T 0 b202 ⟨argEnv xs,[],1⟩):=zab CFrac.h202 hn
@[simp] theorem x203:callX (orc T) T 203 xs d st=cP T 203 false xs d st:=zaa CFrac.h203
theorem f203(xs:List AV)(hn:xs.length=1):callF T 203 xs=retF [.cell 2 (some 2),.t 3] false (evX (orc T) T 0 b203 ⟨argEnv xs,[],1⟩):=zab CFrac.h203 hn
@[simp] theorem x207:callX (orc T) T 207 xs d st=cP T 207 false xs d st:=zaa CFrac.h207
theorem f207(xs:List AV)(hn:xs.length=1):callF T 207 xs=retF [.cell 2 (some 3)] false (evX (orc T) T 0 b207 ⟨argEnv xs,[],1⟩):=zab CFrac.h207 hn
@[simp] theorem x210:callX (orc T) T 210 xs d st=cP T 210 false xs d st:=zaa CFrac.h210
@[simp] theorem y210:opD (orc T) T (.call 210 ps) e h ol=dP T 210 false ps e:=zcb CFrac.h210
theorem f210(xs:List AV)(hn:xs.length=2):callF T 210 xs=retF [.cell 4 (some 2)] false (evX (orc T) T 0 b210 ⟨argEnv xs,[],1⟩):=zab CFrac.h210 hn
@[simp] theorem x211:callX (orc T) T 211 xs d st=cP T 211 false xs d st:=zaa CFrac.h211
theorem f211(xs:List AV)(hn:xs.length=2):callF T 211 xs=retF [.t 4] false (evX (orc T) T 0 b211 ⟨argEnv xs,[],1⟩):=zab CFrac.h211 hn
@[simp] theorem x212:callX (orc T) T 212 xs d st=cP T 212 false xs d st:=zaa CFrac.h212
theorem f212(xs:List AV)(hn:xs.length=2):callF T 212 xs=retF [.t 4] false (evX (orc T) T 0 b212 ⟨argEnv xs,[],1⟩):=zab CFrac.h212 hn
end
def b204:AX:=
 (.seq
 (.reg [rg 2 (.xop (.box 2) [(.t 0)]),rg 4 (.alloc [(.b false),(.sl [] .nl),(.sl [] .nl)]),rg 5 (.mov (.c (.b false)))])
 (.seq
 (.seq
 (.reg [mv 6 1,rg 7 (.call 70 [(.t 6)])])
 (.cond (.t 7)
 (.seq
 (.reg [rg 8 (.call 205 [(.c (.i .i64 0))]),so (.store 3 (.t 4) (.t 8)),rg 5 (.mov (.c (.b false)))])
 (.pre (.norm false [4,5]) .ret))
 .skip))
 (.seq
 (.reg [rg 9 (.load (some 2) (.t 2)),mv 10 1,rg 11 (.call 202 [(.t 9),(.t 10)]),so (.store 3 (.t 4) (.t 11)),rg 5 (.mov (.c (.b true)))])
 (.pre (.norm false [4,5]) .ret))))
class CFrac2 (T:Tbl):Prop where
 h204:T 204=some ⟨2,12,[.cell 4 (some 3),.t 5],b204,none,false⟩
section
variable{T:Tbl}[CFrac2 T]{d:Option Nat}{st:St}{xs:List AV}{ps:List Opd}{e:Env}{h:Heap}{ol:List Heap}
@[simp] theorem x204:callX (orc T) T 204 xs d st=cP T 204 false xs d st:=zaa CFrac2.h204
theorem f204(xs:List AV)(hn:xs.length=2):callF T 204 xs=retF [.cell 4 (some 3),.t 5] false (evX (orc T) T 0 b204 ⟨argEnv xs,[],1⟩):=zab CFrac2.h204 hn
end
def b208:AX:=
 (.seq
 (.reg [rg 1 (.xop (.box 3) [(.t 0)]),rg 2 (.mov (.c (.b false)))])
 (.seq
 (.reg [rg 4 (.load (some 3) (.t 1)),rg 5 (.call 207 [(.t 4)]),rg 3 (.alloc [(.b false),(.sl [] .nl),(.sl [] .nl)]),so (.store 3 (.t 3) (.t 5))])
 (.seq
 (.reg [rg 6 (.fad 0 (.t 1)),rg 7 (.fad 0 (.t 6)),rg 8 (.load none (.t 7)),rg 9 (.fad 0 (.t 3)),rg 10 (.fad 0 (.t 9)),rg 11 (.load none (.t 10)),rg 12 (.eqb false (.t 8) (.t 11)),mv 13 12,gd 14 13 true (.fad 0 (.t 1)),gd 15 13 true (.fad 1 (.t 14)),gd 16 13 true (.load none (.t 15)),gd 17 13 true (.len (.t 16)),gd 18 13 true (.fad 0 (.t 3)),gd 19 13 true (.fad 1 (.t 18)),gd 20 13 true (.load none (.t 19)),gd 21 13 true (.len (.t 20)),gd 22 13 true (.bin .eql (.t 17) (.t 21)),rg 23 (.pick (.t 13) (.t 22) (.c (.b false))),mv 24 23,gd 25 24 true (.fad 2 (.t 1)),gd 26 24 true (.load none (.t 25)),gd 27 24 true (.len (.t 26)),gd 28 24 true (.fad 2 (.t 3)),gd 29 24 true (.load none (.t 28)),gd 30 24 true (.len (.t 29)),gd 31 24 true (.bin .eql (.t 27) (.t 30)),rg 32 (.pick (.t 24) (.t 31) (.c (.b false))),mv 33 32,gd 34 33 true (.fad 0 (.t 1)),gd 35 33 true (.fad 1 (.t 34)),gd 36 33 true (.load none (.t 35)),gd 37 33 true (.fad 0 (.t 3)),gd 38 33 true (.fad 1 (.t 37)),gd 39 33 true (.load none (.t 38)),gd 40 33 true (.call 87 [(.t 36),(.t 39)]),gd 41 33 true (.bin .eql (.t 40) (.c (.i .i64 0))),rg 42 (.pick (.t 33) (.t 41) (.c (.b false))),mv 43 42,gd 44 43 true (.fad 2 (.t 1)),gd 45 43 true (.load none (.t 44)),gd 46 43 true (.fad 2 (.t 3)),gd 47 43 true (.load none (.t 46)),gd 48 43 true (.call 87 [(.t 45),(.t 47)]),gd 49 43 true (.bin .eql (.t 48) (.c (.i .i64 0))),rg 50 (.pick (.t 43) (.t 49) (.c (.b false))),mv 2 50])
 (.pre (.norm false [2]) .ret))))
class CFrac3 (T:Tbl):Prop where
 h208:T 208=some ⟨1,51,[.t 2],b208,none,false⟩
section
variable{T:Tbl}[CFrac3 T]{d:Option Nat}{st:St}{xs:List AV}{ps:List Opd}{e:Env}{h:Heap}{ol:List Heap}
@[simp] theorem x208:callX (orc T) T 208 xs d st=cP T 208 false xs d st:=zaa CFrac3.h208
theorem f208(xs:List AV)(hn:xs.length=1):callF T 208 xs=retF [.t 2] false (evX (orc T) T 0 b208 ⟨argEnv xs,[],1⟩):=zab CFrac3.h208 hn
end
class CFrac5 (T:Tbl):Prop where
class CPow (T:Tbl):Prop where
class CRef06 (T:Tbl):Prop where
section
variable{T:Tbl}[CRef07 T]
def stTen(N:Nat)(y:Nat×Nat×List UInt32)(P:List UInt32):St:=
 ⟨[(0,.bs (.bor 0) 0 1 0 N),(3,u64 y.2.1),(4,.i .i64 ((y.1:Int)-1))],[(.bor 0,⟨0,.own,1,u32s (P.take y.1++y.2.2)⟩)],4⟩
end
section
variable{T:Tbl}[CRef07 T]
def stTx(b:BId)(x:List UInt32)(s:List UInt8):St:=⟨[(3,.bs b 1 1 0 x.length),(4,.s s)],[(b,⟨1,.own,1,u32s x⟩)],3⟩
end
class CRef08 (T:Tbl):Prop extends CRef07 T where
class CRef09 (T:Tbl):Prop where
class CRef11 (T:Tbl):Prop where
class CLaw09 (T:Tbl):Prop where
class CLaw11 (T:Tbl):Prop where
def b421:AX:=
 (.seq
 (.reg [rg 1 (.xop (.box 4) [(.t 0)]),rg 2 (.mov (.c (.b false)))])
 (.seq
 (.reg [rg 3 (.load (some 4) (.t 1)),rg 4 (.call 430 [(.t 3)]),rg 5 (.bin .eql (.t 4) (.c (.i .i64 (-1)))),mv 2 5])
 (.pre (.norm false [2]) .ret)))
def l430_0:AX:=
 (.note
 (.seq
 (.reg [rg 13 (.bin .lss (.t 12) (.t 11))])
 (.seq
 (.cond (.t 13)
 .skip
 (.exit 0))
 (.seq
 (.block 1
 (.seq
 (.reg [mv 14 12,mv 3 14])
 (.seq
 (.reg [rg 15 (.load (some 4) (.t 1)),mv 16 3,rg 17 (.call 434 [(.t 15),(.t 16)]),rg 18 (.un .not (.t 17))])
 (.cond (.t 18)
 (.seq
 (.reg [mv 19 3,mv 2 19])
 (.pre (.norm false [2]) .ret))
 .skip))))
 (.reg [rg 20 (.bin .add (.t 12) (.c (.i .i64 1))),mv 12 20]))))
 (.norm false [1,11,12]))
def l430_1:AX:=
 (.note
 (.seq
 (.reg [rg 25 (.bin .lss (.t 24) (.t 23))])
 (.seq
 (.cond (.t 25)
 .skip
 (.exit 2))
 (.seq
 (.block 3
 (.seq
 (.reg [rg 26 (.iad 1 (.t 22) (.t 24)),rg 27 (.load none (.t 26)),mv 5 27])
 (.seq
 (.reg [mv 28 5,rg 29 (.fad 0 (.t 1)),rg 30 (.load none (.t 29)),rg 31 (.len (.t 30)),rg 32 (.call 435 [(.t 28),(.t 31)]),rg 33 (.un .not (.t 32))])
 (.cond (.t 33)
 (.seq
 (.reg [rg 34 (.fad 0 (.t 1)),rg 35 (.load none (.t 34)),rg 36 (.len (.t 35)),mv 2 36])
 (.pre (.norm false [2]) .ret))
 .skip))))
 (.reg [rg 37 (.bin .add (.t 24) (.c (.i .i64 1))),mv 24 37]))))
 (.norm false [1,22,23,24]))
def b430:AX:=
 (.seq
 (.reg [rg 1 (.xop (.box 4) [(.t 0)]),rg 2 (.mov (.c (.i .i64 0)))])
 (.seq
 (.seq
 (.reg [rg 6 (.load (some 4) (.t 1)),rg 7 (.call 433 [(.t 6)]),rg 8 (.un .not (.t 7))])
 (.cond (.t 8)
 (.seq
 (.reg [rg 2 (.mov (.c (.i .i64 (-2))))])
 (.pre (.norm false [2]) .ret))
 .skip))
 (.seq
 (.seq
 (.reg [rg 9 (.fad 0 (.t 1)),rg 10 (.load none (.t 9)),rg 11 (.len (.t 10)),rg 12 (.mov (.c (.i .i64 0)))])
 (.lp 0 (.norm false [1,11,12]) l430_0 (.norm false [1])))
 (.seq
 (.seq
 (.reg [rg 21 (.fad 1 (.t 1)),rg 22 (.load none (.t 21)),rg 23 (.len (.t 22)),rg 24 (.mov (.c (.i .i64 0)))])
 (.lp 2 (.norm false [1,22,23,24]) l430_1 (.norm false [])))
 (.seq
 (.reg [rg 2 (.mov (.c (.i .i64 (-1))))])
 (.pre (.norm false [2]) .ret))))))
def b433:AX:=
 (.seq
 (.reg [rg 1 (.xop (.box 4) [(.t 0)]),rg 2 (.mov (.c (.b false)))])
 (.seq
 (.reg [rg 3 (.fad 2 (.t 1)),rg 4 (.load none (.t 3)),rg 5 (.bin .sub (.t 4) (.c (.i .i64 1))),rg 6 (.call 435 [(.t 5),(.c (.i .i64 6))]),mv 7 6,gd 8 7 true (.fad 3 (.t 1)),gd 9 7 true (.load none (.t 8)),gd 10 7 true (.call 435 [(.t 9),(.c (.i .i64 7))]),rg 11 (.pick (.t 7) (.t 10) (.c (.b false))),mv 12 11,gd 13 12 true (.fad 1 (.t 1)),gd 14 12 true (.load none (.t 13)),gd 15 12 true (.len (.t 14)),gd 16 12 true (.fad 2 (.t 1)),gd 17 12 true (.load none (.t 16)),gd 18 12 true (.bin .eql (.t 15) (.t 17)),rg 19 (.pick (.t 12) (.t 18) (.c (.b false))),mv 20 19,gd 21 20 true (.fad 0 (.t 1)),gd 22 20 true (.load none (.t 21)),gd 23 20 true (.len (.t 22)),gd 24 20 true (.bin .leq (.t 23) (.c (.i .i64 300))),rg 25 (.pick (.t 20) (.t 24) (.c (.b false))),mv 2 25])
 (.pre (.norm false [2]) .ret)))
def l434_0:AX:=
 (.note
 (.seq
 (.reg [rg 33 (.bin .lss (.t 32) (.t 31))])
 (.seq
 (.cond (.t 33)
 .skip
 (.exit 0))
 (.seq
 (.block 1
 (.seq
 (.reg [rg 34 (.iad 1 (.t 30) (.t 32)),rg 35 (.load none (.t 34)),mv 7 35])
 (.seq
 (.reg [mv 36 7,mv 37 1,rg 38 (.call 435 [(.t 36),(.t 37)]),rg 39 (.un .not (.t 38))])
 (.cond (.t 39)
 (.seq
 (.reg [rg 4 (.mov (.c (.b false)))])
 (.pre (.norm false [4]) .ret))
 .skip))))
 (.reg [rg 40 (.bin .add (.t 32) (.c (.i .i64 1))),mv 32 40]))))
 (.norm false [1,2,5,30,31,32]))
def b434:AX:=
 (.seq
 (.reg [rg 2 (.xop (.box 4) [(.t 0)]),rg 4 (.mov (.c (.b false)))])
 (.seq
 (.reg [rg 8 (.fad 0 (.t 2)),rg 9 (.load none (.t 8)),mv 10 1,rg 11 (.iad 6 (.t 9) (.t 10)),rg 12 (.load (some 6) (.t 11)),rg 5 (.alloc [(.i .i64 0),(.i .i64 0),(.i .i64 0),(.b false),(.sl [] .nl),(.sl [] .nl)]),so (.store 6 (.t 5) (.t 12))])
 (.seq
 (.seq
 (.reg [rg 13 (.fad 0 (.t 5)),rg 14 (.load none (.t 13)),rg 15 (.bin .eql (.t 14) (.c (.i .i64 1)))])
 (.cond (.t 15)
 (.seq
 (.reg [rg 16 (.load (some 6) (.t 5)),rg 17 (.call 437 [(.t 16)]),rg 18 (.build [(.i .i64 0),(.i .i64 0),(.i .i64 0)] [(0,1,(.c (.i .i64 1)))]),rg 19 (.eqs false [(0,.int),(1,.int),(2,.int)] (.t 17) (.t 18)),mv 20 19,gd 21 20 true (.fad 3 (.t 5)),gd 22 20 true (.load (some 3) (.t 21)),gd 23 20 true (.call 208 [(.t 22)]),rg 24 (.pick (.t 20) (.t 23) (.c (.b false))),mv 4 24])
 (.pre (.norm false [4]) .ret))
 .skip))
 (.seq
 (.seq
 (.reg [rg 25 (.fad 3 (.t 5)),rg 26 (.load (some 3) (.t 25)),rg 27 (.call 438 [(.t 26)]),rg 28 (.un .not (.t 27))])
 (.cond (.t 28)
 (.seq
 (.reg [rg 4 (.mov (.c (.b false)))])
 (.pre (.norm false [4]) .ret))
 .skip))
 (.seq
 (.seq
 (.reg [rg 29 (.load (some 6) (.t 5)),rg 30 (.call 439 [(.t 29)]),rg 31 (.len (.t 30)),rg 32 (.mov (.c (.i .i64 0)))])
 (.lp 0 (.norm false [1,2,5,30,31,32]) l434_0 (.norm false [2,5])))
 (.seq
 (.seq
 (.reg [rg 41 (.fad 0 (.t 5)),rg 42 (.load none (.t 41))])
 (.block 2
 (.seq
 (.reg [rg 44 (.bin .eql (.t 42) (.c (.i .i64 2))),mv 43 44])
 (.cond (.t 43)
 (.seq
 (.reg [rg 45 (.load (some 6) (.t 5)),rg 46 (.call 437 [(.t 45)]),rg 47 (.build [(.i .i64 0),(.i .i64 0),(.i .i64 0)] [(0,1,(.c (.i .i64 2)))]),rg 48 (.eqs false [(0,.int),(1,.int),(2,.int)] (.t 46) (.t 47)),mv 4 48])
 (.pre (.norm false [4]) .ret))
 (.seq
 (.reg [rg 50 (.bin .eql (.t 42) (.c (.i .i64 3))),mv 49 50])
 (.cond (.t 49)
 (.seq
 (.reg [rg 51 (.fad 1 (.t 5)),rg 52 (.load none (.t 51)),rg 53 (.fad 2 (.t 2)),rg 54 (.load none (.t 53)),rg 55 (.call 435 [(.t 52),(.t 54)]),mv 56 55,gd 57 56 true (.fad 2 (.t 5)),gd 58 56 true (.load none (.t 57)),gd 59 56 true (.bin .eql (.t 58) (.c (.i .i64 0))),rg 60 (.pick (.t 56) (.t 59) (.c (.b false))),mv 4 60])
 (.pre (.norm false [4]) .ret))
 (.seq
 (.reg [rg 62 (.bin .eql (.t 42) (.c (.i .i64 4))),mv 61 62])
 (.cond (.t 61)
 (.seq
 (.reg [rg 63 (.fad 1 (.t 5)),rg 64 (.load none (.t 63)),rg 65 (.fad 3 (.t 2)),rg 66 (.load none (.t 65)),rg 67 (.call 435 [(.t 64),(.t 66)]),mv 68 67,gd 69 68 true (.fad 2 (.t 5)),gd 70 68 true (.load none (.t 69)),gd 71 68 true (.bin .eql (.t 70) (.c (.i .i64 0))),rg 72 (.pick (.t 68) (.t 71) (.c (.b false))),mv 4 72])
 (.pre (.norm false [4]) .ret))
 (.seq
 (.reg [rg 74 (.bin .eql (.t 42) (.c (.i .i64 6))),mv 73 74])
 (.cond (.t 73)
 (.seq
 (.reg [rg 75 (.fad 2 (.t 5)),rg 76 (.load none (.t 75)),rg 77 (.bin .eql (.t 76) (.c (.i .i64 0))),mv 4 77])
 (.pre (.norm false [4]) .ret))
 (.seq
 (.reg [rg 79 (.bin .eql (.t 42) (.c (.i .i64 11))),mv 78 79])
 (.cond (.t 78)
 (.seq
 (.reg [rg 80 (.fad 2 (.t 5)),rg 81 (.load none (.t 80)),rg 82 (.bin .geq (.t 81) (.c (.i .i64 (-8)))),mv 83 82,gd 84 83 true (.fad 2 (.t 5)),gd 85 83 true (.load none (.t 84)),gd 86 83 true (.bin .leq (.t 85) (.c (.i .i64 8))),rg 87 (.pick (.t 83) (.t 86) (.c (.b false))),mv 4 87])
 (.pre (.norm false [4]) .ret))
 .skip))))))))))))
 (.seq
 (.reg [rg 88 (.load (some 6) (.t 5)),rg 89 (.call 439 [(.t 88)]),rg 90 (.len (.t 89)),rg 91 (.bin .eql (.t 90) (.c (.i .i64 2))),mv 4 91])
 (.pre (.norm false [4]) .ret))))))))
def b435:AX:=
 (.seq
 (.reg [rg 4 (.mov (.c (.b false)))])
 (.seq
 (.reg [mv 5 0,rg 6 (.bin .geq (.t 5) (.c (.i .i64 0))),mv 7 6,gd 8 7 true (.mov (.t 0)),gd 9 7 true (.mov (.t 1)),gd 10 7 true (.bin .lss (.t 8) (.t 9)),rg 11 (.pick (.t 7) (.t 10) (.c (.b false))),mv 4 11])
 (.pre (.norm false [4]) .ret)))
def b437:AX:=
 (.seq
 (.reg [rg 1 (.xop (.box 6) [(.t 0)]),rg 2 (.alloc [(.i .i64 0),(.i .i64 0),(.i .i64 0)])])
 (.seq
 (.reg [rg 3 (.fad 0 (.t 1)),rg 4 (.load none (.t 3)),rg 5 (.fad 1 (.t 1)),rg 6 (.load none (.t 5)),rg 7 (.fad 2 (.t 1)),rg 8 (.load none (.t 7)),rg 9 (.build [(.i .i64 0),(.i .i64 0),(.i .i64 0)] [(0,1,(.t 4)),(1,1,(.t 6)),(2,1,(.t 8))]),so (.store 3 (.t 2) (.t 9))])
 (.pre (.norm false [2]) .ret)))
def b438:AX:=
 (.seq
 (.reg [rg 1 (.xop (.box 3) [(.t 0)]),rg 2 (.mov (.c (.b false)))])
 (.seq
 (.reg [rg 3 (.fad 0 (.t 1)),rg 4 (.fad 0 (.t 3)),rg 5 (.load none (.t 4)),rg 6 (.un .not (.t 5)),mv 7 6,gd 8 7 true (.fad 0 (.t 1)),gd 9 7 true (.fad 1 (.t 8)),gd 10 7 true (.load none (.t 9)),gd 11 7 true (.len (.t 10)),gd 12 7 true (.bin .eql (.t 11) (.c (.i .i64 0))),rg 13 (.pick (.t 7) (.t 12) (.c (.b false))),mv 14 13,gd 15 14 true (.fad 2 (.t 1)),gd 16 14 true (.load none (.t 15)),gd 17 14 true (.len (.t 16)),gd 18 14 true (.bin .eql (.t 17) (.c (.i .i64 0))),rg 19 (.pick (.t 14) (.t 18) (.c (.b false))),mv 2 19])
 (.pre (.norm false [2]) .ret)))
def b439:AX:=
 (.seq
 (.reg [rg 1 (.xop (.box 6) [(.t 0)]),rg 2 (.mov (.c (.sl [] .nl)))])
 (.seq
 (.seq
 (.reg [rg 3 (.fad 0 (.t 1)),rg 4 (.load none (.t 3))])
 (.block 0
 (.seq
 (.seq
 (.reg [rg 6 (.bin .eql (.t 4) (.c (.i .i64 6))),mv 5 6])
 (.cond (.t 5)
 .skip
 (.reg [rg 7 (.bin .eql (.t 4) (.c (.i .i64 11))),mv 5 7])))
 (.cond (.t 5)
 (.seq
 (.reg [rg 8 (.fad 1 (.t 1)),rg 9 (.load none (.t 8)),rg 10 (.bsl 1 [(.i .i64 0)] 1 [(0,(.t 9))]),mv 2 10])
 (.pre (.norm false [2]) .ret))
 (.seq
 (.seq
 (.reg [rg 12 (.bin .eql (.t 4) (.c (.i .i64 7))),mv 11 12])
 (.cond (.t 11)
 .skip
 (.seq
 (.reg [rg 13 (.bin .eql (.t 4) (.c (.i .i64 8))),mv 11 13])
 (.cond (.t 11)
 .skip
 (.seq
 (.reg [rg 14 (.bin .eql (.t 4) (.c (.i .i64 9))),mv 11 14])
 (.cond (.t 11)
 .skip
 (.reg [rg 15 (.bin .eql (.t 4) (.c (.i .i64 10))),mv 11 15])))))))
 (.cond (.t 11)
 (.seq
 (.reg [rg 16 (.fad 1 (.t 1)),rg 17 (.load none (.t 16)),rg 18 (.fad 2 (.t 1)),rg 19 (.load none (.t 18)),rg 20 (.bsl 1 [(.i .i64 0)] 2 [(0,(.t 17)),(1,(.t 19))]),mv 2 20])
 (.pre (.norm false [2]) .ret))
 .skip))))))
 (.seq
 (.reg [rg 2 (.mov (.c (.sl [] .nl)))])
 (.pre (.norm false [2]) .ret))))
class CTape (T:Tbl):Prop where
 h421:T 421=some ⟨1,6,[.t 2],b421,none,false⟩
 h430:T 430=some ⟨1,38,[.t 2],b430,none,false⟩
 h433:T 433=some ⟨1,26,[.t 2],b433,none,false⟩
 h434:T 434=some ⟨2,92,[.t 4],b434,none,false⟩
 h435:T 435=some ⟨2,12,[.t 4],b435,none,false⟩
 h437:T 437=some ⟨1,10,[.cell 2 (some 3)],b437,none,false⟩
 h438:T 438=some ⟨1,20,[.t 2],b438,none,false⟩
 h439:T 439=some ⟨1,21,[.t 2],b439,none,false⟩
section
variable{T:Tbl}[CTape T]{d:Option Nat}{st:St}{xs:List AV}{ps:List Opd}{e:Env}{h:Heap}{ol:List Heap}
@[simp] theorem x421:callX (orc T) T 421 xs d st=cP T 421 false xs d st:=zaa CTape.h421
theorem f421(xs:List AV)(hn:xs.length=1):callF T 421 xs=retF [.t 2] false (evX (orc T) T 0 b421 ⟨argEnv xs,[],1⟩):=zab CTape.h421 hn
@[simp] theorem x430:callX (orc T) T 430 xs d st=cP T 430 false xs d st:=zaa CTape.h430
theorem f430(xs:List AV)(hn:xs.length=1):callF T 430 xs=retF [.t 2] false (evX (orc T) T 0 b430 ⟨argEnv xs,[],1⟩):=zab CTape.h430 hn
@[simp] theorem x433:callX (orc T) T 433 xs d st=cP T 433 false xs d st:=zaa CTape.h433
theorem f433(xs:List AV)(hn:xs.length=1):callF T 433 xs=retF [.t 2] false (evX (orc T) T 0 b433 ⟨argEnv xs,[],1⟩):=zab CTape.h433 hn
@[simp] theorem x434:callX (orc T) T 434 xs d st=cP T 434 false xs d st:=zaa CTape.h434
theorem f434(xs:List AV)(hn:xs.length=2):callF T 434 xs=retF [.t 4] false (evX (orc T) T 0 b434 ⟨argEnv xs,[],1⟩):=zab CTape.h434 hn
@[simp] theorem x435:callX (orc T) T 435 xs d st=cP T 435 false xs d st:=zaa CTape.h435
theorem f435(xs:List AV)(hn:xs.length=2):callF T 435 xs=retF [.t 4] false (evX (orc T) T 0 b435 ⟨argEnv xs,[],1⟩):=zab CTape.h435 hn
@[simp] theorem x437:callX (orc T) T 437 xs d st=cP T 437 false xs d st:=zaa CTape.h437
theorem f437(xs:List AV)(hn:xs.length=1):callF T 437 xs=retF [.cell 2 (some 3)] false (evX (orc T) T 0 b437 ⟨argEnv xs,[],1⟩):=zab CTape.h437 hn
@[simp] theorem x438:callX (orc T) T 438 xs d st=cP T 438 false xs d st:=zaa CTape.h438
theorem f438(xs:List AV)(hn:xs.length=1):callF T 438 xs=retF [.t 2] false (evX (orc T) T 0 b438 ⟨argEnv xs,[],1⟩):=zab CTape.h438 hn
@[simp] theorem x439:callX (orc T) T 439 xs d st=cP T 439 false xs d st:=zaa CTape.h439
theorem f439(xs:List AV)(hn:xs.length=1):callF T 439 xs=retF [.t 2] false (evX (orc T) T 0 b439 ⟨argEnv xs,[],1⟩):=zab CTape.h439 hn
end
class CGauge (T:Tbl):Prop where
class CEval (T:Tbl):Prop where
class CEval2 (T:Tbl):Prop where
class CRow (T:Tbl):Prop where
class CRow5 (T:Tbl):Prop where
def l644_0:AX:=
 (.note
 (.seq
 (.reg [rg 30 (.bin .lss (.t 29) (.t 28))])
 (.seq
 (.cond (.t 30)
 .skip
 (.exit 0))
 (.seq
 (.block 1
 (.seq
 (.reg [rg 31 (.iad 2 (.t 27) (.t 29)),rg 32 (.load (some 2) (.t 31)),rg 10 (.alloc [(.s []),(.sl [] .nl)]),so (.store 2 (.t 10) (.t 32))])
 (.drawN [⟨mv 33 8,0,1⟩,⟨mv 34 8,0,0⟩,⟨rg 35 (.nilc (.t 34)),0,0⟩,⟨rg 36 (.fad 2 (.t 35)),0,0⟩,⟨rg 37 (.load none (.t 36)),0,0⟩,⟨mv 38 8,0,0⟩,⟨rg 39 (.fad 1 (.t 10)),0,0⟩,⟨rg 40 (.load none (.t 39)),0,0⟩]
 (rg 41 (.call 648 [(.t 38),(.t 40)]))
 [⟨rg 42 (.bsl 1 [(.i .i64 0)] 1 [(0,(.t 41))]),0,0⟩,⟨rg 43 (.app 1 (.t 37) (.t 42)),0,1⟩,⟨rg 44 (.nilc (.t 33)),1,1⟩,⟨rg 45 (.fad 2 (.t 44)),1,1⟩,⟨so (.store 1 (.t 45) (.t 43)),1,2⟩])))
 (.reg [rg 46 (.bin .add (.t 29) (.c (.i .i64 1))),mv 29 46]))))
 (.norm false [1,2,4,6,8,27,28,29]))
def l644_1:AX:=
 (.note
 (.seq
 (.reg [rg 56 (.bin .lss (.t 55) (.t 54))])
 (.seq
 (.cond (.t 56)
 .skip
 (.exit 2))
 (.seq
 (.block 3
 (.seq
 (.reg [rg 57 (.iad 1 (.t 53) (.t 55)),rg 58 (.load none (.t 57)),mv 13 58])
 (.drawC [rg 59 (.fad 1 (.t 11)),rg 60 (.load none (.t 59)),mv 61 8,mv 62 13]
 (rg 63 (.call 648 [(.t 61),(.t 62)]))
 [rg 64 (.bsl 1 [(.i .i64 0)] 1 [(0,(.t 63))])]
 [rg 65 (.app 1 (.t 60) (.t 64)),rg 66 (.fad 1 (.t 11)),so (.store 1 (.t 66) (.t 65))])))
 (.reg [rg 67 (.bin .add (.t 55) (.c (.i .i64 1))),mv 55 67]))))
 (.norm false [4,6,8,11,53,54,55]))
def b644:AX:=
 (.seq
 (.reg [rg 2 (.xop (.box 2) [(.t 0)]),rg 4 (.alloc [(.sl [] .nl),(.sl [] .nl),(.i .i64 0),(.i .i64 0)]),rg 5 (.mov (.c (.sl [] .nl))),rg 6 (.alloc [(.i .i64 0),(.i .i64 0),(.i .i64 0),(.i .i64 0)])])
 (.seq
 (.seq
 (.reg [rg 14 (.load (some 2) (.t 2)),rg 15 (.fad 1 (.t 2)),rg 16 (.load none (.t 15)),rg 17 (.len (.t 16)),mv 18 1,rg 19 (.call 477 [(.t 14),(.t 17),(.t 18)]),rg 7 (.alloc [(.i .i64 0),(.i .i64 0),(.i .i64 0),(.i .i64 0)]),so (.store 4 (.t 7) (.t 19))])
 (.seq
 (.reg [rg 20 (.load (some 4) (.t 7)),rg 21 (.build [(.i .i64 0),(.i .i64 0),(.i .i64 0),(.i .i64 0)] []),rg 22 (.eqs true [(0,.int),(1,.int),(2,.int),(3,.int)] (.t 20) (.t 21))])
 (.cond (.t 22)
 (.seq
 (.draw [⟨rg 23 (.build [(.sl [] .nl),(.sl [] .nl),(.i .i64 0),(.i .i64 0)] []),0,0⟩,⟨rg 24 (.load (some 4) (.t 7)),0,1⟩,⟨so (.store 4 (.t 4) (.t 23)),0,1⟩,⟨rg 5 (.mov (.c (.sl [] .nl))),1,1⟩,⟨so (.store 4 (.t 6) (.t 24)),1,2⟩])
 (.pre (.norm false [4,5,6]) .ret))
 .skip)))
 (.seq
 (.note (.note (.note (.reg [rg 25 (.call 647 []),mv 8 25]) (.fld 8 0 0 6)) (.fld 8 0 2 1)) (.fld 8 0 3 1))
 (.seq
 (.seq
 (.reg [rg 26 (.fad 0 (.t 2)),rg 27 (.load none (.t 26)),rg 28 (.len (.t 27)),rg 29 (.mov (.c (.i .i64 0)))])
 (.lp 0 (.norm false [1,2,4,6,8,27,28,29]) l644_0 (.norm false [1,2,4,6,8])))
 (.seq
 (.note (.reg [rg 47 (.fad 1 (.t 2)),rg 48 (.load none (.t 47)),rg 49 (.len (.t 48)),mv 50 1,rg 51 (.build [(.sl [] .nl),(.sl [] .nl),(.i .i64 0),(.i .i64 0)] [(2,1,(.t 49)),(3,1,(.t 50))]),rg 11 (.alloc [(.sl [] .nl),(.sl [] .nl),(.i .i64 0),(.i .i64 0)]),so (.store 4 (.t 11) (.t 51))]) (.fld 11 0 1 1))
 (.seq
 (.seq
 (.reg [rg 52 (.fad 1 (.t 2)),rg 53 (.load none (.t 52)),rg 54 (.len (.t 53)),rg 55 (.mov (.c (.i .i64 0)))])
 (.lp 2 (.norm false [4,6,8,11,53,54,55]) l644_1 (.norm false [4,6,8,11])))
 (.seq
 (.reg [mv 68 8,rg 69 (.nilc (.t 68)),rg 70 (.fad 0 (.t 69)),rg 71 (.load none (.t 70)),rg 72 (.fad 0 (.t 11)),so (.store 1 (.t 72) (.t 71))])
 (.seq
 (.draw [⟨rg 73 (.load (some 4) (.t 11)),0,0⟩,⟨mv 74 8,0,1⟩,⟨rg 75 (.nilc (.t 74)),0,1⟩,⟨rg 76 (.fad 3 (.t 75)),0,1⟩,⟨rg 77 (.load none (.t 76)),0,1⟩,⟨rg 78 (.build [(.i .i64 0),(.i .i64 0),(.i .i64 0),(.i .i64 0)] []),0,1⟩,⟨so (.store 4 (.t 4) (.t 73)),0,1⟩,⟨mv 5 77,1,1⟩,⟨so (.store 4 (.t 6) (.t 78)),1,2⟩])
 (.pre (.norm false [4,5,6]) .ret)))))))))
def l645_0:AX:=
 (.note
 (.seq
 (.reg [rg 33 (.bin .lss (.t 32) (.t 31))])
 (.seq
 (.cond (.t 33)
 .skip
 (.exit 2))
 (.seq
 (.block 3
 (.seq
 (.reg [rg 34 (.iad 3 (.t 30) (.t 32)),rg 35 (.load (some 3) (.t 34)),rg 12 (.alloc [(.i .i64 0),(.i .i64 0),(.sl [] .nl)]),so (.store 3 (.t 12) (.t 35))])
 (.seq
 (.reg [rg 36 (.fad 0 (.t 12)),rg 37 (.load none (.t 36)),rg 38 (.bin .neq (.t 37) (.c (.i .i64 5)))])
 (.cond (.t 38)
 (.reg [mv 39 8,rg 40 (.bin .add (.t 39) (.c (.i .i64 1))),mv 8 40])
 .skip))))
 (.reg [rg 41 (.bin .add (.t 32) (.c (.i .i64 1))),mv 32 41]))))
 (.norm false [5,8,24,25,26,30,31,32]))
def l645_1:AX:=
 (.note
 (.seq
 (.reg [rg 27 (.bin .lss (.t 26) (.t 25))])
 (.seq
 (.cond (.t 27)
 .skip
 (.exit 0))
 (.seq
 (.block 1
 (.seq
 (.reg [rg 28 (.iad 1 (.t 24) (.t 26)),rg 29 (.load none (.t 28)),mv 10 29])
 (.seq
 (.reg [mv 30 10,rg 31 (.len (.t 30)),rg 32 (.mov (.c (.i .i64 0)))])
 (.lp 2 (.norm false [5,8,24,25,26,30,31,32]) l645_0 (.norm false [5,8,24,25,26])))))
 (.reg [rg 42 (.bin .add (.t 26) (.c (.i .i64 1))),mv 26 42]))))
 (.norm false [5,8,24,25,26]))
def b645:AX:=
 (.seq
 (.reg [rg 2 (.xop (.box 2) [(.t 0)]),rg 4 (.mov (.c (.i .i64 0)))])
 (.seq
 (.reg [rg 14 (.load (some 2) (.t 2)),mv 15 1,rg 16 (.call 644 [(.t 14),(.t 15)]),mv 13 16,rg 17 (.ext (.t 13) 0),rg 18 (.ext (.t 13) 1),rg 19 (.ext (.t 13) 2),rg 5 (.alloc [(.sl [] .nl),(.sl [] .nl),(.i .i64 0),(.i .i64 0)]),rg 7 (.alloc [(.i .i64 0),(.i .i64 0),(.i .i64 0),(.i .i64 0)]),so (.store 4 (.t 5) (.t 17)),mv 6 18,so (.store 4 (.t 7) (.t 19))])
 (.seq
 (.seq
 (.reg [rg 20 (.load (some 4) (.t 7)),rg 21 (.build [(.i .i64 0),(.i .i64 0),(.i .i64 0),(.i .i64 0)] []),rg 22 (.eqs true [(0,.int),(1,.int),(2,.int),(3,.int)] (.t 20) (.t 21))])
 (.cond (.t 22)
 (.seq
 (.reg [rg 4 (.mov (.c (.i .i64 0)))])
 (.pre (.norm false [4]) .ret))
 .skip))
 (.seq
 (.reg [rg 8 (.mov (.c (.i .i64 0)))])
 (.seq
 (.seq
 (.reg [rg 23 (.load (some 2) (.t 2)),rg 24 (.call 493 [(.t 23)]),rg 25 (.len (.t 24)),rg 26 (.mov (.c (.i .i64 0)))])
 (.lp 0 (.norm false [5,8,24,25,26]) l645_1 (.norm false [5,8])))
 (.seq
 (.reg [mv 43 8,rg 44 (.fad 0 (.t 5)),rg 45 (.load none (.t 44)),rg 46 (.len (.t 45)),rg 47 (.bin .sub (.t 43) (.t 46)),mv 4 47])
 (.pre (.norm false [4]) .ret)))))))
def b647:AX:=
 (.seq
 (.reg [rg 0 (.mov (.c (.raw (.pointer none))))])
 (.seq
 (.reg [rg 1 (.xop .mmap []),rg 2 (.build [(.sl [] .nl),(.raw (.map none)),(.sl [] .nl),(.sl [] .nl)] [(1,1,(.t 1))]),rg 3 (.xop (.box 4) [(.t 2)]),mv 0 3])
 (.pre (.norm true [0]) .ret)))
def l648_0:AX:=
 (.note
 (.seq
 (.reg [rg 12 (.bin .lss (.t 11) (.t 10))])
 (.seq
 (.cond (.t 12)
 .skip
 (.exit 0))
 (.seq
 (.block 1
 (.seq
 (.reg [rg 13 (.iad 3 (.t 9) (.t 11)),rg 14 (.load (some 3) (.t 13)),rg 7 (.alloc [(.i .i64 0),(.i .i64 0),(.sl [] .nl)]),so (.store 3 (.t 7) (.t 14))])
 (.seq
 (.reg [mv 15 0,rg 16 (.load (some 3) (.t 7)),mv 17 5,rg 18 (.call 649 [(.t 15),(.t 16),(.t 17)]),mv 8 18])
 (.seq
 (.reg [mv 19 0,mv 20 0,rg 21 (.nilc (.t 20)),rg 22 (.fad 3 (.t 21)),rg 23 (.load none (.t 22)),mv 24 8,rg 25 (.bsl 1 [(.i .i64 0)] 1 [(0,(.t 24))]),rg 26 (.app 1 (.t 23) (.t 25)),rg 27 (.nilc (.t 19)),rg 28 (.fad 3 (.t 27)),so (.store 1 (.t 28) (.t 26))])
 (.reg [mv 29 5,mv 30 5,rg 31 (.len (.t 30)),rg 32 (.fad 0 (.t 7)),rg 33 (.load none (.t 32)),rg 34 (.call 76 [(.t 33)]),rg 35 (.bin .sub (.t 31) (.t 34)),rg 36 (.slc 1 (.t 29) none (some (.t 35)) none),mv 37 8,rg 38 (.bsl 1 [(.i .i64 0)] 1 [(0,(.t 37))]),rg 39 (.app 1 (.t 36) (.t 38)),mv 5 39])))))
 (.reg [rg 40 (.bin .add (.t 11) (.c (.i .i64 1))),mv 11 40]))))
 (.norm false [0,5,9,10,11]))
def b648:AX:=
 (.seq
 (.reg [rg 4 (.mov (.c (.i .i64 0)))])
 (.seq
 (.note (.reg [rg 5 (.mov (.c (.sl [] .nl)))]) (.nil 5 1))
 (.seq
 (.seq
 (.reg [mv 9 1,rg 10 (.len (.t 9)),rg 11 (.mov (.c (.i .i64 0)))])
 (.lp 0 (.norm false [0,5,9,10,11]) l648_0 (.norm false [5])))
 (.seq
 (.reg [mv 41 5,rg 42 (.iad 1 (.t 41) (.c (.i .i64 0))),rg 43 (.load none (.t 42)),mv 4 43])
 (.pre (.norm false [4]) .ret)))))
def b649:AX:=
 (.seq
 (.reg [rg 4 (.xop (.box 3) [(.t 1)]),rg 6 (.mov (.c (.i .i64 0)))])
 (.seq
 (.reg [mv 8 2,rg 9 (.len (.t 8)),mv 7 9])
 (.seq
 (.block 0
 (.seq
 (.reg [rg 11 (.fad 0 (.t 4)),rg 12 (.load none (.t 11)),rg 13 (.bin .eql (.t 12) (.c (.i .i64 5))),mv 10 13])
 (.cond (.t 10)
 (.seq
 (.drawT [mv 14 0,rg 15 (.nilc (.t 14)),rg 16 (.fad 2 (.t 15)),rg 17 (.load none (.t 16)),rg 18 (.fad 1 (.t 4)),rg 19 (.load none (.t 18))]
 [rg 20 (.iad 1 (.t 17) (.t 19)),rg 21 (.load none (.t 20)),mv 6 21])
 (.pre (.norm false [6]) .ret))
 (.seq
 (.reg [rg 23 (.fad 0 (.t 4)),rg 24 (.load none (.t 23)),rg 25 (.call 76 [(.t 24)]),rg 26 (.bin .eql (.t 25) (.c (.i .i64 0))),mv 22 26])
 (.cond (.t 22)
 (.seq
 (.reg [mv 27 0,rg 28 (.load (some 3) (.t 4)),rg 29 (.call 651 [(.t 28)]),rg 30 (.call 650 [(.t 27),(.t 29)]),mv 6 30])
 (.pre (.norm false [6]) .ret))
 (.seq
 (.reg [rg 32 (.fad 0 (.t 4)),rg 33 (.load none (.t 32)),rg 34 (.call 76 [(.t 33)]),rg 35 (.bin .eql (.t 34) (.c (.i .i64 1))),mv 31 35])
 (.cond (.t 31)
 (.seq
 (.drawT [mv 36 0,rg 37 (.fad 0 (.t 4)),rg 38 (.load none (.t 37)),mv 39 2,mv 40 7,rg 41 (.bin .sub (.t 40) (.c (.i .i64 1))),rg 42 (.iad 1 (.t 39) (.t 41)),rg 43 (.load none (.t 42)),rg 44 (.fad 1 (.t 4)),rg 45 (.load none (.t 44)),rg 46 (.build [(.i .i64 0),(.i .i64 0),(.i .i64 0),(.b false),(.sl [] .nl),(.sl [] .nl)] [(0,1,(.t 38)),(1,1,(.t 43)),(2,1,(.t 45))])]
 [rg 47 (.call 650 [(.t 36),(.t 46)]),mv 6 47])
 (.pre (.norm false [6]) .ret))
 .skip)))))))
 (.seq
 (.drawT [mv 48 0,rg 49 (.fad 0 (.t 4)),rg 50 (.load none (.t 49)),mv 51 2,mv 52 7,rg 53 (.bin .sub (.t 52) (.c (.i .i64 2))),rg 54 (.iad 1 (.t 51) (.t 53)),rg 55 (.load none (.t 54)),mv 56 2,mv 57 7,rg 58 (.bin .sub (.t 57) (.c (.i .i64 1))),rg 59 (.iad 1 (.t 56) (.t 58)),rg 60 (.load none (.t 59)),rg 61 (.build [(.i .i64 0),(.i .i64 0),(.i .i64 0),(.b false),(.sl [] .nl),(.sl [] .nl)] [(0,1,(.t 50)),(1,1,(.t 55)),(2,1,(.t 60))])]
 [rg 62 (.call 650 [(.t 48),(.t 61)]),mv 6 62])
 (.pre (.norm false [6]) .ret)))))
def b650:AX:=
 (.seq
 (.reg [rg 3 (.xop (.box 6) [(.t 1)]),rg 4 (.mov (.c (.i .i64 0)))])
 (.seq
 (.reg [rg 8 (.fad 0 (.t 3)),rg 9 (.load none (.t 8)),rg 10 (.fad 1 (.t 3)),rg 11 (.load none (.t 10)),rg 12 (.fad 2 (.t 3)),rg 13 (.load none (.t 12)),rg 14 (.build [(.i .i64 0),(.i .i64 0),(.i .i64 0),(.s [])] [(0,1,(.t 9)),(1,1,(.t 11)),(2,1,(.t 13)),(3,1,(.c (.s [])))]),rg 5 (.alloc [(.i .i64 0),(.i .i64 0),(.i .i64 0),(.s [])]),so (.store 4 (.t 5) (.t 14))])
 (.seq
 (.seq
 (.reg [rg 15 (.fad 0 (.t 3)),rg 16 (.load none (.t 15)),rg 17 (.bin .eql (.t 16) (.c (.i .i64 1)))])
 (.cond (.t 17)
 (.reg [rg 18 (.fad 3 (.t 3)),rg 19 (.fad 0 (.t 18)),rg 20 (.fad 1 (.t 19)),rg 21 (.load none (.t 20)),rg 22 (.call 68 [(.t 21)]),rg 23 (.fad 3 (.t 5)),so (.store 1 (.t 23) (.t 22))])
 .skip))
 (.seq
 (.seq
 (.drawT [mv 25 0,rg 26 (.nilc (.t 25)),rg 27 (.fad 1 (.t 26)),rg 28 (.load none (.t 27)),rg 29 (.load (some 4) (.t 5)),rg 30 (.look (.fs [(0,.int),(1,.int),(2,.int),(3,.str)]) (.i .i64 0) true (.t 28) (.t 29)),mv 24 30,rg 31 (.ext (.t 24) 0),rg 32 (.ext (.t 24) 1),mv 6 31]
 [mv 7 32])
 (.seq
 (.reg [mv 33 7])
 (.cond (.t 33)
 (.seq
 (.reg [mv 34 6,mv 4 34])
 (.pre (.norm false [4]) .ret))
 .skip)))
 (.seq
 (.drawT [mv 35 0,rg 36 (.nilc (.t 35)),rg 37 (.fad 1 (.t 36)),rg 38 (.load none (.t 37)),rg 39 (.load (some 4) (.t 5)),mv 40 0,rg 41 (.nilc (.t 40)),rg 42 (.fad 0 (.t 41)),rg 43 (.load none (.t 42)),rg 44 (.len (.t 43))]
 [so (.xop (.mupd (.fs [(0,.int),(1,.int),(2,.int),(3,.str)])) [(.t 38),(.t 39),(.t 44)])])
 (.seq
 (.draw [⟨mv 45 0,0,1⟩,⟨mv 46 0,0,0⟩,⟨rg 47 (.nilc (.t 46)),0,0⟩,⟨rg 48 (.fad 0 (.t 47)),0,0⟩,⟨rg 49 (.load none (.t 48)),0,0⟩,⟨rg 50 (.load (some 6) (.t 3)),0,0⟩,⟨rg 51 (.bsl 6 [(.i .i64 0),(.i .i64 0),(.i .i64 0),(.b false),(.sl [] .nl),(.sl [] .nl)] 1 [(0,(.t 50))]),0,0⟩,⟨rg 52 (.app 6 (.t 49) (.t 51)),0,1⟩,⟨rg 53 (.nilc (.t 45)),1,1⟩,⟨rg 54 (.fad 0 (.t 53)),1,1⟩,⟨so (.store 1 (.t 54) (.t 52)),1,2⟩])
 (.seq
 (.reg [mv 55 0,rg 56 (.nilc (.t 55)),rg 57 (.fad 0 (.t 56)),rg 58 (.load none (.t 57)),rg 59 (.len (.t 58)),rg 60 (.bin .sub (.t 59) (.c (.i .i64 1))),mv 4 60])
 (.pre (.norm false [4]) .ret))))))))
def b651:AX:=
 (.seq
 (.reg [rg 1 (.xop (.box 3) [(.t 0)]),rg 2 (.alloc [(.i .i64 0),(.i .i64 0),(.i .i64 0),(.b false),(.sl [] .nl),(.sl [] .nl)])])
 (.seq
 (.seq
 (.reg [rg 5 (.fad 0 (.t 1)),rg 6 (.load none (.t 5))])
 (.block 0
 (.seq
 (.reg [rg 8 (.bin .eql (.t 6) (.c (.i .i64 1))),mv 7 8])
 (.cond (.t 7)
 (.seq
 (.reg [rg 10 (.fad 2 (.t 1)),rg 11 (.load none (.t 10)),rg 12 (.build [(.b false),(.sl [] .nl)] [(1,1,(.t 11))]),rg 13 (.bsl 1 [(u32 0)] 1 [(0,(.c (u32 1)))]),rg 14 (.call 204 [(.t 12),(.t 13)]),mv 9 14,rg 15 (.ext (.t 9) 0),rg 16 (.ext (.t 9) 1),rg 3 (.alloc [(.b false),(.sl [] .nl),(.sl [] .nl)]),so (.store 3 (.t 3) (.t 15)),mv 4 16])
 (.seq
 (.reg [rg 17 (.load (some 3) (.t 3)),rg 18 (.build [(.i .i64 0),(.i .i64 0),(.i .i64 0),(.b false),(.sl [] .nl),(.sl [] .nl)] [(0,1,(.c (.i .i64 1))),(3,3,(.t 17))]),so (.store 6 (.t 2) (.t 18))])
 (.pre (.norm false [2]) .ret)))
 (.seq
 (.reg [rg 20 (.bin .eql (.t 6) (.c (.i .i64 2))),mv 19 20])
 (.cond (.t 19)
 (.seq
 (.reg [rg 21 (.build [(.i .i64 0),(.i .i64 0),(.i .i64 0),(.b false),(.sl [] .nl),(.sl [] .nl)] [(0,1,(.c (.i .i64 2)))]),so (.store 6 (.t 2) (.t 21))])
 (.pre (.norm false [2]) .ret))
 .skip))))))
 (.seq
 (.reg [rg 22 (.fad 0 (.t 1)),rg 23 (.load none (.t 22)),rg 24 (.fad 1 (.t 1)),rg 25 (.load none (.t 24)),rg 26 (.build [(.i .i64 0),(.i .i64 0),(.i .i64 0),(.b false),(.sl [] .nl),(.sl [] .nl)] [(0,1,(.t 23)),(1,1,(.t 25))]),so (.store 6 (.t 2) (.t 26))])
 (.pre (.norm false [2]) .ret))))
class CComp (T:Tbl):Prop where
 h644:T 644=some ⟨2,79,[.cell 4 (some 4),.t 5,.cell 6 (some 4)],b644,none,false⟩
 h645:T 645=some ⟨2,48,[.t 4],b645,none,false⟩
 h647:T 647=some ⟨0,4,[.t 0],b647,(some []),true⟩
 h648:T 648=some ⟨2,44,[.t 4],b648,(some [true,false]),false⟩
 h649:T 649=some ⟨3,63,[.t 6],b649,(some [true,false,true]),false⟩
 h650:T 650=some ⟨2,61,[.t 4],b650,(some [true,false]),false⟩
 h651:T 651=some ⟨1,27,[.cell 2 (some 6)],b651,none,false⟩
section
variable{T:Tbl}[CComp T]{d:Option Nat}{st:St}{xs:List AV}{ps:List Opd}{e:Env}{h:Heap}{ol:List Heap}
@[simp] theorem x644:callX (orc T) T 644 xs d st=cP T 644 false xs d st:=zaa CComp.h644
theorem f644(xs:List AV)(hn:xs.length=2):callF T 644 xs=retF [.cell 4 (some 4),.t 5,.cell 6 (some 4)] false (evX (orc T) T 0 b644 ⟨argEnv xs,[],1⟩):=zab CComp.h644 hn
@[simp] theorem x645:callX (orc T) T 645 xs d st=cP T 645 false xs d st:=zaa CComp.h645
theorem f645(xs:List AV)(hn:xs.length=2):callF T 645 xs=retF [.t 4] false (evX (orc T) T 0 b645 ⟨argEnv xs,[],1⟩):=zab CComp.h645 hn
@[simp] theorem x647:callX (orc T) T 647 xs d st=cL T 647 true [] xs d st:=zat CComp.h647
theorem f647(xs:List AV)(hb:Heap)(hn:xs.length=0):callH T 647 xs hb=retH [.t 0] true hb.length (evX (orc T) T hb.length b647 ⟨argEnv xs,hb,hb.length+1⟩):=zbo CComp.h647 hn
@[simp] theorem x648:callX (orc T) T 648 xs d st=cL T 648 false [true,false] xs d st:=zat CComp.h648
theorem f648(xs:List AV)(hb:Heap)(hn:xs.length=2):callH T 648 xs hb=retH [.t 4] false hb.length (evX (orc T) T hb.length b648 ⟨argEnv xs,hb,hb.length+1⟩):=zbo CComp.h648 hn
@[simp] theorem x649:callX (orc T) T 649 xs d st=cL T 649 false [true,false,true] xs d st:=zat CComp.h649
theorem f649(xs:List AV)(hb:Heap)(hn:xs.length=3):callH T 649 xs hb=retH [.t 6] false hb.length (evX (orc T) T hb.length b649 ⟨argEnv xs,hb,hb.length+1⟩):=zbo CComp.h649 hn
@[simp] theorem x650:callX (orc T) T 650 xs d st=cL T 650 false [true,false] xs d st:=zat CComp.h650
theorem f650(xs:List AV)(hb:Heap)(hn:xs.length=2):callH T 650 xs hb=retH [.t 4] false hb.length (evX (orc T) T hb.length b650 ⟨argEnv xs,hb,hb.length+1⟩):=zbo CComp.h650 hn
@[simp] theorem x651:callX (orc T) T 651 xs d st=cP T 651 false xs d st:=zaa CComp.h651
theorem f651(xs:List AV)(hn:xs.length=1):callF T 651 xs=retF [.cell 2 (some 6)] false (evX (orc T) T 0 b651 ⟨argEnv xs,[],1⟩):=zab CComp.h651 hn
end
def l657_0:AX:=
 (.note
 (.seq
 (.seq
 (.reg [mv 48 10,mv 49 9,rg 50 (.bin .lss (.t 48) (.t 49))])
 (.cond (.t 50)
 .skip
 (.exit 2)))
 (.seq
 (.block 3
 (.seq
 (.reg [rg 53 (.fad 0 (.t 6)),rg 54 (.load none (.t 53)),mv 55 9,rg 56 (.iad 6 (.t 54) (.t 55)),rg 57 (.load (some 6) (.t 56)),rg 11 (.alloc [(.i .i64 0),(.i .i64 0),(.i .i64 0),(.b false),(.sl [] .nl),(.sl [] .nl)]),so (.store 6 (.t 11) (.t 57))])
 (.seq
 (.reg [rg 58 (.fad 0 (.t 6)),rg 59 (.load none (.t 58)),mv 60 10,rg 61 (.iad 6 (.t 59) (.t 60)),rg 62 (.load (some 6) (.t 61)),rg 12 (.alloc [(.i .i64 0),(.i .i64 0),(.i .i64 0),(.b false),(.sl [] .nl),(.sl [] .nl)]),so (.store 6 (.t 12) (.t 62))])
 (.seq
 (.reg [rg 63 (.fad 0 (.t 11)),rg 64 (.load none (.t 63)),rg 65 (.fad 0 (.t 12)),rg 66 (.load none (.t 65)),rg 67 (.bin .eql (.t 64) (.t 66)),mv 68 67,gd 69 68 true (.fad 1 (.t 11)),gd 70 68 true (.load none (.t 69)),gd 71 68 true (.fad 1 (.t 12)),gd 72 68 true (.load none (.t 71)),gd 73 68 true (.bin .eql (.t 70) (.t 72)),rg 74 (.pick (.t 68) (.t 73) (.c (.b false))),mv 75 74,gd 76 75 true (.fad 2 (.t 11)),gd 77 75 true (.load none (.t 76)),gd 78 75 true (.fad 2 (.t 12)),gd 79 75 true (.load none (.t 78)),gd 80 75 true (.bin .eql (.t 77) (.t 79)),rg 81 (.pick (.t 75) (.t 80) (.c (.b false))),mv 82 81,gd 83 82 true (.fad 3 (.t 11)),gd 84 82 true (.load (some 3) (.t 83)),gd 85 82 true (.fad 3 (.t 12)),gd 86 82 true (.load (some 3) (.t 85)),gd 87 82 true (.call 212 [(.t 84),(.t 86)]),rg 88 (.pick (.t 82) (.t 87) (.c (.b false)))])
 (.cond (.t 88)
 (.seq
 (.reg [rg 4 (.mov (.c (.b false)))])
 (.pre (.norm false [4]) .ret))
 .skip)))))
 (.reg [mv 51 10,rg 52 (.bin .add (.t 51) (.c (.i .i64 1))),mv 10 52])))
 (.norm false [6,7,9,10]))
def l657_1:AX:=
 (.note
 (.seq
 (.seq
 (.reg [mv 41 9,rg 42 (.fad 0 (.t 6)),rg 43 (.load none (.t 42)),rg 44 (.len (.t 43)),rg 45 (.bin .lss (.t 41) (.t 44))])
 (.cond (.t 45)
 .skip
 (.exit 0)))
 (.seq
 (.block 1
 (.seq
 (.reg [rg 10 (.mov (.c (.i .i64 0)))])
 (.lp 2 (.norm false [6,7,9,10]) l657_0 (.norm false [6,7,9]))))
 (.reg [mv 46 9,rg 47 (.bin .add (.t 46) (.c (.i .i64 1))),mv 9 47])))
 (.norm false [6,7,9]))
def l657_2:AX:=
 (.note
 (.seq
 (.seq
 (.reg [mv 89 14,mv 90 7,rg 91 (.len (.t 90)),rg 92 (.bin .lss (.t 89) (.t 91))])
 (.cond (.t 92)
 .skip
 (.exit 4)))
 (.seq
 (.block 5
 (.seq
 (.seq
 (.reg [mv 95 7,mv 96 14,rg 97 (.iad 1 (.t 95) (.t 96)),rg 98 (.load none (.t 97)),rg 99 (.bin .lss (.t 98) (.c (.i .i64 0))),mv 100 99,gd 101 100 false (.mov (.t 7)),gd 102 100 false (.mov (.t 14)),gd 103 100 false (.iad 1 (.t 101) (.t 102)),gd 104 100 false (.load none (.t 103)),gd 105 100 false (.mov (.t 13)),gd 106 100 false (.bin .gtr (.t 104) (.t 105)),rg 107 (.pick (.t 100) (.c (.b true)) (.t 106))])
 (.cond (.t 107)
 (.seq
 (.reg [rg 4 (.mov (.c (.b false)))])
 (.pre (.norm false [4]) .ret))
 .skip))
 (.seq
 (.reg [mv 108 7,mv 109 14,rg 110 (.iad 1 (.t 108) (.t 109)),rg 111 (.load none (.t 110)),mv 112 13,rg 113 (.bin .eql (.t 111) (.t 112))])
 (.cond (.t 113)
 (.reg [mv 114 13,rg 115 (.bin .add (.t 114) (.c (.i .i64 1))),mv 13 115])
 .skip))))
 (.reg [mv 93 14,rg 94 (.bin .add (.t 93) (.c (.i .i64 1))),mv 14 94])))
 (.norm false [6,7,13,14]))
def b657:AX:=
 (.seq
 (.reg [rg 2 (.xop (.box 2) [(.t 0)]),rg 4 (.mov (.c (.b false)))])
 (.seq
 (.seq
 (.reg [rg 15 (.load (some 2) (.t 2)),rg 16 (.call 466 [(.t 15),(.c (.i .i64 8)),(.c (.i .i64 40)),(.c (.i .i64 9))])])
 (.cond (.t 16)
 (.seq
 (.reg [rg 17 (.call 658 []),mv 4 17])
 (.pre (.norm false [4]) .ret))
 .skip))
 (.seq
 (.reg [rg 18 (.load (some 2) (.t 2)),rg 19 (.call 468 [(.t 18)]),rg 5 (.alloc [(.sl [] .nl),(.sl [] .nl)]),so (.store 2 (.t 5) (.t 19))])
 (.seq
 (.reg [rg 21 (.load (some 2) (.t 5)),mv 22 1,rg 23 (.call 644 [(.t 21),(.t 22)]),mv 20 23,rg 24 (.ext (.t 20) 0),rg 25 (.ext (.t 20) 1),rg 26 (.ext (.t 20) 2),rg 6 (.alloc [(.sl [] .nl),(.sl [] .nl),(.i .i64 0),(.i .i64 0)]),rg 8 (.alloc [(.i .i64 0),(.i .i64 0),(.i .i64 0),(.i .i64 0)]),so (.store 4 (.t 6) (.t 24)),mv 7 25,so (.store 4 (.t 8) (.t 26))])
 (.seq
 (.seq
 (.reg [rg 27 (.load (some 4) (.t 8)),rg 28 (.build [(.i .i64 0),(.i .i64 0),(.i .i64 0),(.i .i64 0)] []),rg 29 (.eqs true [(0,.int),(1,.int),(2,.int),(3,.int)] (.t 27) (.t 28))])
 (.cond (.t 29)
 (.seq
 (.reg [rg 30 (.call 658 []),mv 4 30])
 (.pre (.norm false [4]) .ret))
 .skip))
 (.seq
 (.seq
 (.reg [rg 31 (.load (some 4) (.t 6)),rg 32 (.call 421 [(.t 31)]),rg 33 (.un .not (.t 32)),mv 34 33,gd 35 34 false (.mov (.t 7)),gd 36 34 false (.len (.t 35)),gd 37 34 false (.load (some 2) (.t 5)),gd 38 34 false (.call 491 [(.t 37)]),gd 39 34 false (.bin .neq (.t 36) (.t 38)),rg 40 (.pick (.t 34) (.c (.b true)) (.t 39))])
 (.cond (.t 40)
 (.seq
 (.reg [rg 4 (.mov (.c (.b false)))])
 (.pre (.norm false [4]) .ret))
 .skip))
 (.seq
 (.seq
 (.reg [rg 9 (.mov (.c (.i .i64 0)))])
 (.lp 0 (.norm false [6,7,9]) l657_1 (.norm false [6,7])))
 (.seq
 (.reg [rg 13 (.mov (.c (.i .i64 0)))])
 (.seq
 (.seq
 (.reg [rg 14 (.mov (.c (.i .i64 0)))])
 (.lp 4 (.norm false [6,7,13,14]) l657_2 (.norm false [6,13])))
 (.seq
 (.reg [mv 116 13,rg 117 (.fad 0 (.t 6)),rg 118 (.load none (.t 117)),rg 119 (.len (.t 118)),rg 120 (.bin .eql (.t 116) (.t 119)),mv 121 120,gd 122 121 true (.call 658 []),rg 123 (.pick (.t 121) (.t 122) (.c (.b false))),mv 4 123])
 (.pre (.norm false [4]) .ret)))))))))))
def b658:AX:=
 (.seq
 (.reg [rg 0 (.mov (.c (.b false)))])
 (.seq
 (.reg [rg 7 (.build [(.i .i64 0),(.i .i64 0),(.sl [] .nl)] [(0,1,(.c (.i .i64 2)))]),rg 8 (.bsl 1 [(u32 0)] 1 [(0,(.c (u32 1)))]),rg 9 (.build [(.i .i64 0),(.i .i64 0),(.sl [] .nl)] [(0,1,(.c (.i .i64 1))),(2,1,(.t 8))]),rg 10 (.build [(.i .i64 0),(.i .i64 0),(.sl [] .nl)] [(0,1,(.c (.i .i64 7)))]),rg 11 (.bsl 3 [(.i .i64 0),(.i .i64 0),(.sl [] .nl)] 3 [(0,(.t 7)),(1,(.t 9)),(2,(.t 10))]),mv 1 11])
 (.seq
 (.reg [rg 12 (.bsl 3 [(.i .i64 0),(.i .i64 0),(.sl [] .nl)] 0 []),mv 13 1,rg 14 (.app 3 (.t 12) (.t 13)),mv 15 1,rg 16 (.app 3 (.t 14) (.t 15)),rg 17 (.build [(.i .i64 0),(.i .i64 0),(.sl [] .nl)] [(0,1,(.c (.i .i64 9)))]),rg 18 (.bsl 3 [(.i .i64 0),(.i .i64 0),(.sl [] .nl)] 1 [(0,(.t 17))]),rg 19 (.app 3 (.t 16) (.t 18)),mv 2 19])
 (.seq
 (.reg [mv 20 2,rg 21 (.bsl 1 [(.sl [] .nl)] 1 [(0,(.t 20))]),rg 22 (.build [(.sl [] .nl),(.sl [] .nl)] [(1,1,(.t 21))]),rg 3 (.alloc [(.sl [] .nl),(.sl [] .nl)]),so (.store 2 (.t 3) (.t 22))])
 (.seq
 (.reg [rg 24 (.load (some 2) (.t 3)),rg 25 (.call 644 [(.t 24),(.c (.i .i64 0))]),mv 23 25,rg 26 (.ext (.t 23) 0),rg 27 (.ext (.t 23) 1),rg 28 (.ext (.t 23) 2),rg 4 (.alloc [(.sl [] .nl),(.sl [] .nl),(.i .i64 0),(.i .i64 0)]),rg 6 (.alloc [(.i .i64 0),(.i .i64 0),(.i .i64 0),(.i .i64 0)]),so (.store 4 (.t 4) (.t 26)),mv 5 27,so (.store 4 (.t 6) (.t 28))])
 (.seq
 (.reg [rg 29 (.load (some 4) (.t 6)),rg 30 (.build [(.i .i64 0),(.i .i64 0),(.i .i64 0),(.i .i64 0)] []),rg 31 (.eqs false [(0,.int),(1,.int),(2,.int),(3,.int)] (.t 29) (.t 30)),mv 32 31,gd 33 32 true (.fad 0 (.t 4)),gd 34 32 true (.load none (.t 33)),gd 35 32 true (.len (.t 34)),gd 36 32 true (.bin .eql (.t 35) (.c (.i .i64 4))),rg 37 (.pick (.t 32) (.t 36) (.c (.b false))),mv 38 37,gd 39 38 true (.mov (.t 5)),gd 40 38 true (.len (.t 39)),gd 41 38 true (.bin .eql (.t 40) (.c (.i .i64 7))),rg 42 (.pick (.t 38) (.t 41) (.c (.b false))),mv 43 42,gd 44 43 true (.mov (.t 5)),gd 45 43 true (.iad 1 (.t 44) (.c (.i .i64 5))),gd 46 43 true (.load none (.t 45)),gd 47 43 true (.bin .eql (.t 46) (.c (.i .i64 2))),rg 48 (.pick (.t 43) (.t 47) (.c (.b false))),mv 49 48,gd 50 49 true (.load (some 2) (.t 3)),gd 51 49 true (.call 645 [(.t 50),(.c (.i .i64 0))]),gd 52 49 true (.bin .eql (.t 51) (.c (.i .i64 3))),rg 53 (.pick (.t 49) (.t 52) (.c (.b false))),mv 0 53])
 (.pre (.norm false [0]) .ret)))))))
class CLaw25 (T:Tbl):Prop where
 h657:T 657=some ⟨2,124,[.t 4],b657,none,false⟩
 h658:T 658=some ⟨0,54,[.t 0],b658,none,false⟩
section
variable{T:Tbl}[CLaw25 T]{d:Option Nat}{st:St}{xs:List AV}{ps:List Opd}{e:Env}{h:Heap}{ol:List Heap}
theorem f657(xs:List AV)(hn:xs.length=2):callF T 657 xs=retF [.t 4] false (evX (orc T) T 0 b657 ⟨argEnv xs,[],1⟩):=zab CLaw25.h657 hn
@[simp] theorem x658:callX (orc T) T 658 xs d st=cP T 658 false xs d st:=zaa CLaw25.h658
theorem f658(xs:List AV)(hn:xs.length=0):callF T 658 xs=retF [.t 0] false (evX (orc T) T 0 b658 ⟨argEnv xs,[],1⟩):=zab CLaw25.h658 hn
end
section
open Go.RowKit
def opU:AOp→List Nat
 | .call u _=>[u]
 | .ifc k _=>[1000000+k]
 | .inv _ k u _ _=>[1000000+k,u]
 | .xop (.mkf k) _ | .xop (.mkv k) _=>[1000000+k]
 | _=>[]
def cXs:AX→List Nat
 | .reg l=>l.flatMap fun o=>opU o.op
 | .draw l=>l.flatMap fun o=>opU o.ao.op
 | .drawT hd tl=>(hd.flatMap fun o=>opU o.op)++tl.flatMap fun o=>opU o.op
 | .drawM hd tl=>(hd.flatMap fun o=>opU o.op)++tl.flatMap fun o=>opU o.op
 | .drawC l1 o l2 tl=>(l1.flatMap fun o=>opU o.op)++(opU o.op++((l2.flatMap fun o=>opU o.op)++tl.flatMap fun o=>opU o.op))
 | .drawN l1 o l2=>(l1.flatMap fun o=>opU o.ao.op)++(opU o.op++l2.flatMap fun o=>opU o.ao.op)
 | .seq a b=>cXs a++cXs b
 | .cond _ x y=>cXs x++cXs y
 | .block _ c | .loop c | .note c _ | .pre _ c | .scope c | .lp _ _ c _=>cXs c
 | .gsc _ c r=>cXs c++cXs r
 | _=>[]
structure Agr (R:Nat→Bool) (T T':Tbl) (O O':Orc):Prop where
 tbl:∀u,R u=true→T u=T' u
 call:∀u xs hb,R u=true→O.call u xs hb=O'.call u xs hb
 loop:∀k c st,(∀u∈cXs c,R u=true)→O.loop k c st=O'.loop k c st
section
variable{R:Nat→Bool}{T T':Tbl}{O O':Orc}
theorem zgd(h:Agr R T T' O O'){u:Nat}(hu:R u=true){xs:List AV}{d:Option Nat}{st:St}:callX O T u xs d st=callX O' T' u xs d st:=by
 unfold callX
 rw[h.tbl u hu]
 simp only[h.call u _ _ hu]
theorem zxp(h:Agr R T T' O O'){op:AOp}(hu:∀u∈opU op,R u=true){d:Option Nat}{st:St}:opX O T op d st=opX O' T' op d st:=by
 cases op<;>simp only[opX]
 case call u args=>exact zgd h (hu _ (by simp[opU]))
 case ifc k x=>unfold tyNum;rw[h.tbl _ (hu _ (by simp[opU]))]
 case inv nm k u r args=>
  have e1:tyNum T k=tyNum T' k:=by unfold tyNum;rw[h.tbl _ (hu _ (by simp[opU]))]
  have e2:methsT T k=methsT T' k:=by unfold methsT;rw[h.tbl _ (hu _ (by simp[opU]))]
  have e3:funT T k=funT T' k:=by unfold funT;rw[h.tbl _ (hu _ (by simp[opU]))]
  grind[zgd,opU]
 case xop k xs=>
  cases k<;>simp only
  all_goals rename_i k
  all_goals
   have e1:tyNum T k=tyNum T' k:=by unfold tyNum;rw[h.tbl _ (hu _ (by simp[opU]))]
   rw[e1]
theorem zr3(h:Agr R T T' O O'){o:AO}(hu:∀u∈opU o.op,R u=true){st:St}:stepX O T o st=stepX O' T' o st:=by
 unfold stepX gX
 simp only[zxp h hu]
theorem zem(h:Agr R T T' O O'):∀(l:List AO),(∀o∈l,∀u∈opU o.op,R u=true)→∀st,runX O T l st=runX O' T' l st
 | [],_,st=>rfl
 | o::l,hu,st=>by
  simp only[runX]
  rw[zr3 h (hu o List.mem_cons_self)]
  congr 1
  funext s
  exact zem h l (fun o ho=>hu o (List.mem_cons_of_mem _ ho)) s
theorem zxq(h:Agr R T T' O O'){op:AOp}(hu:∀u∈opU op,R u=true){e:Env}{hp:Heap}{older:List Heap}:opD O T op e hp older=opD O' T' op e hp older:=by
 by_cases hap:∃z x0 y,op=.app z x0 y
 ·obtain⟨z,x0,y,rfl⟩:=hap
  by_cases hc:x0=.c (.sl [] .nl)
  ·subst hc;rfl
  ·rw[zmc hc,zmc hc]
 cases op<;>(try exact absurd ⟨_,_,_,rfl⟩ hap)<;>simp only[opD]
 case call u args=>
  rw[h.tbl _ (hu _ (by simp[opU]))]
  simp only[h.call _ _ _ (hu _ (show u∈_ by simp[opU]))]
 case ifc k x=>unfold tyNum;rw[h.tbl _ (hu _ (by simp[opU]))]
 case inv nm k u r args=>
  have e1:tyNum T k=tyNum T' k:=by unfold tyNum;rw[h.tbl _ (hu _ (by simp[opU]))]
  have e2:methsT T k=methsT T' k:=by unfold methsT;rw[h.tbl _ (hu _ (by simp[opU]))]
  rw[e1,e2,h.tbl u (hu u (by simp[opU]))]
  simp only[h.call u _ _ (hu u (by simp[opU]))]
theorem zke(h:Agr R T T' O O'){o:AO}(hu:∀u∈opU o.op,R u=true){e:Env}{hp:Heap}{older:List Heap}:qX O T o e hp older=qX O' T' o e hp older:=by
 unfold qX
 simp only[zxq h hu]
theorem zr4(h:Agr R T T' O O'){u:Nat}(hu:R u=true){ys:List AV}:callR O T u ys=callR O' T' u ys:=by
 unfold callR
 rw[h.tbl u hu]
 simp only[h.call u _ _ hu]
theorem zge(h:Agr R T T' O O'):∀(l:List DO),(∀o∈l,∀u∈opU o.ao.op,R u=true)→∀e hp clk older pend,drawX O T l e hp clk older pend=drawX O' T' l e hp clk older pend
 | [],_,e,hp,clk,older,pend=>rfl
 | o::l,hu,e,hp,clk,older,pend=>by
  have ih:=zge h l (fun o ho=>hu o (List.mem_cons_of_mem _ ho))
  simp only[drawX]
  rw[zke h (hu o List.mem_cons_self)]
  simp only[ih]
  cases o.ao.op.writes with
  | true=>rfl
  | false=>
   cases hrow:rowQ o.ao.guard o.ao.op.callN e hp (older.take (older.length-o.lo)) with
   | none=>rfl
   | some p=>
    obtain⟨_,args,hop,_⟩:=zkd hrow
    have hp:R p.1=true:=hu o List.mem_cons_self _ (by rw[hop];simp[opU])
    simp only[zr4 h hp]
theorem zkf(h:Agr R T T' O O')(tl:List AO)(ht:∀o∈tl,∀u∈opU o.op,R u=true):∀(l:List AO),(∀o∈l,∀u∈opU o.op,R u=true)→∀e hp clk,headX O T tl l e hp clk=headX O' T' tl l e hp clk
 | [],_,e,hp,clk=>zem h tl ht _
 | o::l,hu,e,hp,clk=>by
  have ih:=zkf h tl ht l (fun o ho=>hu o (List.mem_cons_of_mem _ ho))
  simp only[headX]
  rw[zke h (hu o List.mem_cons_self)]
  simp only[ih]
theorem zr5(h:Agr R T T' O O'){u:Nat}(hu:R u=true){xs:List AV}{d clk:Nat}:callM O T u xs d clk=callM O' T' u xs d clk:=by
 unfold callM
 rw[h.tbl u hu]
 simp only[h.call u _ _ hu]
theorem zkg(h:Agr R T T' O O')(tl:List AO)(ht:∀o∈tl,∀u∈opU o.op,R u=true)(h0:Heap)(c0:Nat)(X:Heap):∀(l:List AO),(∀o∈l,∀u∈opU o.op,R u=true)→∀e hp clk,headM O T tl h0 c0 X l e hp clk=headM O' T' tl h0 c0 X l e hp clk
 | [],_,e,hp,clk=>zem h tl ht _
 | o::l,hu,e,hp,clk=>by
  have ih:=zkg h tl ht h0 c0 X l (fun o ho=>hu o (List.mem_cons_of_mem _ ho))
  simp only[headM]
  rw[zke h (hu o List.mem_cons_self)]
  simp only[ih]
  cases hm:o.op.maker with
  | true=>rfl
  | false=>
   cases hst:o.op.isStore with
   | true=>rfl
   | false=>
   cases hl:o.op.lentN with
   | none=>rfl
   | some ua=>
    have hua:R ua.1=true:=hu o List.mem_cons_self _ (by rw[zh2 hl];simp[opU])
    simp only[zr5 h hua]
theorem ziu(h:Agr R T T' O O'){K K':Env→PendX→Option St}(hK:∀e pend,K e pend=K' e pend)(hp:Heap):∀(l:List DO),(∀o∈l,∀u∈opU o.ao.op,R u=true)→∀e pend,preC O T K hp l e pend=preC O' T' K' hp l e pend
 | [],_,e,pend=>hK e pend
 | o::l,hu,e,pend=>by
  have ih:=ziu h hK hp l (fun o ho=>hu o (List.mem_cons_of_mem _ ho))
  simp only[preC]
  rw[zke h (hu o List.mem_cons_self)]
  simp only[ih]
theorem zkh(h:Agr R T T' O O'){K K':Env→Option St}(hK:∀e,K e=K' e)(h0 h1:Heap):∀(l:List AO),(∀o∈l,∀u∈opU o.op,R u=true)→∀e,postC O T K h0 h1 l e=postC O' T' K' h0 h1 l e
 | [],_,e=>hK e
 | o::l,hu,e=>by
  have ih:=zkh h hK h0 h1 l (fun o ho=>hu o (List.mem_cons_of_mem _ ho))
  simp only[postC]
  rw[zke h (hu o List.mem_cons_self)]
  simp only[ih]
theorem zki(h:Agr R T T' O O'){o:AO}(hu:∀u∈opU o.op,R u=true){st:St}:callC O T o st=callC O' T' o st:=by
 obtain⟨d,g,op⟩:=o
 cases op
 case call u args=>
  cases g<;>cases d<;>simp only[callC]
  exact zgd h (hu u (by simp[opU]))
 all_goals cases g<;>cases d<;>rfl
theorem zr6(h:Agr R T T' O O')(l1:List AO)(o:AO)(l2 tl:List AO)(hu:∀u∈cXs (.drawC l1 o l2 tl),R u=true)(st:St):headC O T l1 o l2 tl st=headC O' T' l1 o l2 tl st:=by
 have u1:∀o∈l1,∀u∈opU o.op,R u=true:=fun o ho u hou=>hu u (List.mem_append_left _ (List.mem_flatMap.2 ⟨o,ho,hou⟩))
 have u2:∀u∈opU o.op,R u=true:=fun u hou=>hu u (List.mem_append_right _ (List.mem_append_left _ hou))
 have u3:∀o∈l2,∀u∈opU o.op,R u=true:=fun o ho u hou=>hu u (List.mem_append_right _ (List.mem_append_right _ (List.mem_append_left _ (List.mem_flatMap.2 ⟨o,ho,hou⟩))))
 have u4:∀o∈tl,∀u∈opU o.op,R u=true:=fun o ho u hou=>hu u (List.mem_append_right _ (List.mem_append_right _ (List.mem_append_right _ (List.mem_flatMap.2 ⟨o,ho,hou⟩))))
 unfold headC
 refine ziu h (fun e pend=>?_) _ _ (fun o ho=>?_) _ _
 ·rw[zki h u2]
  congr 1
  funext s
  rw[zkh h (fun e=>zem h tl u4 _) _ _ l2 u3]
 ·obtain⟨o',ho',rfl⟩:=List.mem_map.1 ho
  exact u1 o' ho'
theorem zr7(h:Agr R T T' O O')(l1:List DO)(o:AO)(l2:List DO)(hu:∀u∈cXs (.drawN l1 o l2),R u=true)(st:St):headN O T l1 o l2 st=headN O' T' l1 o l2 st:=by
 have u1:∀o∈l1,∀u∈opU o.ao.op,R u=true:=fun o ho u hou=>hu u (List.mem_append_left _ (List.mem_flatMap.2 ⟨o,ho,hou⟩))
 have u2:∀u∈opU o.op,R u=true:=fun u hou=>hu u (List.mem_append_right _ (List.mem_append_left _ hou))
 have u3:∀o∈l2,∀u∈opU o.ao.op,R u=true:=fun o ho u hou=>hu u (List.mem_append_right _ (List.mem_append_right _ (List.mem_flatMap.2 ⟨o,ho,hou⟩)))
 unfold headN
 congr 1
 refine ziu h (fun e pend=>?_) _ _ (fun o ho=>?_) _ _
 ·rw[zki h u2]
  congr 1
  funext s
  rw[zge h _ fun o ho=>?_]
  obtain⟨o',ho',rfl⟩:=List.mem_map.1 ho
  exact u3 o' ho'
 ·obtain⟨o',ho',rfl⟩:=List.mem_map.1 ho
  exact u1 o' ho'
theorem zbt(h:Agr R T T' O O')(k:Nat):∀(c:AX),(∀u∈cXs c,R u=true)→∀st,evX O T k c st=evX O' T' k c st
 | .skip,_,st=>rfl
 | .reg l,hu,st=>by
  simp only[evX]
  rw[zem h l fun o ho u hou=>hu u (List.mem_flatMap.2 ⟨o,ho,hou⟩)]
 | .draw l,hu,st=>by
  simp only[evX]
  rw[zge h l fun o ho u hou=>hu u (List.mem_flatMap.2 ⟨o,ho,hou⟩)]
 | .drawT hd tl,hu,st=>by
  simp only[evX]
  rw[zkf h tl (fun o ho u hou=>hu u (List.mem_append_right _ (List.mem_flatMap.2 ⟨o,ho,hou⟩))) hd (fun o ho u hou=>hu u (List.mem_append_left _ (List.mem_flatMap.2 ⟨o,ho,hou⟩)))]
 | .drawM hd tl,hu,st=>by
  simp only[evX]
  rw[zkg h tl (fun o ho u hou=>hu u (List.mem_append_right _ (List.mem_flatMap.2 ⟨o,ho,hou⟩))) _ _ _ hd (fun o ho u hou=>hu u (List.mem_append_left _ (List.mem_flatMap.2 ⟨o,ho,hou⟩)))]
 | .drawC l1 o l2 tl,hu,st=>by
  simp only[evX]
  rw[zr6 h l1 o l2 tl hu]
 | .drawN l1 o l2,hu,st=>by
  simp only[evX]
  rw[zr7 h l1 o l2 hu]
 | .bad,_,st=>rfl
 | .prim f,_,st=>rfl
 | .seq a b,hu,st=>by
  simp only[evX]
  rw[zbt h k a fun u hm=>hu u (List.mem_append_left _ hm)]
  congr 1
  funext r
  rw[zbt h k b fun u hm=>hu u (List.mem_append_right _ hm)]
 | .cond c x y,hu,st=>by
  simp only[evX]
  rw[zbt h k x fun u hm=>hu u (List.mem_append_left _ hm),zbt h k y fun u hm=>hu u (List.mem_append_right _ hm)]
 | .block id c,hu,st=>by
  simp only[evX]
  rw[zbt h k c hu]
 | .loop c,hu,st=>h.loop k c st hu
 | .exit id,_,st=>rfl
 | .ret,_,st=>rfl
 | .note c g,hu,st=>by
  simp only[evX]
  rw[zbt h k c hu]
 | .pre g c,hu,st=>by
  simp only[evX]
  congr 1
  funext s
  exact zbt h k c hu s
 | .scope c,hu,st=>by
  simp only[evX]
  rw[zbt h k c hu]
 | .label _,_,st=>rfl
 | .goto _,_,st=>rfl
 | .gsc l c r,hu,st=>by
  simp only[evX]
  rw[zbt h k c fun u hm=>hu u (List.mem_append_left _ hm)]
  congr 1
  funext s
  exact zbt h k r (fun u hm=>hu u (List.mem_append_right _ hm)) s
 | .lp id g c g2,hu,st=>by
  simp only[evX,h.loop k c _ hu]
theorem zr8(hc:∀u af,R u=true→T u=some af→∀v∈cXs af.body,R v=true)(h:Agr R T T' O O'):Agr R T T' (nextO T O) (nextO T' O') where
 tbl:=h.tbl
 call u xs hb hu:=by
  simp only[nextO]
  rw[←h.tbl u hu]
  cases ht:T u with
  | none=>rfl
  | some af=>
   grind[zbt]
 loop k c st hu:=by
  simp only[nextO]
  rw[zbt h k c hu]
  congr 1
  funext r
  rw[h.loop k c _ hu]
theorem ziv(ht:∀u,R u=true→T u=T' u)(hc:∀u af,R u=true→T u=some af→∀v∈cXs af.body,R v=true):∀n,Agr R T T' (orcN T n) (orcN T' n)
 | 0=>⟨ht,fun _ _ _ _=>rfl,fun _ _ _ _=>rfl⟩
 | n+1=>zr8 hc (ziv ht hc n)
theorem zxr(ht:∀u,R u=true→T u=T' u)(hc:∀u af,R u=true→T u=some af→∀v∈cXs af.body,R v=true):Agr R T T' (orc T) (orc T'):=by
 refine⟨ht,fun u xs hb hu=>?_,fun k c st hu=>?_⟩
 ·simp only[orc]
  congr 1
  funext n
  exact(ziv ht hc n).call u xs hb hu
 ·simp only[orc]
  congr 1
  funext n
  exact(ziv ht hc n).loop k c st hu
end
theorem zc7{l:List (Nat×AFx)}{u:Nat}{af:AFx}(h:l.lookup u=some af):(u,af)∈l:=by
 induction l with
 | nil=>cases h
 | cons q l ih=>
  grind
structure Part (l l':List (Nat×AFx)):Prop where
 sub:∀p∈l',l.lookup p.1=some p.2
 clo:(l'.all fun p=>(cXs p.2.body).all fun v=>(l'.lookup v).isSome || (l.lookup v).isNone)=true
theorem Part.agr{l l':List (Nat×AFx)}(h:Part l l'):Agr (fun u=>(l'.lookup u).isSome || (l.lookup u).isNone) (fun u=>l.lookup u) (fun u=>l'.lookup u) (orc fun u=>l.lookup u) (orc fun u=>l'.lookup u):=by
 refine zxr (fun v hv=>?_) (fun v a hv hva w hw=>?_)
 ·cases hv2:l'.lookup v with
  | none=>
   cases hv3:l.lookup v with
   | none=>rfl
   | some a=>grind
  | some a=>exact h.sub _ (zc7 hv2)
 ·cases hv2:l'.lookup v with
  | none=>grind
  | some b=>
   have hb:=zc7 hv2
   have h1:=h.sub _ hb
   rw[hva]at h1
   cases h1
   exact List.all_eq_true.1 (List.all_eq_true.1 h.clo _ hb) w hw
theorem Part.ev{l l':List (Nat×AFx)}(h:Part l l'){c:AX}(hc:((cXs c).all fun v=>(l'.lookup v).isSome)=true){st:St}{r:Option (Ex×St)}
  (he:evX (orc fun u=>l.lookup u) (fun u=>l.lookup u) 0 c st=r):evX (orc fun u=>l'.lookup u) (fun u=>l'.lookup u) 0 c st=r:=by
 rw[←zbt h.agr 0 c (fun v hv=>by grind) st]
 omega
theorem Part.call{l l':List (Nat×AFx)}(h:Part l l'){u:Nat}(hu:(l'.lookup u).isSome=true){xs:List AV}{r:Option AV}(he:callF (fun u=>l.lookup u) u xs=r):callF (fun u=>l'.lookup u) u xs=r:=by
 rw[←he]
 unfold callF
 rw[h.agr.call u xs [] (by grind)]
end
end Go.Ab