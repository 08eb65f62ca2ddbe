/-
  A calculus of values, boxes and code, and what functions of the program compute, proved in it.
  Conditions: none beyond those that the theorems state. (Part 4.)
-/
import Derived.Test.YtfgfjicelfagcaaGreatDoorPart3

set_option linter.unusedSectionVars false
set_option linter.unusedVariables false
set_option linter.unusedSimpArgs false
set_option linter.unnecessarySimpa false

namespace Go.Ab
theorem zo2{P m R:List UInt32}{i:Nat}{c:UInt32}(hm:m.length=i):(P++(m++c::R))[P.length+i]? = some c:=by
 grind
theorem zjy{P m R:List UInt32}{i:Nat}{c:UInt32}(w:UInt32)(hm:m.length=i):(P++(m++c::R)).set (P.length+i) w=P++(m++w::R):=by
 rw[List.set_append_right (P.length+i) w (by omega),Nat.add_sub_cancel_left,List.set_append_right i w (by omega),hm,Nat.sub_self,List.set_cons_zero]
theorem zwn{P m R:List UInt32}{i:Nat}{c d:UInt32}(w:UInt32)(hm:m.length=i):(P++(m++c::d::R)).set (P.length+i+1) w=P++(m++c::w::R):=by
 rw[Nat.add_assoc,List.set_append_right (P.length+(i+1)) w (by omega),Nat.add_sub_cancel_left,List.set_append_right (i+1) w (by omega),hm,show i+1-i=1 by omega]
 rfl
theorem zwo{P m R:List UInt32}{i:Nat}{c d:UInt32}(hm:m.length=i):(P++(m++c::d::R))[P.length+i+1]? = some d:=by
 grind
theorem zd0(n:Nat):w32 (n%4294967296)=w32 n:=zxi (by rw[zdt,Nat.mod_mod])
section
variable{T:Tbl}[CNat T][CTwos T]
def stUp(P a:List UInt32)(n:Nat)(y:Nat×Nat×List UInt32):St:=
 ⟨[(5,.i .i64 P.length),(6,.i .i64 n),(7,.bs (.loc 23) 1 1 0 (P.length+a.length+1)),(24,.sl (u32s a) .an),(25,.i .i64 a.length),(26,.i .i64 y.1)],[(.loc 23,⟨1,.own,1,u32s (P++(y.2.2++w32 y.2.1::List.replicate (a.length-y.1) 0))⟩)],3⟩
end
section
variable{T:Tbl}
theorem zzv(P a:List UInt32)(n:Nat)(hn:n<32)(hl:P.length+a.length≤1000000):∀y:Nat×Nat×List UInt32,
  (y.1≤a.length∧y.2.1<2^n∧y.2.2.length=y.1∧val y.2.2+4294967296^y.1*y.2.1=2^n*val (a.take y.1)) →
  ∃r,(∃(c:Nat) (m:List UInt32),r=(Ex.n,(⟨[(7,.bs (.loc 23) 1 1 0 (P.length+a.length+1))],[(.loc 23,⟨1,.own,1,u32s (P++(m++[w32 c]))⟩)],3⟩:St)) ∧
   m.length=a.length∧c<2^n∧val m+4294967296^a.length*c=2^n*val a)∧loopN T 0 0 (.norm false [7]) l92_0 (stUp P a n y)=some r:=by
 refine zas _ _ (fun y=>a.length-y.1) _ ?_
 rintro⟨i,c,m⟩ ⟨hi,hc,hm,hv⟩
 simp only at hi hc hm hv
 by_cases h0:i<a.length
 ·left
  have ha:a[i]? = some (a[i]'h0):=List.getElem?_eq_getElem h0
  obtain⟨u1,u2,u3,u4,u5⟩:=zzx (zan (a[i]'h0)) hn hc
  have hx:=zan (a[i]'h0)
  have hrep:List.replicate (a.length-i) (0:UInt32)=0::List.replicate (a.length-(i+1)) 0:=by
   rw[show a.length-i=a.length-(i+1)+1 by omega,List.replicate_succ]
  have hw:IntKind.wrap .i64 ((i:Int)+1)=((i+1:Nat):Int):=zab _ (by omega)
  have hw2:IntKind.wrap .i64 ((P.length:Int)+i)=((P.length+i:Nat):Int):=zab _ (by omega)
  have hw3:IntKind.wrap .i64 ((P.length:Int)+i+1)=((P.length+i+1:Nat):Int):=zab _ (by omega)
  have hg:=zo2 (P:=P) (c:=w32 c) (R:=0::List.replicate (a.length-(i+1)) 0) hm
  have hg3:=zwo (P:=P) (c:=w32 (c+(a[i]'h0).toNat*2^n%4294967296)) (d:=0) (R:=List.replicate (a.length-(i+1)) 0) hm
  have hs1:=zjy (P:=P) (c:=w32 c) (R:=0::List.replicate (a.length-(i+1)) 0) (w32 (c+(a[i]'h0).toNat*2^n%4294967296)) hm
  have hs2:=zwn (P:=P) (c:=w32 (c+(a[i]'h0).toNat*2^n%4294967296)) (d:=0) (R:=List.replicate (a.length-(i+1)) 0) (w32 ((a[i]'h0).toNat*2^n/4294967296)) hm
  have hmin:min n 64=n:=by omega
  have hlt1:(P.length:Int)+i<(P.length:Int)+a.length+1:=by omega
  have hlt2:(P.length:Int)+i<(P.length:Int)+a.length:=by omega
  have m1:(a[i]'h0).toNat%18446744073709551616=(a[i]'h0).toNat:=Nat.mod_eq_of_lt (by omega)
  have m2:=Nat.mod_eq_of_lt u1
  have m3:=Nat.mod_eq_of_lt u3
  have hcc:c<4294967296:=by omega
  have m4:(a[i]'h0).toNat*2^n/4294967296%4294967296=(a[i]'h0).toNat*2^n/4294967296:=Nat.mod_eq_of_lt (by omega)
  have m5:(a[i]'h0).toNat*2^n/4294967296<4294967296:=by omega
  refine⟨(i+1,(a[i]'h0).toNat*2^n/4294967296,m++[w32 (c+(a[i]'h0).toNat*2^n%4294967296)]),⟨h0,u4,by grind,?_⟩,by omega,?_⟩
  ·grind[zaj,zaf,zai,za0,zad,Nat.div_add_mod]
  ·simp -implicitDefEqProofs[l92_0,stUp,h0,hrep,hw,hw2,hw3,hg,hg3,hs1,hs2,zbj _ _ _ u3,zbj _ _ _ m5,hmin,hlt1,hlt2,m1,m2,m3,m4,u2,zad hcc]
 ·right
  have:i=a.length:=by omega
  subst this
  rw[List.take_of_length_le (Nat.le_refl a.length)]at hv
  refine⟨_,⟨c,m,rfl,hm,hc,hv⟩,?_,?_⟩<;>simp -implicitDefEqProofs[l92_0,stUp]
end
section
variable{T:Tbl}[CNat T][CTwos T]
def stDn(a:List UInt32)(W n:Nat)(y:Nat×List UInt32):St:=
 ⟨[(0,.sl (u32s a) .an),(5,.i .i64 W),(6,.i .i64 n),(7,.bs (.loc 24) 1 1 0 (a.length-W)),(26,.i .i64 (a.length-W:Nat)),(27,.i .i64 y.1)],[(.loc 24,⟨1,.own,1,u32s (y.2++List.replicate (a.length-W-y.1) 0)⟩)],3⟩
end
section
variable{T:Tbl}
theorem zui(a:List UInt32)(W n:Nat)(hn:n<32)(hW:W≤a.length)(hl:a.length≤1000000):∀y:Nat×List UInt32,
  (y.1≤a.length-W∧y.2.length=y.1∧val y.2+4294967296^y.1*(val (a.drop (W+y.1))/2^n)=val (a.drop W)/2^n) →
  ∃r,(∃m:List UInt32,r=(Ex.n,(⟨[(7,.bs (.loc 24) 1 1 0 (a.length-W))],[(.loc 24,⟨1,.own,1,u32s m⟩)],3⟩:St)) ∧
   m.length=a.length-W∧val m=val (a.drop W)/2^n)∧loopN T 0 0 (.norm false [7]) l94_0 (stDn a W n y)=some r:=by
 refine zas _ _ (fun y=>a.length-W-y.1) _ ?_
 rintro⟨i,m⟩ ⟨hi,hm,hv⟩
 by_cases h0:i<a.length-W
 ·left
  have hWi:W+i<a.length:=by omega
  have ha:a[W+i]? = some (a[W+i]'hWi):=List.getElem?_eq_getElem hWi
  have hx:=zan (a[W+i]'hWi)
  have hd:=List.drop_eq_getElem_cons hWi
  have hrep:List.replicate (a.length-W-i) (0:UInt32)=0::List.replicate (a.length-W-(i+1)) 0:=by
   rw[show a.length-W-i=a.length-W-(i+1)+1 by omega,List.replicate_succ]
  have hw:IntKind.wrap .i64 ((i:Int)+1)=((i+1:Nat):Int):=zab _ (by omega)
  have hw2:IntKind.wrap .i64 ((W:Int)+i)=((W+i:Nat):Int):=zab _ (by omega)
  have hw3:IntKind.wrap .i64 ((W:Int)+i+1)=((W+i+1:Nat):Int):=zab _ (by omega)
  have hg:=zo2 (P:=[]) (c:=0) (R:=List.replicate (a.length-W-(i+1)) 0) hm
  have hmin:min n 64=n:=by omega
  have hlt1:(W:Int)+i<(a.length:Int):=by omega
  have hlt3:((W:Int)+i).toNat=W+i:=by omega
  have m1:(a[W+i]'hWi).toNat%18446744073709551616=(a[W+i]'hWi).toNat:=Nat.mod_eq_of_lt (by omega)
  have fin:∀y R:Nat,val (a.drop (W+i+1))=y+4294967296*R→val (m++[w32 (((a[W+i]'hWi).toNat+y*4294967296)/2^n%4294967296)])+4294967296^(i+1)*(val (a.drop (W+(i+1)))/2^n)=val (a.drop W)/2^n:=by
   intro y R hR
   have hmod:((a[W+i]'hWi).toNat+y*4294967296)/2^n%4294967296<4294967296:=Nat.mod_lt _ (by decide)
   have hdw:=zl2 (x:=(a[W+i]'hWi).toNat) (y:=y) (R:=R) hn hx
   rw[hd,zai,hR,hdw,←hR]at hv
   grind[zaj,zai,za0,zad]
  by_cases h1:W+i+1<a.length
  ·have hd1:=List.drop_eq_getElem_cons h1
   have hy:=zan (a[W+i+1]'h1)
   have m2:(a[W+i+1]'h1).toNat%18446744073709551616=(a[W+i+1]'h1).toNat:=Nat.mod_eq_of_lt (by omega)
   have m3:(a[W+i+1]'h1).toNat*4294967296%18446744073709551616=(a[W+i+1]'h1).toNat*4294967296:=Nat.mod_eq_of_lt (by omega)
   have hor:(a[W+i]'hWi).toNat ||| (a[W+i+1]'h1).toNat*4294967296=(a[W+i]'hWi).toNat+(a[W+i+1]'h1).toNat*4294967296:=by
    have:=zxj (a:=(a[W+i]'hWi).toNat) (b:=(a[W+i+1]'h1).toNat) (n:=32) (by simp)
    grind
   have m4:((a[W+i]'hWi).toNat+(a[W+i+1]'h1).toNat*4294967296)%18446744073709551616=(a[W+i]'hWi).toNat+(a[W+i+1]'h1).toNat*4294967296:=Nat.mod_eq_of_lt (by omega)
   have hs1:=zjy (P:=[]) (c:=0) (R:=List.replicate (a.length-W-(i+1)) 0) (w32 (((a[W+i]'hWi).toNat+(a[W+i+1]'h1).toNat*4294967296)/2^n%4294967296)) hm
   have hlt2:(W:Int)+i+1<(a.length:Int):=by omega
   have hlt4:((W:Int)+i+1).toNat=W+i+1:=by omega
   refine⟨(i+1,m++[w32 (((a[W+i]'hWi).toNat+(a[W+i+1]'h1).toNat*4294967296)/2^n%4294967296)]),⟨h0,by grind,fin _ (val (a.drop (W+i+1+1))) (by rw[hd1,zai])⟩,by omega,?_⟩
   simp at hg
   simp[zd0]at hs1
   simp -implicitDefEqProofs[l94_0,stDn,h0,ha,hrep,hw,hw2,hw3,hg,hs1,zd0,hmin,hlt1,hlt2,hlt3,hlt4,m1,m2,m3,m4,hor,h1]
  ·have hs1:=zjy (P:=[]) (c:=0) (R:=List.replicate (a.length-W-(i+1)) 0) (w32 ((a[W+i]'hWi).toNat/2^n%4294967296)) hm
   have hlt2:¬ (W:Int)+i+1<(a.length:Int):=by omega
   have f0:=fin 0 0 (by rw[List.drop_of_length_le (by omega),za0,Nat.mul_zero])
   refine⟨(i+1,m++[w32 ((a[W+i]'hWi).toNat/2^n%4294967296)]),⟨h0,by grind,f0⟩,by omega,?_⟩
   simp at hg
   simp[zd0]at hs1
   simp -implicitDefEqProofs[l94_0,stDn,h0,ha,hrep,hw,hw2,hw3,hg,hs1,zd0,hmin,hlt1,hlt2,hlt3,m1]
 ·right
  have:i=a.length-W:=by omega
  subst this
  rw[show W+(a.length-W)=a.length by omega,List.drop_length,za0,Nat.zero_div,Nat.mul_zero,Nat.add_zero]at hv
  refine⟨_,⟨m++List.replicate (a.length-W-(a.length-W)) 0,rfl,by grind,by grind⟩,?_,?_⟩<;>simp -implicitDefEqProofs[l94_0,stDn]
end
section
variable{T:Tbl}[CNat T][CTwos T]
theorem zuj(a:List UInt32)(n:Nat)(h:n/32≤a.length):val (a.drop (n/32))/2^(n%32)=val a/2^n:=by
 rw[←zum a _ h,Nat.div_div_eq_div_mul,znt,←Nat.pow_add,show 32*(n/32)+n%32=n by omega]
theorem zuk(a:List UInt32)(n:Nat)(hn:n≤100000000)(hl:a.length≤100000):callF T 94 [.sl (u32s a) .an,.i .i64 n]=some (.sl (u32s (ofN (val a/2^n))) .an):=by
 have hn2:¬ (n:Int)<0:=by omega
 have hq:(n:Int).tdiv 32=(n:Int)/32:=Int.tdiv_eq_ediv_of_nonneg (by omega)
 have hm2:(n:Int).tmod 32=(n:Int)%32:=Int.tmod_eq_emod_of_nonneg (by omega)
 have w1:IntKind.wrap .i64 ((n:Int)/32)=(n:Int)/32:=zab (n/32) (by omega)
 rcases Nat.lt_or_ge (n/32) a.length with h0 | h0
 ·obtain⟨_,⟨m,rfl,hm,hv⟩,hr⟩:=zui (T:=T) a (n/32) (n%32) (Nat.mod_lt _ (by decide)) (by omega) (by omega) (0,[]) ⟨Nat.zero_le _,rfl,by rw[za0,Nat.pow_zero,Nat.one_mul,Nat.zero_add,Nat.add_zero]⟩
  rw[zuj a n (by omega)]at hv
  have hnm:=zbq (T:=T) m (by omega)
  rw[hv]at hnm
  unfold stDn at hr
  have hsub:((a.length-n/32:Nat):Int)=(a.length:Int)-(n:Int)/32:=by omega
  simp[hsub]at hr
  have p0:¬ (a.length:Int)≤(n:Int)/32:=by omega
  have w2:IntKind.wrap .i64 ((a.length:Int)-(n:Int)/32)=(a.length:Int)-(n:Int)/32:=zab _ (by omega)
  have p1:(n:Int)/32≤(a.length:Int):=by omega
  have p2:(a.length:Int)-(n:Int)/32≤4294967296:=by omega
  have p3:((a.length:Int)-(n:Int)/32).toNat=a.length-n/32:=by omega
  have htk:List.take (a.length-n/32) m=m:=List.take_of_length_le (by omega)
  have p5:a.length≤a.length-n/32+n/32:=by omega
  rw[f94 _ rfl,b94]
  simp -implicitDefEqProofs[hn2,hq,hm2,w1,w2,p0,p5,p1,p2,p3,hsub,hr,hnm,htk,hm]
 ·have hz:val a/2^n=0:=by
   refine Nat.div_eq_of_lt (Nat.lt_of_lt_of_le (za2 a) ?_)
   rw[znt]
   exact Nat.pow_le_pow_right (by decide) (by omega)
  have p0:(a.length:Int)≤(n:Int)/32:=by omega
  rw[hz,zjz,f94 _ rfl,b94]
  simp -implicitDefEqProofs[hn2,hq,hm2,w1,p0]
end
def l90_0:AX:=
 (.note
 (.seq
 (.seq
 (.reg [mv 16 7,rg 17 (.bin .geq (.t 16) (.c (.i .i64 0)))])
 (.cond (.t 17)
 .skip
 (.exit 0)))
 (.seq
 (.block 1
 (.reg [mv 21 4,mv 22 7,mv 23 5,mv 24 0,mv 25 7,rg 26 (.iad 1 (.t 24) (.t 25)),rg 27 (.load none (.t 26)),mv 28 1,rg 29 (.call 118 [(.t 23),(.t 27),(.t 28)]),mv 20 29,rg 30 (.ext (.t 20) 0),rg 31 (.ext (.t 20) 1),rg 32 (.ext (.t 20) 2),rg 33 (.iad 1 (.t 21) (.t 22)),so (.store 1 (.t 33) (.t 30)),mv 5 31]))
 (.reg [mv 18 7,rg 19 (.bin .sub (.t 18) (.c (.i .i64 1))),mv 7 19])))
 (.norm false [0,1,4,5,7]))
def b90:AX:=
 (.seq
 (.reg [rg 4 (.mov (.c (.sl [] .nl))),rg 5 (.mov (.c (u32 0))),rg 6 (.mov (.c (.b false)))])
 (.seq
 (.seq
 (.reg [mv 8 1,rg 9 (.bin .eql (.t 8) (.c (u32 0)))])
 (.cond (.t 9)
 (.seq
 (.reg [rg 4 (.mov (.c (.sl [] .nl))),rg 5 (.mov (.c (u32 0))),rg 6 (.mov (.c (.b false)))])
 (.pre (.norm false [4,5,6]) .ret))
 .skip))
 (.seq
 (.reg [mv 10 0,rg 11 (.len (.t 10)),rg 12 (.mks 1 [(u32 0)] (.t 11) (.t 11)),mv 4 12])
 (.seq
 (.seq
 (.reg [mv 13 0,rg 14 (.len (.t 13)),rg 15 (.bin .sub (.t 14) (.c (.i .i64 1))),mv 7 15])
 (.lp 0 (.norm false [0,1,4,5,7]) l90_0 (.norm false [4,5])))
 (.seq
 (.reg [mv 34 4,rg 35 (.call 71 [(.t 34)]),mv 36 5,mv 4 35,mv 5 36,rg 6 (.mov (.c (.b true)))])
 (.pre (.norm false [4,5,6]) .ret))))))
def l119_0:AX:=
 (.note
 (.block 1
 (.seq
 (.reg [mv 46 11,mv 47 4,rg 48 (.call 117 [(.t 46),(.t 47),(.c (u32 0)),(.c (u32 0))]),mv 45 48,rg 49 (.ext (.t 45) 0),rg 50 (.ext (.t 45) 1),mv 16 49,mv 17 50])
 (.seq
 (.seq
 (.reg [mv 51 16,mv 52 12,rg 53 (.bin .lss (.t 51) (.t 52)),mv 54 53,gd 55 54 false (.mov (.t 16)),gd 56 54 false (.mov (.t 12)),gd 57 54 false (.bin .eql (.t 55) (.t 56)),gd 58 54 false (.mov (.t 57)),gd 59 58 true (.mov (.t 17)),gd 60 58 true (.mov (.t 2)),gd 61 58 true (.bin .leq (.t 59) (.t 60)),gd 62 54 false (.pick (.t 58) (.t 61) (.c (.b false))),rg 63 (.pick (.t 54) (.c (.b true)) (.t 62))])
 (.cond (.t 63)
 (.exit 0)
 .skip))
 (.seq
 (.reg [mv 64 11,rg 65 (.bin .sub (.t 64) (.c (u32 1))),mv 11 65])
 (.seq
 (.reg [mv 67 12,mv 68 3,rg 69 (.call 115 [(.t 67),(.t 68),(.c (u32 0))]),mv 66 69,rg 70 (.ext (.t 66) 0),rg 71 (.ext (.t 66) 1),mv 18 70,mv 19 71])
 (.seq
 (.seq
 (.reg [mv 72 19,rg 73 (.bin .gtr (.t 72) (.c (u32 0)))])
 (.cond (.t 73)
 (.exit 0)
 .skip))
 (.reg [mv 74 18,mv 12 74])))))))
 (.norm false [2,3,4,11,12]))
def b119:AX:=
 (.seq
 (.reg [rg 10 (.mov (.c (u32 0)))])
 (.scope
 (.seq
 (.reg [mv 21 0,mv 22 1,mv 23 3,rg 24 (.call 118 [(.t 21),(.t 22),(.t 23)]),mv 20 24,rg 25 (.ext (.t 20) 0),rg 26 (.ext (.t 20) 1),rg 27 (.ext (.t 20) 2),mv 11 25,mv 12 26,mv 13 27])
 (.seq
 (.seq
 (.reg [mv 28 13,rg 29 (.un .not (.t 28))])
 (.cond (.t 29)
 (.seq
 (.reg [rg 11 (.mov (.c (u32 4294967295)))])
 (.seq
 (.reg [mv 31 1,mv 32 3,rg 33 (.call 115 [(.t 31),(.t 32),(.c (u32 0))]),mv 30 33,rg 34 (.ext (.t 30) 0),rg 35 (.ext (.t 30) 1),mv 14 34,mv 15 35])
 (.seq
 (.seq
 (.reg [mv 36 0,mv 37 3,rg 38 (.bin .gtr (.t 36) (.t 37)),mv 39 38,gd 40 39 false (.mov (.t 15)),gd 41 39 false (.bin .gtr (.t 40) (.c (u32 0))),rg 42 (.pick (.t 39) (.c (.b true)) (.t 41))])
 (.cond (.t 42)
 (.seq
 (.reg [mv 43 11,mv 10 43])
 (.pre (.norm false [10]) .ret))
 .skip))
 (.reg [mv 44 14,mv 12 44]))))
 .skip))
 (.seq
 (.label 0)
 (.seq
 (.lp 0 (.norm false [2,3,4,11,12]) l119_0 (.norm false [11]))
 (.seq
 (.reg [mv 75 11,mv 10 75])
 (.pre (.norm false [10]) .ret))))))))
def l120_0:AX:=
 (.note
 (.seq
 (.reg [rg 18 (.bin .lss (.t 17) (.t 16))])
 (.seq
 (.cond (.t 18)
 .skip
 (.exit 0))
 (.seq
 (.block 1
 (.seq
 (.reg [mv 19 17,rg 20 (.iad 1 (.t 15) (.t 17)),rg 21 (.load none (.t 20)),mv 11 19,mv 12 21])
 (.seq
 (.reg [rg 13 (.mov (.c (u32 0)))])
 (.seq
 (.reg [mv 23 3,mv 24 12,mv 25 9,rg 26 (.call 117 [(.t 23),(.t 24),(.t 25),(.c (u32 0))]),mv 22 26,rg 27 (.ext (.t 22) 0),rg 28 (.ext (.t 22) 1),mv 9 27,mv 13 28])
 (.reg [mv 30 0,mv 31 1,mv 32 11,rg 33 (.bin .add (.t 31) (.t 32)),mv 34 0,mv 35 1,mv 36 11,rg 37 (.bin .add (.t 35) (.t 36)),rg 38 (.iad 1 (.t 34) (.t 37)),rg 39 (.load none (.t 38)),mv 40 13,mv 41 10,rg 42 (.call 116 [(.t 39),(.t 40),(.t 41)]),mv 29 42,rg 43 (.ext (.t 29) 0),rg 44 (.ext (.t 29) 1),rg 45 (.iad 1 (.t 30) (.t 33)),so (.store 1 (.t 45) (.t 43)),mv 10 44])))))
 (.reg [rg 46 (.bin .add (.t 17) (.c (.i .i64 1))),mv 17 46]))))
 (.norm false [0,1,2,3,9,10,15,16,17]))
def b120:AX:=
 (.seq
 (.reg [rg 8 (.mov (.c (.b false)))])
 (.seq
 (.reg [rg 9 (.mov (.c (u32 0))),rg 10 (.mov (.c (u32 0)))])
 (.seq
 (.seq
 (.reg [mv 15 2,rg 16 (.len (.t 15)),rg 17 (.mov (.c (.i .i64 0)))])
 (.lp 0 (.norm false [0,1,2,3,9,10,15,16,17]) l120_0 (.norm false [0,1,2,9,10])))
 (.seq
 (.reg [mv 47 1,mv 48 2,rg 49 (.len (.t 48)),rg 50 (.bin .add (.t 47) (.t 49)),mv 14 50])
 (.seq
 (.reg [mv 52 0,mv 53 14,mv 54 0,mv 55 14,rg 56 (.iad 1 (.t 54) (.t 55)),rg 57 (.load none (.t 56)),mv 58 9,mv 59 10,rg 60 (.call 116 [(.t 57),(.t 58),(.t 59)]),mv 51 60,rg 61 (.ext (.t 51) 0),rg 62 (.ext (.t 51) 1),rg 63 (.iad 1 (.t 52) (.t 53)),so (.store 1 (.t 63) (.t 61)),mv 10 62])
 (.seq
 (.reg [mv 64 10,rg 65 (.bin .gtr (.t 64) (.c (u32 0))),mv 8 65])
 (.pre (.norm false [8]) .ret)))))))
def l121_0:AX:=
 (.note
 (.seq
 (.reg [rg 12 (.bin .lss (.t 11) (.t 10))])
 (.seq
 (.cond (.t 12)
 .skip
 (.exit 0))
 (.seq
 (.block 1
 (.seq
 (.reg [mv 13 11,rg 14 (.iad 1 (.t 9) (.t 11)),rg 15 (.load none (.t 14)),mv 7 13,mv 8 15])
 (.reg [mv 17 0,mv 18 1,mv 19 7,rg 20 (.bin .add (.t 18) (.t 19)),mv 21 0,mv 22 1,mv 23 7,rg 24 (.bin .add (.t 22) (.t 23)),rg 25 (.iad 1 (.t 21) (.t 24)),rg 26 (.load none (.t 25)),mv 27 8,mv 28 6,rg 29 (.call 115 [(.t 26),(.t 27),(.t 28)]),mv 16 29,rg 30 (.ext (.t 16) 0),rg 31 (.ext (.t 16) 1),rg 32 (.iad 1 (.t 17) (.t 20)),so (.store 1 (.t 32) (.t 30)),mv 6 31])))
 (.reg [rg 33 (.bin .add (.t 11) (.c (.i .i64 1))),mv 11 33]))))
 (.norm false [0,1,2,6,9,10,11]))
def b121:AX:=
 (.seq
 (.reg [rg 6 (.mov (.c (u32 0)))])
 (.seq
 (.seq
 (.reg [mv 9 2,rg 10 (.len (.t 9)),rg 11 (.mov (.c (.i .i64 0)))])
 (.lp 0 (.norm false [0,1,2,6,9,10,11]) l121_0 (.norm false [0,1,2,6])))
 (.reg [mv 34 0,mv 35 1,mv 36 2,rg 37 (.len (.t 36)),rg 38 (.bin .add (.t 35) (.t 37)),rg 39 (.iad 1 (.t 34) (.t 38)),rg 40 (.load none (.t 39)),mv 41 6,rg 42 (.bin .add (.t 40) (.t 41)),rg 43 (.iad 1 (.t 34) (.t 38)),so (.store 1 (.t 43) (.t 42))])))
def l93_0:AX:=
 (.note
 (.seq
 (.seq
 (.reg [mv 19 7,rg 20 (.bin .geq (.t 19) (.c (.i .i64 0)))])
 (.cond (.t 20)
 .skip
 (.exit 0)))
 (.seq
 (.block 1
 (.seq
 (.drawT [mv 23 0,mv 24 7,mv 25 5,rg 26 (.bin .add (.t 24) (.t 25)),rg 27 (.iad 1 (.t 23) (.t 26)),rg 28 (.load none (.t 27)),mv 29 0,mv 30 7,mv 31 5,rg 32 (.bin .add (.t 30) (.t 31)),rg 33 (.bin .sub (.t 32) (.c (.i .i64 1))),rg 34 (.iad 1 (.t 29) (.t 33)),rg 35 (.load none (.t 34)),mv 36 0,mv 37 7,mv 38 5,rg 39 (.bin .add (.t 37) (.t 38)),rg 40 (.bin .sub (.t 39) (.c (.i .i64 2))),rg 41 (.iad 1 (.t 36) (.t 40)),rg 42 (.load none (.t 41)),mv 43 1,mv 44 5,rg 45 (.bin .sub (.t 44) (.c (.i .i64 1))),rg 46 (.iad 1 (.t 43) (.t 45)),rg 47 (.load none (.t 46)),mv 48 1,mv 49 5,rg 50 (.bin .sub (.t 49) (.c (.i .i64 2))),rg 51 (.iad 1 (.t 48) (.t 50)),rg 52 (.load none (.t 51))]
 [rg 53 (.call 119 [(.t 28),(.t 35),(.t 42),(.t 47),(.t 52)]),mv 8 53])
 (.seq
 (.seq
 (.reg [mv 54 0,mv 55 7,mv 56 1,mv 57 8,rg 58 (.call 120 [(.t 54),(.t 55),(.t 56),(.t 57)])])
 (.cond (.t 58)
 (.seq
 (.reg [mv 59 8,rg 60 (.bin .sub (.t 59) (.c (u32 1))),mv 8 60])
 (.reg [mv 61 0,mv 62 7,mv 63 1,rg 64 (.call 121 [(.t 61),(.t 62),(.t 63)])]))
 .skip))
 (.reg [mv 65 6,mv 66 7,mv 67 8,rg 68 (.iad 1 (.t 65) (.t 66)),so (.store 1 (.t 68) (.t 67))]))))
 (.reg [mv 21 7,rg 22 (.bin .sub (.t 21) (.c (.i .i64 1))),mv 7 22])))
 (.norm false [0,1,5,6,7]))
def b93:AX:=
 (.seq
 (.reg [rg 4 (.mov (.c (.sl [] .nl)))])
 (.seq
 (.reg [mv 9 1,rg 10 (.len (.t 9)),mv 5 10])
 (.seq
 (.reg [mv 11 0,rg 12 (.len (.t 11)),mv 13 5,rg 14 (.bin .sub (.t 12) (.t 13)),rg 15 (.mks 1 [(u32 0)] (.t 14) (.t 14)),mv 6 15])
 (.seq
 (.seq
 (.reg [mv 16 6,rg 17 (.len (.t 16)),rg 18 (.bin .sub (.t 17) (.c (.i .i64 1))),mv 7 18])
 (.lp 0 (.norm false [0,1,5,6,7]) l93_0 (.norm false [6])))
 (.seq
 (.reg [mv 69 6,mv 4 69])
 (.pre (.norm false [4]) .ret))))))
class CQuot (T:Tbl):Prop where
 h90:T 90=some ⟨2,37,[.t 4,.t 5,.t 6],b90,none,false⟩
 h119:T 119=some ⟨5,76,[.t 10],b119,none,false⟩
 h120:T 120=some ⟨4,66,[.t 8],b120,(some [true,false,false,false]),false⟩
 h121:T 121=some ⟨3,44,[],b121,(some [true,false,false]),false⟩
 h93:T 93=some ⟨2,70,[.t 4],b93,(some [true,false]),false⟩
section
variable{T:Tbl}[CQuot T]{d:Option Nat}{st:St}
@[simp] theorem x90(xs:List AV):callX (orc T) T 90 xs d st=cP T 90 false xs d st:=zaa CQuot.h90
theorem f90(xs:List AV)(hn:xs.length=2):callF T 90 xs=retF [.t 4,.t 5,.t 6] false (evX (orc T) T 0 b90 ⟨argEnv xs,[],1⟩):=zac CQuot.h90 hn
@[simp] theorem x119(xs:List AV):callX (orc T) T 119 xs d st=cP T 119 false xs d st:=zaa CQuot.h119
theorem f119(xs:List AV)(hn:xs.length=5):callF T 119 xs=retF [.t 10] false (evX (orc T) T 0 b119 ⟨argEnv xs,[],1⟩):=zac CQuot.h119 hn
@[simp] theorem x120(xs:List AV):callX (orc T) T 120 xs d st=bL (frzM st.heap [true,false,false,false] xs) fun ys=>lentX ys (shareIds (refsM [true,false,false,false] xs) st.heap) (reach (shareIds (refsM [true,false,false,false] xs) st.heap) 40 (rootsM [true,false,false,false] xs) []) T 120 false d st:=zap CQuot.h120
theorem f120(xs:List AV)(hb:Heap)(hn:xs.length=4):callH T 120 xs hb=retH [.t 8] false hb.length (evX (orc T) T hb.length b120 ⟨argEnv xs,hb,hb.length+1⟩):=zax CQuot.h120 hn
@[simp] theorem x121(xs:List AV):callX (orc T) T 121 xs d st=bL (frzM st.heap [true,false,false] xs) fun ys=>lentX ys (shareIds (refsM [true,false,false] xs) st.heap) (reach (shareIds (refsM [true,false,false] xs) st.heap) 40 (rootsM [true,false,false] xs) []) T 121 false d st:=zap CQuot.h121
theorem f121(xs:List AV)(hb:Heap)(hn:xs.length=3):callH T 121 xs hb=retH [] false hb.length (evX (orc T) T hb.length b121 ⟨argEnv xs,hb,hb.length+1⟩):=zax CQuot.h121 hn
@[simp] theorem x93(xs:List AV):callX (orc T) T 93 xs d st=bL (frzM st.heap [true,false] xs) fun ys=>lentX ys (shareIds (refsM [true,false] xs) st.heap) (reach (shareIds (refsM [true,false] xs) st.heap) 40 (rootsM [true,false] xs) []) T 93 false d st:=zap CQuot.h93
theorem f93(xs:List AV)(hb:Heap)(hn:xs.length=2):callH T 93 xs hb=retH [.t 4] false hb.length (evX (orc T) T hb.length b93 ⟨argEnv xs,hb,hb.length+1⟩):=zax CQuot.h93 hn
end
theorem zjt{m:List UInt32}{j:Nat}(w:UInt32):(List.replicate (j+1) 0++m).set j w=List.replicate j 0++w::m:=by
 rw[List.set_append_left j w (by simp),List.replicate_succ',List.set_append_right j w (by simp)]
 simp
theorem zju{m:List UInt32}{j:Nat}:(List.replicate (j+1) (0:UInt32)++m)[j]? = some 0:=by
 rw[List.getElem?_append_left (by simp),List.getElem?_replicate,if_pos (by omega)]
section
variable{T:Tbl}[CNat T][CTwos T][CProd T][CQuot T]
def stWd(a:List UInt32)(x:Nat)(y:Nat×Nat×List UInt32):St:=
 ⟨[(0,.sl (u32s a) .an),(1,u32 x),(4,.bs (.loc 12) 1 1 0 a.length),(5,u32 y.2.1),(7,.i .i64 ((y.1:Int)-1))],[(.loc 12,⟨1,.own,1,u32s (List.replicate y.1 0++y.2.2)⟩)],3⟩
end
section
variable{T:Tbl}[CNat T]
theorem zzb(a:List UInt32)(x:Nat)(hx:x<4294967296)(hl:a.length≤1000000):∀y:Nat×Nat×List UInt32,
  (y.1≤a.length∧y.2.1<x∧y.2.2.length=a.length-y.1∧val (a.drop y.1)=x*val y.2.2+y.2.1) →
  ∃r,(∃(c:Nat) (m:List UInt32),r=(Ex.n,(⟨[(4,.bs (.loc 12) 1 1 0 a.length),(5,u32 c)],[(.loc 12,⟨1,.own,1,u32s m⟩)],3⟩:St)) ∧
   m.length=a.length∧c<x∧val a=x*val m+c)∧loopN T 0 0 (.norm false [4,5]) l90_0 (stWd a x y)=some r:=by
 refine zas _ _ (fun y=>y.1) _ ?_
 rintro⟨k,c,m⟩ ⟨hk,hc,hm,hv⟩
 simp only at hk hc hm hv
 cases k with
 | zero=>
  right
  refine⟨_,⟨c,m,rfl,by omega,hc,hv⟩,?_,?_⟩<;>simp -implicitDefEqProofs[l90_0,stWd]
 | succ j=>
  left
  have hja:j<a.length:=by omega
  have hy:=zan (a[j]'hja)
  have hd:=List.drop_eq_getElem_cons hja
  have hw:IntKind.wrap .i64 ((j:Int)-1)=(j:Int)-1:=zab _ (by omega)
  have hs:=zjt (m:=m) (j:=j) (w32 ((c*4294967296+(a[j]'hja).toNat)/x))
  have hq:(c*4294967296+(a[j]'hja).toNat)/x<4294967296:=by
   refine Nat.div_lt_of_lt_mul ?_
   omega
  have hdv:=zln (T:=T) c (a[j]'hja).toNat x hc hy hx
  refine⟨(j,(c*4294967296+(a[j]'hja).toNat)%x,w32 ((c*4294967296+(a[j]'hja).toNat)/x)::m),⟨by omega,Nat.mod_lt _ (by omega),by grind,?_⟩,Nat.lt_succ_self j,?_⟩
  ·grind[zai,zad,Nat.div_add_mod]
  ·simp -implicitDefEqProofs[l90_0,stWd,hja,hw,hs,zju,hdv,zbj _ _ _ hq]
end
section
variable{T:Tbl}[CNat T][CQuot T]
theorem zlq(a:List UInt32)(x:Nat)(hx:x<4294967296)(h0:0<x)(hl:a.length≤1000000) :
  callF T 90 [.sl (u32s a) .an,u32 x]=some (.tup [.sl (u32s (ofN (val a/x))) .an,u32 (val a%x),.b true]):=by
 obtain⟨_,⟨c,m,rfl,hm,hc,hv⟩,hr⟩:=zzb (T:=T) a x hx hl (a.length,0,[]) ⟨Nat.le_refl _,h0,by simp,by rw[List.drop_length,za0,Nat.mul_zero,Nat.zero_add]⟩
 have e1:val a/x=val m:=by grind[Nat.mul_add_div,Nat.div_eq_of_lt]
 have e2:val a%x=c:=by rw[hv,Nat.mul_add_mod,Nat.mod_eq_of_lt hc]
 have hnm:=zbq (T:=T) m (by omega)
 unfold stWd at hr
 simp at hr
 have hx0:x≠0:=by omega
 have w1:IntKind.wrap .i64 ((a.length:Int)-1)=(a.length:Int)-1:=zab _ (by omega)
 have p1:(a.length:Int)≤4294967296:=by omega
 have htk:List.take a.length m=m:=List.take_of_length_le (by omega)
 rw[e1,e2,f90 _ rfl,b90]
 simp -implicitDefEqProofs[hr,hx0,w1,p1,htk,hm,hnm]
end
section
variable{T:Tbl}[CNat T][CTwos T][CProd T][CQuot T]
theorem zlr{p M w X s t y v D D':Nat}(h:M+X*t=s+p*D)(e:w+X*y+D=v+4294967296*D'):(M+p*w)+X*(t+p*y)=(s+p*v)+p*4294967296*D':=by
 grind
def stTk(P S b:List UInt32)(x:Nat)(y:Nat×(Nat×Nat)×List UInt32):St:=
 ⟨[(0,.bs (.bor 0) 0 1 0 (P.length+S.length)),(1,.i .i64 P.length),(2,.sl (u32s b) .an),(3,u32 x),(9,u32 y.2.1.1),(10,u32 y.2.1.2),(15,.sl (u32s b) .an),(16,.i .i64 b.length),(17,.i .i64 y.1)],
  [(.bor 0,⟨0,.own,1,u32s (P++(y.2.2++S.drop y.1))⟩)],4⟩
end
section
variable{T:Tbl}[CNat T]
theorem zzc(P S b:List UInt32)(x:Nat)(hx:x<4294967296)(hS:b.length<S.length)(hl:P.length+S.length≤1000000):∀y:Nat×(Nat×Nat)×List UInt32,
  (y.1≤b.length∧y.2.1.1<4294967296∧y.2.1.2≤1∧y.2.2.length=y.1∧val y.2.2+x*val (b.take y.1)=val (S.take y.1)+4294967296^y.1*(y.2.1.2+y.2.1.1)) →
  ∃r,(∃(C B:Nat) (m:List UInt32),r=(Ex.n,(⟨[(0,.bs (.bor 0) 0 1 0 (P.length+S.length)),(1,.i .i64 P.length),(2,.sl (u32s b) .an),(9,u32 C),(10,u32 B)],[(.bor 0,⟨0,.own,1,u32s (P++(m++S.drop b.length))⟩)],4⟩:St)) ∧
   C<4294967296∧B≤1∧m.length=b.length∧val m+x*val b=val (S.take b.length)+4294967296^b.length*(B+C))∧loopN T 1 0 (.norm false [0,1,2,9,10]) l120_0 (stTk P S b x y)=some r:=by
 refine zas _ _ (fun y=>b.length-y.1) _ ?_
 rintro⟨i,⟨C,B⟩,m⟩ ⟨hi,hC,hB,hm,hv⟩
 simp only at hi hC hB hm hv
 by_cases h0:i<b.length
 ·left
  have hb:b[i]? = some (b[i]'h0):=List.getElem?_eq_getElem h0
  have hiS:i<S.length:=by omega
  have hs:S[i]? = some (S[i]'hiS):=List.getElem?_eq_getElem hiS
  have hg:=zdr (P:=P) hm hiS
  have hw:IntKind.wrap .i64 ((i:Int)+1)=((i+1:Nat):Int):=zab _ (by omega)
  have hw2:IntKind.wrap .i64 ((P.length:Int)+i)=((P.length+i:Nat):Int):=zab _ (by omega)
  have hlt2:(P.length:Int)+i<(P.length:Int)+S.length:=by omega
  have hlb:=zan (b[i]'h0)
  have hls:=zan (S[i]'hiS)
  have hmul:=ziq hx hlb
  have c1:=zlm (T:=T) x (b[i]'h0).toNat C 0 hx hlb hC (by decide)
  rw[Nat.add_zero]at c1
  obtain⟨lo,hlo⟩:∃lo,lo=(x*(b[i]'h0).toNat+C)%4294967296:=⟨_,rfl⟩
  obtain⟨C',hC'⟩:∃C',C'=(x*(b[i]'h0).toNat+C)/4294967296:=⟨_,rfl⟩
  rw[←hlo,←hC']at c1
  have c2:=zll (T:=T) (S[i]'hiS).toNat lo B hls (by omega) (by omega)
  obtain⟨w,hwd⟩:∃w,w=((S[i]'hiS).toNat+8589934592-(lo+B))%4294967296:=⟨_,rfl⟩
  obtain⟨B',hB'⟩:∃B',B'=2-((S[i]'hiS).toNat+8589934592-(lo+B))/4294967296:=⟨_,rfl⟩
  rw[←hwd,←hB']at c2
  have hwl:w<4294967296:=by omega
  have hset:=zdc (P:=P) (w32 w) hm hiS
  refine⟨(i+1,(C',B'),m++[w32 w]),⟨h0,by grind,by simp only;omega,by grind,?_⟩,by omega,?_⟩
  ·simp only
   rw[zaj,zaf hb,zaf hs,Nat.pow_succ,hm,zai,za0,Nat.mul_zero,Nat.add_zero,zad hwl]
   exact zlr hv (by omega)
  ·simp -implicitDefEqProofs[l120_0,stTk,h0,hw,hw2,hlt2,hg,c1,c2,hset,zbj _ _ _ hwl]
 ·right
  have:i=b.length:=by omega
  subst this
  rw[List.take_of_length_le (Nat.le_refl b.length)]at hv
  refine⟨_,⟨C,B,m,rfl,hC,hB,hm,hv⟩,?_,?_⟩<;>simp -implicitDefEqProofs[l120_0,stTk]
end
section
variable{T:Tbl}[CNat T][CQuot T]
theorem ztx(P S b:List UInt32)(x:Nat)(hx:x<4294967296)(hS:b.length<S.length)(hl:P.length+S.length≤1000000) :
  ∃(B:Nat) (m:List UInt32),B≤1∧m.length=b.length+1∧val m+x*val b=val (S.take (b.length+1))+4294967296^(b.length+1)*B ∧
   callH T 120 [.bs (.bor 0) 0 1 0 (P.length+S.length),.i .i64 P.length,.sl (u32s b) .an,u32 x] [(.bor 0,⟨0,.own,1,u32s (P++S)⟩)] =
    some (.b (decide (0<B)),[(.bor 0,⟨0,.own,1,u32s (P++(m++S.drop (b.length+1)))⟩)]):=by
 obtain⟨_,⟨C,B,m,rfl,hC,hB,hm,hv⟩,hr⟩:=zzc (T:=T) P S b x hx hS hl (0,(0,0),[]) ⟨Nat.zero_le _,Nat.zero_lt_succ _,Nat.zero_le _,rfl,by simp⟩
 unfold stTk at hr
 simp at hr
 have hs:S[b.length]? = some (S[b.length]'hS):=List.getElem?_eq_getElem hS
 have hls:=zan (S[b.length]'hS)
 have hg:=zdr (P:=P) hm hS
 have hw2:IntKind.wrap .i64 ((P.length:Int)+b.length)=((P.length+b.length:Nat):Int):=zab _ (by omega)
 have hlt2:(P.length:Int)+b.length<(P.length:Int)+S.length:=by omega
 have c2:=zll (T:=T) (S[b.length]'hS).toNat C B hls hC (by omega)
 obtain⟨w,hwd⟩:∃w,w=((S[b.length]'hS).toNat+8589934592-(C+B))%4294967296:=⟨_,rfl⟩
 obtain⟨B',hB'⟩:∃B',B'=2-((S[b.length]'hS).toNat+8589934592-(C+B))/4294967296:=⟨_,rfl⟩
 rw[←hwd,←hB']at c2
 have hwl:w<4294967296:=by omega
 have hset:=zdc (P:=P) (w32 w) hm hS
 refine⟨B',m++[w32 w],by omega,by grind,?_,?_⟩
 ·rw[zaj,zaf hs,Nat.pow_succ,hm,zai,za0,Nat.mul_zero,Nat.add_zero,zad hwl]
  have:=zlr (y:=0) (w:=w) (v:=(S[b.length]'hS).toNat) (D':=B') hv (by omega)
  omega
 ·rw[f120 _ _ rfl,b120]
  simp -implicitDefEqProofs[hr,hw2,hlt2,hg,c2,hset,zbj _ _ _ hwl]
end
section
variable{T:Tbl}[CNat T][CTwos T][CProd T][CQuot T]
theorem zls{p M w s t y v D D':Nat}(h:M+p*D=s+t)(e:w+4294967296*D'=v+y+D):(M+p*w)+p*4294967296*D'=(s+p*v)+(t+p*y):=by
 grind
def stGv(P S b:List UInt32)(y:Nat×Nat×List UInt32):St:=
 ⟨[(0,.bs (.bor 0) 0 1 0 (P.length+S.length)),(1,.i .i64 P.length),(2,.sl (u32s b) .an),(6,u32 y.2.1),(9,.sl (u32s b) .an),(10,.i .i64 b.length),(11,.i .i64 y.1)],
  [(.bor 0,⟨0,.own,1,u32s (P++(y.2.2++S.drop y.1))⟩)],4⟩
end
section
variable{T:Tbl}[CNat T]
theorem zzd(P S b:List UInt32)(hS:b.length<S.length)(hl:P.length+S.length≤1000000):∀y:Nat×Nat×List UInt32,
  (y.1≤b.length∧y.2.1≤1∧y.2.2.length=y.1∧val y.2.2+4294967296^y.1*y.2.1=val (S.take y.1)+val (b.take y.1)) →
  ∃r,(∃(C:Nat) (m:List UInt32),r=(Ex.n,(⟨[(0,.bs (.bor 0) 0 1 0 (P.length+S.length)),(1,.i .i64 P.length),(2,.sl (u32s b) .an),(6,u32 C)],[(.bor 0,⟨0,.own,1,u32s (P++(m++S.drop b.length))⟩)],4⟩:St)) ∧
   C≤1∧m.length=b.length∧val m+4294967296^b.length*C=val (S.take b.length)+val b)∧loopN T 1 0 (.norm false [0,1,2,6]) l121_0 (stGv P S b y)=some r:=by
 refine zas _ _ (fun y=>b.length-y.1) _ ?_
 rintro⟨i,C,m⟩ ⟨hi,hC,hm,hv⟩
 simp only at hi hC hm hv
 by_cases h0:i<b.length
 ·left
  have hb:b[i]? = some (b[i]'h0):=List.getElem?_eq_getElem h0
  have hiS:i<S.length:=by omega
  have hs:S[i]? = some (S[i]'hiS):=List.getElem?_eq_getElem hiS
  have hg:=zdr (P:=P) hm hiS
  have hw:IntKind.wrap .i64 ((i:Int)+1)=((i+1:Nat):Int):=zab _ (by omega)
  have hw2:IntKind.wrap .i64 ((P.length:Int)+i)=((P.length+i:Nat):Int):=zab _ (by omega)
  have hlt2:(P.length:Int)+i<(P.length:Int)+S.length:=by omega
  have hlb:=zan (b[i]'h0)
  have hls:=zan (S[i]'hiS)
  have c2:=zg4 (T:=T) (S[i]'hiS).toNat (b[i]'h0).toNat C hls hlb (by omega)
  obtain⟨w,hwd⟩:∃w,w=((S[i]'hiS).toNat+(b[i]'h0).toNat+C)%4294967296:=⟨_,rfl⟩
  obtain⟨C',hC'⟩:∃C',C'=((S[i]'hiS).toNat+(b[i]'h0).toNat+C)/4294967296:=⟨_,rfl⟩
  rw[←hwd,←hC']at c2
  have hwl:w<4294967296:=by omega
  have hset:=zdc (P:=P) (w32 w) hm hiS
  refine⟨(i+1,C',m++[w32 w]),⟨h0,by grind,by grind,?_⟩,by omega,?_⟩
  ·simp only
   rw[zaj,zaf hb,zaf hs,Nat.pow_succ,hm,zai,za0,Nat.mul_zero,Nat.add_zero,zad hwl]
   exact zls hv (by omega)
  ·simp -implicitDefEqProofs[l121_0,stGv,h0,hw,hw2,hlt2,hg,c2,hset,zbj _ _ _ hwl]
 ·right
  have:i=b.length:=by omega
  subst this
  rw[List.take_of_length_le (Nat.le_refl b.length)]at hv
  refine⟨_,⟨C,m,rfl,hC,hm,hv⟩,?_,?_⟩<;>simp -implicitDefEqProofs[l121_0,stGv]
end
section
variable{T:Tbl}[CNat T][CQuot T]
theorem zty(P S b:List UInt32)(hS:b.length<S.length)(hl:P.length+S.length≤1000000) :
  ∃(D:Nat) (m:List UInt32),D≤1∧m.length=b.length+1∧val m+4294967296^(b.length+1)*D=val (S.take (b.length+1))+val b ∧
   callH T 121 [.bs (.bor 0) 0 1 0 (P.length+S.length),.i .i64 P.length,.sl (u32s b) .an] [(.bor 0,⟨0,.own,1,u32s (P++S)⟩)] =
    some (.tup [],[(.bor 0,⟨0,.own,1,u32s (P++(m++S.drop (b.length+1)))⟩)]):=by
 obtain⟨_,⟨C,m,rfl,hC,hm,hv⟩,hr⟩:=zzd (T:=T) P S b hS hl (0,0,[]) ⟨Nat.zero_le _,Nat.zero_le _,rfl,by simp⟩
 unfold stGv at hr
 simp at hr
 have hs:S[b.length]? = some (S[b.length]'hS):=List.getElem?_eq_getElem hS
 have hls:=zan (S[b.length]'hS)
 have hg:=zdr (P:=P) hm hS
 have hw2:IntKind.wrap .i64 ((P.length:Int)+b.length)=((P.length+b.length:Nat):Int):=zab _ (by omega)
 have hlt2:(P.length:Int)+b.length<(P.length:Int)+S.length:=by omega
 obtain⟨w,hwd⟩:∃w,w=((S[b.length]'hS).toNat+C)%4294967296:=⟨_,rfl⟩
 have hwl:w<4294967296:=by omega
 have hset:=zdc (P:=P) (w32 w) hm hS
 refine⟨((S[b.length]'hS).toNat+C)/4294967296,m++[w32 w],by omega,by grind,?_,?_⟩
 ·rw[zaj,zaf hs,Nat.pow_succ,hm,zai,za0,Nat.mul_zero,Nat.add_zero,zad hwl]
  have:=zls (y:=0) (w:=w) (v:=(S[b.length]'hS).toNat) (D':=((S[b.length]'hS).toNat+C)/4294967296) hv (by omega)
  omega
 ·rw[f121 _ _ rfl,b121]
  simp -implicitDefEqProofs[hr,hw2,hlt2,hg,←hwd,hset,zbj _ _ _ hwl]
end
theorem zg3(q b1 b0:Nat):q*(b1*4294967296+b0)=q*b1*4294967296+q*b0:=by
 rw[Nat.mul_add q,←Nat.mul_assoc q]
theorem zjp{a2 a1 a0 b1 b0 q r:Nat}(h:q*b1+r=a2*4294967296+a1)(hle:q*b0≤r*4294967296+a0) :
  q*(b1*4294967296+b0)≤(a2*4294967296+a1)*4294967296+a0:=by
 refine Nat.le_trans (Nat.le_of_eq (zg3 q b1 b0)) ?_
 revert h hle
 generalize q*b1=u
 generalize q*b0=v
 omega
theorem zvx{a2 a1 a0 b1 b0 q r:Nat}(h:q*b1+r=a2*4294967296+a1)(hgt:r*4294967296+a0<q*b0) :
  (a2*4294967296+a1)*4294967296+a0<q*(b1*4294967296+b0):=by
 refine Nat.lt_of_lt_of_eq ?_ (zg3 q b1 b0).symm
 revert h hgt
 generalize q*b1=u
 generalize q*b0=v
 omega
theorem ztl{q b0 r a0:Nat}(h0:a0<4294967296):(q*b0/4294967296<r∨q*b0/4294967296=r∧q*b0%4294967296≤a0)↔q*b0≤r*4294967296+a0:=by
 generalize q*b0=m
 omega
section
variable{T:Tbl}[CNat T][CTwos T][CProd T][CQuot T]
def stGs(a0 b1 b0:Nat)(y:Nat×Nat):St:=⟨[(2,u32 a0),(3,u32 b1),(4,u32 b0),(11,u32 y.1),(12,u32 y.2)],[],2⟩
end
section
variable{T:Tbl}[CNat T]
theorem ztm(a2 a1 a0 b1 b0 g:Nat)(h0:a0<4294967296)(hb1:b1<4294967296)(hb0:b0<4294967296)
  (F1:∀q,q<4294967296→g≤q→q*(b1*4294967296+b0)≤(a2*4294967296+a1)*4294967296+a0→q=g)
  (F2:∀q,(a2*4294967296+a1)*4294967296+a0<q*(b1*4294967296+b0)→g<q):∀y:Nat×Nat,
  (y.1<4294967296∧y.2<4294967296∧y.1*b1+y.2=a2*4294967296+a1∧g≤y.1) →
  ∃r,(r=(Ex.n,(⟨[(11,u32 g)],[],2⟩:St)))∧loopN T 0 0 (.norm false [11]) l119_0 (stGs a0 b1 b0 y)=some r:=by
 refine zas _ _ (fun y=>y.1) _ ?_
 rintro⟨q,r⟩ ⟨hq,hr,hv,hg⟩
 simp only at hq hr hv hg
 have c1:=zlm (T:=T) q b0 0 0 hq hb0 (by decide) (by decide)
 have c2:=zg4 (T:=T) r b1 0 hr hb1 (by decide)
 rw[Nat.add_zero]at c1
 rw[Nat.add_zero]at c2
 have hcmp:=ztl (q:=q) (b0:=b0) (r:=r) h0
 obtain⟨hi,hhi⟩:∃hi,hi=q*b0/4294967296:=⟨_,rfl⟩
 obtain⟨lo,hlo⟩:∃lo,lo=q*b0%4294967296:=⟨_,rfl⟩
 rw[←hhi,←hlo]at c1 hcmp
 have hlol:lo<4294967296:=by omega
 have hhil:hi<4294967296:=by
  have:=ziq hq hb0
  omega
 by_cases hle:q*b0≤r*4294967296+a0
 ·right
  have hqg:=F1 q hq hg (zjp hv hle)
  subst hqg
  have hc:=hcmp.2 hle
  clear hhi hlo
  rcases hc with hc | ⟨rfl,hc2⟩
  ·refine⟨_,rfl,?_,?_⟩<;>simp -implicitDefEqProofs[l119_0,stGs,c1,hc]
  ·refine⟨_,rfl,?_,?_⟩<;>simp -implicitDefEqProofs[l119_0,stGs,c1,hc2]
 ·have hgt:r*4294967296+a0<q*b0:=by omega
  have hlt:=F2 q (zvx hv hgt)
  have hc:¬ (hi<r∨hi=r∧lo≤a0):=fun h=>hle (hcmp.1 h)
  have hq1:q-1<4294967296:=by omega
  have hs:sub32 q 1=q-1:=by unfold sub32;omega
  have hqb:(q-1)*b1+(r+b1)=a2*4294967296+a1:=by
   have:q*b1=(q-1)*b1+b1:=by
    rw[←Nat.succ_mul]
    congr 1
    omega
   omega
  by_cases hcar:4294967296≤r+b1
  ·right
   have hmul:=ziq hq1 hb0
   have hqg:=F1 (q-1) hq1 (by omega) (zjp hqb (by
    generalize (q-1)*b0=v at *
    omega))
   have m2:0<(r+b1)/4294967296:=Nat.div_pos hcar (by decide)
   have m3:(r+b1)/4294967296<4294967296:=by omega
   have hr2:¬ hi<r:=fun h=>hc (.inl h)
   clear hhi hlo
   refine⟨_,rfl,?_,?_⟩<;>by_cases he:hi=r
   ·have hc3:¬ lo≤a0:=fun h=>hc (.inr ⟨he,h⟩)
    subst he
    simp -implicitDefEqProofs[l119_0,stGs,c1,c2,hs,hc3,m2]
   ·simp -implicitDefEqProofs[l119_0,stGs,c1,c2,hs,hr2,he,m2]
   ·have hc3:¬ lo≤a0:=fun h=>hc (.inr ⟨he,h⟩)
    subst he
    simp -implicitDefEqProofs[l119_0,stGs,c1,c2,hs,hc3,m2,hqg]
   ·simp -implicitDefEqProofs[l119_0,stGs,c1,c2,hs,hr2,he,m2,hqg]
  ·left
   refine⟨(q-1,r+b1),⟨hq1,by simp only;omega,hqb,by simp only;omega⟩,by simp only;omega,?_⟩
   have m1:(r+b1)%4294967296=r+b1:=Nat.mod_eq_of_lt (by omega)
   have m2:(r+b1)/4294967296=0:=Nat.div_eq_of_lt (by omega)
   rw[m1,m2]at c2
   have hr2:¬ hi<r:=fun h=>hc (.inl h)
   clear hhi hlo
   by_cases he:hi=r
   ·have hc3:¬ lo≤a0:=fun h=>hc (.inr ⟨he,h⟩)
    subst he
    simp -implicitDefEqProofs[l119_0,stGs,c1,c2,hs,hc3]
   ·simp -implicitDefEqProofs[l119_0,stGs,c1,c2,hs,hr2,he]
end
section
variable{T:Tbl}[CNat T][CTwos T][CProd T][CQuot T]
theorem zy7{n two:Nat}(h:0<two):(∀q,q<4294967296→min 4294967295 (n/two)≤q→q*two≤n→q=min 4294967295 (n/two))∧(∀q,n<q*two→min 4294967295 (n/two)<q):=by
 constructor
 ·intro q hq hg hle
  have:=(Nat.le_div_iff_mul_le h).2 hle
  omega
 ·intro q hlt
  have:=(Nat.div_lt_iff_lt_mul h).2 hlt
  omega
theorem zvy{A a0 b1 b0:Nat}(h0:a0<4294967296)(hp:0<b1):A*4294967296+a0<(A/b1+1)*(b1*4294967296+b0):=by
 have h1:A<(A/b1+1)*b1:=by rw[Nat.mul_comm];exact Nat.lt_mul_div_succ A hp
 refine Nat.lt_of_lt_of_eq ?_ (zg3 (A/b1+1) b1 b0).symm
 generalize (A/b1+1)*b1=u at *
 generalize (A/b1+1)*b0=v at *
 omega
end
section
variable{T:Tbl}[CNat T][CQuot T]
theorem zqb(a2 a1 a0 b1 b0:Nat)(h2:a2<4294967296)(h1:a1<4294967296)(h0:a0<4294967296)(hb1:b1<4294967296)(hb0:b0<4294967296)(hp:0<b1) :
  callF T 119 [u32 a2,u32 a1,u32 a0,u32 b1,u32 b0]=some (u32 (min 4294967295 (((a2*4294967296+a1)*4294967296+a0)/(b1*4294967296+b0)))):=by
 obtain⟨F1,F2⟩:=zy7 (n:=(a2*4294967296+a1)*4294967296+a0) (two:=b1*4294967296+b0) (by omega)
 have hgle:=Nat.min_le_left 4294967295 (((a2*4294967296+a1)*4294967296+a0)/(b1*4294967296+b0))
 generalize min 4294967295 (((a2*4294967296+a1)*4294967296+a0)/(b1*4294967296+b0))=g at *
 by_cases hlt:a2<b1
 ·have hd:=zln (T:=T) a2 a1 b1 hlt h1 hb1
  have hql:(a2*4294967296+a1)/b1<4294967296:=zxe hlt h1
  have hrl:(a2*4294967296+a1)%b1<b1:=Nat.mod_lt _ hp
  have hdm:=Nat.div_add_mod (a2*4294967296+a1) b1
  rw[Nat.mul_comm]at hdm
  obtain⟨_,rfl,hr⟩:=ztm (T:=T) a2 a1 a0 b1 b0 g h0 hb1 hb0 F1 F2 ((a2*4294967296+a1)/b1,(a2*4294967296+a1)%b1) ⟨hql,by simp only;omega,hdm,by have:=F2 _ (zvy (A:=a2*4294967296+a1) (b0:=b0) h0 hp);simp only;omega⟩
  unfold stGs at hr
  simp at hr
  rw[f119 _ rfl,b119]
  simp -implicitDefEqProofs[hd,hr]
 ·have hd:=zqe (T:=T) a2 a1 b1 (by omega) h2 h1
  have ha:=zg4 (T:=T) a1 b1 0 h1 hb1 (by decide)
  rw[Nat.add_zero]at ha
  by_cases hbig:b1<a2∨4294967296≤a1+b1
  ·have hg:4294967295=g:=by
    refine F1 4294967295 (by decide) hgle ?_
    refine zjp (r:=a2*4294967296+a1-4294967295*b1) (by omega) ?_
    omega
   subst hg
   rw[f119 _ rfl,b119]
   rcases Nat.lt_or_ge b1 a2 with hb | hb
   ·simp -implicitDefEqProofs[hd,ha,hb]
   ·have hc:4294967296≤a1+b1:=by omega
    have hb2:¬ b1<a2:=by omega
    have m2:0<(a1+b1)/4294967296:=Nat.div_pos hc (by decide)
    simp -implicitDefEqProofs[hd,ha,hb2,m2]
  ·have hb2:¬ b1<a2:=fun h=>hbig (.inl h)
   have hc:a1+b1<4294967296:=by omega
   have m1:(a1+b1)%4294967296=a1+b1:=Nat.mod_eq_of_lt hc
   have m2:(a1+b1)/4294967296=0:=Nat.div_eq_of_lt hc
   rw[m1,m2]at ha
   obtain⟨_,rfl,hr⟩:=ztm (T:=T) a2 a1 a0 b1 b0 g h0 hb1 hb0 F1 F2 (4294967295,a1+b1) ⟨Nat.lt_succ_self 4294967295,hc,by simp only;omega,hgle⟩
   unfold stGs at hr
   simp at hr
   have hb3:a2≤b1:=by omega
   rw[f119 _ rfl,b119]
   simp -implicitDefEqProofs[hd,ha,hb2,hr]
end
theorem zup{V b d three two v0 b0:Nat}(hV:V=three*d+v0)(hv:v0<d)(hb:b=two*d+b0)(hb0:b0<d)(h2:4294967296≤two)(hlt:V<4294967296*b) :
  V/b≤min 4294967295 (three/two)∧min 4294967295 (three/two)≤V/b+1:=by
 have hd:0<d:=by omega
 have htp:0<two:=by omega
 have hbp:0<b:=by
  have:=Nat.mul_pos htp hd
  omega
 have hq:V/b<4294967296:=Nat.div_lt_of_lt_mul (by rw[Nat.mul_comm];exact hlt)
 have hqb:V/b*b≤V:=Nat.div_mul_le_self V b
 have hqb2:V<(V/b+1)*b:=by rw[Nat.mul_comm];exact Nat.lt_mul_div_succ V hbp
 generalize V/b=q at *
 constructor
 ·refine Nat.le_min.2 ⟨by omega,(Nat.le_div_iff_mul_le htp).2 ?_⟩
  have h3:q*two*d<(three+1)*d:=by
   have:q*two*d≤q*b:=by rw[hb,Nat.mul_add,Nat.mul_assoc];omega
   rw[Nat.add_mul,Nat.one_mul]
   omega
  have:=Nat.lt_of_mul_lt_mul_right h3
  omega
 ·generalize hx:min 4294967295 (three/two)=x
  have hx1:x≤three/two:=by rw[←hx];exact Nat.min_le_right _ _
  have hx2:x≤4294967295:=by rw[←hx];exact Nat.min_le_left _ _
  have hx3:x*two≤three:=(Nat.le_div_iff_mul_le htp).1 hx1
  rcases Nat.lt_or_ge (q+1) x with h | h
  ·exfalso
   have e1:(q+2)*two≤x*two:=Nat.mul_le_mul_right _ h
   have e2:(q+2)*two*d≤three*d:=Nat.mul_le_mul_right _ (Nat.le_trans e1 hx3)
   have e3:(q+1)*b=(q+1)*two*d+(q+1)*b0:=by rw[hb,Nat.mul_add,Nat.mul_assoc]
   have e4:(q+1)*b0≤(q+1)*d:=Nat.mul_le_mul_left _ (Nat.le_of_lt hb0)
   have e5:(q+2)*two*d=(q+1)*two*d+two*d:=by rw[show q+2=(q+1)+1 from rfl,Nat.add_mul (q+1) 1 two,Nat.one_mul,Nat.add_mul]
   have e6:(q+1)*d≤two*d:=Nat.mul_le_mul_right _ (by omega)
   omega
  ·exact h
theorem zv9{vA vA' t p V x r vb vm T:Nat}(h0:vA=t+p*V)(h1:vA'=t+p*r)(hV:V=vb*x+r)(hT:T=vA+p*4294967296*(vm*vb)) :
  T=vA'+p*((x+4294967296*vm)*vb):=by grind
theorem ztq{V b x Bo vm p:Nat}(hb:0<b)(h1:V/b≤x)(h2:x≤V/b+1)(_hp:V<p)(hm:vm<p)(hBo:Bo≤1)(h:vm+x*b=V+p*Bo) :
  (Bo=0→x=V/b∧vm=V%b)∧(Bo=1→x=V/b+1∧vm+b=V%b+p):=by
 have hd:=Nat.div_add_mod V b
 constructor
 ·intro h0
  subst h0
  have hx:x=V/b:=by
   have:x*b≤V:=by omega
   have:=(Nat.le_div_iff_mul_le hb).2 this
   omega
  grind
 ·intro h0
  subst h0
  have hx:x=V/b+1:=by
   grind
  grind
theorem ztr{vm b r p D vm':Nat}(_hr:r<p)(h:vm+b=r+p)(hm:vm'<p)(hD:D≤1)(hg:vm'+p*D=vm+b):vm'=r:=by
 rcases Nat.eq_zero_or_pos D with h0 | h0
 all_goals grind
theorem zlo{α:Type}{A:List α}{i k:Nat}(h:i=k)(hi:i<A.length)(hk:k<A.length):A[i]'hi=A[k]'hk:=by grind
theorem zjr(A:List UInt32)(j n:Nat):val (A.drop j)=val ((A.drop j).take n)+4294967296^((A.drop j).take n).length*val (A.drop (j+n)):=by
 grind[List.take_append_drop,zaj,List.drop_drop]
theorem zqh{q x:Nat}(h:x=q+1)(hx:x<4294967296):sub32 x 1=q:=by unfold sub32;omega
theorem zts{A m1:List UInt32}{j n:Nat}(hm1:m1.length=n+1)(hj:j+n<A.length) :
  (A.take j++(m1++A.drop (j+(n+1)))).take j=A.take j∧(A.take j++(m1++A.drop (j+(n+1)))).drop (j+(n+1))=A.drop (j+(n+1)) ∧
  ((A.take j++(m1++A.drop (j+(n+1)))).drop j).take (n+1)=m1∧(A.take j++(m1++A.drop (j+(n+1)))).length=A.length:=by
 have htj:(A.take j).length=j:=by grind
 refine⟨?_,?_,?_,?_⟩
 ·rw[List.take_append_of_le_length (by omega),List.take_of_length_le (by omega)]
 ·rw[←List.drop_drop,List.drop_append_of_le_length (by omega),List.drop_of_length_le (l:=A.take j) (by omega),List.nil_append,List.drop_append_of_le_length (by omega),List.drop_of_length_le (by omega),List.nil_append]
 all_goals grind
theorem ztt{D:List UInt32}{n:Nat}(h:n+2<D.length):val (D.take (n+3))=(((D[n+2]'h).toNat*4294967296+(D[n+1]'(by omega)).toNat)*4294967296+(D[n]'(by omega)).toNat)*4294967296^n+val (D.take n):=by
 grind[zaf]
theorem zy8{D:List UInt32}{n:Nat}(h:n+1<D.length):val (D.take (n+2))=((D[n+1]'h).toNat*4294967296+(D[n]'(by omega)).toNat)*4294967296^n+val (D.take n):=by
 grind[zaf]
section
variable{T:Tbl}[CNat T][CQuot T]
theorem zqi(A b:List UInt32)(j x:Nat)(hx:x<4294967296)(hj:j+b.length<A.length)(hl:A.length≤1000000) :
  ∃(B:Nat) (m:List UInt32),B≤1∧m.length=b.length+1∧val m+x*val b=val ((A.drop j).take (b.length+1))+4294967296^(b.length+1)*B ∧
   callH T 120 [.bs (.bor 0) 0 1 0 A.length,.i .i64 j,.sl (u32s b) .an,u32 x] [(.bor 0,⟨0,.own,1,u32s A⟩)] =
    some (.b (decide (0<B)),[(.bor 0,⟨0,.own,1,u32s (A.take j++(m++A.drop (j+(b.length+1))))⟩)]):=by
 have h1:(A.take j).length=j:=by grind
 have h2:(A.drop j).length=A.length-j:=by simp
 obtain⟨B,m,hB,hm,hv,hc⟩:=ztx (T:=T) (A.take j) (A.drop j) b x hx (by omega) (by omega)
 grind[List.take_append_drop,List.drop_drop]
end
section
variable{T:Tbl}[CNat T][CQuot T]
theorem zqj(A b:List UInt32)(j:Nat)(hj:j+b.length<A.length)(hl:A.length≤1000000) :
  ∃(D:Nat) (m:List UInt32),D≤1∧m.length=b.length+1∧val m+4294967296^(b.length+1)*D=val ((A.drop j).take (b.length+1))+val b ∧
   callH T 121 [.bs (.bor 0) 0 1 0 A.length,.i .i64 j,.sl (u32s b) .an] [(.bor 0,⟨0,.own,1,u32s A⟩)] =
    some (.tup [],[(.bor 0,⟨0,.own,1,u32s (A.take j++(m++A.drop (j+(b.length+1))))⟩)]):=by
 have h1:(A.take j).length=j:=by grind
 have h2:(A.drop j).length=A.length-j:=by simp
 obtain⟨D,m,hD,hm,hv,hc⟩:=zty (T:=T) (A.take j) (A.drop j) b (by omega) (by omega)
 rw[h1,h2,show j+(A.length-j)=A.length by omega,List.take_append_drop,List.drop_drop]at hc
 exact⟨D,m,hD,hm,hv,hc⟩
end
section
variable{T:Tbl}[CNat T][CTwos T][CProd T][CQuot T]
def stLg(b:List UInt32)(LA LQ:Nat)(y:Nat×List UInt32×List UInt32):St:=
 ⟨[(0,.bs (.bor 0) 0 1 0 LA),(1,.sl (u32s b) .an),(5,.i .i64 b.length),(6,.bs (.loc 15) 3 1 0 LQ),(7,.i .i64 ((y.1:Int)-1))],
  [(.bor 0,⟨0,.own,1,u32s y.2.1⟩),(.loc 15,⟨3,.own,1,u32s (List.replicate y.1 0++y.2.2)⟩)],5⟩
end
section
variable{T:Tbl}[CNat T][CQuot T]
set_option maxHeartbeats 2000000 in
theorem zy9(A0 b:List UInt32)(LQ nb:Nat)(hnb:b.length=nb+2)(hb1:0<(b[nb+1]'(by omega)).toNat)(hl:A0.length≤1000000)(hA0:A0.length=LQ+b.length):∀y:Nat×List UInt32×List UInt32,
  (y.1≤LQ∧y.2.1.length=A0.length∧y.2.2.length=LQ-y.1∧val (y.2.1.drop y.1)<val b∧val A0=val y.2.1+4294967296^y.1*(val y.2.2*val b)) →
  ∃r,(∃Q A:List UInt32,r=(Ex.n,(⟨[(6,.bs (.loc 15) 3 1 0 LQ)],[(.bor 0,⟨0,.own,1,u32s A⟩),(.loc 15,⟨3,.own,1,u32s Q⟩)],5⟩:St)) ∧
   Q.length=LQ∧A.length=A0.length∧val Q=val A0/val b∧val A=val A0%val b)∧loopN T 1 0 (.norm false [6]) l93_0 (stLg b A0.length LQ y)=some r:=by
 refine zas _ _ (fun y=>y.1) _ ?_
 rintro⟨k,A,m⟩ ⟨hk,hA,hm,hlt,hv⟩
 simp only at hk hA hm hlt hv
 have hbp:0<val b:=by omega
 cases k with
 | zero=>
  right
  rw[Nat.pow_zero,Nat.one_mul]at hv
  rw[List.drop_zero]at hlt
  refine⟨_,⟨m,A,rfl,by omega,hA,?_,?_⟩,?_,?_⟩
  ·rw[hv,Nat.add_mul_div_right _ _ hbp,Nat.div_eq_of_lt hlt,Nat.zero_add]
  ·rw[hv,Nat.add_mul_mod_self_right,Nat.mod_eq_of_lt hlt]
  ·simp -implicitDefEqProofs[l93_0,stLg]
  ·simp -implicitDefEqProofs[l93_0,stLg]
 | succ j=>
  left
  -- the window
  have hD:(A.drop j).length=A.length-j:=by simp
  have hDn:nb+2<(A.drop j).length:=by omega
  have hVlt:val (A.drop j)<4294967296*val b:=by
   have:=List.drop_eq_getElem_cons (show j<A.length by omega)
   rw[this,zai]
   have:=zan (A[j]'(by omega))
   omega
  have hbB:=za2 b
  rw[hnb]at hbB
  have hsplit:=zjr A j (nb+3)
  have hlen3:((A.drop j).take (nb+3)).length=nb+3:=by simp;omega
  rw[hlen3]at hsplit
  have hz:val (A.drop (j+(nb+3)))=0:=by
   rcases Nat.eq_zero_or_pos (val (A.drop (j+(nb+3)))) with h | h
   ·exact h
   ·exfalso
    have h1:=Nat.mul_le_mul_left (4294967296^(nb+3)) h
    rw[Nat.pow_succ 4294967296 (nb+2)]at h1 hsplit
    generalize 4294967296^(nb+2)=p at *
    generalize p*4294967296*val (A.drop (j+(nb+3)))=u at *
    omega
  rw[hz,Nat.mul_zero,Nat.add_zero]at hsplit
  have h3:=ztt hDn
  have h2:=zy8 (D:=b) (n:=nb) (by omega)
  rw[zcv (a:=b) (i:=nb+2) (by omega)]at h2
  have hv0:=za2 ((A.drop j).take nb)
  have hb0:=za2 (b.take nb)
  rw[show ((A.drop j).take nb).length=nb by simp;omega]at hv0
  rw[show (b.take nb).length=nb by simp;omega]at hb0
  obtain⟨V,hV⟩:∃V,V=val (A.drop j):=⟨_,rfl⟩
  rw[←hV]at hsplit hVlt
  rw[←hsplit]at h3
  have hg:=zup (V:=V) (b:=val b) h3 hv0 h2 hb0 (by omega) hVlt
  obtain⟨p0,hp0⟩:∃p,p=j+b.length:=⟨_,rfl⟩
  obtain⟨p1,hp1⟩:∃p,p=j+(nb+1):=⟨_,rfl⟩
  obtain⟨p2,hp2⟩:∃p,p=j+nb:=⟨_,rfl⟩
  obtain⟨q1,hq1⟩:∃p,p=nb+1:=⟨_,rfl⟩
  have c1:p0<A.length:=by omega
  have c2:p1<A.length:=by omega
  have c3:p2<A.length:=by omega
  have c4:q1<b.length:=by omega
  have c5:nb<b.length:=by omega
  have e1:(A.drop j)[nb+2]'hDn=A[p0]'c1:=List.getElem_drop.trans (zlo (by omega) _ _)
  have e2:(A.drop j)[nb+1]'(by omega)=A[p1]'c2:=List.getElem_drop.trans (zlo (by omega) _ _)
  have e3:(A.drop j)[nb]'(by omega)=A[p2]'c3:=List.getElem_drop.trans (zlo (by omega) _ _)
  have e4:b[nb+1]'(by omega)=b[q1]'c4:=zlo (by omega) _ _
  rw[e1,e2,e3,e4]at hg
  rw[e4]at hb1
  have hgs:=zqb (T:=T) (A[p0]'c1).toNat (A[p1]'c2).toNat (A[p2]'c3).toNat (b[q1]'c4).toNat (b[nb]'c5).toNat (zan _) (zan _) (zan _) (zan _) (zan _) hb1
  obtain⟨x,hxd⟩:∃x,x=min 4294967295 ((((A[p0]'c1).toNat*4294967296+(A[p1]'c2).toNat)*4294967296+(A[p2]'c3).toNat)/((b[q1]'c4).toNat*4294967296+(b[nb]'c5).toNat)):=⟨_,rfl⟩
  rw[←hxd]at hg hgs
  have hx:x<4294967296:=by rw[hxd];exact Nat.lt_of_le_of_lt (Nat.min_le_left _ _) (by decide)
  clear hxd
  obtain⟨Bo,m1,hBo,hm1,hvm1,hct⟩:=zqi (T:=T) A b j x hx (by omega) (by omega)
  rw[hnb,show nb+2+1=nb+3 from rfl,←hsplit]at hvm1
  have hm1l:=za2 m1
  rw[hm1,hnb,show nb+2+1=nb+3 from rfl]at hm1l
  have hVp:V<4294967296^(nb+3):=by
   rw[Nat.pow_succ 4294967296 (nb+2)]
   generalize 4294967296^(nb+2)=p at *
   omega
  have hpk:=ztq hbp hg.1 hg.2 hVp hm1l hBo hvm1
  have hql:V/val b<4294967296:=Nat.div_lt_of_lt_mul (by rw[Nat.mul_comm];exact hVlt)
  have hzb:val (A.drop (j+(b.length+1)))=0:=by rw[hnb];exact hz
  have htj:(A.take j).length=j:=by simp;omega
  have fin:∀m2:List UInt32,m2.length=b.length+1→val m2=V%val b →
    (A.take j++(m2++A.drop (j+(b.length+1)))).length=A0.length∧val ((A.take j++(m2++A.drop (j+(b.length+1)))).drop j)<val b ∧
    val A0=val (A.take j++(m2++A.drop (j+(b.length+1))))+4294967296^j*(val (w32 (V/val b)::m)*val b):=by
   intro m2 hm2 hvm2
   refine⟨by simp[hm2];omega,?_,?_⟩
   ·rw[List.drop_append_of_le_length (by omega),List.drop_of_length_le (by omega),List.nil_append,zaj,hzb,Nat.mul_zero,Nat.add_zero,hvm2]
    exact Nat.mod_lt _ hbp
   ·have t1:val A=val (A.take j)+4294967296^j*V:=by rw[hV];exact zl1 A j (by omega)
    have t2:val (A.take j++(m2++A.drop (j+(b.length+1))))=val (A.take j)+4294967296^j*(V%val b):=by
     rw[zaj,zaj,hzb,Nat.mul_zero,Nat.add_zero,hvm2,htj]
    rw[zai,zad hql]
    exact zv9 t1 t2 (Nat.div_add_mod V (val b)).symm hv
  clear hv hvm1 hsplit h3 h2 hg hbB hVlt hlt hzb hz hv0 hb0 hm1l hVp
  have hw1:IntKind.wrap .i64 ((j:Int)-1)=(j:Int)-1:=zab _ (by omega)
  have hw2:IntKind.wrap .i64 ((j:Int)+b.length)=((p0:Nat):Int):=by rw[zab _ (by omega)];omega
  have hw3:IntKind.wrap .i64 ((p0:Int)-1)=((p1:Nat):Int):=by rw[zab _ (by omega)];omega
  have hw4:IntKind.wrap .i64 ((p0:Int)-2)=((p2:Nat):Int):=by rw[zab _ (by omega)];omega
  have hw5:IntKind.wrap .i64 ((b.length:Int)-1)=((q1:Nat):Int):=by rw[zab _ (by omega)];omega
  have hw6:IntKind.wrap .i64 ((b.length:Int)-2)=((nb:Nat):Int):=by rw[zab _ (by omega)];omega
  have hj1:j<LQ:=by omega
  rw[hA]at hct
  have hml:(w32 (V/val b)::m).length=LQ-j:=by simp[hm];omega
  have hjb:j+b.length<A.length:=by omega
  have hnb3:nb+3=b.length+1:=by omega
  have d1:p0<A0.length:=by omega
  have d2:p1<A0.length:=by omega
  have d3:p2<A0.length:=by omega
  rcases Nat.eq_zero_or_pos Bo with h0 | h0
  ·obtain⟨hxq,hvm⟩:=hpk.1 h0
   subst h0
   subst hxq
   have hset:=zjt (m:=m) (j:=j) (w32 (V/val b))
   obtain⟨f1,f2,f3⟩:=fin m1 hm1 hvm
   refine⟨(j,A.take j++(m1++A.drop (j+(b.length+1))),w32 (V/val b)::m),⟨Nat.le_of_lt hj1,f1,hml,f2,f3⟩,Nat.lt_succ_self j,?_⟩
   simp -implicitDefEqProofs[l93_0,stLg,hw1,hw2,hw3,hw4,hw5,hw6,c4,c5,d1,d2,d3,hA,hj1,hgs,hct,hset,zju,zbj _ _ _ hx]
  ·have h1:Bo=1:=by omega
   obtain⟨hxq,hvm⟩:=hpk.2 h1
   subst h1
   have hset:=zjt (m:=m) (j:=j) (w32 (V/val b))
   obtain⟨t1,t2,t3,t4⟩:=zts (A:=A) hm1 hjb
   rw[hA]at t4
   obtain⟨D,m2,hD,hm2,hvm2,hcg⟩:=zqj (T:=T) (A.take j++(m1++A.drop (j+(b.length+1)))) b j (by rw[t4,←hA];exact hjb) (by rw[t4];exact hl)
   rw[t1,t2,t4]at hcg
   rw[t3]at hvm2
   have hm2l:=za2 m2
   rw[hm2]at hm2l
   have hVb:=Nat.mod_lt V hbp
   have hbq:val b<4294967296^(b.length+1):=Nat.lt_of_lt_of_le (za2 b) (Nat.pow_le_pow_right (by decide) (Nat.le_succ _))
   rw[hnb3]at hvm
   have hv2:=ztr (Nat.lt_trans hVb hbq) hvm hm2l hD hvm2
   have hsx:=zqh hxq hx
   obtain⟨f1,f2,f3⟩:=fin m2 hm2 hv2
   refine⟨(j,A.take j++(m2++A.drop (j+(b.length+1))),w32 (V/val b)::m),⟨Nat.le_of_lt hj1,f1,hml,f2,f3⟩,Nat.lt_succ_self j,?_⟩
   simp -implicitDefEqProofs[l93_0,stLg,hw1,hw2,hw3,hw4,hw5,hw6,c4,c5,d1,d2,d3,hA,hj1,hgs,hct,hsx,hcg,hset,zju,zbj _ _ _ hql]
end
section
variable{T:Tbl}[CNat T][CQuot T]
theorem ztu(A b:List UInt32)(LQ nb:Nat)(hnb:b.length=nb+2)(hb1:0<(b[nb+1]'(by omega)).toNat)(hl:A.length≤1000000)(hA:A.length=LQ+b.length)(hlt:val (A.drop LQ)<val b) :
  ∃Q R:List UInt32,Q.length=LQ∧R.length=A.length∧val Q=val A/val b∧val R=val A%val b ∧
   callH T 93 [.bs (.bor 0) 0 1 0 A.length,.sl (u32s b) .an] [(.bor 0,⟨0,.own,1,u32s A⟩)]=some (.bs (.loc 15) 3 1 0 LQ,[(.bor 0,⟨0,.own,1,u32s R⟩),(.loc 15,⟨3,.own,1,u32s Q⟩)]):=by
 obtain⟨_,⟨Q,R,rfl,hQ,hR,hq,hr⟩,hlp⟩:=zy9 (T:=T) A b LQ nb hnb hb1 hl hA (LQ,A,[]) ⟨Nat.le_refl _,rfl,by simp,hlt,by simp⟩
 have hw:IntKind.wrap .i64 ((A.length:Int)-b.length)=(LQ:Int):=by rw[zab _ (by omega)];omega
 have hw1:IntKind.wrap .i64 ((LQ:Int)-1)=(LQ:Int)-1:=zab _ (by omega)
 have h1:(LQ:Int)≤4294967296:=by omega
 refine⟨Q,R,hQ,hR,hq,hr,?_⟩
 unfold stLg at hlp
 simp at hlp
 rw[f93 _ _ rfl,b93]
 simp -implicitDefEqProofs[hw,hw1,h1,hlp]
end
def b2071:AX:=
 (.seq
 (.reg [rg 2 (.mov (.c (.sl [] .nl)))])
 (.seq
 (.reg [mv 3 0,rg 4 (.call 86 [(.t 3)]),rg 5 (.call 2106 [(.t 4),(.c (.i .i64 0))]),mv 2 5])
 (.pre (.norm false [2]) .ret)))
def l2092_0:AX:=
 (.note
 (.seq
 (.reg [rg 27 (.bin .lss (.t 26) (.t 25))])
 (.seq
 (.cond (.t 27)
 .skip
 (.exit 0))
 (.seq
 (.block 1
 (.seq
 (.reg [mv 28 26,rg 29 (.iad 1 (.t 24) (.t 26)),rg 30 (.load none (.t 29)),mv 8 28,mv 9 30])
 (.seq
 (.reg [mv 31 9,rg 32 (.conv .u64 (.t 31)),mv 33 6,rg 34 (.bin .shl (.t 32) (.t 33)),mv 10 34])
 (.seq
 (.reg [mv 35 7,mv 36 5,mv 37 8,rg 38 (.bin .add (.t 36) (.t 37)),rg 39 (.iad 1 (.t 35) (.t 38)),rg 40 (.load none (.t 39)),mv 41 10,rg 42 (.conv .u32 (.t 41)),rg 43 (.bin .or (.t 40) (.t 42)),rg 44 (.iad 1 (.t 35) (.t 38)),so (.store 1 (.t 44) (.t 43))])
 (.reg [mv 45 7,mv 46 5,mv 47 8,rg 48 (.bin .add (.t 46) (.t 47)),rg 49 (.bin .add (.t 48) (.c (.i .i64 1))),mv 50 10,rg 51 (.bin .shr (.t 50) (.c (u64 32))),rg 52 (.conv .u32 (.t 51)),rg 53 (.iad 1 (.t 45) (.t 49)),so (.store 1 (.t 53) (.t 52))])))))
 (.reg [rg 54 (.bin .add (.t 26) (.c (.i .i64 1))),mv 26 54]))))
 (.norm false [5,6,7,24,25,26]))
def b2092:AX:=
 (.seq
 (.reg [rg 4 (.mov (.c (.sl [] .nl)))])
 (.seq
 (.reg [mv 11 1,rg 12 (.mm true [(.t 11),(.c (.i .i64 0))]),rg 13 (.mm false [(.t 12),(.c (.i .i64 4096))]),mv 1 13])
 (.seq
 (.reg [mv 14 1,rg 15 (.bin .quo (.t 14) (.c (.i .i64 32))),mv 16 1,rg 17 (.bin .rem (.t 16) (.c (.i .i64 32))),mv 5 15,mv 6 17])
 (.seq
 (.reg [mv 18 5,mv 19 0,rg 20 (.len (.t 19)),rg 21 (.bin .add (.t 18) (.t 20)),rg 22 (.bin .add (.t 21) (.c (.i .i64 1))),rg 23 (.mks 1 [(u32 0)] (.t 22) (.t 22)),mv 7 23])
 (.seq
 (.seq
 (.reg [mv 24 0,rg 25 (.len (.t 24)),rg 26 (.mov (.c (.i .i64 0)))])
 (.lp 0 (.norm false [5,6,7,24,25,26]) l2092_0 (.norm false [7])))
 (.seq
 (.reg [mv 55 7,rg 56 (.call 2071 [(.t 55)]),mv 4 56])
 (.pre (.norm false [4]) .ret)))))))
def b62:AX:=
 (.seq
 (.reg [rg 4 (.mov (.c (.sl [] .nl))),rg 5 (.mov (.c (.sl [] .nl))),rg 6 (.mov (.c (.b false)))])
 (.seq
 (.reg [mv 12 1,rg 13 (.call 71 [(.t 12)]),mv 1 13])
 (.seq
 (.block 0
 (.seq
 (.reg [mv 15 1,rg 16 (.len (.t 15)),rg 17 (.bin .eql (.t 16) (.c (.i .i64 0))),mv 14 17])
 (.cond (.t 14)
 (.seq
 (.reg [rg 4 (.mov (.c (.sl [] .nl))),rg 5 (.mov (.c (.sl [] .nl))),rg 6 (.mov (.c (.b false)))])
 (.pre (.norm false [4,5,6]) .ret))
 (.seq
 (.reg [mv 19 0,mv 20 1,rg 21 (.call 87 [(.t 19),(.t 20)]),rg 22 (.bin .lss (.t 21) (.c (.i .i64 0))),mv 18 22])
 (.cond (.t 18)
 (.seq
 (.reg [mv 23 0,rg 24 (.call 71 [(.t 23)]),rg 4 (.mov (.c (.sl [] .nl))),mv 5 24,rg 6 (.mov (.c (.b true)))])
 (.pre (.norm false [4,5,6]) .ret))
 (.seq
 (.reg [mv 26 1,rg 27 (.len (.t 26)),rg 28 (.bin .eql (.t 27) (.c (.i .i64 1))),mv 25 28])
 (.cond (.t 25)
 (.seq
 (.reg [mv 30 0,mv 31 1,rg 32 (.iad 1 (.t 31) (.c (.i .i64 0))),rg 33 (.load none (.t 32)),rg 34 (.call 90 [(.t 30),(.t 33)]),mv 29 34,rg 35 (.ext (.t 29) 0),rg 36 (.ext (.t 29) 1),rg 37 (.ext (.t 29) 2),mv 7 35,mv 8 36,mv 9 37])
 (.seq
 (.reg [mv 38 7,mv 39 8,rg 40 (.conv .u64 (.t 39)),rg 41 (.call 72 [(.t 40)]),mv 4 38,mv 5 41,rg 6 (.mov (.c (.b true)))])
 (.pre (.norm false [4,5,6]) .ret)))
 .skip)))))))
 (.seq
 (.reg [mv 42 1,mv 43 1,rg 44 (.len (.t 43)),rg 45 (.bin .sub (.t 44) (.c (.i .i64 1))),rg 46 (.iad 1 (.t 42) (.t 45)),rg 47 (.load none (.t 46)),rg 48 (.call 91 [(.t 47)]),rg 49 (.bin .sub (.c (.i .i64 32)) (.t 48)),mv 10 49])
 (.seq
 (.reg [mv 50 0,mv 51 10,rg 52 (.call 2092 [(.t 50),(.t 51)]),rg 53 (.bsl 1 [(u32 0)] 1 [(0,(.c (u32 0)))]),rg 54 (.app 1 (.t 52) (.t 53)),mv 11 54])
 (.seq
 (.reg [mv 55 11,mv 56 1,mv 57 10,rg 58 (.call 2092 [(.t 56),(.t 57)]),rg 59 (.call 93 [(.t 55),(.t 58)]),mv 4 59])
 (.seq
 (.reg [mv 60 4,rg 61 (.call 71 [(.t 60)]),mv 62 11,mv 63 10,rg 64 (.call 94 [(.t 62),(.t 63)]),mv 4 61,mv 5 64,rg 6 (.mov (.c (.b true)))])
 (.pre (.norm false [4,5,6]) .ret))))))))
class CQuotD (T:Tbl):Prop where
 h2071:T 2071=some ⟨1,6,[.t 2],b2071,(some [false]),false⟩
 h2092:T 2092=some ⟨2,57,[.t 4],b2092,(some [false,false]),false⟩
 h62:T 62=some ⟨2,65,[.t 4,.t 5,.t 6],b62,none,false⟩
section
variable{T:Tbl}[CQuotD T]{d:Option Nat}{st:St}
@[simp] theorem x2071(xs:List AV):callX (orc T) T 2071 xs d st=bL (frzM st.heap [false] xs) fun ys=>lentX ys (shareIds (refsM [false] xs) st.heap) (reach (shareIds (refsM [false] xs) st.heap) 40 (rootsM [false] xs) []) T 2071 false d st:=zap CQuotD.h2071
theorem f2071(xs:List AV)(hb:Heap)(hn:xs.length=1):callH T 2071 xs hb=retH [.t 2] false hb.length (evX (orc T) T hb.length b2071 ⟨argEnv xs,hb,hb.length+1⟩):=zax CQuotD.h2071 hn
@[simp] theorem x2092(xs:List AV):callX (orc T) T 2092 xs d st=bL (frzM st.heap [false,false] xs) fun ys=>lentX ys (shareIds (refsM [false,false] xs) st.heap) (reach (shareIds (refsM [false,false] xs) st.heap) 40 (rootsM [false,false] xs) []) T 2092 false d st:=zap CQuotD.h2092
theorem f2092(xs:List AV)(hb:Heap)(hn:xs.length=2):callH T 2092 xs hb=retH [.t 4] false hb.length (evX (orc T) T hb.length b2092 ⟨argEnv xs,hb,hb.length+1⟩):=zax CQuotD.h2092 hn
@[simp] theorem x62(xs:List AV):callX (orc T) T 62 xs d st=cP T 62 false xs d st:=zaa CQuotD.h62
theorem f62(xs:List AV)(hn:xs.length=2):callF T 62 xs=retF [.t 4,.t 5,.t 6] false (evX (orc T) T 0 b62 ⟨argEnv xs,[],1⟩):=zac CQuotD.h62 hn
end
theorem zze(x:Nat):x<2^blen x:=by
 unfold blen
 split
 ·subst x;decide
 ·exact Nat.lt_log2_self
theorem ztz{x:Nat}(h:x<4294967296):blen x≤32:=by
 unfold blen
 split
 ·omega
 ·rename_i h0
  have:=(Nat.log2_lt h0 (k:=32)).2 (by simpa using h)
  omega
theorem zxg{n k:Nat}(h:(ofN n).length=k+1):4294967296^k≤n:=by
 rcases Nat.lt_or_ge n (4294967296^k) with h1 | h1
 ·have:=zbh h1
  omega
 ·exact h1
theorem z4o{b:List UInt32}{nb:Nat}(h:b.length=nb+2)(hb:b=ofN (val b)) :
  (ofN (val b*2^(32-blen (b[nb+1]'(by omega)).toNat))).length=nb+2:=by
 have hl:=ztz (zan (b[nb+1]'(by omega)))
 have hs:=zze (b[nb+1]'(by omega)).toNat
 have h1:val b=val (b.take (nb+1))+4294967296^(nb+1)*(b[nb+1]'(by omega)).toNat:=by
  have:=zaf (List.getElem?_eq_getElem (show nb+1<b.length by omega))
  rwa [zcv (by omega)]at this
 have h2:=za2 (b.take (nb+1))
 rw[show (b.take (nb+1)).length=nb+1 by simp;omega]at h2
 generalize (b[nb+1]'(by omega)).toNat=t at *
 refine Nat.le_antisymm (zbh ?_) ?_
 ·have h3:val b<4294967296^(nb+1)*2^blen t:=by
   have:4294967296^(nb+1)*(t+1)≤4294967296^(nb+1)*2^blen t:=Nat.mul_le_mul_left _ hs
   rw[Nat.mul_add,Nat.mul_one]at this
   omega
  have h4:2^blen t*2^(32-blen t)=4294967296:=by
   rw[←Nat.pow_add,show blen t+(32-blen t)=32 by omega]
  have h5:=Nat.mul_lt_mul_of_pos_right h3 (Nat.pow_pos (n:=32-blen t) (show 0<2 by decide))
  rw[Nat.mul_assoc,h4,←Nat.pow_succ]at h5
  exact h5
 ·have h3:val b≤val b*2^(32-blen t):=Nat.le_mul_of_pos_right _ (Nat.pow_pos (by decide))
  have:=zar h3
  rw[←hb]at this
  omega
theorem zzf{b:List UInt32}{nb:Nat}(h:b.length=nb+2)(hb:b=ofN (val b)):0<(b[nb+1]'(by omega)).toNat:=by
 have h1:val b=val (b.take (nb+1))+4294967296^(nb+1)*(b[nb+1]'(by omega)).toNat:=by
  have:=zaf (List.getElem?_eq_getElem (show nb+1<b.length by omega))
  rwa [zcv (by omega)]at this
 have h2:=za2 (b.take (nb+1))
 rw[show (b.take (nb+1)).length=nb+1 by simp;omega]at h2
 have h3:4294967296^(nb+1)≤val b:=zxg (by rw[←hb];omega)
 rcases Nat.eq_zero_or_pos (b[nb+1]'(by omega)).toNat with h0 | h0
 ·rw[h0,Nat.mul_zero]at h1
  omega
 ·exact h0
theorem zg5(l:List UInt32):val (l++[0])=val l:=by rw[zaj];simp
theorem z4p{A b:List UInt32}{nb L:Nat}(hA:(A++[0]).length=L+b.length)(hb:b.length=nb+2)(hbo:b=ofN (val b)):val ((A++[0]).drop L)<val b:=by
 have hl:L≤A.length:=by simp at hA;omega
 rw[List.drop_append_of_le_length hl,zg5]
 have h1:=za2 (A.drop L)
 have h2:(A.drop L).length=nb+1:=by simp at hA ⊢;omega
 rw[h2]at h1
 exact Nat.lt_of_lt_of_le h1 (zxg (by rw[←hbo];omega))
section
variable{T:Tbl}[CNat T][CQuotD T]
theorem zlt(a:List UInt32)(hl:a.length≤1000000):callH T 2071 [.sl (u32s a) .an] [] =
  some (.bs (.fld (.loc 5) 10) 1 1 0 (ofN (val a)).length,[(.fld (.loc 5) 10,⟨1,.own,1,u32s (ofN (val a))⟩)]):=by
 have h1:=zae a
 have h2:=zjs (T:=T) (ofN (val a)) 0 (by omega)
 simp only[Int.natCast_zero,Nat.add_zero,List.replicate_zero,List.append_nil]at h2
 rw[f2071 _ _ rfl,b2071]
 simp -implicitDefEqProofs[zdb a (by omega),h2]
end
section
variable{T:Tbl}[CNat T][CQuotD T]
theorem zg6(a:List UInt32)(n:Nat)(hn:n≤4096)(hl:a.length≤100000):callH T 2092 [.sl (u32s a) .an,.i .i64 n] [] =
  some (.bs (.fld (.fld (.loc 56) 0) 6010) 1 1 0 (ofN (val a*2^n)).length,[(.fld (.fld (.loc 56) 0) 6010,⟨1,.own,1,u32s (ofN (val a*2^n))⟩)]):=by
 obtain⟨_,⟨c,m,rfl,hm,hc,hv⟩,hr⟩:=zzv (T:=T) (List.replicate (n/32) 0) a (n%32) (Nat.mod_lt _ (by decide)) (by simp;omega) (0,0,[]) ⟨Nat.zero_le _,Nat.pow_pos (by decide),rfl,by simp⟩
 have hc32:c<4294967296:=Nat.lt_of_lt_of_le hc (by
  have:2^(n%32)≤2^32:=Nat.pow_le_pow_right (by decide) (by omega)
  simpa using this)
 have hval:val (List.replicate (n/32) 0++(m++[w32 c]))=val a*2^n:=by
  rw[zaj,zbr,List.length_replicate,zaj,hm]
  simp only[zai,za0,Nat.mul_zero,Nat.add_zero,zad hc32,Nat.zero_add]
  rw[hv,znt,←Nat.mul_assoc,←Nat.pow_add,show 32*(n/32)+n%32=n by omega,Nat.mul_comm]
 have hlen:(List.replicate (n/32) 0++(m++[w32 c])).length=n/32+a.length+1:=by simp[hm];omega
 have hnm:=zlt (T:=T) (List.replicate (n/32) 0++(m++[w32 c])) (by omega)
 rw[hval]at hnm
 rw[show l92_0=l2092_0 from rfl]at hr
 unfold stUp at hr
 generalize List.replicate (n/32) 0++(m++[w32 c])=Q at *
 simp at hr
 have hz:List.replicate (n/32) (0:UInt32)++w32 0::List.replicate a.length 0=List.replicate (n/32+a.length+1) 0:=by
  have:w32 0=0:=rfl
  rw[this,←List.replicate_succ,List.replicate_append_replicate,Nat.add_assoc]
 rw[hz]at hr
 have hn2:¬ (4096:Int)<(n:Int):=by omega
 have hq:(n:Int).tdiv 32=(n:Int)/32:=Int.tdiv_eq_ediv_of_nonneg (by omega)
 have hm2:(n:Int).tmod 32=(n:Int)%32:=Int.tmod_eq_emod_of_nonneg (by omega)
 have w1:IntKind.wrap .i64 ((n:Int)/32)=(n:Int)/32:=zab (n/32) (by omega)
 have w2:IntKind.wrap .i64 ((n:Int)/32+a.length)=(n:Int)/32+a.length:=zab _ (by omega)
 have w3:IntKind.wrap .i64 ((n:Int)/32+a.length+1)=(n:Int)/32+a.length+1:=zab _ (by omega)
 have p1:(0:Int)≤(n:Int)/32+a.length+1:=by omega
 have p2:(n:Int)/32+a.length+1≤4294967296:=by omega
 have p3:((n:Int)/32+a.length+1).toNat=n/32+a.length+1:=by omega
 have htk:List.take (n/32+a.length+1) Q=Q:=List.take_of_length_le (by omega)
 rw[f2092 _ _ rfl,b2092]
 simp -implicitDefEqProofs[hn2,hq,hm2,w1,w2,w3,p1,p2,p3,hr,hnm,htk,hlen]
end
section
variable{T:Tbl}[CNat T][CTwos T][CProd T][CQuot T][CQuotD T]
theorem zez(a b:List UInt32)(ha:a.length≤90000)(hb:b.length≤90000):callF T 62 [.sl (u32s a) .an,.sl (u32s b) .an] =
  some (if val b=0 then .tup [.sl [] .an,.sl [] .an,.b false] else .tup [.sl (u32s (ofN (val a/val b))) .an,.sl (u32s (ofN (val a%val b))) .an,.b true]):=by
 have hnb:=zbq (T:=T) b (by omega)
 have hna:=zbq (T:=T) a (by omega)
 have hlb:=zae b
 have hla:=zae a
 have hcmp:=zza (T:=T) a (ofN (val b)) (by omega) (by omega)
 rw[zag]at hcmp
 rw[f62 _ rfl,b62]
 by_cases h0:val b=0
 ·rw[h0]at hnb
  simp -implicitDefEqProofs[hnb,h0]
 ·have h0':ofN (val b)≠[]:=fun h=>h0 (zau.1 h)
  have hl0:(ofN (val b)).length≠0:=fun h=>h0' (List.eq_nil_of_length_eq_zero h)
  by_cases hlt:val a<val b
  ·have hd:=Nat.div_eq_of_lt hlt
   have hm:=Nat.mod_eq_of_lt hlt
   simp -implicitDefEqProofs[hnb,h0,hl0,hcmp,znj,hlt,hna,hd,hm]
  ·rcases Nat.lt_or_ge 1 (ofN (val b)).length with h1 | h1
   ·obtain⟨b',hb'⟩:∃b',b'=ofN (val b):=⟨_,rfl⟩
    have hvb:val b'=val b:=by rw[hb',zag]
    have hbo:b'=ofN (val b'):=by rw[hvb,hb']
    rw[←hb']at hnb hcmp hl0 h1 hlb
    obtain⟨nb,hnbl⟩:∃nb,b'.length=nb+2:=⟨b'.length-2,by omega⟩
    have hll:=zv8 (T:=T) (b'[nb+1]'(by omega))
    have hbl:=ztz (zan (b'[nb+1]'(by omega)))
    have hup:=z4o hnbl hbo
    obtain⟨s,hs⟩:∃s,s=32-blen (b'[nb+1]'(by omega)).toNat:=⟨_,rfl⟩
    obtain⟨l,hll2⟩:∃l,l=blen (b'[nb+1]'(by omega)).toNat:=⟨_,rfl⟩
    rw[←hs]at hup
    rw[←hll2]at hll hs hbl
    obtain⟨B,hB⟩:∃B,B=ofN (val b'*2^s):=⟨_,rfl⟩
    obtain⟨A,hA⟩:∃A,A=ofN (val a*2^s):=⟨_,rfl⟩
    have hua:=zg6 (T:=T) a s (by omega) (by omega)
    have hub:=zg6 (T:=T) b' s (by omega) (by omega)
    rw[←hA]at hua
    rw[←hB]at hub hup
    have hBo:B=ofN (val B):=by rw[hB,zag]
    have hvA:val A=val a*2^s:=by rw[hA,zag]
    have hvB:val B=val b'*2^s:=by rw[hB,zag]
    have hAB:B.length≤A.length:=by
     rw[hA,hB]
     exact zar (Nat.mul_le_mul_right _ (by omega))
    have hAl:A.length≤a.length+1:=by
     rw[hA]
     refine zbh ?_
     have h2:2^s≤2^32:=Nat.pow_le_pow_right (by decide) (by omega)
     rw[Nat.pow_succ]
     exact Nat.lt_of_le_of_lt (Nat.mul_le_mul_left _ h2) (Nat.mul_lt_mul_of_pos_right (za2 a) (by decide))
    have hpos:=zzf (hup) hBo
    obtain⟨Q,R,hQ,hR,hvQ,hvR,hlong⟩:=ztu (T:=T) (A++[0]) B (A.length+1-B.length) nb hup hpos (by simp;omega) (by simp;omega) (z4p (by simp;omega) hup hBo)
    rw[zg5,hvA,hvB,hvb,Nat.mul_div_mul_right _ _ (Nat.pow_pos (by decide))]at hvQ
    rw[zg5,hvA,hvB,hvb,Nat.mul_mod_mul_right]at hvR
    have hnq:=zbq (T:=T) Q (by omega)
    have hAl1:(A++[(0:UInt32)]).length=A.length+1:=by simp
    rw[hAl1]at hlong hR
    have hdn:=zuk (T:=T) R s (by omega) (by omega)
    rw[hvR,Nat.mul_div_cancel _ (Nat.pow_pos (by decide))]at hdn
    rw[hvQ]at hnq
    obtain⟨q1,hq1⟩:∃p,p=nb+1:=⟨_,rfl⟩
    have c1:q1<b'.length:=by omega
    have hwt:b'[nb+1]'(by omega)=b'[q1]'c1:=zlo (by omega) _ _
    rw[hwt]at hll
    have w1:IntKind.wrap .i64 ((b'.length:Int)-1)=(q1:Int):=by rw[zab _ (by omega)];omega
    have w2:IntKind.wrap .i64 (32-(l:Int))=(s:Int):=by rw[zab _ (by omega)];omega
    have c3:A.length≤4294967295:=by omega
    have c4:w32 0=0:=rfl
    have c5:A.length+1≤A.length+1-B.length+B.length:=by omega
    have c2:¬ ((b'.length:Int)=1):=by omega
    have t1:List.take (A.length+1) R=R:=List.take_of_length_le (by omega)
    have t2:List.take (A.length+1-B.length) Q=Q:=List.take_of_length_le (by omega)
    simp -implicitDefEqProofs[hnb,h0,hl0,hcmp,znj,hlt,w1,w2,c1,c2,c3,c4,c5,hll,hua,hub,hlong,hnq,hdn,t1,t2,hQ,hR]
   ·have hl1:(ofN (val b)).length=1:=by omega
    obtain⟨w,hw⟩:=List.length_eq_one_iff.1 hl1
    have hvb:val b=w.toNat:=by
     have:=zag (val b)
     rw[hw]at this
     simp at this
     omega
    have hwl:=zan w
    have hwd:=zlq (T:=T) a (val b) (by omega) (by omega) (by omega)
    have hof:=zxf (T:=T) (val a%val b) (by have:=Nat.mod_lt (val a) (show 0<val b by omega);omega)
    have m1:val a%val b%18446744073709551616=val a%val b:=Nat.mod_eq_of_lt (by have:=Nat.mod_lt (val a) (show 0<val b by omega);omega)
    rw[hw]at hnb hcmp
    rw[←hvb]at hwl
    simp -implicitDefEqProofs[hnb,h0,hcmp,znj,hlt,hwd,←hvb,hof,m1]
end
def digs(n:Nat):List UInt8:=if h:n<10 then [UInt8.ofNat (48+n)] else UInt8.ofNat (48+n%10)::digs (n/10)
termination_by n
decreasing_by omega
def textN(n:Nat):List UInt8:=(digs n).reverse
def wordOf:List AV→Option UInt32
 | [.i .u32 n]=>if 0≤n∧n<4294967296 then some (w32 n.toNat) else none
 | _=>none
def prim68:List AV→Option AV
 | [.sl els .an]=>if els.length≤1000 then (els.mapM wordOf).map fun l=>.s (textN (val l)) else none
 | _=>none
theorem zq5(l:List UInt32):(u32s l).mapM wordOf=some l:=by
 induction l with
 | nil=>rfl
 | cons x l ih=>
  have hx:=zan x
  have h1:wordOf [u32 x.toNat]=some x:=by
   unfold wordOf u32
   simp only
   rw[if_pos ⟨by omega,by omega⟩]
   simp
  have e:u32s (x::l)=[u32 x.toNat]::u32s l:=rfl
  rw[e,List.mapM_cons,h1,ih]
  rfl
theorem zhe(a:List UInt32)(h:a.length≤1000):prim68 [.sl (u32s a) .an]=some (.s (textN (val a))):=by
 unfold prim68
 simp only[zgy,h,if_true,zq5,Option.map_some]
def wrAt:Nat→List UInt8→Int
 | _,[]=>-1
 | k,c::r=>if c.toNat<48∨57<c.toNat∨k=60 then k else wrAt (k+1) r
def wrongI(l:List UInt8):Int:=if l=[] then 0 else wrAt 0 l
def rd(l:List UInt8):Nat:=l.foldl (fun n c=>n*10+(c.toNat-48)) 0
theorem zzy(l:List UInt8):∀n,l.foldl (fun n c=>n*10+(c.toNat-48)) n=n*10^l.length+rd l:=by
 induction l with
 | nil=>intro n;simp[rd]
 | cons c l ih=>
  intro n
  simp only[List.foldl_cons,List.length_cons,rd]
  rw[ih,ih (0*10+(c.toNat-48)),Nat.pow_succ]
  grind
theorem zuq(a b:List UInt8):rd (a++b)=rd a*10^b.length+rd b:=by
 unfold rd
 rw[List.foldl_append,zzy]
 rfl
theorem zzz(a:List UInt8)(c:UInt8):rd (a++[c])=rd a*10+(c.toNat-48):=by
 rw[zuq];simp[rd]
theorem zix{n:Nat}(h:n<10):digs n=[UInt8.ofNat (48+n)]:=by rw[digs,dif_pos h]
theorem zo3{n:Nat}(h:¬ n<10):digs n=UInt8.ofNat (48+n%10)::digs (n/10):=by rw[digs,dif_neg h]
theorem zdd{n:Nat}(h:n<10):textN n=[UInt8.ofNat (48+n)]:=by rw[textN,zix h];rfl
theorem zhf{n:Nat}(h:¬ n<10):textN n=textN (n/10)++[UInt8.ofNat (48+n%10)]:=by rw[textN,zo3 h];simp[textN]
def txN(n:Nat)(s:List UInt8):List UInt8:=if n=0∧s≠[] then s else textN n++s
theorem zwq(n:Nat)(s:List UInt8)(h:n≠0∨s=[]):txN (n/10) (UInt8.ofNat (48+n%10)::s)=txN n s:=by
 have h1:¬ (n=0∧s≠[]):=by rintro⟨rfl,h2⟩;rcases h with h | h;exact h rfl;exact h2 h
 unfold txN
 rw[if_neg h1]
 by_cases hn:n<10
 ·have e1:n/10=0:=by omega
  have e2:n%10=n:=by omega
  rw[if_pos ⟨e1,by simp⟩,zdd hn,e2]
  rfl
 ·have e1:¬ (n/10=0∧UInt8.ofNat (48+n%10)::s≠[]):=by omega
  rw[if_neg e1,zhf hn]
  simp
theorem zwr(d:Nat)(h:d<10):(([48,49,50,51,52,53,54,55,56,57]:List UInt8).take (d+1)).drop d=[UInt8.ofNat (48+d)]:=by
 have:∀d,d<10→(([48,49,50,51,52,53,54,55,56,57]:List UInt8).take (d+1)).drop d=[UInt8.ofNat (48+d)]:=by decide
 exact this d h
def digK:Nat→Nat→List UInt8
 | 0,_=>[]
 | k+1,x=>digK k (x/10)++[UInt8.ofNat (48+x%10)]
def u8c(l:List UInt8):List AV:=l.map fun b=>u8 b.toNat
@[simp] theorem z10(l:List UInt8):(u8c l).length=l.length:=by simp[u8c]
@[simp] theorem zagd(l:List UInt8):(u8c l).flatMap rfC=[]:=by induction l with | nil=>rfl | cons x l ih=>simp[u8c]
@[simp] theorem zadj{σn:BId→BId}{σg:Nat→Nat}(l:List UInt8):(u8c l).map (fun c=>rlC σn σg (wkA c))=u8c l:=by induction l with | nil=>rfl | cons x l ih=>simp[u8c]
@[simp] theorem zws(l:List UInt8):(u8c l).all pureC=true:=by induction l with | nil=>rfl | cons x l ih=>simp[u8c]
@[simp] theorem z4w(l:List UInt8):(∀x,x∈u8c l→pureC x=true)=True:=by
 have:=zws l
 rw[List.all_eq_true]at this
 simpa using this
theorem zz0{l:List UInt8}{j d:Nat}(h:d<256)(hj:j<l.length):(u8c l).take j++u8 d::(u8c l).drop (j+1)=u8c (l.set j (UInt8.ofNat d)):=by
 rw[List.set_eq_take_append_cons_drop,if_pos hj]
 simp[u8c,List.map_take,List.map_drop,Nat.mod_eq_of_lt h]
theorem zef:∀k x,(digK k x).length=k
 | 0,_=>rfl
 | k+1,x=>by simp[digK,zef k]
theorem zhg(x:Nat):digK 0 x=[]:=rfl
theorem zdu(k x:Nat):digK (k+1) x=digK k (x/10)++[UInt8.ofNat (48+x%10)]:=rfl
theorem zwt{m:List UInt8}{j:Nat}(w:UInt8):(List.replicate (j+1) 0++m).set j w=List.replicate j 0++w::m:=by
 rw[List.set_append_left j w (by simp),List.replicate_succ',List.set_append_right j w (by simp)]
 simp
theorem zwu(m:List UInt8):((u8c m).map fun c=>[c]).mapM byteOfRow=some m:=by
 induction m with
 | nil=>rfl
 | cons b m ih=>
  have e:((u8c (b::m)).map fun c=>[c])=[u8 b.toNat]::((u8c m).map fun c=>[c]):=rfl
  rw[e,List.mapM_cons,ih]
  simp[byteOfRow,u8]
def l101_0:AX:=
 (.note
 (.seq
 (.seq
 (.reg [mv 5 4,rg 6 (.bin .geq (.t 5) (.c (.i .i64 0)))])
 (.cond (.t 6)
 .skip
 (.exit 0)))
 (.seq
 (.block 1
 (.seq
 (.reg [mv 9 4,mv 10 0,rg 11 (.bin .rem (.t 10) (.c (u32 10))),rg 12 (.bin .add (.c (u32 48)) (.t 11)),rg 13 (.conv .u8 (.t 12)),rg 14 (.iaa 1 9 (.t 3) (.t 9)),so (.store 1 (.t 14) (.t 13))])
 (.reg [mv 15 0,rg 16 (.bin .quo (.t 15) (.c (u32 10))),mv 0 16])))
 (.reg [mv 7 4,rg 8 (.bin .sub (.t 7) (.c (.i .i64 1))),mv 4 8])))
 (.norm false [0,3,4]))
def b101:AX:=
 (.seq
 (.reg [rg 2 (.mov (.c (.s [])))])
 (.seq
 (.reg [rg 3 (.alloc [(u8 0),(u8 0),(u8 0),(u8 0),(u8 0),(u8 0),(u8 0),(u8 0),(u8 0)])])
 (.seq
 (.seq
 (.reg [rg 4 (.mov (.c (.i .i64 8)))])
 (.lp 0 (.norm false [0,3,4]) l101_0 (.norm false [3])))
 (.seq
 (.reg [rg 17 (.xop (.arsl 9) [(.t 3)]),rg 18 (.xop .bstr [(.t 17)]),mv 2 18])
 (.pre (.norm false [2]) .ret)))))
class CDigits (T:Tbl):Prop where
 h101:T 101=some ⟨1,19,[.t 2],b101,none,false⟩
section
variable{T:Tbl}[CDigits T]{d:Option Nat}{st:St}
@[simp] theorem x101(xs:List AV):callX (orc T) T 101 xs d st=cP T 101 false xs d st:=zaa CDigits.h101
theorem f101(xs:List AV)(hn:xs.length=1):callF T 101 xs=retF [.t 2] false (evX (orc T) T 0 b101 ⟨argEnv xs,[],1⟩):=zac CDigits.h101 hn
end
class CText (T:Tbl):Prop where
 h68:T 68=some ⟨0,0,[],.prim prim68,none,false⟩
section
variable{T:Tbl}[CText T]{d:Option Nat}{st:St}
@[simp] theorem x68(xs:List AV):callX (orc T) T 68 xs d st=cP T 68 false xs d st:=zaa CText.h68
theorem p68(xs:List AV):callF T 68 xs=prim68 xs:=zij CText.h68
end
def b103:AX:=
 (.seq
 (.reg [rg 4 (.mov (.c (.s [])))])
 (.seq
 (.seq
 (.reg [mv 7 0,rg 8 (.bin .eql (.t 7) (.c (.s []))),mv 9 8,gd 10 9 false (.mov (.t 1)),gd 11 9 false (.bin .eql (.t 10) (.c (.s []))),rg 12 (.pick (.t 9) (.c (.b true)) (.t 11))])
 (.cond (.t 12)
 (.seq
 (.reg [mv 13 0,mv 4 13])
 (.pre (.norm false [4]) .ret))
 .skip))
 (.seq
 (.seq
 (.reg [mv 14 1,rg 15 (.lens (.t 14)),rg 16 (.bin .eql (.t 15) (.c (.i .i64 1))),mv 17 16,gd 18 17 true (.mov (.t 1)),gd 19 17 true (.ixs (.t 18) (.c (.i .i64 0))),gd 20 17 true (.bin .lss (.t 19) (.c (u8 128))),rg 21 (.pick (.t 17) (.t 20) (.c (.b false)))])
 (.cond (.t 21)
 (.seq
 (.reg [mv 22 0,mv 23 1,rg 24 (.ixs (.t 23) (.c (.i .i64 0))),rg 25 (.call 125 [(.t 22),(.t 24)]),mv 4 25])
 (.pre (.norm false [4]) .ret))
 .skip))
 (.seq
 (.seq
 (.reg [mv 27 1,rg 28 (.call 126 [(.t 27)]),mv 26 28,rg 29 (.ext (.t 26) 0),rg 30 (.ext (.t 26) 1),rg 5 (.alloc [(.b false),(.b false),(.b false),(.b false),(.b false),(.b false),(.b false),(.b false),(.b false),(.b false),(.b false),(.b false),(.b false),(.b false),(.b false),(.b false),(.b false),(.b false),(.b false),(.b false),(.b false),(.b false),(.b false),(.b false),(.b false),(.b false),(.b false),(.b false),(.b false),(.b false),(.b false),(.b false),(.b false),(.b false),(.b false),(.b false),(.b false),(.b false),(.b false),(.b false),(.b false),(.b false),(.b false),(.b false),(.b false),(.b false),(.b false),(.b false),(.b false),(.b false),(.b false),(.b false),(.b false),(.b false),(.b false),(.b false),(.b false),(.b false),(.b false),(.b false),(.b false),(.b false),(.b false),(.b false),(.b false),(.b false),(.b false),(.b false),(.b false),(.b false),(.b false),(.b false),(.b false),(.b false),(.b false),(.b false),(.b false),(.b false),(.b false),(.b false),(.b false),(.b false),(.b false),(.b false),(.b false),(.b false),(.b false),(.b false),(.b false),(.b false),(.b false),(.b false),(.b false),(.b false),(.b false),(.b false),(.b false),(.b false),(.b false),(.b false),(.b false),(.b false),(.b false),(.b false),(.b false),(.b false),(.b false),(.b false),(.b false),(.b false),(.b false),(.b false),(.b false),(.b false),(.b false),(.b false),(.b false),(.b false),(.b false),(.b false),(.b false),(.b false),(.b false),(.b false),(.b false),(.b false),(.b false),(.b false),(.b false),(.b false),(.b false),(.b false),(.b false),(.b false),(.b false),(.b false),(.b false),(.b false),(.b false),(.b false),(.b false),(.b false),(.b false),(.b false),(.b false),(.b false),(.b false),(.b false),(.b false),(.b false),(.b false),(.b false),(.b false),(.b false),(.b false),(.b false),(.b false),(.b false),(.b false),(.b false),(.b false),(.b false),(.b false),(.b false),(.b false),(.b false),(.b false),(.b false),(.b false),(.b false),(.b false),(.b false),(.b false),(.b false),(.b false),(.b false),(.b false),(.b false),(.b false),(.b false),(.b false),(.b false),(.b false),(.b false),(.b false),(.b false),(.b false),(.b false),(.b false),(.b false),(.b false),(.b false),(.b false),(.b false),(.b false),(.b false),(.b false),(.b false),(.b false),(.b false),(.b false),(.b false),(.b false),(.b false),(.b false),(.b false),(.b false),(.b false),(.b false),(.b false),(.b false),(.b false),(.b false),(.b false),(.b false),(.b false),(.b false),(.b false),(.b false),(.b false),(.b false),(.b false),(.b false),(.b false),(.b false),(.b false),(.b false),(.b false),(.b false),(.b false),(.b false),(.b false),(.b false),(.b false),(.b false),(.b false),(.b false),(.b false),(.b false),(.b false),(.b false),(.b false),(.b false),(.b false),(.b false),(.b false),(.b false),(.b false),(.b false),(.b false),(.b false),(.b false),(.b false),(.b false),(.b false),(.b false)]),so (.store 256 (.t 5) (.t 29)),mv 6 30])
 (.seq
 (.reg [mv 31 6])
 (.cond (.t 31)
 (.seq
 (.reg [mv 32 0,rg 33 (.call 127 [(.t 32),(.t 5)]),mv 4 33])
 (.pre (.norm false [4]) .ret))
 .skip)))
 (.seq
 (.reg [mv 34 0,mv 35 1,rg 36 (.call 128 [(.t 34),(.t 35)]),mv 4 36])
 (.pre (.norm false [4]) .ret))))))
def l125_0:AX:=
 (.note
 (.seq
 (.seq
 (.reg [mv 5 0,rg 6 (.lens (.t 5)),rg 7 (.bin .gtr (.t 6) (.c (.i .i64 0))),mv 8 7,gd 9 8 true (.mov (.t 0)),gd 10 8 true (.ixs (.t 9) (.c (.i .i64 0))),gd 11 8 true (.mov (.t 1)),gd 12 8 true (.bin .eql (.t 10) (.t 11)),rg 13 (.pick (.t 8) (.t 12) (.c (.b false)))])
 (.cond (.t 13)
 .skip
 (.exit 0)))
 (.block 1
 (.reg [mv 14 0,rg 15 (.slstr (.t 14) (some (.c (.i .i64 1))) none),mv 0 15])))
 (.norm false [0,1]))
def b125:AX:=
 (.seq
 (.reg [rg 4 (.mov (.c (.s [])))])
 (.seq
 (.lp 0 (.norm false [0,1]) l125_0 (.norm false [0]))
 (.seq
 (.reg [mv 16 0,mv 4 16])
 (.pre (.norm false [4]) .ret))))
class CTrim (T:Tbl):Prop where
 h103:T 103=some ⟨2,37,[.t 4],b103,none,false⟩
 h125:T 125=some ⟨2,17,[.t 4],b125,none,false⟩
section
variable{T:Tbl}[CTrim T]{d:Option Nat}{st:St}
theorem f103(xs:List AV)(hn:xs.length=2):callF T 103 xs=retF [.t 4] false (evX (orc T) T 0 b103 ⟨argEnv xs,[],1⟩):=zac CTrim.h103 hn
@[simp] theorem x125(xs:List AV):callX (orc T) T 125 xs d st=cP T 125 false xs d st:=zaa CTrim.h125
theorem f125(xs:List AV)(hn:xs.length=2):callF T 125 xs=retF [.t 4] false (evX (orc T) T 0 b125 ⟨argEnv xs,[],1⟩):=zac CTrim.h125 hn
end
def l43_0:AX:=
 (.note
 (.seq
 (.seq
 (.reg [mv 6 3,rg 7 (.bin .gtr (.t 6) (.c (.i .i64 0))),mv 8 7,gd 9 8 true (.mov (.t 0)),gd 10 8 true (.mov (.t 3)),gd 11 8 true (.bin .sub (.t 10) (.c (.i .i64 1))),gd 12 8 true (.iad 1 (.t 9) (.t 11)),gd 13 8 true (.load none (.t 12)),gd 14 8 true (.bin .eql (.t 13) (.c (u32 0))),rg 15 (.pick (.t 8) (.t 14) (.c (.b false)))])
 (.cond (.t 15)
 .skip
 (.exit 0)))
 (.block 1
 (.reg [mv 16 3,rg 17 (.bin .sub (.t 16) (.c (.i .i64 1))),mv 3 17])))
 (.norm false [0,3]))
def b43:AX:=
 (.seq
 (.reg [rg 2 (.mov (.c (.sl [] .nl)))])
 (.seq
 (.reg [mv 4 0,rg 5 (.len (.t 4)),mv 3 5])
 (.seq
 (.lp 0 (.norm false [0,3]) l43_0 (.norm false [0,3]))
 (.seq
 (.reg [rg 18 (.bsl 1 [(u32 0)] 0 []),mv 19 0,mv 20 3,rg 21 (.slc 1 (.t 19) none (some (.t 20)) none),rg 22 (.app 1 (.t 18) (.t 21)),mv 2 22])
 (.pre (.norm false [2]) .ret)))))
def b84:AX:=
 (.seq
 (.reg [rg 4 (.mov (.c (u32 0)))])
 (.seq
 (.seq
 (.reg [mv 5 1,mv 6 0,rg 7 (.len (.t 6)),rg 8 (.bin .lss (.t 5) (.t 7))])
 (.cond (.t 8)
 (.seq
 (.reg [mv 9 0,mv 10 1,rg 11 (.iad 1 (.t 9) (.t 10)),rg 12 (.load none (.t 11)),mv 4 12])
 (.pre (.norm false [4]) .ret))
 .skip))
 (.seq
 (.reg [rg 4 (.mov (.c (u32 0)))])
 (.pre (.norm false [4]) .ret))))
def l52_0:AX:=
 (.note
 (.seq
 (.seq
 (.reg [mv 14 5,rg 15 (.bin .geq (.t 14) (.c (.i .i64 0)))])
 (.cond (.t 15)
 .skip
 (.exit 0)))
 (.seq
 (.block 1
 (.seq
 (.reg [mv 18 0,mv 19 5,rg 20 (.call 84 [(.t 18),(.t 19)]),mv 6 20])
 (.seq
 (.reg [mv 21 1,mv 22 5,rg 23 (.call 84 [(.t 21),(.t 22)]),mv 7 23])
 (.seq
 (.seq
 (.reg [mv 24 6,mv 25 7,rg 26 (.bin .lss (.t 24) (.t 25))])
 (.cond (.t 26)
 (.seq
 (.reg [rg 4 (.mov (.c (.i .i64 (-1))))])
 (.pre (.norm false [4]) .ret))
 .skip))
 (.seq
 (.reg [mv 27 6,mv 28 7,rg 29 (.bin .gtr (.t 27) (.t 28))])
 (.cond (.t 29)
 (.seq
 (.reg [rg 4 (.mov (.c (.i .i64 1)))])
 (.pre (.norm false [4]) .ret))
 .skip))))))
 (.reg [mv 16 5,rg 17 (.bin .sub (.t 16) (.c (.i .i64 1))),mv 5 17])))
 (.norm false [0,1,5]))
def b52:AX:=
 (.seq
 (.reg [rg 4 (.mov (.c (.i .i64 0)))])
 (.seq
 (.seq
 (.reg [mv 8 0,rg 9 (.len (.t 8)),mv 10 1,rg 11 (.len (.t 10)),rg 12 (.mm true [(.t 9),(.t 11)]),rg 13 (.bin .sub (.t 12) (.c (.i .i64 1))),mv 5 13])
 (.lp 0 (.norm false [0,1,5]) l52_0 (.norm false [])))
 (.seq
 (.reg [rg 4 (.mov (.c (.i .i64 0)))])
 (.pre (.norm false [4]) .ret))))
def l54_0:AX:=
 (.note
 (.seq
 (.seq
 (.reg [mv 11 5,mv 12 0,rg 13 (.len (.t 12)),rg 14 (.bin .lss (.t 11) (.t 13))])
 (.cond (.t 14)
 .skip
 (.exit 0)))
 (.seq
 (.block 1
 (.seq
 (.drawT [mv 17 0,mv 18 5,rg 19 (.iad 1 (.t 17) (.t 18)),rg 20 (.load none (.t 19)),mv 21 1,mv 22 5,rg 23 (.iad 1 (.t 21) (.t 22)),rg 24 (.load none (.t 23))]
 [rg 25 (.bin .neq (.t 20) (.t 24))])
 (.cond (.t 25)
 (.seq
 (.reg [rg 4 (.mov (.c (.b false)))])
 (.pre (.norm false [4]) .ret))
 .skip)))
 (.reg [mv 15 5,rg 16 (.bin .add (.t 15) (.c (.i .i64 1))),mv 5 16])))
 (.norm false [0,1,5]))
def b54:AX:=
 (.seq
 (.reg [rg 4 (.mov (.c (.b false)))])
 (.seq
 (.seq
 (.reg [mv 6 0,rg 7 (.len (.t 6)),mv 8 1,rg 9 (.len (.t 8)),rg 10 (.bin .neq (.t 7) (.t 9))])
 (.cond (.t 10)
 (.seq
 (.reg [rg 4 (.mov (.c (.b false)))])
 (.pre (.norm false [4]) .ret))
 .skip))
 (.seq
 (.seq
 (.reg [rg 5 (.mov (.c (.i .i64 0)))])
 (.lp 0 (.norm false [0,1,5]) l54_0 (.norm false [])))
 (.seq
 (.reg [rg 4 (.mov (.c (.b true)))])
 (.pre (.norm false [4]) .ret)))))
class CRef02 (T:Tbl):Prop where
 h43:T 43=some ⟨1,23,[.t 2],b43,none,false⟩
 h84:T 84=some ⟨2,13,[.t 4],b84,none,false⟩
 h52:T 52=some ⟨2,30,[.t 4],b52,none,false⟩
 h54:T 54=some ⟨2,26,[.t 4],b54,none,false⟩
section
variable{T:Tbl}[CRef02 T]{d:Option Nat}{st:St}
@[simp] theorem x43(xs:List AV):callX (orc T) T 43 xs d st=cP T 43 false xs d st:=zaa CRef02.h43
@[simp] theorem y43{e:Env}{h:Heap}{older:List Heap}(args:List Opd):opD (orc T) T (.call 43 args) e h older=dR (callF T 43 ((args.map (ev e.get)).map (wkIf false))) (args.map (ev e.get)):=zce CRef02.h43
theorem f43(xs:List AV)(hn:xs.length=1):callF T 43 xs=retF [.t 2] false (evX (orc T) T 0 b43 ⟨argEnv xs,[],1⟩):=zac CRef02.h43 hn
@[simp] theorem x84(xs:List AV):callX (orc T) T 84 xs d st=cP T 84 false xs d st:=zaa CRef02.h84
theorem f84(xs:List AV)(hn:xs.length=2):callF T 84 xs=retF [.t 4] false (evX (orc T) T 0 b84 ⟨argEnv xs,[],1⟩):=zac CRef02.h84 hn
@[simp] theorem x52(xs:List AV):callX (orc T) T 52 xs d st=cP T 52 false xs d st:=zaa CRef02.h52
theorem f52(xs:List AV)(hn:xs.length=2):callF T 52 xs=retF [.t 4] false (evX (orc T) T 0 b52 ⟨argEnv xs,[],1⟩):=zac CRef02.h52 hn
@[simp] theorem x54(xs:List AV):callX (orc T) T 54 xs d st=cP T 54 false xs d st:=zaa CRef02.h54
theorem f54(xs:List AV)(hn:xs.length=2):callF T 54 xs=retF [.t 4] false (evX (orc T) T 0 b54 ⟨argEnv xs,[],1⟩):=zac CRef02.h54 hn
end
section
variable{T:Tbl}
theorem zds(a:List UInt32)(hl:a.length<9223372036854775808){n:Nat}(hn:n≤a.length)(h0:∀(i:Nat) (x:UInt32),n≤i→a[i]? = some x→x.toNat=0)(h1:∀x:UInt32,0<n→a[n-1]? = some x→x.toNat≠0) :
  ∀m:Nat,(n≤m∧m≤a.length)→loopN T 0 0 (.norm false [0,3]) l43_0 ⟨[(0,.sl (u32s a) .an),(3,.i .i64 (m:Int))],[],2⟩=some (.n,⟨[(0,.sl (u32s a) .an),(3,.i .i64 (n:Int))],[],2⟩):=by
 refine zaw (fun m:Nat=>⟨[(0,.sl (u32s a) .an),(3,.i .i64 (m:Int))],[],2⟩) _ (fun m=>m) _ ?_
 rintro m ⟨hm,hma⟩
 by_cases h2:m=0
 ·right
  subst h2
  have:n=0:=by omega
  subst this
  constructor<;>simp[l43_0]
 ·have hw:IntKind.wrap .i64 ((m:Int)-1)=((m-1:Nat):Int):=by rw[zab _ (by omega)];omega
  have hm1:m-1<a.length:=by omega
  have hg:a[m-1]? = some (a[m-1]'hm1):=List.getElem?_eq_getElem hm1
  have hpos:0<m:=by omega
  by_cases h3:m=n
  ·right
   subst h3
   have hx:=h1 _ hpos hg
   constructor<;>simp[l43_0,hpos,hw,hm1,hx]
  ·left
   refine⟨m-1,⟨by omega,by omega⟩,by omega,?_,rfl⟩
   have hx:=h0 (m-1) _ (by omega) hg
   simp[l43_0,hpos,hw,hm1,hx]
end
section
variable{T:Tbl}[CRef02 T]
theorem zby(a:List UInt32)(hl:a.length≤1000000):callF T 43 [.sl (u32s a) .an]=some (.sl (u32s (ofN (val a))) .an):=by
 obtain⟨n,h1,h2,h3,h4⟩:=zd1 a
 have hr:=zds (T:=T) a (by omega) h1 h3 h4 a.length ⟨h1,Nat.le_refl _⟩
 have hlen:(ofN (val a)).length=n:=by grind
 have hb:n≤4294967296:=by omega
 rw[f43 _ rfl,b43]
 simp[hr,h1,h2,hlen,hb]
 grind
def atW(a:List UInt32)(i:Nat):Nat:=(a[i]?.map UInt32.toNat).getD 0
theorem zt0(a:List UInt32)(i:Nat):atW a i<4294967296:=by
 grind[atW,zan]
theorem zcu(a:List UInt32)(i:Nat):val (a.take (i+1))=val (a.take i)+4294967296^i*atW a i:=by
 grind[atW,zaf,zcv]
theorem zfw(a:List UInt32)(i:Nat)(_hl:a.length≤1000000):callF T 84 [.sl (u32s a) .an,.i .i64 i]=some (u32 (atW a i)):=by
 rw[f84 _ rfl,b84]
 unfold atW
 by_cases h:i<a.length
 ·simp[h]
 ·simp[h]
theorem zhv(a b:List UInt32)(hl:a.length≤1000000)(hl2:b.length≤1000000):∀m:Nat,m≤1000000 →
  loopN T 0 0 (.norm false []) l52_0 ⟨[(0,.sl (u32s a) .an),(1,.sl (u32s b) .an),(5,.i .i64 ((m:Int)-1))],[],2⟩ =
   if val (a.take m)<val (b.take m) then some (.r,⟨[(4,.i .i64 (-1))],[],2⟩) else if val (b.take m)<val (a.take m) then some (.r,⟨[(4,.i .i64 1)],[],2⟩) else some (.n,⟨[],[],2⟩):=by
 refine zaw (fun m:Nat=>⟨[(0,.sl (u32s a) .an),(1,.sl (u32s b) .an),(5,.i .i64 ((m:Int)-1))],[],2⟩) _ (fun m=>m) _ ?_
 intro m hm
 cases m with
 | zero=>
  right
  constructor<;>simp[l52_0]
 | succ i=>
  have hw:IntKind.wrap .i64 ((i:Int)-1)=(i:Int)-1:=zab _ (by omega)
  have ca:=zfw (T:=T) a i hl
  have cb:=zfw (T:=T) b i hl2
  have e1:=zcu a i
  have e2:=zcu b i
  have b1:=za2 (a.take i)
  have b2:=za2 (b.take i)
  have p1:4294967296^(a.take i).length≤4294967296^i:=Nat.pow_le_pow_right (by decide) (by grind)
  have p2:4294967296^(b.take i).length≤4294967296^i:=Nat.pow_le_pow_right (by decide) (by grind)
  rcases Nat.lt_trichotomy (atW a i) (atW b i) with h1 | h1 | h1
  ·right
   have h3:=Nat.mul_le_mul_left (4294967296^i) (show atW a i+1≤atW b i from h1)
   rw[Nat.mul_add]at h3
   have h2:val (a.take (i+1))<val (b.take (i+1)):=by omega
   constructor<;>simp[l52_0,ca,cb,h1,h2]
  ·left
   refine⟨i,by omega,Nat.lt_succ_self i,?_,?_⟩
   ·simp[l52_0,ca,cb,h1,hw]
   grind
  ·right
   have h3:=Nat.mul_le_mul_left (4294967296^i) (show atW b i+1≤atW a i from h1)
   rw[Nat.mul_add]at h3
   have h2:val (b.take (i+1))<val (a.take (i+1)):=by omega
   have h4:¬ val (a.take (i+1))<val (b.take (i+1)):=by omega
   have h5:¬ atW a i<atW b i:=by omega
   constructor<;>simp[l52_0,ca,cb,h1,h2,h4,h5]
theorem ze0(a b:List UInt32)(ha:a.length≤1000000)(hb:b.length≤1000000):callF T 52 [.sl (u32s a) .an,.sl (u32s b) .an]=some (.i .i64 (cmpN (val a) (val b))):=by
 have hc:=zhv (T:=T) a b ha hb (max a.length b.length) (by omega)
 rw[List.take_of_length_le (by omega),List.take_of_length_le (by omega)]at hc
 have e:(if (a.length:Int)<b.length then (b.length:Int) else a.length)=((max a.length b.length:Nat):Int):=by omega
 have hw:IntKind.wrap .i64 (((max a.length b.length:Nat):Int)-1)=((max a.length b.length:Nat):Int)-1:=zab _ (by omega)
 rw[f52 _ rfl,b52]
 simp at e hw hc
 simp[e,hw,hc,cmpN]
 grind
end
section
variable{T:Tbl}
theorem zg7(a b:List UInt32)(hab:a.length=b.length)(hl:a.length≤1000000):∀i:Nat,i≤a.length →
  loopN T 0 0 (.norm false []) l54_0 ⟨[(0,.sl (u32s a) .an),(1,.sl (u32s b) .an),(5,.i .i64 i)],[],2⟩=if a.drop i=b.drop i then some (.n,⟨[],[],2⟩) else some (.r,⟨[(4,.b false)],[],2⟩):=by
 refine zaw (fun i:Nat=>⟨[(0,.sl (u32s a) .an),(1,.sl (u32s b) .an),(5,.i .i64 i)],[],2⟩) _ (fun i=>a.length-i) _ ?_
 intro i hi
 by_cases h0:i<a.length
 ·have h1:i<b.length:=by omega
  have hw:IntKind.wrap .i64 ((i:Int)+1)=((i+1:Nat):Int):=zab _ (by omega)
  have hda:a.drop i=a[i]'h0::a.drop (i+1):=List.drop_eq_getElem_cons h0
  have hdb:b.drop i=b[i]'h1::b.drop (i+1):=List.drop_eq_getElem_cons h1
  by_cases h2:a[i]'h0=b[i]'h1
  ·left
   refine⟨i+1,h0,by omega,?_,?_⟩
   ·simp[l54_0,h0,h1,h2,hw]
   grind
  ·right
   have h3:¬ (a[i]'h0).toNat=(b[i]'h1).toNat:=fun h=>h2 (UInt32.toNat_inj.1 h)
   have h4:¬ a.drop i=b.drop i:=by grind
   constructor<;>simp[l54_0,h0,h1,h3,h4]
 ·right
  have h4:a.drop i=b.drop i:=by grind
  have h5:¬ (i:Int)<a.length:=by omega
  constructor<;>simp[l54_0,h4,h5]
end
section
variable{T:Tbl}[CRef02 T]
theorem zfa(a b:List UInt32)(ha:a.length≤1000000):callF T 54 [.sl (u32s a) .an,.sl (u32s b) .an]=some (.b (decide (a=b))):=by
 rw[f54 _ rfl,b54]
 by_cases h:a.length=b.length
 ·have hc:=zg7 (T:=T) a b h ha 0 (Nat.zero_le _)
  simp at hc
  by_cases h3:a=b
  ·subst h3
   simp[hc]
  ·simp[h,hc,h3]
 ·have h3:¬ a=b:=fun he=>h (by rw[he])
  have h2:¬ (a.length:Int)=b.length:=by omega
  simp[h2,h3]
def stAdd2(a b:List UInt32)(n:Nat)(y:Nat×Nat×List UInt32):St:=
 ⟨[(0,.sl (u32s a) .an),(1,.sl (u32s b) .an),(5,.i .i64 n),(6,.bs (.loc 16) 1 1 0 n),(7,u64 y.2.1),(8,.i .i64 y.1)],[(.loc 16,⟨1,.own,1,u32s y.2.2⟩)],3⟩
def stSub2(a b:List UInt32)(n:Nat)(y:Nat×Nat×List UInt32):St:=
 ⟨[(0,.sl (u32s a) .an),(1,.sl (u32s b) .an),(5,.i .i64 n),(6,.bs (.loc 17) 1 1 0 n),(7,u64 y.2.1),(8,.i .i64 y.1)],[(.loc 17,⟨1,.own,1,u32s y.2.2⟩)],3⟩
end
def l61_0:AX:=
 (.note
 (.seq
 (.seq
 (.reg [mv 21 8,mv 22 1,rg 23 (.len (.t 22)),rg 24 (.bin .lss (.t 21) (.t 23))])
 (.cond (.t 24)
 .skip
 (.exit 2)))
 (.seq
 (.block 3
 (.seq
 (.drawT [mv 27 7,mv 28 0,mv 29 6,rg 30 (.iad 1 (.t 28) (.t 29)),rg 31 (.load none (.t 30)),rg 32 (.conv .u64 (.t 31)),mv 33 1,mv 34 8,rg 35 (.iad 1 (.t 33) (.t 34)),rg 36 (.load none (.t 35)),rg 37 (.conv .u64 (.t 36)),rg 38 (.bin .mul (.t 32) (.t 37)),mv 39 5,mv 40 6,mv 41 8,rg 42 (.bin .add (.t 40) (.t 41)),rg 43 (.iad 1 (.t 39) (.t 42)),rg 44 (.load none (.t 43)),rg 45 (.conv .u64 (.t 44)),rg 46 (.bin .add (.t 38) (.t 45))]
 [rg 47 (.bin .add (.t 27) (.t 46)),mv 7 47])
 (.seq
 (.reg [mv 48 5,mv 49 6,mv 50 8,rg 51 (.bin .add (.t 49) (.t 50)),mv 52 7,rg 53 (.bin .rem (.t 52) (.c (u64 4294967296))),rg 54 (.conv .u32 (.t 53)),rg 55 (.iad 1 (.t 48) (.t 51)),so (.store 1 (.t 55) (.t 54))])
 (.reg [mv 56 7,rg 57 (.bin .quo (.t 56) (.c (u64 4294967296))),mv 7 57]))))
 (.reg [mv 25 8,rg 26 (.bin .add (.t 25) (.c (.i .i64 1))),mv 8 26])))
 (.norm false [0,1,5,6,7,8]))
def l61_1:AX:=
 (.note
 (.seq
 (.seq
 (.reg [mv 15 6,mv 16 0,rg 17 (.len (.t 16)),rg 18 (.bin .lss (.t 15) (.t 17))])
 (.cond (.t 18)
 .skip
 (.exit 0)))
 (.seq
 (.block 1
 (.seq
 (.reg [rg 7 (.mov (.c (u64 0)))])
 (.seq
 (.seq
 (.reg [rg 8 (.mov (.c (.i .i64 0)))])
 (.lp 2 (.norm false [0,1,5,6,7,8]) l61_0 (.norm false [0,1,5,6,7])))
 (.reg [mv 58 5,mv 59 6,mv 60 1,rg 61 (.len (.t 60)),rg 62 (.bin .add (.t 59) (.t 61)),mv 63 7,rg 64 (.conv .u32 (.t 63)),rg 65 (.iad 1 (.t 58) (.t 62)),so (.store 1 (.t 65) (.t 64))]))))
 (.reg [mv 19 6,rg 20 (.bin .add (.t 19) (.c (.i .i64 1))),mv 6 20])))
 (.norm false [0,1,5,6]))
def b61:AX:=
 (.seq
 (.reg [rg 4 (.mov (.c (.sl [] .nl)))])
 (.seq
 (.reg [mv 9 0,rg 10 (.len (.t 9)),mv 11 1,rg 12 (.len (.t 11)),rg 13 (.bin .add (.t 10) (.t 12)),rg 14 (.mks 1 [(u32 0)] (.t 13) (.t 13)),mv 5 14])
 (.seq
 (.seq
 (.reg [rg 6 (.mov (.c (.i .i64 0)))])
 (.lp 0 (.norm false [0,1,5,6]) l61_1 (.norm false [5])))
 (.seq
 (.reg [mv 66 5,rg 67 (.call 43 [(.t 66)]),mv 4 67])
 (.pre (.norm false [4]) .ret)))))
class CRef04 (T:Tbl):Prop extends CRef02 T where
 h61:T 61=some ⟨2,68,[.t 4],b61,none,false⟩
section
variable{T:Tbl}[CRef04 T]{d:Option Nat}{st:St}
@[simp] theorem x61(xs:List AV):callX (orc T) T 61 xs d st=cP T 61 false xs d st:=zaa CRef04.h61
theorem f61(xs:List AV)(hn:xs.length=2):callF T 61 xs=retF [.t 4] false (evX (orc T) T 0 b61 ⟨argEnv xs,[],1⟩):=zac CRef04.h61 hn
end
section
variable{T:Tbl}[CRef04 T]
theorem zt1{p m w c c' s x y t v:Nat}(h:m+p*c=s+x*t)(e:w+4294967296*c'=x*y+v+c):(m+p*w)+p*4294967296*c'=(s+p*v)+x*(t+p*y):=
 zwc (k:=0) h e
def stIn4(P S a b:List UInt32)(y:Nat×Nat×List UInt32):St:=
 ⟨[(0,.sl (u32s a) .an),(1,.sl (u32s b) .an),(5,.bs (.loc 14) 1 1 0 (P.length+S.length)),(6,.i .i64 P.length),(7,u64 y.2.1),(8,.i .i64 y.1)],[(.loc 14,⟨1,.own,1,u32s (P++(y.2.2++S.drop y.1))⟩)],3⟩
end
section
variable{T:Tbl}
theorem zwd(P S a b:List UInt32)(x:UInt32)(hxa:a[P.length]? = some x)(hS:b.length<S.length)(hl:P.length+S.length≤1000000):∀y:Nat×Nat×List UInt32,
  (y.1≤b.length∧y.2.1<4294967296∧y.2.2.length=y.1∧val y.2.2+4294967296^y.1*y.2.1=val (S.take y.1)+x.toNat*val (b.take y.1)) →
  ∃r,(∃(c:Nat) (m:List UInt32),r=(Ex.n,(⟨[(0,.sl (u32s a) .an),(1,.sl (u32s b) .an),(5,.bs (.loc 14) 1 1 0 (P.length+S.length)),(6,.i .i64 P.length),(7,u64 c)],[(.loc 14,⟨1,.own,1,u32s (P++(m++S.drop b.length))⟩)],3⟩:St)) ∧
   m.length=b.length∧c<4294967296∧val m+4294967296^b.length*c=val (S.take b.length)+x.toNat*val b)∧loopN T 0 2 (.norm false [0,1,5,6,7]) l61_0 (stIn4 P S a b y)=some r:=by
 refine zas _ _ (fun y=>b.length-y.1) _ ?_
 rintro⟨i,c,m⟩ ⟨hi,hc,hm,hv⟩
 simp only at hi hc hm hv
 have hPa:P.length<a.length:=by
  rcases Nat.lt_or_ge P.length a.length with h | h
  ·exact h
  ·rw[List.getElem?_eq_none h]at hxa;cases hxa
 obtain rfl:a[P.length]'hPa=x:=by rw[List.getElem?_eq_getElem hPa]at hxa;cases hxa;rfl
 generalize hX:a[P.length]'hPa=x at hv ⊢
 by_cases h0:i<b.length
 ·left
  have hb:b[i]? = some (b[i]'h0):=List.getElem?_eq_getElem h0
  have hiS:i<S.length:=by omega
  have hs:S[i]? = some (S[i]'hiS):=List.getElem?_eq_getElem hiS
  have hg:=zdr (P:=P) hm hiS
  have hw:IntKind.wrap .i64 ((i:Int)+1)=((i+1:Nat):Int):=zab _ (by omega)
  have hw2:IntKind.wrap .i64 ((P.length:Int)+i)=((P.length+i:Nat):Int):=zab _ (by omega)
  have hlb:=zan (b[i]'h0)
  have hls:=zan (S[i]'hiS)
  have hmul:=ziq (zan x) hlb
  have hset:=zdc (P:=P) (w32 (c+(x.toNat*(b[i]'h0).toNat+(S[i]'hiS).toNat))) hm hiS
  have m1:x.toNat*(b[i]'h0).toNat%18446744073709551616=x.toNat*(b[i]'h0).toNat:=Nat.mod_eq_of_lt (by omega)
  have m2:(x.toNat*(b[i]'h0).toNat+(S[i]'hiS).toNat)%18446744073709551616=x.toNat*(b[i]'h0).toNat+(S[i]'hiS).toNat:=Nat.mod_eq_of_lt (by omega)
  have m3:(c+(x.toNat*(b[i]'h0).toNat+(S[i]'hiS).toNat))%18446744073709551616=c+(x.toNat*(b[i]'h0).toNat+(S[i]'hiS).toNat):=Nat.mod_eq_of_lt (by omega)
  have m4:(c+(x.toNat*(b[i]'h0).toNat+(S[i]'hiS).toNat))/4294967296%18446744073709551616=(c+(x.toNat*(b[i]'h0).toNat+(S[i]'hiS).toNat))/4294967296:=Nat.mod_eq_of_lt (by omega)
  refine⟨(i+1,(c+(x.toNat*(b[i]'h0).toNat+(S[i]'hiS).toNat))/4294967296,m++[w32 (c+(x.toNat*(b[i]'h0).toNat+(S[i]'hiS).toNat))]),⟨h0,by simp only;omega,by simp[hm],?_⟩,by simp only;omega,?_⟩
  ·simp only
   rw[zaj,zaf hb,zaf hs,Nat.pow_succ,hm]
   simp only[zai,za0,Nat.mul_zero,Nat.add_zero,zdt]
   exact zt1 hv (by have:=Nat.div_add_mod (c+(x.toNat*(b[i]'h0).toNat+(S[i]'hiS).toNat)) 4294967296;omega)
  ·simp at hg hset
   simp -implicitDefEqProofs[l61_0,stIn4,h0,hw,hw2,hiS,hg,hset,hPa,hX,m1,m2,m3,m4]
 ·right
  have hib:i=b.length:=by omega
  have hv':val m+4294967296^b.length*c=val (S.take b.length)+x.toNat*val b:=by
   rw[hib,List.take_of_length_le (Nat.le_refl b.length)]at hv
   exact hv
  refine⟨(Ex.n,⟨[(0,.sl (u32s a) .an),(1,.sl (u32s b) .an),(5,.bs (.loc 14) 1 1 0 (P.length+S.length)),(6,.i .i64 P.length),(7,u64 c)],[(.loc 14,⟨1,.own,1,u32s (P++(m++S.drop i))⟩)],3⟩),⟨c,m,by rw[hib],by rw[hm,hib],hc,hv'⟩,?_,?_⟩<;>simp -implicitDefEqProofs[l61_0,stIn4,h0]
end
section
variable{T:Tbl}[CRef04 T]
def stMul4(a b:List UInt32)(y:Nat×List UInt32):St:=
 ⟨[(0,.sl (u32s a) .an),(1,.sl (u32s b) .an),(5,.bs (.loc 14) 1 1 0 (a.length+b.length)),(6,.i .i64 y.1)],[(.loc 14,⟨1,.own,1,u32s (y.2++List.replicate (a.length-y.1) 0)⟩)],3⟩
end
section
variable{T:Tbl}
theorem zt2(a b:List UInt32)(ha:a.length≤100000)(hb:b.length≤100000):∀y:Nat×List UInt32,
  (y.1≤a.length∧y.2.length=b.length+y.1∧val y.2=val (a.take y.1)*val b) →
  ∃r,(∃out:List UInt32,r=(Ex.n,(⟨[(5,.bs (.loc 14) 1 1 0 (a.length+b.length))],[(.loc 14,⟨1,.own,1,u32s out⟩)],3⟩:St))∧out.length=a.length+b.length∧val out=val a*val b) ∧
   loopN T 0 0 (.norm false [5]) l61_1 (stMul4 a b y)=some r:=by
 refine zas _ _ (fun y=>a.length-y.1) _ ?_
 rintro⟨i,X⟩ ⟨hi,hX,hv⟩
 simp only at hi hX hv
 by_cases h0:i<a.length
 ·left
  have hag:a[i]? = some (a[i]'h0):=List.getElem?_eq_getElem h0
  have hw:IntKind.wrap .i64 ((i:Int)+1)=((i+1:Nat):Int):=zab _ (by omega)
  have e2:(X.take i).length=i:=by simp;omega
  have e3:(X.drop i++List.replicate (a.length-i) 0).length=a.length+b.length-i:=by simp;omega
  obtain⟨_,⟨c,m,rfl,hm,hc,hvm⟩,hr⟩:=zwd (T:=T) (X.take i) (X.drop i++List.replicate (a.length-i) 0) a b (a[i]'h0) (by rw[e2];exact hag) (by simp;omega) (by simp;omega) (0,0,[]) ⟨Nat.zero_le _,Nat.zero_lt_succ _,rfl,by simp⟩
  have e1:X.take i++(X.drop i++List.replicate (a.length-i) 0)=X++List.replicate (a.length-i) 0:=by rw[←List.append_assoc,List.take_append_drop]
  have e4:i+(a.length+b.length-i)=a.length+b.length:=by omega
  have e6:(X.drop i++List.replicate (a.length-i) 0).take b.length=X.drop i:=by
   rw[List.take_append_of_le_length (by simp;omega),List.take_of_length_le (by simp;omega)]
  have hSl:b.length<(X.drop i++List.replicate (a.length-i) 0).length:=by simp;omega
  have hg:=zdr (P:=X.take i) (m:=m) hm hSl
  have hset:=zdc (P:=X.take i) (m:=m) (w32 c) hm hSl
  have e5:(X.drop i++List.replicate (a.length-i) 0).drop (b.length+1)=List.replicate (a.length-(i+1)) 0:=by
   rw[List.drop_append,List.drop_of_length_le (by simp;omega),List.drop_replicate]
   simp only[List.nil_append,List.length_drop]
   congr 1
   omega
  unfold stIn4 at hr
  simp only[List.nil_append,List.drop_zero]at hr
  rw[e1,e2,e3,e4]at hr
  rw[e2]at hg hset
  rw[e5]at hset
  rw[e6]at hvm
  generalize hQ:X.take i++(m++(X.drop i++List.replicate (a.length-i) 0).drop b.length)=Q at hr hg hset
  have hw2:IntKind.wrap .i64 ((i:Int)+b.length)=((i+b.length:Nat):Int):=zab _ (by omega)
  have hlt:((i:Int)+b.length)<(a.length:Int)+b.length:=by omega
  simp at hr hg hset
  refine⟨(i+1,X.take i++(m++[w32 c])),⟨h0,by simp only[List.length_append,e2,hm,List.length_singleton];omega,?_⟩,by simp only;omega,?_⟩
  ·simp only
   have e7:=zaj (X.take i) (X.drop i)
   rw[List.take_append_drop,e2]at e7
   rw[zaj,e2,zaj,hm]
   simp only[zai,za0,Nat.mul_zero,Nat.add_zero,zad hc]
   rw[hvm,zaf hag,Nat.add_mul,←hv,e7,Nat.mul_add]
   rw[Nat.mul_assoc]
   omega
  ·simp -implicitDefEqProofs[l61_1,stMul4,h0,hw,hr,hw2,hlt,hg,hset]
 ·right
  have:i=a.length:=by omega
  subst this
  rw[List.take_of_length_le (Nat.le_refl _)]at hv
  refine⟨_,⟨X++List.replicate (a.length-a.length) 0,rfl,by simp;omega,by simp[hv]⟩,?_,?_⟩<;>simp -implicitDefEqProofs[l61_1,stMul4]
end
section
variable{T:Tbl}[CRef04 T]
theorem zt3(a b:List UInt32)(ha:a.length≤100000)(hb:b.length≤100000):callF T 61 [.sl (u32s a) .an,.sl (u32s b) .an]=some (.sl (u32s (ofN (val a*val b))) .an):=by
 obtain⟨_,⟨out,rfl,ho,hv⟩,hr⟩:=zt2 (T:=T) a b ha hb (0,List.replicate b.length 0) ⟨Nat.zero_le _,by simp,by simp[zbr]⟩
 unfold stMul4 at hr
 simp at hr
 have hw1:IntKind.wrap .i64 ((a.length:Int)+b.length)=(a.length:Int)+b.length:=zab _ (by omega)
 have hle:(a.length:Int)+b.length≤4294967296:=by omega
 have hn:=zby (T:=T) out (by omega)
 rw[hv]at hn
 have htk:List.take (a.length+b.length) out=out:=List.take_of_length_le (by omega)
 have he:b.length+a.length=a.length+b.length:=by omega
 rw[he]at hr
 rw[f61 _ rfl,b61]
 simp -implicitDefEqProofs[hw1,hle,hr,ho,htk,hn]
end
def l122_0:AX:=
 (.note
 (.seq
 (.seq
 (.reg [mv 21 6,mv 22 1,rg 23 (.bin .rem (.t 22) (.c (.i .i64 32))),rg 24 (.bin .lss (.t 21) (.t 23))])
 (.cond (.t 24)
 .skip
 (.exit 0)))
 (.seq
 (.block 1
 (.reg [mv 27 5,rg 28 (.bin .quo (.t 27) (.c (u32 2))),mv 5 28]))
 (.reg [mv 25 6,rg 26 (.bin .add (.t 25) (.c (.i .i64 1))),mv 6 26])))
 (.norm false [1,5,6]))
def b122:AX:=
 (.seq
 (.reg [rg 4 (.mov (.c (.b false)))])
 (.seq
 (.seq
 (.reg [mv 7 1,rg 8 (.bin .lss (.t 7) (.c (.i .i64 0))),mv 9 8,gd 10 9 false (.mov (.t 1)),gd 11 9 false (.bin .quo (.t 10) (.c (.i .i64 32))),gd 12 9 false (.mov (.t 0)),gd 13 9 false (.len (.t 12)),gd 14 9 false (.bin .geq (.t 11) (.t 13)),rg 15 (.pick (.t 9) (.c (.b true)) (.t 14))])
 (.cond (.t 15)
 (.seq
 (.reg [rg 4 (.mov (.c (.b false)))])
 (.pre (.norm false [4]) .ret))
 .skip))
 (.seq
 (.reg [mv 16 0,mv 17 1,rg 18 (.bin .quo (.t 17) (.c (.i .i64 32))),rg 19 (.iad 1 (.t 16) (.t 18)),rg 20 (.load none (.t 19)),mv 5 20])
 (.seq
 (.seq
 (.reg [rg 6 (.mov (.c (.i .i64 0)))])
 (.lp 0 (.norm false [1,5,6]) l122_0 (.norm false [5])))
 (.seq
 (.reg [mv 29 5,rg 30 (.bin .rem (.t 29) (.c (u32 2))),rg 31 (.bin .eql (.t 30) (.c (u32 1))),mv 4 31])
 (.pre (.norm false [4]) .ret))))))
def l95_0:AX:=
 (.note
 (.seq
 (.seq
 (.reg [mv 7 3,rg 8 (.bin .gtr (.t 7) (.c (.i .i64 0))),mv 9 8,gd 10 9 true (.mov (.t 0)),gd 11 9 true (.mov (.t 3)),gd 12 9 true (.bin .sub (.t 11) (.c (.i .i64 1))),gd 13 9 true (.call 122 [(.t 10),(.t 12)]),gd 14 9 true (.un .not (.t 13)),rg 15 (.pick (.t 9) (.t 14) (.c (.b false)))])
 (.cond (.t 15)
 .skip
 (.exit 0)))
 (.block 1
 (.reg [mv 16 3,rg 17 (.bin .sub (.t 16) (.c (.i .i64 1))),mv 3 17])))
 (.norm false [0,3]))
def b95:AX:=
 (.seq
 (.reg [rg 2 (.mov (.c (.i .i64 0)))])
 (.seq
 (.reg [mv 4 0,rg 5 (.len (.t 4)),rg 6 (.bin .mul (.c (.i .i64 32)) (.t 5)),mv 3 6])
 (.seq
 (.lp 0 (.norm false [0,3]) l95_0 (.norm false [3]))
 (.seq
 (.reg [mv 18 3,mv 2 18])
 (.pre (.norm false [2]) .ret)))))
def l96_0:AX:=
 (.note
 (.seq
 (.seq
 (.reg [mv 8 5,mv 9 0,rg 10 (.len (.t 9)),rg 11 (.bin .lss (.t 8) (.t 10))])
 (.cond (.t 11)
 .skip
 (.exit 0)))
 (.seq
 (.block 1
 (.seq
 (.reg [mv 14 0,mv 15 5,rg 16 (.iad 1 (.t 14) (.t 15)),rg 17 (.load none (.t 16)),rg 18 (.bin .quo (.t 17) (.c (u32 2147483648))),mv 6 18])
 (.seq
 (.reg [mv 19 0,mv 20 5,mv 21 0,mv 22 5,rg 23 (.iad 1 (.t 21) (.t 22)),rg 24 (.load none (.t 23)),rg 25 (.bin .mul (.t 24) (.c (u32 2))),mv 26 4,rg 27 (.bin .add (.t 25) (.t 26)),rg 28 (.iad 1 (.t 19) (.t 20)),so (.store 1 (.t 28) (.t 27))])
 (.reg [mv 29 6,mv 4 29]))))
 (.reg [mv 12 5,rg 13 (.bin .add (.t 12) (.c (.i .i64 1))),mv 5 13])))
 (.norm false [0,4,5]))
def b96:AX:=
 (.seq
 (.reg [rg 4 (.mov (.c (u32 0)))])
 (.seq
 (.seq
 (.reg [mv 7 1])
 (.cond (.t 7)
 (.reg [rg 4 (.mov (.c (u32 1)))])
 .skip))
 (.seq
 (.reg [rg 5 (.mov (.c (.i .i64 0)))])
 (.lp 0 (.norm false [0,4,5]) l96_0 (.norm false [])))))
def l97_0:AX:=
 (.note
 (.seq
 (.seq
 (.reg [mv 8 5,mv 9 0,rg 10 (.len (.t 9)),rg 11 (.bin .lss (.t 8) (.t 10))])
 (.cond (.t 11)
 .skip
 (.exit 0)))
 (.seq
 (.block 1
 (.seq
 (.reg [mv 14 0,mv 15 5,rg 16 (.iad 1 (.t 14) (.t 15)),rg 17 (.load none (.t 16)),rg 18 (.conv .u64 (.t 17)),mv 6 18])
 (.seq
 (.reg [mv 19 1,mv 20 5,rg 21 (.call 84 [(.t 19),(.t 20)]),rg 22 (.conv .u64 (.t 21)),mv 23 4,rg 24 (.bin .add (.t 22) (.t 23)),mv 7 24])
 (.seq
 (.reg [rg 4 (.mov (.c (u64 0)))])
 (.seq
 (.seq
 (.reg [mv 25 6,mv 26 7,rg 27 (.bin .lss (.t 25) (.t 26))])
 (.cond (.t 27)
 (.seq
 (.reg [mv 28 6,rg 29 (.bin .add (.t 28) (.c (u64 4294967296))),mv 6 29])
 (.reg [rg 4 (.mov (.c (u64 1)))]))
 .skip))
 (.reg [mv 30 0,mv 31 5,mv 32 6,mv 33 7,rg 34 (.bin .sub (.t 32) (.t 33)),rg 35 (.conv .u32 (.t 34)),rg 36 (.iad 1 (.t 30) (.t 31)),so (.store 1 (.t 36) (.t 35))]))))))
 (.reg [mv 12 5,rg 13 (.bin .add (.t 12) (.c (.i .i64 1))),mv 5 13])))
 (.norm false [0,1,4,5]))
def b97:AX:=
 (.seq
 (.reg [rg 4 (.mov (.c (u64 0)))])
 (.seq
 (.reg [rg 5 (.mov (.c (.i .i64 0)))])
 (.lp 0 (.norm false [0,1,4,5]) l97_0 (.norm false []))))
def l63_0:AX:=
 (.note
 (.seq
 (.seq
 (.reg [mv 19 8,rg 20 (.bin .geq (.t 19) (.c (.i .i64 0)))])
 (.cond (.t 20)
 .skip
 (.exit 0)))
 (.seq
 (.block 1
 (.seq
 (.drawT [mv 23 7,mv 24 0,mv 25 8,rg 26 (.bin .quo (.t 25) (.c (.i .i64 32))),rg 27 (.iad 1 (.t 24) (.t 26)),rg 28 (.load none (.t 27)),mv 29 8,rg 30 (.bin .rem (.t 29) (.c (.i .i64 32))),rg 31 (.bin .shl (.c (u32 1)) (.t 30)),rg 32 (.bin .quo (.t 28) (.t 31)),rg 33 (.bin .rem (.t 32) (.c (u32 2))),rg 34 (.bin .eql (.t 33) (.c (u32 1)))]
 [rg 35 (.call 96 [(.t 23),(.t 34)])])
 (.seq
 (.reg [mv 36 6,rg 37 (.call 96 [(.t 36),(.c (.b false))])])
 (.seq
 (.reg [mv 38 7,mv 39 1,rg 40 (.call 52 [(.t 38),(.t 39)]),rg 41 (.bin .geq (.t 40) (.c (.i .i64 0)))])
 (.cond (.t 41)
 (.seq
 (.reg [mv 42 7,mv 43 1,rg 44 (.call 97 [(.t 42),(.t 43)])])
 (.reg [mv 45 6,rg 46 (.iad 1 (.t 45) (.c (.i .i64 0))),rg 47 (.load none (.t 46)),rg 48 (.bin .add (.t 47) (.c (u32 1))),rg 49 (.iad 1 (.t 45) (.c (.i .i64 0))),so (.store 1 (.t 49) (.t 48))]))
 .skip)))))
 (.reg [mv 21 8,rg 22 (.bin .sub (.t 21) (.c (.i .i64 1))),mv 8 22])))
 (.norm false [0,1,6,7,8]))
def b63:AX:=
 (.seq
 (.reg [rg 4 (.mov (.c (.sl [] .nl))),rg 5 (.mov (.c (.sl [] .nl)))])
 (.seq
 (.reg [mv 9 0,rg 10 (.len (.t 9)),rg 11 (.mks 1 [(u32 0)] (.t 10) (.t 10)),mv 6 11])
 (.seq
 (.reg [mv 12 1,rg 13 (.len (.t 12)),rg 14 (.bin .add (.t 13) (.c (.i .i64 1))),rg 15 (.mks 1 [(u32 0)] (.t 14) (.t 14)),mv 7 15])
 (.seq
 (.seq
 (.reg [mv 16 0,rg 17 (.call 95 [(.t 16)]),rg 18 (.bin .sub (.t 17) (.c (.i .i64 1))),mv 8 18])
 (.lp 0 (.norm false [0,1,6,7,8]) l63_0 (.norm false [6,7])))
 (.seq
 (.reg [mv 50 6,rg 51 (.call 43 [(.t 50)]),mv 52 7,rg 53 (.call 43 [(.t 52)]),mv 4 51,mv 5 53])
 (.pre (.norm false [4,5]) .ret))))))
class CRef05 (T:Tbl):Prop extends CRef04 T where
 h122:T 122=some ⟨2,32,[.t 4],b122,none,false⟩
 h95:T 95=some ⟨1,19,[.t 2],b95,none,false⟩
 h96:T 96=some ⟨2,30,[],b96,(some [true,false]),false⟩
 h97:T 97=some ⟨2,37,[],b97,(some [true,false]),false⟩
 h63:T 63=some ⟨2,54,[.t 4,.t 5],b63,none,false⟩
section
variable{T:Tbl}[CRef05 T]{d:Option Nat}{st:St}
@[simp] theorem x122(xs:List AV):callX (orc T) T 122 xs d st=cP T 122 false xs d st:=zaa CRef05.h122
theorem f122(xs:List AV)(hn:xs.length=2):callF T 122 xs=retF [.t 4] false (evX (orc T) T 0 b122 ⟨argEnv xs,[],1⟩):=zac CRef05.h122 hn
@[simp] theorem x95(xs:List AV):callX (orc T) T 95 xs d st=cP T 95 false xs d st:=zaa CRef05.h95
theorem f95(xs:List AV)(hn:xs.length=1):callF T 95 xs=retF [.t 2] false (evX (orc T) T 0 b95 ⟨argEnv xs,[],1⟩):=zac CRef05.h95 hn
@[simp] theorem x96(xs:List AV):callX (orc T) T 96 xs d st=bL (frzM st.heap [true,false] xs) fun ys=>lentX ys (shareIds (refsM [true,false] xs) st.heap) (reach (shareIds (refsM [true,false] xs) st.heap) 40 (rootsM [true,false] xs) []) T 96 false d st:=zap CRef05.h96
theorem f96(xs:List AV)(hb:Heap)(hn:xs.length=2):callH T 96 xs hb=retH [] false hb.length (evX (orc T) T hb.length b96 ⟨argEnv xs,hb,hb.length+1⟩):=zax CRef05.h96 hn
@[simp] theorem x97(xs:List AV):callX (orc T) T 97 xs d st=bL (frzM st.heap [true,false] xs) fun ys=>lentX ys (shareIds (refsM [true,false] xs) st.heap) (reach (shareIds (refsM [true,false] xs) st.heap) 40 (rootsM [true,false] xs) []) T 97 false d st:=zap CRef05.h97
theorem f97(xs:List AV)(hb:Heap)(hn:xs.length=2):callH T 97 xs hb=retH [] false hb.length (evX (orc T) T hb.length b97 ⟨argEnv xs,hb,hb.length+1⟩):=zax CRef05.h97 hn
@[simp] theorem x63(xs:List AV):callX (orc T) T 63 xs d st=cP T 63 false xs d st:=zaa CRef05.h63
theorem f63(xs:List AV)(hn:xs.length=2):callF T 63 xs=retF [.t 4,.t 5] false (evX (orc T) T 0 b63 ⟨argEnv xs,[],1⟩):=zac CRef05.h63 hn
end
section
variable{T:Tbl}[CRef05 T]
def stDb(a:List UInt32)(y:Nat×Nat×List UInt32):St:=
 ⟨[(0,.bs (.bor 0) 0 1 0 a.length),(4,u32 y.2.1),(5,.i .i64 y.1)],[(.bor 0,⟨0,.own,1,u32s (y.2.2++a.drop y.1)⟩)],4⟩
theorem zzg{p m c c' w s x k:Nat}(h:m+p*c=2*s+k)(e:w+4294967296*c'=2*x+c):(m+p*w)+p*4294967296*c'=2*(s+p*x)+k:=by
 grind
end
section
variable{T:Tbl}
theorem zzh(a:List UInt32)(c0:Nat)(hl:a.length≤1000000):∀y:Nat×Nat×List UInt32,
  (y.1≤a.length∧y.2.1≤1∧y.2.2.length=y.1∧val y.2.2+4294967296^y.1*y.2.1=2*val (a.take y.1)+c0) →
  ∃r,(∃(c:Nat) (m:List UInt32),r=(Ex.n,(⟨[],[(.bor 0,⟨0,.own,1,u32s m⟩)],4⟩:St)) ∧
   m.length=a.length∧c≤1∧val m+4294967296^a.length*c=2*val a+c0)∧loopN T 1 0 (.norm false []) l96_0 (stDb a y)=some r:=by
 refine zas _ _ (fun y=>a.length-y.1) _ ?_
 rintro⟨i,c,m⟩ ⟨hi,hc,hm,hv⟩
 simp only at hi hc hm hv
 by_cases h0:i<a.length
 ·left
  have ha:a[i]? = some (a[i]'h0):=List.getElem?_eq_getElem h0
  have hg:=zdr (P:=[]) hm h0
  have hw:IntKind.wrap .i64 ((i:Int)+1)=((i+1:Nat):Int):=zab _ (by omega)
  have hlx:=zan (a[i]'h0)
  have hset:=zdc (P:=[]) (w32 ((a[i]'h0).toNat*2%4294967296+c)) hm h0
  simp at hg hset
  have m1:((a[i]'h0).toNat*2%4294967296+c)%4294967296=(a[i]'h0).toNat*2%4294967296+c:=Nat.mod_eq_of_lt (by omega)
  have m2:(a[i]'h0).toNat/2147483648<4294967296:=by omega
  have m3:(a[i]'h0).toNat*2%4294967296+c<4294967296:=by omega
  refine⟨(i+1,(a[i]'h0).toNat/2147483648,m++[w32 ((a[i]'h0).toNat*2%4294967296+c)]),⟨h0,by grind,by grind,?_⟩,by omega,?_⟩
  ·rw[zaj,zaf ha,Nat.pow_succ,hm]
   simp only[zai,za0,Nat.mul_zero,Nat.add_zero,zdt]
   exact zzg hv (by omega)
  ·simp -implicitDefEqProofs[l96_0,stDb,h0,hw,hg,hset,m1,m2,zbj _ _ _ m3]
 ·right
  have:i=a.length:=by omega
  subst this
  rw[List.take_of_length_le (Nat.le_refl a.length)]at hv
  refine⟨_,⟨c,m,rfl,hm,hc,hv⟩,?_,?_⟩<;>simp -implicitDefEqProofs[l96_0,stDb]
end
section
variable{T:Tbl}[CRef05 T]
theorem zfj(a:List UInt32)(v:Bool)(hl:a.length≤1000000) :
  ∃(c:Nat) (m:List UInt32),m.length=a.length∧c≤1∧val m+4294967296^a.length*c=2*val a+(if v then 1 else 0) ∧
   callH T 96 [.bs (.bor 0) 0 1 0 a.length,.b v] [(.bor 0,⟨0,.own,1,u32s a⟩)]=some (.tup [],[(.bor 0,⟨0,.own,1,u32s m⟩)]):=by
 obtain⟨_,⟨c,m,rfl,hm,hc,hv⟩,hr⟩:=zzh (T:=T) a (if v then 1 else 0) hl (0,(if v then 1 else 0),[]) ⟨Nat.zero_le _,by grind,rfl,by simp_all⟩
 refine⟨c,m,hm,hc,hv,?_⟩
 unfold stDb at hr
 rw[f96 _ _ rfl,b96]
 cases v
 ·simp at hr
  simp -implicitDefEqProofs[hr]
 ·simp at hr
  simp -implicitDefEqProofs[hr]
def stLs(a b:List UInt32)(y:Nat×Nat×List UInt32):St:=
 ⟨[(0,.bs (.bor 0) 0 1 0 a.length),(1,.sl (u32s b) .an),(4,u64 y.2.1),(5,.i .i64 y.1)],[(.bor 0,⟨0,.own,1,u32s (y.2.2++a.drop y.1)⟩)],4⟩
theorem zzi(a b:List UInt32)(hl:a.length≤1000000)(hb:b.length≤1000000):∀y:Nat×Nat×List UInt32,
  (y.1≤a.length∧y.2.1≤1∧y.2.2.length=y.1∧val y.2.2+val (b.take y.1)=val (a.take y.1)+4294967296^y.1*y.2.1) →
  ∃r,(∃(c:Nat) (m:List UInt32),r=(Ex.n,(⟨[],[(.bor 0,⟨0,.own,1,u32s m⟩)],4⟩:St)) ∧
   m.length=a.length∧c≤1∧val m+val (b.take a.length)=val a+4294967296^a.length*c)∧loopN T 1 0 (.norm false []) l97_0 (stLs a b y)=some r:=by
 refine zas _ _ (fun y=>a.length-y.1) _ ?_
 rintro⟨i,c,m⟩ ⟨hi,hc,hm,hv⟩
 simp only at hi hc hm hv
 by_cases h0:i<a.length
 ·left
  have ha:a[i]? = some (a[i]'h0):=List.getElem?_eq_getElem h0
  have hg:=zdr (P:=[]) hm h0
  have hw:IntKind.wrap .i64 ((i:Int)+1)=((i+1:Nat):Int):=zab _ (by omega)
  have cb:=zfw (T:=T) b i hb
  have la:=zan (a[i]'h0)
  have lb:=zt0 b i
  have e1:=zaf ha
  have e2:=zcu b i
  simp at hg
  have m1:(a[i]'h0).toNat%18446744073709551616=(a[i]'h0).toNat:=Nat.mod_eq_of_lt (by omega)
  have m2:atW b i%18446744073709551616=atW b i:=Nat.mod_eq_of_lt (by omega)
  have m3:(atW b i+c)%18446744073709551616=atW b i+c:=Nat.mod_eq_of_lt (by omega)
  have m4:((a[i]'h0).toNat+4294967296)%18446744073709551616=(a[i]'h0).toNat+4294967296:=Nat.mod_eq_of_lt (by omega)
  have fin:∀s d:Nat,d≤1→s<4294967296→s+(atW b i+c)=(a[i]'h0).toNat+4294967296*d →
    val (m++[w32 s])+val (b.take (i+1))=val (a.take (i+1))+4294967296^(i+1)*d:=by
   grind[zaj,zai,za0,zad]
  by_cases h1:(a[i]'h0).toNat<atW b i+c
  ·have hs:sub64 ((a[i]'h0).toNat+4294967296) (atW b i+c)=(a[i]'h0).toNat+4294967296-(atW b i+c):=zft (by omega) (by omega)
   have hset:=zdc (P:=[]) (w32 ((a[i]'h0).toNat+4294967296-(atW b i+c))) hm h0
   simp at hset
   refine⟨(i+1,1,m++[w32 ((a[i]'h0).toNat+4294967296-(atW b i+c))]),⟨h0,Nat.le_refl _,by grind,fin _ 1 (by omega) (by omega) (by omega)⟩,by omega,?_⟩
   simp -implicitDefEqProofs[l97_0,stLs,h0,cb,m1,m2,m3,m4,h1,hs,hg,hw,hset]
  ·have hs:sub64 (a[i]'h0).toNat (atW b i+c)=(a[i]'h0).toNat-(atW b i+c):=zft (by omega) (by omega)
   have hset:=zdc (P:=[]) (w32 ((a[i]'h0).toNat-(atW b i+c))) hm h0
   simp at hset
   refine⟨(i+1,0,m++[w32 ((a[i]'h0).toNat-(atW b i+c))]),⟨h0,Nat.zero_le _,by grind,fin _ 0 (by omega) (by omega) (by omega)⟩,by omega,?_⟩
   simp -implicitDefEqProofs[l97_0,stLs,h0,cb,m1,m2,m3,h1,hs,hg,hw,hset]
 ·right
  have:i=a.length:=by omega
  subst this
  rw[List.take_of_length_le (Nat.le_refl a.length)]at hv
  refine⟨_,⟨c,m,rfl,hm,hc,hv⟩,?_,?_⟩<;>simp -implicitDefEqProofs[l97_0,stLs]
theorem zql(a b:List UInt32)(hl:a.length≤1000000)(hb:b.length≤a.length)(hab:val b≤val a) :
  ∃m:List UInt32,m.length=a.length∧val m=val a-val b ∧
   callH T 97 [.bs (.bor 0) 0 1 0 a.length,.sl (u32s b) .an] [(.bor 0,⟨0,.own,1,u32s a⟩)]=some (.tup [],[(.bor 0,⟨0,.own,1,u32s m⟩)]):=by
 obtain⟨_,⟨c,m,rfl,hm,hc,hv⟩,hr⟩:=zzi (T:=T) a b hl (by omega) (0,0,[]) ⟨Nat.zero_le _,Nat.zero_le _,rfl,by simp⟩
 rw[List.take_of_length_le hb]at hv
 have hlo:=za2 m
 have hval:val m=val a-val b:=by
  rcases Nat.eq_zero_or_pos c with h1 | h1
  all_goals grind
 refine⟨m,hm,hval,?_⟩
 unfold stLs at hr
 rw[f97 _ _ rfl,b97]
 simp_all
def stHs(x i:Nat)(y:Nat):St:=⟨[(1,.i .i64 i),(5,u32 (x/2^y)),(6,.i .i64 y)],[],2⟩
end
section
variable{T:Tbl}
theorem zzj(x i:Nat)(_hi:i≤100000000)(hx:x<4294967296):∀y:Nat,y≤i%32 →
  ∃r,(r=(Ex.n,(⟨[(5,u32 (x/2^(i%32)))],[],2⟩:St)))∧loopN T 0 0 (.norm false [5]) l122_0 (stHs x i y)=some r:=by
 refine zas _ _ (fun y=>i%32-y) _ ?_
 intro j hj
 have hm:((i:Int).tmod 32)=((i%32:Nat):Int):=rfl
 by_cases h0:j<i%32
 ·left
  have hw:IntKind.wrap .i64 ((j:Int)+1)=((j+1:Nat):Int):=zab _ (by omega)
  have hd:x/2^j/2=x/2^(j+1):=by rw[Nat.div_div_eq_div_mul,Nat.pow_succ]
  have hd2:x/2^(j+1)%4294967296=x/2^(j+1):=Nat.mod_eq_of_lt (Nat.lt_of_le_of_lt (Nat.div_le_self _ _) hx)
  refine⟨j+1,h0,by omega,?_⟩
  have hj2:(j:Int)<(i:Int)%32:=by omega
  simp -implicitDefEqProofs[l122_0,stHs,hm,hw,hd,hd2,hj2]
 ·right
  have:j=i%32:=by omega
  subst this
  refine⟨_,rfl,?_,?_⟩<;>simp -implicitDefEqProofs[l122_0,stHs,hm]
end
section
variable{T:Tbl}[CRef05 T]
theorem zt4(a:List UInt32)(i:Nat)(hl:a.length≤1000000)(hi:i<32*a.length) :
  callF T 122 [.sl (u32s a) .an,.i .i64 i]=some (.b (decide (val a/2^i%2=1))):=by
 have h1:i/32<a.length:=by omega
 have ha:a[i/32]? = some (a[i/32]'h1):=List.getElem?_eq_getElem h1
 obtain⟨_,rfl,hr⟩:=zzj (T:=T) (a[i/32]'h1).toNat i (by omega) (zan _) 0 (Nat.zero_le _)
 unfold stHs at hr
 simp at hr
 have hq:IntKind.wrap .i64 ((i:Int)/32)=(i:Int)/32:=zab (i/32) (by omega)
 have hq1:((i:Int)/32).toNat=i/32:=by omega
 have hq2:(0:Int)≤(i:Int)/32:=by omega
 have hq3:(i:Int)/32<(a.length:Int):=by omega
 have hq4:¬ (a.length:Int)≤(i:Int)/32:=by omega
 have hb:=zun ha
 rw[f122 _ rfl,b122]
 simp -implicitDefEqProofs[hr,hq,hq1,hq2,hq3,hq4,h1,hb]
def stLn(a:List UInt32)(y:Nat):St:=⟨[(0,.sl (u32s a) .an),(3,.i .i64 y)],[],2⟩
theorem zzk(a:List UInt32)(hl:a.length≤1000000):∀y:Nat,(y≤32*a.length∧val a<2^y) →
  ∃r,(∃n:Nat,r=(Ex.n,(⟨[(3,.i .i64 n)],[],2⟩:St))∧n≤32*a.length∧val a<2^n)∧loopN T 0 0 (.norm false [3]) l95_0 (stLn a y)=some r:=by
 refine zas _ _ (fun y=>y) _ ?_
 rintro k ⟨hk,hv⟩
 by_cases h0:k=0
 ·right
  subst h0
  refine⟨_,⟨0,rfl,Nat.zero_le _,hv⟩,?_,?_⟩<;>simp -implicitDefEqProofs[l95_0,stLn]
 ·obtain⟨j,rfl⟩:∃j,k=j+1:=⟨k-1,by omega⟩
  have hw:IntKind.wrap .i64 (j:Int)=(j:Int):=zab _ (by omega)
  have hh:=zt4 (T:=T) a j hl (by omega)
  have hp:(0:Int)<(j:Int)+1:=by omega
  by_cases h1:val a/2^j%2=1
  ·right
   refine⟨_,⟨j+1,rfl,hk,hv⟩,?_,?_⟩<;>simp -implicitDefEqProofs[l95_0,stLn,hw,hh,hp,h1]
  ·left
   refine⟨j,⟨by omega,zuo hv (by omega)⟩,by omega,?_⟩
   simp -implicitDefEqProofs[l95_0,stLn,hw,hh,hp,h1]
theorem zt5(a:List UInt32)(hl:a.length≤1000000):∃n:Nat,n≤32*a.length∧val a<2^n∧callF T 95 [.sl (u32s a) .an]=some (.i .i64 n):=by
 obtain⟨_,⟨n,rfl,hn,hv⟩,hr⟩:=zzk (T:=T) a hl (32*a.length) ⟨Nat.le_refl _,by rw[←znt];exact za2 a⟩
 refine⟨n,hn,hv,?_⟩
 unfold stLn at hr
 simp at hr
 have hw:IntKind.wrap .i64 (32*(a.length:Int))=32*(a.length:Int):=by
  grind[zab]
 rw[f95 _ rfl,b95]
 simp -implicitDefEqProofs[hr,hw]
end
section
variable{T:Tbl}[CRef05 T]
theorem zwe(n:Nat)(h:n<32):binV .shl (u32 1) (.i .i64 (n:Int))=some (u32 (2^n)):=by
 have h1:¬ (n:Int)<0:=by omega
 have h2:2^n<4294967296:=by
  have:2^n<2^32:=Nat.pow_lt_pow_right (by decide) h
  simpa using this
 have h3:min n IntKind.u32.bits=n:=by
  have:IntKind.u32.bits=32:=rfl
  rw[this];omega
 have h4:((1:Nat):Int)*2^n=((2^n:Nat):Int):=by simp
 unfold u32
 simp only[binV,if_neg h1,Int.toNat_natCast,h3,h4,zda,Nat.mod_eq_of_lt h2]
theorem z4q{v b Q L:Nat}(hb:0<b)(hq:Q=v/2/b)(hr:L=v/2%b) :
  (b≤2*L+v%2→v/b=2*Q+1∧v%b=2*L+v%2-b)∧(2*L+v%2<b→v/b=2*Q∧v%b=2*L+v%2):=by
 have h1:=Nat.div_add_mod (v/2) b
 have h2:L<b:=by rw[hr];exact Nat.mod_lt _ hb
 rw[←hq,←hr]at h1
 have h3:v=b*(2*Q)+(2*L+v%2):=by
  rw[←Nat.mul_assoc,Nat.mul_comm b 2,Nat.mul_assoc]
  omega
 have ht:v%2<2:=Nat.mod_lt _ (by decide)
 clear h1 hq hr
 generalize v%2=t at *
 rw[h3]
 constructor
 ·intro h
  have e:b*(2*Q)+(2*L+t)=(2*L+t-b)+b*(2*Q+1):=by rw[Nat.mul_add,Nat.mul_one];omega
  rw[e,Nat.add_mul_div_left _ _ hb,Nat.add_mul_mod_self_left,Nat.div_eq_of_lt (by omega),Nat.mod_eq_of_lt (by omega)]
  omega
 ·intro h
  rw[Nat.add_comm,Nat.add_mul_div_left _ _ hb,Nat.add_mul_mod_self_left,Nat.div_eq_of_lt h,Nat.mod_eq_of_lt h]
  omega
theorem zzl{a:List UInt32}{x:UInt32}(h:a[0]? = some x)(hx:x.toNat+1<4294967296):val (a.set 0 (w32 (x.toNat+1)))=val a+1:=by
 cases a with
 | nil=>cases h
 | cons y l=>
  cases h
  simp only[List.set_cons_zero,zai,zad hx]
  omega
def stDv(a b:List UInt32)(y:Nat×List UInt32×List UInt32):St:=
 ⟨[(0,.sl (u32s a) .an),(1,.sl (u32s b) .an),(6,.bs (.loc 11) 1 1 0 a.length),(7,.bs (.loc 15) 2 1 0 (b.length+1)),(8,.i .i64 ((y.1:Int)-1))],[(.loc 11,⟨1,.own,1,u32s y.2.1⟩),(.loc 15,⟨2,.own,1,u32s y.2.2⟩)],4⟩
theorem zzm(a b:List UInt32)(ha:a.length≤100000)(hb:b.length≤100000)(h0b:0<val b):∀y:Nat×List UInt32×List UInt32,
  (y.1≤32*a.length∧y.2.1.length=a.length∧y.2.2.length=b.length+1∧val y.2.1=val a/2^y.1/val b∧val y.2.2=val a/2^y.1%val b) →
  ∃r,(∃Q L:List UInt32,r=(Ex.n,(⟨[(6,.bs (.loc 11) 1 1 0 a.length),(7,.bs (.loc 15) 2 1 0 (b.length+1))],[(.loc 11,⟨1,.own,1,u32s Q⟩),(.loc 15,⟨2,.own,1,u32s L⟩)],4⟩:St)) ∧
   Q.length=a.length∧L.length=b.length+1∧val Q=val a/val b∧val L=val a%val b)∧loopN T 0 0 (.norm false [6,7]) l63_0 (stDv a b y)=some r:=by
 refine zas _ _ (fun y=>y.1) _ ?_
 rintro⟨k,Q,L⟩ ⟨hk,hQ,hL,hq,hr⟩
 simp only at hk hQ hL hq hr
 cases k with
 | zero=>
  right
  rw[Nat.pow_zero,Nat.div_one]at hq hr
  refine⟨_,⟨Q,L,rfl,hQ,hL,hq,hr⟩,?_,?_⟩<;>simp -implicitDefEqProofs[l63_0,stDv]
 | succ j=>
  left
  have h1:j/32<a.length:=by omega
  have hag:a[j/32]? = some (a[j/32]'h1):=List.getElem?_eq_getElem h1
  have hbit:=zun hag
  have hw:IntKind.wrap .i64 ((j:Int)-1)=(j:Int)-1:=zab _ (by omega)
  have hsh:binV .shl (u32 1) (.i .i64 ((j:Int)%32))=some (u32 (2^(j%32))):=zwe (j%32) (Nat.mod_lt _ (by decide))
  have hm:((j:Int).tmod 32)=((j%32:Nat):Int):=rfl
  have hj0:IntKind.wrap .i64 ((j:Int)/32)=(j:Int)/32:=zab (j/32) (by omega)
  have hj1:((j:Int)/32).toNat=j/32:=by omega
  have hj2:(0:Int)≤(j:Int)/32:=by omega
  have hj3:(j:Int)/32<(a.length:Int):=by omega
  have hxl:=zan (a[j/32]'h1)
  obtain⟨cL,L2,hL2,hcL,hvL,hrL⟩:=zfj (T:=T) L (decide ((a[j/32]'h1).toNat/2^(j%32)%2=1)) (by omega)
  obtain⟨cQ,Q2,hQ2,hcQ,hvQ,hrQ⟩:=zfj (T:=T) Q false (by omega)
  have hcmp:=ze0 (T:=T) L2 b (by omega) (by omega)
  have hpq:(2^(j%32))≠0:=Nat.ne_of_gt (Nat.pow_pos (by decide))
  rw[hL]at hrL
  rw[hQ]at hrQ
  rw[hL]at hL2
  rw[hQ]at hQ2
  have htL:List.take (b.length+1) L2=L2:=List.take_of_length_le (by omega)
  have hres:∃Q3 L3:List UInt32,Q3.length=a.length∧L3.length=b.length+1∧val Q3=val a/2^j/val b∧val L3=val a/2^j%val b ∧
    (evX (orc T) T 0 l63_0 (stDv a b (j+1,Q,L))=some (Ex.n,stDv a b (j,Q3,L3))):=by
   have hvb:=za2 b
   have hva:=za2 a
   have hLb:val L<val b:=by rw[hr];exact Nat.mod_lt _ h0b
   have hv2:val a/2^(j+1)=val a/2^j/2:=by rw[Nat.pow_succ,Nat.div_div_eq_div_mul]
   rw[hv2]at hq hr
   have hlaw:=z4q h0b hq hr
   have hva2:val a/2^j≤val a:=Nat.div_le_self _ _
   have hq2:2*val Q≤val a/2^j:=by
    have h2:val a/2^j/2/val b≤val a/2^j/2:=Nat.div_le_self _ _
    omega
   have hL0:val L2=2*val L+val a/2^j%2:=by
    have hb2:(if decide ((a[j/32]'h1).toNat/2^(j%32)%2=1)=true then 1 else 0)=val a/2^j%2:=by
     rw[hbit]
     simp only[decide_eq_true_eq]
     split<;>omega
    rw[hb2,hL,Nat.pow_succ]at hvL
    have ht:val a/2^j%2<2:=Nat.mod_lt _ (by decide)
    generalize val a/2^j%2=t at *
    generalize 4294967296^b.length=p at *
    rcases Nat.eq_zero_or_pos cL with h | h
    ·rw[h,Nat.mul_zero,Nat.add_zero]at hvL
     exact hvL
    ·have:=Nat.mul_le_mul_left (p*4294967296) h
     generalize p*4294967296*cL=u at *
     omega
   have hQ0:val Q2=2*val Q:=by
    rw[hQ]at hvQ
    simp at hvQ
    generalize 4294967296^a.length=p at *
    rcases Nat.eq_zero_or_pos cQ with h | h
    ·rw[h,Nat.mul_zero,Nat.add_zero]at hvQ
     exact hvQ
    ·have:=Nat.mul_le_mul_left p h
     generalize p*cQ=u at *
     omega
   rw[←hL0]at hlaw
   by_cases hle:val b≤val L2
   ·have hc:(0:Int)≤cmpN (val L2) (val b):=by
     unfold cmpN
     split
     ·omega
     ·split<;>omega
    obtain⟨L3,hL3,hvL3,hrL3⟩:=zql (T:=T) L2 b (by omega) (by omega) hle
    rw[hL2]at hrL3 hL3
    have h0Q:0<Q2.length:=by omega
    have hQg:Q2[0]? = some (Q2[0]'h0Q):=List.getElem?_eq_getElem h0Q
    have hev:(Q2[0]'h0Q).toNat+1<4294967296:=by
     have:=zan (Q2[0]'h0Q)
     have hc:val Q2=(Q2[0]'h0Q).toNat+4294967296*val (Q2.drop 1):=by
      conv=>lhs;rw[←List.drop_zero (l:=Q2),List.drop_eq_getElem_cons h0Q,zai]
     omega
    have h0a:0<a.length:=by omega
    have hQg':=hQg
    have hev':=hev
    generalize hqq:(Q2[0]'h0Q).toNat=qq at hev'
    refine⟨Q2.set 0 (w32 ((Q2[0]'h0Q).toNat+1)),L3,by simp[hQ2],hL3,by rw[zzl hQg hev,hQ0,(hlaw.1 hle).1],by rw[hvL3,(hlaw.1 hle).2],?_⟩
    simp -implicitDefEqProofs[l63_0,stDv,hw,hsh,hm,hj0,hj1,hj2,hj3,h1,hrL,hrQ,hL2,htL,hcmp,hc,hrL3,hQ2,h0a]
   ·have hc:¬ (0:Int)≤cmpN (val L2) (val b):=by unfold cmpN;rw[if_pos (by omega)];decide
    have hlt:val L2<val b:=by omega
    refine⟨Q2,L2,hQ2,hL2,by rw[hQ0,(hlaw.2 hlt).1],by rw[(hlaw.2 hlt).2],?_⟩
    simp -implicitDefEqProofs[l63_0,stDv,hw,hsh,hm,hj0,hj1,hj2,hj3,h1,hrL,hrQ,hL2,htL,hcmp,hc]
  obtain⟨Q3,L3,e1,e2,e3,e4,e5⟩:=hres
  exact⟨(j,Q3,L3),⟨by simp only;omega,e1,e2,e3,e4⟩,Nat.lt_succ_self j,e5⟩
theorem zt6(a b:List UInt32)(ha:a.length≤100000)(hb:b.length≤100000)(h0b:0<val b) :
  callF T 63 [.sl (u32s a) .an,.sl (u32s b) .an]=some (.tup [.sl (u32s (ofN (val a/val b))) .an,.sl (u32s (ofN (val a%val b))) .an]):=by
 obtain⟨n,hn,hvn,hln⟩:=zt5 (T:=T) a (by omega)
 have hd0:val a/2^n=0:=Nat.div_eq_of_lt hvn
 obtain⟨_,⟨Q,L,rfl,hQ,hL,hq,hr⟩,hlp⟩:=zzm (T:=T) a b ha hb h0b (n,List.replicate a.length 0,List.replicate (b.length+1) 0)
  ⟨hn,by simp,by simp,by simp[zbr,hd0],by simp only[hd0,Nat.zero_mod];exact zbr _⟩
 have hw:IntKind.wrap .i64 ((n:Int)-1)=(n:Int)-1:=zab _ (by omega)
 have hw2:IntKind.wrap .i64 ((b.length:Int)+1)=((b.length+1:Nat):Int):=zab _ (by omega)
 have h1:(a.length:Int)≤4294967296:=by omega
 have h2:(b.length:Int)+1≤4294967296:=by omega
 have hn1:=zby (T:=T) Q (by omega)
 have hn2:=zby (T:=T) L (by omega)
 have t1:List.take a.length Q=Q:=List.take_of_length_le (by omega)
 have t2:List.take (b.length+1) L=L:=List.take_of_length_le (by omega)
 unfold stDv at hlp
 simp at hlp
 rw[f63 _ rfl,b63]
 simp -implicitDefEqProofs[hln,hw,hw2,h1,h2,hlp,hQ,hL,t1,t2,hn1,hn2,hq,hr]
end
def l2043_0:AX:=
 (.note
 (.seq
 (.seq
 (.reg [mv 6 3,rg 7 (.bin .gtr (.t 6) (.c (.i .i64 0))),mv 8 7,gd 9 8 true (.mov (.t 0)),gd 10 8 true (.mov (.t 3)),gd 11 8 true (.bin .sub (.t 10) (.c (.i .i64 1))),gd 12 8 true (.iad 1 (.t 9) (.t 11)),gd 13 8 true (.load none (.t 12)),gd 14 8 true (.bin .eql (.t 13) (.c (u32 0))),rg 15 (.pick (.t 8) (.t 14) (.c (.b false)))])
 (.cond (.t 15)
 .skip
 (.exit 0)))
 (.block 1
 (.reg [mv 16 3,rg 17 (.bin .sub (.t 16) (.c (.i .i64 1))),mv 3 17])))
 (.norm false [0,3]))
def b2043:AX:=
 (.seq
 (.reg [rg 2 (.mov (.c (.sl [] .nl)))])
 (.seq
 (.reg [mv 4 0,rg 5 (.len (.t 4)),mv 3 5])
 (.seq
 (.lp 0 (.norm false [0,3]) l2043_0 (.norm false [0,3]))
 (.seq
 (.reg [rg 18 (.bsl 1 [(u32 0)] 0 []),mv 19 0,mv 20 3,rg 21 (.slc 1 (.t 19) none (some (.t 20)) none),rg 22 (.app 1 (.t 18) (.t 21)),mv 2 22])
 (.pre (.norm false [2]) .ret)))))
def l105_0:AX:=
 (.note
 (.seq
 (.seq
 (.reg [mv 8 4,rg 9 (.bin .geq (.t 8) (.c (.i .i64 0)))])
 (.cond (.t 9)
 .skip
 (.exit 0)))
 (.seq
 (.block 1
 (.seq
 (.reg [mv 12 3,rg 13 (.bin .mul (.t 12) (.c (u64 4294967296))),mv 14 0,mv 15 4,rg 16 (.iad 1 (.t 14) (.t 15)),rg 17 (.load none (.t 16)),rg 18 (.conv .u64 (.t 17)),rg 19 (.bin .add (.t 13) (.t 18)),mv 3 19])
 (.seq
 (.reg [mv 20 0,mv 21 4,mv 22 3,rg 23 (.bin .quo (.t 22) (.c (u64 10))),rg 24 (.conv .u32 (.t 23)),rg 25 (.iad 1 (.t 20) (.t 21)),so (.store 1 (.t 25) (.t 24))])
 (.reg [mv 26 3,rg 27 (.bin .rem (.t 26) (.c (u64 10))),mv 3 27]))))
 (.reg [mv 10 4,rg 11 (.bin .sub (.t 10) (.c (.i .i64 1))),mv 4 11])))
 (.norm false [0,3,4]))
def b105:AX:=
 (.seq
 (.reg [rg 2 (.mov (.c (u64 0)))])
 (.seq
 (.reg [rg 3 (.mov (.c (u64 0)))])
 (.seq
 (.seq
 (.reg [mv 5 0,rg 6 (.len (.t 5)),rg 7 (.bin .sub (.t 6) (.c (.i .i64 1))),mv 4 7])
 (.lp 0 (.norm false [0,3,4]) l105_0 (.norm false [3])))
 (.seq
 (.reg [mv 28 3,mv 2 28])
 (.pre (.norm false [2]) .ret)))))
def l69_0:AX:=
 (.note
 (.seq
 (.seq
 (.reg [mv 8 3,rg 9 (.len (.t 8)),rg 10 (.bin .gtr (.t 9) (.c (.i .i64 0))),mv 11 10,gd 12 11 false (.mov (.t 4)),gd 13 11 false (.bin .eql (.t 12) (.c (.s []))),rg 14 (.pick (.t 11) (.c (.b true)) (.t 13))])
 (.cond (.t 14)
 .skip
 (.exit 0)))
 (.block 1
 (.seq
 (.reg [mv 15 3,rg 16 (.call 105 [(.t 15)]),mv 5 16])
 (.seq
 (.reg [mv 17 5,mv 18 5,rg 19 (.bin .add (.t 18) (.c (u64 1))),rg 20 (.slstr (.c (.s [48,49,50,51,52,53,54,55,56,57])) (some (.t 17)) (some (.t 19))),mv 21 4,rg 22 (.bin .add (.t 20) (.t 21)),mv 4 22])
 (.reg [mv 23 3,rg 24 (.call 2043 [(.t 23)]),mv 3 24])))))
 (.norm false [3,4]))
def b69:AX:=
 (.seq
 (.reg [rg 2 (.mov (.c (.s [])))])
 (.seq
 (.reg [mv 6 0,rg 7 (.call 2043 [(.t 6)]),mv 3 7])
 (.seq
 (.reg [rg 4 (.mov (.c (.s [])))])
 (.seq
 (.lp 0 (.norm false [3,4]) l69_0 (.norm false [4]))
 (.seq
 (.reg [mv 25 4,mv 2 25])
 (.pre (.norm false [2]) .ret))))))
class CRef07 (T:Tbl):Prop extends CRef05 T where
 h2043:T 2043=some ⟨1,23,[.t 2],b2043,(some [false]),false⟩
 h105:T 105=some ⟨1,29,[.t 2],b105,(some [true]),false⟩
 h69:T 69=some ⟨1,26,[.t 2],b69,none,false⟩
section
variable{T:Tbl}[CRef07 T]{d:Option Nat}{st:St}
@[simp] theorem x2043(xs:List AV):callX (orc T) T 2043 xs d st=bL (frzM st.heap [false] xs) fun ys=>lentX ys (shareIds (refsM [false] xs) st.heap) (reach (shareIds (refsM [false] xs) st.heap) 40 (rootsM [false] xs) []) T 2043 false d st:=zap CRef07.h2043
theorem f2043(xs:List AV)(hb:Heap)(hn:xs.length=1):callH T 2043 xs hb=retH [.t 2] false hb.length (evX (orc T) T hb.length b2043 ⟨argEnv xs,hb,hb.length+1⟩):=zax CRef07.h2043 hn
@[simp] theorem x105(xs:List AV):callX (orc T) T 105 xs d st=bL (frzM st.heap [true] xs) fun ys=>lentX ys (shareIds (refsM [true] xs) st.heap) (reach (shareIds (refsM [true] xs) st.heap) 40 (rootsM [true] xs) []) T 105 false d st:=zap CRef07.h105
theorem f105(xs:List AV)(hb:Heap)(hn:xs.length=1):callH T 105 xs hb=retH [.t 2] false hb.length (evX (orc T) T hb.length b105 ⟨argEnv xs,hb,hb.length+1⟩):=zax CRef07.h105 hn
@[simp] theorem x69(xs:List AV):callX (orc T) T 69 xs d st=cP T 69 false xs d st:=zaa CRef07.h69
theorem f69(xs:List AV)(hn:xs.length=1):callF T 69 xs=retF [.t 2] false (evX (orc T) T 0 b69 ⟨argEnv xs,[],1⟩):=zac CRef07.h69 hn
end
def b129:AX:=
 (.seq
 (.reg [rg 2 (.mov (.c (.i .i64 0)))])
 (.seq
 (.reg [mv 3 0,rg 4 (.call 68 [(.t 3)]),rg 5 (.lens (.t 4)),mv 2 5])
 (.pre (.norm false [2]) .ret)))
class CLenD (T:Tbl):Prop where
 h129:T 129=some ⟨1,6,[.t 2],b129,none,false⟩
section
variable{T:Tbl}[CLenD T]{d:Option Nat}{st:St}{xs:List AV}{ps:List Opd}{e:Env}{h:Heap}{ol:List Heap}
@[simp] theorem x129:callX (orc T) T 129 xs d st=cP T 129 false xs d st:=zaa CLenD.h129
theorem f129(xs:List AV)(hn:xs.length=1):callF T 129 xs=retF [.t 2] false (evX (orc T) T 0 b129 ⟨argEnv xs,[],1⟩):=zac CLenD.h129 hn
end
def b76:AX:=
 (.seq
 (.reg [rg 2 (.mov (.c (.i .i64 0)))])
 (.seq
 (.seq
 (.reg [mv 3 0])
 (.block 0
 (.seq
 (.seq
 (.reg [rg 5 (.bin .eql (.t 3) (.c (.i .i64 1))),mv 4 5])
 (.cond (.t 4)
 .skip
 (.seq
 (.reg [rg 6 (.bin .eql (.t 3) (.c (.i .i64 2))),mv 4 6])
 (.cond (.t 4)
 .skip
 (.seq
 (.reg [rg 7 (.bin .eql (.t 3) (.c (.i .i64 3))),mv 4 7])
 (.cond (.t 4)
 .skip
 (.seq
 (.reg [rg 8 (.bin .eql (.t 3) (.c (.i .i64 4))),mv 4 8])
 (.cond (.t 4)
 .skip
 (.reg [rg 9 (.bin .eql (.t 3) (.c (.i .i64 5))),mv 4 9])))))))))
 (.cond (.t 4)
 (.seq
 (.reg [rg 2 (.mov (.c (.i .i64 0)))])
 (.pre (.norm false [2]) .ret))
 (.seq
 (.seq
 (.reg [rg 11 (.bin .eql (.t 3) (.c (.i .i64 6))),mv 10 11])
 (.cond (.t 10)
 .skip
 (.reg [rg 12 (.bin .eql (.t 3) (.c (.i .i64 11))),mv 10 12])))
 (.cond (.t 10)
 (.seq
 (.reg [rg 2 (.mov (.c (.i .i64 1)))])
 (.pre (.norm false [2]) .ret))
 (.seq
 (.seq
 (.reg [rg 14 (.bin .eql (.t 3) (.c (.i .i64 7))),mv 13 14])
 (.cond (.t 13)
 .skip
 (.seq
 (.reg [rg 15 (.bin .eql (.t 3) (.c (.i .i64 8))),mv 13 15])
 (.cond (.t 13)
 .skip
 (.seq
 (.reg [rg 16 (.bin .eql (.t 3) (.c (.i .i64 9))),mv 13 16])
 (.cond (.t 13)
 .skip
 (.reg [rg 17 (.bin .eql (.t 3) (.c (.i .i64 10))),mv 13 17])))))))
 (.cond (.t 13)
 (.seq
 (.reg [rg 2 (.mov (.c (.i .i64 2)))])
 (.pre (.norm false [2]) .ret))
 .skip))))))))
 (.seq
 (.reg [rg 2 (.mov (.c (.i .i64 (-1))))])
 (.pre (.norm false [2]) .ret))))
def l74_0:AX:=
 (.note
 (.seq
 (.reg [rg 10 (.bin .lss (.t 9) (.t 8))])
 (.seq
 (.cond (.t 10)
 .skip
 (.exit 0))
 (.seq
 (.block 1
 (.seq
 (.reg [mv 11 9,rg 12 (.iad 3 (.t 7) (.t 9)),rg 13 (.load (some 3) (.t 12)),rg 5 (.alloc [(.i .i64 0),(.i .i64 0),(.sl [] .nl)]),mv 4 11,so (.store 3 (.t 5) (.t 13))])
 (.seq
 (.reg [rg 14 (.fad 0 (.t 5)),rg 15 (.load none (.t 14)),rg 16 (.call 76 [(.t 15)]),mv 6 16])
 (.seq
 (.seq
 (.reg [mv 17 6,rg 18 (.bin .lss (.t 17) (.c (.i .i64 0))),mv 19 18,gd 20 19 false (.mov (.t 6)),gd 21 19 false (.mov (.t 3)),gd 22 19 false (.bin .gtr (.t 20) (.t 21)),rg 23 (.pick (.t 19) (.c (.b true)) (.t 22))])
 (.cond (.t 23)
 (.seq
 (.reg [mv 24 4,mv 2 24])
 (.pre (.norm false [2]) .ret))
 .skip))
 (.reg [mv 25 3,mv 26 6,rg 27 (.bin .sub (.c (.i .i64 1)) (.t 26)),rg 28 (.bin .add (.t 25) (.t 27)),mv 3 28])))))
 (.reg [rg 29 (.bin .add (.t 9) (.c (.i .i64 1))),mv 9 29]))))
 (.norm false [0,3,7,8,9]))
def b74:AX:=
 (.seq
 (.reg [rg 2 (.mov (.c (.i .i64 0)))])
 (.seq
 (.reg [rg 3 (.mov (.c (.i .i64 0)))])
 (.seq
 (.seq
 (.reg [mv 7 0,rg 8 (.len (.t 7)),rg 9 (.mov (.c (.i .i64 0)))])
 (.lp 0 (.norm false [0,3,7,8,9]) l74_0 (.norm false [0,3])))
 (.seq
 (.seq
 (.reg [mv 30 3,rg 31 (.bin .neq (.t 30) (.c (.i .i64 1)))])
 (.cond (.t 31)
 (.seq
 (.reg [mv 32 0,rg 33 (.len (.t 32)),mv 2 33])
 (.pre (.norm false [2]) .ret))
 .skip))
 (.seq
 (.reg [rg 2 (.mov (.c (.i .i64 (-1))))])
 (.pre (.norm false [2]) .ret))))))
def b44:AX:=
 (.seq
 (.reg [rg 2 (.mov (.c (.b false)))])
 (.seq
 (.reg [mv 3 0,rg 4 (.call 74 [(.t 3)]),rg 5 (.bin .lss (.t 4) (.c (.i .i64 0))),mv 2 5])
 (.pre (.norm false [2]) .ret)))
def b108:AX:=
 (.seq
 (.reg [rg 4 (.mov (.c (.b false)))])
 (.seq
 (.reg [mv 5 0,rg 6 (.bin .geq (.t 5) (.c (.i .i64 0))),mv 7 6,gd 8 7 true (.mov (.t 0)),gd 9 7 true (.mov (.t 1)),gd 10 7 true (.bin .lss (.t 8) (.t 9)),rg 11 (.pick (.t 7) (.t 10) (.c (.b false))),mv 4 11])
 (.pre (.norm false [4]) .ret)))
def b107:AX:=
 (.seq
 (.reg [rg 2 (.mov (.c (.b false)))])
 (.seq
 (.reg [mv 3 0,rg 4 (.call 71 [(.t 3)]),rg 5 (.len (.t 4)),mv 6 0,rg 7 (.len (.t 6)),rg 8 (.bin .eql (.t 5) (.t 7)),mv 9 8,gd 10 9 true (.mov (.t 0)),gd 11 9 true (.call 129 [(.t 10)]),gd 12 9 true (.bin .leq (.t 11) (.c (.i .i64 60))),rg 13 (.pick (.t 9) (.t 12) (.c (.b false))),mv 2 13])
 (.pre (.norm false [2]) .ret)))
def b75:AX:=
 (.seq
 (.reg [rg 4 (.xop (.box 3) [(.t 0)]),rg 8 (.mov (.c (.b false)))])
 (.seq
 (.seq
 (.reg [rg 9 (.fad 0 (.t 4)),rg 10 (.load none (.t 9)),rg 11 (.bin .neq (.t 10) (.c (.i .i64 1))),mv 12 11,gd 13 12 true (.fad 2 (.t 4)),gd 14 12 true (.load none (.t 13)),gd 15 12 true (.len (.t 14)),gd 16 12 true (.bin .gtr (.t 15) (.c (.i .i64 0))),rg 17 (.pick (.t 12) (.t 16) (.c (.b false)))])
 (.cond (.t 17)
 (.seq
 (.reg [rg 8 (.mov (.c (.b false)))])
 (.pre (.norm false [8]) .ret))
 .skip))
 (.seq
 (.seq
 (.reg [rg 18 (.fad 0 (.t 4)),rg 19 (.load none (.t 18))])
 (.block 0
 (.seq
 (.reg [rg 21 (.bin .eql (.t 19) (.c (.i .i64 1))),mv 20 21])
 (.cond (.t 20)
 (.seq
 (.reg [rg 22 (.fad 1 (.t 4)),rg 23 (.load none (.t 22)),rg 24 (.bin .eql (.t 23) (.c (.i .i64 0))),mv 25 24,gd 26 25 true (.fad 2 (.t 4)),gd 27 25 true (.load none (.t 26)),gd 28 25 true (.call 107 [(.t 27)]),rg 29 (.pick (.t 25) (.t 28) (.c (.b false))),mv 8 29])
 (.pre (.norm false [8]) .ret))
 (.seq
 (.reg [rg 31 (.bin .eql (.t 19) (.c (.i .i64 3))),mv 30 31])
 (.cond (.t 30)
 (.seq
 (.reg [rg 32 (.fad 1 (.t 4)),rg 33 (.load none (.t 32)),mv 34 1,rg 35 (.call 108 [(.t 33),(.t 34)]),mv 8 35])
 (.pre (.norm false [8]) .ret))
 (.seq
 (.reg [rg 37 (.bin .eql (.t 19) (.c (.i .i64 4))),mv 36 37])
 (.cond (.t 36)
 (.seq
 (.reg [rg 38 (.fad 1 (.t 4)),rg 39 (.load none (.t 38)),mv 40 2,rg 41 (.call 108 [(.t 39),(.t 40)]),mv 8 41])
 (.pre (.norm false [8]) .ret))
 (.seq
 (.reg [rg 43 (.bin .eql (.t 19) (.c (.i .i64 5))),mv 42 43])
 (.cond (.t 42)
 (.seq
 (.reg [rg 44 (.fad 1 (.t 4)),rg 45 (.load none (.t 44)),mv 46 3,rg 47 (.call 108 [(.t 45),(.t 46)]),mv 8 47])
 (.pre (.norm false [8]) .ret))
 (.seq
 (.reg [rg 49 (.bin .eql (.t 19) (.c (.i .i64 11))),mv 48 49])
 (.cond (.t 48)
 (.seq
 (.reg [rg 50 (.fad 1 (.t 4)),rg 51 (.load none (.t 50)),rg 52 (.bin .geq (.t 51) (.c (.i .i64 (-8)))),mv 53 52,gd 54 53 true (.fad 1 (.t 4)),gd 55 53 true (.load none (.t 54)),gd 56 53 true (.bin .leq (.t 55) (.c (.i .i64 8))),rg 57 (.pick (.t 53) (.t 56) (.c (.b false))),mv 8 57])
 (.pre (.norm false [8]) .ret))
 .skip))))))))))))
 (.seq
 (.reg [rg 58 (.fad 1 (.t 4)),rg 59 (.load none (.t 58)),rg 60 (.bin .eql (.t 59) (.c (.i .i64 0))),mv 61 60,gd 62 61 true (.fad 0 (.t 4)),gd 63 61 true (.load none (.t 62)),gd 64 61 true (.call 76 [(.t 63)]),gd 65 61 true (.bin .geq (.t 64) (.c (.i .i64 0))),rg 66 (.pick (.t 61) (.t 65) (.c (.b false))),mv 8 66])
 (.pre (.norm false [8]) .ret)))))
def l46_0:AX:=
 (.note
 (.seq
 (.reg [rg 17 (.bin .lss (.t 16) (.t 15))])
 (.seq
 (.cond (.t 17)
 .skip
 (.exit 0))
 (.seq
 (.block 1
 (.seq
 (.reg [mv 18 16,rg 19 (.iad 3 (.t 14) (.t 16)),rg 20 (.load (some 3) (.t 19)),rg 11 (.alloc [(.i .i64 0),(.i .i64 0),(.sl [] .nl)]),mv 10 18,so (.store 3 (.t 11) (.t 20))])
 (.seq
 (.reg [mv 21 10,mv 22 9,rg 23 (.bin .eql (.t 21) (.t 22)),mv 24 23,gd 25 24 false (.load (some 3) (.t 11)),gd 26 24 false (.mov (.t 1)),gd 27 24 false (.mov (.t 2)),gd 28 24 false (.mov (.t 3)),gd 29 24 false (.call 75 [(.t 25),(.t 26),(.t 27),(.t 28)]),gd 30 24 false (.un .not (.t 29)),rg 31 (.pick (.t 24) (.c (.b true)) (.t 30))])
 (.cond (.t 31)
 (.seq
 (.reg [mv 32 10,mv 8 32])
 (.pre (.norm false [8]) .ret))
 .skip))))
 (.reg [rg 33 (.bin .add (.t 16) (.c (.i .i64 1))),mv 16 33]))))
 (.norm false [1,2,3,9,14,15,16]))
def b46:AX:=
 (.seq
 (.reg [rg 8 (.mov (.c (.i .i64 0)))])
 (.seq
 (.reg [mv 12 0,rg 13 (.call 74 [(.t 12)]),mv 9 13])
 (.seq
 (.seq
 (.reg [mv 14 0,rg 15 (.len (.t 14)),rg 16 (.mov (.c (.i .i64 0)))])
 (.lp 0 (.norm false [1,2,3,9,14,15,16]) l46_0 (.norm false [9])))
 (.seq
 (.reg [mv 34 9,mv 8 34])
 (.pre (.norm false [8]) .ret)))))
class CTree (T:Tbl):Prop where
 h76:T 76=some ⟨1,18,[.t 2],b76,none,false⟩
 h74:T 74=some ⟨1,34,[.t 2],b74,none,false⟩
 h44:T 44=some ⟨1,6,[.t 2],b44,none,false⟩
 h108:T 108=some ⟨2,12,[.t 4],b108,none,false⟩
 h107:T 107=some ⟨1,14,[.t 2],b107,none,false⟩
 h75:T 75=some ⟨4,67,[.t 8],b75,none,false⟩
 h46:T 46=some ⟨4,35,[.t 8],b46,none,false⟩
section
variable{T:Tbl}[CTree T]{d:Option Nat}{st:St}{xs:List AV}{ps:List Opd}{e:Env}{h:Heap}{ol:List Heap}
@[simp] theorem x76:callX (orc T) T 76 xs d st=cP T 76 false xs d st:=zaa CTree.h76
theorem f76(xs:List AV)(hn:xs.length=1):callF T 76 xs=retF [.t 2] false (evX (orc T) T 0 b76 ⟨argEnv xs,[],1⟩):=zac CTree.h76 hn
@[simp] theorem x74:callX (orc T) T 74 xs d st=cP T 74 false xs d st:=zaa CTree.h74
theorem f74(xs:List AV)(hn:xs.length=1):callF T 74 xs=retF [.t 2] false (evX (orc T) T 0 b74 ⟨argEnv xs,[],1⟩):=zac CTree.h74 hn
@[simp] theorem x44:callX (orc T) T 44 xs d st=cP T 44 false xs d st:=zaa CTree.h44
theorem f44(xs:List AV)(hn:xs.length=1):callF T 44 xs=retF [.t 2] false (evX (orc T) T 0 b44 ⟨argEnv xs,[],1⟩):=zac CTree.h44 hn
@[simp] theorem x108:callX (orc T) T 108 xs d st=cP T 108 false xs d st:=zaa CTree.h108
theorem f108(xs:List AV)(hn:xs.length=2):callF T 108 xs=retF [.t 4] false (evX (orc T) T 0 b108 ⟨argEnv xs,[],1⟩):=zac CTree.h108 hn
@[simp] theorem x107:callX (orc T) T 107 xs d st=cP T 107 false xs d st:=zaa CTree.h107
theorem f107(xs:List AV)(hn:xs.length=1):callF T 107 xs=retF [.t 2] false (evX (orc T) T 0 b107 ⟨argEnv xs,[],1⟩):=zac CTree.h107 hn
@[simp] theorem x75:callX (orc T) T 75 xs d st=cP T 75 false xs d st:=zaa CTree.h75
theorem f75(xs:List AV)(hn:xs.length=4):callF T 75 xs=retF [.t 8] false (evX (orc T) T 0 b75 ⟨argEnv xs,[],1⟩):=zac CTree.h75 hn
@[simp] theorem x46:callX (orc T) T 46 xs d st=cP T 46 false xs d st:=zaa CTree.h46
theorem f46(xs:List AV)(hn:xs.length=4):callF T 46 xs=retF [.t 8] false (evX (orc T) T 0 b46 ⟨argEnv xs,[],1⟩):=zac CTree.h46 hn
end
def l483_0:AX:=
 (.note
 (.seq
 (.reg [rg 9 (.bin .lss (.t 8) (.t 7))])
 (.seq
 (.cond (.t 9)
 .skip
 (.exit 0))
 (.seq
 (.block 1
 (.seq
 (.reg [rg 10 (.iad 3 (.t 6) (.t 8)),rg 11 (.load (some 3) (.t 10)),rg 5 (.alloc [(.i .i64 0),(.i .i64 0),(.sl [] .nl)]),so (.store 3 (.t 5) (.t 11))])
 (.drawT [mv 12 3,rg 13 (.fad 0 (.t 5)),rg 14 (.load none (.t 13)),rg 15 (.fad 1 (.t 5)),rg 16 (.load none (.t 15)),rg 17 (.fad 2 (.t 5)),rg 18 (.load none (.t 17)),rg 19 (.app 1 (.c (.sl [] .nl)) (.t 18)),rg 20 (.build [(.i .i64 0),(.i .i64 0),(.sl [] .nl)] [(0,1,(.t 14)),(1,1,(.t 16)),(2,1,(.t 19))]),rg 21 (.bsl 3 [(.i .i64 0),(.i .i64 0),(.sl [] .nl)] 1 [(0,(.t 20))])]
 [rg 22 (.app 3 (.t 12) (.t 21)),mv 3 22])))
 (.reg [rg 23 (.bin .add (.t 8) (.c (.i .i64 1))),mv 8 23]))))
 (.norm false [3,6,7,8]))
def b483:AX:=
 (.seq
 (.reg [rg 2 (.mov (.c (.sl [] .nl)))])
 (.seq
 (.note (.reg [rg 3 (.mov (.c (.sl [] .nl)))]) (.nil 3 3))
 (.seq
 (.seq
 (.reg [mv 6 0,rg 7 (.len (.t 6)),rg 8 (.mov (.c (.i .i64 0)))])
 (.lp 0 (.norm false [3,6,7,8]) l483_0 (.norm false [3])))
 (.seq
 (.reg [mv 24 3,mv 2 24])
 (.pre (.norm false [2]) .ret)))))
def l493_0:AX:=
 (.note
 (.seq
 (.reg [rg 12 (.bin .lss (.t 11) (.t 10))])
 (.seq
 (.cond (.t 12)
 .skip
 (.exit 0))
 (.seq
 (.block 1
 (.seq
 (.reg [rg 13 (.iad 2 (.t 9) (.t 11)),rg 14 (.load (some 2) (.t 13)),rg 5 (.alloc [(.s []),(.sl [] .nl)]),so (.store 2 (.t 5) (.t 14))])
 (.reg [mv 15 3,rg 16 (.fad 1 (.t 5)),rg 17 (.load none (.t 16)),rg 18 (.call 483 [(.t 17)]),rg 19 (.bsl 1 [(.sl [] .nl)] 1 [(0,(.t 18))]),rg 20 (.app 1 (.t 15) (.t 19)),mv 3 20])))
 (.reg [rg 21 (.bin .add (.t 11) (.c (.i .i64 1))),mv 11 21]))))
 (.norm false [1,3,9,10,11]))
def l493_1:AX:=
 (.note
 (.seq
 (.reg [rg 26 (.bin .lss (.t 25) (.t 24))])
 (.seq
 (.cond (.t 26)
 .skip
 (.exit 2))
 (.seq
 (.block 3
 (.seq
 (.reg [rg 27 (.iad 1 (.t 23) (.t 25)),rg 28 (.load none (.t 27)),mv 7 28])
 (.reg [mv 29 3,mv 30 7,rg 31 (.call 483 [(.t 30)]),rg 32 (.bsl 1 [(.sl [] .nl)] 1 [(0,(.t 31))]),rg 33 (.app 1 (.t 29) (.t 32)),mv 3 33])))
 (.reg [rg 34 (.bin .add (.t 25) (.c (.i .i64 1))),mv 25 34]))))
 (.norm false [3,23,24,25]))
def b493:AX:=
 (.seq
 (.reg [rg 1 (.xop (.box 2) [(.t 0)]),rg 2 (.mov (.c (.sl [] .nl)))])
 (.seq
 (.note (.reg [rg 3 (.mov (.c (.sl [] .nl)))]) (.nil 3 1))
 (.seq
 (.seq
 (.reg [rg 8 (.fad 0 (.t 1)),rg 9 (.load none (.t 8)),rg 10 (.len (.t 9)),rg 11 (.mov (.c (.i .i64 0)))])
 (.lp 0 (.norm false [1,3,9,10,11]) l493_0 (.norm false [1,3])))
 (.seq
 (.seq
 (.reg [rg 22 (.fad 1 (.t 1)),rg 23 (.load none (.t 22)),rg 24 (.len (.t 23)),rg 25 (.mov (.c (.i .i64 0)))])
 (.lp 2 (.norm false [3,23,24,25]) l493_1 (.norm false [3])))
 (.seq
 (.reg [mv 35 3,mv 2 35])
 (.pre (.norm false [2]) .ret))))))
def l491_0:AX:=
 (.note
 (.seq
 (.reg [rg 10 (.bin .lss (.t 9) (.t 8))])
 (.seq
 (.cond (.t 10)
 .skip
 (.exit 0))
 (.seq
 (.block 1
 (.seq
 (.reg [rg 11 (.iad 1 (.t 7) (.t 9)),rg 12 (.load none (.t 11)),mv 5 12])
 (.reg [mv 13 3,mv 14 5,rg 15 (.len (.t 14)),rg 16 (.bin .add (.t 13) (.t 15)),mv 3 16])))
 (.reg [rg 17 (.bin .add (.t 9) (.c (.i .i64 1))),mv 9 17]))))
 (.norm false [3,7,8,9]))
def b491:AX:=
 (.seq
 (.reg [rg 1 (.xop (.box 2) [(.t 0)]),rg 2 (.mov (.c (.i .i64 0)))])
 (.seq
 (.reg [rg 3 (.mov (.c (.i .i64 0)))])
 (.seq
 (.seq
 (.reg [rg 6 (.load (some 2) (.t 1)),rg 7 (.call 493 [(.t 6)]),rg 8 (.len (.t 7)),rg 9 (.mov (.c (.i .i64 0)))])
 (.lp 0 (.norm false [3,7,8,9]) l491_0 (.norm false [3])))
 (.seq
 (.reg [mv 18 3,mv 2 18])
 (.pre (.norm false [2]) .ret)))))
def l492_0:AX:=
 (.note
 (.seq
 (.reg [rg 20 (.bin .lss (.t 19) (.t 18))])
 (.seq
 (.cond (.t 20)
 .skip
 (.exit 2))
 (.seq
 (.block 3
 (.seq
 (.reg [mv 21 6,mv 22 3,mv 23 3,rg 24 (.len (.t 23)),rg 25 (.bin .sub (.t 24) (.c (.i .i64 1))),rg 26 (.iad 1 (.t 22) (.t 25)),rg 27 (.load none (.t 26)),rg 28 (.mm true [(.t 21),(.t 27)]),mv 6 28])
 (.reg [mv 29 3,mv 30 3,rg 31 (.len (.t 30)),rg 32 (.bin .sub (.t 31) (.c (.i .i64 1))),rg 33 (.slc 1 (.t 29) none (some (.t 32)) none),mv 3 33])))
 (.reg [rg 34 (.bin .add (.t 19) (.c (.i .i64 1))),mv 19 34]))))
 (.norm false [3,6,10,11,12,18,19]))
def l492_1:AX:=
 (.note
 (.seq
 (.reg [rg 13 (.bin .lss (.t 12) (.t 11))])
 (.seq
 (.cond (.t 13)
 .skip
 (.exit 0))
 (.seq
 (.block 1
 (.seq
 (.reg [rg 14 (.iad 3 (.t 10) (.t 12)),rg 15 (.load (some 3) (.t 14)),rg 5 (.alloc [(.i .i64 0),(.i .i64 0),(.sl [] .nl)]),so (.store 3 (.t 5) (.t 15))])
 (.seq
 (.reg [rg 6 (.mov (.c (.i .i64 0)))])
 (.seq
 (.seq
 (.reg [rg 16 (.fad 0 (.t 5)),rg 17 (.load none (.t 16)),rg 18 (.call 76 [(.t 17)]),rg 19 (.mov (.c (.i .i64 0)))])
 (.lp 2 (.norm false [3,6,10,11,12,18,19]) l492_0 (.norm false [3,6,10,11,12])))
 (.reg [mv 35 3,mv 36 6,rg 37 (.bin .add (.t 36) (.c (.i .i64 1))),rg 38 (.bsl 1 [(.i .i64 0)] 1 [(0,(.t 37))]),rg 39 (.app 1 (.t 35) (.t 38)),mv 3 39])))))
 (.reg [rg 40 (.bin .add (.t 12) (.c (.i .i64 1))),mv 12 40]))))
 (.norm false [3,10,11,12]))
def b492:AX:=
 (.seq
 (.reg [rg 2 (.mov (.c (.i .i64 0)))])
 (.seq
 (.seq
 (.reg [mv 7 0,rg 8 (.call 44 [(.t 7)]),rg 9 (.un .not (.t 8))])
 (.cond (.t 9)
 (.seq
 (.reg [rg 2 (.mov (.c (.i .i64 0)))])
 (.pre (.norm false [2]) .ret))
 .skip))
 (.seq
 (.note (.reg [rg 3 (.mov (.c (.sl [] .nl)))]) (.nil 3 1))
 (.seq
 (.seq
 (.reg [mv 10 0,rg 11 (.len (.t 10)),rg 12 (.mov (.c (.i .i64 0)))])
 (.lp 0 (.norm false [3,10,11,12]) l492_1 (.norm false [3])))
 (.seq
 (.reg [mv 41 3,rg 42 (.iad 1 (.t 41) (.c (.i .i64 0))),rg 43 (.load none (.t 42)),mv 2 43])
 (.pre (.norm false [2]) .ret))))))
class CTree2 (T:Tbl):Prop where
 h483:T 483=some ⟨1,25,[.t 2],b483,none,false⟩
 h493:T 493=some ⟨1,36,[.t 2],b493,none,false⟩
 h491:T 491=some ⟨1,19,[.t 2],b491,none,false⟩
 h492:T 492=some ⟨1,44,[.t 2],b492,none,false⟩
section
variable{T:Tbl}[CTree2 T]{d:Option Nat}{st:St}{xs:List AV}{ps:List Opd}{e:Env}{h:Heap}{ol:List Heap}
@[simp] theorem x483:callX (orc T) T 483 xs d st=cP T 483 false xs d st:=zaa CTree2.h483
theorem f483(xs:List AV)(hn:xs.length=1):callF T 483 xs=retF [.t 2] false (evX (orc T) T 0 b483 ⟨argEnv xs,[],1⟩):=zac CTree2.h483 hn
@[simp] theorem x493:callX (orc T) T 493 xs d st=cP T 493 false xs d st:=zaa CTree2.h493
theorem f493(xs:List AV)(hn:xs.length=1):callF T 493 xs=retF [.t 2] false (evX (orc T) T 0 b493 ⟨argEnv xs,[],1⟩):=zac CTree2.h493 hn
@[simp] theorem x491:callX (orc T) T 491 xs d st=cP T 491 false xs d st:=zaa CTree2.h491
theorem f491(xs:List AV)(hn:xs.length=1):callF T 491 xs=retF [.t 2] false (evX (orc T) T 0 b491 ⟨argEnv xs,[],1⟩):=zac CTree2.h491 hn
@[simp] theorem x492:callX (orc T) T 492 xs d st=cP T 492 false xs d st:=zaa CTree2.h492
theorem f492(xs:List AV)(hn:xs.length=1):callF T 492 xs=retF [.t 2] false (evX (orc T) T 0 b492 ⟨argEnv xs,[],1⟩):=zac CTree2.h492 hn
end
def b113:AX:=
 (.seq
 (.reg [rg 2 (.mov (.c (.i .i64 0)))])
 (.seq
 (.seq
 (.reg [mv 3 0,rg 4 (.bin .geq (.t 3) (.c (.i .i64 1))),mv 5 4,gd 6 5 true (.mov (.t 0)),gd 7 5 true (.bin .leq (.t 6) (.c (.i .i64 5))),rg 8 (.pick (.t 5) (.t 7) (.c (.b false)))])
 (.cond (.t 8)
 (.seq
 (.reg [rg 2 (.mov (.c (.i .i64 0)))])
 (.pre (.norm false [2]) .ret))
 .skip))
 (.seq
 (.seq
 (.reg [mv 9 0,rg 10 (.bin .eql (.t 9) (.c (.i .i64 6))),mv 11 10,gd 12 11 false (.mov (.t 0)),gd 13 11 false (.bin .eql (.t 12) (.c (.i .i64 11))),rg 14 (.pick (.t 11) (.c (.b true)) (.t 13))])
 (.cond (.t 14)
 (.seq
 (.reg [rg 2 (.mov (.c (.i .i64 1)))])
 (.pre (.norm false [2]) .ret))
 .skip))
 (.seq
 (.seq
 (.reg [mv 15 0,rg 16 (.bin .geq (.t 15) (.c (.i .i64 7))),mv 17 16,gd 18 17 true (.mov (.t 0)),gd 19 17 true (.bin .leq (.t 18) (.c (.i .i64 10))),rg 20 (.pick (.t 17) (.t 19) (.c (.b false)))])
 (.cond (.t 20)
 (.seq
 (.reg [rg 2 (.mov (.c (.i .i64 2)))])
 (.pre (.norm false [2]) .ret))
 .skip))
 (.seq
 (.reg [rg 2 (.mov (.c (.i .i64 (-1))))])
 (.pre (.norm false [2]) .ret))))))
def l80_0:AX:=
 (.note
 (.seq
 (.seq
 (.reg [mv 6 4,mv 7 0,rg 8 (.len (.t 7)),rg 9 (.bin .lss (.t 6) (.t 8))])
 (.cond (.t 9)
 .skip
 (.exit 0)))
 (.seq
 (.block 1
 (.seq
 (.reg [mv 12 0,mv 13 4,rg 14 (.iad 3 (.t 12) (.t 13)),rg 15 (.fad 0 (.t 14)),rg 16 (.load none (.t 15)),rg 17 (.call 113 [(.t 16)]),mv 5 17])
 (.seq
 (.seq
 (.reg [mv 18 5,rg 19 (.bin .lss (.t 18) (.c (.i .i64 0))),mv 20 19,gd 21 20 false (.mov (.t 3)),gd 22 20 false (.mov (.t 5)),gd 23 20 false (.bin .lss (.t 21) (.t 22)),rg 24 (.pick (.t 20) (.c (.b true)) (.t 23))])
 (.cond (.t 24)
 (.seq
 (.reg [mv 25 4,mv 2 25])
 (.pre (.norm false [2]) .ret))
 .skip))
 (.reg [mv 26 3,mv 27 5,rg 28 (.bin .sub (.t 26) (.t 27)),rg 29 (.bin .add (.t 28) (.c (.i .i64 1))),mv 3 29]))))
 (.reg [mv 10 4,rg 11 (.bin .add (.t 10) (.c (.i .i64 1))),mv 4 11])))
 (.norm false [0,3,4]))
def b80:AX:=
 (.seq
 (.reg [rg 2 (.mov (.c (.i .i64 0)))])
 (.seq
 (.reg [rg 3 (.mov (.c (.i .i64 0)))])
 (.seq
 (.seq
 (.reg [rg 4 (.mov (.c (.i .i64 0)))])
 (.lp 0 (.norm false [0,3,4]) l80_0 (.norm false [0,3])))
 (.seq
 (.seq
 (.reg [mv 30 3,rg 31 (.bin .eql (.t 30) (.c (.i .i64 1)))])
 (.cond (.t 31)
 (.seq
 (.reg [rg 2 (.mov (.c (.i .i64 (-1))))])
 (.pre (.norm false [2]) .ret))
 .skip))
 (.seq
 (.reg [mv 32 0,rg 33 (.len (.t 32)),mv 2 33])
 (.pre (.norm false [2]) .ret))))))
def l10_0:AX:=
 (.note
 (.seq
 (.seq
 (.reg [mv 8 7,mv 9 0,rg 10 (.len (.t 9)),rg 11 (.bin .lss (.t 8) (.t 10)),mv 12 11,gd 13 12 true (.mov (.t 7)),gd 14 12 true (.mov (.t 1)),gd 15 12 true (.bin .lss (.t 13) (.t 14)),rg 16 (.pick (.t 12) (.t 15) (.c (.b false)))])
 (.cond (.t 16)
 .skip
 (.exit 0)))
 (.seq
 (.block 1
 (.seq
 (.reg [mv 19 0,mv 20 7,rg 21 (.iad 3 (.t 19) (.t 20)),rg 22 (.fad 2 (.t 21)),rg 23 (.load none (.t 22)),rg 24 (.len (.t 23)),mv 25 2,rg 26 (.bin .gtr (.t 24) (.t 25))])
 (.cond (.t 26)
 (.seq
 (.reg [rg 6 (.mov (.c (.b true)))])
 (.pre (.norm false [6]) .ret))
 .skip)))
 (.reg [mv 17 7,rg 18 (.bin .add (.t 17) (.c (.i .i64 1))),mv 7 18])))
 (.norm false [0,1,2,7]))
def b10:AX:=
 (.seq
 (.reg [rg 6 (.mov (.c (.b false)))])
 (.seq
 (.seq
 (.reg [rg 7 (.mov (.c (.i .i64 0)))])
 (.lp 0 (.norm false [0,1,2,7]) l10_0 (.norm false [0,1])))
 (.seq
 (.reg [mv 27 0,rg 28 (.len (.t 27)),mv 29 1,rg 30 (.bin .gtr (.t 28) (.t 29)),mv 6 30])
 (.pre (.norm false [6]) .ret))))
def b79:AX:=
 (.seq
 (.reg [rg 4 (.xop (.box 3) [(.t 0)]),rg 8 (.mov (.c (.b false)))])
 (.seq
 (.seq
 (.reg [rg 9 (.fad 0 (.t 4)),rg 10 (.load none (.t 9)),rg 11 (.bin .eql (.t 10) (.c (.i .i64 1)))])
 (.cond (.t 11)
 (.seq
 (.drawT [rg 12 (.fad 1 (.t 4)),rg 13 (.load none (.t 12)),rg 14 (.bin .eql (.t 13) (.c (.i .i64 0))),mv 15 14,gd 16 15 true (.fad 2 (.t 4)),gd 17 15 true (.load none (.t 16)),gd 18 15 true (.call 43 [(.t 17)]),gd 19 15 true (.fad 2 (.t 4)),gd 20 15 true (.load none (.t 19))]
 [gd 21 15 true (.call 54 [(.t 18),(.t 20)]),rg 22 (.pick (.t 15) (.t 21) (.c (.b false))),mv 23 22,gd 24 23 true (.fad 2 (.t 4)),gd 25 23 true (.load none (.t 24)),gd 26 23 true (.call 69 [(.t 25)]),gd 27 23 true (.lens (.t 26)),gd 28 23 true (.bin .leq (.t 27) (.c (.i .i64 60))),rg 29 (.pick (.t 23) (.t 28) (.c (.b false))),mv 8 29])
 (.pre (.norm false [8]) .ret))
 .skip))
 (.seq
 (.seq
 (.reg [rg 30 (.fad 2 (.t 4)),rg 31 (.load none (.t 30)),rg 32 (.len (.t 31)),rg 33 (.bin .gtr (.t 32) (.c (.i .i64 0))),mv 34 33,gd 35 34 false (.fad 0 (.t 4)),gd 36 34 false (.load none (.t 35)),gd 37 34 false (.bin .lss (.t 36) (.c (.i .i64 1))),rg 38 (.pick (.t 34) (.c (.b true)) (.t 37)),mv 39 38,gd 40 39 false (.fad 0 (.t 4)),gd 41 39 false (.load none (.t 40)),gd 42 39 false (.bin .gtr (.t 41) (.c (.i .i64 11))),rg 43 (.pick (.t 39) (.c (.b true)) (.t 42))])
 (.cond (.t 43)
 (.seq
 (.reg [rg 8 (.mov (.c (.b false)))])
 (.pre (.norm false [8]) .ret))
 .skip))
 (.seq
 (.seq
 (.reg [rg 44 (.fad 0 (.t 4)),rg 45 (.load none (.t 44)),rg 46 (.bin .eql (.t 45) (.c (.i .i64 3)))])
 (.cond (.t 46)
 (.seq
 (.reg [rg 47 (.fad 1 (.t 4)),rg 48 (.load none (.t 47)),rg 49 (.bin .geq (.t 48) (.c (.i .i64 0))),mv 50 49,gd 51 50 true (.fad 1 (.t 4)),gd 52 50 true (.load none (.t 51)),gd 53 50 true (.mov (.t 1)),gd 54 50 true (.bin .lss (.t 52) (.t 53)),rg 55 (.pick (.t 50) (.t 54) (.c (.b false))),mv 8 55])
 (.pre (.norm false [8]) .ret))
 .skip))
 (.seq
 (.seq
 (.reg [rg 56 (.fad 0 (.t 4)),rg 57 (.load none (.t 56)),rg 58 (.bin .eql (.t 57) (.c (.i .i64 4)))])
 (.cond (.t 58)
 (.seq
 (.reg [rg 59 (.fad 1 (.t 4)),rg 60 (.load none (.t 59)),rg 61 (.bin .geq (.t 60) (.c (.i .i64 0))),mv 62 61,gd 63 62 true (.fad 1 (.t 4)),gd 64 62 true (.load none (.t 63)),gd 65 62 true (.mov (.t 2)),gd 66 62 true (.bin .lss (.t 64) (.t 65)),rg 67 (.pick (.t 62) (.t 66) (.c (.b false))),mv 8 67])
 (.pre (.norm false [8]) .ret))
 .skip))
 (.seq
 (.seq
 (.reg [rg 68 (.fad 0 (.t 4)),rg 69 (.load none (.t 68)),rg 70 (.bin .eql (.t 69) (.c (.i .i64 5)))])
 (.cond (.t 70)
 (.seq
 (.reg [rg 71 (.fad 1 (.t 4)),rg 72 (.load none (.t 71)),rg 73 (.bin .geq (.t 72) (.c (.i .i64 0))),mv 74 73,gd 75 74 true (.fad 1 (.t 4)),gd 76 74 true (.load none (.t 75)),gd 77 74 true (.mov (.t 3)),gd 78 74 true (.bin .lss (.t 76) (.t 77)),rg 79 (.pick (.t 74) (.t 78) (.c (.b false))),mv 8 79])
 (.pre (.norm false [8]) .ret))
 .skip))
 (.seq
 (.seq
 (.reg [rg 80 (.fad 0 (.t 4)),rg 81 (.load none (.t 80)),rg 82 (.bin .eql (.t 81) (.c (.i .i64 11)))])
 (.cond (.t 82)
 (.seq
 (.reg [rg 83 (.fad 1 (.t 4)),rg 84 (.load none (.t 83)),rg 85 (.bin .geq (.t 84) (.c (.i .i64 (-8)))),mv 86 85,gd 87 86 true (.fad 1 (.t 4)),gd 88 86 true (.load none (.t 87)),gd 89 86 true (.bin .leq (.t 88) (.c (.i .i64 8))),rg 90 (.pick (.t 86) (.t 89) (.c (.b false))),mv 8 90])
 (.pre (.norm false [8]) .ret))
 .skip))
 (.seq
 (.reg [rg 91 (.fad 1 (.t 4)),rg 92 (.load none (.t 91)),rg 93 (.bin .eql (.t 92) (.c (.i .i64 0))),mv 8 93])
 (.pre (.norm false [8]) .ret)))))))))
def l50_0:AX:=
 (.note
 (.seq
 (.seq
 (.reg [mv 13 10,mv 14 0,rg 15 (.len (.t 14)),rg 16 (.bin .lss (.t 13) (.t 15))])
 (.cond (.t 16)
 .skip
 (.exit 0)))
 (.seq
 (.block 1
 (.seq
 (.reg [mv 19 10,mv 20 9,rg 21 (.bin .eql (.t 19) (.t 20)),mv 22 21,gd 23 22 false (.mov (.t 0)),gd 24 22 false (.mov (.t 10)),gd 25 22 false (.iad 3 (.t 23) (.t 24)),gd 26 22 false (.load (some 3) (.t 25)),gd 27 22 false (.mov (.t 1)),gd 28 22 false (.mov (.t 2)),gd 29 22 false (.mov (.t 3)),gd 30 22 false (.call 79 [(.t 26),(.t 27),(.t 28),(.t 29)]),gd 31 22 false (.un .not (.t 30)),rg 32 (.pick (.t 22) (.c (.b true)) (.t 31))])
 (.cond (.t 32)
 (.seq
 (.reg [mv 33 10,mv 8 33])
 (.pre (.norm false [8]) .ret))
 .skip)))
 (.reg [mv 17 10,rg 18 (.bin .add (.t 17) (.c (.i .i64 1))),mv 10 18])))
 (.norm false [0,1,2,3,9,10]))
def b50:AX:=
 (.seq
 (.reg [rg 8 (.mov (.c (.i .i64 0)))])
 (.seq
 (.reg [mv 11 0,rg 12 (.call 80 [(.t 11)]),mv 9 12])
 (.seq
 (.seq
 (.reg [rg 10 (.mov (.c (.i .i64 0)))])
 (.lp 0 (.norm false [0,1,2,3,9,10]) l50_0 (.norm false [9])))
 (.seq
 (.reg [mv 34 9,mv 8 34])
 (.pre (.norm false [8]) .ret)))))
class CRef17 (T:Tbl):Prop where
 h113:T 113=some ⟨1,21,[.t 2],b113,none,false⟩
 h80:T 80=some ⟨1,34,[.t 2],b80,none,false⟩
 h10:T 10=some ⟨3,31,[.t 6],b10,none,false⟩
 h79:T 79=some ⟨4,94,[.t 8],b79,none,false⟩
 h50:T 50=some ⟨4,35,[.t 8],b50,none,false⟩
section
variable{T:Tbl}[CRef17 T]{d:Option Nat}{st:St}{xs:List AV}{ps:List Opd}{e:Env}{h:Heap}{ol:List Heap}
@[simp] theorem x113:callX (orc T) T 113 xs d st=cP T 113 false xs d st:=zaa CRef17.h113
theorem f113(xs:List AV)(hn:xs.length=1):callF T 113 xs=retF [.t 2] false (evX (orc T) T 0 b113 ⟨argEnv xs,[],1⟩):=zac CRef17.h113 hn
@[simp] theorem x80:callX (orc T) T 80 xs d st=cP T 80 false xs d st:=zaa CRef17.h80
theorem f80(xs:List AV)(hn:xs.length=1):callF T 80 xs=retF [.t 2] false (evX (orc T) T 0 b80 ⟨argEnv xs,[],1⟩):=zac CRef17.h80 hn
@[simp] theorem x10:callX (orc T) T 10 xs d st=cP T 10 false xs d st:=zaa CRef17.h10
theorem f10(xs:List AV)(hn:xs.length=3):callF T 10 xs=retF [.t 6] false (evX (orc T) T 0 b10 ⟨argEnv xs,[],1⟩):=zac CRef17.h10 hn
@[simp] theorem x79:callX (orc T) T 79 xs d st=cP T 79 false xs d st:=zaa CRef17.h79
theorem f79(xs:List AV)(hn:xs.length=4):callF T 79 xs=retF [.t 8] false (evX (orc T) T 0 b79 ⟨argEnv xs,[],1⟩):=zac CRef17.h79 hn
@[simp] theorem x50:callX (orc T) T 50 xs d st=cP T 50 false xs d st:=zaa CRef17.h50
theorem f50(xs:List AV)(hn:xs.length=4):callF T 50 xs=retF [.t 8] false (evX (orc T) T 0 b50 ⟨argEnv xs,[],1⟩):=zac CRef17.h50 hn
end
def l13_0:AX:=
 (.note
 (.seq
 (.seq
 (.reg [mv 5 4,mv 6 0,rg 7 (.len (.t 6)),rg 8 (.bin .lss (.t 5) (.t 7))])
 (.cond (.t 8)
 .skip
 (.exit 0)))
 (.seq
 (.block 1
 (.drawT [mv 11 3,mv 12 0,mv 13 4,rg 14 (.iad 3 (.t 12) (.t 13)),rg 15 (.fad 0 (.t 14)),rg 16 (.load none (.t 15)),mv 17 0,mv 18 4,rg 19 (.iad 3 (.t 17) (.t 18)),rg 20 (.fad 1 (.t 19)),rg 21 (.load none (.t 20)),mv 22 0,mv 23 4,rg 24 (.iad 3 (.t 22) (.t 23)),rg 25 (.fad 2 (.t 24)),rg 26 (.load none (.t 25)),rg 27 (.build [(.i .i64 0),(.i .i64 0),(.sl [] .nl)] [(0,1,(.t 16)),(1,1,(.t 21)),(2,1,(.t 26))]),rg 28 (.bsl 3 [(.i .i64 0),(.i .i64 0),(.sl [] .nl)] 1 [(0,(.t 27))])]
 [rg 29 (.app 3 (.t 11) (.t 28)),mv 3 29]))
 (.reg [mv 9 4,rg 10 (.bin .add (.t 9) (.c (.i .i64 1))),mv 4 10])))
 (.norm false [0,3,4]))
def b13:AX:=
 (.seq
 (.reg [rg 2 (.mov (.c (.sl [] .nl)))])
 (.seq
 (.note (.reg [rg 3 (.mov (.c (.sl [] .nl)))]) (.nil 3 3))
 (.seq
 (.seq
 (.reg [rg 4 (.mov (.c (.i .i64 0)))])
 (.lp 0 (.norm false [0,3,4]) l13_0 (.norm false [3])))
 (.seq
 (.reg [mv 30 3,mv 2 30])
 (.pre (.norm false [2]) .ret)))))
class CLaw17 (T:Tbl):Prop where
 h13:T 13=some ⟨1,31,[.t 2],b13,none,false⟩
section
variable{T:Tbl}[CLaw17 T]{d:Option Nat}{st:St}{xs:List AV}{ps:List Opd}{e:Env}{h:Heap}{ol:List Heap}
@[simp] theorem x13:callX (orc T) T 13 xs d st=cP T 13 false xs d st:=zaa CLaw17.h13
theorem f13(xs:List AV)(hn:xs.length=1):callF T 13 xs=retF [.t 2] false (evX (orc T) T 0 b13 ⟨argEnv xs,[],1⟩):=zac CLaw17.h13 hn
end
def b485:AX:=
 (.seq
 (.reg [rg 3 (.xop (.box 2) [(.t 0)]),rg 6 (.mov (.c (.b false)))])
 (.seq
 (.reg [mv 7 1,rg 8 (.bin .geq (.t 7) (.c (.i .i64 1))),mv 9 8,gd 10 9 true (.mov (.t 1)),gd 11 9 true (.bin .leq (.t 10) (.c (.i .i64 6))),rg 12 (.pick (.t 9) (.t 11) (.c (.b false))),mv 13 12,gd 14 13 true (.mov (.t 2)),gd 15 13 true (.bin .geq (.t 14) (.c (.i .i64 0))),rg 16 (.pick (.t 13) (.t 15) (.c (.b false))),mv 17 16,gd 18 17 true (.mov (.t 2)),gd 19 17 true (.bin .leq (.t 18) (.c (.i .i64 6))),rg 20 (.pick (.t 17) (.t 19) (.c (.b false))),mv 21 20,gd 22 21 true (.fad 1 (.t 3)),gd 23 21 true (.load none (.t 22)),gd 24 21 true (.len (.t 23)),gd 25 21 true (.mov (.t 1)),gd 26 21 true (.bin .eql (.t 24) (.t 25)),rg 27 (.pick (.t 21) (.t 26) (.c (.b false))),mv 28 27,gd 29 28 true (.fad 0 (.t 3)),gd 30 28 true (.load none (.t 29)),gd 31 28 true (.len (.t 30)),gd 32 28 true (.bin .leq (.t 31) (.c (.i .i64 10))),rg 33 (.pick (.t 28) (.t 32) (.c (.b false))),mv 34 33,gd 35 34 true (.load (some 2) (.t 3)),gd 36 34 true (.call 491 [(.t 35)]),gd 37 34 true (.bin .leq (.t 36) (.c (.i .i64 300))),rg 38 (.pick (.t 34) (.t 37) (.c (.b false))),mv 6 38])
 (.pre (.norm false [6]) .ret)))
def b486:AX:=
 (.seq
 (.reg [rg 2 (.mov (.c (.b false)))])
 (.seq
 (.seq
 (.reg [mv 3 0])
 (.block 0
 (.seq
 (.seq
 (.reg [rg 5 (.bin .eql (.t 3) (.c (.s [116]))),mv 4 5])
 (.cond (.t 4)
 .skip
 (.seq
 (.reg [rg 6 (.bin .eql (.t 3) (.c (.s [121]))),mv 4 6])
 (.cond (.t 4)
 .skip
 (.seq
 (.reg [rg 7 (.bin .eql (.t 3) (.c (.s [112]))),mv 4 7])
 (.cond (.t 4)
 .skip
 (.reg [rg 8 (.bin .eql (.t 3) (.c (.s [108,101,116]))),mv 4 8])))))))
 (.cond (.t 4)
 (.seq
 (.reg [rg 2 (.mov (.c (.b false)))])
 (.pre (.norm false [2]) .ret))
 .skip))))
 (.seq
 (.reg [mv 9 0,rg 10 (.build [(.i .i64 0),(.s []),(.i .i64 0)] [(0,1,(.c (.i .i64 2))),(1,1,(.t 9))]),rg 11 (.call 172 [(.t 10)]),mv 2 11])
 (.pre (.norm false [2]) .ret))))
def l487_0:AX:=
 (.note
 (.seq
 (.reg [rg 8 (.bin .lss (.t 7) (.t 6))])
 (.seq
 (.cond (.t 8)
 .skip
 (.exit 0))
 (.seq
 (.block 1
 (.seq
 (.reg [mv 9 7,mv 5 9])
 (.seq
 (.drawT [mv 10 0,mv 11 5,rg 12 (.iad 2 (.t 10) (.t 11)),rg 13 (.fad 0 (.t 12)),rg 14 (.load none (.t 13)),mv 15 0,mv 16 1,rg 17 (.iad 2 (.t 15) (.t 16)),rg 18 (.fad 0 (.t 17)),rg 19 (.load none (.t 18))]
 [rg 20 (.bin .eql (.t 14) (.t 19))])
 (.cond (.t 20)
 (.seq
 (.reg [rg 4 (.mov (.c (.b true)))])
 (.pre (.norm false [4]) .ret))
 .skip))))
 (.reg [rg 21 (.bin .add (.t 7) (.c (.i .i64 1))),mv 7 21]))))
 (.norm false [0,1,6,7]))
def b487:AX:=
 (.seq
 (.reg [rg 4 (.mov (.c (.b false)))])
 (.seq
 (.seq
 (.reg [mv 6 1,rg 7 (.mov (.c (.i .i64 0)))])
 (.lp 0 (.norm false [0,1,6,7]) l487_0 (.norm false [])))
 (.seq
 (.reg [rg 4 (.mov (.c (.b false)))])
 (.pre (.norm false [4]) .ret))))
def b488:AX:=
 (.seq
 (.reg [rg 10 (.alloc [(.i .i64 0),(.i .i64 0),(.i .i64 0),(.i .i64 0)])])
 (.seq
 (.reg [mv 12 0,mv 13 2,mv 14 3,mv 15 4,rg 16 (.call 46 [(.t 12),(.t 13),(.t 14),(.t 15)]),mv 11 16])
 (.seq
 (.seq
 (.reg [mv 17 11,rg 18 (.bin .lss (.t 17) (.c (.i .i64 0))),mv 19 18,gd 20 19 true (.mov (.t 0)),gd 21 19 true (.call 492 [(.t 20)]),gd 22 19 true (.bin .gtr (.t 21) (.c (.i .i64 40))),rg 23 (.pick (.t 19) (.t 22) (.c (.b false)))])
 (.cond (.t 23)
 (.reg [mv 24 0,rg 25 (.len (.t 24)),mv 11 25])
 .skip))
 (.seq
 (.seq
 (.reg [mv 26 11,rg 27 (.bin .lss (.t 26) (.c (.i .i64 0)))])
 (.cond (.t 27)
 (.seq
 (.reg [rg 28 (.build [(.i .i64 0),(.i .i64 0),(.i .i64 0),(.i .i64 0)] []),so (.store 4 (.t 10) (.t 28))])
 (.pre (.norm false [10]) .ret))
 .skip))
 (.seq
 (.reg [mv 29 1,mv 30 11,rg 31 (.build [(.i .i64 0),(.i .i64 0),(.i .i64 0),(.i .i64 0)] [(0,1,(.c (.i .i64 2))),(1,1,(.t 29)),(3,1,(.t 30))]),so (.store 4 (.t 10) (.t 31))])
 (.pre (.norm false [10]) .ret))))))
def l477_0:AX:=
 (.note
 (.seq
 (.reg [rg 23 (.bin .lss (.t 22) (.t 21))])
 (.seq
 (.cond (.t 23)
 .skip
 (.exit 0))
 (.seq
 (.block 1
 (.seq
 (.reg [mv 24 22,rg 25 (.iad 2 (.t 20) (.t 22)),rg 26 (.load (some 2) (.t 25)),rg 8 (.alloc [(.s []),(.sl [] .nl)]),mv 7 24,so (.store 2 (.t 8) (.t 26))])
 (.seq
 (.seq
 (.reg [rg 27 (.fad 0 (.t 8)),rg 28 (.load none (.t 27)),rg 29 (.call 486 [(.t 28)]),rg 30 (.un .not (.t 29)),mv 31 30,gd 32 31 false (.fad 0 (.t 3)),gd 33 31 false (.load none (.t 32)),gd 34 31 false (.mov (.t 7)),gd 35 31 false (.call 487 [(.t 33),(.t 34)]),rg 36 (.pick (.t 31) (.c (.b true)) (.t 35))])
 (.cond (.t 36)
 (.seq
 (.reg [mv 37 7,rg 38 (.bin .add (.t 37) (.c (.i .i64 1))),rg 39 (.build [(.i .i64 0),(.i .i64 0),(.i .i64 0),(.i .i64 0)] [(0,1,(.c (.i .i64 2))),(1,1,(.t 38)),(2,1,(.c (.i .i64 1)))]),so (.store 4 (.t 6) (.t 39))])
 (.pre (.norm false [6]) .ret))
 .skip))
 (.seq
 (.reg [rg 40 (.fad 1 (.t 8)),rg 41 (.load none (.t 40)),mv 42 7,rg 43 (.bin .add (.t 42) (.c (.i .i64 1))),mv 44 1,mv 45 2,mv 46 7,rg 47 (.call 488 [(.t 41),(.t 43),(.t 44),(.t 45),(.t 46)]),rg 9 (.alloc [(.i .i64 0),(.i .i64 0),(.i .i64 0),(.i .i64 0)]),so (.store 4 (.t 9) (.t 47))])
 (.seq
 (.reg [rg 48 (.load (some 4) (.t 9)),rg 49 (.build [(.i .i64 0),(.i .i64 0),(.i .i64 0),(.i .i64 0)] []),rg 50 (.eqs true [(0,.int),(1,.int),(2,.int),(3,.int)] (.t 48) (.t 49))])
 (.cond (.t 50)
 (.seq
 (.reg [rg 51 (.load (some 4) (.t 9)),so (.store 4 (.t 6) (.t 51))])
 (.pre (.norm false [6]) .ret))
 .skip))))))
 (.reg [rg 52 (.bin .add (.t 22) (.c (.i .i64 1))),mv 22 52]))))
 (.norm false [1,2,3,6,20,21,22]))
def l477_1:AX:=
 (.note
 (.seq
 (.reg [rg 57 (.bin .lss (.t 56) (.t 55))])
 (.seq
 (.cond (.t 57)
 .skip
 (.exit 2))
 (.seq
 (.block 3
 (.seq
 (.reg [mv 58 56,rg 59 (.iad 1 (.t 54) (.t 56)),rg 60 (.load none (.t 59)),mv 10 58,mv 11 60])
 (.seq
 (.reg [mv 61 11,rg 62 (.fad 0 (.t 3)),rg 63 (.load none (.t 62)),rg 64 (.len (.t 63)),mv 65 10,rg 66 (.bin .add (.t 64) (.t 65)),rg 67 (.bin .add (.t 66) (.c (.i .i64 1))),mv 68 1,mv 69 2,rg 70 (.fad 0 (.t 3)),rg 71 (.load none (.t 70)),rg 72 (.len (.t 71)),rg 73 (.call 488 [(.t 61),(.t 67),(.t 68),(.t 69),(.t 72)]),rg 12 (.alloc [(.i .i64 0),(.i .i64 0),(.i .i64 0),(.i .i64 0)]),so (.store 4 (.t 12) (.t 73))])
 (.seq
 (.reg [rg 74 (.load (some 4) (.t 12)),rg 75 (.build [(.i .i64 0),(.i .i64 0),(.i .i64 0),(.i .i64 0)] []),rg 76 (.eqs true [(0,.int),(1,.int),(2,.int),(3,.int)] (.t 74) (.t 75))])
 (.cond (.t 76)
 (.seq
 (.reg [rg 77 (.load (some 4) (.t 12)),so (.store 4 (.t 6) (.t 77))])
 (.pre (.norm false [6]) .ret))
 .skip)))))
 (.reg [rg 78 (.bin .add (.t 56) (.c (.i .i64 1))),mv 56 78]))))
 (.norm false [1,2,3,6,54,55,56]))
def b477:AX:=
 (.seq
 (.reg [rg 3 (.xop (.box 2) [(.t 0)]),rg 6 (.alloc [(.i .i64 0),(.i .i64 0),(.i .i64 0),(.i .i64 0)])])
 (.seq
 (.seq
 (.reg [rg 13 (.load (some 2) (.t 3)),mv 14 1,mv 15 2,rg 16 (.call 485 [(.t 13),(.t 14),(.t 15)]),rg 17 (.un .not (.t 16))])
 (.cond (.t 17)
 (.seq
 (.reg [rg 18 (.build [(.i .i64 0),(.i .i64 0),(.i .i64 0),(.i .i64 0)] [(0,1,(.c (.i .i64 2)))]),so (.store 4 (.t 6) (.t 18))])
 (.pre (.norm false [6]) .ret))
 .skip))
 (.seq
 (.seq
 (.reg [rg 19 (.fad 0 (.t 3)),rg 20 (.load none (.t 19)),rg 21 (.len (.t 20)),rg 22 (.mov (.c (.i .i64 0)))])
 (.lp 0 (.norm false [1,2,3,6,20,21,22]) l477_0 (.norm false [1,2,3,6])))
 (.seq
 (.seq
 (.reg [rg 53 (.fad 1 (.t 3)),rg 54 (.load none (.t 53)),rg 55 (.len (.t 54)),rg 56 (.mov (.c (.i .i64 0)))])
 (.lp 2 (.norm false [1,2,3,6,54,55,56]) l477_1 (.norm false [6])))
 (.seq
 (.reg [rg 79 (.build [(.i .i64 0),(.i .i64 0),(.i .i64 0),(.i .i64 0)] []),so (.store 4 (.t 6) (.t 79))])
 (.pre (.norm false [6]) .ret))))))
class CCheck (T:Tbl):Prop where
 h485:T 485=some ⟨3,39,[.t 6],b485,none,false⟩
 h486:T 486=some ⟨1,12,[.t 2],b486,none,false⟩
 h487:T 487=some ⟨2,22,[.t 4],b487,none,false⟩
 h488:T 488=some ⟨5,32,[.cell 10 (some 4)],b488,none,false⟩
 h477:T 477=some ⟨3,80,[.cell 6 (some 4)],b477,none,false⟩
section
variable{T:Tbl}[CCheck T]{d:Option Nat}{st:St}{xs:List AV}{ps:List Opd}{e:Env}{h:Heap}{ol:List Heap}
@[simp] theorem x485:callX (orc T) T 485 xs d st=cP T 485 false xs d st:=zaa CCheck.h485
theorem f485(xs:List AV)(hn:xs.length=3):callF T 485 xs=retF [.t 6] false (evX (orc T) T 0 b485 ⟨argEnv xs,[],1⟩):=zac CCheck.h485 hn
@[simp] theorem x486:callX (orc T) T 486 xs d st=cP T 486 false xs d st:=zaa CCheck.h486
theorem f486(xs:List AV)(hn:xs.length=1):callF T 486 xs=retF [.t 2] false (evX (orc T) T 0 b486 ⟨argEnv xs,[],1⟩):=zac CCheck.h486 hn
@[simp] theorem x487:callX (orc T) T 487 xs d st=cP T 487 false xs d st:=zaa CCheck.h487
theorem f487(xs:List AV)(hn:xs.length=2):callF T 487 xs=retF [.t 4] false (evX (orc T) T 0 b487 ⟨argEnv xs,[],1⟩):=zac CCheck.h487 hn
@[simp] theorem x488:callX (orc T) T 488 xs d st=cP T 488 false xs d st:=zaa CCheck.h488
theorem f488(xs:List AV)(hn:xs.length=5):callF T 488 xs=retF [.cell 10 (some 4)] false (evX (orc T) T 0 b488 ⟨argEnv xs,[],1⟩):=zac CCheck.h488 hn
@[simp] theorem x477:callX (orc T) T 477 xs d st=cP T 477 false xs d st:=zaa CCheck.h477
theorem f477(xs:List AV)(hn:xs.length=3):callF T 477 xs=retF [.cell 6 (some 4)] false (evX (orc T) T 0 b477 ⟨argEnv xs,[],1⟩):=zac CCheck.h477 hn
end
def isD(c:UInt8):Bool:=decide (48≤c.toNat)&&decide (c.toNat≤57)
def isL(c:UInt8):Bool:=decide (97≤c.toNat)&&decide (c.toNat≤122) || decide (65≤c.toNat)&&decide (c.toNat≤90) || decide (c.toNat=95)
def signB:List UInt8:=[43,45,42,47,94,40,41,91,93,44,59,61]
def isS(c:UInt8):Bool:=signB.contains c
def kindN(c:UInt8):Nat:=if isD c then 1 else if isL c then 2 else if isS c then 3 else 0
def moreN(k:Nat)(c:UInt8):Bool:=decide (k=1)&&isD c || decide (k=2)&&(isL c || isD c)
def mostN(k:Nat):Nat:=if k=1 then 60 else if k=2 then 12 else 1
def isB(c:UInt8):Bool:=decide (c=32) || decide (c=9) || decide (c=10) || decide (c=13)
abbrev Wd:=Nat×List UInt8×Nat
def skipC:Bool→List UInt8→Nat
 | _,[]=>0
 | note,c::r=>
  let note':=if c=35 then true else if c=10 then false else note
  if (note' || isB c)=true then 1+skipC note' r else 0
def firstN(k:Nat)(r:List UInt8):Nat:=1+(r.takeWhile (moreN k)).length
def scanL(l:List UInt8)(i:Nat)(acc:List Wd):Except Nat (List Wd):=
 match l with
 | []=>.ok acc
 | c::r=>
  if kindN c=0 then .error i
  else if mostN (kindN c)<firstN (kindN c) r then .error (i+mostN (kindN c))
  else scanL ((r.drop (firstN (kindN c) r-1)).drop (skipC false (r.drop (firstN (kindN c) r-1)))) (i+firstN (kindN c) r+skipC false (r.drop (firstN (kindN c) r-1)))
   (acc++[(kindN c,(c::r).take (firstN (kindN c) r),i)])
termination_by l.length
decreasing_by grind
def stepWd(c:UInt8)(i:Nat)(acc:List Wd):List Wd:=
 match acc.getLast? with
 | some (k,t,a)=>if a+t.length=i∧moreN k c=true then acc.dropLast++[(k,t++[c],a)] else acc++[(kindN c,[c],i)]
 | none=>acc++[(kindN c,[c],i)]
def badWd(acc:List Wd):Bool:=
 match acc.getLast? with
 | some (k,t,_)=>decide (k=0) || decide (mostN k<t.length)
 | none=>false
def refL:List UInt8→Nat→Bool→List Wd→Except Nat (List Wd)
 | [],_,_,acc=>.ok acc
 | c::r,i,note,acc=>
  let note':=if c=35 then true else if c=10 then false else note
  if (note' || isB c)=true then refL r (i+1) note' acc
  else if badWd (stepWd c i acc)=true then .error i
  else refL r (i+1) note' (stepWd c i acc)
def Fresh(acc:List Wd)(i:Nat)(l:List UInt8):Prop:=∀k t a,acc.getLast? = some (k,t,a)→a+t.length=i→∀c r,l=c::r→moreN k c=false
def prim187:List AV→Option AV
 | [.i .u8 n]=>if 0≤n∧n<256 then some (.b (isS (UInt8.ofNat n.toNat))) else none
 | _=>none
theorem zq6(c:UInt8):prim187 [u8 c.toNat]=some (.b (isS c)):=by
 have:=c.toNat_lt
 simp only[prim187,u8]
 rw[if_pos ⟨by omega,by omega⟩]
 simp
def prim184:List AV→Option AV
 | [.s l,.s [c]]=>if l.length≤1000000 then some (.tup [.s (l.takeWhile (· != c)),.s ((l.dropWhile (· != c)).drop 1),.b (l.contains c)]) else none
 | _=>none
def textOf:List AV→Option (List UInt8)
 | [.s l]=>if l.length≤10000 then some l else none
 | _=>none
def prim183:List AV→Option AV
 | [.sl els .an,.s sep]=>if els.length≤1000∧sep.length≤100 then (els.mapM textOf).map fun ts=>.s (List.intercalate sep ts) else none
 | _=>none
def rowsT(l:List (List UInt8)):List (List AV):=l.map fun s=>[.s s]
class CJoin (T:Tbl):Prop where
def b185:AX:=
 (.seq
 (.reg [rg 2 (.mov (.c (.b false)))])
 (.seq
 (.reg [mv 3 0,rg 4 (.bin .geq (.t 3) (.c (u8 48))),mv 5 4,gd 6 5 true (.mov (.t 0)),gd 7 5 true (.bin .leq (.t 6) (.c (u8 57))),rg 8 (.pick (.t 5) (.t 7) (.c (.b false))),mv 2 8])
 (.pre (.norm false [2]) .ret)))
def b186:AX:=
 (.seq
 (.reg [rg 2 (.mov (.c (.b false)))])
 (.seq
 (.reg [mv 3 0,rg 4 (.bin .geq (.t 3) (.c (u8 97))),mv 5 4,gd 6 5 true (.mov (.t 0)),gd 7 5 true (.bin .leq (.t 6) (.c (u8 122))),rg 8 (.pick (.t 5) (.t 7) (.c (.b false))),mv 9 8,gd 10 9 false (.mov (.t 0)),gd 11 9 false (.bin .geq (.t 10) (.c (u8 65))),gd 12 9 false (.mov (.t 11)),gd 13 12 true (.mov (.t 0)),gd 14 12 true (.bin .leq (.t 13) (.c (u8 90))),gd 15 9 false (.pick (.t 12) (.t 14) (.c (.b false))),rg 16 (.pick (.t 9) (.c (.b true)) (.t 15)),mv 17 16,gd 18 17 false (.mov (.t 0)),gd 19 17 false (.bin .eql (.t 18) (.c (u8 95))),rg 20 (.pick (.t 17) (.c (.b true)) (.t 19)),mv 2 20])
 (.pre (.norm false [2]) .ret)))
def b177:AX:=
 (.seq
 (.reg [rg 2 (.mov (.c (.i .i64 0)))])
 (.seq
 (.block 0
 (.seq
 (.reg [mv 4 0,rg 5 (.call 185 [(.t 4)]),mv 3 5])
 (.cond (.t 3)
 (.seq
 (.reg [rg 2 (.mov (.c (.i .i64 1)))])
 (.pre (.norm false [2]) .ret))
 (.seq
 (.reg [mv 7 0,rg 8 (.call 186 [(.t 7)]),mv 6 8])
 (.cond (.t 6)
 (.seq
 (.reg [rg 2 (.mov (.c (.i .i64 2)))])
 (.pre (.norm false [2]) .ret))
 (.seq
 (.reg [mv 10 0,rg 11 (.call 187 [(.t 10)]),mv 9 11])
 (.cond (.t 9)
 (.seq
 (.reg [rg 2 (.mov (.c (.i .i64 3)))])
 (.pre (.norm false [2]) .ret))
 .skip)))))))
 (.seq
 (.reg [rg 2 (.mov (.c (.i .i64 0)))])
 (.pre (.norm false [2]) .ret))))
def b188:AX:=
 (.seq
 (.reg [rg 4 (.mov (.c (.b false)))])
 (.seq
 (.reg [mv 5 0,rg 6 (.bin .eql (.t 5) (.c (.i .i64 1))),mv 7 6,gd 8 7 true (.mov (.t 1)),gd 9 7 true (.call 185 [(.t 8)]),rg 10 (.pick (.t 7) (.t 9) (.c (.b false))),mv 11 10,gd 12 11 false (.mov (.t 0)),gd 13 11 false (.bin .eql (.t 12) (.c (.i .i64 2))),gd 14 11 false (.mov (.t 13)),gd 15 14 true (.mov (.t 1)),gd 16 14 true (.call 186 [(.t 15)]),gd 17 14 true (.mov (.t 16)),gd 18 17 false (.mov (.t 1)),gd 19 17 false (.call 185 [(.t 18)]),gd 20 14 true (.pick (.t 17) (.c (.b true)) (.t 19)),gd 21 11 false (.pick (.t 14) (.t 20) (.c (.b false))),rg 22 (.pick (.t 11) (.c (.b true)) (.t 21)),mv 4 22])
 (.pre (.norm false [4]) .ret)))
def b179:AX:=
 (.seq
 (.reg [rg 2 (.mov (.c (.i .i64 0)))])
 (.seq
 (.seq
 (.reg [mv 3 0])
 (.block 0
 (.seq
 (.reg [rg 5 (.bin .eql (.t 3) (.c (.i .i64 1))),mv 4 5])
 (.cond (.t 4)
 (.seq
 (.reg [rg 2 (.mov (.c (.i .i64 60)))])
 (.pre (.norm false [2]) .ret))
 (.seq
 (.reg [rg 7 (.bin .eql (.t 3) (.c (.i .i64 2))),mv 6 7])
 (.cond (.t 6)
 (.seq
 (.reg [rg 2 (.mov (.c (.i .i64 12)))])
 (.pre (.norm false [2]) .ret))
 .skip))))))
 (.seq
 (.reg [rg 2 (.mov (.c (.i .i64 1)))])
 (.pre (.norm false [2]) .ret))))
def l178_0:AX:=
 (.note
 (.seq
 (.seq
 (.reg [mv 6 5,mv 7 0,rg 8 (.lens (.t 7)),rg 9 (.bin .lss (.t 6) (.t 8)),mv 10 9,gd 11 10 true (.mov (.t 1)),gd 12 10 true (.mov (.t 0)),gd 13 10 true (.mov (.t 5)),gd 14 10 true (.ixs (.t 12) (.t 13)),gd 15 10 true (.call 188 [(.t 11),(.t 14)]),rg 16 (.pick (.t 10) (.t 15) (.c (.b false)))])
 (.cond (.t 16)
 .skip
 (.exit 0)))
 (.block 1
 (.reg [mv 17 5,rg 18 (.bin .add (.t 17) (.c (.i .i64 1))),mv 5 18])))
 (.norm false [0,1,5]))
def b178:AX:=
 (.seq
 (.reg [rg 4 (.mov (.c (.i .i64 0)))])
 (.seq
 (.reg [rg 5 (.mov (.c (.i .i64 1)))])
 (.seq
 (.lp 0 (.norm false [0,1,5]) l178_0 (.norm false [5]))
 (.seq
 (.reg [mv 19 5,mv 4 19])
 (.pre (.norm false [4]) .ret)))))
def b172:AX:=
 (.seq
 (.reg [rg 1 (.xop (.box 3) [(.t 0)]),rg 2 (.mov (.c (.b false)))])
 (.seq
 (.seq
 (.drawT [rg 3 (.fad 1 (.t 1)),rg 4 (.load none (.t 3)),rg 5 (.bin .eql (.t 4) (.c (.s []))),mv 6 5,gd 7 6 false (.fad 0 (.t 1)),gd 8 6 false (.load none (.t 7)),gd 9 6 false (.bin .eql (.t 8) (.c (.i .i64 0))),rg 10 (.pick (.t 6) (.c (.b true)) (.t 9)),mv 11 10,gd 12 11 false (.fad 1 (.t 1)),gd 13 11 false (.load none (.t 12)),gd 14 11 false (.ixs (.t 13) (.c (.i .i64 0))),gd 15 11 false (.call 177 [(.t 14)]),gd 16 11 false (.fad 0 (.t 1)),gd 17 11 false (.load none (.t 16))]
 [gd 18 11 false (.bin .neq (.t 15) (.t 17)),rg 19 (.pick (.t 11) (.c (.b true)) (.t 18))])
 (.cond (.t 19)
 (.seq
 (.reg [rg 2 (.mov (.c (.b false)))])
 (.pre (.norm false [2]) .ret))
 .skip))
 (.seq
 (.drawT [rg 20 (.fad 1 (.t 1)),rg 21 (.load none (.t 20)),rg 22 (.fad 0 (.t 1)),rg 23 (.load none (.t 22)),rg 24 (.call 178 [(.t 21),(.t 23)]),rg 25 (.fad 1 (.t 1)),rg 26 (.load none (.t 25)),rg 27 (.lens (.t 26)),rg 28 (.bin .eql (.t 24) (.t 27)),mv 29 28,gd 30 29 true (.fad 1 (.t 1)),gd 31 29 true (.load none (.t 30)),gd 32 29 true (.lens (.t 31)),gd 33 29 true (.fad 0 (.t 1)),gd 34 29 true (.load none (.t 33)),gd 35 29 true (.call 179 [(.t 34)])]
 [gd 36 29 true (.bin .leq (.t 32) (.t 35)),rg 37 (.pick (.t 29) (.t 36) (.c (.b false))),mv 2 37])
 (.pre (.norm false [2]) .ret))))
class CLex (T:Tbl):Prop where
 h185:T 185=some ⟨1,9,[.t 2],b185,none,false⟩
 h186:T 186=some ⟨1,21,[.t 2],b186,none,false⟩
 h187:T 187=some ⟨0,0,[],.prim prim187,none,false⟩
 h177:T 177=some ⟨1,12,[.t 2],b177,none,false⟩
 h188:T 188=some ⟨2,23,[.t 4],b188,none,false⟩
 h179:T 179=some ⟨1,8,[.t 2],b179,none,false⟩
 h178:T 178=some ⟨2,20,[.t 4],b178,none,false⟩
 h172:T 172=some ⟨1,38,[.t 2],b172,none,false⟩
section
variable{T:Tbl}[CLex T]{d:Option Nat}{st:St}{xs:List AV}{ps:List Opd}{e:Env}{h:Heap}{ol:List Heap}
@[simp] theorem x185:callX (orc T) T 185 xs d st=cP T 185 false xs d st:=zaa CLex.h185
theorem f185(xs:List AV)(hn:xs.length=1):callF T 185 xs=retF [.t 2] false (evX (orc T) T 0 b185 ⟨argEnv xs,[],1⟩):=zac CLex.h185 hn
@[simp] theorem x186:callX (orc T) T 186 xs d st=cP T 186 false xs d st:=zaa CLex.h186
theorem f186(xs:List AV)(hn:xs.length=1):callF T 186 xs=retF [.t 2] false (evX (orc T) T 0 b186 ⟨argEnv xs,[],1⟩):=zac CLex.h186 hn
@[simp] theorem x187:callX (orc T) T 187 xs d st=cP T 187 false xs d st:=zaa CLex.h187
theorem p187(xs:List AV):callF T 187 xs=prim187 xs:=zij CLex.h187
@[simp] theorem y177:opD (orc T) T (.call 177 ps) e h ol=dP T 177 false ps e:=zce CLex.h177
theorem f177(xs:List AV)(hn:xs.length=1):callF T 177 xs=retF [.t 2] false (evX (orc T) T 0 b177 ⟨argEnv xs,[],1⟩):=zac CLex.h177 hn
@[simp] theorem x188:callX (orc T) T 188 xs d st=cP T 188 false xs d st:=zaa CLex.h188
theorem f188(xs:List AV)(hn:xs.length=2):callF T 188 xs=retF [.t 4] false (evX (orc T) T 0 b188 ⟨argEnv xs,[],1⟩):=zac CLex.h188 hn
@[simp] theorem y179:opD (orc T) T (.call 179 ps) e h ol=dP T 179 false ps e:=zce CLex.h179
theorem f179(xs:List AV)(hn:xs.length=1):callF T 179 xs=retF [.t 2] false (evX (orc T) T 0 b179 ⟨argEnv xs,[],1⟩):=zac CLex.h179 hn
@[simp] theorem y178:opD (orc T) T (.call 178 ps) e h ol=dP T 178 false ps e:=zce CLex.h178
theorem f178(xs:List AV)(hn:xs.length=2):callF T 178 xs=retF [.t 4] false (evX (orc T) T 0 b178 ⟨argEnv xs,[],1⟩):=zac CLex.h178 hn
@[simp] theorem x172:callX (orc T) T 172 xs d st=cP T 172 false xs d st:=zaa CLex.h172
theorem f172(xs:List AV)(hn:xs.length=1):callF T 172 xs=retF [.t 2] false (evX (orc T) T 0 b172 ⟨argEnv xs,[],1⟩):=zac CLex.h172 hn
end
class CRef16 (T:Tbl):Prop where
class CRef19 (T:Tbl):Prop where
class CLaw21 (T:Tbl):Prop where
section
variable{T:Tbl}
theorem ztk(x0:Nat)(_hx0:x0<4294967296):∀y:Nat×Nat×List UInt8,(y.1≤9∧y.2.1<4294967296∧y.2.2.length=9-y.1∧digK y.1 y.2.1++y.2.2=digK 9 x0) →
  loopN T 0 0 (.norm false [3]) l101_0 ⟨[(0,u32 y.2.1),(3,.ptr (.loc 3) 1 9 0 0),(4,.i .i64 ((y.1:Int)-1))],[(.loc 3,⟨1,.str,9,[u8c (List.replicate y.1 0++y.2.2)]⟩)],3⟩ =
   some (.n,⟨[(3,.ptr (.loc 3) 1 9 0 0)],[(.loc 3,⟨1,.str,9,[u8c (digK 9 x0)]⟩)],3⟩):=by
 refine zaw (fun y:Nat×Nat×List UInt8=>⟨[(0,u32 y.2.1),(3,.ptr (.loc 3) 1 9 0 0),(4,.i .i64 ((y.1:Int)-1))],[(.loc 3,⟨1,.str,9,[u8c (List.replicate y.1 0++y.2.2)]⟩)],3⟩) _ (fun y=>y.1) _ ?_
 rintro⟨k,x,m⟩ ⟨hk,hx,hm,hd⟩
 simp only at hk hx hm hd
 cases k with
 | zero=>
  right
  have hd:m=digK 9 x0:=by simpa only[zhg,List.nil_append]using hd
  subst hd
  generalize digK 9 x0=m
  constructor<;>simp -implicitDefEqProofs[l101_0]
 | succ j=>
  left
  have hw:IntKind.wrap .i64 ((j:Int)-1)=(j:Int)-1:=zab _ (by omega)
  have h1:(j:Int)<9:=by omega
  have h2:j≤8:=by omega
  have hd1:48+x%10<256:=by omega
  have hs:=(zz0 (l:=List.replicate (j+1) 0++m) (j:=j) hd1 (by simp;omega)).trans (congrArg u8c (zwt (j:=j) (m:=m) (UInt8.ofNat (48+x%10))))
  have m1:(48+x%10)%4294967296=48+x%10:=Nat.mod_eq_of_lt (by omega)
  have m2:(48+x%10)%256=48+x%10:=Nat.mod_eq_of_lt (by omega)
  have m3:x/10%4294967296=x/10:=Nat.mod_eq_of_lt (by omega)
  have hlen:j+1+m.length=9:=by omega
  refine⟨(j,x/10,UInt8.ofNat (48+x%10)::m),⟨by simp only;omega,by simp only;omega,by simp;omega,?_⟩,Nat.lt_succ_self j,?_,rfl⟩
  ·simp only
   rw[←hd,zdu,List.append_assoc]
   rfl
  ·simp -implicitDefEqProofs[l101_0,hw,h1,h2,hs,m1,m2,m3,hlen]
end
section
variable{T:Tbl}[CDigits T]
theorem znf(x:Nat)(hx:x<4294967296):callF T 101 [u32 x]=some (.s (digK 9 x)):=by
 have h:=ztk (T:=T) x hx (9,x,[]) ⟨Nat.le_refl _,hx,rfl,by simp⟩
 have e:u8c (List.replicate 9 0++[])=[u8 0,u8 0,u8 0,u8 0,u8 0,u8 0,u8 0,u8 0,u8 0]:=rfl
 simp only[e]at h
 rw[f101 _ rfl,b101]
 have h8:IntKind.wrap .i64 8=8:=by decide
 have hl9:=zef 9 x
 generalize hm:digK 9 x=m at *
 have t9:List.take 9 ((u8c m).map fun c=>[c])=(u8c m).map fun c=>[c]:=List.take_of_length_le (by simp[hl9])
 have hr:=zwu m
 simp at h
 simp -implicitDefEqProofs[h,hr,hl9,t9]
end
section
variable{T:Tbl}[CNat T][CProd T][CDigits T]
def stRi(l:List UInt8)(o:List UInt32)(i0 k:Nat):St:=
 ⟨[(0,.s l),(3,.ptr (.loc 3) 1 4 0 0),(5,.sl (u32s o) .an),(6,.i .i64 (i0+k:Nat)),(7,u32 (rd ((l.drop i0).take k))),(8,u32 (10^k)),(9,.i .i64 k)],[(.loc 3,⟨1,.str,4,[[.i .i64 0,.i .i64 0,.i .i64 0,.i .i64 0]]⟩)],3⟩
end
def sg(n:Bool)(k:Nat):Int:=if n then -(k:Int) else k
def wv(n:Bool)(a:List UInt32):Int:=sg n (val a)
abbrev wh(n:Bool)(a:List UInt32):AV:=.agg [.b n,.sl (u32s a) .an]
abbrev ez(z:Int):AV:=wh (decide (z<0)) (ofN z.natAbs)
def sgI(z:Int):Int:=if z<0 then -1 else if z=0 then 0 else 1
theorem zxk(n:Bool)(k:Nat):decide (sg n k<0)=(n&&decide (k≠0)):=by
 cases n
 ·simp[sg]
 ·by_cases h:k=0<;>simp[sg,h]
  omega
theorem zur(n:Bool)(k:Nat):(sg n k).natAbs=k:=by cases n<;>simp[sg]
theorem z4x(n:Bool)(a:List UInt32):(wv n a).natAbs=val a:=zur n _
theorem z4y(n:Bool)(k:Nat):ez (sg n k)=wh (n&&decide (k≠0)) (ofN k):=by
 unfold ez
 rw[zxk,zur]
def textZ(z:Int):List UInt8:=if z<0 then 45::textN z.natAbs else textN z.natAbs
theorem z4z(n:Bool)(a:List UInt32):(ofN (wv n a).natAbs).length≤a.length:=by rw[z4x];exact zae a
def readZ(l:List UInt8):Int:=sg (l.head? = some 45) (rd (if l.head? = some 45 then l.tail else l))
def wrongZ(l:List UInt8):Int:=wrongI (if l.head? = some 45 then l.tail else l)
def minus(l:List UInt8):Int:=if l.head? = some 45 then 1 else 0
def b55:AX:=
 (.seq
 (.reg [rg 4 (.alloc [(.b false),(.sl [] .nl)])])
 (.seq
 (.reg [mv 5 0,mv 6 5,gd 7 6 true (.mov (.t 1)),gd 8 6 true (.len (.t 7)),gd 9 6 true (.bin .gtr (.t 8) (.c (.i .i64 0))),rg 10 (.pick (.t 6) (.t 9) (.c (.b false))),mv 11 1,rg 12 (.build [(.b false),(.sl [] .nl)] [(0,1,(.t 10)),(1,1,(.t 11))]),so (.store 2 (.t 4) (.t 12))])
 (.pre (.norm false [4]) .ret)))
def b38:AX:=
 (.seq
 (.reg [rg 1 (.xop (.box 2) [(.t 0)]),rg 2 (.alloc [(.b false),(.sl [] .nl)])])
 (.seq
 (.drawT [rg 3 (.fad 0 (.t 1)),rg 4 (.load none (.t 3)),rg 5 (.fad 1 (.t 1)),rg 6 (.load none (.t 5)),rg 7 (.call 71 [(.t 6)])]
 [rg 8 (.call 55 [(.t 4),(.t 7)]),so (.store 2 (.t 2) (.t 8))])
 (.pre (.norm false [2]) .ret)))
def b40:AX:=
 (.seq
 (.reg [rg 1 (.xop (.box 2) [(.t 0)]),rg 2 (.alloc [(.b false),(.sl [] .nl)])])
 (.seq
 (.drawT [rg 3 (.fad 0 (.t 1)),rg 4 (.load none (.t 3)),rg 5 (.un .not (.t 4)),rg 6 (.fad 1 (.t 1)),rg 7 (.load none (.t 6)),rg 8 (.call 71 [(.t 7)])]
 [rg 9 (.call 55 [(.t 5),(.t 8)]),so (.store 2 (.t 2) (.t 9))])
 (.pre (.norm false [2]) .ret)))
def b23:AX:=
 (.seq
 (.reg [rg 2 (.xop (.box 2) [(.t 0)]),rg 3 (.xop (.box 2) [(.t 1)]),rg 4 (.alloc [(.b false),(.sl [] .nl)])])
 (.seq
 (.seq
 (.reg [rg 7 (.fad 0 (.t 2)),rg 8 (.load none (.t 7)),rg 9 (.fad 0 (.t 3)),rg 10 (.load none (.t 9)),rg 11 (.eqb false (.t 8) (.t 10))])
 (.cond (.t 11)
 (.seq
 (.drawT [rg 12 (.fad 0 (.t 2)),rg 13 (.load none (.t 12)),rg 14 (.fad 1 (.t 2)),rg 15 (.load none (.t 14)),rg 16 (.fad 1 (.t 3)),rg 17 (.load none (.t 16)),rg 18 (.bsl 1 [(.sl [] .nl)] 2 [(0,(.t 15)),(1,(.t 17))]),rg 19 (.call 56 [(.t 18)])]
 [rg 20 (.call 55 [(.t 13),(.t 19)]),so (.store 2 (.t 4) (.t 20))])
 (.pre (.norm false [4]) .ret))
 .skip))
 (.seq
 (.reg [rg 22 (.fad 1 (.t 2)),rg 23 (.load none (.t 22)),rg 24 (.fad 1 (.t 3)),rg 25 (.load none (.t 24)),rg 26 (.call 57 [(.t 23),(.t 25)]),mv 21 26,rg 27 (.ext (.t 21) 0),rg 28 (.ext (.t 21) 1),mv 5 27,mv 6 28])
 (.seq
 (.seq
 (.reg [mv 29 6,rg 30 (.bin .lss (.t 29) (.c (.i .i64 0)))])
 (.cond (.t 30)
 (.seq
 (.reg [rg 31 (.fad 0 (.t 3)),rg 32 (.load none (.t 31)),mv 33 5,rg 34 (.call 55 [(.t 32),(.t 33)]),so (.store 2 (.t 4) (.t 34))])
 (.pre (.norm false [4]) .ret))
 .skip))
 (.seq
 (.reg [rg 35 (.fad 0 (.t 2)),rg 36 (.load none (.t 35)),mv 37 5,rg 38 (.call 55 [(.t 36),(.t 37)]),so (.store 2 (.t 4) (.t 38))])
 (.pre (.norm false [4]) .ret))))))
def b25:AX:=
 (.seq
 (.reg [rg 2 (.xop (.box 2) [(.t 0)]),rg 3 (.xop (.box 2) [(.t 1)]),rg 4 (.alloc [(.b false),(.sl [] .nl)])])
 (.seq
 (.drawT [rg 5 (.load (some 2) (.t 2)),rg 6 (.load (some 2) (.t 3)),rg 7 (.call 40 [(.t 6)])]
 [rg 8 (.call 23 [(.t 5),(.t 7)]),so (.store 2 (.t 4) (.t 8))])
 (.pre (.norm false [4]) .ret)))
def b27:AX:=
 (.seq
 (.reg [rg 2 (.xop (.box 2) [(.t 0)]),rg 3 (.xop (.box 2) [(.t 1)]),rg 4 (.alloc [(.b false),(.sl [] .nl)])])
 (.seq
 (.drawT [rg 5 (.fad 0 (.t 2)),rg 6 (.load none (.t 5)),rg 7 (.fad 0 (.t 3)),rg 8 (.load none (.t 7)),rg 9 (.eqb true (.t 6) (.t 8)),rg 10 (.fad 1 (.t 2)),rg 11 (.load none (.t 10)),rg 12 (.fad 1 (.t 3)),rg 13 (.load none (.t 12)),rg 14 (.call 60 [(.t 11),(.t 13)])]
 [rg 15 (.call 55 [(.t 9),(.t 14)]),so (.store 2 (.t 4) (.t 15))])
 (.pre (.norm false [4]) .ret)))
def b37:AX:=
 (.seq
 (.reg [rg 1 (.xop (.box 2) [(.t 0)]),rg 2 (.mov (.c (.i .i64 0)))])
 (.seq
 (.block 0
 (.seq
 (.reg [rg 4 (.fad 1 (.t 1)),rg 5 (.load none (.t 4)),rg 6 (.call 70 [(.t 5)]),mv 3 6])
 (.cond (.t 3)
 (.seq
 (.reg [rg 2 (.mov (.c (.i .i64 0)))])
 (.pre (.norm false [2]) .ret))
 (.seq
 (.reg [rg 8 (.fad 0 (.t 1)),rg 9 (.load none (.t 8)),mv 7 9])
 (.cond (.t 7)
 (.seq
 (.reg [rg 2 (.mov (.c (.i .i64 (-1))))])
 (.pre (.norm false [2]) .ret))
 .skip)))))
 (.seq
 (.reg [rg 2 (.mov (.c (.i .i64 1)))])
 (.pre (.norm false [2]) .ret))))
def b41:AX:=
 (.seq
 (.reg [rg 2 (.alloc [(.b false),(.sl [] .nl)])])
 (.seq
 (.seq
 (.reg [mv 3 0,rg 4 (.bin .lss (.t 3) (.c (.i .i64 0)))])
 (.cond (.t 4)
 (.seq
 (.reg [mv 5 0,rg 6 (.conv .u64 (.t 5)),rg 7 (.un .neg (.t 6)),rg 8 (.call 72 [(.t 7)]),rg 9 (.call 55 [(.c (.b true)),(.t 8)]),so (.store 2 (.t 2) (.t 9))])
 (.pre (.norm false [2]) .ret))
 .skip))
 (.seq
 (.reg [mv 10 0,rg 11 (.conv .u64 (.t 10)),rg 12 (.call 72 [(.t 11)]),rg 13 (.call 55 [(.c (.b false)),(.t 12)]),so (.store 2 (.t 2) (.t 13))])
 (.pre (.norm false [2]) .ret))))
def b36:AX:=
 (.seq
 (.reg [rg 2 (.xop (.box 2) [(.t 0)]),rg 3 (.xop (.box 2) [(.t 1)]),rg 4 (.mov (.c (.i .i64 0)))])
 (.seq
 (.reg [rg 5 (.load (some 2) (.t 2)),rg 6 (.load (some 2) (.t 3)),rg 7 (.call 25 [(.t 5),(.t 6)]),rg 8 (.call 37 [(.t 7)]),mv 4 8])
 (.pre (.norm false [4]) .ret)))
class CWhole (T:Tbl):Prop where
 h55:T 55=some ⟨2,13,[.cell 4 (some 2)],b55,none,false⟩
 h38:T 38=some ⟨1,9,[.cell 2 (some 2)],b38,none,false⟩
 h40:T 40=some ⟨1,10,[.cell 2 (some 2)],b40,none,false⟩
 h23:T 23=some ⟨2,39,[.cell 4 (some 2)],b23,none,false⟩
 h25:T 25=some ⟨2,9,[.cell 4 (some 2)],b25,none,false⟩
 h27:T 27=some ⟨2,16,[.cell 4 (some 2)],b27,none,false⟩
 h37:T 37=some ⟨1,10,[.t 2],b37,none,false⟩
 h41:T 41=some ⟨1,14,[.cell 2 (some 2)],b41,none,false⟩
 h36:T 36=some ⟨2,9,[.t 4],b36,none,false⟩
section
variable{T:Tbl}[CWhole T]{d:Option Nat}{st:St}
@[simp] theorem x55(xs:List AV):callX (orc T) T 55 xs d st=cP T 55 false xs d st:=zaa CWhole.h55
theorem f55(xs:List AV)(hn:xs.length=2):callF T 55 xs=retF [.cell 4 (some 2)] false (evX (orc T) T 0 b55 ⟨argEnv xs,[],1⟩):=zac CWhole.h55 hn
@[simp] theorem x38(xs:List AV):callX (orc T) T 38 xs d st=cP T 38 false xs d st:=zaa CWhole.h38
theorem f38(xs:List AV)(hn:xs.length=1):callF T 38 xs=retF [.cell 2 (some 2)] false (evX (orc T) T 0 b38 ⟨argEnv xs,[],1⟩):=zac CWhole.h38 hn
@[simp] theorem x23(xs:List AV):callX (orc T) T 23 xs d st=cP T 23 false xs d st:=zaa CWhole.h23
@[simp] theorem x25(xs:List AV):callX (orc T) T 25 xs d st=cP T 25 false xs d st:=zaa CWhole.h25
@[simp] theorem x27(xs:List AV):callX (orc T) T 27 xs d st=cP T 27 false xs d st:=zaa CWhole.h27
@[simp] theorem x37(xs:List AV):callX (orc T) T 37 xs d st=cP T 37 false xs d st:=zaa CWhole.h37
@[simp] theorem x36(xs:List AV):callX (orc T) T 36 xs d st=cP T 36 false xs d st:=zaa CWhole.h36
end
def l198_0:AX:=
 (.note
 (.seq
 (.seq
 (.reg [mv 5 1,rg 6 (.bin .neq (.t 5) (.c (u64 0)))])
 (.cond (.t 6)
 .skip
 (.exit 0)))
 (.block 1
 (.drawT [mv 7 1,mv 8 0,mv 9 1,rg 10 (.bin .rem (.t 8) (.t 9)),mv 0 7]
 [mv 1 10])))
 (.norm false [0,1]))
def b198:AX:=
 (.seq
 (.reg [rg 4 (.mov (.c (u64 0)))])
 (.seq
 (.lp 0 (.norm false [0,1]) l198_0 (.norm false [0]))
 (.seq
 (.reg [mv 11 0,mv 4 11])
 (.pre (.norm false [4]) .ret))))
def l199_0:AX:=
 (.note
 (.seq
 (.seq
 (.reg [mv 19 1,rg 20 (.len (.t 19)),rg 21 (.bin .gtr (.t 20) (.c (.i .i64 2)))])
 (.cond (.t 21)
 .skip
 (.exit 0)))
 (.block 1
 (.seq
 (.reg [mv 23 0,mv 24 1,rg 25 (.call 62 [(.t 23),(.t 24)]),mv 22 25,rg 26 (.ext (.t 22) 0),rg 27 (.ext (.t 22) 1),rg 28 (.ext (.t 22) 2),mv 5 26,mv 6 27,mv 7 28])
 (.reg [mv 29 1,mv 30 6,mv 0 29,mv 1 30]))))
 (.norm false [0,1]))
def b199:AX:=
 (.seq
 (.reg [rg 4 (.mov (.c (.sl [] .nl)))])
 (.seq
 (.reg [mv 15 0,rg 16 (.call 71 [(.t 15)]),mv 17 1,rg 18 (.call 71 [(.t 17)]),mv 0 16,mv 1 18])
 (.seq
 (.lp 0 (.norm false [0,1]) l199_0 (.norm false [0,1]))
 (.seq
 (.seq
 (.reg [mv 31 1,rg 32 (.len (.t 31)),rg 33 (.bin .eql (.t 32) (.c (.i .i64 0)))])
 (.cond (.t 33)
 (.seq
 (.reg [mv 34 0,mv 4 34])
 (.pre (.norm false [4]) .ret))
 .skip))
 (.seq
 (.reg [mv 36 0,mv 37 1,rg 38 (.call 62 [(.t 36),(.t 37)]),mv 35 38,rg 39 (.ext (.t 35) 0),rg 40 (.ext (.t 35) 1),rg 41 (.ext (.t 35) 2),mv 8 39,mv 9 40,mv 10 41])
 (.seq
 (.reg [mv 43 1,rg 44 (.call 73 [(.t 43)]),mv 42 44,rg 45 (.ext (.t 42) 0),rg 46 (.ext (.t 42) 1),mv 11 45,mv 12 46])
 (.seq
 (.reg [mv 48 9,rg 49 (.call 73 [(.t 48)]),mv 47 49,rg 50 (.ext (.t 47) 0),rg 51 (.ext (.t 47) 1),mv 13 50,mv 14 51])
 (.seq
 (.reg [mv 52 11,mv 53 13,rg 54 (.call 198 [(.t 52),(.t 53)]),rg 55 (.call 72 [(.t 54)]),mv 4 55])
 (.pre (.norm false [4]) .ret)))))))))
def b200:AX:=
 (.seq
 (.reg [rg 2 (.mov (.c (.b false)))])
 (.seq
 (.reg [mv 3 0,rg 4 (.len (.t 3)),rg 5 (.bin .eql (.t 4) (.c (.i .i64 1))),mv 6 5,gd 7 6 true (.mov (.t 0)),gd 8 6 true (.iad 1 (.t 7) (.c (.i .i64 0))),gd 9 6 true (.load none (.t 8)),gd 10 6 true (.bin .eql (.t 9) (.c (u32 1))),rg 11 (.pick (.t 6) (.t 10) (.c (.b false))),mv 2 11])
 (.pre (.norm false [2]) .ret)))
def b201:AX:=
 (.seq
 (.reg [rg 4 (.mov (.c (.sl [] .nl))),rg 5 (.mov (.c (.sl [] .nl)))])
 (.seq
 (.reg [mv 7 0,mv 8 1,rg 9 (.call 199 [(.t 7),(.t 8)]),mv 6 9])
 (.seq
 (.block 0
 (.seq
 (.reg [mv 11 6,rg 12 (.len (.t 11)),rg 13 (.bin .eql (.t 12) (.c (.i .i64 0))),mv 10 13])
 (.cond (.t 10)
 (.seq
 (.reg [rg 4 (.mov (.c (.sl [] .nl))),rg 5 (.mov (.c (.sl [] .nl)))])
 (.pre (.norm false [4,5]) .ret))
 (.seq
 (.reg [mv 15 6,rg 16 (.call 200 [(.t 15)]),mv 14 16])
 (.cond (.t 14)
 (.seq
 (.reg [mv 17 0,rg 18 (.call 71 [(.t 17)]),mv 19 1,rg 20 (.call 71 [(.t 19)]),mv 4 18,mv 5 20])
 (.pre (.norm false [4,5]) .ret))
 .skip)))))
 (.seq
 (.reg [mv 22 0,mv 23 6,rg 24 (.call 62 [(.t 22),(.t 23)]),mv 21 24,rg 25 (.ext (.t 21) 0),rg 26 (.ext (.t 21) 1),rg 27 (.ext (.t 21) 2),mv 4 25])
 (.seq
 (.reg [mv 29 1,mv 30 6,rg 31 (.call 62 [(.t 29),(.t 30)]),mv 28 31,rg 32 (.ext (.t 28) 0),rg 33 (.ext (.t 28) 1),rg 34 (.ext (.t 28) 2),mv 5 32])
 (.seq
 (.reg [mv 35 4,mv 36 5,mv 4 35,mv 5 36])
 (.pre (.norm false [4,5]) .ret)))))))
class CCommon (T:Tbl):Prop where
 h198:T 198=some ⟨2,12,[.t 4],b198,none,false⟩
 h199:T 199=some ⟨2,56,[.t 4],b199,none,false⟩
 h200:T 200=some ⟨1,12,[.t 2],b200,none,false⟩
 h201:T 201=some ⟨2,37,[.t 4,.t 5],b201,none,false⟩
section
variable{T:Tbl}[CCommon T]{d:Option Nat}{st:St}{xs:List AV}{ps:List Opd}{e:Env}{h:Heap}{ol:List Heap}
@[simp] theorem x198:callX (orc T) T 198 xs d st=cP T 198 false xs d st:=zaa CCommon.h198
theorem f198(xs:List AV)(hn:xs.length=2):callF T 198 xs=retF [.t 4] false (evX (orc T) T 0 b198 ⟨argEnv xs,[],1⟩):=zac CCommon.h198 hn
@[simp] theorem x199:callX (orc T) T 199 xs d st=cP T 199 false xs d st:=zaa CCommon.h199
theorem f199(xs:List AV)(hn:xs.length=2):callF T 199 xs=retF [.t 4] false (evX (orc T) T 0 b199 ⟨argEnv xs,[],1⟩):=zac CCommon.h199 hn
@[simp] theorem x200:callX (orc T) T 200 xs d st=cP T 200 false xs d st:=zaa CCommon.h200
theorem f200(xs:List AV)(hn:xs.length=1):callF T 200 xs=retF [.t 2] false (evX (orc T) T 0 b200 ⟨argEnv xs,[],1⟩):=zac CCommon.h200 hn
@[simp] theorem x201:callX (orc T) T 201 xs d st=cP T 201 false xs d st:=zaa CCommon.h201
theorem f201(xs:List AV)(hn:xs.length=2):callF T 201 xs=retF [.t 4,.t 5] false (evX (orc T) T 0 b201 ⟨argEnv xs,[],1⟩):=zac CCommon.h201 hn
end
def b202:AX:=
 (.seq
 (.reg [rg 2 (.xop (.box 2) [(.t 0)]),rg 4 (.alloc [(.b false),(.sl [] .nl),(.sl [] .nl)])])
 (.seq
 (.reg [rg 8 (.fad 1 (.t 2)),rg 9 (.load none (.t 8)),mv 10 1,rg 11 (.call 201 [(.t 9),(.t 10)]),mv 7 11,rg 12 (.ext (.t 7) 0),rg 13 (.ext (.t 7) 1),mv 5 12,mv 6 13])
 (.seq
 (.reg [rg 14 (.fad 0 (.t 2)),rg 15 (.load none (.t 14)),mv 16 5,rg 17 (.build [(.b false),(.sl [] .nl)] [(0,1,(.t 15)),(1,1,(.t 16))]),rg 18 (.call 38 [(.t 17)]),mv 19 6,rg 20 (.build [(.b false),(.sl [] .nl),(.sl [] .nl)] [(0,2,(.t 18)),(2,1,(.t 19))]),so (.store 3 (.t 4) (.t 20))])
 (.pre (.norm false [4]) .ret))))
def b203:AX:=
 (.seq
 (.reg [rg 1 (.xop (.box 3) [(.t 0)]),rg 2 (.alloc [(.b false),(.sl [] .nl)]),rg 3 (.mov (.c (.sl [] .nl)))])
 (.seq
 (.seq
 (.reg [rg 4 (.fad 2 (.t 1)),rg 5 (.load none (.t 4)),rg 6 (.call 70 [(.t 5)])])
 (.cond (.t 6)
 (.seq
 (.reg [rg 7 (.build [(.b false),(.sl [] .nl)] []),rg 8 (.call 72 [(.c (u64 1))]),so (.store 2 (.t 2) (.t 7)),mv 3 8])
 (.pre (.norm false [2,3]) .ret))
 .skip))
 (.seq
 (.draw [⟨rg 9 (.fad 0 (.t 1)),0,0⟩,⟨rg 10 (.load (some 2) (.t 9)),0,0⟩,⟨rg 11 (.fad 2 (.t 1)),0,1⟩,⟨rg 12 (.load none (.t 11)),0,1⟩,⟨so (.store 2 (.t 2) (.t 10)),0,1⟩,⟨mv 3 12,1,1⟩])
 (.pre (.norm false [2,3]) .ret))))
def b205:AX:=
 (.seq
 (.reg [rg 2 (.alloc [(.b false),(.sl [] .nl),(.sl [] .nl)])])
 (.seq
 (.reg [mv 3 0,rg 4 (.call 41 [(.t 3)]),rg 5 (.call 72 [(.c (u64 1))]),rg 6 (.build [(.b false),(.sl [] .nl),(.sl [] .nl)] [(0,2,(.t 4)),(2,1,(.t 5))]),so (.store 3 (.t 2) (.t 6))])
 (.pre (.norm false [2]) .ret)))
def b210:AX:=
 (.seq
 (.reg [rg 2 (.xop (.box 2) [(.t 0)]),rg 4 (.alloc [(.b false),(.sl [] .nl)])])
 (.seq
 (.reg [rg 5 (.load (some 2) (.t 2)),mv 6 1,rg 7 (.build [(.b false),(.sl [] .nl)] [(1,1,(.t 6))]),rg 8 (.call 27 [(.t 5),(.t 7)]),so (.store 2 (.t 4) (.t 8))])
 (.pre (.norm false [4]) .ret)))
def b211:AX:=
 (.seq
 (.reg [rg 2 (.xop (.box 3) [(.t 0)]),rg 3 (.xop (.box 3) [(.t 1)]),rg 4 (.mov (.c (.i .i64 0)))])
 (.seq
 (.reg [rg 10 (.load (some 3) (.t 2)),rg 11 (.call 203 [(.t 10)]),mv 9 11,rg 12 (.ext (.t 9) 0),rg 13 (.ext (.t 9) 1),rg 5 (.alloc [(.b false),(.sl [] .nl)]),so (.store 2 (.t 5) (.t 12)),mv 6 13])
 (.seq
 (.reg [rg 15 (.load (some 3) (.t 3)),rg 16 (.call 203 [(.t 15)]),mv 14 16,rg 17 (.ext (.t 14) 0),rg 18 (.ext (.t 14) 1),rg 7 (.alloc [(.b false),(.sl [] .nl)]),so (.store 2 (.t 7) (.t 17)),mv 8 18])
 (.seq
 (.drawT [rg 19 (.load (some 2) (.t 5)),mv 20 8,rg 21 (.call 210 [(.t 19),(.t 20)]),rg 22 (.load (some 2) (.t 7)),mv 23 6]
 [rg 24 (.call 210 [(.t 22),(.t 23)]),rg 25 (.call 36 [(.t 21),(.t 24)]),mv 4 25])
 (.pre (.norm false [4]) .ret)))))
def b212:AX:=
 (.seq
 (.reg [rg 2 (.xop (.box 3) [(.t 0)]),rg 3 (.xop (.box 3) [(.t 1)]),rg 4 (.mov (.c (.b false)))])
 (.seq
 (.reg [rg 5 (.load (some 3) (.t 2)),rg 6 (.load (some 3) (.t 3)),rg 7 (.call 211 [(.t 5),(.t 6)]),rg 8 (.bin .eql (.t 7) (.c (.i .i64 0))),mv 4 8])
 (.pre (.norm false [4]) .ret)))
class CFrac (T:Tbl):Prop where
 h202:T 202=some ⟨2,21,[.cell 4 (some 3)],b202,none,false⟩
 h203:T 203=some ⟨1,13,[.cell 2 (some 2),.t 3],b203,none,false⟩
 h205:T 205=some ⟨1,7,[.cell 2 (some 3)],b205,none,false⟩
 h210:T 210=some ⟨2,9,[.cell 4 (some 2)],b210,none,false⟩
 h211:T 211=some ⟨2,26,[.t 4],b211,none,false⟩
 h212:T 212=some ⟨2,9,[.t 4],b212,none,false⟩
section
variable{T:Tbl}[CFrac T]{d:Option Nat}{st:St}{xs:List AV}{ps:List Opd}{e:Env}{h:Heap}{ol:List Heap}
@[simp] theorem x202:callX (orc T) T 202 xs d st=cP T 202 false xs d st:=zaa CFrac.h202
theorem f202(xs:List AV)(hn:xs.length=2):callF T 202 xs=retF [.cell 4 (some 3)] false (evX (orc T) T 0 b202 ⟨argEnv xs,[],1⟩):=zac CFrac.h202 hn
end
def b204:AX:=
 (.seq
 (.reg [rg 2 (.xop (.box 2) [(.t 0)]),rg 4 (.alloc [(.b false),(.sl [] .nl),(.sl [] .nl)]),rg 5 (.mov (.c (.b false)))])
 (.seq
 (.seq
 (.reg [mv 6 1,rg 7 (.call 70 [(.t 6)])])
 (.cond (.t 7)
 (.seq
 (.reg [rg 8 (.call 205 [(.c (.i .i64 0))]),so (.store 3 (.t 4) (.t 8)),rg 5 (.mov (.c (.b false)))])
 (.pre (.norm false [4,5]) .ret))
 .skip))
 (.seq
 (.reg [rg 9 (.load (some 2) (.t 2)),mv 10 1,rg 11 (.call 202 [(.t 9),(.t 10)]),so (.store 3 (.t 4) (.t 11)),rg 5 (.mov (.c (.b true)))])
 (.pre (.norm false [4,5]) .ret))))
class CFrac2 (T:Tbl):Prop where
 h204:T 204=some ⟨2,12,[.cell 4 (some 3),.t 5],b204,none,false⟩
section
variable{T:Tbl}[CFrac2 T]{d:Option Nat}{st:St}{xs:List AV}{ps:List Opd}{e:Env}{h:Heap}{ol:List Heap}
@[simp] theorem x204:callX (orc T) T 204 xs d st=cP T 204 false xs d st:=zaa CFrac2.h204
theorem f204(xs:List AV)(hn:xs.length=2):callF T 204 xs=retF [.cell 4 (some 3),.t 5] false (evX (orc T) T 0 b204 ⟨argEnv xs,[],1⟩):=zac CFrac2.h204 hn
end
class CFrac3 (T:Tbl):Prop where
class CFrac5 (T:Tbl):Prop where
class CPow (T:Tbl):Prop where
def l224_0:AX:=
 (.note
 (.seq
 (.seq
 (.reg [mv 6 0,rg 7 (.bin .rem (.t 6) (.c (u32 2))),rg 8 (.bin .eql (.t 7) (.c (u32 0)))])
 (.cond (.t 8)
 .skip
 (.exit 0)))
 (.block 1
 (.seq
 (.reg [mv 9 0,rg 10 (.bin .quo (.t 9) (.c (u32 2))),mv 0 10])
 (.reg [mv 11 3,rg 12 (.bin .add (.t 11) (.c (.i .i64 1))),mv 3 12]))))
 (.norm false [0,3]))
def b224:AX:=
 (.seq
 (.reg [rg 2 (.mov (.c (.i .i64 0)))])
 (.seq
 (.seq
 (.reg [mv 4 0,rg 5 (.bin .eql (.t 4) (.c (u32 0)))])
 (.cond (.t 5)
 (.seq
 (.reg [rg 2 (.mov (.c (.i .i64 32)))])
 (.pre (.norm false [2]) .ret))
 .skip))
 (.seq
 (.reg [rg 3 (.mov (.c (.i .i64 0)))])
 (.seq
 (.lp 0 (.norm false [0,3]) l224_0 (.norm false [3]))
 (.seq
 (.reg [mv 13 3,mv 2 13])
 (.pre (.norm false [2]) .ret))))))
def l225_0:AX:=
 (.note
 (.seq
 (.seq
 (.reg [mv 7 5,mv 8 0,rg 9 (.len (.t 8)),rg 10 (.bin .lss (.t 7) (.t 9))])
 (.cond (.t 10)
 .skip
 (.exit 0)))
 (.seq
 (.block 1
 (.seq
 (.reg [rg 6 (.mov (.c (u64 0)))])
 (.seq
 (.seq
 (.reg [mv 13 5,rg 14 (.bin .add (.t 13) (.c (.i .i64 1))),mv 15 0,rg 16 (.len (.t 15)),rg 17 (.bin .lss (.t 14) (.t 16))])
 (.cond (.t 17)
 (.reg [mv 18 0,mv 19 5,rg 20 (.bin .add (.t 19) (.c (.i .i64 1))),rg 21 (.iad 1 (.t 18) (.t 20)),rg 22 (.load none (.t 21)),rg 23 (.conv .u64 (.t 22)),mv 6 23])
 .skip))
 (.reg [mv 24 0,mv 25 5,mv 26 6,rg 27 (.bin .mul (.t 26) (.c (u64 4294967296))),mv 28 0,mv 29 5,rg 30 (.iad 1 (.t 28) (.t 29)),rg 31 (.load none (.t 30)),rg 32 (.conv .u64 (.t 31)),rg 33 (.bin .add (.t 27) (.t 32)),mv 34 1,rg 35 (.bin .shr (.t 33) (.t 34)),rg 36 (.conv .u32 (.t 35)),rg 37 (.iad 1 (.t 24) (.t 25)),so (.store 1 (.t 37) (.t 36))]))))
 (.reg [mv 11 5,rg 12 (.bin .add (.t 11) (.c (.i .i64 1))),mv 5 12])))
 (.norm false [0,1,5]))
def l225_1:AX:=
 (.note
 (.seq
 (.seq
 (.reg [mv 38 0,rg 39 (.len (.t 38)),rg 40 (.bin .gtr (.t 39) (.c (.i .i64 0))),mv 41 40,gd 42 41 true (.mov (.t 0)),gd 43 41 true (.mov (.t 0)),gd 44 41 true (.len (.t 43)),gd 45 41 true (.bin .sub (.t 44) (.c (.i .i64 1))),gd 46 41 true (.iad 1 (.t 42) (.t 45)),gd 47 41 true (.load none (.t 46)),gd 48 41 true (.bin .eql (.t 47) (.c (u32 0))),rg 49 (.pick (.t 41) (.t 48) (.c (.b false)))])
 (.cond (.t 49)
 .skip
 (.exit 2)))
 (.block 3
 (.reg [mv 50 0,mv 51 0,rg 52 (.len (.t 51)),rg 53 (.bin .sub (.t 52) (.c (.i .i64 1))),rg 54 (.slc 1 (.t 50) none (some (.t 53)) none),mv 0 54])))
 (.norm false [0]))
def b225:AX:=
 (.seq
 (.reg [rg 4 (.mov (.c (.sl [] .nl)))])
 (.seq
 (.seq
 (.reg [rg 5 (.mov (.c (.i .i64 0)))])
 (.lp 0 (.norm false [0,1,5]) l225_0 (.norm false [0])))
 (.seq
 (.lp 2 (.norm false [0]) l225_1 (.norm false [0]))
 (.seq
 (.reg [mv 55 0,mv 4 55])
 (.pre (.norm false [4]) .ret)))))
def l226_0:AX:=
 (.note
 (.seq
 (.seq
 (.reg [mv 6 0,rg 7 (.iad 1 (.t 6) (.c (.i .i64 0))),rg 8 (.load none (.t 7)),rg 9 (.bin .eql (.t 8) (.c (u32 0)))])
 (.cond (.t 9)
 .skip
 (.exit 0)))
 (.block 1
 (.seq
 (.reg [mv 10 0,rg 11 (.slc 1 (.t 10) (some (.c (.i .i64 1))) none none),mv 0 11])
 (.reg [mv 12 4,rg 13 (.bin .add (.t 12) (.c (.i .i64 32))),mv 4 13]))))
 (.norm false [0,4]))
def b226:AX:=
 (.seq
 (.reg [rg 2 (.mov (.c (.sl [] .nl))),rg 3 (.mov (.c (.i .i64 0)))])
 (.seq
 (.reg [rg 4 (.mov (.c (.i .i64 0)))])
 (.seq
 (.lp 0 (.norm false [0,4]) l226_0 (.norm false [0,4]))
 (.seq
 (.reg [mv 14 0,rg 15 (.iad 1 (.t 14) (.c (.i .i64 0))),rg 16 (.load none (.t 15)),rg 17 (.call 224 [(.t 16)]),mv 5 17])
 (.seq
 (.reg [mv 18 0,mv 19 5,rg 20 (.call 225 [(.t 18),(.t 19)]),mv 21 4,mv 22 5,rg 23 (.bin .add (.t 21) (.t 22)),mv 2 20,mv 3 23])
 (.pre (.norm false [2,3]) .ret))))))
def b227:AX:=
 (.seq
 (.reg [rg 4 (.mov (.c (.sl [] .nl)))])
 (.seq
 (.reg [mv 6 1,rg 7 (.bin .quo (.t 6) (.c (.i .i64 32))),rg 8 (.mks 1 [(u32 0)] (.t 7) (.t 7)),mv 9 0,rg 10 (.app 1 (.t 8) (.t 9)),mv 5 10])
 (.seq
 (.reg [mv 11 5,mv 12 1,rg 13 (.bin .rem (.t 12) (.c (.i .i64 32))),rg 14 (.bin .shl (.c (u32 1)) (.t 13)),rg 15 (.bsl 1 [(u32 0)] 1 [(0,(.t 14))]),rg 16 (.call 61 [(.t 11),(.t 15)]),mv 4 16])
 (.pre (.norm false [4]) .ret))))
def l228_0:AX:=
 (.note
 (.block 1
 (.seq
 (.reg [mv 33 5,mv 34 6,rg 35 (.call 52 [(.t 33),(.t 34)]),mv 9 35])
 (.seq
 (.seq
 (.reg [mv 36 9,rg 37 (.bin .eql (.t 36) (.c (.i .i64 0)))])
 (.cond (.t 37)
 (.exit 0)
 .skip))
 (.seq
 (.seq
 (.reg [mv 38 9,rg 39 (.bin .lss (.t 38) (.c (.i .i64 0)))])
 (.cond (.t 39)
 (.seq
 (.reg [mv 40 5,mv 10 40])
 (.seq
 (.reg [mv 41 6,mv 5 41])
 (.reg [mv 42 10,mv 6 42])))
 .skip))
 (.seq
 (.reg [mv 43 5,mv 44 6,rg 45 (.call 2097 [(.t 43),(.t 44)])])
 (.reg [mv 47 5,rg 48 (.call 226 [(.t 47)]),mv 46 48,rg 49 (.ext (.t 46) 0),rg 50 (.ext (.t 46) 1),mv 5 49]))))))
 (.norm false [5,6,7,8]))
def b228:AX:=
 (.seq
 (.reg [rg 4 (.mov (.c (.sl [] .nl)))])
 (.seq
 (.reg [mv 11 0,rg 12 (.call 2043 [(.t 11)]),mv 5 12])
 (.seq
 (.reg [mv 13 1,rg 14 (.call 2043 [(.t 13)]),mv 6 14])
 (.seq
 (.seq
 (.reg [mv 15 5,rg 16 (.len (.t 15)),rg 17 (.bin .eql (.t 16) (.c (.i .i64 0)))])
 (.cond (.t 17)
 (.seq
 (.reg [mv 18 6,mv 4 18])
 (.pre (.norm false [4]) .ret))
 .skip))
 (.seq
 (.seq
 (.reg [mv 19 6,rg 20 (.len (.t 19)),rg 21 (.bin .eql (.t 20) (.c (.i .i64 0)))])
 (.cond (.t 21)
 (.seq
 (.reg [mv 22 5,mv 4 22])
 (.pre (.norm false [4]) .ret))
 .skip))
 (.seq
 (.reg [mv 24 5,rg 25 (.call 226 [(.t 24)]),mv 23 25,rg 26 (.ext (.t 23) 0),rg 27 (.ext (.t 23) 1),mv 5 26,mv 7 27])
 (.seq
 (.reg [mv 29 6,rg 30 (.call 226 [(.t 29)]),mv 28 30,rg 31 (.ext (.t 28) 0),rg 32 (.ext (.t 28) 1),mv 6 31,mv 8 32])
 (.seq
 (.lp 0 (.norm false [5,6,7,8]) l228_0 (.norm false [5,7,8]))
 (.seq
 (.reg [mv 51 5,mv 52 7,mv 53 8,rg 54 (.mm false [(.t 52),(.t 53)]),rg 55 (.call 227 [(.t 51),(.t 54)]),mv 4 55])
 (.pre (.norm false [4]) .ret))))))))))
def b229:AX:=
 (.seq
 (.reg [rg 2 (.mov (.c (.b false)))])
 (.seq
 (.reg [mv 3 0,rg 4 (.len (.t 3)),rg 5 (.bin .eql (.t 4) (.c (.i .i64 1))),mv 6 5,gd 7 6 true (.mov (.t 0)),gd 8 6 true (.iad 1 (.t 7) (.c (.i .i64 0))),gd 9 6 true (.load none (.t 8)),gd 10 6 true (.bin .eql (.t 9) (.c (u32 1))),rg 11 (.pick (.t 6) (.t 10) (.c (.b false))),mv 2 11])
 (.pre (.norm false [2]) .ret)))
def b230:AX:=
 (.seq
 (.reg [rg 4 (.mov (.c (.sl [] .nl)))])
 (.seq
 (.seq
 (.reg [mv 7 1,rg 8 (.call 229 [(.t 7)])])
 (.cond (.t 8)
 (.seq
 (.reg [mv 9 0,rg 10 (.call 43 [(.t 9)]),mv 4 10])
 (.pre (.norm false [4]) .ret))
 .skip))
 (.seq
 (.reg [mv 12 0,mv 13 1,rg 14 (.call 63 [(.t 12),(.t 13)]),mv 11 14,rg 15 (.ext (.t 11) 0),rg 16 (.ext (.t 11) 1),mv 5 15,mv 6 16])
 (.seq
 (.reg [mv 17 5,mv 4 17])
 (.pre (.norm false [4]) .ret)))))
def l2097_0:AX:=
 (.note
 (.seq
 (.seq
 (.reg [mv 8 5,mv 9 0,rg 10 (.len (.t 9)),rg 11 (.bin .lss (.t 8) (.t 10))])
 (.cond (.t 11)
 .skip
 (.exit 0)))
 (.seq
 (.block 1
 (.seq
 (.reg [mv 14 0,mv 15 5,rg 16 (.iad 1 (.t 14) (.t 15)),rg 17 (.load none (.t 16)),rg 18 (.conv .u64 (.t 17)),mv 6 18])
 (.seq
 (.reg [mv 19 1,mv 20 5,rg 21 (.call 84 [(.t 19),(.t 20)]),rg 22 (.conv .u64 (.t 21)),mv 23 4,rg 24 (.bin .add (.t 22) (.t 23)),mv 7 24])
 (.seq
 (.reg [rg 4 (.mov (.c (u64 0)))])
 (.seq
 (.seq
 (.reg [mv 25 6,mv 26 7,rg 27 (.bin .lss (.t 25) (.t 26))])
 (.cond (.t 27)
 (.seq
 (.reg [mv 28 6,rg 29 (.bin .add (.t 28) (.c (u64 4294967296))),mv 6 29])
 (.reg [rg 4 (.mov (.c (u64 1)))]))
 .skip))
 (.reg [mv 30 0,mv 31 5,mv 32 6,mv 33 7,rg 34 (.bin .sub (.t 32) (.t 33)),rg 35 (.conv .u32 (.t 34)),rg 36 (.iad 1 (.t 30) (.t 31)),so (.store 1 (.t 36) (.t 35))]))))))
 (.reg [mv 12 5,rg 13 (.bin .add (.t 12) (.c (.i .i64 1))),mv 5 13])))
 (.norm false [0,1,4,5]))
def b2097:AX:=
 (.seq
 (.reg [rg 4 (.mov (.c (u64 0)))])
 (.seq
 (.reg [rg 5 (.mov (.c (.i .i64 0)))])
 (.lp 0 (.norm false [0,1,4,5]) l2097_0 (.norm false []))))
class CRef06 (T:Tbl):Prop where
 h224:T 224=some ⟨1,14,[.t 2],b224,none,false⟩
 h225:T 225=some ⟨2,56,[.t 4],b225,(some [true,false]),false⟩
 h226:T 226=some ⟨1,24,[.t 2,.t 3],b226,(some [true]),false⟩
 h227:T 227=some ⟨2,17,[.t 4],b227,none,false⟩
 h228:T 228=some ⟨2,56,[.t 4],b228,none,false⟩
 h229:T 229=some ⟨1,12,[.t 2],b229,none,false⟩
 h230:T 230=some ⟨2,18,[.t 4],b230,none,false⟩
 h2097:T 2097=some ⟨2,37,[],b2097,(some [true,true]),false⟩
section
variable{T:Tbl}[CRef06 T]{d:Option Nat}{st:St}{xs:List AV}{ps:List Opd}{e:Env}{h:Heap}{ol:List Heap}
@[simp] theorem x224:callX (orc T) T 224 xs d st=cP T 224 false xs d st:=zaa CRef06.h224
theorem f224(xs:List AV)(hn:xs.length=1):callF T 224 xs=retF [.t 2] false (evX (orc T) T 0 b224 ⟨argEnv xs,[],1⟩):=zac CRef06.h224 hn
@[simp] theorem x225:callX (orc T) T 225 xs d st=cL T 225 false [true,false] xs d st:=zap CRef06.h225
theorem f225(xs:List AV)(hb:Heap)(hn:xs.length=2):callH T 225 xs hb=retH [.t 4] false hb.length (evX (orc T) T hb.length b225 ⟨argEnv xs,hb,hb.length+1⟩):=zax CRef06.h225 hn
@[simp] theorem x226:callX (orc T) T 226 xs d st=cL T 226 false [true] xs d st:=zap CRef06.h226
theorem f226(xs:List AV)(hb:Heap)(hn:xs.length=1):callH T 226 xs hb=retH [.t 2,.t 3] false hb.length (evX (orc T) T hb.length b226 ⟨argEnv xs,hb,hb.length+1⟩):=zax CRef06.h226 hn
@[simp] theorem x227:callX (orc T) T 227 xs d st=cP T 227 false xs d st:=zaa CRef06.h227
theorem f227(xs:List AV)(hn:xs.length=2):callF T 227 xs=retF [.t 4] false (evX (orc T) T 0 b227 ⟨argEnv xs,[],1⟩):=zac CRef06.h227 hn
@[simp] theorem x228:callX (orc T) T 228 xs d st=cP T 228 false xs d st:=zaa CRef06.h228
theorem f228(xs:List AV)(hn:xs.length=2):callF T 228 xs=retF [.t 4] false (evX (orc T) T 0 b228 ⟨argEnv xs,[],1⟩):=zac CRef06.h228 hn
@[simp] theorem x229:callX (orc T) T 229 xs d st=cP T 229 false xs d st:=zaa CRef06.h229
theorem f229(xs:List AV)(hn:xs.length=1):callF T 229 xs=retF [.t 2] false (evX (orc T) T 0 b229 ⟨argEnv xs,[],1⟩):=zac CRef06.h229 hn
@[simp] theorem x230:callX (orc T) T 230 xs d st=cP T 230 false xs d st:=zaa CRef06.h230
theorem f230(xs:List AV)(hn:xs.length=2):callF T 230 xs=retF [.t 4] false (evX (orc T) T 0 b230 ⟨argEnv xs,[],1⟩):=zac CRef06.h230 hn
@[simp] theorem x2097:callX (orc T) T 2097 xs d st=cL T 2097 false [true,true] xs d st:=zap CRef06.h2097
theorem f2097(xs:List AV)(hb:Heap)(hn:xs.length=2):callH T 2097 xs hb=retH [] false hb.length (evX (orc T) T hb.length b2097 ⟨argEnv xs,hb,hb.length+1⟩):=zax CRef06.h2097 hn
end
theorem zwh{left w:Nat}(h:left<10)(hw:w<4294967296):(left*4294967296+w)/10<4294967296∧(left*4294967296+w)%10<10:=by omega
section
variable{T:Tbl}[CRef07 T]
theorem zb6(a:List UInt32)(hl:a.length≤1000000):callH T 2043 [.sl (u32s a) .an] [] =
  some (.bs (.loc 22) 1 1 0 (ofN (val a)).length,[(.loc 22,⟨1,.own,1,u32s (ofN (val a))⟩)]):=by
 obtain⟨n,h1,h2,h3,h4⟩:=zd1 a
 have hr:=zds (T:=T) a (by omega) h1 h3 h4 a.length ⟨h1,Nat.le_refl _⟩
 rw[show l43_0=l2043_0 from rfl]at hr
 have hlen:(ofN (val a)).length=n:=by rw[←h2];simp;omega
 have hb:n≤4294967296:=by omega
 rw[f2043 _ _ rfl,b2043]
 simp -implicitDefEqProofs[hr,h1,h2,hb,hlen]
def stTen(N:Nat)(y:Nat×Nat×List UInt32)(P:List UInt32):St:=
 ⟨[(0,.bs (.bor 0) 0 1 0 N),(3,u64 y.2.1),(4,.i .i64 ((y.1:Int)-1))],[(.bor 0,⟨0,.own,1,u32s (P.take y.1++y.2.2)⟩)],4⟩
end
section
variable{T:Tbl}
theorem zwi(a:List UInt32)(hl:a.length≤1000000):∀y:Nat×Nat×List UInt32,
  (y.1≤a.length∧y.2.1<10∧y.2.2.length=a.length-y.1∧val (a.drop y.1)=10*val y.2.2+y.2.1) →
  ∃r,(∃(c:Nat) (m:List UInt32),r=(Ex.n,(⟨[(3,u64 c)],[(.bor 0,⟨0,.own,1,u32s m⟩)],4⟩:St))∧c<10∧m.length=a.length∧val a=10*val m+c) ∧
   loopN T 1 0 (.norm false [3]) l105_0 (stTen a.length y a)=some r:=by
 refine zas _ _ (fun y=>y.1) _ ?_
 rintro⟨k,c,m⟩ ⟨hk,hc,hm,hv⟩
 simp only at hk hc hm hv
 cases k with
 | zero=>
  right
  rw[List.drop_zero]at hv
  refine⟨_,⟨c,m,rfl,hc,by omega,hv⟩,?_,?_⟩<;>simp -implicitDefEqProofs[l105_0,stTen]
 | succ j=>
  left
  have hja:j<a.length:=by omega
  have hy:=zan (a[j]'hja)
  have hd:=List.drop_eq_getElem_cons hja
  have hw:IntKind.wrap .i64 ((j:Int)-1)=(j:Int)-1:=zab _ (by omega)
  have ht:a.take (j+1)=a.take j++[a[j]'hja]:=List.take_succ_eq_append_getElem hja
  have hg:(a.take (j+1)++m)[j]? = some (a[j]'hja):=by
   rw[ht,List.append_assoc,List.getElem?_append_right (by simp;omega)]
   simp[Nat.min_eq_left (Nat.le_of_lt hja)]
  have hset:∀w,(a.take (j+1)++m).set j w=a.take j++w::m:=by
   intro w
   rw[ht,List.append_assoc,List.set_append_right _ _ (by simp;omega)]
   simp[Nat.min_eq_left (Nat.le_of_lt hja)]
  have hlen:(a.take (j+1)++m).length=a.length:=by simp;omega
  obtain⟨s1,s2⟩:=zwh hc hy
  refine⟨(j,(c*4294967296+(a[j]'hja).toNat)%10,w32 ((c*4294967296+(a[j]'hja).toNat)/10)::m),⟨by simp only;omega,s2,by simp[hm];omega,?_⟩,Nat.lt_succ_self j,?_⟩
  ·simp only
   rw[hd,zai,hv,zai,zad s1]
   generalize (a[j]'hja).toNat=w at *
   omega
  ·have m1:c*4294967296%18446744073709551616=c*4294967296:=Nat.mod_eq_of_lt (by omega)
   have m2:(a[j]'hja).toNat%18446744073709551616=(a[j]'hja).toNat:=Nat.mod_eq_of_lt (by omega)
   have m3:(c*4294967296+(a[j]'hja).toNat)%18446744073709551616=c*4294967296+(a[j]'hja).toNat:=Nat.mod_eq_of_lt (by omega)
   have m4:(c*4294967296+(a[j]'hja).toNat)/10%18446744073709551616=(c*4294967296+(a[j]'hja).toNat)/10:=Nat.mod_eq_of_lt (by omega)
   have m5:(c*4294967296+(a[j]'hja).toNat)/10%4294967296=(c*4294967296+(a[j]'hja).toNat)/10:=Nat.mod_eq_of_lt (by omega)
   simp -implicitDefEqProofs[l105_0,stTen,hja,hw,hg,hset,m1,m2,m3,m4,m5,zbj _ _ _ s1]
end
section
variable{T:Tbl}[CRef07 T]
theorem zt8(a:List UInt32)(hl:a.length≤1000000):∃m:List UInt32,m.length=a.length∧val m=val a/10 ∧
  callH T 105 [.bs (.bor 0) 0 1 0 a.length] [(.bor 0,⟨0,.own,1,u32s a⟩)]=some (u64 (val a%10),[(.bor 0,⟨0,.own,1,u32s m⟩)]):=by
 obtain⟨_,⟨c,m,rfl,hc,hm,hv⟩,hr⟩:=zwi (T:=T) a hl (a.length,0,[]) ⟨Nat.le_refl _,(by decide:0<10),by simp,by simp⟩
 have e1:val a%10=c:=by omega
 have hw:IntKind.wrap .i64 ((a.length:Int)-1)=(a.length:Int)-1:=zab _ (by omega)
 refine⟨m,hm,by omega,?_⟩
 unfold stTen at hr
 simp at hr
 rw[e1,f105 _ _ rfl,b105]
 simp -implicitDefEqProofs[hw,hr]
def stTx(b:BId)(x:List UInt32)(s:List UInt8):St:=⟨[(3,.bs b 1 1 0 x.length),(4,.s s)],[(b,⟨1,.own,1,u32s x⟩)],3⟩
theorem zzr(K:Nat)(hK:1≤K∧K≤100000)(res:List UInt8):∀y:BId×Nat×List UInt8,((y.1=.fld (.loc 7) 22∨y.1=.fld (.loc 24) 22)∧(ofN y.2.1).length≤1000∧y.2.2.length≤K∧y.2.1<10^(K-y.2.2.length)∧txN y.2.1 y.2.2=res) →
  loopN T 0 0 (.norm false [4]) l69_0 (stTx y.1 (ofN y.2.1) y.2.2)=some (.n,⟨[(4,.s res)],[],2⟩):=by
 refine zaw (fun y:BId×Nat×List UInt8=>stTx y.1 (ofN y.2.1) y.2.2) _ (fun y=>y.2.1+if y.2.2=[] then 1 else 0) _ ?_
 rintro⟨b,n,s⟩ ⟨hb,hl,hs,hn,hres⟩
 simp only at hb hl hs hn hres
 by_cases h0:n=0∧s≠[]
 ·right
  obtain⟨rfl,hs0⟩:=h0
  have hr:res=s:=by rw[←hres];unfold txN;rw[if_pos ⟨rfl,hs0⟩]
  subst hr
  constructor<;>simp -implicitDefEqProofs[l69_0,stTx,hs0]
 ·left
  have hor:n=0→s=[]:=fun h=>Classical.byContradiction fun h2=>h0 ⟨h,h2⟩
  obtain⟨m,hm,hvm,hten⟩:=zt8 (T:=T) (ofN n) (by omega)
  rw[zag]at hvm hten
  have hno:=zb6 (T:=T) m (by omega)
  rw[hvm]at hno
  have hd10:n%10<10:=Nat.mod_lt _ (by decide)
  have hdig:=zwr (n%10) hd10
  have hstep:=zwq n s ((Nat.eq_zero_or_pos n).elim (fun h=>.inr (hor h)) (fun h=>.inl (by omega)))
  have hol:(ofN (n/10)).length≤(ofN n).length:=zar (Nat.div_le_self _ _)
  have hk1:s.length<K:=by
   rcases Nat.lt_or_ge s.length K with h | h
   ·exact h
   ·rw[show K-s.length=0 by omega,Nat.pow_zero]at hn
    rw[hor (by omega)]at h
    simp at h
    omega
  have hk2:n/10<10^(K-(s.length+1)):=by
   refine Nat.div_lt_of_lt_mul ?_
   rw[Nat.mul_comm,←Nat.pow_succ,show (K-(s.length+1)).succ=K-s.length by omega]
   exact hn
  have hgo:¬ 0<(ofN n).length→s=[]:=by
   intro h
   exact hor (zau.1 (List.eq_nil_of_length_eq_zero (by omega)))
  obtain⟨d,hd⟩:∃d,d=n%10:=⟨_,rfl⟩
  obtain⟨q,hq⟩:∃q,q=n/10:=⟨_,rfl⟩
  rw[←hd]at hten hd10 hdig hstep
  rw[←hq]at hno hstep hol hk2
  refine⟨(.fld (.loc 24) 22,q,UInt8.ofNat (48+d)::s),⟨.inr rfl,by simp only;omega,by simp only[List.length_cons];omega,hk2,hstep.trans hres⟩,?_,?_,rfl⟩
  ·simp only[reduceCtorEq,if_false]
   rcases Nat.eq_zero_or_pos n with h1 | h1
   ·rw[if_pos (hor h1)];omega
   ·split<;>omega
  ·have m1:(d+1)%18446744073709551616=d+1:=Nat.mod_eq_of_lt (by omega)
   have m2:(d:Int)+1≤10:=by omega
   have m3:1+s.length≤9223372036854775807:=by omega
   have m4:List.take (ofN n).length m=m:=List.take_of_length_le (by omega)
   simp at hdig
   clear hd hq hn hk2 hvm
   rcases hb with rfl | rfl<;>by_cases hl0:0<(ofN n).length
   ·simp -implicitDefEqProofs[l69_0,stTx,hten,hno,hdig,m1,m2,m3,m4,hm,hl0]
   ·have:=hgo hl0
    subst this
    simp -implicitDefEqProofs[l69_0,stTx,hten,hno,hdig,m1,m2,m4,hm,hl0]
   ·simp -implicitDefEqProofs[l69_0,stTx,hten,hno,hdig,m1,m2,m3,m4,hm,hl0]
   ·have:=hgo hl0
    subst this
    simp -implicitDefEqProofs[l69_0,stTx,hten,hno,hdig,m1,m2,m4,hm,hl0]
theorem zqq(a:List UInt32)(hl:a.length≤1000):callF T 69 [.sl (u32s a) .an]=some (.s (textN (val a))):=by
 have hno:=zb6 (T:=T) a (by omega)
 have hla:=zae a
 obtain⟨K,hK⟩:∃K,K=10000:=⟨_,rfl⟩
 have hv:val a<10^(K-0):=by
  have h1:=za2 a
  have h2:4294967296^a.length≤(10^10)^a.length:=Nat.pow_le_pow_left (by decide) _
  rw[←Nat.pow_mul]at h2
  have h3:10^(10*a.length)≤10^(K-0):=Nat.pow_le_pow_right (by decide) (by omega)
  exact Nat.lt_of_lt_of_le h1 (Nat.le_trans h2 h3)
 have h:=zzr (T:=T) K ⟨by omega,by omega⟩ (textN (val a)) (.fld (.loc 7) 22,val a,[]) ⟨.inl rfl,by simp only;omega,Nat.zero_le _,hv,by unfold txN;simp⟩
 unfold stTx at h
 simp at h
 rw[f69 _ rfl,b69]
 simp -implicitDefEqProofs[hno,h]
end
class CRef08 (T:Tbl):Prop extends CRef07 T where
def b231:AX:=
 (.seq
 (.reg [rg 1 (.xop (.box 3) [(.t 0)]),rg 2 (.alloc [(.b false),(.sl [] .nl),(.sl [] .nl)])])
 (.seq
 (.reg [rg 6 (.fad 2 (.t 1)),rg 7 (.load none (.t 6)),rg 8 (.call 43 [(.t 7)]),mv 3 8])
 (.seq
 (.reg [rg 9 (.fad 1 (.t 1)),rg 10 (.load none (.t 9)),rg 11 (.call 43 [(.t 10)]),mv 4 11])
 (.seq
 (.seq
 (.reg [mv 12 3,rg 13 (.len (.t 12)),rg 14 (.bin .eql (.t 13) (.c (.i .i64 0))),mv 15 14,gd 16 15 false (.mov (.t 4)),gd 17 15 false (.len (.t 16)),gd 18 15 false (.bin .eql (.t 17) (.c (.i .i64 0))),rg 19 (.pick (.t 15) (.c (.b true)) (.t 18))])
 (.cond (.t 19)
 (.seq
 (.reg [rg 20 (.bsl 1 [(u32 0)] 0 []),rg 21 (.bsl 1 [(u32 0)] 1 [(0,(.c (u32 1)))]),rg 22 (.build [(.b false),(.sl [] .nl),(.sl [] .nl)] [(1,1,(.t 20)),(2,1,(.t 21))]),so (.store 3 (.t 2) (.t 22))])
 (.pre (.norm false [2]) .ret))
 .skip))
 (.seq
 (.seq
 (.reg [mv 23 3,rg 24 (.call 229 [(.t 23)]),rg 25 (.un .not (.t 24))])
 (.cond (.t 25)
 (.seq
 (.reg [mv 26 4,mv 27 3,rg 28 (.call 228 [(.t 26),(.t 27)]),mv 5 28])
 (.seq
 (.reg [mv 29 4,mv 30 5,rg 31 (.call 230 [(.t 29),(.t 30)]),mv 4 31])
 (.reg [mv 32 3,mv 33 5,rg 34 (.call 230 [(.t 32),(.t 33)]),mv 3 34])))
 .skip))
 (.seq
 (.reg [rg 35 (.fad 0 (.t 1)),rg 36 (.load none (.t 35)),mv 37 4,mv 38 3,rg 39 (.build [(.b false),(.sl [] .nl),(.sl [] .nl)] [(0,1,(.t 36)),(1,1,(.t 37)),(2,1,(.t 38))]),so (.store 3 (.t 2) (.t 39))])
 (.pre (.norm false [2]) .ret)))))))
def b233:AX:=
 (.seq
 (.reg [rg 2 (.xop (.box 3) [(.t 0)]),rg 3 (.xop (.box 3) [(.t 1)]),rg 4 (.mov (.c (.b false)))])
 (.seq
 (.reg [rg 5 (.fad 0 (.t 2)),rg 6 (.load none (.t 5)),rg 7 (.fad 0 (.t 3)),rg 8 (.load none (.t 7)),rg 9 (.eqb false (.t 6) (.t 8)),mv 10 9,gd 11 10 true (.fad 1 (.t 2)),gd 12 10 true (.load none (.t 11)),gd 13 10 true (.fad 1 (.t 3)),gd 14 10 true (.load none (.t 13)),gd 15 10 true (.call 54 [(.t 12),(.t 14)]),rg 16 (.pick (.t 10) (.t 15) (.c (.b false))),mv 17 16,gd 18 17 true (.fad 2 (.t 2)),gd 19 17 true (.load none (.t 18)),gd 20 17 true (.fad 2 (.t 3)),gd 21 17 true (.load none (.t 20)),gd 22 17 true (.call 54 [(.t 19),(.t 21)]),rg 23 (.pick (.t 17) (.t 22) (.c (.b false))),mv 4 23])
 (.pre (.norm false [4]) .ret)))
class CRef09 (T:Tbl):Prop where
 h231:T 231=some ⟨1,40,[.cell 2 (some 3)],b231,none,false⟩
 h233:T 233=some ⟨2,24,[.t 4],b233,none,false⟩
section
variable{T:Tbl}[CRef09 T]{d:Option Nat}{st:St}{xs:List AV}{ps:List Opd}{e:Env}{h:Heap}{ol:List Heap}
@[simp] theorem x231:callX (orc T) T 231 xs d st=cP T 231 false xs d st:=zaa CRef09.h231
@[simp] theorem y231:opD (orc T) T (.call 231 ps) e h ol=dP T 231 false ps e:=zce CRef09.h231
theorem f231(xs:List AV)(hn:xs.length=1):callF T 231 xs=retF [.cell 2 (some 3)] false (evX (orc T) T 0 b231 ⟨argEnv xs,[],1⟩):=zac CRef09.h231 hn
@[simp] theorem x233:callX (orc T) T 233 xs d st=cP T 233 false xs d st:=zaa CRef09.h233
theorem f233(xs:List AV)(hn:xs.length=2):callF T 233 xs=retF [.t 4] false (evX (orc T) T 0 b233 ⟨argEnv xs,[],1⟩):=zac CRef09.h233 hn
end
class CRef11 (T:Tbl):Prop where
def b249:AX:=
 (.seq
 (.reg [rg 1 (.xop (.box 3) [(.t 0)]),rg 2 (.alloc [(.b false),(.sl [] .nl),(.sl [] .nl)])])
 (.seq
 (.reg [rg 3 (.fad 0 (.t 1)),rg 4 (.fad 0 (.t 3)),rg 5 (.load none (.t 4)),rg 6 (.fad 0 (.t 1)),rg 7 (.fad 1 (.t 6)),rg 8 (.load none (.t 7)),rg 9 (.fad 2 (.t 1)),rg 10 (.load none (.t 9)),rg 11 (.build [(.b false),(.sl [] .nl),(.sl [] .nl)] [(0,1,(.t 5)),(1,1,(.t 8)),(2,1,(.t 10))]),so (.store 3 (.t 2) (.t 11))])
 (.pre (.norm false [2]) .ret)))
class CLaw09 (T:Tbl):Prop where
 h249:T 249=some ⟨1,12,[.cell 2 (some 3)],b249,none,false⟩
section
variable{T:Tbl}[CLaw09 T]{d:Option Nat}{st:St}{xs:List AV}{ps:List Opd}{e:Env}{h:Heap}{ol:List Heap}
@[simp] theorem y249:opD (orc T) T (.call 249 ps) e h ol=dP T 249 false ps e:=zce CLaw09.h249
theorem f249(xs:List AV)(hn:xs.length=1):callF T 249 xs=retF [.cell 2 (some 3)] false (evX (orc T) T 0 b249 ⟨argEnv xs,[],1⟩):=zac CLaw09.h249 hn
end
class CLaw11 (T:Tbl):Prop where
def b437:AX:=
 (.seq
 (.reg [rg 1 (.xop (.box 6) [(.t 0)]),rg 2 (.alloc [(.i .i64 0),(.i .i64 0),(.i .i64 0)])])
 (.seq
 (.reg [rg 3 (.fad 0 (.t 1)),rg 4 (.load none (.t 3)),rg 5 (.fad 1 (.t 1)),rg 6 (.load none (.t 5)),rg 7 (.fad 2 (.t 1)),rg 8 (.load none (.t 7)),rg 9 (.build [(.i .i64 0),(.i .i64 0),(.i .i64 0)] [(0,1,(.t 4)),(1,1,(.t 6)),(2,1,(.t 8))]),so (.store 3 (.t 2) (.t 9))])
 (.pre (.norm false [2]) .ret)))
class CTape (T:Tbl):Prop where
 h437:T 437=some ⟨1,10,[.cell 2 (some 3)],b437,none,false⟩
class CGauge (T:Tbl):Prop where
class CEval (T:Tbl):Prop where
class CEval2 (T:Tbl):Prop where
class CRow (T:Tbl):Prop where
class CRow5 (T:Tbl):Prop where
end Go.Ab