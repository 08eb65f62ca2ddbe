/-
  A calculus of values, boxes and code, and what functions of the program compute, proved in it.
  Conditions: none beyond those that the theorems state. (Part 4.)
-/
import Derived.Test.YtfdblmomnikehaaDoorPart3

set_option linter.unusedSectionVars false
set_option linter.unusedVariables false
set_option linter.unusedSimpArgs false
set_option linter.unnecessarySimpa false
set_option linter.defProp false
set_option maxRecDepth 100000

namespace Go.Ab
def znx{P m R:List UInt32}{i:Nat}{c:UInt32}(hm:m.length=i):(P++(m++c::R))[P.length+i]? = some c:=by
 grind
def zjg{P m R:List UInt32}{i:Nat}{c:UInt32}(w:UInt32)(hm:m.length=i):(P++(m++c::R)).set (P.length+i) w=P++(m++w::R):=by
 rw[Yai (P.length+i) w (by omega),Ybb,Yai i w (by omega),hm,Yby,Ybv]
def zu9{P m R:List UInt32}{i:Nat}{c d:UInt32}(w:UInt32)(hm:m.length=i):(P++(m++c::d::R)).set (P.length+i+1) w=P++(m++c::w::R):=by
 rw[Yaj,Yai (P.length+(i+1)) w (by omega),Ybb,Yai (i+1) w (by omega),hm,show i+1-i=1 by omega]
 rfl
def zva{P m R:List UInt32}{i:Nat}{c d:UInt32}(hm:m.length=i):(P++(m++c::d::R))[P.length+i+1]? = some d:=by
 grind
theorem zf1(n:Nat):w32 (n%4294967296)=w32 n:=zv4 (by rw[zdm,Nat.mod_mod])
section
variable{T:Tbl}[Zl T][Zt T]
def Zjd(P a:List UInt32)(n:Nat)(y:Nat×Nat×List UInt32):St:=
 ⟨[(5,.i .i64 P.length),(6,.i .i64 n),(7,.bs (.loc 23) 1 1 0 (P.length+a.length+1)),(24,.sl (Za a) .an),(25,.i .i64 a.length),(26,.i .i64 y.1)],[(.loc 23,⟨1,.own,1,Za (P++(y.2.2++w32 y.2.1::List.replicate (a.length-y.1) 0))⟩)],3⟩
end
section
variable{T:Tbl}
def zyc(P a:List UInt32)(n:Nat)(hn:n<32)(hl:P.length+a.length<=1000000):∀y:Nat×Nat×List UInt32,
  (y.1<=a.length/\y.2.1<2^n/\y.2.2.length=y.1/\val y.2.2+4294967296^y.1*y.2.1=2^n*val (a.take y.1)) ->
  ∃r,(∃(c:Nat) (m:List UInt32),r=(Ex.n,(⟨[(7,.bs (.loc 23) 1 1 0 (P.length+a.length+1))],[(.loc 23,⟨1,.own,1,Za (P++(m++[w32 c]))⟩)],3⟩:St)) /\
   m.length=a.length/\c<2^n/\val m+4294967296^a.length*c=2^n*val a)/\Zr T 0 0 (.norm false [7]) l92_0 (Zjd P a n y)=some r:=by
 refine zbc _ _ (fun y=>a.length-y.1) _ ?_
 rintro⟨i,c,m⟩ ⟨hi,hc,hm,hv⟩
 simp only at hi hc hm hv;by_cases h0:i<a.length
 ·left;have ha:a[i]? = some (a[i]'h0):=Ya h0;obtain⟨u1,u2,u3,u4,u5⟩:=zyh (zal (a[i]'h0)) hn hc;have hx:=zal (a[i]'h0);have hrep:List.replicate (a.length-i) (0:UInt32)=0::List.replicate (a.length-(i+1)) 0:=by
   rw[show a.length-i=a.length-(i+1)+1 by omega,Ybs]
  have hw:IntKind.wrap .i64 ((i:Int)+1)=((i+1:Nat):Int):=zac _ (by omega);have hw2:IntKind.wrap .i64 ((P.length:Int)+i)=((P.length+i:Nat):Int):=zac _ (by omega);have hw3:IntKind.wrap .i64 ((P.length:Int)+i+1)=((P.length+i+1:Nat):Int):=zac _ (by omega);have hg:=znx (P:=P) (c:=w32 c) (R:=0::List.replicate (a.length-(i+1)) 0) hm;have hg3:=zva (P:=P) (c:=w32 (c+(a[i]'h0).toNat*2^n%4294967296)) (d:=0) (R:=List.replicate (a.length-(i+1)) 0) hm;have hs1:=zjg (P:=P) (c:=w32 c) (R:=0::List.replicate (a.length-(i+1)) 0) (w32 (c+(a[i]'h0).toNat*2^n%4294967296)) hm;have hs2:=zu9 (P:=P) (c:=w32 (c+(a[i]'h0).toNat*2^n%4294967296)) (d:=0) (R:=List.replicate (a.length-(i+1)) 0) (w32 ((a[i]'h0).toNat*2^n/4294967296)) hm;have hmin:min n 64=n:=by omega
  have hlt1:(P.length:Int)+i<(P.length:Int)+a.length+1:=by omega
  have hlt2:(P.length:Int)+i<(P.length:Int)+a.length:=by omega
  have m1:(a[i]'h0).toNat%18446744073709551616=(a[i]'h0).toNat:=Yu (by omega);have m2:=Yu u1;have m3:=Yu u3;have hcc:c<4294967296:=by omega
  have m4:(a[i]'h0).toNat*2^n/4294967296%4294967296=(a[i]'h0).toNat*2^n/4294967296:=Yu (by omega);have m5:(a[i]'h0).toNat*2^n/4294967296<4294967296:=by omega
  refine⟨(i+1,(a[i]'h0).toNat*2^n/4294967296,m++[w32 (c+(a[i]'h0).toNat*2^n%4294967296)]),⟨h0,u4,by grind,?_⟩,by omega,?_⟩
  ·grind[zaj,zad,zao,zb6,zae,Nat.div_add_mod]
  ·simp -implicitDefEqProofs[l92_0,Zjd,h0,hrep,hw,hw2,hw3,hg,hg3,hs1,hs2,zbd _ _ _ u3,zbd _ _ _ m5,hmin,hlt1,hlt2,m1,m2,m3,m4,u2,zae hcc]
 ·right;have:i=a.length:=by omega
  subst this;rw[Yb (Yg a.length)]at hv;refine⟨_,⟨c,m,rfl,hm,hc,hv⟩,?_,?_⟩<;>simp -implicitDefEqProofs[l92_0,Zjd]
end
section
variable{T:Tbl}[Zl T][Zt T]
def Zix(a:List UInt32)(W n:Nat)(y:Nat×List UInt32):St:=
 ⟨[(0,.sl (Za a) .an),(5,.i .i64 W),(6,.i .i64 n),(7,.bs (.loc 24) 1 1 0 (a.length-W)),(26,.i .i64 (a.length-W:Nat)),(27,.i .i64 y.1)],[(.loc 24,⟨1,.own,1,Za (y.2++List.replicate (a.length-W-y.1) 0)⟩)],3⟩
end
section
variable{T:Tbl}
def zs7(a:List UInt32)(W n:Nat)(hn:n<32)(hW:W<=a.length)(hl:a.length<=1000000):∀y:Nat×List UInt32,
  (y.1<=a.length-W/\y.2.length=y.1/\val y.2+4294967296^y.1*(val (a.drop (W+y.1))/2^n)=val (a.drop W)/2^n) ->
  ∃r,(∃m:List UInt32,r=(Ex.n,(⟨[(7,.bs (.loc 24) 1 1 0 (a.length-W))],[(.loc 24,⟨1,.own,1,Za m⟩)],3⟩:St)) /\
   m.length=a.length-W/\val m=val (a.drop W)/2^n)/\Zr T 0 0 (.norm false [7]) l94_0 (Zix a W n y)=some r:=by
 refine zbc _ _ (fun y=>a.length-W-y.1) _ ?_
 rintro⟨i,m⟩ ⟨hi,hm,hv⟩
 by_cases h0:i<a.length-W
 ·left;have hWi:W+i<a.length:=by omega
  have ha:a[W+i]? = some (a[W+i]'hWi):=Ya hWi;have hx:=zal (a[W+i]'hWi);have hd:=Yab hWi;have hrep:List.replicate (a.length-W-i) (0:UInt32)=0::List.replicate (a.length-W-(i+1)) 0:=by
   rw[show a.length-W-i=a.length-W-(i+1)+1 by omega,Ybs]
  have hw:IntKind.wrap .i64 ((i:Int)+1)=((i+1:Nat):Int):=zac _ (by omega);have hw2:IntKind.wrap .i64 ((W:Int)+i)=((W+i:Nat):Int):=zac _ (by omega);have hw3:IntKind.wrap .i64 ((W:Int)+i+1)=((W+i+1:Nat):Int):=zac _ (by omega);have hg:=znx (P:=[]) (c:=0) (R:=List.replicate (a.length-W-(i+1)) 0) hm;have hmin:min n 64=n:=by omega
  have hlt1:(W:Int)+i<(a.length:Int):=by omega
  have hlt3:((W:Int)+i).toNat=W+i:=by omega
  have m1:(a[W+i]'hWi).toNat%18446744073709551616=(a[W+i]'hWi).toNat:=Yu (by omega);have fin:∀y R:Nat,val (a.drop (W+i+1))=y+4294967296*R->val (m++[w32 (((a[W+i]'hWi).toNat+y*4294967296)/2^n%4294967296)])+4294967296^(i+1)*(val (a.drop (W+(i+1)))/2^n)=val (a.drop W)/2^n:=by
   intro y R hR;have hmod:((a[W+i]'hWi).toNat+y*4294967296)/2^n%4294967296<4294967296:=Ya7 _ (by decide);have hdw:=ztb (x:=(a[W+i]'hWi).toNat) (y:=y) (R:=R) hn hx;rw[hd,zao,hR,hdw,<-hR]at hv
   grind[zaj,zao,zb6,zae]
  by_cases h1:W+i+1<a.length
  ·have hd1:=Yab h1;have hy:=zal (a[W+i+1]'h1);have m2:(a[W+i+1]'h1).toNat%18446744073709551616=(a[W+i+1]'h1).toNat:=Yu (by omega);have m3:(a[W+i+1]'h1).toNat*4294967296%18446744073709551616=(a[W+i+1]'h1).toNat*4294967296:=Yu (by omega);have hor:(a[W+i]'hWi).toNat ||| (a[W+i+1]'h1).toNat*4294967296=(a[W+i]'hWi).toNat+(a[W+i+1]'h1).toNat*4294967296:=by
    have:=zv5 (a:=(a[W+i]'hWi).toNat) (b:=(a[W+i+1]'h1).toNat) (n:=32) (by simp)
    grind
   have m4:((a[W+i]'hWi).toNat+(a[W+i+1]'h1).toNat*4294967296)%18446744073709551616=(a[W+i]'hWi).toNat+(a[W+i+1]'h1).toNat*4294967296:=Yu (by omega);have hs1:=zjg (P:=[]) (c:=0) (R:=List.replicate (a.length-W-(i+1)) 0) (w32 (((a[W+i]'hWi).toNat+(a[W+i+1]'h1).toNat*4294967296)/2^n%4294967296)) hm;have hlt2:(W:Int)+i+1<(a.length:Int):=by omega
   have hlt4:((W:Int)+i+1).toNat=W+i+1:=by omega
   refine⟨(i+1,m++[w32 (((a[W+i]'hWi).toNat+(a[W+i+1]'h1).toNat*4294967296)/2^n%4294967296)]),⟨h0,by grind,fin _ (val (a.drop (W+i+1+1))) (by rw[hd1,zao])⟩,by omega,?_⟩;simp at hg;simp[zf1]at hs1;simp -implicitDefEqProofs[l94_0,Zix,h0,ha,hrep,hw,hw2,hw3,hg,hs1,zf1,hmin,hlt1,hlt2,hlt3,hlt4,m1,m2,m3,m4,hor,h1]
  ·have hs1:=zjg (P:=[]) (c:=0) (R:=List.replicate (a.length-W-(i+1)) 0) (w32 ((a[W+i]'hWi).toNat/2^n%4294967296)) hm;have hlt2:¬ (W:Int)+i+1<(a.length:Int):=by omega
   have f0:=fin 0 0 (by rw[Ya6 (by omega),zb6,Ya1]);refine⟨(i+1,m++[w32 ((a[W+i]'hWi).toNat/2^n%4294967296)]),⟨h0,by grind,f0⟩,by omega,?_⟩;simp at hg;simp[zf1]at hs1;simp -implicitDefEqProofs[l94_0,Zix,h0,ha,hrep,hw,hw2,hw3,hg,hs1,zf1,hmin,hlt1,hlt2,hlt3,m1]
 ·right;have:i=a.length-W:=by omega
  subst this;rw[show W+(a.length-W)=a.length by omega,Ybe,zb6,Nat.zero_div,Ya1,Y0]at hv;refine⟨_,⟨m++List.replicate (a.length-W-(a.length-W)) 0,rfl,by grind,by grind⟩,?_,?_⟩<;>simp -implicitDefEqProofs[l94_0,Zix]
end
section
variable{T:Tbl}[Zl T][Zt T]
def zs8(a:List UInt32)(n:Nat)(h:n/32<=a.length):val (a.drop (n/32))/2^(n%32)=val a/2^n:=by
 rw[<-zyg a _ h,Ybu,zyf,<-Yb3,show 32*(n/32)+n%32=n by omega]
def zs9(a:List UInt32)(n:Nat)(hn:n<=100000000)(hl:a.length<=100000):Zb T 94 [.sl (Za a) .an,.i .i64 n]=some (.sl (Za (ofN (val a/2^n))) .an):=by
 have hn2:¬ (n:Int)<0:=by omega
 have hq:(n:Int).tdiv 32=(n:Int)/32:=Yc3 (by omega);have hm2:(n:Int).tmod 32=(n:Int)%32:=Yc4 (by omega);have w1:IntKind.wrap .i64 ((n:Int)/32)=(n:Int)/32:=zac (n/32) (by omega);rcases Yo (n/32) a.length with h0 | h0
 ·obtain⟨_,⟨m,rfl,hm,hv⟩,hr⟩:=zs7 (T:=T) a (n/32) (n%32) (Ya7 _ (by decide)) (by omega) (by omega) (0,[]) ⟨Y5 _,rfl,by rw[zb6,Nat.pow_zero,Ycz,Yao,Y0]⟩;rw[zs8 a n (by omega)]at hv;have hnm:=zbj (T:=T) m (by omega);rw[hv]at hnm;unfold Zix at hr;have hsub:((a.length-n/32:Nat):Int)=(a.length:Int)-(n:Int)/32:=by omega
  simp[hsub]at hr;have p0:¬ (a.length:Int)<=(n:Int)/32:=by omega
  have w2:IntKind.wrap .i64 ((a.length:Int)-(n:Int)/32)=(a.length:Int)-(n:Int)/32:=zac _ (by omega);have p1:(n:Int)/32<=(a.length:Int):=by omega
  have p2:(a.length:Int)-(n:Int)/32<=4294967296:=by omega
  have p3:((a.length:Int)-(n:Int)/32).toNat=a.length-n/32:=by omega
  have htk:List.take (a.length-n/32) m=m:=Yb (by omega);have p5:a.length<=a.length-n/32+n/32:=by omega
  rw[zaa Zt.h94 rfl,b94];simp -implicitDefEqProofs[hn2,hq,hm2,w1,w2,p0,p5,p1,p2,p3,hsub,hr,hnm,htk,hm]
 ·have hz:val a/2^n=0:=by
   refine Ybt (Yn (za0 a) ?_);rw[zyf];exact Y2 (by decide) (by omega)
  have p0:(a.length:Int)<=(n:Int)/32:=by omega
  rw[hz,zjh,zaa Zt.h94 rfl,b94];simp -implicitDefEqProofs[hn2,hq,hm2,w1,p0]
end
section
def l90_0:AX:=QZ "22AN79e7o2VHnhaHwPeD86mmUaQFr2FCFyDMSYeqxfOgEcfyxu9HrJe6K9CkKcmIaQSsbd2okBxjd"
def b90:AX:=(fun p0=>QY [p0] [] "_s9HOy1RMUGwrUTzDShKUTI5XpUxCW_GdODl3lcnc3tv1.BklM70Spa71G180EXRzcN7AiTPJmjVDAERoNf") l90_0
def l119_0:AX:=QZ "66pl_AFDJrjyhJKllaYvKR7N3YXwRwNTkh1S5OyD6C171z35.JP4fkL.NdANRuGPSP17eofMW.Y1gTeYjpnLr1ybru9pqbKgoGw6Ow0c6W99XEj_ONsnHgO9G6bC7j9wz5PHJuS0QZudEa"
def b119:AX:=(fun p0=>QY [p0] [(u32 4294967295)] "CVSN..WeT_cmB0h2C0X3wYZ_TPGJBX7kw6iAH1P4uwfuUvqJT6MlBdWJ_B8hpoJNPs7ulqvD.vhF6StH4LLYZtm1Xf5e9NCD6qBJC1Fx5sBmlsQBqAAFryUAK5AzPIY1xlnwYSUfzH3cdRG3") l119_0
def l120_0:AX:=QZ "15a9GubyU0WVMcZLUAW1XgPyB9NxwJx.uR2xllHS3ifXH7IH.NX.wzQPM0YT.mWdBluNhmBEgCPEspu0Lp_svYPRh9br0xqqQaL7.DrQp2ie5qqss6PWkpMDsTyoFg5fpGkU_"
def b120:AX:=(fun p0=>QY [p0] [] "2AkJNoG5jkP0CI3T20TYarPM2Ac4sv3LfG6bfV9TV8msSBvsvfu0OblPPXjhkvHXPy28qFq1tQvHvwS9Id1uUDdOUy5WCdevn30ULa9PVo") l120_0
def l121_0:AX:=QZ "QETw5_1pWCi.IbBRqnUm5t8Cvks2YSoPnzPqClYj.syv1fbqtQnz9S3O8SKmr7jYnjVHJdWw2teUzr4jz.RVCYprtl5Qd"
def b121:AX:=(fun p0=>QY [p0] [] "CNr.4VysjjPq5YG3kus7FZ7.Z1kSkSYD0NqWEDMMIAmptcC0G") l121_0
def l93_0:AX:=QZ "H2sHy9FhbRKJue_0qIJ42l_o1IVGZj0UFYlJwMewgFmTSxmRVzHyD1WTvXnMrvttox5Eyh0rCKMINZ9bZj0ONJenWIJoA7Z2CcpCCECNwaaKhfkZn7O190Ejdni_4lCFFFAu4k499_wU7sbdF88lwyVowPSIa"
def b93:AX:=(fun p0=>QY [p0] [] "Wyzz1QZ8u0TgAoTjqP8dzpIRt8YP1g1yzPHbMcjD3GsiAVMYmxloX1IzRnA49JV") l93_0
abbrev row90:AFx:=⟨2,37,[.t 4,.t 5,.t 6],b90,none,false⟩
abbrev row119:AFx:=⟨5,76,[.t 10],b119,none,false⟩
abbrev row120:AFx:=⟨4,66,[.t 8],b120,(some [true,false,false,false]),false⟩
abbrev row121:AFx:=⟨3,44,[],b121,(some [true,false,false]),false⟩
abbrev row93:AFx:=⟨2,70,[.t 4],b93,(some [true,false]),false⟩
class Zo (T:Tbl):Prop where
 h90:Tr T 90=some row90
 h119:Tr T 119=some row119
 h120:Tr T 120=some row120
 h121:Tr T 121=some row121
 h93:Tr T 93=some row93
attribute [simp] Zo.h90 Zo.h119 Zo.h120 Zo.h121 Zo.h93
end
def zjc{m:List UInt32}{j:Nat}(w:UInt32):(List.replicate (j+1) 0++m).set j w=List.replicate j 0++w::m:=by
 rw[List.set_append_left j w (by simp),Ycp,Yai j w (by simp)];simp
def zjd{m:List UInt32}{j:Nat}:(List.replicate (j+1) (0:UInt32)++m)[j]? = some 0:=by
 rw[Yj (by simp),Ydh,if_pos (by omega)]
section
variable{T:Tbl}[Zl T][Zt T][Zs T][Zo T]
def Zi9(a:List UInt32)(x:Nat)(y:Nat×Nat×List UInt32):St:=
 ⟨[(0,.sl (Za a) .an),(1,u32 x),(4,.bs (.loc 12) 1 1 0 a.length),(5,u32 y.2.1),(7,.i .i64 ((y.1:Int)-1))],[(.loc 12,⟨1,.own,1,Za (List.replicate y.1 0++y.2.2)⟩)],3⟩
end
section
variable{T:Tbl}[Zl T]
def zx3(a:List UInt32)(x:Nat)(hx:x<4294967296)(hl:a.length<=1000000):∀y:Nat×Nat×List UInt32,
  (y.1<=a.length/\y.2.1<x/\y.2.2.length=a.length-y.1/\val (a.drop y.1)=x*val y.2.2+y.2.1) ->
  ∃r,(∃(c:Nat) (m:List UInt32),r=(Ex.n,(⟨[(4,.bs (.loc 12) 1 1 0 a.length),(5,u32 c)],[(.loc 12,⟨1,.own,1,Za m⟩)],3⟩:St)) /\
   m.length=a.length/\c<x/\val a=x*val m+c)/\Zr T 0 0 (.norm false [4,5]) l90_0 (Zi9 a x y)=some r:=by
 refine zbc _ _ (fun y=>y.1) _ ?_
 rintro⟨k,c,m⟩ ⟨hk,hc,hm,hv⟩
 simp only at hk hc hm hv;cases k with
 | zero=>
  right;refine⟨_,⟨c,m,rfl,by omega,hc,hv⟩,?_,?_⟩<;>simp -implicitDefEqProofs[l90_0,Zi9]
 | succ j=>
  left;have hja:j<a.length:=by omega
  have hy:=zal (a[j]'hja);have hd:=Yab hja;have hw:IntKind.wrap .i64 ((j:Int)-1)=(j:Int)-1:=zac _ (by omega);have hs:=zjc (m:=m) (j:=j) (w32 ((c*4294967296+(a[j]'hja).toNat)/x));have hq:(c*4294967296+(a[j]'hja).toNat)/x<4294967296:=by
   refine Ya4 ?_;omega
  have hdv:=zk0 (T:=T) c (a[j]'hja).toNat x hc hy hx;refine⟨(j,(c*4294967296+(a[j]'hja).toNat)%x,w32 ((c*4294967296+(a[j]'hja).toNat)/x)::m),⟨by omega,Ya7 _ (by omega),by grind,?_⟩,Yt j,?_⟩
  ·grind[zao,zae,Nat.div_add_mod]
  ·simp -implicitDefEqProofs[l90_0,Zi9,hja,hw,hs,zjd,hdv,zbd _ _ _ hq]
end
section
variable{T:Tbl}[Zl T][Zo T]
def zk4(a:List UInt32)(x:Nat)(hx:x<4294967296)(h0:0<x)(hl:a.length<=1000000) :
  Zb T 90 [.sl (Za a) .an,u32 x]=some (.tup [.sl (Za (ofN (val a/x))) .an,u32 (val a%x),.b true]):=by
 obtain⟨_,⟨c,m,rfl,hm,hc,hv⟩,hr⟩:=zx3 (T:=T) a x hx hl (a.length,0,[]) ⟨Yg _,h0,by simp,by rw[Ybe,zb6,Ya1,Yao]⟩;have e1:val a/x=val m:=by grind[Nat.mul_add_div,Nat.div_eq_of_lt]
 have e2:val a%x=c:=by rw[hv,Nat.mul_add_mod,Yu hc]
 have hnm:=zbj (T:=T) m (by omega);unfold Zi9 at hr;simp at hr;have hx0:x≠0:=by omega
 have w1:IntKind.wrap .i64 ((a.length:Int)-1)=(a.length:Int)-1:=zac _ (by omega);have p1:(a.length:Int)<=4294967296:=by omega
 have htk:List.take a.length m=m:=Yb (by omega);rw[e1,e2,zaa Zo.h90 rfl,b90];simp -implicitDefEqProofs[hr,hx0,w1,p1,htk,hm,hnm]
end
section
variable{T:Tbl}[Zl T][Zt T][Zs T][Zo T]
def zk5{p M w X s t y v D D':Nat}(h:M+X*t=s+p*D)(e:w+X*y+D=v+4294967296*D'):(M+p*w)+X*(t+p*y)=(s+p*v)+p*4294967296*D':=by
 grind
def Zja(P S b:List UInt32)(x:Nat)(y:Nat×(Nat×Nat)×List UInt32):St:=
 ⟨[(0,.bs (.bor 0) 0 1 0 (P.length+S.length)),(1,.i .i64 P.length),(2,.sl (Za b) .an),(3,u32 x),(9,u32 y.2.1.1),(10,u32 y.2.1.2),(15,.sl (Za b) .an),(16,.i .i64 b.length),(17,.i .i64 y.1)],
  [(.bor 0,⟨0,.own,1,Za (P++(y.2.2++S.drop y.1))⟩)],4⟩
end
section
variable{T:Tbl}[Zl T]
def zx4(P S b:List UInt32)(x:Nat)(hx:x<4294967296)(hS:b.length<S.length)(hl:P.length+S.length<=1000000):∀y:Nat×(Nat×Nat)×List UInt32,
  (y.1<=b.length/\y.2.1.1<4294967296/\y.2.1.2<=1/\y.2.2.length=y.1/\val y.2.2+x*val (b.take y.1)=val (S.take y.1)+4294967296^y.1*(y.2.1.2+y.2.1.1)) ->
  ∃r,(∃(C B:Nat) (m:List UInt32),r=(Ex.n,(⟨[(0,.bs (.bor 0) 0 1 0 (P.length+S.length)),(1,.i .i64 P.length),(2,.sl (Za b) .an),(9,u32 C),(10,u32 B)],[(.bor 0,⟨0,.own,1,Za (P++(m++S.drop b.length))⟩)],4⟩:St)) /\
   C<4294967296/\B<=1/\m.length=b.length/\val m+x*val b=val (S.take b.length)+4294967296^b.length*(B+C))/\Zr T 1 0 (.norm false [0,1,2,9,10]) l120_0 (Zja P S b x y)=some r:=by
 refine zbc _ _ (fun y=>b.length-y.1) _ ?_
 rintro⟨i,⟨C,B⟩,m⟩ ⟨hi,hC,hB,hm,hv⟩
 simp only at hi hC hB hm hv;by_cases h0:i<b.length
 ·left;have hb:b[i]? = some (b[i]'h0):=Ya h0;have hiS:i<S.length:=by omega
  have hs:S[i]? = some (S[i]'hiS):=Ya hiS;have hg:=zfh (P:=P) hm hiS;have hw:IntKind.wrap .i64 ((i:Int)+1)=((i+1:Nat):Int):=zac _ (by omega);have hw2:IntKind.wrap .i64 ((P.length:Int)+i)=((P.length+i:Nat):Int):=zac _ (by omega);have hlt2:(P.length:Int)+i<(P.length:Int)+S.length:=by omega
  have hlb:=zal (b[i]'h0);have hls:=zal (S[i]'hiS);have hmul:=zih hx hlb;have c1:=zha (T:=T) x (b[i]'h0).toNat C 0 hx hlb hC (by decide);rw[Y0]at c1;obtain⟨lo,hlo⟩:∃lo,lo=(x*(b[i]'h0).toNat+C)%4294967296:=⟨_,rfl⟩;obtain⟨C',hC'⟩:∃C',C'=(x*(b[i]'h0).toNat+C)/4294967296:=⟨_,rfl⟩;rw[<-hlo,<-hC']at c1;have c2:=ze2 (T:=T) (S[i]'hiS).toNat lo B hls (by omega) (by omega);obtain⟨w,hwd⟩:∃w,w=((S[i]'hiS).toNat+8589934592-(lo+B))%4294967296:=⟨_,rfl⟩;obtain⟨B',hB'⟩:∃B',B'=2-((S[i]'hiS).toNat+8589934592-(lo+B))/4294967296:=⟨_,rfl⟩;rw[<-hwd,<-hB']at c2;have hwl:w<4294967296:=by omega
  have hset:=zfi (P:=P) (w32 w) hm hiS;refine⟨(i+1,(C',B'),m++[w32 w]),⟨h0,by grind,by simp only;omega,by grind,?_⟩,by omega,?_⟩
  ·simp only;rw[zaj,zad hb,zad hs,Yaa,hm,zao,zb6,Ya1,Y0,zae hwl];exact zk5 hv (by omega)
  ·simp -implicitDefEqProofs[l120_0,Zja,h0,hw,hw2,hlt2,hg,c1,c2,hset,zbd _ _ _ hwl]
 ·right;have:i=b.length:=by omega
  subst this;rw[Yb (Yg b.length)]at hv;refine⟨_,⟨C,B,m,rfl,hC,hB,hm,hv⟩,?_,?_⟩<;>simp -implicitDefEqProofs[l120_0,Zja]
end
section
variable{T:Tbl}[Zl T][Zo T]
def zsx(P S b:List UInt32)(x:Nat)(hx:x<4294967296)(hS:b.length<S.length)(hl:P.length+S.length<=1000000) :
  ∃(B:Nat) (m:List UInt32),B<=1/\m.length=b.length+1/\val m+x*val b=val (S.take (b.length+1))+4294967296^(b.length+1)*B /\
   Zcg T 120 [.bs (.bor 0) 0 1 0 (P.length+S.length),.i .i64 P.length,.sl (Za b) .an,u32 x] [(.bor 0,⟨0,.own,1,Za (P++S)⟩)] =
    some (.b (decide (0<B)),[(.bor 0,⟨0,.own,1,Za (P++(m++S.drop (b.length+1)))⟩)]):=by
 obtain⟨_,⟨C,B,m,rfl,hC,hB,hm,hv⟩,hr⟩:=zx4 (T:=T) P S b x hx hS hl (0,(0,0),[]) ⟨Y5 _,Nat.zero_lt_succ _,Y5 _,rfl,by simp⟩;unfold Zja at hr;simp at hr;have hs:S[b.length]? = some (S[b.length]'hS):=Ya hS;have hls:=zal (S[b.length]'hS);have hg:=zfh (P:=P) hm hS;have hw2:IntKind.wrap .i64 ((P.length:Int)+b.length)=((P.length+b.length:Nat):Int):=zac _ (by omega);have hlt2:(P.length:Int)+b.length<(P.length:Int)+S.length:=by omega
 have c2:=ze2 (T:=T) (S[b.length]'hS).toNat C B hls hC (by omega);obtain⟨w,hwd⟩:∃w,w=((S[b.length]'hS).toNat+8589934592-(C+B))%4294967296:=⟨_,rfl⟩;obtain⟨B',hB'⟩:∃B',B'=2-((S[b.length]'hS).toNat+8589934592-(C+B))/4294967296:=⟨_,rfl⟩;rw[<-hwd,<-hB']at c2;have hwl:w<4294967296:=by omega
 have hset:=zfi (P:=P) (w32 w) hm hS;refine⟨B',m++[w32 w],by omega,by grind,?_,?_⟩
 ·rw[zaj,zad hs,Yaa,hm,zao,zb6,Ya1,Y0,zae hwl];have:=zk5 (y:=0) (w:=w) (v:=(S[b.length]'hS).toNat) (D':=B') hv (by omega);omega
 ·rw[zc3 Zo.h120 rfl,b120];simp -implicitDefEqProofs[hr,hw2,hlt2,hg,c2,hset,zbd _ _ _ hwl]
end
section
variable{T:Tbl}[Zl T][Zt T][Zs T][Zo T]
def zk6{p M w s t y v D D':Nat}(h:M+p*D=s+t)(e:w+4294967296*D'=v+y+D):(M+p*w)+p*4294967296*D'=(s+p*v)+(t+p*y):=by
 grind
def Zjb(P S b:List UInt32)(y:Nat×Nat×List UInt32):St:=
 ⟨[(0,.bs (.bor 0) 0 1 0 (P.length+S.length)),(1,.i .i64 P.length),(2,.sl (Za b) .an),(6,u32 y.2.1),(9,.sl (Za b) .an),(10,.i .i64 b.length),(11,.i .i64 y.1)],
  [(.bor 0,⟨0,.own,1,Za (P++(y.2.2++S.drop y.1))⟩)],4⟩
end
section
variable{T:Tbl}[Zl T]
def zx5(P S b:List UInt32)(hS:b.length<S.length)(hl:P.length+S.length<=1000000):∀y:Nat×Nat×List UInt32,
  (y.1<=b.length/\y.2.1<=1/\y.2.2.length=y.1/\val y.2.2+4294967296^y.1*y.2.1=val (S.take y.1)+val (b.take y.1)) ->
  ∃r,(∃(C:Nat) (m:List UInt32),r=(Ex.n,(⟨[(0,.bs (.bor 0) 0 1 0 (P.length+S.length)),(1,.i .i64 P.length),(2,.sl (Za b) .an),(6,u32 C)],[(.bor 0,⟨0,.own,1,Za (P++(m++S.drop b.length))⟩)],4⟩:St)) /\
   C<=1/\m.length=b.length/\val m+4294967296^b.length*C=val (S.take b.length)+val b)/\Zr T 1 0 (.norm false [0,1,2,6]) l121_0 (Zjb P S b y)=some r:=by
 refine zbc _ _ (fun y=>b.length-y.1) _ ?_
 rintro⟨i,C,m⟩ ⟨hi,hC,hm,hv⟩
 simp only at hi hC hm hv;by_cases h0:i<b.length
 ·left;have hb:b[i]? = some (b[i]'h0):=Ya h0;have hiS:i<S.length:=by omega
  have hs:S[i]? = some (S[i]'hiS):=Ya hiS;have hg:=zfh (P:=P) hm hiS;have hw:IntKind.wrap .i64 ((i:Int)+1)=((i+1:Nat):Int):=zac _ (by omega);have hw2:IntKind.wrap .i64 ((P.length:Int)+i)=((P.length+i:Nat):Int):=zac _ (by omega);have hlt2:(P.length:Int)+i<(P.length:Int)+S.length:=by omega
  have hlb:=zal (b[i]'h0);have hls:=zal (S[i]'hiS);have c2:=zdz (T:=T) (S[i]'hiS).toNat (b[i]'h0).toNat C hls hlb (by omega);obtain⟨w,hwd⟩:∃w,w=((S[i]'hiS).toNat+(b[i]'h0).toNat+C)%4294967296:=⟨_,rfl⟩;obtain⟨C',hC'⟩:∃C',C'=((S[i]'hiS).toNat+(b[i]'h0).toNat+C)/4294967296:=⟨_,rfl⟩;rw[<-hwd,<-hC']at c2;have hwl:w<4294967296:=by omega
  have hset:=zfi (P:=P) (w32 w) hm hiS;refine⟨(i+1,C',m++[w32 w]),⟨h0,by grind,by grind,?_⟩,by omega,?_⟩
  ·simp only;rw[zaj,zad hb,zad hs,Yaa,hm,zao,zb6,Ya1,Y0,zae hwl];exact zk6 hv (by omega)
  ·simp -implicitDefEqProofs[l121_0,Zjb,h0,hw,hw2,hlt2,hg,c2,hset,zbd _ _ _ hwl]
 ·right;have:i=b.length:=by omega
  subst this;rw[Yb (Yg b.length)]at hv;refine⟨_,⟨C,m,rfl,hC,hm,hv⟩,?_,?_⟩<;>simp -implicitDefEqProofs[l121_0,Zjb]
end
section
variable{T:Tbl}[Zl T][Zo T]
def zsy(P S b:List UInt32)(hS:b.length<S.length)(hl:P.length+S.length<=1000000) :
  ∃(D:Nat) (m:List UInt32),D<=1/\m.length=b.length+1/\val m+4294967296^(b.length+1)*D=val (S.take (b.length+1))+val b /\
   Zcg T 121 [.bs (.bor 0) 0 1 0 (P.length+S.length),.i .i64 P.length,.sl (Za b) .an] [(.bor 0,⟨0,.own,1,Za (P++S)⟩)] =
    some (.tup [],[(.bor 0,⟨0,.own,1,Za (P++(m++S.drop (b.length+1)))⟩)]):=by
 obtain⟨_,⟨C,m,rfl,hC,hm,hv⟩,hr⟩:=zx5 (T:=T) P S b hS hl (0,0,[]) ⟨Y5 _,Y5 _,rfl,by simp⟩;unfold Zjb at hr;simp at hr;have hs:S[b.length]? = some (S[b.length]'hS):=Ya hS;have hls:=zal (S[b.length]'hS);have hg:=zfh (P:=P) hm hS;have hw2:IntKind.wrap .i64 ((P.length:Int)+b.length)=((P.length+b.length:Nat):Int):=zac _ (by omega);have hlt2:(P.length:Int)+b.length<(P.length:Int)+S.length:=by omega
 obtain⟨w,hwd⟩:∃w,w=((S[b.length]'hS).toNat+C)%4294967296:=⟨_,rfl⟩;have hwl:w<4294967296:=by omega
 have hset:=zfi (P:=P) (w32 w) hm hS;refine⟨((S[b.length]'hS).toNat+C)/4294967296,m++[w32 w],by omega,by grind,?_,?_⟩
 ·rw[zaj,zad hs,Yaa,hm,zao,zb6,Ya1,Y0,zae hwl];have:=zk6 (y:=0) (w:=w) (v:=(S[b.length]'hS).toNat) (D':=((S[b.length]'hS).toNat+C)/4294967296) hv (by omega);omega
 ·rw[zc3 Zo.h121 rfl,b121];simp -implicitDefEqProofs[hr,hw2,hlt2,hg,<-hwd,hset,zbd _ _ _ hwl]
end
def zg9(q b1 b0:Nat):q*(b1*4294967296+b0)=q*b1*4294967296+q*b0:=by
 rw[Yae q,<-Yap q]
def zi7{a2 a1 a0 b1 b0 q r:Nat}(h:q*b1+r=a2*4294967296+a1)(hle:q*b0<=r*4294967296+a0) :
  q*(b1*4294967296+b0)<=(a2*4294967296+a1)*4294967296+a0:=by
 refine Yf (Nat.le_of_eq (zg9 q b1 b0)) ?_;revert h hle;generalize q*b1=u;generalize q*b0=v;omega
def zuk{a2 a1 a0 b1 b0 q r:Nat}(h:q*b1+r=a2*4294967296+a1)(hgt:r*4294967296+a0<q*b0) :
  (a2*4294967296+a1)*4294967296+a0<q*(b1*4294967296+b0):=by
 refine Nat.lt_of_lt_of_eq ?_ (zg9 q b1 b0).symm;revert h hgt;generalize q*b1=u;generalize q*b0=v;omega
def zsa{q b0 r a0:Nat}(h0:a0<4294967296):(q*b0/4294967296<r\/q*b0/4294967296=r/\q*b0%4294967296<=a0)↔q*b0<=r*4294967296+a0:=by
 generalize q*b0=m;omega
section
variable{T:Tbl}[Zl T][Zt T][Zs T][Zo T]
def Zfo(a0 b1 b0:Nat)(y:Nat×Nat):St:=⟨[(2,u32 a0),(3,u32 b1),(4,u32 b0),(11,u32 y.1),(12,u32 y.2)],[],2⟩
end
section
variable{T:Tbl}[Zl T]
def zsb(a2 a1 a0 b1 b0 g:Nat)(h0:a0<4294967296)(hb1:b1<4294967296)(hb0:b0<4294967296)
  (F1:∀q,q<4294967296->g<=q->q*(b1*4294967296+b0)<=(a2*4294967296+a1)*4294967296+a0->q=g)
  (F2:∀q,(a2*4294967296+a1)*4294967296+a0<q*(b1*4294967296+b0)->g<q):∀y:Nat×Nat,
  (y.1<4294967296/\y.2<4294967296/\y.1*b1+y.2=a2*4294967296+a1/\g<=y.1) ->
  ∃r,(r=(Ex.n,(⟨[(11,u32 g)],[],2⟩:St)))/\Zr T 0 0 (.norm false [11]) l119_0 (Zfo a0 b1 b0 y)=some r:=by
 refine zbc _ _ (fun y=>y.1) _ ?_
 rintro⟨q,r⟩ ⟨hq,hr,hv,hg⟩
 simp only at hq hr hv hg;have c1:=zha (T:=T) q b0 0 0 hq hb0 (by decide) (by decide);have c2:=zdz (T:=T) r b1 0 hr hb1 (by decide);rw[Y0]at c1;rw[Y0]at c2;have hcmp:=zsa (q:=q) (b0:=b0) (r:=r) h0;obtain⟨hi,hhi⟩:∃hi,hi=q*b0/4294967296:=⟨_,rfl⟩;obtain⟨lo,hlo⟩:∃lo,lo=q*b0%4294967296:=⟨_,rfl⟩;rw[<-hhi,<-hlo]at c1 hcmp;have hlol:lo<4294967296:=by omega
 have hhil:hi<4294967296:=by
  have:=zih hq hb0;omega
 by_cases hle:q*b0<=r*4294967296+a0
 ·right;have hqg:=F1 q hq hg (zi7 hv hle);subst hqg;have hc:=hcmp.2 hle;clear hhi hlo;rcases hc with hc | ⟨rfl,hc2⟩
  ·refine⟨_,rfl,?_,?_⟩<;>simp -implicitDefEqProofs[l119_0,Zfo,c1,hc]
  ·refine⟨_,rfl,?_,?_⟩<;>simp -implicitDefEqProofs[l119_0,Zfo,c1,hc2]
 ·have hgt:r*4294967296+a0<q*b0:=by omega
  have hlt:=F2 q (zuk hv hgt);have hc:¬ (hi<r\/hi=r/\lo<=a0):=fun h=>hle (hcmp.1 h);have hq1:q-1<4294967296:=by omega
  have hs:Zez q 1=q-1:=by unfold Zez;omega
  have hqb:(q-1)*b1+(r+b1)=a2*4294967296+a1:=by
   have:q*b1=(q-1)*b1+b1:=by
    rw[<-Yc9];congr 1;omega
   omega
  by_cases hcar:4294967296<=r+b1
  ·right;have hmul:=zih hq1 hb0;have hqg:=F1 (q-1) hq1 (by omega) (zi7 hqb (by
    generalize (q-1)*b0=v at *
    omega))
   have m2:0<(r+b1)/4294967296:=Nat.div_pos hcar (by decide);have m3:(r+b1)/4294967296<4294967296:=by omega
   have hr2:¬ hi<r:=fun h=>hc (.inl h);clear hhi hlo;refine⟨_,rfl,?_,?_⟩<;>by_cases he:hi=r
   ·have hc3:¬ lo<=a0:=fun h=>hc (.inr ⟨he,h⟩);subst he;simp -implicitDefEqProofs[l119_0,Zfo,c1,c2,hs,hc3,m2]
   ·simp -implicitDefEqProofs[l119_0,Zfo,c1,c2,hs,hr2,he,m2]
   ·have hc3:¬ lo<=a0:=fun h=>hc (.inr ⟨he,h⟩);subst he;simp -implicitDefEqProofs[l119_0,Zfo,c1,c2,hs,hc3,m2,hqg]
   ·simp -implicitDefEqProofs[l119_0,Zfo,c1,c2,hs,hr2,he,m2,hqg]
  ·left;refine⟨(q-1,r+b1),⟨hq1,by simp only;omega,hqb,by simp only;omega⟩,by simp only;omega,?_⟩;have m1:(r+b1)%4294967296=r+b1:=Yu (by omega);have m2:(r+b1)/4294967296=0:=Ybt (by omega);rw[m1,m2]at c2;have hr2:¬ hi<r:=fun h=>hc (.inl h);clear hhi hlo;by_cases he:hi=r
   ·have hc3:¬ lo<=a0:=fun h=>hc (.inr ⟨he,h⟩);subst he;simp -implicitDefEqProofs[l119_0,Zfo,c1,c2,hs,hc3]
   ·simp -implicitDefEqProofs[l119_0,Zfo,c1,c2,hs,hr2,he]
end
section
variable{T:Tbl}[Zl T][Zt T][Zs T][Zo T]
def zxx{n two:Nat}(h:0<two):(∀q,q<4294967296->min 4294967295 (n/two)<=q->q*two<=n->q=min 4294967295 (n/two))/\(∀q,n<q*two->min 4294967295 (n/two)<q):=by
 constructor
 ·intro q hq hg hle;have:=(Ybg h).2 hle;omega
 ·intro q hlt;have:=(Yaw h).2 hlt;omega
def zul{A a0 b1 b0:Nat}(h0:a0<4294967296)(hp:0<b1):A*4294967296+a0<(A/b1+1)*(b1*4294967296+b0):=by
 have h1:A<(A/b1+1)*b1:=by rw[Y9];exact Nat.lt_mul_div_succ A hp
 refine Nat.lt_of_lt_of_eq ?_ (zg9 (A/b1+1) b1 b0).symm;generalize (A/b1+1)*b1=u at *
 generalize (A/b1+1)*b0=v at *
 omega
end
section
variable{T:Tbl}[Zl T][Zo T]
def zo4(a2 a1 a0 b1 b0:Nat)(h2:a2<4294967296)(h1:a1<4294967296)(h0:a0<4294967296)(hb1:b1<4294967296)(hb0:b0<4294967296)(hp:0<b1) :
  Zb T 119 [u32 a2,u32 a1,u32 a0,u32 b1,u32 b0]=some (u32 (min 4294967295 (((a2*4294967296+a1)*4294967296+a0)/(b1*4294967296+b0)))):=by
 obtain⟨F1,F2⟩:=zxx (n:=(a2*4294967296+a1)*4294967296+a0) (two:=b1*4294967296+b0) (by omega);have hgle:=Ydv 4294967295 (((a2*4294967296+a1)*4294967296+a0)/(b1*4294967296+b0));generalize min 4294967295 (((a2*4294967296+a1)*4294967296+a0)/(b1*4294967296+b0))=g at *
 by_cases hlt:a2<b1
 ·have hd:=zk0 (T:=T) a2 a1 b1 hlt h1 hb1;have hql:(a2*4294967296+a1)/b1<4294967296:=zvz hlt h1;have hrl:(a2*4294967296+a1)%b1<b1:=Ya7 _ hp;have hdm:=Ybk (a2*4294967296+a1) b1;rw[Y9]at hdm;obtain⟨_,rfl,hr⟩:=zsb (T:=T) a2 a1 a0 b1 b0 g h0 hb1 hb0 F1 F2 ((a2*4294967296+a1)/b1,(a2*4294967296+a1)%b1) ⟨hql,by simp only;omega,hdm,by have:=F2 _ (zul (A:=a2*4294967296+a1) (b0:=b0) h0 hp);simp only;omega⟩;unfold Zfo at hr;simp at hr;rw[zaa Zo.h119 rfl,b119];simp -implicitDefEqProofs[hd,hr]
 ·have hd:=zo7 (T:=T) a2 a1 b1 (by omega) h2 h1;have ha:=zdz (T:=T) a1 b1 0 h1 hb1 (by decide);rw[Y0]at ha;by_cases hbig:b1<a2\/4294967296<=a1+b1
  ·have hg:4294967295=g:=by
    refine F1 4294967295 (by decide) hgle ?_;refine zi7 (r:=a2*4294967296+a1-4294967295*b1) (by omega) ?_;omega
   subst hg;rw[zaa Zo.h119 rfl,b119];rcases Yo b1 a2 with hb | hb
   ·simp -implicitDefEqProofs[hd,ha,hb]
   ·have hc:4294967296<=a1+b1:=by omega
    have hb2:¬ b1<a2:=by omega
    have m2:0<(a1+b1)/4294967296:=Nat.div_pos hc (by decide);simp -implicitDefEqProofs[hd,ha,hb2,m2]
  ·have hb2:¬ b1<a2:=fun h=>hbig (.inl h);have hc:a1+b1<4294967296:=by omega
   have m1:(a1+b1)%4294967296=a1+b1:=Yu hc;have m2:(a1+b1)/4294967296=0:=Ybt hc;rw[m1,m2]at ha;obtain⟨_,rfl,hr⟩:=zsb (T:=T) a2 a1 a0 b1 b0 g h0 hb1 hb0 F1 F2 (4294967295,a1+b1) ⟨Yt 4294967295,hc,by simp only;omega,hgle⟩;unfold Zfo at hr;simp at hr;have hb3:a2<=b1:=by omega
   rw[zaa Zo.h119 rfl,b119];simp -implicitDefEqProofs[hd,ha,hb2,hr]
end
def ztc{V b d three two v0 b0:Nat}(hV:V=three*d+v0)(hv:v0<d)(hb:b=two*d+b0)(hb0:b0<d)(h2:4294967296<=two)(hlt:V<4294967296*b) :
  V/b<=min 4294967295 (three/two)/\min 4294967295 (three/two)<=V/b+1:=by
 have hd:0<d:=by omega
 have htp:0<two:=by omega
 have hbp:0<b:=by
  have:=Nat.mul_pos htp hd;omega
 have hq:V/b<4294967296:=Ya4 (by rw[Y9];exact hlt);have hqb:V/b*b<=V:=Nat.div_mul_le_self V b;have hqb2:V<(V/b+1)*b:=by rw[Y9];exact Nat.lt_mul_div_succ V hbp
 generalize V/b=q at *
 constructor
 ·refine Nat.le_min.2 ⟨by omega,(Ybg htp).2 ?_⟩;have h3:q*two*d<(three+1)*d:=by
   have:q*two*d<=q*b:=by rw[hb,Yae,Yap];omega
   rw[Ybc,Ycz];omega
  have:=Nat.lt_of_mul_lt_mul_right h3;omega
 ·generalize hx:min 4294967295 (three/two)=x;have hx1:x<=three/two:=by rw[<-hx];exact Nat.min_le_right _ _
  have hx2:x<=4294967295:=by rw[<-hx];exact Ydv _ _
  have hx3:x*two<=three:=(Ybg htp).1 hx1;rcases Yo (q+1) x with h | h
  ·exfalso;have e1:(q+2)*two<=x*two:=Yz _ h;have e2:(q+2)*two*d<=three*d:=Yz _ (Yf e1 hx3);have e3:(q+1)*b=(q+1)*two*d+(q+1)*b0:=by rw[hb,Yae,Yap]
   have e4:(q+1)*b0<=(q+1)*d:=Yam _ (Yc6 hb0);have e5:(q+2)*two*d=(q+1)*two*d+two*d:=by rw[show q+2=(q+1)+1 from rfl,Ybc (q+1) 1 two,Ycz,Ybc]
   have e6:(q+1)*d<=two*d:=Yz _ (by omega);omega
  ·exact h
def zuu{vA vA' t p V x r vb vm T:Nat}(h0:vA=t+p*V)(h1:vA'=t+p*r)(hV:V=vb*x+r)(hT:T=vA+p*4294967296*(vm*vb)) :
  T=vA'+p*((x+4294967296*vm)*vb):=by grind
def zsi{V b x Bo vm p:Nat}(hb:0<b)(h1:V/b<=x)(h2:x<=V/b+1)(_hp:V<p)(hm:vm<p)(hBo:Bo<=1)(h:vm+x*b=V+p*Bo) :
  (Bo=0->x=V/b/\vm=V%b)/\(Bo=1->x=V/b+1/\vm+b=V%b+p):=by
 have hd:=Ybk V b;constructor
 ·intro h0;subst h0;have hx:x=V/b:=by
   have:x*b<=V:=by omega
   have:=(Ybg hb).2 this;omega
  grind
 ·intro h0;subst h0;have hx:x=V/b+1:=by
   grind
  grind
def zsj{vm b r p D vm':Nat}(_hr:r<p)(h:vm+b=r+p)(hm:vm'<p)(hD:D<=1)(hg:vm'+p*D=vm+b):vm'=r:=by
 rcases Ya9 D with h0 | h0
 all_goals grind
def zk1{α:Type}{A:List α}{i k:Nat}(h:i=k)(hi:i<A.length)(hk:k<A.length):A[i]'hi=A[k]'hk:=by grind
def zja(A:List UInt32)(j n:Nat):val (A.drop j)=val ((A.drop j).take n)+4294967296^((A.drop j).take n).length*val (A.drop (j+n)):=by
 grind[List.take_append_drop,zaj,List.drop_drop]
def zpa{q x:Nat}(h:x=q+1)(hx:x<4294967296):Zez x 1=q:=by unfold Zez;omega
def zsk{A m1:List UInt32}{j n:Nat}(hm1:m1.length=n+1)(hj:j+n<A.length) :
  (A.take j++(m1++A.drop (j+(n+1)))).take j=A.take j/\(A.take j++(m1++A.drop (j+(n+1)))).drop (j+(n+1))=A.drop (j+(n+1)) /\
  ((A.take j++(m1++A.drop (j+(n+1)))).drop j).take (n+1)=m1/\(A.take j++(m1++A.drop (j+(n+1)))).length=A.length:=by
 have htj:(A.take j).length=j:=by grind
 refine⟨?_,?_,?_,?_⟩
 ·rw[Ycm (by omega),Yb (by omega)]
 ·rw[<-Ydw,Yba (by omega),Ya6 (l:=A.take j) (by omega),Ybn,Yba (by omega),Ya6 (by omega),Ybn]
 all_goals grind
def zsl{D:List UInt32}{n:Nat}(h:n+2<D.length):val (D.take (n+3))=(((D[n+2]'h).toNat*4294967296+(D[n+1]'(by omega)).toNat)*4294967296+(D[n]'(by omega)).toNat)*4294967296^n+val (D.take n):=by
 grind[zad]
def zx0{D:List UInt32}{n:Nat}(h:n+1<D.length):val (D.take (n+2))=((D[n+1]'h).toNat*4294967296+(D[n]'(by omega)).toNat)*4294967296^n+val (D.take n):=by
 grind[zad]
section
variable{T:Tbl}[Zl T][Zo T]
def zpb(A b:List UInt32)(j x:Nat)(hx:x<4294967296)(hj:j+b.length<A.length)(hl:A.length<=1000000) :
  ∃(B:Nat) (m:List UInt32),B<=1/\m.length=b.length+1/\val m+x*val b=val ((A.drop j).take (b.length+1))+4294967296^(b.length+1)*B /\
   Zcg T 120 [.bs (.bor 0) 0 1 0 A.length,.i .i64 j,.sl (Za b) .an,u32 x] [(.bor 0,⟨0,.own,1,Za A⟩)] =
    some (.b (decide (0<B)),[(.bor 0,⟨0,.own,1,Za (A.take j++(m++A.drop (j+(b.length+1))))⟩)]):=by
 have h1:(A.take j).length=j:=by grind
 have h2:(A.drop j).length=A.length-j:=by simp
 obtain⟨B,m,hB,hm,hv,hc⟩:=zsx (T:=T) (A.take j) (A.drop j) b x hx (by omega) (by omega)
 grind[List.take_append_drop,List.drop_drop]
end
section
variable{T:Tbl}[Zl T][Zo T]
def zpc(A b:List UInt32)(j:Nat)(hj:j+b.length<A.length)(hl:A.length<=1000000) :
  ∃(D:Nat) (m:List UInt32),D<=1/\m.length=b.length+1/\val m+4294967296^(b.length+1)*D=val ((A.drop j).take (b.length+1))+val b /\
   Zcg T 121 [.bs (.bor 0) 0 1 0 A.length,.i .i64 j,.sl (Za b) .an] [(.bor 0,⟨0,.own,1,Za A⟩)] =
    some (.tup [],[(.bor 0,⟨0,.own,1,Za (A.take j++(m++A.drop (j+(b.length+1))))⟩)]):=by
 have h1:(A.take j).length=j:=by grind
 have h2:(A.drop j).length=A.length-j:=by simp
 obtain⟨D,m,hD,hm,hv,hc⟩:=zsy (T:=T) (A.take j) (A.drop j) b (by omega) (by omega);rw[h1,h2,show j+(A.length-j)=A.length by omega,Ya0,Ydw]at hc;exact⟨D,m,hD,hm,hv,hc⟩
end
section
variable{T:Tbl}[Zl T][Zt T][Zs T][Zo T]
def Zhq(b:List UInt32)(LA LQ:Nat)(y:Nat×List UInt32×List UInt32):St:=
 ⟨[(0,.bs (.bor 0) 0 1 0 LA),(1,.sl (Za b) .an),(5,.i .i64 b.length),(6,.bs (.loc 15) 3 1 0 LQ),(7,.i .i64 ((y.1:Int)-1))],
  [(.bor 0,⟨0,.own,1,Za y.2.1⟩),(.loc 15,⟨3,.own,1,Za (List.replicate y.1 0++y.2.2)⟩)],5⟩
end
section
variable{T:Tbl}[Zl T][Zo T]
set_option maxHeartbeats 2000000 in
def zx1(A0 b:List UInt32)(LQ nb:Nat)(hnb:b.length=nb+2)(hb1:0<(b[nb+1]'(by omega)).toNat)(hl:A0.length<=1000000)(hA0:A0.length=LQ+b.length):∀y:Nat×List UInt32×List UInt32,
  (y.1<=LQ/\y.2.1.length=A0.length/\y.2.2.length=LQ-y.1/\val (y.2.1.drop y.1)<val b/\val A0=val y.2.1+4294967296^y.1*(val y.2.2*val b)) ->
  ∃r,(∃Q A:List UInt32,r=(Ex.n,(⟨[(6,.bs (.loc 15) 3 1 0 LQ)],[(.bor 0,⟨0,.own,1,Za A⟩),(.loc 15,⟨3,.own,1,Za Q⟩)],5⟩:St)) /\
   Q.length=LQ/\A.length=A0.length/\val Q=val A0/val b/\val A=val A0%val b)/\Zr T 1 0 (.norm false [6]) l93_0 (Zhq b A0.length LQ y)=some r:=by
 refine zbc _ _ (fun y=>y.1) _ ?_
 rintro⟨k,A,m⟩ ⟨hk,hA,hm,hlt,hv⟩
 simp only at hk hA hm hlt hv;have hbp:0<val b:=by omega
 cases k with
 | zero=>
  right;rw[Nat.pow_zero,Ycz]at hv;rw[Ycg]at hlt;refine⟨_,⟨m,A,rfl,by omega,hA,?_,?_⟩,?_,?_⟩
  ·rw[hv,Nat.add_mul_div_right _ _ hbp,Ybt hlt,Yao]
  ·rw[hv,Nat.add_mul_mod_self_right,Yu hlt]
  ·simp -implicitDefEqProofs[l93_0,Zhq]
  ·simp -implicitDefEqProofs[l93_0,Zhq]
 | succ j=>
  left
  -- the window
  have hD:(A.drop j).length=A.length-j:=by simp
  have hDn:nb+2<(A.drop j).length:=by omega
  have hVlt:val (A.drop j)<4294967296*val b:=by
   have:=Yab (show j<A.length by omega);rw[this,zao];have:=zal (A[j]'(by omega));omega
  have hbB:=za0 b;rw[hnb]at hbB;have hsplit:=zja A j (nb+3);have hlen3:((A.drop j).take (nb+3)).length=nb+3:=by simp;omega
  rw[hlen3]at hsplit;have hz:val (A.drop (j+(nb+3)))=0:=by
   rcases Ya9 (val (A.drop (j+(nb+3)))) with h | h
   ·exact h
   ·exfalso;have h1:=Yam (4294967296^(nb+3)) h;rw[Yaa 4294967296 (nb+2)]at h1 hsplit;generalize 4294967296^(nb+2)=p at *
    generalize p*4294967296*val (A.drop (j+(nb+3)))=u at *
    omega
  rw[hz,Ya1,Y0]at hsplit;have h3:=zsl hDn;have h2:=zx0 (D:=b) (n:=nb) (by omega);rw[za9 (a:=b) (i:=nb+2) (by omega)]at h2;have hv0:=za0 ((A.drop j).take nb);have hb0:=za0 (b.take nb);rw[show ((A.drop j).take nb).length=nb by simp;omega]at hv0;rw[show (b.take nb).length=nb by simp;omega]at hb0;obtain⟨V,hV⟩:∃V,V=val (A.drop j):=⟨_,rfl⟩;rw[<-hV]at hsplit hVlt;rw[<-hsplit]at h3;have hg:=ztc (V:=V) (b:=val b) h3 hv0 h2 hb0 (by omega) hVlt;obtain⟨p0,hp0⟩:∃p,p=j+b.length:=⟨_,rfl⟩;obtain⟨p1,hp1⟩:∃p,p=j+(nb+1):=⟨_,rfl⟩;obtain⟨p2,hp2⟩:∃p,p=j+nb:=⟨_,rfl⟩;obtain⟨q1,hq1⟩:∃p,p=nb+1:=⟨_,rfl⟩;have c1:p0<A.length:=by omega
  have c2:p1<A.length:=by omega
  have c3:p2<A.length:=by omega
  have c4:q1<b.length:=by omega
  have c5:nb<b.length:=by omega
  have e1:(A.drop j)[nb+2]'hDn=A[p0]'c1:=Ydg.trans (zk1 (by omega) _ _);have e2:(A.drop j)[nb+1]'(by omega)=A[p1]'c2:=Ydg.trans (zk1 (by omega) _ _);have e3:(A.drop j)[nb]'(by omega)=A[p2]'c3:=Ydg.trans (zk1 (by omega) _ _);have e4:b[nb+1]'(by omega)=b[q1]'c4:=zk1 (by omega) _ _;rw[e1,e2,e3,e4]at hg;rw[e4]at hb1;have hgs:=zo4 (T:=T) (A[p0]'c1).toNat (A[p1]'c2).toNat (A[p2]'c3).toNat (b[q1]'c4).toNat (b[nb]'c5).toNat (zal _) (zal _) (zal _) (zal _) (zal _) hb1;obtain⟨x,hxd⟩:∃x,x=min 4294967295 ((((A[p0]'c1).toNat*4294967296+(A[p1]'c2).toNat)*4294967296+(A[p2]'c3).toNat)/((b[q1]'c4).toNat*4294967296+(b[nb]'c5).toNat)):=⟨_,rfl⟩;rw[<-hxd]at hg hgs;have hx:x<4294967296:=by rw[hxd];exact Yc7 (Ydv _ _) (by decide)
  clear hxd;obtain⟨Bo,m1,hBo,hm1,hvm1,hct⟩:=zpb (T:=T) A b j x hx (by omega) (by omega);rw[hnb,show nb+2+1=nb+3 from rfl,<-hsplit]at hvm1;have hm1l:=za0 m1;rw[hm1,hnb,show nb+2+1=nb+3 from rfl]at hm1l;have hVp:V<4294967296^(nb+3):=by
   rw[Yaa 4294967296 (nb+2)];generalize 4294967296^(nb+2)=p at *
   omega
  have hpk:=zsi hbp hg.1 hg.2 hVp hm1l hBo hvm1;have hql:V/val b<4294967296:=Ya4 (by rw[Y9];exact hVlt);have hzb:val (A.drop (j+(b.length+1)))=0:=by rw[hnb];exact hz
  have htj:(A.take j).length=j:=by simp;omega
  have fin:∀m2:List UInt32,m2.length=b.length+1->val m2=V%val b ->
    (A.take j++(m2++A.drop (j+(b.length+1)))).length=A0.length/\val ((A.take j++(m2++A.drop (j+(b.length+1)))).drop j)<val b /\
    val A0=val (A.take j++(m2++A.drop (j+(b.length+1))))+4294967296^j*(val (w32 (V/val b)::m)*val b):=by
   intro m2 hm2 hvm2;refine⟨by simp[hm2];omega,?_,?_⟩
   ·rw[Yba (by omega),Ya6 (by omega),Ybn,zaj,hzb,Ya1,Y0,hvm2];exact Ya7 _ hbp
   ·have t1:val A=val (A.take j)+4294967296^j*V:=by rw[hV];exact zlf A j (by omega)
    have t2:val (A.take j++(m2++A.drop (j+(b.length+1))))=val (A.take j)+4294967296^j*(V%val b):=by
     rw[zaj,zaj,hzb,Ya1,Y0,hvm2,htj]
    rw[zao,zae hql];exact zuu t1 t2 (Ybk V (val b)).symm hv
  clear hv hvm1 hsplit h3 h2 hg hbB hVlt hlt hzb hz hv0 hb0 hm1l hVp;have hw1:IntKind.wrap .i64 ((j:Int)-1)=(j:Int)-1:=zac _ (by omega);have hw2:IntKind.wrap .i64 ((j:Int)+b.length)=((p0:Nat):Int):=by rw[zac _ (by omega)];omega
  have hw3:IntKind.wrap .i64 ((p0:Int)-1)=((p1:Nat):Int):=by rw[zac _ (by omega)];omega
  have hw4:IntKind.wrap .i64 ((p0:Int)-2)=((p2:Nat):Int):=by rw[zac _ (by omega)];omega
  have hw5:IntKind.wrap .i64 ((b.length:Int)-1)=((q1:Nat):Int):=by rw[zac _ (by omega)];omega
  have hw6:IntKind.wrap .i64 ((b.length:Int)-2)=((nb:Nat):Int):=by rw[zac _ (by omega)];omega
  have hj1:j<LQ:=by omega
  rw[hA]at hct;have hml:(w32 (V/val b)::m).length=LQ-j:=by simp[hm];omega
  have hjb:j+b.length<A.length:=by omega
  have hnb3:nb+3=b.length+1:=by omega
  have d1:p0<A0.length:=by omega
  have d2:p1<A0.length:=by omega
  have d3:p2<A0.length:=by omega
  rcases Ya9 Bo with h0 | h0
  ·obtain⟨hxq,hvm⟩:=hpk.1 h0;subst h0;subst hxq;have hset:=zjc (m:=m) (j:=j) (w32 (V/val b));obtain⟨f1,f2,f3⟩:=fin m1 hm1 hvm;refine⟨(j,A.take j++(m1++A.drop (j+(b.length+1))),w32 (V/val b)::m),⟨Yc6 hj1,f1,hml,f2,f3⟩,Yt j,?_⟩;simp -implicitDefEqProofs[l93_0,Zhq,hw1,hw2,hw3,hw4,hw5,hw6,c4,c5,d1,d2,d3,hA,hj1,hgs,hct,hset,zjd,zbd _ _ _ hx]
  ·have h1:Bo=1:=by omega
   obtain⟨hxq,hvm⟩:=hpk.2 h1;subst h1;have hset:=zjc (m:=m) (j:=j) (w32 (V/val b));obtain⟨t1,t2,t3,t4⟩:=zsk (A:=A) hm1 hjb;rw[hA]at t4;obtain⟨D,m2,hD,hm2,hvm2,hcg⟩:=zpc (T:=T) (A.take j++(m1++A.drop (j+(b.length+1)))) b j (by rw[t4,<-hA];exact hjb) (by rw[t4];exact hl);rw[t1,t2,t4]at hcg;rw[t3]at hvm2;have hm2l:=za0 m2;rw[hm2]at hm2l;have hVb:=Ya7 V hbp;have hbq:val b<4294967296^(b.length+1):=Yn (za0 b) (Y2 (by decide) (Ya2 _));rw[hnb3]at hvm;have hv2:=zsj (Nat.lt_trans hVb hbq) hvm hm2l hD hvm2;have hsx:=zpa hxq hx;obtain⟨f1,f2,f3⟩:=fin m2 hm2 hv2;refine⟨(j,A.take j++(m2++A.drop (j+(b.length+1))),w32 (V/val b)::m),⟨Yc6 hj1,f1,hml,f2,f3⟩,Yt j,?_⟩;simp -implicitDefEqProofs[l93_0,Zhq,hw1,hw2,hw3,hw4,hw5,hw6,c4,c5,d1,d2,d3,hA,hj1,hgs,hct,hsx,hcg,hset,zjd,zbd _ _ _ hql]
end
section
variable{T:Tbl}[Zl T][Zo T]
def zsm(A b:List UInt32)(LQ nb:Nat)(hnb:b.length=nb+2)(hb1:0<(b[nb+1]'(by omega)).toNat)(hl:A.length<=1000000)(hA:A.length=LQ+b.length)(hlt:val (A.drop LQ)<val b) :
  ∃Q R:List UInt32,Q.length=LQ/\R.length=A.length/\val Q=val A/val b/\val R=val A%val b /\
   Zcg T 93 [.bs (.bor 0) 0 1 0 A.length,.sl (Za b) .an] [(.bor 0,⟨0,.own,1,Za A⟩)]=some (.bs (.loc 15) 3 1 0 LQ,[(.bor 0,⟨0,.own,1,Za R⟩),(.loc 15,⟨3,.own,1,Za Q⟩)]):=by
 obtain⟨_,⟨Q,R,rfl,hQ,hR,hq,hr⟩,hlp⟩:=zx1 (T:=T) A b LQ nb hnb hb1 hl hA (LQ,A,[]) ⟨Yg _,rfl,by simp,hlt,by simp⟩;have hw:IntKind.wrap .i64 ((A.length:Int)-b.length)=(LQ:Int):=by rw[zac _ (by omega)];omega
 have hw1:IntKind.wrap .i64 ((LQ:Int)-1)=(LQ:Int)-1:=zac _ (by omega);have h1:(LQ:Int)<=4294967296:=by omega
 refine⟨Q,R,hQ,hR,hq,hr,?_⟩;unfold Zhq at hlp;simp at hlp;rw[zc3 Zo.h93 rfl,b93];simp -implicitDefEqProofs[hw,hw1,h1,hlp]
end
section
def b2071:AX:=QZ "188RW3Rawj613NlpqSxkD"
def l2092_0:AX:=QZ "1XSv93jPOsJYAAfhiIWzBCt_I.2_Rl3vOioofs3mn4oCEqMTpZWLErgjsXQI0jwtepO37ytcSuortuBQgMpHxv9LXn5vHJFv2U8f1gze9Ya"
def b2092:AX:=(fun p0=>QY [p0] [(AV.i .i64 4096)] "A8skwK4yOjSF0I927.PTbMVEJNU_IkmSux9Vm_CR.ohWFMDUIdr4mfh80LjV7RafD0MhHIOrDLSpsSN9_sVRPhMgZ.hud0B5") l2092_0
def b62:AX:=QZ "0Ap8XrFDgasfZ6d2JUNSDPOzxMr7lTlGV5nF3Al0UB3ILRai1ifC_neTVTqglP_rEcYPHl9UuZcyCMwZ6Jzt46kUMEXrCJZ3Pr4S8NhZxy90qu447UZ8yCCJxskqA2Bn4BW6UETbJXlMmM0eyJAG_7646pJCWiQGjrLiVDn5RDCC2tS3nq59oDzM8SjMrBSuP9f1y8ByeVG1CC0FskzGXT6GISh2X4CnfpckvF14EpYxYflIgu5lAkGomH3CoR0KtO0"
abbrev row2071:AFx:=⟨1,6,[.t 2],b2071,(some [false]),false⟩
abbrev row2092:AFx:=⟨2,57,[.t 4],b2092,(some [false,false]),false⟩
abbrev row62:AFx:=⟨2,65,[.t 4,.t 5,.t 6],b62,none,false⟩
class Zq (T:Tbl):Prop where
 h2071:Tr T 2071=some row2071
 h2092:Tr T 2092=some row2092
 h62:Tr T 62=some row62
attribute [simp] Zq.h2071 Zq.h2092 Zq.h62
end
def zx6(x:Nat):x<2^Zbv x:=by
 unfold Zbv;split
 ·subst x;decide
 ·exact Ydn
def zsz{x:Nat}(h:x<4294967296):Zbv x<=32:=by
 unfold Zbv;split
 ·omega
 ·rename_i h0;have:=(Nat.log2_lt h0 (k:=32)).2 (by simpa using h);omega
def zv0{n k:Nat}(h:(ofN n).length=k+1):4294967296^k<=n:=by
 rcases Yo n (4294967296^k) with h1 | h1
 ·have:=zam h1;omega
 ·exact h1
def z26{b:List UInt32}{nb:Nat}(h:b.length=nb+2)(hb:b=ofN (val b)) :
  (ofN (val b*2^(32-Zbv (b[nb+1]'(by omega)).toNat))).length=nb+2:=by
 have hl:=zsz (zal (b[nb+1]'(by omega)));have hs:=zx6 (b[nb+1]'(by omega)).toNat;have h1:val b=val (b.take (nb+1))+4294967296^(nb+1)*(b[nb+1]'(by omega)).toNat:=by
  have:=zad (Ya (show nb+1<b.length by omega))
  rwa [za9 (by omega)]at this
 have h2:=za0 (b.take (nb+1));rw[show (b.take (nb+1)).length=nb+1 by simp;omega]at h2;generalize (b[nb+1]'(by omega)).toNat=t at *
 refine Nat.le_antisymm (zam ?_) ?_
 ·have h3:val b<4294967296^(nb+1)*2^Zbv t:=by
   have:4294967296^(nb+1)*(t+1)<=4294967296^(nb+1)*2^Zbv t:=Yam _ hs;rw[Yae,Ycu]at this;omega
  have h4:2^Zbv t*2^(32-Zbv t)=4294967296:=by
   rw[<-Yb3,show Zbv t+(32-Zbv t)=32 by omega]
  have h5:=Yc1 h3 (Ybh (n:=32-Zbv t) (show 0<2 by decide));rw[Yap,h4,<-Yaa]at h5;exact h5
 ·have h3:val b<=val b*2^(32-Zbv t):=Yb9 _ (Ybh (by decide));have:=za3 h3;rw[<-hb]at this;omega
def zx7{b:List UInt32}{nb:Nat}(h:b.length=nb+2)(hb:b=ofN (val b)):0<(b[nb+1]'(by omega)).toNat:=by
 have h1:val b=val (b.take (nb+1))+4294967296^(nb+1)*(b[nb+1]'(by omega)).toNat:=by
  have:=zad (Ya (show nb+1<b.length by omega))
  rwa [za9 (by omega)]at this
 have h2:=za0 (b.take (nb+1));rw[show (b.take (nb+1)).length=nb+1 by simp;omega]at h2;have h3:4294967296^(nb+1)<=val b:=zv0 (by rw[<-hb];omega);rcases Ya9 (b[nb+1]'(by omega)).toNat with h0 | h0
 ·rw[h0,Ya1]at h1;omega
 ·exact h0
def zhc(l:List UInt32):val (l++[0])=val l:=by rw[zaj];simp
def z27{A b:List UInt32}{nb L:Nat}(hA:(A++[0]).length=L+b.length)(hb:b.length=nb+2)(hbo:b=ofN (val b)):val ((A++[0]).drop L)<val b:=by
 have hl:L<=A.length:=by simp at hA;omega
 rw[Yba hl,zhc];have h1:=za0 (A.drop L);have h2:(A.drop L).length=nb+1:=by simp at hA ⊢;omega
 rw[h2]at h1;exact Yn h1 (zv0 (by rw[<-hbo];omega))
section
variable{T:Tbl}[Zl T][Zq T]
def zk7(a:List UInt32)(hl:a.length<=1000000):Zcg T 2071 [.sl (Za a) .an] [] =
  some (.bs (.fld (.loc 5) 10) 1 1 0 (ofN (val a)).length,[(.fld (.loc 5) 10,⟨1,.own,1,Za (ofN (val a))⟩)]):=by
 have h1:=zab a;have h2:=zcl (T:=T) (ofN (val a)) 0 (by omega);simp only[Yar,Y0,Yc0,Ya3]at h2;rw[zc3 Zq.h2071 rfl,b2071];simp -implicitDefEqProofs[zbe a (by omega),h2]
end
section
variable{T:Tbl}[Zl T][Zq T]
def zhd(a:List UInt32)(n:Nat)(hn:n<=4096)(hl:a.length<=100000):Zcg T 2092 [.sl (Za a) .an,.i .i64 n] [] =
  some (.bs (.fld (.fld (.loc 56) 0) 6010) 1 1 0 (ofN (val a*2^n)).length,[(.fld (.fld (.loc 56) 0) 6010,⟨1,.own,1,Za (ofN (val a*2^n))⟩)]):=by
 obtain⟨_,⟨c,m,rfl,hm,hc,hv⟩,hr⟩:=zyc (T:=T) (List.replicate (n/32) 0) a (n%32) (Ya7 _ (by decide)) (by simp;omega) (0,0,[]) ⟨Y5 _,Ybh (by decide),rfl,by simp⟩;have hc32:c<4294967296:=Yn hc (by
  have:2^(n%32)<=2^32:=Y2 (by decide) (by omega);simpa using this)
 have hval:val (List.replicate (n/32) 0++(m++[w32 c]))=val a*2^n:=by
  rw[zaj,zdn,Yay,zaj,hm];simp only[zao,zb6,Ya1,Y0,zae hc32,Yao];rw[hv,zyf,<-Yap,<-Yb3,show 32*(n/32)+n%32=n by omega,Y9]
 have hlen:(List.replicate (n/32) 0++(m++[w32 c])).length=n/32+a.length+1:=by simp[hm];omega
 have hnm:=zk7 (T:=T) (List.replicate (n/32) 0++(m++[w32 c])) (by omega);rw[hval]at hnm;rw[show l92_0=l2092_0 from rfl]at hr;unfold Zjd at hr;generalize List.replicate (n/32) 0++(m++[w32 c])=Q at *
 simp at hr;have hz:List.replicate (n/32) (0:UInt32)++w32 0::List.replicate a.length 0=List.replicate (n/32+a.length+1) 0:=by
  have:w32 0=0:=rfl;rw[this,<-Ybs,List.replicate_append_replicate,Yaj]
 rw[hz]at hr;have hn2:¬ (4096:Int)<(n:Int):=by omega
 have hq:(n:Int).tdiv 32=(n:Int)/32:=Yc3 (by omega);have hm2:(n:Int).tmod 32=(n:Int)%32:=Yc4 (by omega);have w1:IntKind.wrap .i64 ((n:Int)/32)=(n:Int)/32:=zac (n/32) (by omega);have w2:IntKind.wrap .i64 ((n:Int)/32+a.length)=(n:Int)/32+a.length:=zac _ (by omega);have w3:IntKind.wrap .i64 ((n:Int)/32+a.length+1)=(n:Int)/32+a.length+1:=zac _ (by omega);have p1:(0:Int)<=(n:Int)/32+a.length+1:=by omega
 have p2:(n:Int)/32+a.length+1<=4294967296:=by omega
 have p3:((n:Int)/32+a.length+1).toNat=n/32+a.length+1:=by omega
 have htk:List.take (n/32+a.length+1) Q=Q:=Yb (by omega);rw[zc3 Zq.h2092 rfl,b2092];simp -implicitDefEqProofs[hn2,hq,hm2,w1,w2,w3,p1,p2,p3,hr,hnm,htk,hlen]
end
section
variable{T:Tbl}[Zl T][Zt T][Zs T][Zo T][Zq T]
def ze5(a b:List UInt32)(ha:a.length<=90000)(hb:b.length<=90000):Zb T 62 [.sl (Za a) .an,.sl (Za b) .an] =
  some (if val b=0 then .tup [.sl [] .an,.sl [] .an,.b false] else .tup [.sl (Za (ofN (val a/val b))) .an,.sl (Za (ofN (val a%val b))) .an,.b true]):=by
 have hnb:=zbj (T:=T) b (by omega);have hna:=zbj (T:=T) a (by omega);have hlb:=zab b;have hla:=zab a;have hcmp:=zjb (T:=T) a (ofN (val b)) (by omega) (by omega);rw[zah]at hcmp;rw[zaa Zq.h62 rfl,b62];by_cases h0:val b=0
 ·rw[h0]at hnb;simp -implicitDefEqProofs[hnb,h0]
 ·have h0':ofN (val b)≠[]:=fun h=>h0 (zbq.1 h);have hl0:(ofN (val b)).length≠0:=fun h=>h0' (Y3 h);by_cases hlt:val a<val b
  ·have hd:=Ybt hlt;have hm:=Yu hlt;simp -implicitDefEqProofs[hnb,h0,hl0,hcmp,zdj,hlt,hna,hd,hm]
  ·rcases Yo 1 (ofN (val b)).length with h1 | h1
   ·obtain⟨b',hb'⟩:∃b',b'=ofN (val b):=⟨_,rfl⟩;have hvb:val b'=val b:=by rw[hb',zah]
    have hbo:b'=ofN (val b'):=by rw[hvb,hb']
    rw[<-hb']at hnb hcmp hl0 h1 hlb;obtain⟨nb,hnbl⟩:∃nb,b'.length=nb+2:=⟨b'.length-2,by omega⟩;have hll:=zut (T:=T) (b'[nb+1]'(by omega));have hbl:=zsz (zal (b'[nb+1]'(by omega)));have hup:=z26 hnbl hbo;obtain⟨s,hs⟩:∃s,s=32-Zbv (b'[nb+1]'(by omega)).toNat:=⟨_,rfl⟩;obtain⟨l,hll2⟩:∃l,l=Zbv (b'[nb+1]'(by omega)).toNat:=⟨_,rfl⟩;rw[<-hs]at hup;rw[<-hll2]at hll hs hbl;obtain⟨B,hB⟩:∃B,B=ofN (val b'*2^s):=⟨_,rfl⟩;obtain⟨A,hA⟩:∃A,A=ofN (val a*2^s):=⟨_,rfl⟩;have hua:=zhd (T:=T) a s (by omega) (by omega);have hub:=zhd (T:=T) b' s (by omega) (by omega);rw[<-hA]at hua;rw[<-hB]at hub hup;have hBo:B=ofN (val B):=by rw[hB,zah]
    have hvA:val A=val a*2^s:=by rw[hA,zah]
    have hvB:val B=val b'*2^s:=by rw[hB,zah]
    have hAB:B.length<=A.length:=by
     rw[hA,hB];exact za3 (Yz _ (by omega))
    have hAl:A.length<=a.length+1:=by
     rw[hA];refine zam ?_;have h2:2^s<=2^32:=Y2 (by decide) (by omega);rw[Yaa];exact Yc7 (Yam _ h2) (Yc1 (za0 a) (by decide))
    have hpos:=zx7 (hup) hBo;obtain⟨Q,R,hQ,hR,hvQ,hvR,hlong⟩:=zsm (T:=T) (A++[0]) B (A.length+1-B.length) nb hup hpos (by simp;omega) (by simp;omega) (z27 (by simp;omega) hup hBo);rw[zhc,hvA,hvB,hvb,Nat.mul_div_mul_right _ _ (Ybh (by decide))]at hvQ;rw[zhc,hvA,hvB,hvb,Nat.mul_mod_mul_right]at hvR;have hnq:=zbj (T:=T) Q (by omega);have hAl1:(A++[(0:UInt32)]).length=A.length+1:=by simp
    rw[hAl1]at hlong hR;have hdn:=zs9 (T:=T) R s (by omega) (by omega);rw[hvR,Nat.mul_div_cancel _ (Ybh (by decide))]at hdn;rw[hvQ]at hnq;obtain⟨q1,hq1⟩:∃p,p=nb+1:=⟨_,rfl⟩;have c1:q1<b'.length:=by omega
    have hwt:b'[nb+1]'(by omega)=b'[q1]'c1:=zk1 (by omega) _ _;rw[hwt]at hll;have w1:IntKind.wrap .i64 ((b'.length:Int)-1)=(q1:Int):=by rw[zac _ (by omega)];omega
    have w2:IntKind.wrap .i64 (32-(l:Int))=(s:Int):=by rw[zac _ (by omega)];omega
    have c3:A.length<=4294967295:=by omega
    have c4:w32 0=0:=rfl;have c5:A.length+1<=A.length+1-B.length+B.length:=by omega
    have c2:¬ ((b'.length:Int)=1):=by omega
    have t1:List.take (A.length+1) R=R:=Yb (by omega);have t2:List.take (A.length+1-B.length) Q=Q:=Yb (by omega);simp -implicitDefEqProofs[hnb,h0,hl0,hcmp,zdj,hlt,w1,w2,c1,c2,c3,c4,c5,hll,hua,hub,hlong,hnq,hdn,t1,t2,hQ,hR]
   ·have hl1:(ofN (val b)).length=1:=by omega
    obtain⟨w,hw⟩:=List.length_eq_one_iff.1 hl1;have hvb:val b=w.toNat:=by
     have:=zah (val b);rw[hw]at this;simp at this;omega
    have hwl:=zal w;have hwd:=zk4 (T:=T) a (val b) (by omega) (by omega) (by omega);have hof:=zhb (T:=T) (val a%val b) (by have:=Ya7 (val a) (show 0<val b by omega);omega);have m1:val a%val b%18446744073709551616=val a%val b:=Yu (by have:=Ya7 (val a) (show 0<val b by omega);omega);rw[hw]at hnb hcmp;rw[<-hvb]at hwl;simp -implicitDefEqProofs[hnb,h0,hcmp,zdj,hlt,hwd,<-hvb,hof,m1]
end
def Zha(n:Nat):List UInt8:=if h:n<10 then [UInt8.ofNat (48+n)] else UInt8.ofNat (48+n%10)::Zha (n/10)
termination_by n
decreasing_by omega
def Zaa(n:Nat):List UInt8:=(Zha n).reverse
def Zd0:List AV->Option UInt32
 | [.i .u32 n]=>if 0<=n/\n<4294967296 then some (w32 n.toNat) else none
 | _=>none
def prim68:List AV->Option AV
 | [.sl els .an]=>if els.length<=1000 then (els.mapM Zd0).map fun l=>.s (Zaa (val l)) else none
 | _=>none
def zpo(l:List UInt32):(Za l).mapM Zd0=some l:=by
 induction l with
 | nil=>rfl
 | cons x l ih=>
  have hx:=zal x;have h1:Zd0 [u32 x.toNat]=some x:=by
   unfold Zd0 u32;simp only;rw[if_pos ⟨by omega,by omega⟩];simp
  have e:Za (x::l)=[u32 x.toNat]::Za l:=rfl;rw[e,Ya8,h1,ih]
  rfl
def zlg(a:List UInt32)(h:a.length<=1000):prim68 [.sl (Za a) .an]=some (.s (Zaa (val a))):=by
 unfold prim68;simp only[zg7,h,if_true,zpo,Ybj]
def Zkt:Nat->List UInt8->Int
 | _,[]=>-1
 | k,c::r=>if c.toNat<48\/57<c.toNat\/k=60 then k else Zkt (k+1) r
def Zjy(l:List UInt8):Int:=if l=[] then 0 else Zkt 0 l
def rd(l:List UInt8):Nat:=l.foldl (fun n c=>n*10+(c.toNat-48)) 0
def zim{n:Nat}(h:n<10):Zha n=[UInt8.ofNat (48+n)]:=by rw[Zha,dif_pos h]
def znz{n:Nat}(h:¬ n<10):Zha n=UInt8.ofNat (48+n%10)::Zha (n/10):=by rw[Zha,dif_neg h]
theorem zdo{n:Nat}(h:n<10):Zaa n=[UInt8.ofNat (48+n)]:=by rw[Zaa,zim h];rfl
def zlh{n:Nat}(h:¬ n<10):Zaa n=Zaa (n/10)++[UInt8.ofNat (48+n%10)]:=by rw[Zaa,znz h];simp[Zaa]
def txN(n:Nat)(s:List UInt8):List UInt8:=if n=0/\s≠[] then s else Zaa n++s
def Zce:Nat->Nat->List UInt8
 | 0,_=>[]
 | k+1,x=>Zce k (x/10)++[UInt8.ofNat (48+x%10)]
def u8c(l:List UInt8):List AV:=l.map fun b=>u8 b.toNat
@[simp] def z0f(l:List UInt8):(u8c l).length=l.length:=by simp[u8c]
@[simp] def zaek(l:List UInt8):(u8c l).flatMap rfC=[]:=by induction l with | nil=>rfl | cons x l ih=>simp[u8c]
@[simp] def zabq{σn:BId->BId}{σg:Nat->Nat}(l:List UInt8):(u8c l).map (fun c=>rlC σn σg (wkA c))=u8c l:=by induction l with | nil=>rfl | cons x l ih=>simp[u8c]
@[simp] def zvd(l:List UInt8):(u8c l).all pureC=true:=by induction l with | nil=>rfl | cons x l ih=>simp[u8c]
@[simp] def z3d(l:List UInt8):(∀x,x∈u8c l->pureC x=true)=True:=by
 have:=zvd l;rw[Yi]at this;simpa using this
def zyi{l:List UInt8}{j d:Nat}(h:d<256)(hj:j<l.length):(u8c l).take j++u8 d::(u8c l).drop (j+1)=u8c (l.set j (UInt8.ofNat d)):=by
 rw[Yb8,if_pos hj];simp[u8c,List.map_take,List.map_drop,Yu h]
theorem zen:∀k x,(Zce k x).length=k
 | 0,_=>rfl
 | k+1,x=>by simp[Zce,zen k]
def zhg(x:Nat):Zce 0 x=[]:=rfl
def zd0(k x:Nat):Zce (k+1) x=Zce k (x/10)++[UInt8.ofNat (48+x%10)]:=rfl
def zve{m:List UInt8}{j:Nat}(w:UInt8):(List.replicate (j+1) 0++m).set j w=List.replicate j 0++w::m:=by
 rw[List.set_append_left j w (by simp),Ycp,Yai j w (by simp)];simp
def zvf(m:List UInt8):((u8c m).map fun c=>[c]).mapM Zcr=some m:=by
 induction m with
 | nil=>rfl
 | cons b m ih=>
  have e:((u8c (b::m)).map fun c=>[c])=[u8 b.toNat]::((u8c m).map fun c=>[c]):=rfl;rw[e,Ya8,ih];simp[Zcr,u8]
section
def l101_0:AX:=QZ "Are2.xVJvKEmS4t.iNevqxHs7Xq_iq7oWbuZ5hlb7phE9D2DOmaIlJHd0rVzc"
def b101:AX:=(fun p0=>QY [p0] [] "3BD.luAPlxrBoMMCVnYseWg3YlHlHMqYTBiD1Zwf0Okr") l101_0
abbrev row101:AFx:=⟨1,19,[.t 2],b101,none,false⟩
class Zb0 (T:Tbl):Prop where
 h101:Tr T 101=some row101
attribute [simp] Zb0.h101
end
section
abbrev row68:AFx:=⟨0,0,[],.prim prim68,none,false⟩
class Za8 (T:Tbl):Prop where
 h68:Tr T 68=some row68
attribute [simp] Za8.h68
section
variable{T:Tbl}[Za8 T]{d:Option Nat}{st:St}
def p68(xs:List AV):Zb T 68 xs=prim68 xs:=zid Za8.h68
end
end
section
def b103:AX:=QZ "1ExVRRW3qSWgPNn0XhcuitGZc3K6iSJhD675qvJom8wvUYpnmG8oxdYLo3GJsW.dGcKiNWgCXCszOrGw7yub7OaxdREDYvGRfdX4ho6VtW9niHeeiIY.N169Zu5arjR73dJR5Ijfxc3Hm7Jo7vi3yn7c_LJg0QPhGncD7zDQKo0eUVouV4uod9OtEFa3orgPRfPaUC4RD7r_j32GKG"
def l125_0:AX:=QZ "mbBpPp3bKsZ.y356bXE3MO6t5l_asvBzyiSmgHP_ADCg92b"
def b125:AX:=(fun p0=>QY [p0] [] "0KP7NwXQuamT9yl17mR3tkl") l125_0
abbrev row103:AFx:=⟨2,37,[.t 4],b103,none,false⟩
abbrev row125:AFx:=⟨2,17,[.t 4],b125,none,false⟩
class Zf1 (T:Tbl):Prop where
 h103:Tr T 103=some row103
 h125:Tr T 125=some row125
attribute [simp] Zf1.h103 Zf1.h125
end
section
variable{T:Tbl}
def zr1(x0:Nat)(_hx0:x0<4294967296):∀y:Nat×Nat×List UInt8,(y.1<=9/\y.2.1<4294967296/\y.2.2.length=9-y.1/\Zce y.1 y.2.1++y.2.2=Zce 9 x0) ->
  Zr T 0 0 (.norm false [3]) l101_0 ⟨[(0,u32 y.2.1),(3,.ptr (.loc 3) 1 9 0 0),(4,.i .i64 ((y.1:Int)-1))],[(.loc 3,⟨1,.str,9,[u8c (List.replicate y.1 0++y.2.2)]⟩)],3⟩ =
   some (.n,⟨[(3,.ptr (.loc 3) 1 9 0 0)],[(.loc 3,⟨1,.str,9,[u8c (Zce 9 x0)]⟩)],3⟩):=by
 refine zcc (fun y:Nat×Nat×List UInt8=>⟨[(0,u32 y.2.1),(3,.ptr (.loc 3) 1 9 0 0),(4,.i .i64 ((y.1:Int)-1))],[(.loc 3,⟨1,.str,9,[u8c (List.replicate y.1 0++y.2.2)]⟩)],3⟩) _ (fun y=>y.1) _ ?_
 rintro⟨k,x,m⟩ ⟨hk,hx,hm,hd⟩
 simp only at hk hx hm hd;cases k with
 | zero=>
  right;have hd:m=Zce 9 x0:=by simpa only[zhg,Ybn]using hd
  subst hd;generalize Zce 9 x0=m;constructor<;>simp -implicitDefEqProofs[l101_0]
 | succ j=>
  left;have hw:IntKind.wrap .i64 ((j:Int)-1)=(j:Int)-1:=zac _ (by omega);have h1:(j:Int)<9:=by omega
  have h2:j<=8:=by omega
  have hd1:48+x%10<256:=by omega
  have hs:=(zyi (l:=List.replicate (j+1) 0++m) (j:=j) hd1 (by simp;omega)).trans (congrArg u8c (zve (j:=j) (m:=m) (UInt8.ofNat (48+x%10))));have m1:(48+x%10)%4294967296=48+x%10:=Yu (by omega);have m2:(48+x%10)%256=48+x%10:=Yu (by omega);have m3:x/10%4294967296=x/10:=Yu (by omega);have hlen:j+1+m.length=9:=by omega
  refine⟨(j,x/10,UInt8.ofNat (48+x%10)::m),⟨by simp only;omega,by simp only;omega,by simp;omega,?_⟩,Yt j,?_,rfl⟩
  ·simp only;rw[<-hd,zd0,Yax]
   rfl
  ·simp -implicitDefEqProofs[l101_0,hw,h1,h2,hs,m1,m2,m3,hlen]
end
section
variable{T:Tbl}[Zb0 T]
def zmh(x:Nat)(hx:x<4294967296):Zb T 101 [u32 x]=some (.s (Zce 9 x)):=by
 have h:=zr1 (T:=T) x hx (9,x,[]) ⟨Yg _,hx,rfl,by simp⟩;have e:u8c (List.replicate 9 0++[])=[u8 0,u8 0,u8 0,u8 0,u8 0,u8 0,u8 0,u8 0,u8 0]:=rfl;simp only[e]at h;rw[zaa Zb0.h101 rfl,b101];have h8:IntKind.wrap .i64 8=8:=by decide
 have hl9:=zen 9 x;generalize hm:Zce 9 x=m at *
 have t9:List.take 9 ((u8c m).map fun c=>[c])=(u8c m).map fun c=>[c]:=Yb (by simp[hl9]);have hr:=zvf m;simp at h;simp -implicitDefEqProofs[h,hr,hl9,t9]
end
section
variable{T:Tbl}[Zl T][Zs T][Zb0 T]
def Zm9(l:List UInt8)(o:List UInt32)(i0 k:Nat):St:=
 ⟨[(0,.s l),(3,.ptr (.loc 3) 1 4 0 0),(5,.sl (Za o) .an),(6,.i .i64 (i0+k:Nat)),(7,u32 (rd ((l.drop i0).take k))),(8,u32 (10^k)),(9,.i .i64 k)],[(.loc 3,⟨1,.str,4,[[.i .i64 0,.i .i64 0,.i .i64 0,.i .i64 0]]⟩)],3⟩
end
def sg(n:Bool)(k:Nat):Int:=if n then -(k:Int) else k
def wv(n:Bool)(a:List UInt32):Int:=sg n (val a)
abbrev wh(n:Bool)(a:List UInt32):AV:=.agg [.b n,.sl (Za a) .an]
abbrev ez(z:Int):AV:=wh (decide (z<0)) (ofN z.natAbs)
def sgI(z:Int):Int:=if z<0 then -1 else if z=0 then 0 else 1
def zv6(n:Bool)(k:Nat):decide (sg n k<0)=(n&&decide (k≠0)):=by
 cases n
 ·simp[sg]
 ·by_cases h:k=0<;>simp[sg,h];omega
def ztd(n:Bool)(k:Nat):(sg n k).natAbs=k:=by cases n<;>simp[sg]
@[simp] theorem zhh(z:Int):wv (decide (z<0)) (ofN z.natAbs)=z:=by
 unfold wv;rw[zah];by_cases h:z<0
 ·simp[sg,h];omega
 ·simp[sg,h];omega
def zv7(n:Bool)(a:List UInt32):(wv n a).natAbs=val a:=ztd n _
def z3e(n:Bool)(k:Nat):ez (sg n k)=wh (n&&decide (k≠0)) (ofN k):=by
 unfold ez;rw[zv6,ztd]
def zms(n:Bool)(x y:Nat):sg n (x+y)=sg n x+sg n y:=by cases n<;>simp[sg]<;>omega
def zte{n m:Bool}(h:n≠m){x y:Nat}(hxy:x<y):sg m (y-x)=sg n x+sg m y:=by
 cases n<;>cases m<;>simp[sg]at h ⊢<;>omega
def ztf{n m:Bool}(h:n≠m){x y:Nat}(hxy:¬ x<y):sg n (x-y)=sg n x+sg m y:=by
 cases n<;>cases m<;>simp[sg]at h ⊢<;>omega
def z3f(n:Bool)(x:Nat):sg (!n) x=- sg n x:=by cases n<;>simp[sg]
def z3g(n m:Bool)(x y:Nat):sg (n != m) (x*y)=sg n x*sg m y:=by cases n<;>cases m<;>simp[sg,Int.mul_neg,Int.neg_mul]
def zv8(n:Bool)(x:Nat):sgI (sg n x)=if x=0 then 0 else if n then -1 else 1:=by
 unfold sgI;cases n<;>simp[sg]<;>split<;>(try split)<;>omega
def Zef(z:Int):List UInt8:=if z<0 then 45::Zaa z.natAbs else Zaa z.natAbs
def zli{n:Nat}:∀{k:Nat},n<10^(k+1)->(Zaa n).length<=k+1:=by
 induction n using Nat.strongRecOn with
 | _ n ih=>
  intro k h;by_cases h0:n<10
  ·rw[zdo h0];simp
  ·rw[zlh h0];cases k with
   | zero=>simp at h;omega
   | succ k=>
    have:=ih (n/10) (by omega) (k:=k) (Ya4 (by rw[Y9,<-Yaa];exact h));simp;omega
theorem zeo{a:List UInt32}(h:a.length<=1000):(Zaa (val a)).length<=10000:=by
 obtain⟨K,hK⟩:∃K,K=9999:=⟨_,rfl⟩;have h1:=za0 a;have h2:4294967296^a.length<=(10^10)^a.length:=Yc2 (by decide) _;rw[<-Ydy]at h2;have h3:10^(10*a.length)<=10^(K+1):=Y2 (by decide) (by omega);have h4:=zli (k:=K) (Yn h1 (Yf h2 h3));clear h1 h2 h3;omega
def zdp{x y:Int}{L:Nat}(hx:(ofN x.natAbs).length<=L)(hy:(ofN y.natAbs).length<=L):(ofN (x+y).natAbs).length<=L+1:=by
 refine zam ?_;have h1:=za0 (ofN x.natAbs);have h2:=za0 (ofN y.natAbs);rw[zah]at h1 h2;have h3:4294967296^(ofN x.natAbs).length<=4294967296^L:=Y2 (by decide) hx;have h4:4294967296^(ofN y.natAbs).length<=4294967296^L:=Y2 (by decide) hy;rw[Yaa];generalize 4294967296^L=p at *
 omega
def zhi(x:Int):ofN (-x).natAbs=ofN x.natAbs:=by rw[Int.natAbs_neg]
def zap{x y:Int}{L M:Nat}(hx:(ofN x.natAbs).length<=L)(hy:(ofN y.natAbs).length<=M):(ofN (x*y).natAbs).length<=L+M:=by
 refine zam ?_;have h1:=za0 (ofN x.natAbs);have h2:=za0 (ofN y.natAbs);rw[zah]at h1 h2;rw[Ydx,Yb3];exact Nat.mul_lt_mul'' (Yn h1 (Y2 (by decide) hx)) (Yn h2 (Y2 (by decide) hy))
def zbr(n:Bool)(a:List UInt32):(ofN (wv n a).natAbs).length<=a.length:=by rw[zv7];exact zab a
def Zm0(l:List UInt8):Int:=sg (l.head? = some 45) (rd (if l.head? = some 45 then l.tail else l))
def Zl0(l:List UInt8):Int:=Zjy (if l.head? = some 45 then l.tail else l)
def Zm1(l:List UInt8):Int:=if l.head? = some 45 then 1 else 0
section
def b55:AX:=QZ "BjNRq1yUm4.2Cyy.Jb46948iT5c3qX_s3nd6"
def b38:AX:=QZ "Yt.sq7SU.L65v3MVk41oqDxAbADoe"
def b40:AX:=QZ "NXb1XhPqw5cgOH5ryjFjMD8P3t7xKdJ"
def b23:AX:=QZ "ILJ_gWKXFtEwscoJcAXRHy5MCYXn2FGfUmJgRVluoiUMOSq0PPAAALKpyBbBZEFiBNvL68ig6q3n1ZP.lZnJ.V0658wkBTUXbX6n5AIfeXm7s8_ZYpzy5TxGGUK8VX0KrSuJo"
def b25:AX:=QZ "IL0jBiR_ansCY2LTTBEwfra8cAbRG9"
def b27:AX:=QZ "zHaL2KAYxopr1tNANvJ60vvWKvlw9KZ6aUe7nIR3TMFM"
def b37:AX:=QY [] [(AV.i .i64 (-1))] "BxrpFReBRmoR1uh9BuvxYDmfKgDEdwvPHKV_ldNO_Wi.nY.1mIt32"
def b41:AX:=QZ "1xW_oR3YpdvVOIRY3Trbcl9NZsuXvWdKMUyZFWd2oLThB7gpw0V4"
def b36:AX:=QZ "O68nENhwCBGDpdyJeKWe8re578Nv"
def b34:AX:=QY [] [(AV.s [45])] "16GCF8BwzFk_qp0vc0h0hXxMkKYxNwcjB5PE2lPr3gPWmDFLyS3FmC5"
abbrev row55:AFx:=⟨2,13,[.cell 4 (some 2)],b55,none,false⟩
abbrev row38:AFx:=⟨1,9,[.cell 2 (some 2)],b38,none,false⟩
abbrev row40:AFx:=⟨1,10,[.cell 2 (some 2)],b40,none,false⟩
abbrev row23:AFx:=⟨2,39,[.cell 4 (some 2)],b23,none,false⟩
abbrev row25:AFx:=⟨2,9,[.cell 4 (some 2)],b25,none,false⟩
abbrev row27:AFx:=⟨2,16,[.cell 4 (some 2)],b27,none,false⟩
abbrev row37:AFx:=⟨1,10,[.t 2],b37,none,false⟩
abbrev row41:AFx:=⟨1,14,[.cell 2 (some 2)],b41,none,false⟩
abbrev row36:AFx:=⟨2,9,[.t 4],b36,none,false⟩
abbrev row34:AFx:=⟨1,13,[.t 2],b34,none,false⟩
class Zi (T:Tbl):Prop where
 h55:Tr T 55=some row55
 h38:Tr T 38=some row38
 h40:Tr T 40=some row40
 h23:Tr T 23=some row23
 h25:Tr T 25=some row25
 h27:Tr T 27=some row27
 h37:Tr T 37=some row37
 h41:Tr T 41=some row41
 h36:Tr T 36=some row36
 h34:Tr T 34=some row34
attribute [simp] Zi.h55 Zi.h38 Zi.h40 Zi.h23 Zi.h25 Zi.h27 Zi.h37 Zi.h41 Zi.h36 Zi.h34
section
variable{T:Tbl}[Zi T]{d:Option Nat}{st:St}
@[simp] def x38(xs:List AV):Z3 (orc T) T 38 xs d st=cP T 38 false xs d st:=zbp Zi.h38
@[simp] def x23(xs:List AV):Z3 (orc T) T 23 xs d st=cP T 23 false xs d st:=zbp Zi.h23
@[simp] def x25(xs:List AV):Z3 (orc T) T 25 xs d st=cP T 25 false xs d st:=zbp Zi.h25
@[simp] def x27(xs:List AV):Z3 (orc T) T 27 xs d st=cP T 27 false xs d st:=zbp Zi.h27
@[simp] def x37(xs:List AV):Z3 (orc T) T 37 xs d st=cP T 37 false xs d st:=zbp Zi.h37
@[simp] def x36(xs:List AV):Z3 (orc T) T 36 xs d st=cP T 36 false xs d st:=zbp Zi.h36
@[simp] def x34(xs:List AV):Z3 (orc T) T 34 xs d st=cP T 34 false xs d st:=zbp Zi.h34
end
end
section
def l198_0:AX:=QZ "rKMvGit5J8nEoPzsHaQGqbdLv0EFba"
def b198:AX:=(fun p0=>QY [p0] [] "5W8x_tQKFddFwA8pdN13BN") l198_0
def l199_0:AX:=QZ "8HEbCyDraRT6DiBvc29oqy_MvSciBujUIKHqjTqoRY98Hdlf_4_GdI9q9J8r_"
def b199:AX:=(fun p0=>QY [p0] [] "vd76P99IP6z22fr0FKeUk7SMx.xas8C6hPohL4yrXEiwNEtdGuk8yDNFi7r49RsOJpQMAO73NUCn7KfB_Sm.a5aYezrTTW7oKpwlw78fl5jPr2dNKGysWnqxp5OtJedqSrYIbE6PSnucrYpoHDPS3hF") l199_0
def b200:AX:=QZ "1rvYYy9qR05F6tB5.p897PW_9RyhE94T2Cgx"
def b201:AX:=QZ "4f20JLEBu7CmrOaj4Ex_QdcehaU0ZqSHR8wONiHqx.Nd1WB0dbVsARFa2hQRCcEgSVKKu0kfzYuxf0Ojir2m0q7n64E56Jj3.VOZ1k5XLbgXiDSrQbbahH406Um2YPgxRs0S8p0iWHg8bpnOqgzohJ"
abbrev row198:AFx:=⟨2,12,[.t 4],b198,none,false⟩
abbrev row199:AFx:=⟨2,56,[.t 4],b199,none,false⟩
abbrev row200:AFx:=⟨1,12,[.t 2],b200,none,false⟩
abbrev row201:AFx:=⟨2,37,[.t 4,.t 5],b201,none,false⟩
class Zm (T:Tbl):Prop where
 h198:Tr T 198=some row198
 h199:Tr T 199=some row199
 h200:Tr T 200=some row200
 h201:Tr T 201=some row201
attribute [simp] Zm.h198 Zm.h199 Zm.h200 Zm.h201
end
end Go.Ab