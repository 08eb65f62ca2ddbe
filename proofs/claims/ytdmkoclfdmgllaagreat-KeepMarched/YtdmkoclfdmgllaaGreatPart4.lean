/-
  A calculus of values, boxes and code, and what functions of the program compute, proved in it.
  Conditions: none beyond those that the theorems state. (Part 4.)
-/
import Derived.Test.YtdmkoclfdmgllaaGreatPart3

set_option linter.unusedSectionVars false
set_option linter.unusedVariables false
set_option linter.unusedSimpArgs false
set_option linter.unnecessarySimpa false

namespace Go.Ab
section
variable{T:Tbl}[CLimb T]
theorem zy0(x y c:UInt32):callF T 115 [u32 x.toNat,u32 y.toNat,u32 c.toNat] =
  some (.tup [u32 (w32 (x.toNat+y.toNat+c.toNat)).toNat,u32 (w32 ((x.toNat+y.toNat+c.toNat)/4294967296)).toNat]):=by
 have hx:=zaq x
 have hy:=zaq y
 have hc:=zaq c
 rw[f115 _ rfl,b115]
 simp[zbw]
 repeat' split
 all_goals simp
 all_goals omega
theorem zy1(x y b:UInt32):callF T 116 [u32 x.toNat,u32 y.toNat,u32 b.toNat] =
  some (.tup [u32 (w32 (x.toNat+8589934592-(y.toNat+b.toNat))).toNat,u32 (w32 (2-(x.toNat+8589934592-(y.toNat+b.toNat))/4294967296)).toNat]):=by
 have hx:=zaq x
 have hy:=zaq y
 have hb:=zaq b
 rw[f116 _ rfl,b116]
 by_cases h1:x.toNat<y.toNat <;>
 by_cases h2:sub32 x.toNat y.toNat<b.toNat <;>
 ·simp[h1,h2,zbw]
  unfold sub32 at *
  omega
theorem zj2{a b:Nat}(ha:a<4294967296)(hb:b<4294967296):a*b≤18446744065119617025:=by
 have:a*b≤4294967295*4294967295:=Nat.mul_le_mul (by omega) (by omega)
 omega
theorem zy2(x y c d:UInt32):callF T 117 [u32 x.toNat,u32 y.toNat,u32 c.toNat,u32 d.toNat] =
  some (.tup [u32 (w32 ((x.toNat*y.toNat+c.toNat+d.toNat)/4294967296)).toNat,u32 (w32 (x.toNat*y.toNat+c.toNat+d.toNat)).toNat]):=by
 have hx:=zaq x
 have hy:=zaq y
 have hc:=zaq c
 have hd:=zaq d
 have hm:=zj2 hx hy
 rw[f117 _ rfl,b117]
 simp[zbw]
 generalize x.toNat*y.toNat=m at *
 omega
theorem zpx(hi lo y:UInt32):callF T 118 [u32 hi.toNat,u32 lo.toNat,u32 y.toNat] =
  some (if y.toNat≤hi.toNat then .tup [u32 0,u32 0,.b false]
   else .tup [u32 (w32 ((hi.toNat*4294967296+lo.toNat)/y.toNat)).toNat,u32 (w32 ((hi.toNat*4294967296+lo.toNat)%y.toNat)).toNat,.b true]):=by
 have hx:=zaq hi
 have hy:=zaq y
 have hl:=zaq lo
 rw[f118 _ rfl,b118]
 by_cases h1:y.toNat≤hi.toNat
 ·simp[h1]
 ·have h2:¬ y.toNat=0:=by omega
  simp[h1,h2,zbw]
  have e:hi.toNat*4294967296%18446744073709551616=hi.toNat*4294967296:=Nat.mod_eq_of_lt (by omega)
  have e2:(hi.toNat*4294967296) ||| lo.toNat=hi.toNat*4294967296+lo.toNat:=by
   have:=Nat.two_pow_add_eq_or_of_lt (i:=32) hl hi.toNat
   rw[Nat.mul_comm hi.toNat,show (4294967296:Nat)=2^32 from rfl,this]
  have h3:(hi.toNat*4294967296+lo.toNat)/y.toNat<4294967296:=by
   rw[Nat.div_lt_iff_lt_mul (by omega)]
   have:=Nat.mul_le_mul_left 4294967296 (show hi.toNat+1≤y.toNat by omega)
   omega
  rw[e,e2,Nat.mod_eq_of_lt (show hi.toNat*4294967296+lo.toNat<18446744073709551616 by omega)]
  exact⟨rfl,rfl⟩
theorem zee(x y c:Nat)(hx:x<4294967296)(hy:y<4294967296)(hc:c<4294967296):callF T 115 [u32 x,u32 y,u32 c]=some (.tup [u32 ((x+y+c)%4294967296),u32 ((x+y+c)/4294967296)]):=by
 have:=zy0 (T:=T) (w32 x) (w32 y) (w32 c)
 rw[zaf hx,zaf hy,zaf hc,zbw,zaf (by omega)]at this
 exact this
theorem zft(x y b:Nat)(hx:x<4294967296)(hy:y<4294967296)(hb:b<4294967296):callF T 116 [u32 x,u32 y,u32 b] =
  some (.tup [u32 ((x+8589934592-(y+b))%4294967296),u32 (2-(x+8589934592-(y+b))/4294967296)]):=by
 have:=zy1 (T:=T) (w32 x) (w32 y) (w32 b)
 rw[zaf hx,zaf hy,zaf hb,zbw,zaf (by omega)]at this
 exact this
theorem zig(x y c d:Nat)(hx:x<4294967296)(hy:y<4294967296)(hc:c<4294967296)(hd:d<4294967296):callF T 117 [u32 x,u32 y,u32 c,u32 d] =
  some (.tup [u32 ((x*y+c+d)/4294967296),u32 ((x*y+c+d)%4294967296)]):=by
 have:=zy2 (T:=T) (w32 x) (w32 y) (w32 c) (w32 d)
 have hm:=zj2 hx hy
 rw[zaf hx,zaf hy,zaf hc,zaf hd,zbw (x*y+c+d),zaf (by omega)]at this
 exact this
theorem z0u{hi lo y:Nat}(h:hi<y)(hl:lo<4294967296):(hi*4294967296+lo)/y<4294967296:=by
 rw[Nat.div_lt_iff_lt_mul (by omega)]
 have:=Nat.mul_le_mul_left 4294967296 (show hi+1≤y by omega)
 omega
theorem zmz(hi lo y:Nat)(hx:hi<y)(hl:lo<4294967296)(hy:y<4294967296):callF T 118 [u32 hi,u32 lo,u32 y] =
  some (.tup [u32 ((hi*4294967296+lo)/y),u32 ((hi*4294967296+lo)%y),.b true]):=by
 have:=zpx (T:=T) (w32 hi) (w32 lo) (w32 y)
 rw[zaf (show hi<4294967296 by omega),zaf hl,zaf hy,zaf (z0u hx hl),zaf (by have:=Nat.mod_lt (hi*4294967296+lo) (show 0<y by omega);omega),if_neg (by omega)]at this
 exact this
theorem zrv(hi lo y:Nat)(hx:y≤hi)(hh:hi<4294967296)(hl:lo<4294967296):callF T 118 [u32 hi,u32 lo,u32 y]=some (.tup [u32 0,u32 0,.b false]):=by
 have:=zpx (T:=T) (w32 hi) (w32 lo) (w32 y)
 rw[zaf hh,zaf hl,zaf (show y<4294967296 by omega),if_pos hx]at this
 exact this
def blen(n:Nat):Nat:=if n=0 then 0 else n.log2+1
theorem zj3{n s:Nat}(h:n/2^s≠0):blen n=s+blen (n/2^s):=by
 have hn:n≠0:=by rintro rfl;simp at h
 have hlog:(n/2^s).log2+s=n.log2:=by
  have h1:=Nat.log2_self_le h
  have h2:=Nat.lt_log2_self (n:=n/2^s)
  have h3:=Nat.log2_self_le hn
  have h4:=Nat.lt_log2_self (n:=n)
  have hp:0<2^s:=Nat.pow_pos (by decide)
  have a1:2^((n/2^s).log2+s)≤n:=by
   rw[Nat.pow_add]
   exact(Nat.le_div_iff_mul_le hp).1 h1
  have a2:n<2^((n/2^s).log2+1+s):=by
   rw[Nat.pow_add]
   exact(Nat.div_lt_iff_lt_mul hp).1 h2
  have b1:=(Nat.le_log2 hn).2 a1
  have b2:=(Nat.log2_lt hn).2 a2
  omega
 unfold blen
 rw[if_neg h,if_neg hn]
 omega
theorem zrw{x:Nat}(h:x<2):blen x=x:=by
 rcases(show x=0∨x=1 by omega) with rfl | rfl<;>decide
def stLen(y:Nat×Nat×Nat):St:=⟨[(0,u32 y.1),(3,.i .i64 y.2.1),(4,.i .i64 y.2.2)],[],2⟩
end
section
variable{T:Tbl}
theorem zkz(N:Nat):∀y:Nat×Nat×Nat,((y.2.2=16∨y.2.2=8∨y.2.2=4∨y.2.2=2∨y.2.2=1∨y.2.2=0)∧y.1<2^(2*y.2.2)*(if y.2.2=0 then 2 else 1)∧y.2.1+blen y.1=N∧y.2.1+2*y.2.2≤32) →
  ∃r,(∃(x n:Nat),r=(Ex.n,(⟨[(0,u32 x),(3,.i .i64 (n:Int))],[],2⟩:St))∧x<2∧n+blen x=N∧n≤32)∧loopN T 0 0 (.norm false [0,3]) l91_0 (stLen y)=some r:=by
 refine za1 _ _ (fun y=>y.2.2) _ ?_
 rintro⟨x,n,s⟩ ⟨hs,hx,hN,hn⟩
 simp only at hs hx hN hn
 by_cases h0:s=0
 ·right
  subst h0
  refine⟨_,⟨x,n,rfl,by simpa using hx,hN,by omega⟩,?_,?_⟩<;>simp[l91_0,stLen]
 ·left
  by_cases h1:x/2^s=0
  ·refine⟨(x,n,s/2),⟨?_,?_,hN,by simp only;omega⟩,by simp only;omega,?_⟩
   ·rcases hs with rfl | rfl | rfl | rfl | rfl | rfl<;>simp
   ·have h2:x<2^s:=by
     rcases Nat.lt_or_ge x (2^s) with h | h
     ·exact h
     ·have:=Nat.div_pos h (Nat.pow_pos (by decide))
      omega
    rcases hs with rfl | rfl | rfl | rfl | rfl | rfl<;>simp at h2 ⊢<;>omega
   ·rcases hs with rfl | rfl | rfl | rfl | rfl | rfl<;>simp at h1<;>simp[l91_0,stLen,h1]at h0 ⊢
  ·refine⟨(x/2^s,n+s,s/2),⟨?_,?_,?_,by simp only;omega⟩,by simp only;omega,?_⟩
   ·rcases hs with rfl | rfl | rfl | rfl | rfl | rfl<;>simp
   ·rcases hs with rfl | rfl | rfl | rfl | rfl | rfl<;>simp at hx h0 ⊢<;>omega
   ·have:=zj3 h1
    simp only
    omega
   ·have hw:IntKind.wrap .i64 ((n:Int)+s)=((n+s:Nat):Int):=zac _ (by omega)
    rcases hs with rfl | rfl | rfl | rfl | rfl | rfl<;>simp at h1 hw<;>simp[l91_0,stLen,h1,hw]at h0 ⊢
end
section
variable{T:Tbl}[CLimb T]
theorem zpy(x:UInt32):callF T 91 [u32 x.toNat]=some (.i .i64 (blen x.toNat)):=by
 have hx:=zaq x
 obtain⟨_,⟨y,n,rfl,h1,h2,h3⟩,hl⟩:=zkz (T:=T) (blen x.toNat) (x.toNat,0,16) ⟨.inl rfl,by simp,by simp,by simp⟩
 have hw:IntKind.wrap .i64 (y:Int)=y:=zac _ (by omega)
 have hw2:IntKind.wrap .i64 ((n:Int)+y)=((n+y:Nat):Int):=zac _ (by omega)
 have h4:=zrw h1
 rw[f91 _ rfl,b91]
 simp
 unfold stLen at hl
 simp at hl
 rw[hl]
 simp[hw,hw2]
 omega
end
def l86_0:AX:=
 (.note
 (.seq
 (.seq
 (.reg [mv 6 3,rg 7 (.bin .gtr (.t 6) (.c (.i .i64 0))),mv 8 7,gd 9 8 true (.mov (.t 0)),gd 10 8 true (.mov (.t 3)),gd 11 8 true (.bin .sub (.t 10) (.c (.i .i64 1))),gd 12 8 true (.iad 1 (.t 9) (.t 11)),gd 13 8 true (.load none (.t 12)),gd 14 8 true (.bin .eql (.t 13) (.c (u32 0))),rg 15 (.pick (.t 8) (.t 14) (.c (.b false)))])
 (.cond (.t 15)
 .skip
 (.exit 0)))
 (.block 1
 (.reg [mv 16 3,rg 17 (.bin .sub (.t 16) (.c (.i .i64 1))),mv 3 17])))
 (.norm false [0,3]))
def b86:AX:=
 (.seq
 (.reg [rg 2 (.mov (.c (.sl [] .nl)))])
 (.seq
 (.reg [mv 4 0,rg 5 (.len (.t 4)),mv 3 5])
 (.seq
 (.lp 0 (.norm false [0,3]) l86_0 (.norm false [0,3]))
 (.seq
 (.reg [mv 18 0,mv 19 3,rg 20 (.slc 1 (.t 18) none (some (.t 19)) none),mv 2 20])
 (.pre (.norm false [2]) .ret)))))
def b106:AX:=
 (.seq
 (.reg [rg 4 (.mov (.c (.sl [] .nl)))])
 (.seq
 (.reg [mv 6 0,rg 7 (.len (.t 6)),mv 8 1,rg 9 (.bin .add (.t 7) (.t 8)),rg 10 (.mks 1 [(u32 0)] (.t 9) (.t 9)),mv 5 10])
 (.seq
 (.reg [mv 11 5,mv 12 0,rg 13 (.xop .cpy [(.t 11),(.t 12)])])
 (.seq
 (.reg [mv 14 5,mv 4 14])
 (.pre (.norm false [4]) .ret)))))
def b71:AX:=
 (.seq
 (.reg [rg 2 (.mov (.c (.sl [] .nl)))])
 (.seq
 (.reg [mv 3 0,rg 4 (.call 86 [(.t 3)]),rg 5 (.call 106 [(.t 4),(.c (.i .i64 0))]),mv 2 5])
 (.pre (.norm false [2]) .ret)))
def b72:AX:=
 (.seq
 (.reg [rg 2 (.mov (.c (.sl [] .nl)))])
 (.seq
 (.reg [mv 3 0,rg 4 (.conv .u32 (.t 3)),mv 5 0,rg 6 (.bin .shr (.t 5) (.c (u64 32))),rg 7 (.conv .u32 (.t 6)),rg 8 (.bsl 1 [(u32 0)] 2 [(0,(.t 4)),(1,(.t 7))]),rg 9 (.call 86 [(.t 8)]),mv 2 9])
 (.pre (.norm false [2]) .ret)))
def l73_0:AX:=
 (.note
 (.seq
 (.reg [rg 15 (.bin .lss (.t 14) (.t 13))])
 (.seq
 (.cond (.t 15)
 .skip
 (.exit 0))
 (.seq
 (.block 1
 (.seq
 (.reg [mv 16 14,rg 17 (.iad 1 (.t 12) (.t 14)),rg 18 (.load none (.t 17)),mv 5 16,mv 6 18])
 (.reg [mv 19 4,mv 20 6,rg 21 (.conv .u64 (.t 20)),mv 22 5,rg 23 (.bin .mul (.c (.i .i64 32)) (.t 22)),rg 24 (.bin .shl (.t 21) (.t 23)),rg 25 (.bin .or (.t 19) (.t 24)),mv 4 25])))
 (.reg [rg 26 (.bin .add (.t 14) (.c (.i .i64 1))),mv 14 26]))))
 (.norm false [4,12,13,14]))
def b73:AX:=
 (.seq
 (.reg [rg 2 (.mov (.c (u64 0))),rg 3 (.mov (.c (.b false)))])
 (.seq
 (.reg [mv 7 0,rg 8 (.call 86 [(.t 7)]),mv 0 8])
 (.seq
 (.seq
 (.reg [mv 9 0,rg 10 (.len (.t 9)),rg 11 (.bin .gtr (.t 10) (.c (.i .i64 2)))])
 (.cond (.t 11)
 (.seq
 (.reg [rg 2 (.mov (.c (u64 0))),rg 3 (.mov (.c (.b false)))])
 (.pre (.norm false [2,3]) .ret))
 .skip))
 (.seq
 (.reg [rg 4 (.mov (.c (u64 0)))])
 (.seq
 (.seq
 (.reg [mv 12 0,rg 13 (.len (.t 12)),rg 14 (.mov (.c (.i .i64 0)))])
 (.lp 0 (.norm false [4,12,13,14]) l73_0 (.norm false [4])))
 (.seq
 (.reg [mv 27 4,mv 2 27,rg 3 (.mov (.c (.b true)))])
 (.pre (.norm false [2,3]) .ret)))))))
def b70:AX:=
 (.seq
 (.reg [rg 2 (.mov (.c (.b false)))])
 (.seq
 (.reg [mv 3 0,rg 4 (.call 86 [(.t 3)]),rg 5 (.len (.t 4)),rg 6 (.bin .eql (.t 5) (.c (.i .i64 0))),mv 2 6])
 (.pre (.norm false [2]) .ret)))
def l87_0:AX:=
 (.note
 (.seq
 (.seq
 (.reg [mv 25 5,rg 26 (.bin .geq (.t 25) (.c (.i .i64 0)))])
 (.cond (.t 26)
 .skip
 (.exit 1)))
 (.seq
 (.block 2
 (.block 3
 (.seq
 (.drawT [mv 30 0,mv 31 5,rg 32 (.iad 1 (.t 30) (.t 31)),rg 33 (.load none (.t 32)),mv 34 1,mv 35 5,rg 36 (.iad 1 (.t 34) (.t 35)),rg 37 (.load none (.t 36))]
 [rg 38 (.bin .lss (.t 33) (.t 37)),mv 29 38])
 (.cond (.t 29)
 (.seq
 (.reg [rg 4 (.mov (.c (.i .i64 (-1))))])
 (.pre (.norm false [4]) .ret))
 (.seq
 (.drawT [mv 40 0,mv 41 5,rg 42 (.iad 1 (.t 40) (.t 41)),rg 43 (.load none (.t 42)),mv 44 1,mv 45 5,rg 46 (.iad 1 (.t 44) (.t 45)),rg 47 (.load none (.t 46))]
 [rg 48 (.bin .gtr (.t 43) (.t 47)),mv 39 48])
 (.cond (.t 39)
 (.seq
 (.reg [rg 4 (.mov (.c (.i .i64 1)))])
 (.pre (.norm false [4]) .ret))
 .skip))))))
 (.reg [mv 27 5,rg 28 (.bin .sub (.t 27) (.c (.i .i64 1))),mv 5 28])))
 (.norm false [0,1,5]))
def b87:AX:=
 (.seq
 (.reg [rg 4 (.mov (.c (.i .i64 0)))])
 (.seq
 (.reg [mv 6 0,rg 7 (.call 86 [(.t 6)]),mv 8 1,rg 9 (.call 86 [(.t 8)]),mv 0 7,mv 1 9])
 (.seq
 (.block 0
 (.seq
 (.reg [mv 11 0,rg 12 (.len (.t 11)),mv 13 1,rg 14 (.len (.t 13)),rg 15 (.bin .lss (.t 12) (.t 14)),mv 10 15])
 (.cond (.t 10)
 (.seq
 (.reg [rg 4 (.mov (.c (.i .i64 (-1))))])
 (.pre (.norm false [4]) .ret))
 (.seq
 (.reg [mv 17 0,rg 18 (.len (.t 17)),mv 19 1,rg 20 (.len (.t 19)),rg 21 (.bin .gtr (.t 18) (.t 20)),mv 16 21])
 (.cond (.t 16)
 (.seq
 (.reg [rg 4 (.mov (.c (.i .i64 1)))])
 (.pre (.norm false [4]) .ret))
 .skip)))))
 (.seq
 (.seq
 (.reg [mv 22 0,rg 23 (.len (.t 22)),rg 24 (.bin .sub (.t 23) (.c (.i .i64 1))),mv 5 24])
 (.lp 1 (.norm false [0,1,5]) l87_0 (.norm false [])))
 (.seq
 (.reg [rg 4 (.mov (.c (.i .i64 0)))])
 (.pre (.norm false [4]) .ret))))))
def l85_0:AX:=
 (.note
 (.seq
 (.reg [rg 21 (.bin .lss (.t 20) (.t 19))])
 (.seq
 (.cond (.t 21)
 .skip
 (.exit 0))
 (.seq
 (.block 1
 (.seq
 (.reg [mv 22 20,mv 7 22])
 (.seq
 (.reg [rg 8 (.mov (.c (u32 0)))])
 (.seq
 (.seq
 (.reg [mv 23 7,mv 24 1,rg 25 (.len (.t 24)),rg 26 (.bin .lss (.t 23) (.t 25))])
 (.cond (.t 26)
 (.reg [mv 27 1,mv 28 7,rg 29 (.iad 1 (.t 27) (.t 28)),rg 30 (.load none (.t 29)),mv 8 30])
 .skip))
 (.reg [mv 32 5,mv 33 7,mv 34 0,mv 35 7,rg 36 (.iad 1 (.t 34) (.t 35)),rg 37 (.load none (.t 36)),mv 38 8,mv 39 6,rg 40 (.call 115 [(.t 37),(.t 38),(.t 39)]),mv 31 40,rg 41 (.ext (.t 31) 0),rg 42 (.ext (.t 31) 1),rg 43 (.iad 1 (.t 32) (.t 33)),so (.store 1 (.t 43) (.t 41)),mv 6 42])))))
 (.reg [rg 44 (.bin .add (.t 20) (.c (.i .i64 1))),mv 20 44]))))
 (.norm false [0,1,5,6,19,20]))
def b85:AX:=
 (.seq
 (.reg [rg 4 (.mov (.c (.sl [] .nl)))])
 (.seq
 (.seq
 (.reg [mv 9 0,rg 10 (.len (.t 9)),mv 11 1,rg 12 (.len (.t 11)),rg 13 (.bin .lss (.t 10) (.t 12))])
 (.cond (.t 13)
 (.reg [mv 14 1,mv 15 0,mv 0 14,mv 1 15])
 .skip))
 (.seq
 (.reg [mv 16 0,rg 17 (.call 2106 [(.t 16),(.c (.i .i64 1))]),mv 5 17])
 (.seq
 (.reg [rg 6 (.mov (.c (u32 0)))])
 (.seq
 (.seq
 (.reg [mv 18 0,rg 19 (.len (.t 18)),rg 20 (.mov (.c (.i .i64 0)))])
 (.lp 0 (.norm false [0,1,5,6,19,20]) l85_0 (.norm false [0,5,6])))
 (.seq
 (.reg [mv 45 5,mv 46 0,rg 47 (.len (.t 46)),mv 48 6,rg 49 (.iad 1 (.t 45) (.t 47)),so (.store 1 (.t 49) (.t 48))])
 (.seq
 (.reg [mv 50 5,rg 51 (.call 86 [(.t 50)]),mv 4 51])
 (.pre (.norm false [4]) .ret))))))))
def l56_0:AX:=
 (.note
 (.seq
 (.reg [rg 9 (.bin .lss (.t 8) (.t 7))])
 (.seq
 (.cond (.t 9)
 .skip
 (.exit 0))
 (.seq
 (.block 1
 (.seq
 (.reg [rg 10 (.iad 1 (.t 6) (.t 8)),rg 11 (.load none (.t 10)),mv 5 11])
 (.reg [mv 12 3,mv 13 5,rg 14 (.call 86 [(.t 13)]),rg 15 (.call 85 [(.t 12),(.t 14)]),mv 3 15])))
 (.reg [rg 16 (.bin .add (.t 8) (.c (.i .i64 1))),mv 8 16]))))
 (.norm false [3,6,7,8]))
def b56:AX:=
 (.seq
 (.reg [rg 2 (.mov (.c (.sl [] .nl)))])
 (.seq
 (.reg [rg 3 (.mov (.c (.sl [] .nl)))])
 (.seq
 (.seq
 (.reg [mv 6 0,rg 7 (.len (.t 6)),rg 8 (.mov (.c (.i .i64 0)))])
 (.lp 0 (.norm false [3,6,7,8]) l56_0 (.norm false [3])))
 (.seq
 (.reg [mv 17 3,mv 2 17])
 (.pre (.norm false [2]) .ret)))))
def l88_0:AX:=
 (.note
 (.seq
 (.reg [rg 23 (.bin .lss (.t 22) (.t 21))])
 (.seq
 (.cond (.t 23)
 .skip
 (.exit 0))
 (.seq
 (.block 1
 (.seq
 (.reg [mv 24 22,mv 8 24])
 (.seq
 (.reg [rg 9 (.mov (.c (u32 0)))])
 (.seq
 (.seq
 (.reg [mv 25 8,mv 26 1,rg 27 (.len (.t 26)),rg 28 (.bin .lss (.t 25) (.t 27))])
 (.cond (.t 28)
 (.reg [mv 29 1,mv 30 8,rg 31 (.iad 1 (.t 29) (.t 30)),rg 32 (.load none (.t 31)),mv 9 32])
 .skip))
 (.reg [mv 34 6,mv 35 8,mv 36 0,mv 37 8,rg 38 (.iad 1 (.t 36) (.t 37)),rg 39 (.load none (.t 38)),mv 40 9,mv 41 7,rg 42 (.call 116 [(.t 39),(.t 40),(.t 41)]),mv 33 42,rg 43 (.ext (.t 33) 0),rg 44 (.ext (.t 33) 1),rg 45 (.iad 1 (.t 34) (.t 35)),so (.store 1 (.t 45) (.t 43)),mv 7 44])))))
 (.reg [rg 46 (.bin .add (.t 22) (.c (.i .i64 1))),mv 22 46]))))
 (.norm false [0,1,6,7,21,22]))
def b88:AX:=
 (.seq
 (.reg [rg 4 (.mov (.c (.sl [] .nl))),rg 5 (.mov (.c (.b false)))])
 (.seq
 (.reg [mv 10 0,rg 11 (.call 86 [(.t 10)]),mv 12 1,rg 13 (.call 86 [(.t 12)]),mv 0 11,mv 1 13])
 (.seq
 (.seq
 (.reg [mv 14 0,mv 15 1,rg 16 (.call 87 [(.t 14),(.t 15)]),rg 17 (.bin .lss (.t 16) (.c (.i .i64 0)))])
 (.cond (.t 17)
 (.seq
 (.reg [rg 4 (.mov (.c (.sl [] .nl))),rg 5 (.mov (.c (.b false)))])
 (.pre (.norm false [4,5]) .ret))
 .skip))
 (.seq
 (.reg [mv 18 0,rg 19 (.call 2106 [(.t 18),(.c (.i .i64 0))]),mv 6 19])
 (.seq
 (.reg [rg 7 (.mov (.c (u32 0)))])
 (.seq
 (.seq
 (.reg [mv 20 0,rg 21 (.len (.t 20)),rg 22 (.mov (.c (.i .i64 0)))])
 (.lp 0 (.norm false [0,1,6,7,21,22]) l88_0 (.norm false [6])))
 (.seq
 (.reg [mv 47 6,rg 48 (.call 86 [(.t 47)]),mv 4 48,rg 5 (.mov (.c (.b true)))])
 (.pre (.norm false [4,5]) .ret))))))))
def b57:AX:=
 (.seq
 (.reg [rg 4 (.mov (.c (.sl [] .nl))),rg 5 (.mov (.c (.i .i64 0)))])
 (.seq
 (.reg [mv 9 0,mv 10 1,rg 11 (.call 87 [(.t 9),(.t 10)]),mv 6 11])
 (.seq
 (.seq
 (.reg [mv 12 6,rg 13 (.bin .lss (.t 12) (.c (.i .i64 0)))])
 (.cond (.t 13)
 (.reg [mv 14 1,mv 15 0,mv 0 14,mv 1 15])
 .skip))
 (.seq
 (.reg [mv 17 0,mv 18 1,rg 19 (.call 88 [(.t 17),(.t 18)]),mv 16 19,rg 20 (.ext (.t 16) 0),rg 21 (.ext (.t 16) 1),mv 7 20,mv 8 21])
 (.seq
 (.reg [mv 22 7,mv 23 6,mv 4 22,mv 5 23])
 (.pre (.norm false [4,5]) .ret))))))
def b2106:AX:=
 (.seq
 (.reg [rg 4 (.mov (.c (.sl [] .nl)))])
 (.seq
 (.reg [mv 6 0,rg 7 (.len (.t 6)),mv 8 1,rg 9 (.bin .add (.t 7) (.t 8)),rg 10 (.mks 1 [(u32 0)] (.t 9) (.t 9)),mv 5 10])
 (.seq
 (.reg [mv 11 5,mv 12 0,rg 13 (.xop .cpy [(.t 11),(.t 12)])])
 (.seq
 (.reg [mv 14 5,mv 4 14])
 (.pre (.norm false [4]) .ret)))))
class CNat (T:Tbl):Prop extends CLimb T where
 h86:T 86=some ⟨1,21,[.t 2],b86,none,false⟩
 h106:T 106=some ⟨2,15,[.t 4],b106,none,false⟩
 h71:T 71=some ⟨1,6,[.t 2],b71,none,false⟩
 h72:T 72=some ⟨1,10,[.t 2],b72,none,false⟩
 h73:T 73=some ⟨1,28,[.t 2,.t 3],b73,none,false⟩
 h70:T 70=some ⟨1,7,[.t 2],b70,none,false⟩
 h87:T 87=some ⟨2,49,[.t 4],b87,none,false⟩
 h85:T 85=some ⟨2,52,[.t 4],b85,none,false⟩
 h56:T 56=some ⟨1,18,[.t 2],b56,none,false⟩
 h88:T 88=some ⟨2,49,[.t 4,.t 5],b88,none,false⟩
 h57:T 57=some ⟨2,24,[.t 4,.t 5],b57,none,false⟩
 h2106:T 2106=some ⟨2,15,[.t 4],b2106,(some [false,false]),false⟩
section
variable{T:Tbl}[CNat T]{d:Option Nat}{st:St}
@[simp] theorem x86(xs:List AV):callX (orc T) T 86 xs d st=cP T 86 false xs d st:=zaa CNat.h86
theorem f86(xs:List AV)(hn:xs.length=1):callF T 86 xs=retF [.t 2] false (evX (orc T) T 0 b86 ⟨argEnv xs,[],1⟩):=zab CNat.h86 hn
@[simp] theorem x106(xs:List AV):callX (orc T) T 106 xs d st=cP T 106 false xs d st:=zaa CNat.h106
theorem f106(xs:List AV)(hn:xs.length=2):callF T 106 xs=retF [.t 4] false (evX (orc T) T 0 b106 ⟨argEnv xs,[],1⟩):=zab CNat.h106 hn
@[simp] theorem x71(xs:List AV):callX (orc T) T 71 xs d st=cP T 71 false xs d st:=zaa CNat.h71
@[simp] theorem y71{e:Env}{h:Heap}{older:List Heap}(args:List Opd):opD (orc T) T (.call 71 args) e h older=dR (callF T 71 ((args.map (ev e.get)).map (wkIf false))) (args.map (ev e.get)):=zal CNat.h71
theorem f71(xs:List AV)(hn:xs.length=1):callF T 71 xs=retF [.t 2] false (evX (orc T) T 0 b71 ⟨argEnv xs,[],1⟩):=zab CNat.h71 hn
@[simp] theorem x72(xs:List AV):callX (orc T) T 72 xs d st=cP T 72 false xs d st:=zaa CNat.h72
theorem f72(xs:List AV)(hn:xs.length=1):callF T 72 xs=retF [.t 2] false (evX (orc T) T 0 b72 ⟨argEnv xs,[],1⟩):=zab CNat.h72 hn
@[simp] theorem x73(xs:List AV):callX (orc T) T 73 xs d st=cP T 73 false xs d st:=zaa CNat.h73
theorem f73(xs:List AV)(hn:xs.length=1):callF T 73 xs=retF [.t 2,.t 3] false (evX (orc T) T 0 b73 ⟨argEnv xs,[],1⟩):=zab CNat.h73 hn
@[simp] theorem x70(xs:List AV):callX (orc T) T 70 xs d st=cP T 70 false xs d st:=zaa CNat.h70
theorem f70(xs:List AV)(hn:xs.length=1):callF T 70 xs=retF [.t 2] false (evX (orc T) T 0 b70 ⟨argEnv xs,[],1⟩):=zab CNat.h70 hn
@[simp] theorem x87(xs:List AV):callX (orc T) T 87 xs d st=cP T 87 false xs d st:=zaa CNat.h87
theorem f87(xs:List AV)(hn:xs.length=2):callF T 87 xs=retF [.t 4] false (evX (orc T) T 0 b87 ⟨argEnv xs,[],1⟩):=zab CNat.h87 hn
@[simp] theorem x85(xs:List AV):callX (orc T) T 85 xs d st=cP T 85 false xs d st:=zaa CNat.h85
theorem f85(xs:List AV)(hn:xs.length=2):callF T 85 xs=retF [.t 4] false (evX (orc T) T 0 b85 ⟨argEnv xs,[],1⟩):=zab CNat.h85 hn
@[simp] theorem y56{e:Env}{h:Heap}{older:List Heap}(args:List Opd):opD (orc T) T (.call 56 args) e h older=dR (callF T 56 ((args.map (ev e.get)).map (wkIf false))) (args.map (ev e.get)):=zal CNat.h56
theorem f56(xs:List AV)(hn:xs.length=1):callF T 56 xs=retF [.t 2] false (evX (orc T) T 0 b56 ⟨argEnv xs,[],1⟩):=zab CNat.h56 hn
@[simp] theorem x88(xs:List AV):callX (orc T) T 88 xs d st=cP T 88 false xs d st:=zaa CNat.h88
theorem f88(xs:List AV)(hn:xs.length=2):callF T 88 xs=retF [.t 4,.t 5] false (evX (orc T) T 0 b88 ⟨argEnv xs,[],1⟩):=zab CNat.h88 hn
@[simp] theorem x57(xs:List AV):callX (orc T) T 57 xs d st=cP T 57 false xs d st:=zaa CNat.h57
theorem f57(xs:List AV)(hn:xs.length=2):callF T 57 xs=retF [.t 4,.t 5] false (evX (orc T) T 0 b57 ⟨argEnv xs,[],1⟩):=zab CNat.h57 hn
@[simp] theorem x2106(xs:List AV):callX (orc T) T 2106 xs d st=bL (frzM st.heap [false,false] xs) fun ys=>lentX ys (shareIds (refsM [false,false] xs) st.heap) (reach (shareIds (refsM [false,false] xs) st.heap) 40 (rootsM [false,false] xs) []) T 2106 false d st:=zan CNat.h2106
theorem f2106(xs:List AV)(hb:Heap)(hn:xs.length=2):callH T 2106 xs hb=retH [.t 4] false hb.length (evX (orc T) T hb.length b2106 ⟨argEnv xs,hb,hb.length+1⟩):=zau CNat.h2106 hn
end
def val:List UInt32→Nat
 | []=>0
 | x::l=>x.toNat+4294967296*val l
def ofN(n:Nat):List UInt32:=if n=0 then [] else w32 n::ofN (n/4294967296)
termination_by n
decreasing_by omega
def Right(l:List UInt32):Prop:=∀x,l.getLast? = some x→x.toNat≠0
@[simp] theorem zch:val []=0:=rfl
@[simp] theorem zaw(x:UInt32)(l:List UInt32):val (x::l)=x.toNat+4294967296*val l:=rfl
@[simp] theorem zk7:ofN 0=[]:=by rw[ofN];rfl
theorem ziu{n:Nat}(h:n≠0):ofN n=w32 n::ofN (n/4294967296):=by rw[ofN,if_neg h]
theorem zd1(n:Nat):(w32 n).toNat=n%4294967296:=zbw n
theorem z0y{x:UInt32}{n:Nat}(h:n%4294967296=x.toNat):w32 n=x:=by
 rw[←UInt32.toNat_inj,zd1,h]
theorem zah(n:Nat):val (ofN n)=n:=by
 induction n using Nat.strongRecOn with
 | _ n ih=>
  by_cases h:n=0
  ·subst h;simp
  ·rw[ziu h,zaw,ih (n/4294967296) (by omega),zd1]
   omega
theorem zao(l m:List UInt32):val (l++m)=val l+4294967296^l.length*val m:=by
 induction l with
 | nil=>simp
 | cons x l ih=>
  simp only[List.cons_append,zaw,ih,List.length_cons,Nat.pow_succ,Nat.mul_add,Nat.add_assoc]
  congr 2
  rw[←Nat.mul_assoc,Nat.mul_comm 4294967296 (4294967296^l.length)]
theorem zbd(l:List UInt32):val l<4294967296^l.length:=by
 induction l with
 | nil=>simp
 | cons x l ih=>
  have:=zaq x
  simp only[zaw,List.length_cons,Nat.pow_succ]
  omega
theorem zj9{x:UInt32}{l:List UInt32}(h:Right (x::l)):Right l:=by
 intro y hy
 apply h
 cases l with
 | nil=>simp at hy
 | cons z l=>rw[List.getLast?_cons_cons];exact hy
theorem zzz{l:List UInt32}(h:Right l):val l=0↔l=[]:=by
 constructor
 ·intro h0
  induction l with
  | nil=>rfl
  | cons x l ih=>
   exfalso
   simp only[zaw]at h0
   have h1:=ih (zj9 h) (by omega)
   subst h1
   exact h x (by simp) (by omega)
 ·rintro rfl;rfl
theorem z37{l:List UInt32}(h:Right l):ofN (val l)=l:=by
 induction l with
 | nil=>simp
 | cons x l ih=>
  have hx:=zaq x
  have hne:val (x::l)≠0:=fun h0=>by have:=(zzz h).1 h0;cases this
  rw[ziu hne]
  congr 1
  ·exact z0y (by simp only[zaw];omega)
  ·rw[show val (x::l)/4294967296=val l by simp only[zaw];omega]
   exact ih (zj9 h)
theorem zbf{n:Nat}:ofN n=[]↔n=0:=⟨fun h=>by rw[←zah n,h];rfl,fun h=>by rw[h];simp⟩
theorem zsi{a:List UInt32}{n:Nat}(hn:n≤a.length)(h0:∀(i:Nat) (x:UInt32),n≤i→a[i]? = some x→x.toNat=0)(h1:∀x:UInt32,0<n→a[n-1]? = some x→x.toNat≠0):a.take n=ofN (val a):=by
 have hr:Right (a.take n):=by
  intro x hx
  have hn0:0<n:=by
   rcases Nat.eq_zero_or_pos n with h | h
   ·subst h;simp at hx
   ·exact h
  apply h1 x hn0
  rw[List.getLast?_eq_getElem?,List.length_take,Nat.min_eq_left hn,List.getElem?_take,if_pos (by omega)]at hx
  exact hx
 have hz:∀l:List UInt32,(∀(i:Nat) (x:UInt32),l[i]? = some x→x.toNat=0)→val l=0:=by
  intro l
  induction l with
  | nil=>intro _;rfl
  | cons x l ih=>
   intro h
   have h2:=h 0 x rfl
   have h3:=ih fun i y hy=>h (i+1) y (by simpa using hy)
   simp only[zaw,h2,h3]
 have hv:val a=val (a.take n):=by
  have e:=zao (a.take n) (a.drop n)
  rw[List.take_append_drop,hz (a.drop n) (fun i x hx=>h0 (n+i) x (by omega) (by rw[List.getElem?_drop]at hx;exact hx))]at e
  omega
 rw[hv,z37 hr]
theorem zqb(a:List UInt32):∃n,n≤a.length∧a.take n=ofN (val a)∧(∀(i:Nat) (x:UInt32),n≤i→a[i]? = some x→x.toNat=0)∧(∀x:UInt32,0<n→a[n-1]? = some x→x.toNat≠0):=by
 have key:∀k,k≤a.length→(∀(i:Nat) (x:UInt32),k≤i→a[i]? = some x→x.toNat=0)→∃n,n≤k∧(∀(i:Nat) (x:UInt32),n≤i→a[i]? = some x→x.toNat=0)∧(∀x:UInt32,0<n→a[n-1]? = some x→x.toNat≠0):=by
  intro k
  induction k with
  | zero=>intro _ h;exact⟨0,Nat.le_refl _,h,fun x hx=>by omega⟩
  | succ k ih=>
   intro hk h
   by_cases hz:(a[k]'(by omega)).toNat=0
   ·obtain⟨n,h1,h2,h3⟩:=ih (by omega) fun i x hi hx=>by
     rcases Nat.lt_or_ge k i with h4 | h4
     ·exact h i x h4 hx
     ·have:i=k:=by omega
      subst this
      rw[List.getElem?_eq_getElem (by omega)]at hx
      cases hx
      exact hz
    exact⟨n,by omega,h2,h3⟩
   ·refine⟨k+1,Nat.le_refl _,h,fun x _ hx=>?_⟩
    rw[Nat.add_sub_cancel,List.getElem?_eq_getElem (by omega)]at hx
    cases hx
    exact hz
 obtain⟨n,h1,h2,h3⟩:=key a.length (Nat.le_refl _) fun i x hi hx=>by rw[List.getElem?_eq_none hi]at hx;cases hx
 exact⟨n,h1,zsi h1 h2 h3,h2,h3⟩
theorem zad(a:List UInt32):(ofN (val a)).length≤a.length:=by
 obtain⟨n,h1,h2,_⟩:=zqb a
 rw[←h2,List.length_take]
 omega
theorem zat{n k:Nat}(h:n<4294967296^k):(ofN n).length≤k:=by
 induction k generalizing n with
 | zero=>
  have:n=0:=by simp at h;omega
  subst this
  simp
 | succ k ih=>
  by_cases h0:n=0
  ·subst h0;simp
  ·rw[ziu h0,List.length_cons]
   have:=ih (n:=n/4294967296) (by rw[Nat.pow_succ]at h;omega)
   omega
theorem zae{a:List UInt32}{i:Nat}{x:UInt32}(h:a[i]? = some x):val (a.take (i+1))=val (a.take i)+4294967296^i*x.toNat:=by
 have hi:i<a.length:=by
  rcases Nat.lt_or_ge i a.length with h1 | h1
  ·exact h1
  ·rw[List.getElem?_eq_none h1]at h;cases h
 rw[List.take_add_one,h,zao]
 simp only[Option.toList_some,zaw,zch,Nat.mul_zero,Nat.add_zero,List.length_take]
 rw[Nat.min_eq_left (by omega)]
theorem zcp{a:List UInt32}{i:Nat}(x:UInt32)(h:i<a.length):val ((a.set i x).take (i+1))=val (a.take i)+4294967296^i*x.toNat:=by
 rw[zae (x:=x) (by rw[List.getElem?_set_self h]),List.take_set_of_le (Nat.le_refl i)]
theorem zbl{a:List UInt32}{i:Nat}(h:a.length≤i):val (a.take i)=val a:=by rw[List.take_of_length_le h]
theorem zd2(n:Nat):val (List.replicate n 0)=0:=by
 induction n with
 | zero=>rfl
 | succ n ih=>simp[List.replicate_succ,ih]
theorem zgk{m n:Nat}(h:(ofN m).length<(ofN n).length):m<n:=by
 rcases Nat.lt_or_ge m n with h1 | h1
 ·exact h1
 ·exfalso
  have h2:=zbd (ofN m)
  rw[zah]at h2
  have:=zat (show n<4294967296^(ofN m).length by omega)
  omega
theorem zbr{m n:Nat}(h:m≤n):(ofN m).length≤(ofN n).length:=by
 rcases Nat.lt_or_ge (ofN n).length (ofN m).length with h1 | h1
 ·have:=zgk h1;omega
 ·exact h1
def cmpN(x y:Nat):Int:=if x<y then -1 else if y<x then 1 else 0
theorem zwq{a b:List UInt32}{i:Nat}{x y:UInt32}(hx:a[i]? = some x)(hy:b[i]? = some y)(h:x.toNat<y.toNat):val (a.take (i+1))<val (b.take (i+1)):=by
 rw[zae hx,zae hy]
 have h1:=zbd (a.take i)
 have h2:4294967296^(a.take i).length≤4294967296^i:=Nat.pow_le_pow_right (by decide) (by simp;omega)
 have h3:=Nat.mul_le_mul_left (4294967296^i) (show x.toNat+1≤y.toNat from h)
 rw[Nat.mul_add]at h3
 omega
theorem zk8{x y c:Nat}(hx:x<4294967296)(hy:y<4294967296)(hc:c≤1) :
  (x+8589934592-(y+c))%4294967296+(y+c)=x+4294967296*(2-(x+8589934592-(y+c))/4294967296)∧2-(x+8589934592-(y+c))/4294967296≤1:=by omega
def lls(l:List (List UInt32)):List (List AV):=l.map fun a=>[.sl (u32s a) .an]
@[simp] theorem z59(l:List (List UInt32)):(lls l).length=l.length:=by simp[lls]
@[simp] theorem zalg(l:List (List UInt32)):wkL (lls l)=lls l:=by rw[zbs];simp[lls,wkR]
@[simp] theorem z38(l:List (List UInt32))(i:Nat)(h:i<(lls l).length):(lls l)[i]=[.sl (u32s (l[i]'(by simpa using h))) .an]:=by simp[lls]
section
variable{T:Tbl}
theorem zvj(a:List UInt32)(hl:a.length<9223372036854775808){n:Nat}(hn:n≤a.length)(h0:∀(i:Nat) (x:UInt32),n≤i→a[i]? = some x→x.toNat=0)(h1:∀x:UInt32,0<n→a[n-1]? = some x→x.toNat≠0) :
  ∀m:Nat,(n≤m∧m≤a.length)→loopN T 0 0 (.norm false [0,3]) l86_0 ⟨[(0,.sl (u32s a) .an),(3,.i .i64 (m:Int))],[],2⟩=some (.n,⟨[(0,.sl (u32s a) .an),(3,.i .i64 (n:Int))],[],2⟩):=by
 refine zcv (fun m:Nat=>⟨[(0,.sl (u32s a) .an),(3,.i .i64 (m:Int))],[],2⟩) _ (fun m=>m) _ ?_
 rintro m ⟨hm,hma⟩
 by_cases h2:m=0
 ·right
  subst h2
  have:n=0:=by omega
  subst this
  constructor<;>simp[l86_0]
 ·have hw:IntKind.wrap .i64 ((m:Int)-1)=((m-1:Nat):Int):=by rw[zac _ (by omega)];omega
  have hm1:m-1<a.length:=by omega
  have hg:a[m-1]? = some (a[m-1]'hm1):=List.getElem?_eq_getElem hm1
  have hpos:0<m:=by omega
  by_cases h3:m=n
  ·right
   subst h3
   have hx:=h1 _ hpos hg
   constructor<;>simp[l86_0,hpos,hw,hm1,hx]
  ·left
   refine⟨m-1,⟨by omega,by omega⟩,by show m-1<m;omega,?_,rfl⟩
   have hx:=h0 (m-1) _ (by omega) hg
   simp[l86_0,hpos,hw,hm1,hx]
end
section
variable{T:Tbl}[CNat T]
theorem zbp(a:List UInt32)(hl:a.length≤4294967296):callF T 86 [.sl (u32s a) .an]=some (.sl (u32s (ofN (val a))) .an):=by
 obtain⟨n,h1,h2,h3,h4⟩:=zqb a
 have hr:=zvj (T:=T) a (by omega) h1 h3 h4 a.length ⟨h1,Nat.le_refl _⟩
 rw[f86 _ rfl,b86]
 simp[hr,h1,h2]
theorem zvk(a:List UInt32)(m:Nat)(hl:a.length+m≤4294967296):callF T 106 [.sl (u32s a) .an,.i .i64 (m:Int)]=some (.sl (u32s (a++List.replicate m 0)) .an):=by
 have hw:IntKind.wrap .i64 ((a.length:Int)+m)=((a.length+m:Nat):Int):=zac _ (by omega)
 have h0:(0:Int)≤(a.length:Int)+m:=by omega
 have h2:(a.length:Int)+m≤4294967296:=by omega
 have h3:((a.length:Int)+m).toNat=a.length+m:=by omega
 rw[f106 _ rfl,b106]
 simp[hw,h0,h2,h3,List.take_of_length_le]
theorem zcw(a:List UInt32)(m:Nat)(hl:a.length+m≤4294967296):callH T 2106 [.sl (u32s a) .an,.i .i64 (m:Int)] [] =
  some (.bs (.loc 10) 1 1 0 (a.length+m),[(.loc 10,⟨1,.own,1,u32s (a++List.replicate m 0)⟩)]):=by
 have hw:IntKind.wrap .i64 ((a.length:Int)+m)=((a.length+m:Nat):Int):=zac _ (by omega)
 have h0:(0:Int)≤(a.length:Int)+m:=by omega
 have h2:(a.length:Int)+m≤4294967296:=by omega
 have h3:((a.length:Int)+m).toNat=a.length+m:=by omega
 rw[f2106 _ _ rfl,b2106]
 simp[hw,h0,h2,h3]
theorem zbq(a:List UInt32)(hl:a.length≤4294967296):callF T 71 [.sl (u32s a) .an]=some (.sl (u32s (ofN (val a))) .an):=by
 have h1:=zad a
 have h2:=zvk (T:=T) (ofN (val a)) 0 (by omega)
 simp only[Int.natCast_zero]at h2
 rw[f71 _ rfl,b71]
 simp[zbp a hl,h2]
theorem zih(n:Nat)(h:n<18446744073709551616):callF T 72 [u64 n]=some (.sl (u32s (ofN n)) .an):=by
 have e2:val [w32 n,w32 (n/4294967296)]=n:=by simp[zd1];omega
 have h2:=zbp (T:=T) [w32 n,w32 (n/4294967296)] (by simp)
 rw[e2]at h2
 have h3:n/4294967296%4294967296=n/4294967296:=Nat.mod_eq_of_lt (by omega)
 rw[f72 _ rfl,b72]
 simp[h3,zbo _ _ _ (show n/4294967296<4294967296 by omega),h2]
theorem zpz(a:List UInt32)(hl:a.length≤4294967296):callF T 70 [.sl (u32s a) .an]=some (.b (decide (val a=0))):=by
 rw[f70 _ rfl,b70]
 have:((((ofN (val a)).length:Int) == 0))=decide (val a=0):=by
  rw[Bool.eq_iff_iff]
  simp[zbf]
 simp[zbp a hl,this]
def stPlus(a b:List UInt32)(y:Nat×Nat×List UInt32):St:=
 ⟨[(0,.sl (u32s a) .an),(1,.sl (u32s b) .an),(5,.bs (.fld (.loc 17) 10) 1 1 0 (a.length+1)),(6,u32 y.2.1),(19,.i .i64 a.length),(20,.i .i64 y.1)],
  [(.fld (.loc 17) 10,⟨1,.own,1,u32s y.2.2⟩)],3⟩
theorem zm2(a b:List UInt32)(hb:b.length≤a.length)(hl:a.length≤1000000):∀y:Nat×Nat×List UInt32,
  (y.1≤a.length∧y.2.1≤1∧y.2.2.length=a.length+1∧val (y.2.2.take y.1)+4294967296^y.1*y.2.1=val (a.take y.1)+val (b.take y.1)) →
  ∃r,(∃(c:Nat) (out:List UInt32),r=(Ex.n,(⟨[(0,.sl (u32s a) .an),(5,.bs (.fld (.loc 17) 10) 1 1 0 (a.length+1)),(6,u32 c)],[(.fld (.loc 17) 10,⟨1,.own,1,u32s out⟩)],3⟩:St)) ∧
   out.length=a.length+1∧c≤1∧val (out.take a.length)+4294967296^a.length*c=val a+val b)∧loopN T 0 0 (.norm false [0,5,6]) l85_0 (stPlus a b y)=some r:=by
 refine za1 _ _ (fun y=>a.length-y.1) _ ?_
 rintro⟨i,c,out⟩ ⟨hi,hc,ho,hv⟩
 simp only at hi hc ho hv
 by_cases h0:i<a.length
 ·left
  have ha:a[i]? = some (a[i]'h0):=List.getElem?_eq_getElem h0
  have hoi:i<out.length:=by omega
  have hog:out[i]? = some (out[i]'hoi):=List.getElem?_eq_getElem hoi
  have hw:IntKind.wrap .i64 ((i:Int)+1)=((i+1:Nat):Int):=zac _ (by omega)
  have hc2:c<4294967296:=by omega
  have hil:(i:Int)<(a.length:Int)+1:=by omega
  have h1:=zae ha
  by_cases h2:i<b.length
  ·have hbg:b[i]? = some (b[i]'h2):=List.getElem?_eq_getElem h2
   have h3:=zae hbg
   refine⟨(i+1,((a[i]'h0).toNat+(b[i]'h2).toNat+c)/4294967296,out.set i (w32 ((a[i]'h0).toNat+(b[i]'h2).toNat+c))),⟨by simp only;omega,?_,by simp[ho],?_⟩,by simp only;omega,?_⟩
   ·have:=zaq (a[i]'h0);have:=zaq (b[i]'h2);simp only;omega
   ·simp only
    rw[zcp _ hoi,h1,h3,zd1,Nat.pow_succ]
    generalize 4294967296^i=p at *
    generalize (a[i]'h0).toNat=x at *
    generalize (b[i]'h2).toNat=z at *
    have e:=Nat.div_add_mod (x+z+c) 4294967296
    have e2:p*((x+z+c)%4294967296)+p*4294967296*((x+z+c)/4294967296)=p*(x+z+c):=by
     conv=>rhs;rw[←e]
     rw[Nat.mul_add,Nat.mul_assoc]
     omega
    rw[Nat.mul_add,Nat.mul_add]at e2
    omega
   ·simp[l85_0,stPlus,h0,h2,hog,hw,hil,zee,hc2]
  ·have h3:val (b.take (i+1))=val (b.take i):=by rw[zbl (by omega),zbl (by omega)]
   refine⟨(i+1,((a[i]'h0).toNat+0+c)/4294967296,out.set i (w32 ((a[i]'h0).toNat+0+c))),⟨by simp only;omega,?_,by simp[ho],?_⟩,by simp only;omega,?_⟩
   ·have:=zaq (a[i]'h0);simp only;omega
   ·simp only
    rw[zcp _ hoi,h1,h3,zd1,Nat.pow_succ]
    generalize 4294967296^i=p at *
    generalize (a[i]'h0).toNat=x at *
    have e:=Nat.div_add_mod (x+0+c) 4294967296
    have e2:p*((x+0+c)%4294967296)+p*4294967296*((x+0+c)/4294967296)=p*(x+0+c):=by
     conv=>rhs;rw[←e]
     rw[Nat.mul_add,Nat.mul_assoc]
     omega
    rw[Nat.mul_add,Nat.mul_add]at e2
    omega
   ·simp[l85_0,stPlus,h0,h2,hog,hw,hil,zee,hc2]
 ·right
  have:i=a.length:=by omega
  subst this
  rw[List.take_of_length_le (Nat.le_refl _),List.take_of_length_le hb]at hv
  refine⟨_,⟨c,out,rfl,ho,hc,hv⟩,?_,?_⟩<;>simp[l85_0,stPlus]
theorem zvl(a b:List UInt32)(hb:b.length≤a.length)(hl:a.length≤1000000):callF T 85 [.sl (u32s a) .an,.sl (u32s b) .an]=some (.sl (u32s (ofN (val a+val b))) .an):=by
 have hf:=zcw (T:=T) a 1 (by omega)
 simp only[Int.natCast_one]at hf
 obtain⟨_,⟨c,out,rfl,ho,hc,hv⟩,hr⟩:=zm2 (T:=T) a b hb hl (0,0,a++List.replicate 1 0) ⟨Nat.zero_le _,Nat.zero_le _,by simp,by simp⟩
 unfold stPlus at hr
 simp at hr
 have hog:out[a.length]? = some (out[a.length]'(by omega)):=List.getElem?_eq_getElem _
 have h1:¬ (a.length:Int)<b.length:=by omega
 have h2:¬ a.length<b.length:=by omega
 have h3:(a.length:Int)<(a.length:Int)+1:=by omega
 have hval:val (out.set a.length (w32 c))=val a+val b:=by
  rw[←List.take_of_length_le (l:=out.set a.length (w32 c)) (i:=a.length+1) (by simp;omega),zcp _ (by omega),zaf (by omega)]
  exact hv
 have ht:=zbp (T:=T) (out.set a.length (w32 c)) (by simp;omega)
 rw[hval]at ht
 have htk:List.take (a.length+1) (out.set a.length (w32 c))=out.set a.length (w32 c):=List.take_of_length_le (by simp;omega)
 rw[f85 _ rfl,b85]
 simp[h1,hf,hr,h3,zbo _ _ _ (show c<4294967296 by omega),htk,ht,ho]
theorem zr2(a b:List UInt32)(hb:a.length<b.length)(hl:b.length≤1000000):callF T 85 [.sl (u32s a) .an,.sl (u32s b) .an]=some (.sl (u32s (ofN (val a+val b))) .an):=by
 have hf:=zcw (T:=T) b 1 (by omega)
 simp only[Int.natCast_one]at hf
 obtain⟨_,⟨c,out,rfl,ho,hc,hv⟩,hr⟩:=zm2 (T:=T) b a (by omega) hl (0,0,b++List.replicate 1 0) ⟨Nat.zero_le _,Nat.zero_le _,by simp,by simp⟩
 unfold stPlus at hr
 simp at hr
 have hog:out[b.length]? = some (out[b.length]'(by omega)):=List.getElem?_eq_getElem _
 have h1:(a.length:Int)<b.length:=by omega
 have h3:(b.length:Int)<(b.length:Int)+1:=by omega
 have hval:val (out.set b.length (w32 c))=val a+val b:=by
  rw[←List.take_of_length_le (l:=out.set b.length (w32 c)) (i:=b.length+1) (by simp;omega),zcp _ (by omega),zaf (by omega),hv,Nat.add_comm]
 have ht:=zbp (T:=T) (out.set b.length (w32 c)) (by simp;omega)
 rw[hval]at ht
 have htk:List.take (b.length+1) (out.set b.length (w32 c))=out.set b.length (w32 c):=List.take_of_length_le (by simp;omega)
 rw[f85 _ rfl,b85]
 simp[h1,hf,hr,h3,zbo _ _ _ (show c<4294967296 by omega),htk,ht,ho]
theorem zy8(a b:List UInt32)(ha:a.length≤1000000)(hb:b.length≤1000000):callF T 85 [.sl (u32s a) .an,.sl (u32s b) .an]=some (.sl (u32s (ofN (val a+val b))) .an):=by
 rcases Nat.lt_or_ge a.length b.length with h | h
 ·exact zr2 a b h hb
 ·exact zvl a b h ha
def sumL(l:List (List UInt32)):Nat:=(l.map val).sum
theorem zy9(K:Nat):∀m:List (List UInt32),m.length≤1000→(∀a∈m,a.length≤K)→(ofN (sumL m)).length≤K+1:=by
 intro m hm hw
 apply zat
 rw[Nat.pow_succ]
 have hp0:0<4294967296^K:=Nat.pow_pos (by decide)
 have hall:∀a∈m,val a<4294967296^K:=fun a ha=>Nat.lt_of_lt_of_le (zbd a) (Nat.pow_le_pow_right (by decide) (hw a ha))
 generalize 4294967296^K=p at *
 have h1:sumL m≤m.length*p:=by
  clear hm hw
  induction m with
  | nil=>simp[sumL]
  | cons a m ih=>
   have h2:=ih fun a ha=>hall a (List.mem_cons_of_mem _ ha)
   have h3:=hall a List.mem_cons_self
   simp only[sumL,List.map_cons,List.sum_cons,List.length_cons,Nat.add_mul,Nat.one_mul]at h2 ⊢
   omega
 have h6:=Nat.mul_le_mul_right p hm
 omega
theorem zza(l:List (List UInt32))(hl:l.length≤1000)(hw:∀a∈l,a.length≤90000):∀i:Nat,i≤l.length →
  loopN T 0 0 (.norm false [3]) l56_0 ⟨[(3,.sl (u32s (ofN (sumL (l.take i)))) .an),(6,.sl (lls l) .an),(7,.i .i64 l.length),(8,.i .i64 i)],[],2⟩=some (.n,⟨[(3,.sl (u32s (ofN (sumL l))) .an)],[],2⟩):=by
 refine zcv (fun i:Nat=>⟨[(3,.sl (u32s (ofN (sumL (l.take i)))) .an),(6,.sl (lls l) .an),(7,.i .i64 l.length),(8,.i .i64 i)],[],2⟩) _ (fun i=>l.length-i) _ ?_
 intro i hi
 by_cases h0:i<l.length
 ·left
  have hg:l[i]? = some (l[i]'h0):=List.getElem?_eq_getElem h0
  have hwr:IntKind.wrap .i64 ((i:Int)+1)=((i+1:Nat):Int):=zac _ (by omega)
  have hw1:=hw _ (List.getElem_mem h0)
  have ht:=zbp (T:=T) (l[i]'h0) (by omega)
  have hs:=zy9 90000 (l.take i) (by simp;omega) fun a ha=>hw a (List.mem_of_mem_take ha)
  have hp:=zy8 (T:=T) (ofN (sumL (l.take i))) (ofN (val (l[i]'h0))) (by omega) (by have:=zad (l[i]'h0);omega)
  rw[zah,zah]at hp
  have e:sumL (l.take i)+val (l[i]'h0)=sumL (l.take (i+1)):=by
   unfold sumL
   rw[List.take_add_one,hg]
   simp only[Option.toList_some,List.map_append,List.map_cons,List.map_nil,List.sum_append,List.sum_cons,List.sum_nil,Nat.add_zero]
  rw[e]at hp
  have hz:rowZ 1 (lls l)=true:=by cases l<;>simp[lls,rowZ]
  refine⟨i+1,h0,by show l.length-(i+1)<l.length-i;omega,?_,rfl⟩
  simp[l56_0,h0,ht,hp,hwr]
 ·right
  have:i=l.length:=by omega
  subst this
  rw[List.take_of_length_le (Nat.le_refl _)]
  constructor<;>simp[l56_0]
theorem zzb(l:List (List UInt32))(hl:l.length≤1000)(hw:∀a∈l,a.length≤90000):callF T 56 [.sl (lls l) .an]=some (.sl (u32s (ofN (sumL l))) .an):=by
 have h:=zza (T:=T) l hl hw 0 (Nat.zero_le _)
 simp[sumL]at h
 rw[f56 _ rfl,b56]
 simp[h,sumL]
end
section
variable{T:Tbl}
theorem zzc(a b:List UInt32)(hab:a.length=b.length)(hl:a.length≤1000000):∀m:Nat,m≤a.length →
  loopN T 0 1 (.norm false []) l87_0 ⟨[(0,.sl (u32s a) .an),(1,.sl (u32s b) .an),(5,.i .i64 ((m:Int)-1))],[],2⟩ =
   if val (a.take m)<val (b.take m) then some (.r,⟨[(4,.i .i64 (-1))],[],2⟩) else if val (b.take m)<val (a.take m) then some (.r,⟨[(4,.i .i64 1)],[],2⟩) else some (.n,⟨[],[],2⟩):=by
 refine zcv (fun m:Nat=>⟨[(0,.sl (u32s a) .an),(1,.sl (u32s b) .an),(5,.i .i64 ((m:Int)-1))],[],2⟩) _ (fun m=>m) _ ?_
 intro m hm
 cases m with
 | zero=>
  right
  constructor<;>simp[l87_0]
 | succ i=>
  have ha:a[i]? = some (a[i]'(by omega)):=List.getElem?_eq_getElem _
  have hb:b[i]? = some (b[i]'(by omega)):=List.getElem?_eq_getElem _
  have hia:i<a.length:=by omega
  have hib:i<b.length:=by omega
  have hw:IntKind.wrap .i64 ((i:Int)-1)=(i:Int)-1:=zac _ (by omega)
  rcases Nat.lt_trichotomy (a[i]'hia).toNat (b[i]'hib).toNat with h1 | h1 | h1
  ·right
   have h2:=zwq ha hb h1
   constructor<;>simp[l87_0,hia,hib,h1,h2]
  ·left
   refine⟨i,by omega,Nat.lt_succ_self i,?_,?_⟩
   ·simp[l87_0,hia,hib,h1,hw]
   ·have e1:=zae ha
    have e2:=zae hb
    rw[e1,e2,h1]
    have e3:(val (a.take i)+4294967296^i*(b[i]'hib).toNat<val (b.take i)+4294967296^i*(b[i]'hib).toNat)=(val (a.take i)<val (b.take i)):=by
     apply propext;omega
    have e4:(val (b.take i)+4294967296^i*(b[i]'hib).toNat<val (a.take i)+4294967296^i*(b[i]'hib).toNat)=(val (b.take i)<val (a.take i)):=by
     apply propext;omega
    simp only[e3,e4]
  ·right
   have h2:=zwq hb ha h1
   have h3:¬ val (a.take (i+1))<val (b.take (i+1)):=by omega
   have h4:¬ (a[i]'hia).toNat<(b[i]'hib).toNat:=by omega
   constructor<;>simp[l87_0,hia,hib,h1,h2,h3,h4]
end
section
variable{T:Tbl}[CNat T]
theorem zii(a b:List UInt32)(ha:a.length≤1000000)(hb:b.length≤1000000):callF T 87 [.sl (u32s a) .an,.sl (u32s b) .an]=some (.i .i64 (cmpN (val a) (val b))):=by
 have hta:=zbp (T:=T) a (by omega)
 have htb:=zbp (T:=T) b (by omega)
 have hla:=zad a
 have hlb:=zad b
 rw[f87 _ rfl,b87]
 rcases Nat.lt_trichotomy (ofN (val a)).length (ofN (val b)).length with h | h | h
 ·have h1:=zgk h
  simp[hta,htb,h,cmpN,h1]
 ·have hc:=zzc (T:=T) (ofN (val a)) (ofN (val b)) h (by omega) (ofN (val a)).length (Nat.le_refl _)
  rw[List.take_of_length_le (Nat.le_refl _),List.take_of_length_le (by omega),zah,zah]at hc
  have hw:IntKind.wrap .i64 (((ofN (val a)).length:Int)-1)=((ofN (val a)).length:Int)-1:=zac _ (by omega)
  have h1:¬ (ofN (val a)).length<(ofN (val b)).length:=by omega
  have h2:¬ (ofN (val b)).length<(ofN (val a)).length:=by omega
  simp[hta,htb,h1,h2,hw,hc,cmpN]
  repeat' split
  all_goals simp
 ·have h1:=zgk h
  have h2:¬ val a<val b:=by omega
  have h3:¬ (ofN (val a)).length<(ofN (val b)).length:=by omega
  simp[hta,htb,h,cmpN,h1,h2,h3]
def stSub(a b:List UInt32)(y:Nat×Nat×List UInt32):St:=
 ⟨[(0,.sl (u32s a) .an),(1,.sl (u32s b) .an),(6,.bs (.fld (.loc 19) 10) 1 1 0 a.length),(7,u32 y.2.1),(21,.i .i64 a.length),(22,.i .i64 y.1)],
  [(.fld (.loc 19) 10,⟨1,.own,1,u32s y.2.2⟩)],3⟩
theorem zzd(a b:List UInt32)(hb:b.length≤a.length)(hl:a.length≤1000000):∀y:Nat×Nat×List UInt32,
  (y.1≤a.length∧y.2.1≤1∧y.2.2.length=a.length∧val (y.2.2.take y.1)+val (b.take y.1)=val (a.take y.1)+4294967296^y.1*y.2.1) →
  ∃r,(∃(c:Nat) (out:List UInt32),r=(Ex.n,(⟨[(6,.bs (.fld (.loc 19) 10) 1 1 0 a.length)],[(.fld (.loc 19) 10,⟨1,.own,1,u32s out⟩)],3⟩:St)) ∧
   out.length=a.length∧c≤1∧val out+val b=val a+4294967296^a.length*c)∧loopN T 0 0 (.norm false [6]) l88_0 (stSub a b y)=some r:=by
 refine za1 _ _ (fun y=>a.length-y.1) _ ?_
 rintro⟨i,c,out⟩ ⟨hi,hc,ho,hv⟩
 simp only at hi hc ho hv
 by_cases h0:i<a.length
 ·left
  have ha:a[i]? = some (a[i]'h0):=List.getElem?_eq_getElem h0
  have hoi:i<out.length:=by omega
  have hog:out[i]? = some (out[i]'hoi):=List.getElem?_eq_getElem hoi
  have hw:IntKind.wrap .i64 ((i:Int)+1)=((i+1:Nat):Int):=zac _ (by omega)
  have hc2:c<4294967296:=by omega
  have hx:=zaq (a[i]'h0)
  have h1:=zae ha
  have fin:∀z:Nat,z<4294967296→val (b.take (i+1))=val (b.take i)+4294967296^i*z →
    val ((out.set i (w32 ((a[i]'h0).toNat+8589934592-(z+c)))).take (i+1))+val (b.take (i+1))=val (a.take (i+1))+4294967296^(i+1)*(2-((a[i]'h0).toNat+8589934592-(z+c))/4294967296):=by
   intro z hz h3
   have hs:=(zk8 hx hz hc).1
   rw[zcp _ hoi,h1,h3,zd1,Nat.pow_succ]
   generalize 4294967296^i=p at *
   generalize (a[i]'h0).toNat=x at *
   generalize (x+8589934592-(z+c))%4294967296=s at *
   generalize 2-(x+8589934592-(z+c))/4294967296=d at *
   have e2:p*s+p*(z+c)=p*x+p*4294967296*d:=by rw[←Nat.mul_add,hs,Nat.mul_add,Nat.mul_assoc]
   rw[Nat.mul_add]at e2
   omega
  by_cases h2:i<b.length
  ·have hbg:b[i]? = some (b[i]'h2):=List.getElem?_eq_getElem h2
   have h3:=zae hbg
   refine⟨(i+1,2-((a[i]'h0).toNat+8589934592-((b[i]'h2).toNat+c))/4294967296,out.set i (w32 ((a[i]'h0).toNat+8589934592-((b[i]'h2).toNat+c)))),⟨h0,(zk8 hx (zaq _) hc).2,by simp[ho],fin _ (zaq _) h3⟩,by simp only;omega,?_⟩
   simp[l88_0,stSub,h0,h2,hog,hw,zft,hc2]
  ·have h3:val (b.take (i+1))=val (b.take i)+4294967296^i*0:=by rw[zbl (by omega),zbl (by omega)];simp
   refine⟨(i+1,2-((a[i]'h0).toNat+8589934592-(0+c))/4294967296,out.set i (w32 ((a[i]'h0).toNat+8589934592-(0+c)))),⟨h0,(zk8 hx (by decide) hc).2,by simp[ho],fin 0 (by decide) h3⟩,by simp only;omega,?_⟩
   simp[l88_0,stSub,h0,h2,hog,hw,zft,hc2]
 ·right
  have:i=a.length:=by omega
  subst this
  rw[List.take_of_length_le (Nat.le_refl _),List.take_of_length_le hb,List.take_of_length_le (by omega)]at hv
  refine⟨_,⟨c,out,rfl,ho,hc,hv⟩,?_,?_⟩<;>simp[l88_0,stSub]
theorem zdy{x y:Nat}:cmpN x y<0↔x<y:=by
 unfold cmpN
 split
 ·simp[*]
 ·split<;>simp[*]
theorem zvm(a b:List UInt32)(ha:a.length≤1000000)(hb:b.length≤1000000):callF T 88 [.sl (u32s a) .an,.sl (u32s b) .an] =
  some (if val a<val b then .tup [.sl [] .an,.b false] else .tup [.sl (u32s (ofN (val a-val b))) .an,.b true]):=by
 have hta:=zbp (T:=T) a (by omega)
 have htb:=zbp (T:=T) b (by omega)
 have hla:=zad a
 have hlb:=zad b
 have hc:=zii (T:=T) (ofN (val a)) (ofN (val b)) (by omega) (by omega)
 rw[zah,zah]at hc
 rw[f88 _ rfl,b88]
 by_cases h:val a<val b
 ·simp[hta,htb,hc,zdy,h]
 ·have hle:=zbr (show val b≤val a by omega)
  have hf:=zcw (T:=T) (ofN (val a)) 0 (by omega)
  simp only[Int.natCast_zero,Nat.add_zero,List.replicate_zero,List.append_nil]at hf
  obtain⟨_,⟨c,out,rfl,ho,hc1,hv⟩,hr⟩:=zzd (T:=T) (ofN (val a)) (ofN (val b)) hle (by omega) (0,0,ofN (val a)) ⟨Nat.zero_le _,Nat.zero_le _,rfl,by simp⟩
  unfold stSub at hr
  simp at hr
  rw[zah,zah]at hv
  have hlt:=zbd out
  rw[ho]at hlt
  have hc0:c=0:=by
   rcases Nat.eq_zero_or_pos c with h1 | h1
   ·exact h1
   ·have:c=1:=by omega
    subst this
    omega
  subst hc0
  have hval:val out=val a-val b:=by omega
  have ht:=zbp (T:=T) out (by omega)
  rw[hval]at ht
  have htk:List.take (ofN (val a)).length out=out:=List.take_of_length_le (by omega)
  simp[hta,htb,hc,zdy,h,hf,hr,ho,htk,ht]
theorem z3m(a b:List UInt32)(ha:a.length≤1000000)(hb:b.length≤1000000):callF T 57 [.sl (u32s a) .an,.sl (u32s b) .an] =
  some (.tup [.sl (u32s (ofN (if val a<val b then val b-val a else val a-val b))) .an,.i .i64 (cmpN (val a) (val b))]):=by
 have hc:=zii (T:=T) a b ha hb
 rw[f57 _ rfl,b57]
 by_cases h:val a<val b
 ·have h2:¬ val b<val a:=by omega
  have hs:=zvm (T:=T) b a hb ha
  rw[if_neg h2]at hs
  simp[hc,zdy,h,hs]
 ·have hs:=zvm (T:=T) a b ha hb
  rw[if_neg h]at hs
  simp[hc,zdy,h,hs]
theorem zze{x y:Nat}(hx:x<4294967296):x ||| (y*4294967296)=x+y*4294967296:=by
 have:=Nat.two_pow_add_eq_or_of_lt (i:=32) hx y
 rw[Nat.or_comm,Nat.mul_comm y,show (4294967296:Nat)=2^32 from rfl,←this]
 omega
end
section
variable{T:Tbl}
theorem zr3(l:List UInt32)(hl:l.length≤2):∀i:Nat,i≤l.length →
  loopN T 0 0 (.norm false [4]) l73_0 ⟨[(4,u64 (val (l.take i))),(12,.sl (u32s l) .an),(13,.i .i64 l.length),(14,.i .i64 i)],[],2⟩=some (.n,⟨[(4,u64 (val l))],[],2⟩):=by
 refine zcv (fun i:Nat=>⟨[(4,u64 (val (l.take i))),(12,.sl (u32s l) .an),(13,.i .i64 l.length),(14,.i .i64 i)],[],2⟩) _ (fun i=>l.length-i) _ ?_
 intro i hi
 by_cases h0:i<l.length
 ·left
  have hg:l[i]? = some (l[i]'h0):=List.getElem?_eq_getElem h0
  have hx:=zaq (l[i]'h0)
  have h1:=zae hg
  refine⟨i+1,h0,by show l.length-(i+1)<l.length-i;omega,?_,rfl⟩
  rcases(show i=0∨i=1 by omega) with rfl | rfl
  ·simp[l73_0,h0,h1]
  ·have h2:val (l.take 1)<4294967296:=by
    have:=zbd (l.take 1)
    have h3:(l.take 1).length=1:=by simp;omega
    rw[h3]at this
    simpa using this
   have e1:(l[1]'h0).toNat*4294967296%18446744073709551616=(l[1]'h0).toNat*4294967296:=Nat.mod_eq_of_lt (by omega)
   have e2:=zze (y:=(l[1]'h0).toNat) h2
   have e3:(val (l.take 1)+(l[1]'h0).toNat*4294967296)%18446744073709551616=val (l.take 1)+(l[1]'h0).toNat*4294967296:=Nat.mod_eq_of_lt (by omega)
   have e4:val (l.take 1)+(l[1]'h0).toNat*4294967296=val (l.take (1+1)):=by rw[h1];omega
   simp at e4
   have h0':(1:Int)<(l.length:Int):=by omega
   have e5:val (List.take 2 l)<18446744073709551616:=by omega
   simp[l73_0,h0,h0',e1,e2,e4,e5]
 ·right
  have:i=l.length:=by omega
  subst this
  rw[List.take_of_length_le (Nat.le_refl _)]
  constructor<;>simp[l73_0]
end
section
variable{T:Tbl}[CNat T]
theorem zm3(a:List UInt32)(ha:a.length≤1000000):callF T 73 [.sl (u32s a) .an] =
  some (if val a<18446744073709551616 then .tup [u64 (val a),.b true] else .tup [u64 0,.b false]):=by
 have hta:=zbp (T:=T) a (by omega)
 have hla:=zad a
 have hv:=zah (val a)
 rw[f73 _ rfl,b73]
 generalize hl:ofN (val a)=l at *
 by_cases h:2<l.length
 ·have h2:¬ val a<18446744073709551616:=by
   intro h3
   have:=zat (show val a<4294967296^2 from h3)
   rw[hl]at this
   omega
  have h3:(2:Int)<(l.length:Int):=by omega
  simp[hta,h3,h2]
 ·have h2:val a<18446744073709551616:=by
   have:=zbd l
   rw[hv]at this
   have h3:4294967296^l.length≤4294967296^2:=Nat.pow_le_pow_right (by decide) (by omega)
   omega
  have h3:¬ (2:Int)<(l.length:Int):=by omega
  have hs:=zr3 (T:=T) l (by omega) 0 (Nat.zero_le _)
  simp at hs
  simp[hta,h3,h2,hs,hv]
end
def l89_0:AX:=
 (.note
 (.seq
 (.reg [rg 15 (.bin .lss (.t 14) (.t 13))])
 (.seq
 (.cond (.t 15)
 .skip
 (.exit 0))
 (.seq
 (.block 1
 (.seq
 (.reg [mv 16 14,rg 17 (.iad 1 (.t 12) (.t 14)),rg 18 (.load none (.t 17)),mv 10 16,mv 11 18])
 (.reg [mv 20 0,mv 21 1,mv 22 10,rg 23 (.bin .add (.t 21) (.t 22)),mv 24 3,mv 25 11,mv 26 0,mv 27 1,mv 28 10,rg 29 (.bin .add (.t 27) (.t 28)),rg 30 (.iad 1 (.t 26) (.t 29)),rg 31 (.load none (.t 30)),mv 32 4,rg 33 (.call 117 [(.t 24),(.t 25),(.t 31),(.t 32)]),mv 19 33,rg 34 (.ext (.t 19) 0),rg 35 (.ext (.t 19) 1),mv 4 34,rg 36 (.iad 1 (.t 20) (.t 23)),so (.store 1 (.t 36) (.t 35))])))
 (.reg [rg 37 (.bin .add (.t 14) (.c (.i .i64 1))),mv 14 37]))))
 (.norm false [0,1,2,3,4,12,13,14]))
def b89:AX:=
 (.seq
 (.seq
 (.reg [mv 12 2,rg 13 (.len (.t 12)),rg 14 (.mov (.c (.i .i64 0)))])
 (.lp 0 (.norm false [0,1,2,3,4,12,13,14]) l89_0 (.norm false [0,1,2,4])))
 (.reg [mv 38 0,mv 39 1,mv 40 2,rg 41 (.len (.t 40)),rg 42 (.bin .add (.t 39) (.t 41)),mv 43 4,rg 44 (.iad 1 (.t 38) (.t 42)),so (.store 1 (.t 44) (.t 43))]))
def l60_0:AX:=
 (.note
 (.seq
 (.reg [rg 18 (.bin .lss (.t 17) (.t 16))])
 (.seq
 (.cond (.t 18)
 .skip
 (.exit 0))
 (.seq
 (.block 1
 (.seq
 (.reg [mv 19 17,rg 20 (.iad 1 (.t 15) (.t 17)),rg 21 (.load none (.t 20)),mv 6 19,mv 7 21])
 (.reg [mv 22 5,mv 23 6,mv 24 0,mv 25 7,rg 26 (.call 89 [(.t 22),(.t 23),(.t 24),(.t 25),(.c (u32 0))])])))
 (.reg [rg 27 (.bin .add (.t 17) (.c (.i .i64 1))),mv 17 27]))))
 (.norm false [0,5,15,16,17]))
def b60:AX:=
 (.seq
 (.reg [rg 4 (.mov (.c (.sl [] .nl)))])
 (.seq
 (.reg [mv 8 0,rg 9 (.len (.t 8)),mv 10 1,rg 11 (.len (.t 10)),rg 12 (.bin .add (.t 9) (.t 11)),rg 13 (.bin .add (.t 12) (.c (.i .i64 1))),rg 14 (.mks 1 [(u32 0)] (.t 13) (.t 13)),mv 5 14])
 (.seq
 (.seq
 (.reg [mv 15 1,rg 16 (.len (.t 15)),rg 17 (.mov (.c (.i .i64 0)))])
 (.lp 0 (.norm false [0,5,15,16,17]) l60_0 (.norm false [5])))
 (.seq
 (.reg [mv 28 5,rg 29 (.call 71 [(.t 28)]),mv 4 29])
 (.pre (.norm false [4]) .ret)))))
class CProd (T:Tbl):Prop extends CNat T where
 h89:T 89=some ⟨5,45,[],b89,(some [true,false,false,false,false]),false⟩
 h60:T 60=some ⟨2,30,[.t 4],b60,none,false⟩
section
variable{T:Tbl}[CProd T]{d:Option Nat}{st:St}
@[simp] theorem x89(xs:List AV):callX (orc T) T 89 xs d st=bL (frzM st.heap [true,false,false,false,false] xs) fun ys=>lentX ys (shareIds (refsM [true,false,false,false,false] xs) st.heap) (reach (shareIds (refsM [true,false,false,false,false] xs) st.heap) 40 (rootsM [true,false,false,false,false] xs) []) T 89 false d st:=zan CProd.h89
theorem f89(xs:List AV)(hb:Heap)(hn:xs.length=5):callH T 89 xs hb=retH [] false hb.length (evX (orc T) T hb.length b89 ⟨argEnv xs,hb,hb.length+1⟩):=zau CProd.h89 hn
@[simp] theorem x60(xs:List AV):callX (orc T) T 60 xs d st=cP T 60 false xs d st:=zaa CProd.h60
@[simp] theorem y60{e:Env}{h:Heap}{older:List Heap}(args:List Opd):opD (orc T) T (.call 60 args) e h older=dR (callF T 60 ((args.map (ev e.get)).map (wkIf false))) (args.map (ev e.get)):=zal CProd.h60
theorem f60(xs:List AV)(hn:xs.length=2):callF T 60 xs=retF [.t 4] false (evX (orc T) T 0 b60 ⟨argEnv xs,[],1⟩):=zab CProd.h60 hn
end
def l92_0:AX:=
 (.note
 (.seq
 (.reg [rg 27 (.bin .lss (.t 26) (.t 25))])
 (.seq
 (.cond (.t 27)
 .skip
 (.exit 0))
 (.seq
 (.block 1
 (.seq
 (.reg [mv 28 26,rg 29 (.iad 1 (.t 24) (.t 26)),rg 30 (.load none (.t 29)),mv 8 28,mv 9 30])
 (.seq
 (.reg [mv 31 9,rg 32 (.conv .u64 (.t 31)),mv 33 6,rg 34 (.bin .shl (.t 32) (.t 33)),mv 10 34])
 (.seq
 (.reg [mv 35 7,mv 36 5,mv 37 8,rg 38 (.bin .add (.t 36) (.t 37)),rg 39 (.iad 1 (.t 35) (.t 38)),rg 40 (.load none (.t 39)),mv 41 10,rg 42 (.conv .u32 (.t 41)),rg 43 (.bin .or (.t 40) (.t 42)),rg 44 (.iad 1 (.t 35) (.t 38)),so (.store 1 (.t 44) (.t 43))])
 (.reg [mv 45 7,mv 46 5,mv 47 8,rg 48 (.bin .add (.t 46) (.t 47)),rg 49 (.bin .add (.t 48) (.c (.i .i64 1))),mv 50 10,rg 51 (.bin .shr (.t 50) (.c (u64 32))),rg 52 (.conv .u32 (.t 51)),rg 53 (.iad 1 (.t 45) (.t 49)),so (.store 1 (.t 53) (.t 52))])))))
 (.reg [rg 54 (.bin .add (.t 26) (.c (.i .i64 1))),mv 26 54]))))
 (.norm false [5,6,7,24,25,26]))
def b92:AX:=
 (.seq
 (.reg [rg 4 (.mov (.c (.sl [] .nl)))])
 (.seq
 (.reg [mv 11 1,rg 12 (.mm true [(.t 11),(.c (.i .i64 0))]),rg 13 (.mm false [(.t 12),(.c (.i .i64 4096))]),mv 1 13])
 (.seq
 (.reg [mv 14 1,rg 15 (.bin .quo (.t 14) (.c (.i .i64 32))),mv 16 1,rg 17 (.bin .rem (.t 16) (.c (.i .i64 32))),mv 5 15,mv 6 17])
 (.seq
 (.reg [mv 18 5,mv 19 0,rg 20 (.len (.t 19)),rg 21 (.bin .add (.t 18) (.t 20)),rg 22 (.bin .add (.t 21) (.c (.i .i64 1))),rg 23 (.mks 1 [(u32 0)] (.t 22) (.t 22)),mv 7 23])
 (.seq
 (.seq
 (.reg [mv 24 0,rg 25 (.len (.t 24)),rg 26 (.mov (.c (.i .i64 0)))])
 (.lp 0 (.norm false [5,6,7,24,25,26]) l92_0 (.norm false [7])))
 (.seq
 (.reg [mv 55 7,rg 56 (.call 71 [(.t 55)]),mv 4 56])
 (.pre (.norm false [4]) .ret)))))))
def l94_0:AX:=
 (.note
 (.seq
 (.reg [rg 28 (.bin .lss (.t 27) (.t 26))])
 (.seq
 (.cond (.t 28)
 .skip
 (.exit 0))
 (.seq
 (.block 1
 (.seq
 (.reg [mv 29 27,mv 8 29])
 (.seq
 (.reg [mv 30 0,mv 31 5,mv 32 8,rg 33 (.bin .add (.t 31) (.t 32)),rg 34 (.iad 1 (.t 30) (.t 33)),rg 35 (.load none (.t 34)),rg 36 (.conv .u64 (.t 35)),mv 9 36])
 (.seq
 (.seq
 (.reg [mv 37 5,mv 38 8,rg 39 (.bin .add (.t 37) (.t 38)),rg 40 (.bin .add (.t 39) (.c (.i .i64 1))),mv 41 0,rg 42 (.len (.t 41)),rg 43 (.bin .lss (.t 40) (.t 42))])
 (.cond (.t 43)
 (.reg [mv 44 9,mv 45 0,mv 46 5,mv 47 8,rg 48 (.bin .add (.t 46) (.t 47)),rg 49 (.bin .add (.t 48) (.c (.i .i64 1))),rg 50 (.iad 1 (.t 45) (.t 49)),rg 51 (.load none (.t 50)),rg 52 (.conv .u64 (.t 51)),rg 53 (.bin .shl (.t 52) (.c (u64 32))),rg 54 (.bin .or (.t 44) (.t 53)),mv 9 54])
 .skip))
 (.reg [mv 55 7,mv 56 8,mv 57 9,mv 58 6,rg 59 (.bin .shr (.t 57) (.t 58)),rg 60 (.conv .u32 (.t 59)),rg 61 (.iad 1 (.t 55) (.t 56)),so (.store 1 (.t 61) (.t 60))])))))
 (.reg [rg 62 (.bin .add (.t 27) (.c (.i .i64 1))),mv 27 62]))))
 (.norm false [0,5,6,7,26,27]))
def b94:AX:=
 (.seq
 (.reg [rg 4 (.mov (.c (.sl [] .nl)))])
 (.seq
 (.reg [mv 10 1,rg 11 (.mm true [(.t 10),(.c (.i .i64 0))]),mv 1 11])
 (.seq
 (.reg [mv 12 1,rg 13 (.bin .quo (.t 12) (.c (.i .i64 32))),mv 14 1,rg 15 (.bin .rem (.t 14) (.c (.i .i64 32))),mv 5 13,mv 6 15])
 (.seq
 (.seq
 (.reg [mv 16 5,mv 17 0,rg 18 (.len (.t 17)),rg 19 (.bin .geq (.t 16) (.t 18))])
 (.cond (.t 19)
 (.seq
 (.reg [rg 4 (.mov (.c (.sl [] .nl)))])
 (.pre (.norm false [4]) .ret))
 .skip))
 (.seq
 (.reg [mv 20 0,rg 21 (.len (.t 20)),mv 22 5,rg 23 (.bin .sub (.t 21) (.t 22)),rg 24 (.mks 1 [(u32 0)] (.t 23) (.t 23)),mv 7 24])
 (.seq
 (.seq
 (.reg [mv 25 7,rg 26 (.len (.t 25)),rg 27 (.mov (.c (.i .i64 0)))])
 (.lp 0 (.norm false [0,5,6,7,26,27]) l94_0 (.norm false [7])))
 (.seq
 (.reg [mv 63 7,rg 64 (.call 71 [(.t 63)]),mv 4 64])
 (.pre (.norm false [4]) .ret))))))))
class CTwos (T:Tbl):Prop where
 h92:T 92=some ⟨2,57,[.t 4],b92,none,false⟩
 h94:T 94=some ⟨2,65,[.t 4],b94,none,false⟩
section
variable{T:Tbl}[CTwos T]{d:Option Nat}{st:St}
@[simp] theorem x94(xs:List AV):callX (orc T) T 94 xs d st=cP T 94 false xs d st:=zaa CTwos.h94
theorem f94(xs:List AV)(hn:xs.length=2):callF T 94 xs=retF [.t 4] false (evX (orc T) T 0 b94 ⟨argEnv xs,[],1⟩):=zab CTwos.h94 hn
end
theorem zge{P m S:List UInt32}{i:Nat}(hm:m.length=i)(hi:i<S.length):(P++(m++S.drop i))[P.length+i]? = some (S[i]'hi):=by
 rw[List.getElem?_append_right (by omega),Nat.add_sub_cancel_left,List.getElem?_append_right (by omega),hm,Nat.sub_self,List.getElem?_drop,Nat.add_zero,List.getElem?_eq_getElem hi]
theorem zgf{P m S:List UInt32}{i:Nat}(w:UInt32)(hm:m.length=i)(hi:i<S.length):(P++(m++S.drop i)).set (P.length+i) w=P++((m++[w])++S.drop (i+1)):=by
 rw[List.set_append_right (P.length+i) w (by omega),Nat.add_sub_cancel_left,List.set_append_right i w (by omega),hm,Nat.sub_self,List.drop_eq_getElem_cons hi,List.set_cons_zero]
 simp
section
variable{T:Tbl}[CProd T]
def stRow(P S a:List UInt32)(x:Nat)(y:Nat×Nat×List UInt32):St:=
 ⟨[(0,.bs (.bor 0) 0 1 0 (P.length+S.length)),(1,.i .i64 P.length),(2,.sl (u32s a) .an),(3,u32 x),(4,u32 y.2.1),(12,.sl (u32s a) .an),(13,.i .i64 a.length),(14,.i .i64 y.1)],
  [(.bor 0,⟨0,.own,1,u32s (P++(y.2.2++S.drop y.1))⟩)],4⟩
theorem zzg{p m w c c' s x y t v k:Nat}(h:m+p*c=s+x*t+k)(e:w+4294967296*c'=x*y+v+c):(m+p*w)+p*4294967296*c'=(s+p*v)+x*(t+p*y)+k:=by
 have e2:p*w+p*4294967296*c'=p*(x*y)+p*v+p*c:=by rw[Nat.mul_assoc,←Nat.mul_add,e,Nat.mul_add,Nat.mul_add]
 have e3:x*(t+p*y)=x*t+p*(x*y):=by rw[Nat.mul_add,←Nat.mul_assoc,Nat.mul_comm x p,Nat.mul_assoc]
 omega
theorem zzh(P S a:List UInt32)(x c0:Nat)(hx:x<4294967296)(hS:a.length<S.length)(hl:P.length+S.length≤1000000):∀y:Nat×Nat×List UInt32,
  (y.1≤a.length∧y.2.1<4294967296∧y.2.2.length=y.1∧val y.2.2+4294967296^y.1*y.2.1=val (S.take y.1)+x*val (a.take y.1)+c0) →
  ∃r,(∃(c:Nat) (m:List UInt32),r=(Ex.n,(⟨[(0,.bs (.bor 0) 0 1 0 (P.length+S.length)),(1,.i .i64 P.length),(2,.sl (u32s a) .an),(4,u32 c)],[(.bor 0,⟨0,.own,1,u32s (P++(m++S.drop a.length))⟩)],4⟩:St)) ∧
   m.length=a.length∧c<4294967296∧val m+4294967296^a.length*c=val (S.take a.length)+x*val a+c0)∧loopN T 1 0 (.norm false [0,1,2,4]) l89_0 (stRow P S a x y)=some r:=by
 refine za1 _ _ (fun y=>a.length-y.1) _ ?_
 rintro⟨i,c,m⟩ ⟨hi,hc,hm,hv⟩
 simp only at hi hc hm hv
 by_cases h0:i<a.length
 ·left
  have ha:a[i]? = some (a[i]'h0):=List.getElem?_eq_getElem h0
  have hiS:i<S.length:=by omega
  have hs:S[i]? = some (S[i]'hiS):=List.getElem?_eq_getElem hiS
  have hg:=zge (P:=P) hm hiS
  have hw:IntKind.wrap .i64 ((i:Int)+1)=((i+1:Nat):Int):=zac _ (by omega)
  have hw2:IntKind.wrap .i64 ((P.length:Int)+i)=((P.length+i:Nat):Int):=zac _ (by omega)
  have hlt:P.length+i<P.length+S.length:=by omega
  have hlt2:((P.length+i:Nat):Int)<(P.length:Int)+S.length:=by omega
  have hla:=zaq (a[i]'h0)
  have hls:=zaq (S[i]'hiS)
  have hmul:=zj2 hx hla
  have hlen:(P++(m++S.drop i)).length=P.length+S.length:=by simp;omega
  have hcall:=zig (T:=T) x (a[i]'h0).toNat (S[i]'hiS).toNat c hx hla hls hc
  have hset:=zgf (P:=P) (w32 (x*(a[i]'h0).toNat+(S[i]'hiS).toNat+c)) hm hiS
  refine⟨(i+1,(x*(a[i]'h0).toNat+(S[i]'hiS).toNat+c)/4294967296,m++[w32 (x*(a[i]'h0).toNat+(S[i]'hiS).toNat+c)]),⟨h0,by simp only;omega,by simp[hm],?_⟩,by simp only;omega,?_⟩
  ·simp only
   rw[zao,zae ha,zae hs,Nat.pow_succ,hm]
   simp only[zaw,zch,Nat.mul_zero,Nat.add_zero,zd1]
   exact zzg hv (by have:=Nat.div_add_mod (x*(a[i]'h0).toNat+(S[i]'hiS).toNat+c) 4294967296;omega)
  ·simp[l89_0,stRow,h0,hw,hw2,hiS,hg,hcall,hset]
 ·right
  have:i=a.length:=by omega
  subst this
  rw[List.take_of_length_le (Nat.le_refl a.length)]at hv
  refine⟨_,⟨c,m,rfl,hm,hc,hv⟩,?_,?_⟩<;>simp[l89_0,stRow]
theorem zzi(P S a:List UInt32)(x c0:Nat)(hx:x<4294967296)(hc:c0<4294967296)(hS:a.length<S.length)(hl:P.length+S.length≤1000000) :
  ∃m,m.length=a.length+1∧val m=val (S.take a.length)+x*val a+c0 ∧
   callH T 89 [.bs (.bor 0) 0 1 0 (P.length+S.length),.i .i64 P.length,.sl (u32s a) .an,u32 x,u32 c0] [(.bor 0,⟨0,.own,1,u32s (P++S)⟩)] =
    some (.tup [],[(.bor 0,⟨0,.own,1,u32s (P++(m++S.drop (a.length+1)))⟩)]):=by
 obtain⟨_,⟨c,m,rfl,hm,hc1,hv⟩,hr⟩:=zzh (T:=T) P S a x c0 hx hS hl (0,c0,[]) ⟨Nat.zero_le _,hc,rfl,by simp⟩
 unfold stRow at hr
 simp at hr
 refine⟨m++[w32 c],by simp[hm],by rw[zao,hm];simpa[zaf hc1]using hv,?_⟩
 have hw2:IntKind.wrap .i64 ((P.length:Int)+a.length)=((P.length+a.length:Nat):Int):=zac _ (by omega)
 have hlt:P.length+a.length<P.length+S.length:=by omega
 have hlt2:((P.length+a.length:Nat):Int)<(P.length:Int)+S.length:=by omega
 have hg:=zge (P:=P) hm hS
 have hset:=zgf (P:=P) (w32 c) hm hS
 rw[f89 _ _ rfl,b89]
 simp[hr,hw2,hg,hS,zbo _ _ _ hc1,hset]
def stMul(a b:List UInt32)(y:Nat×List UInt32):St:=
 ⟨[(0,.sl (u32s a) .an),(5,.bs (.loc 14) 1 1 0 (a.length+b.length+1)),(15,.sl (u32s b) .an),(16,.i .i64 b.length),(17,.i .i64 y.1)],[(.loc 14,⟨1,.own,1,u32s (y.2++List.replicate (b.length+1-y.1) 0)⟩)],3⟩
theorem zzj(a b:List UInt32)(ha:a.length≤100000)(hb:b.length≤100000):∀y:Nat×List UInt32,
  (y.1≤b.length∧y.2.length=a.length+y.1∧val y.2=val a*val (b.take y.1)) →
  ∃r,(∃out:List UInt32,r=(Ex.n,(⟨[(5,.bs (.loc 14) 1 1 0 (a.length+b.length+1))],[(.loc 14,⟨1,.own,1,u32s out⟩)],3⟩:St))∧out.length=a.length+b.length+1∧val out=val a*val b) ∧
   loopN T 0 0 (.norm false [5]) l60_0 (stMul a b y)=some r:=by
 refine za1 _ _ (fun y=>b.length-y.1) _ ?_
 rintro⟨i,X⟩ ⟨hi,hX,hv⟩
 simp only at hi hX hv
 by_cases h0:i<b.length
 ·left
  have hbg:b[i]? = some (b[i]'h0):=List.getElem?_eq_getElem h0
  have hw:IntKind.wrap .i64 ((i:Int)+1)=((i+1:Nat):Int):=zac _ (by omega)
  obtain⟨m,hm1,hm2,hc⟩:=zzi (T:=T) (X.take i) (X.drop i++List.replicate (b.length+1-i) 0) a (b[i]'h0).toNat 0 (zaq _) (by decide) (by simp;omega) (by simp;omega)
  have e1:X.take i++(X.drop i++List.replicate (b.length+1-i) 0)=X++List.replicate (b.length+1-i) 0:=by rw[←List.append_assoc,List.take_append_drop]
  have e2:(X.take i).length=i:=by simp;omega
  have e3:(X.drop i++List.replicate (b.length+1-i) 0).length=a.length+b.length+1-i:=by simp;omega
  have e4:i+(a.length+b.length+1-i)=a.length+b.length+1:=by omega
  have e5:(X.drop i++List.replicate (b.length+1-i) 0).drop (a.length+1)=List.replicate (b.length+1-(i+1)) 0:=by
   rw[List.drop_append,List.drop_of_length_le (by simp;omega),List.drop_replicate]
   simp only[List.nil_append,List.length_drop]
   congr 1
   omega
  have e6:(X.drop i++List.replicate (b.length+1-i) 0).take a.length=X.drop i:=by
   rw[List.take_append_of_le_length (by simp;omega),List.take_of_length_le (by simp;omega)]
  rw[e1,e2,e3,e4,e5]at hc
  rw[e6]at hm2
  simp only[←List.append_assoc]at hc
  refine⟨(i+1,X.take i++m),⟨h0,by simp only[List.length_append,e2,hm1];omega,?_⟩,by simp only;omega,?_⟩
  ·simp only
   have e7:=zao (X.take i) (X.drop i)
   rw[List.take_append_drop,e2]at e7
   rw[zao,e2,hm2,zae hbg,Nat.mul_add (val a),←hv,e7,Nat.mul_add,Nat.mul_add]
   have e8:4294967296^i*((b[i]'h0).toNat*val a)=val a*(4294967296^i*(b[i]'h0).toNat):=by
    rw[Nat.mul_comm (b[i]'h0).toNat,←Nat.mul_assoc,Nat.mul_comm (4294967296^i) (val a),Nat.mul_assoc]
   rw[e8]
   omega
  ·simp[l60_0,stMul,h0,hw,hc]
 ·right
  have:i=b.length:=by omega
  subst this
  rw[List.take_of_length_le (Nat.le_refl _)]at hv
  refine⟨_,⟨X++List.replicate (b.length+1-b.length) 0,rfl,by simp;omega,by rw[zao,zd2,hv];simp⟩,?_,?_⟩<;>simp[l60_0,stMul]
theorem zet(a b:List UInt32)(ha:a.length≤100000)(hb:b.length≤100000):callF T 60 [.sl (u32s a) .an,.sl (u32s b) .an]=some (.sl (u32s (ofN (val a*val b))) .an):=by
 obtain⟨_,⟨out,rfl,ho,hv⟩,hr⟩:=zzj (T:=T) a b ha hb (0,List.replicate a.length 0) ⟨Nat.zero_le _,by simp,by simp[zd2]⟩
 unfold stMul at hr
 simp at hr
 have hw1:IntKind.wrap .i64 ((a.length:Int)+b.length)=(a.length:Int)+b.length:=zac _ (by omega)
 have hw:IntKind.wrap .i64 ((a.length:Int)+b.length+1)=(a.length:Int)+b.length+1:=zac _ (by omega)
 have hle:(a.length:Int)+b.length+1≤4294967296:=by omega
 have hn:=zbq (T:=T) out (by omega)
 rw[hv]at hn
 have htk:List.take (a.length+b.length+1) out=out:=List.take_of_length_le (by omega)
 have he:a.length+(b.length+1)=a.length+b.length+1:=by omega
 rw[he]at hr
 rw[f60 _ rfl,b60]
 simp[hw,hw1,hle,hr,ho,htk,hn]
end
theorem z39(w:Nat):4294967296^w=2^(32*w):=by
 rw[Nat.pow_mul]
theorem zni(a:List UInt32)(w:Nat)(h:w≤a.length):val a=val (a.take w)+4294967296^w*val (a.drop w):=by
 have:=zao (a.take w) (a.drop w)
 rw[List.take_append_drop,List.length_take,Nat.min_eq_left h]at this
 exact this
theorem z4a(a:List UInt32)(w:Nat)(h:w≤a.length):val a/4294967296^w=val (a.drop w):=by
 have hp:0<4294967296^w:=Nat.pow_pos (by decide)
 have hlt:=zbd (a.take w)
 rw[List.length_take,Nat.min_eq_left h]at hlt
 rw[zni a w h,Nat.add_mul_div_left _ _ hp,Nat.div_eq_of_lt hlt,Nat.zero_add]
theorem z0z{a b n:Nat}(h:a<2^n):a ||| 2^n*b=a+2^n*b:=by
 rw[Nat.or_comm,←Nat.two_pow_add_eq_or_of_lt h,Nat.add_comm]
theorem z4b{x c n:Nat}(hx:x<4294967296)(hn:n<32)(hc:c<2^n) :
  x*2^n<18446744073709551616∧(c ||| x*2^n%4294967296)=c+x*2^n%4294967296∧c+x*2^n%4294967296<4294967296∧x*2^n/4294967296<2^n∧2^n<4294967296:=by
 have hp:2^(n+(32-n))=4294967296:=by rw[show n+(32-n)=32 by omega]
 rw[Nat.pow_add]at hp
 have hq:0<2^n:=Nat.pow_pos (by decide)
 have hr:1<2^(32-n):=Nat.one_lt_two_pow (by omega)
 have e1:x*2^n%4294967296=2^n*(x%2^(32-n)):=by rw[←hp,Nat.mul_comm x,Nat.mul_mod_mul_left]
 have e2:=z0z (b:=x%2^(32-n)) hc
 rw[←e1]at e2
 have hlt:2^n<4294967296:=by
  have h1:=Nat.mul_le_mul_left (2^n) (show 2≤2^(32-n) from hr)
  rw[hp]at h1
  omega
 refine⟨?_,e2,?_,?_,hlt⟩
 ·have:=Nat.mul_lt_mul'' hx hlt
  simpa using this
 ·rw[e1]
  have h1:x%2^(32-n)+1≤2^(32-n):=Nat.mod_lt _ (by omega)
  have h2:=Nat.mul_le_mul_left (2^n) h1
  rw[hp,Nat.mul_add,Nat.mul_one]at h2
  omega
 ·exact Nat.div_lt_of_lt_mul (by rw[Nat.mul_comm x];rw[Nat.mul_comm 4294967296];exact Nat.mul_lt_mul_of_pos_left hx hq)
theorem zwr{x y R b:Nat}(hb:b<32)(hx:x<4294967296) :
  (x+4294967296*(y+4294967296*R))/2^b=(x+y*4294967296)/2^b%4294967296+4294967296*((y+4294967296*R)/2^b):=by
 have hq:0<2^b:=Nat.pow_pos (by decide)
 have h1:(x+4294967296*(y+4294967296*R))/4294967296=y+4294967296*R:=by omega
 have h2:(x+4294967296*(y+4294967296*R))/2^b/4294967296=(y+4294967296*R)/2^b:=by
  rw[Nat.div_div_eq_div_mul,Nat.mul_comm (2^b),←Nat.div_div_eq_div_mul,h1]
 have hp:2^b*2^(32-b)=4294967296:=by rw[←Nat.pow_add,show b+(32-b)=32 by omega]
 have h3:x+4294967296*(y+4294967296*R)=(x+y*4294967296)+2^b*(4294967296*(2^(32-b)*R)):=by
  have:2^b*(4294967296*(2^(32-b)*R))=4294967296*(4294967296*R):=by
   rw[Nat.mul_left_comm,←Nat.mul_assoc (2^b),hp]
  omega
 have h4:(x+4294967296*(y+4294967296*R))/2^b%4294967296=(x+y*4294967296)/2^b%4294967296:=by
  rw[h3,Nat.add_mul_div_left _ _ hq,Nat.add_mul_mod_self_left]
 have h5:=Nat.mod_add_div ((x+4294967296*(y+4294967296*R))/2^b) 4294967296
 rw[h2,h4]at h5
 exact h5.symm
theorem zqa{P m R:List UInt32}{i:Nat}{c:UInt32}(hm:m.length=i):(P++(m++c::R))[P.length+i]? = some c:=by
 grind
theorem zk6{P m R:List UInt32}{i:Nat}{c:UInt32}(w:UInt32)(hm:m.length=i):(P++(m++c::R)).set (P.length+i) w=P++(m++w::R):=by
 rw[List.set_append_right (P.length+i) w (by omega),Nat.add_sub_cancel_left,List.set_append_right i w (by omega),hm,Nat.sub_self,List.set_cons_zero]
theorem zzw{P m R:List UInt32}{i:Nat}{c d:UInt32}(w:UInt32)(hm:m.length=i):(P++(m++c::d::R)).set (P.length+i+1) w=P++(m++c::w::R):=by
 rw[Nat.add_assoc,List.set_append_right (P.length+(i+1)) w (by omega),Nat.add_sub_cancel_left,List.set_append_right (i+1) w (by omega),hm,show i+1-i=1 by omega]
 rfl
theorem zzx{P m R:List UInt32}{i:Nat}{c d:UInt32}(hm:m.length=i):(P++(m++c::d::R))[P.length+i+1]? = some d:=by
 grind
theorem zg3(n:Nat):w32 (n%4294967296)=w32 n:=z0y (by rw[zd1,Nat.mod_mod])
section
variable{T:Tbl}[CNat T][CTwos T]
def stUp(P a:List UInt32)(n:Nat)(y:Nat×Nat×List UInt32):St:=
 ⟨[(5,.i .i64 P.length),(6,.i .i64 n),(7,.bs (.loc 23) 1 1 0 (P.length+a.length+1)),(24,.sl (u32s a) .an),(25,.i .i64 a.length),(26,.i .i64 y.1)],[(.loc 23,⟨1,.own,1,u32s (P++(y.2.2++w32 y.2.1::List.replicate (a.length-y.1) 0))⟩)],3⟩
end
section
variable{T:Tbl}
theorem z36(P a:List UInt32)(n:Nat)(hn:n<32)(hl:P.length+a.length≤1000000):∀y:Nat×Nat×List UInt32,
  (y.1≤a.length∧y.2.1<2^n∧y.2.2.length=y.1∧val y.2.2+4294967296^y.1*y.2.1=2^n*val (a.take y.1)) →
  ∃r,(∃(c:Nat) (m:List UInt32),r=(Ex.n,(⟨[(7,.bs (.loc 23) 1 1 0 (P.length+a.length+1))],[(.loc 23,⟨1,.own,1,u32s (P++(m++[w32 c]))⟩)],3⟩:St)) ∧
   m.length=a.length∧c<2^n∧val m+4294967296^a.length*c=2^n*val a)∧loopN T 0 0 (.norm false [7]) l92_0 (stUp P a n y)=some r:=by
 refine za1 _ _ (fun y=>a.length-y.1) _ ?_
 rintro⟨i,c,m⟩ ⟨hi,hc,hm,hv⟩
 simp only at hi hc hm hv
 by_cases h0:i<a.length
 ·left
  have ha:a[i]? = some (a[i]'h0):=List.getElem?_eq_getElem h0
  obtain⟨u1,u2,u3,u4,u5⟩:=z4b (zaq (a[i]'h0)) hn hc
  have hx:=zaq (a[i]'h0)
  have hrep:List.replicate (a.length-i) (0:UInt32)=0::List.replicate (a.length-(i+1)) 0:=by
   rw[show a.length-i=a.length-(i+1)+1 by omega,List.replicate_succ]
  have hw:IntKind.wrap .i64 ((i:Int)+1)=((i+1:Nat):Int):=zac _ (by omega)
  have hw2:IntKind.wrap .i64 ((P.length:Int)+i)=((P.length+i:Nat):Int):=zac _ (by omega)
  have hw3:IntKind.wrap .i64 ((P.length:Int)+i+1)=((P.length+i+1:Nat):Int):=zac _ (by omega)
  have hg:=zqa (P:=P) (c:=w32 c) (R:=0::List.replicate (a.length-(i+1)) 0) hm
  have hg3:=zzx (P:=P) (c:=w32 (c+(a[i]'h0).toNat*2^n%4294967296)) (d:=0) (R:=List.replicate (a.length-(i+1)) 0) hm
  have hs1:=zk6 (P:=P) (c:=w32 c) (R:=0::List.replicate (a.length-(i+1)) 0) (w32 (c+(a[i]'h0).toNat*2^n%4294967296)) hm
  have hs2:=zzw (P:=P) (c:=w32 (c+(a[i]'h0).toNat*2^n%4294967296)) (d:=0) (R:=List.replicate (a.length-(i+1)) 0) (w32 ((a[i]'h0).toNat*2^n/4294967296)) hm
  have hmin:min n 64=n:=by omega
  have hlt1:(P.length:Int)+i<(P.length:Int)+a.length+1:=by omega
  have hlt2:(P.length:Int)+i<(P.length:Int)+a.length:=by omega
  have m1:(a[i]'h0).toNat%18446744073709551616=(a[i]'h0).toNat:=Nat.mod_eq_of_lt (by omega)
  have m2:=Nat.mod_eq_of_lt u1
  have m3:=Nat.mod_eq_of_lt u3
  have hcc:c<4294967296:=by omega
  have m4:(a[i]'h0).toNat*2^n/4294967296%4294967296=(a[i]'h0).toNat*2^n/4294967296:=Nat.mod_eq_of_lt (by omega)
  have m5:(a[i]'h0).toNat*2^n/4294967296<4294967296:=by omega
  refine⟨(i+1,(a[i]'h0).toNat*2^n/4294967296,m++[w32 (c+(a[i]'h0).toNat*2^n%4294967296)]),⟨h0,u4,by grind,?_⟩,by omega,?_⟩
  ·grind[zao,zae,zaw,zch,zaf,Nat.div_add_mod]
  ·simp -implicitDefEqProofs[l92_0,stUp,h0,hrep,hw,hw2,hw3,hg,hg3,hs1,hs2,zbo _ _ _ u3,zbo _ _ _ m5,hmin,hlt1,hlt2,m1,m2,m3,m4,u2,zaf hcc]
 ·right
  have:i=a.length:=by omega
  subst this
  rw[List.take_of_length_le (Nat.le_refl a.length)]at hv
  refine⟨_,⟨c,m,rfl,hm,hc,hv⟩,?_,?_⟩<;>simp -implicitDefEqProofs[l92_0,stUp]
end
section
variable{T:Tbl}[CNat T][CTwos T]
def stDn(a:List UInt32)(W n:Nat)(y:Nat×List UInt32):St:=
 ⟨[(0,.sl (u32s a) .an),(5,.i .i64 W),(6,.i .i64 n),(7,.bs (.loc 24) 1 1 0 (a.length-W)),(26,.i .i64 (a.length-W:Nat)),(27,.i .i64 y.1)],[(.loc 24,⟨1,.own,1,u32s (y.2++List.replicate (a.length-W-y.1) 0)⟩)],3⟩
end
section
variable{T:Tbl}
theorem zwn(a:List UInt32)(W n:Nat)(hn:n<32)(hW:W≤a.length)(hl:a.length≤1000000):∀y:Nat×List UInt32,
  (y.1≤a.length-W∧y.2.length=y.1∧val y.2+4294967296^y.1*(val (a.drop (W+y.1))/2^n)=val (a.drop W)/2^n) →
  ∃r,(∃m:List UInt32,r=(Ex.n,(⟨[(7,.bs (.loc 24) 1 1 0 (a.length-W))],[(.loc 24,⟨1,.own,1,u32s m⟩)],3⟩:St)) ∧
   m.length=a.length-W∧val m=val (a.drop W)/2^n)∧loopN T 0 0 (.norm false [7]) l94_0 (stDn a W n y)=some r:=by
 refine za1 _ _ (fun y=>a.length-W-y.1) _ ?_
 rintro⟨i,m⟩ ⟨hi,hm,hv⟩
 by_cases h0:i<a.length-W
 ·left
  have hWi:W+i<a.length:=by omega
  have ha:a[W+i]? = some (a[W+i]'hWi):=List.getElem?_eq_getElem hWi
  have hx:=zaq (a[W+i]'hWi)
  have hd:=List.drop_eq_getElem_cons hWi
  have hrep:List.replicate (a.length-W-i) (0:UInt32)=0::List.replicate (a.length-W-(i+1)) 0:=by
   rw[show a.length-W-i=a.length-W-(i+1)+1 by omega,List.replicate_succ]
  have hw:IntKind.wrap .i64 ((i:Int)+1)=((i+1:Nat):Int):=zac _ (by omega)
  have hw2:IntKind.wrap .i64 ((W:Int)+i)=((W+i:Nat):Int):=zac _ (by omega)
  have hw3:IntKind.wrap .i64 ((W:Int)+i+1)=((W+i+1:Nat):Int):=zac _ (by omega)
  have hg:=zqa (P:=[]) (c:=0) (R:=List.replicate (a.length-W-(i+1)) 0) hm
  have hmin:min n 64=n:=by omega
  have hlt1:(W:Int)+i<(a.length:Int):=by omega
  have hlt3:((W:Int)+i).toNat=W+i:=by omega
  have m1:(a[W+i]'hWi).toNat%18446744073709551616=(a[W+i]'hWi).toNat:=Nat.mod_eq_of_lt (by omega)
  have fin:∀y R:Nat,val (a.drop (W+i+1))=y+4294967296*R→val (m++[w32 (((a[W+i]'hWi).toNat+y*4294967296)/2^n%4294967296)])+4294967296^(i+1)*(val (a.drop (W+(i+1)))/2^n)=val (a.drop W)/2^n:=by
   intro y R hR
   have hmod:((a[W+i]'hWi).toNat+y*4294967296)/2^n%4294967296<4294967296:=Nat.mod_lt _ (by decide)
   have hdw:=zwr (x:=(a[W+i]'hWi).toNat) (y:=y) (R:=R) hn hx
   rw[hd,zaw,hR,hdw,←hR]at hv
   grind[zao,zaw,zch,zaf]
  by_cases h1:W+i+1<a.length
  ·have hd1:=List.drop_eq_getElem_cons h1
   have hy:=zaq (a[W+i+1]'h1)
   have m2:(a[W+i+1]'h1).toNat%18446744073709551616=(a[W+i+1]'h1).toNat:=Nat.mod_eq_of_lt (by omega)
   have m3:(a[W+i+1]'h1).toNat*4294967296%18446744073709551616=(a[W+i+1]'h1).toNat*4294967296:=Nat.mod_eq_of_lt (by omega)
   have hor:(a[W+i]'hWi).toNat ||| (a[W+i+1]'h1).toNat*4294967296=(a[W+i]'hWi).toNat+(a[W+i+1]'h1).toNat*4294967296:=by
    have:=z0z (a:=(a[W+i]'hWi).toNat) (b:=(a[W+i+1]'h1).toNat) (n:=32) (by simp)
    grind
   have m4:((a[W+i]'hWi).toNat+(a[W+i+1]'h1).toNat*4294967296)%18446744073709551616=(a[W+i]'hWi).toNat+(a[W+i+1]'h1).toNat*4294967296:=Nat.mod_eq_of_lt (by omega)
   have hs1:=zk6 (P:=[]) (c:=0) (R:=List.replicate (a.length-W-(i+1)) 0) (w32 (((a[W+i]'hWi).toNat+(a[W+i+1]'h1).toNat*4294967296)/2^n%4294967296)) hm
   have hlt2:(W:Int)+i+1<(a.length:Int):=by omega
   have hlt4:((W:Int)+i+1).toNat=W+i+1:=by omega
   refine⟨(i+1,m++[w32 (((a[W+i]'hWi).toNat+(a[W+i+1]'h1).toNat*4294967296)/2^n%4294967296)]),⟨h0,by grind,fin _ (val (a.drop (W+i+1+1))) (by rw[hd1,zaw])⟩,by omega,?_⟩
   simp at hg
   simp[zg3]at hs1
   simp -implicitDefEqProofs[l94_0,stDn,h0,ha,hrep,hw,hw2,hw3,hg,hs1,zg3,hmin,hlt1,hlt2,hlt3,hlt4,m1,m2,m3,m4,hor,h1]
  ·have hs1:=zk6 (P:=[]) (c:=0) (R:=List.replicate (a.length-W-(i+1)) 0) (w32 ((a[W+i]'hWi).toNat/2^n%4294967296)) hm
   have hlt2:¬ (W:Int)+i+1<(a.length:Int):=by omega
   have f0:=fin 0 0 (by rw[List.drop_of_length_le (by omega),zch,Nat.mul_zero])
   refine⟨(i+1,m++[w32 ((a[W+i]'hWi).toNat/2^n%4294967296)]),⟨h0,by grind,f0⟩,by omega,?_⟩
   simp at hg
   simp[zg3]at hs1
   simp -implicitDefEqProofs[l94_0,stDn,h0,ha,hrep,hw,hw2,hw3,hg,hs1,zg3,hmin,hlt1,hlt2,hlt3,m1]
 ·right
  have:i=a.length-W:=by omega
  subst this
  rw[show W+(a.length-W)=a.length by omega,List.drop_length,zch,Nat.zero_div,Nat.mul_zero,Nat.add_zero]at hv
  refine⟨_,⟨m++List.replicate (a.length-W-(a.length-W)) 0,rfl,by grind,by grind⟩,?_,?_⟩<;>simp -implicitDefEqProofs[l94_0,stDn]
end
section
variable{T:Tbl}[CNat T][CTwos T]
theorem zwo(a:List UInt32)(n:Nat)(h:n/32≤a.length):val (a.drop (n/32))/2^(n%32)=val a/2^n:=by
 rw[←z4a a _ h,Nat.div_div_eq_div_mul,z39,←Nat.pow_add,show 32*(n/32)+n%32=n by omega]
theorem zwp(a:List UInt32)(n:Nat)(hn:n≤100000000)(hl:a.length≤100000):callF T 94 [.sl (u32s a) .an,.i .i64 n]=some (.sl (u32s (ofN (val a/2^n))) .an):=by
 have hn2:¬ (n:Int)<0:=by omega
 have hq:(n:Int).tdiv 32=(n:Int)/32:=Int.tdiv_eq_ediv_of_nonneg (by omega)
 have hm2:(n:Int).tmod 32=(n:Int)%32:=Int.tmod_eq_emod_of_nonneg (by omega)
 have w1:IntKind.wrap .i64 ((n:Int)/32)=(n:Int)/32:=zac (n/32) (by omega)
 rcases Nat.lt_or_ge (n/32) a.length with h0 | h0
 ·obtain⟨_,⟨m,rfl,hm,hv⟩,hr⟩:=zwn (T:=T) a (n/32) (n%32) (Nat.mod_lt _ (by decide)) (by omega) (by omega) (0,[]) ⟨Nat.zero_le _,rfl,by rw[zch,Nat.pow_zero,Nat.one_mul,Nat.zero_add,Nat.add_zero]⟩
  rw[zwo a n (by omega)]at hv
  have hnm:=zbq (T:=T) m (by omega)
  rw[hv]at hnm
  unfold stDn at hr
  have hsub:((a.length-n/32:Nat):Int)=(a.length:Int)-(n:Int)/32:=by omega
  simp[hsub]at hr
  have p0:¬ (a.length:Int)≤(n:Int)/32:=by omega
  have w2:IntKind.wrap .i64 ((a.length:Int)-(n:Int)/32)=(a.length:Int)-(n:Int)/32:=zac _ (by omega)
  have p1:(n:Int)/32≤(a.length:Int):=by omega
  have p2:(a.length:Int)-(n:Int)/32≤4294967296:=by omega
  have p3:((a.length:Int)-(n:Int)/32).toNat=a.length-n/32:=by omega
  have htk:List.take (a.length-n/32) m=m:=List.take_of_length_le (by omega)
  have p5:a.length≤a.length-n/32+n/32:=by omega
  rw[f94 _ rfl,b94]
  simp -implicitDefEqProofs[hn2,hq,hm2,w1,w2,p0,p5,p1,p2,p3,hsub,hr,hnm,htk,hm]
 ·have hz:val a/2^n=0:=by
   refine Nat.div_eq_of_lt (Nat.lt_of_lt_of_le (zbd a) ?_)
   rw[z39]
   exact Nat.pow_le_pow_right (by decide) (by omega)
  have p0:(a.length:Int)≤(n:Int)/32:=by omega
  rw[hz,zk7,f94 _ rfl,b94]
  simp -implicitDefEqProofs[hn2,hq,hm2,w1,p0]
end
def l90_0:AX:=
 (.note
 (.seq
 (.seq
 (.reg [mv 16 7,rg 17 (.bin .geq (.t 16) (.c (.i .i64 0)))])
 (.cond (.t 17)
 .skip
 (.exit 0)))
 (.seq
 (.block 1
 (.reg [mv 21 4,mv 22 7,mv 23 5,mv 24 0,mv 25 7,rg 26 (.iad 1 (.t 24) (.t 25)),rg 27 (.load none (.t 26)),mv 28 1,rg 29 (.call 118 [(.t 23),(.t 27),(.t 28)]),mv 20 29,rg 30 (.ext (.t 20) 0),rg 31 (.ext (.t 20) 1),rg 32 (.ext (.t 20) 2),rg 33 (.iad 1 (.t 21) (.t 22)),so (.store 1 (.t 33) (.t 30)),mv 5 31]))
 (.reg [mv 18 7,rg 19 (.bin .sub (.t 18) (.c (.i .i64 1))),mv 7 19])))
 (.norm false [0,1,4,5,7]))
def b90:AX:=
 (.seq
 (.reg [rg 4 (.mov (.c (.sl [] .nl))),rg 5 (.mov (.c (u32 0))),rg 6 (.mov (.c (.b false)))])
 (.seq
 (.seq
 (.reg [mv 8 1,rg 9 (.bin .eql (.t 8) (.c (u32 0)))])
 (.cond (.t 9)
 (.seq
 (.reg [rg 4 (.mov (.c (.sl [] .nl))),rg 5 (.mov (.c (u32 0))),rg 6 (.mov (.c (.b false)))])
 (.pre (.norm false [4,5,6]) .ret))
 .skip))
 (.seq
 (.reg [mv 10 0,rg 11 (.len (.t 10)),rg 12 (.mks 1 [(u32 0)] (.t 11) (.t 11)),mv 4 12])
 (.seq
 (.seq
 (.reg [mv 13 0,rg 14 (.len (.t 13)),rg 15 (.bin .sub (.t 14) (.c (.i .i64 1))),mv 7 15])
 (.lp 0 (.norm false [0,1,4,5,7]) l90_0 (.norm false [4,5])))
 (.seq
 (.reg [mv 34 4,rg 35 (.call 71 [(.t 34)]),mv 36 5,mv 4 35,mv 5 36,rg 6 (.mov (.c (.b true)))])
 (.pre (.norm false [4,5,6]) .ret))))))
def l119_0:AX:=
 (.note
 (.block 1
 (.seq
 (.reg [mv 46 11,mv 47 4,rg 48 (.call 117 [(.t 46),(.t 47),(.c (u32 0)),(.c (u32 0))]),mv 45 48,rg 49 (.ext (.t 45) 0),rg 50 (.ext (.t 45) 1),mv 16 49,mv 17 50])
 (.seq
 (.seq
 (.reg [mv 51 16,mv 52 12,rg 53 (.bin .lss (.t 51) (.t 52)),mv 54 53,gd 55 54 false (.mov (.t 16)),gd 56 54 false (.mov (.t 12)),gd 57 54 false (.bin .eql (.t 55) (.t 56)),gd 58 54 false (.mov (.t 57)),gd 59 58 true (.mov (.t 17)),gd 60 58 true (.mov (.t 2)),gd 61 58 true (.bin .leq (.t 59) (.t 60)),gd 62 54 false (.pick (.t 58) (.t 61) (.c (.b false))),rg 63 (.pick (.t 54) (.c (.b true)) (.t 62))])
 (.cond (.t 63)
 (.exit 0)
 .skip))
 (.seq
 (.reg [mv 64 11,rg 65 (.bin .sub (.t 64) (.c (u32 1))),mv 11 65])
 (.seq
 (.reg [mv 67 12,mv 68 3,rg 69 (.call 115 [(.t 67),(.t 68),(.c (u32 0))]),mv 66 69,rg 70 (.ext (.t 66) 0),rg 71 (.ext (.t 66) 1),mv 18 70,mv 19 71])
 (.seq
 (.seq
 (.reg [mv 72 19,rg 73 (.bin .gtr (.t 72) (.c (u32 0)))])
 (.cond (.t 73)
 (.exit 0)
 .skip))
 (.reg [mv 74 18,mv 12 74])))))))
 (.norm false [2,3,4,11,12]))
def b119:AX:=
 (.seq
 (.reg [rg 10 (.mov (.c (u32 0)))])
 (.scope
 (.seq
 (.reg [mv 21 0,mv 22 1,mv 23 3,rg 24 (.call 118 [(.t 21),(.t 22),(.t 23)]),mv 20 24,rg 25 (.ext (.t 20) 0),rg 26 (.ext (.t 20) 1),rg 27 (.ext (.t 20) 2),mv 11 25,mv 12 26,mv 13 27])
 (.seq
 (.seq
 (.reg [mv 28 13,rg 29 (.un .not (.t 28))])
 (.cond (.t 29)
 (.seq
 (.reg [rg 11 (.mov (.c (u32 4294967295)))])
 (.seq
 (.reg [mv 31 1,mv 32 3,rg 33 (.call 115 [(.t 31),(.t 32),(.c (u32 0))]),mv 30 33,rg 34 (.ext (.t 30) 0),rg 35 (.ext (.t 30) 1),mv 14 34,mv 15 35])
 (.seq
 (.seq
 (.reg [mv 36 0,mv 37 3,rg 38 (.bin .gtr (.t 36) (.t 37)),mv 39 38,gd 40 39 false (.mov (.t 15)),gd 41 39 false (.bin .gtr (.t 40) (.c (u32 0))),rg 42 (.pick (.t 39) (.c (.b true)) (.t 41))])
 (.cond (.t 42)
 (.seq
 (.reg [mv 43 11,mv 10 43])
 (.pre (.norm false [10]) .ret))
 .skip))
 (.reg [mv 44 14,mv 12 44]))))
 .skip))
 (.seq
 (.label 0)
 (.seq
 (.lp 0 (.norm false [2,3,4,11,12]) l119_0 (.norm false [11]))
 (.seq
 (.reg [mv 75 11,mv 10 75])
 (.pre (.norm false [10]) .ret))))))))
def l120_0:AX:=
 (.note
 (.seq
 (.reg [rg 18 (.bin .lss (.t 17) (.t 16))])
 (.seq
 (.cond (.t 18)
 .skip
 (.exit 0))
 (.seq
 (.block 1
 (.seq
 (.reg [mv 19 17,rg 20 (.iad 1 (.t 15) (.t 17)),rg 21 (.load none (.t 20)),mv 11 19,mv 12 21])
 (.seq
 (.reg [rg 13 (.mov (.c (u32 0)))])
 (.seq
 (.reg [mv 23 3,mv 24 12,mv 25 9,rg 26 (.call 117 [(.t 23),(.t 24),(.t 25),(.c (u32 0))]),mv 22 26,rg 27 (.ext (.t 22) 0),rg 28 (.ext (.t 22) 1),mv 9 27,mv 13 28])
 (.reg [mv 30 0,mv 31 1,mv 32 11,rg 33 (.bin .add (.t 31) (.t 32)),mv 34 0,mv 35 1,mv 36 11,rg 37 (.bin .add (.t 35) (.t 36)),rg 38 (.iad 1 (.t 34) (.t 37)),rg 39 (.load none (.t 38)),mv 40 13,mv 41 10,rg 42 (.call 116 [(.t 39),(.t 40),(.t 41)]),mv 29 42,rg 43 (.ext (.t 29) 0),rg 44 (.ext (.t 29) 1),rg 45 (.iad 1 (.t 30) (.t 33)),so (.store 1 (.t 45) (.t 43)),mv 10 44])))))
 (.reg [rg 46 (.bin .add (.t 17) (.c (.i .i64 1))),mv 17 46]))))
 (.norm false [0,1,2,3,9,10,15,16,17]))
def b120:AX:=
 (.seq
 (.reg [rg 8 (.mov (.c (.b false)))])
 (.seq
 (.reg [rg 9 (.mov (.c (u32 0))),rg 10 (.mov (.c (u32 0)))])
 (.seq
 (.seq
 (.reg [mv 15 2,rg 16 (.len (.t 15)),rg 17 (.mov (.c (.i .i64 0)))])
 (.lp 0 (.norm false [0,1,2,3,9,10,15,16,17]) l120_0 (.norm false [0,1,2,9,10])))
 (.seq
 (.reg [mv 47 1,mv 48 2,rg 49 (.len (.t 48)),rg 50 (.bin .add (.t 47) (.t 49)),mv 14 50])
 (.seq
 (.reg [mv 52 0,mv 53 14,mv 54 0,mv 55 14,rg 56 (.iad 1 (.t 54) (.t 55)),rg 57 (.load none (.t 56)),mv 58 9,mv 59 10,rg 60 (.call 116 [(.t 57),(.t 58),(.t 59)]),mv 51 60,rg 61 (.ext (.t 51) 0),rg 62 (.ext (.t 51) 1),rg 63 (.iad 1 (.t 52) (.t 53)),so (.store 1 (.t 63) (.t 61)),mv 10 62])
 (.seq
 (.reg [mv 64 10,rg 65 (.bin .gtr (.t 64) (.c (u32 0))),mv 8 65])
 (.pre (.norm false [8]) .ret)))))))
def l121_0:AX:=
 (.note
 (.seq
 (.reg [rg 12 (.bin .lss (.t 11) (.t 10))])
 (.seq
 (.cond (.t 12)
 .skip
 (.exit 0))
 (.seq
 (.block 1
 (.seq
 (.reg [mv 13 11,rg 14 (.iad 1 (.t 9) (.t 11)),rg 15 (.load none (.t 14)),mv 7 13,mv 8 15])
 (.reg [mv 17 0,mv 18 1,mv 19 7,rg 20 (.bin .add (.t 18) (.t 19)),mv 21 0,mv 22 1,mv 23 7,rg 24 (.bin .add (.t 22) (.t 23)),rg 25 (.iad 1 (.t 21) (.t 24)),rg 26 (.load none (.t 25)),mv 27 8,mv 28 6,rg 29 (.call 115 [(.t 26),(.t 27),(.t 28)]),mv 16 29,rg 30 (.ext (.t 16) 0),rg 31 (.ext (.t 16) 1),rg 32 (.iad 1 (.t 17) (.t 20)),so (.store 1 (.t 32) (.t 30)),mv 6 31])))
 (.reg [rg 33 (.bin .add (.t 11) (.c (.i .i64 1))),mv 11 33]))))
 (.norm false [0,1,2,6,9,10,11]))
def b121:AX:=
 (.seq
 (.reg [rg 6 (.mov (.c (u32 0)))])
 (.seq
 (.seq
 (.reg [mv 9 2,rg 10 (.len (.t 9)),rg 11 (.mov (.c (.i .i64 0)))])
 (.lp 0 (.norm false [0,1,2,6,9,10,11]) l121_0 (.norm false [0,1,2,6])))
 (.reg [mv 34 0,mv 35 1,mv 36 2,rg 37 (.len (.t 36)),rg 38 (.bin .add (.t 35) (.t 37)),rg 39 (.iad 1 (.t 34) (.t 38)),rg 40 (.load none (.t 39)),mv 41 6,rg 42 (.bin .add (.t 40) (.t 41)),rg 43 (.iad 1 (.t 34) (.t 38)),so (.store 1 (.t 43) (.t 42))])))
def l93_0:AX:=
 (.note
 (.seq
 (.seq
 (.reg [mv 19 7,rg 20 (.bin .geq (.t 19) (.c (.i .i64 0)))])
 (.cond (.t 20)
 .skip
 (.exit 0)))
 (.seq
 (.block 1
 (.seq
 (.drawT [mv 23 0,mv 24 7,mv 25 5,rg 26 (.bin .add (.t 24) (.t 25)),rg 27 (.iad 1 (.t 23) (.t 26)),rg 28 (.load none (.t 27)),mv 29 0,mv 30 7,mv 31 5,rg 32 (.bin .add (.t 30) (.t 31)),rg 33 (.bin .sub (.t 32) (.c (.i .i64 1))),rg 34 (.iad 1 (.t 29) (.t 33)),rg 35 (.load none (.t 34)),mv 36 0,mv 37 7,mv 38 5,rg 39 (.bin .add (.t 37) (.t 38)),rg 40 (.bin .sub (.t 39) (.c (.i .i64 2))),rg 41 (.iad 1 (.t 36) (.t 40)),rg 42 (.load none (.t 41)),mv 43 1,mv 44 5,rg 45 (.bin .sub (.t 44) (.c (.i .i64 1))),rg 46 (.iad 1 (.t 43) (.t 45)),rg 47 (.load none (.t 46)),mv 48 1,mv 49 5,rg 50 (.bin .sub (.t 49) (.c (.i .i64 2))),rg 51 (.iad 1 (.t 48) (.t 50)),rg 52 (.load none (.t 51))]
 [rg 53 (.call 119 [(.t 28),(.t 35),(.t 42),(.t 47),(.t 52)]),mv 8 53])
 (.seq
 (.seq
 (.reg [mv 54 0,mv 55 7,mv 56 1,mv 57 8,rg 58 (.call 120 [(.t 54),(.t 55),(.t 56),(.t 57)])])
 (.cond (.t 58)
 (.seq
 (.reg [mv 59 8,rg 60 (.bin .sub (.t 59) (.c (u32 1))),mv 8 60])
 (.reg [mv 61 0,mv 62 7,mv 63 1,rg 64 (.call 121 [(.t 61),(.t 62),(.t 63)])]))
 .skip))
 (.reg [mv 65 6,mv 66 7,mv 67 8,rg 68 (.iad 1 (.t 65) (.t 66)),so (.store 1 (.t 68) (.t 67))]))))
 (.reg [mv 21 7,rg 22 (.bin .sub (.t 21) (.c (.i .i64 1))),mv 7 22])))
 (.norm false [0,1,5,6,7]))
def b93:AX:=
 (.seq
 (.reg [rg 4 (.mov (.c (.sl [] .nl)))])
 (.seq
 (.reg [mv 9 1,rg 10 (.len (.t 9)),mv 5 10])
 (.seq
 (.reg [mv 11 0,rg 12 (.len (.t 11)),mv 13 5,rg 14 (.bin .sub (.t 12) (.t 13)),rg 15 (.mks 1 [(u32 0)] (.t 14) (.t 14)),mv 6 15])
 (.seq
 (.seq
 (.reg [mv 16 6,rg 17 (.len (.t 16)),rg 18 (.bin .sub (.t 17) (.c (.i .i64 1))),mv 7 18])
 (.lp 0 (.norm false [0,1,5,6,7]) l93_0 (.norm false [6])))
 (.seq
 (.reg [mv 69 6,mv 4 69])
 (.pre (.norm false [4]) .ret))))))
class CQuot (T:Tbl):Prop where
 h90:T 90=some ⟨2,37,[.t 4,.t 5,.t 6],b90,none,false⟩
 h119:T 119=some ⟨5,76,[.t 10],b119,none,false⟩
 h120:T 120=some ⟨4,66,[.t 8],b120,(some [true,false,false,false]),false⟩
 h121:T 121=some ⟨3,44,[],b121,(some [true,false,false]),false⟩
 h93:T 93=some ⟨2,70,[.t 4],b93,(some [true,false]),false⟩
section
variable{T:Tbl}[CQuot T]{d:Option Nat}{st:St}
@[simp] theorem x90(xs:List AV):callX (orc T) T 90 xs d st=cP T 90 false xs d st:=zaa CQuot.h90
theorem f90(xs:List AV)(hn:xs.length=2):callF T 90 xs=retF [.t 4,.t 5,.t 6] false (evX (orc T) T 0 b90 ⟨argEnv xs,[],1⟩):=zab CQuot.h90 hn
@[simp] theorem x119(xs:List AV):callX (orc T) T 119 xs d st=cP T 119 false xs d st:=zaa CQuot.h119
theorem f119(xs:List AV)(hn:xs.length=5):callF T 119 xs=retF [.t 10] false (evX (orc T) T 0 b119 ⟨argEnv xs,[],1⟩):=zab CQuot.h119 hn
@[simp] theorem x120(xs:List AV):callX (orc T) T 120 xs d st=bL (frzM st.heap [true,false,false,false] xs) fun ys=>lentX ys (shareIds (refsM [true,false,false,false] xs) st.heap) (reach (shareIds (refsM [true,false,false,false] xs) st.heap) 40 (rootsM [true,false,false,false] xs) []) T 120 false d st:=zan CQuot.h120
theorem f120(xs:List AV)(hb:Heap)(hn:xs.length=4):callH T 120 xs hb=retH [.t 8] false hb.length (evX (orc T) T hb.length b120 ⟨argEnv xs,hb,hb.length+1⟩):=zau CQuot.h120 hn
@[simp] theorem x121(xs:List AV):callX (orc T) T 121 xs d st=bL (frzM st.heap [true,false,false] xs) fun ys=>lentX ys (shareIds (refsM [true,false,false] xs) st.heap) (reach (shareIds (refsM [true,false,false] xs) st.heap) 40 (rootsM [true,false,false] xs) []) T 121 false d st:=zan CQuot.h121
theorem f121(xs:List AV)(hb:Heap)(hn:xs.length=3):callH T 121 xs hb=retH [] false hb.length (evX (orc T) T hb.length b121 ⟨argEnv xs,hb,hb.length+1⟩):=zau CQuot.h121 hn
@[simp] theorem x93(xs:List AV):callX (orc T) T 93 xs d st=bL (frzM st.heap [true,false] xs) fun ys=>lentX ys (shareIds (refsM [true,false] xs) st.heap) (reach (shareIds (refsM [true,false] xs) st.heap) 40 (rootsM [true,false] xs) []) T 93 false d st:=zan CQuot.h93
theorem f93(xs:List AV)(hb:Heap)(hn:xs.length=2):callH T 93 xs hb=retH [.t 4] false hb.length (evX (orc T) T hb.length b93 ⟨argEnv xs,hb,hb.length+1⟩):=zau CQuot.h93 hn
end
theorem zk1{m:List UInt32}{j:Nat}(w:UInt32):(List.replicate (j+1) 0++m).set j w=List.replicate j 0++w::m:=by
 rw[List.set_append_left j w (by simp),List.replicate_succ',List.set_append_right j w (by simp)]
 simp
theorem zk2{m:List UInt32}{j:Nat}:(List.replicate (j+1) (0:UInt32)++m)[j]? = some 0:=by
 rw[List.getElem?_append_left (by simp),List.getElem?_replicate,if_pos (by omega)]
section
variable{T:Tbl}[CNat T][CTwos T][CProd T][CQuot T]
def stWd(a:List UInt32)(x:Nat)(y:Nat×Nat×List UInt32):St:=
 ⟨[(0,.sl (u32s a) .an),(1,u32 x),(4,.bs (.loc 12) 1 1 0 a.length),(5,u32 y.2.1),(7,.i .i64 ((y.1:Int)-1))],[(.loc 12,⟨1,.own,1,u32s (List.replicate y.1 0++y.2.2)⟩)],3⟩
end
section
variable{T:Tbl}[CNat T]
theorem z3o(a:List UInt32)(x:Nat)(hx:x<4294967296)(hl:a.length≤1000000):∀y:Nat×Nat×List UInt32,
  (y.1≤a.length∧y.2.1<x∧y.2.2.length=a.length-y.1∧val (a.drop y.1)=x*val y.2.2+y.2.1) →
  ∃r,(∃(c:Nat) (m:List UInt32),r=(Ex.n,(⟨[(4,.bs (.loc 12) 1 1 0 a.length),(5,u32 c)],[(.loc 12,⟨1,.own,1,u32s m⟩)],3⟩:St)) ∧
   m.length=a.length∧c<x∧val a=x*val m+c)∧loopN T 0 0 (.norm false [4,5]) l90_0 (stWd a x y)=some r:=by
 refine za1 _ _ (fun y=>y.1) _ ?_
 rintro⟨k,c,m⟩ ⟨hk,hc,hm,hv⟩
 simp only at hk hc hm hv
 cases k with
 | zero=>
  right
  refine⟨_,⟨c,m,rfl,by omega,hc,hv⟩,?_,?_⟩<;>simp -implicitDefEqProofs[l90_0,stWd]
 | succ j=>
  left
  have hja:j<a.length:=by omega
  have hy:=zaq (a[j]'hja)
  have hd:=List.drop_eq_getElem_cons hja
  have hw:IntKind.wrap .i64 ((j:Int)-1)=(j:Int)-1:=zac _ (by omega)
  have hs:=zk1 (m:=m) (j:=j) (w32 ((c*4294967296+(a[j]'hja).toNat)/x))
  have hq:(c*4294967296+(a[j]'hja).toNat)/x<4294967296:=by
   refine Nat.div_lt_of_lt_mul ?_
   omega
  have hdv:=zmz (T:=T) c (a[j]'hja).toNat x hc hy hx
  refine⟨(j,(c*4294967296+(a[j]'hja).toNat)%x,w32 ((c*4294967296+(a[j]'hja).toNat)/x)::m),⟨by omega,Nat.mod_lt _ (by omega),by grind,?_⟩,Nat.lt_succ_self j,?_⟩
  ·grind[zaw,zaf,Nat.div_add_mod]
  ·simp -implicitDefEqProofs[l90_0,stWd,hja,hw,hs,zk2,hdv,zbo _ _ _ hq]
end
section
variable{T:Tbl}[CNat T][CQuot T]
theorem zvp(a:List UInt32)(x:Nat)(hx:x<4294967296)(h0:0<x)(hl:a.length≤1000000) :
  callF T 90 [.sl (u32s a) .an,u32 x]=some (.tup [.sl (u32s (ofN (val a/x))) .an,u32 (val a%x),.b true]):=by
 obtain⟨_,⟨c,m,rfl,hm,hc,hv⟩,hr⟩:=z3o (T:=T) a x hx hl (a.length,0,[]) ⟨Nat.le_refl _,h0,by simp,by rw[List.drop_length,zch,Nat.mul_zero,Nat.zero_add]⟩
 have e1:val a/x=val m:=by grind[Nat.mul_add_div,Nat.div_eq_of_lt]
 have e2:val a%x=c:=by rw[hv,Nat.mul_add_mod,Nat.mod_eq_of_lt hc]
 have hnm:=zbq (T:=T) m (by omega)
 unfold stWd at hr
 simp at hr
 have hx0:x≠0:=by omega
 have w1:IntKind.wrap .i64 ((a.length:Int)-1)=(a.length:Int)-1:=zac _ (by omega)
 have p1:(a.length:Int)≤4294967296:=by omega
 have htk:List.take a.length m=m:=List.take_of_length_le (by omega)
 rw[e1,e2,f90 _ rfl,b90]
 simp -implicitDefEqProofs[hr,hx0,w1,p1,htk,hm,hnm]
end
section
variable{T:Tbl}[CNat T][CTwos T][CProd T][CQuot T]
theorem zm6{p M w X s t y v D D':Nat}(h:M+X*t=s+p*D)(e:w+X*y+D=v+4294967296*D'):(M+p*w)+X*(t+p*y)=(s+p*v)+p*4294967296*D':=by
 grind
def stTk(P S b:List UInt32)(x:Nat)(y:Nat×(Nat×Nat)×List UInt32):St:=
 ⟨[(0,.bs (.bor 0) 0 1 0 (P.length+S.length)),(1,.i .i64 P.length),(2,.sl (u32s b) .an),(3,u32 x),(9,u32 y.2.1.1),(10,u32 y.2.1.2),(15,.sl (u32s b) .an),(16,.i .i64 b.length),(17,.i .i64 y.1)],
  [(.bor 0,⟨0,.own,1,u32s (P++(y.2.2++S.drop y.1))⟩)],4⟩
end
section
variable{T:Tbl}[CNat T]
theorem z3p(P S b:List UInt32)(x:Nat)(hx:x<4294967296)(hS:b.length<S.length)(hl:P.length+S.length≤1000000):∀y:Nat×(Nat×Nat)×List UInt32,
  (y.1≤b.length∧y.2.1.1<4294967296∧y.2.1.2≤1∧y.2.2.length=y.1∧val y.2.2+x*val (b.take y.1)=val (S.take y.1)+4294967296^y.1*(y.2.1.2+y.2.1.1)) →
  ∃r,(∃(C B:Nat) (m:List UInt32),r=(Ex.n,(⟨[(0,.bs (.bor 0) 0 1 0 (P.length+S.length)),(1,.i .i64 P.length),(2,.sl (u32s b) .an),(9,u32 C),(10,u32 B)],[(.bor 0,⟨0,.own,1,u32s (P++(m++S.drop b.length))⟩)],4⟩:St)) ∧
   C<4294967296∧B≤1∧m.length=b.length∧val m+x*val b=val (S.take b.length)+4294967296^b.length*(B+C))∧loopN T 1 0 (.norm false [0,1,2,9,10]) l120_0 (stTk P S b x y)=some r:=by
 refine za1 _ _ (fun y=>b.length-y.1) _ ?_
 rintro⟨i,⟨C,B⟩,m⟩ ⟨hi,hC,hB,hm,hv⟩
 simp only at hi hC hB hm hv
 by_cases h0:i<b.length
 ·left
  have hb:b[i]? = some (b[i]'h0):=List.getElem?_eq_getElem h0
  have hiS:i<S.length:=by omega
  have hs:S[i]? = some (S[i]'hiS):=List.getElem?_eq_getElem hiS
  have hg:=zge (P:=P) hm hiS
  have hw:IntKind.wrap .i64 ((i:Int)+1)=((i+1:Nat):Int):=zac _ (by omega)
  have hw2:IntKind.wrap .i64 ((P.length:Int)+i)=((P.length+i:Nat):Int):=zac _ (by omega)
  have hlt2:(P.length:Int)+i<(P.length:Int)+S.length:=by omega
  have hlb:=zaq (b[i]'h0)
  have hls:=zaq (S[i]'hiS)
  have hmul:=zj2 hx hlb
  have c1:=zig (T:=T) x (b[i]'h0).toNat C 0 hx hlb hC (by decide)
  rw[Nat.add_zero]at c1
  obtain⟨lo,hlo⟩:∃lo,lo=(x*(b[i]'h0).toNat+C)%4294967296:=⟨_,rfl⟩
  obtain⟨C',hC'⟩:∃C',C'=(x*(b[i]'h0).toNat+C)/4294967296:=⟨_,rfl⟩
  rw[←hlo,←hC']at c1
  have c2:=zft (T:=T) (S[i]'hiS).toNat lo B hls (by omega) (by omega)
  obtain⟨w,hwd⟩:∃w,w=((S[i]'hiS).toNat+8589934592-(lo+B))%4294967296:=⟨_,rfl⟩
  obtain⟨B',hB'⟩:∃B',B'=2-((S[i]'hiS).toNat+8589934592-(lo+B))/4294967296:=⟨_,rfl⟩
  rw[←hwd,←hB']at c2
  have hwl:w<4294967296:=by omega
  have hset:=zgf (P:=P) (w32 w) hm hiS
  refine⟨(i+1,(C',B'),m++[w32 w]),⟨h0,by grind,by simp only;omega,by grind,?_⟩,by omega,?_⟩
  ·simp only
   rw[zao,zae hb,zae hs,Nat.pow_succ,hm,zaw,zch,Nat.mul_zero,Nat.add_zero,zaf hwl]
   exact zm6 hv (by omega)
  ·simp -implicitDefEqProofs[l120_0,stTk,h0,hw,hw2,hlt2,hg,c1,c2,hset,zbo _ _ _ hwl]
 ·right
  have:i=b.length:=by omega
  subst this
  rw[List.take_of_length_le (Nat.le_refl b.length)]at hv
  refine⟨_,⟨C,B,m,rfl,hC,hB,hm,hv⟩,?_,?_⟩<;>simp -implicitDefEqProofs[l120_0,stTk]
end
section
variable{T:Tbl}[CNat T][CQuot T]
theorem zvq(P S b:List UInt32)(x:Nat)(hx:x<4294967296)(hS:b.length<S.length)(hl:P.length+S.length≤1000000) :
  ∃(B:Nat) (m:List UInt32),B≤1∧m.length=b.length+1∧val m+x*val b=val (S.take (b.length+1))+4294967296^(b.length+1)*B ∧
   callH T 120 [.bs (.bor 0) 0 1 0 (P.length+S.length),.i .i64 P.length,.sl (u32s b) .an,u32 x] [(.bor 0,⟨0,.own,1,u32s (P++S)⟩)] =
    some (.b (decide (0<B)),[(.bor 0,⟨0,.own,1,u32s (P++(m++S.drop (b.length+1)))⟩)]):=by
 obtain⟨_,⟨C,B,m,rfl,hC,hB,hm,hv⟩,hr⟩:=z3p (T:=T) P S b x hx hS hl (0,(0,0),[]) ⟨Nat.zero_le _,Nat.zero_lt_succ _,Nat.zero_le _,rfl,by simp⟩
 unfold stTk at hr
 simp at hr
 have hs:S[b.length]? = some (S[b.length]'hS):=List.getElem?_eq_getElem hS
 have hls:=zaq (S[b.length]'hS)
 have hg:=zge (P:=P) hm hS
 have hw2:IntKind.wrap .i64 ((P.length:Int)+b.length)=((P.length+b.length:Nat):Int):=zac _ (by omega)
 have hlt2:(P.length:Int)+b.length<(P.length:Int)+S.length:=by omega
 have c2:=zft (T:=T) (S[b.length]'hS).toNat C B hls hC (by omega)
 obtain⟨w,hwd⟩:∃w,w=((S[b.length]'hS).toNat+8589934592-(C+B))%4294967296:=⟨_,rfl⟩
 obtain⟨B',hB'⟩:∃B',B'=2-((S[b.length]'hS).toNat+8589934592-(C+B))/4294967296:=⟨_,rfl⟩
 rw[←hwd,←hB']at c2
 have hwl:w<4294967296:=by omega
 have hset:=zgf (P:=P) (w32 w) hm hS
 refine⟨B',m++[w32 w],by omega,by grind,?_,?_⟩
 ·rw[zao,zae hs,Nat.pow_succ,hm,zaw,zch,Nat.mul_zero,Nat.add_zero,zaf hwl]
  have:=zm6 (y:=0) (w:=w) (v:=(S[b.length]'hS).toNat) (D':=B') hv (by omega)
  omega
 ·rw[f120 _ _ rfl,b120]
  simp -implicitDefEqProofs[hr,hw2,hlt2,hg,c2,hset,zbo _ _ _ hwl]
end
section
variable{T:Tbl}[CNat T][CTwos T][CProd T][CQuot T]
theorem zm7{p M w s t y v D D':Nat}(h:M+p*D=s+t)(e:w+4294967296*D'=v+y+D):(M+p*w)+p*4294967296*D'=(s+p*v)+(t+p*y):=by
 grind
def stGv(P S b:List UInt32)(y:Nat×Nat×List UInt32):St:=
 ⟨[(0,.bs (.bor 0) 0 1 0 (P.length+S.length)),(1,.i .i64 P.length),(2,.sl (u32s b) .an),(6,u32 y.2.1),(9,.sl (u32s b) .an),(10,.i .i64 b.length),(11,.i .i64 y.1)],
  [(.bor 0,⟨0,.own,1,u32s (P++(y.2.2++S.drop y.1))⟩)],4⟩
end
section
variable{T:Tbl}[CNat T]
theorem z3q(P S b:List UInt32)(hS:b.length<S.length)(hl:P.length+S.length≤1000000):∀y:Nat×Nat×List UInt32,
  (y.1≤b.length∧y.2.1≤1∧y.2.2.length=y.1∧val y.2.2+4294967296^y.1*y.2.1=val (S.take y.1)+val (b.take y.1)) →
  ∃r,(∃(C:Nat) (m:List UInt32),r=(Ex.n,(⟨[(0,.bs (.bor 0) 0 1 0 (P.length+S.length)),(1,.i .i64 P.length),(2,.sl (u32s b) .an),(6,u32 C)],[(.bor 0,⟨0,.own,1,u32s (P++(m++S.drop b.length))⟩)],4⟩:St)) ∧
   C≤1∧m.length=b.length∧val m+4294967296^b.length*C=val (S.take b.length)+val b)∧loopN T 1 0 (.norm false [0,1,2,6]) l121_0 (stGv P S b y)=some r:=by
 refine za1 _ _ (fun y=>b.length-y.1) _ ?_
 rintro⟨i,C,m⟩ ⟨hi,hC,hm,hv⟩
 simp only at hi hC hm hv
 by_cases h0:i<b.length
 ·left
  have hb:b[i]? = some (b[i]'h0):=List.getElem?_eq_getElem h0
  have hiS:i<S.length:=by omega
  have hs:S[i]? = some (S[i]'hiS):=List.getElem?_eq_getElem hiS
  have hg:=zge (P:=P) hm hiS
  have hw:IntKind.wrap .i64 ((i:Int)+1)=((i+1:Nat):Int):=zac _ (by omega)
  have hw2:IntKind.wrap .i64 ((P.length:Int)+i)=((P.length+i:Nat):Int):=zac _ (by omega)
  have hlt2:(P.length:Int)+i<(P.length:Int)+S.length:=by omega
  have hlb:=zaq (b[i]'h0)
  have hls:=zaq (S[i]'hiS)
  have c2:=zee (T:=T) (S[i]'hiS).toNat (b[i]'h0).toNat C hls hlb (by omega)
  obtain⟨w,hwd⟩:∃w,w=((S[i]'hiS).toNat+(b[i]'h0).toNat+C)%4294967296:=⟨_,rfl⟩
  obtain⟨C',hC'⟩:∃C',C'=((S[i]'hiS).toNat+(b[i]'h0).toNat+C)/4294967296:=⟨_,rfl⟩
  rw[←hwd,←hC']at c2
  have hwl:w<4294967296:=by omega
  have hset:=zgf (P:=P) (w32 w) hm hiS
  refine⟨(i+1,C',m++[w32 w]),⟨h0,by grind,by grind,?_⟩,by omega,?_⟩
  ·simp only
   rw[zao,zae hb,zae hs,Nat.pow_succ,hm,zaw,zch,Nat.mul_zero,Nat.add_zero,zaf hwl]
   exact zm7 hv (by omega)
  ·simp -implicitDefEqProofs[l121_0,stGv,h0,hw,hw2,hlt2,hg,c2,hset,zbo _ _ _ hwl]
 ·right
  have:i=b.length:=by omega
  subst this
  rw[List.take_of_length_le (Nat.le_refl b.length)]at hv
  refine⟨_,⟨C,m,rfl,hC,hm,hv⟩,?_,?_⟩<;>simp -implicitDefEqProofs[l121_0,stGv]
end
section
variable{T:Tbl}[CNat T][CQuot T]
theorem zvr(P S b:List UInt32)(hS:b.length<S.length)(hl:P.length+S.length≤1000000) :
  ∃(D:Nat) (m:List UInt32),D≤1∧m.length=b.length+1∧val m+4294967296^(b.length+1)*D=val (S.take (b.length+1))+val b ∧
   callH T 121 [.bs (.bor 0) 0 1 0 (P.length+S.length),.i .i64 P.length,.sl (u32s b) .an] [(.bor 0,⟨0,.own,1,u32s (P++S)⟩)] =
    some (.tup [],[(.bor 0,⟨0,.own,1,u32s (P++(m++S.drop (b.length+1)))⟩)]):=by
 obtain⟨_,⟨C,m,rfl,hC,hm,hv⟩,hr⟩:=z3q (T:=T) P S b hS hl (0,0,[]) ⟨Nat.zero_le _,Nat.zero_le _,rfl,by simp⟩
 unfold stGv at hr
 simp at hr
 have hs:S[b.length]? = some (S[b.length]'hS):=List.getElem?_eq_getElem hS
 have hls:=zaq (S[b.length]'hS)
 have hg:=zge (P:=P) hm hS
 have hw2:IntKind.wrap .i64 ((P.length:Int)+b.length)=((P.length+b.length:Nat):Int):=zac _ (by omega)
 have hlt2:(P.length:Int)+b.length<(P.length:Int)+S.length:=by omega
 obtain⟨w,hwd⟩:∃w,w=((S[b.length]'hS).toNat+C)%4294967296:=⟨_,rfl⟩
 have hwl:w<4294967296:=by omega
 have hset:=zgf (P:=P) (w32 w) hm hS
 refine⟨((S[b.length]'hS).toNat+C)/4294967296,m++[w32 w],by omega,by grind,?_,?_⟩
 ·rw[zao,zae hs,Nat.pow_succ,hm,zaw,zch,Nat.mul_zero,Nat.add_zero,zaf hwl]
  have:=zm7 (y:=0) (w:=w) (v:=(S[b.length]'hS).toNat) (D':=((S[b.length]'hS).toNat+C)/4294967296) hv (by omega)
  omega
 ·rw[f121 _ _ rfl,b121]
  simp -implicitDefEqProofs[hr,hw2,hlt2,hg,←hwd,hset,zbo _ _ _ hwl]
end
theorem zic(q b1 b0:Nat):q*(b1*4294967296+b0)=q*b1*4294967296+q*b0:=by
 rw[Nat.mul_add q,←Nat.mul_assoc q]
theorem zks{a2 a1 a0 b1 b0 q r:Nat}(h:q*b1+r=a2*4294967296+a1)(hle:q*b0≤r*4294967296+a0) :
  q*(b1*4294967296+b0)≤(a2*4294967296+a1)*4294967296+a0:=by
 refine Nat.le_trans (Nat.le_of_eq (zic q b1 b0)) ?_
 revert h hle
 generalize q*b1=u
 generalize q*b0=v
 omega
theorem zyh{a2 a1 a0 b1 b0 q r:Nat}(h:q*b1+r=a2*4294967296+a1)(hgt:r*4294967296+a0<q*b0) :
  (a2*4294967296+a1)*4294967296+a0<q*(b1*4294967296+b0):=by
 refine Nat.lt_of_lt_of_eq ?_ (zic q b1 b0).symm
 revert h hgt
 generalize q*b1=u
 generalize q*b0=v
 omega
theorem zuw{q b0 r a0:Nat}(h0:a0<4294967296):(q*b0/4294967296<r∨q*b0/4294967296=r∧q*b0%4294967296≤a0)↔q*b0≤r*4294967296+a0:=by
 generalize q*b0=m
 omega
section
variable{T:Tbl}[CNat T][CTwos T][CProd T][CQuot T]
def stGs(a0 b1 b0:Nat)(y:Nat×Nat):St:=⟨[(2,u32 a0),(3,u32 b1),(4,u32 b0),(11,u32 y.1),(12,u32 y.2)],[],2⟩
end
section
variable{T:Tbl}[CNat T]
theorem zux(a2 a1 a0 b1 b0 g:Nat)(h0:a0<4294967296)(hb1:b1<4294967296)(hb0:b0<4294967296)
  (F1:∀q,q<4294967296→g≤q→q*(b1*4294967296+b0)≤(a2*4294967296+a1)*4294967296+a0→q=g)
  (F2:∀q,(a2*4294967296+a1)*4294967296+a0<q*(b1*4294967296+b0)→g<q):∀y:Nat×Nat,
  (y.1<4294967296∧y.2<4294967296∧y.1*b1+y.2=a2*4294967296+a1∧g≤y.1) →
  ∃r,(r=(Ex.n,(⟨[(11,u32 g)],[],2⟩:St)))∧loopN T 0 0 (.norm false [11]) l119_0 (stGs a0 b1 b0 y)=some r:=by
 refine za1 _ _ (fun y=>y.1) _ ?_
 rintro⟨q,r⟩ ⟨hq,hr,hv,hg⟩
 simp only at hq hr hv hg
 have c1:=zig (T:=T) q b0 0 0 hq hb0 (by decide) (by decide)
 have c2:=zee (T:=T) r b1 0 hr hb1 (by decide)
 rw[Nat.add_zero]at c1
 rw[Nat.add_zero]at c2
 have hcmp:=zuw (q:=q) (b0:=b0) (r:=r) h0
 obtain⟨hi,hhi⟩:∃hi,hi=q*b0/4294967296:=⟨_,rfl⟩
 obtain⟨lo,hlo⟩:∃lo,lo=q*b0%4294967296:=⟨_,rfl⟩
 rw[←hhi,←hlo]at c1 hcmp
 have hlol:lo<4294967296:=by omega
 have hhil:hi<4294967296:=by
  have:=zj2 hq hb0
  omega
 by_cases hle:q*b0≤r*4294967296+a0
 ·right
  have hqg:=F1 q hq hg (zks hv hle)
  subst hqg
  have hc:=hcmp.2 hle
  clear hhi hlo
  rcases hc with hc | ⟨rfl,hc2⟩
  ·refine⟨_,rfl,?_,?_⟩<;>simp -implicitDefEqProofs[l119_0,stGs,c1,hc]
  ·refine⟨_,rfl,?_,?_⟩<;>simp -implicitDefEqProofs[l119_0,stGs,c1,hc2]
 ·have hgt:r*4294967296+a0<q*b0:=by omega
  have hlt:=F2 q (zyh hv hgt)
  have hc:¬ (hi<r∨hi=r∧lo≤a0):=fun h=>hle (hcmp.1 h)
  have hq1:q-1<4294967296:=by omega
  have hs:sub32 q 1=q-1:=by unfold sub32;omega
  have hqb:(q-1)*b1+(r+b1)=a2*4294967296+a1:=by
   have:q*b1=(q-1)*b1+b1:=by
    rw[←Nat.succ_mul]
    congr 1
    omega
   omega
  by_cases hcar:4294967296≤r+b1
  ·right
   have hmul:=zj2 hq1 hb0
   have hqg:=F1 (q-1) hq1 (by omega) (zks hqb (by
    generalize (q-1)*b0=v at *
    omega))
   have m2:0<(r+b1)/4294967296:=Nat.div_pos hcar (by decide)
   have m3:(r+b1)/4294967296<4294967296:=by omega
   have hr2:¬ hi<r:=fun h=>hc (.inl h)
   clear hhi hlo
   refine⟨_,rfl,?_,?_⟩<;>by_cases he:hi=r
   ·have hc3:¬ lo≤a0:=fun h=>hc (.inr ⟨he,h⟩)
    subst he
    simp -implicitDefEqProofs[l119_0,stGs,c1,c2,hs,hc3,m2]
   ·simp -implicitDefEqProofs[l119_0,stGs,c1,c2,hs,hr2,he,m2]
   ·have hc3:¬ lo≤a0:=fun h=>hc (.inr ⟨he,h⟩)
    subst he
    simp -implicitDefEqProofs[l119_0,stGs,c1,c2,hs,hc3,m2,hqg]
   ·simp -implicitDefEqProofs[l119_0,stGs,c1,c2,hs,hr2,he,m2,hqg]
  ·left
   refine⟨(q-1,r+b1),⟨hq1,by simp only;omega,hqb,by simp only;omega⟩,by simp only;omega,?_⟩
   have m1:(r+b1)%4294967296=r+b1:=Nat.mod_eq_of_lt (by omega)
   have m2:(r+b1)/4294967296=0:=Nat.div_eq_of_lt (by omega)
   rw[m1,m2]at c2
   have hr2:¬ hi<r:=fun h=>hc (.inl h)
   clear hhi hlo
   by_cases he:hi=r
   ·have hc3:¬ lo≤a0:=fun h=>hc (.inr ⟨he,h⟩)
    subst he
    simp -implicitDefEqProofs[l119_0,stGs,c1,c2,hs,hc3]
   ·simp -implicitDefEqProofs[l119_0,stGs,c1,c2,hs,hr2,he]
end
section
variable{T:Tbl}[CNat T][CTwos T][CProd T][CQuot T]
theorem z27{n two:Nat}(h:0<two):(∀q,q<4294967296→min 4294967295 (n/two)≤q→q*two≤n→q=min 4294967295 (n/two))∧(∀q,n<q*two→min 4294967295 (n/two)<q):=by
 constructor
 ·intro q hq hg hle
  have:=(Nat.le_div_iff_mul_le h).2 hle
  omega
 ·intro q hlt
  have:=(Nat.div_lt_iff_lt_mul h).2 hlt
  omega
theorem zyi{A a0 b1 b0:Nat}(h0:a0<4294967296)(hp:0<b1):A*4294967296+a0<(A/b1+1)*(b1*4294967296+b0):=by
 have h1:A<(A/b1+1)*b1:=by rw[Nat.mul_comm];exact Nat.lt_mul_div_succ A hp
 refine Nat.lt_of_lt_of_eq ?_ (zic (A/b1+1) b1 b0).symm
 generalize (A/b1+1)*b1=u at *
 generalize (A/b1+1)*b0=v at *
 omega
end
section
variable{T:Tbl}[CNat T][CQuot T]
theorem zrp(a2 a1 a0 b1 b0:Nat)(h2:a2<4294967296)(h1:a1<4294967296)(h0:a0<4294967296)(hb1:b1<4294967296)(hb0:b0<4294967296)(hp:0<b1) :
  callF T 119 [u32 a2,u32 a1,u32 a0,u32 b1,u32 b0]=some (u32 (min 4294967295 (((a2*4294967296+a1)*4294967296+a0)/(b1*4294967296+b0)))):=by
 obtain⟨F1,F2⟩:=z27 (n:=(a2*4294967296+a1)*4294967296+a0) (two:=b1*4294967296+b0) (by omega)
 have hgle:=Nat.min_le_left 4294967295 (((a2*4294967296+a1)*4294967296+a0)/(b1*4294967296+b0))
 generalize min 4294967295 (((a2*4294967296+a1)*4294967296+a0)/(b1*4294967296+b0))=g at *
 by_cases hlt:a2<b1
 ·have hd:=zmz (T:=T) a2 a1 b1 hlt h1 hb1
  have hql:(a2*4294967296+a1)/b1<4294967296:=z0u hlt h1
  have hrl:(a2*4294967296+a1)%b1<b1:=Nat.mod_lt _ hp
  have hdm:=Nat.div_add_mod (a2*4294967296+a1) b1
  rw[Nat.mul_comm]at hdm
  obtain⟨_,rfl,hr⟩:=zux (T:=T) a2 a1 a0 b1 b0 g h0 hb1 hb0 F1 F2 ((a2*4294967296+a1)/b1,(a2*4294967296+a1)%b1) ⟨hql,by simp only;omega,hdm,by have:=F2 _ (zyi (A:=a2*4294967296+a1) (b0:=b0) h0 hp);simp only;omega⟩
  unfold stGs at hr
  simp at hr
  rw[f119 _ rfl,b119]
  simp -implicitDefEqProofs[hd,hr]
 ·have hd:=zrv (T:=T) a2 a1 b1 (by omega) h2 h1
  have ha:=zee (T:=T) a1 b1 0 h1 hb1 (by decide)
  rw[Nat.add_zero]at ha
  by_cases hbig:b1<a2∨4294967296≤a1+b1
  ·have hg:4294967295=g:=by
    refine F1 4294967295 (by decide) hgle ?_
    refine zks (r:=a2*4294967296+a1-4294967295*b1) (by omega) ?_
    omega
   subst hg
   rw[f119 _ rfl,b119]
   rcases Nat.lt_or_ge b1 a2 with hb | hb
   ·simp -implicitDefEqProofs[hd,ha,hb]
   ·have hc:4294967296≤a1+b1:=by omega
    have hb2:¬ b1<a2:=by omega
    have m2:0<(a1+b1)/4294967296:=Nat.div_pos hc (by decide)
    simp -implicitDefEqProofs[hd,ha,hb2,m2]
  ·have hb2:¬ b1<a2:=fun h=>hbig (.inl h)
   have hc:a1+b1<4294967296:=by omega
   have m1:(a1+b1)%4294967296=a1+b1:=Nat.mod_eq_of_lt hc
   have m2:(a1+b1)/4294967296=0:=Nat.div_eq_of_lt hc
   rw[m1,m2]at ha
   obtain⟨_,rfl,hr⟩:=zux (T:=T) a2 a1 a0 b1 b0 g h0 hb1 hb0 F1 F2 (4294967295,a1+b1) ⟨Nat.lt_succ_self 4294967295,hc,by simp only;omega,hgle⟩
   unfold stGs at hr
   simp at hr
   have hb3:a2≤b1:=by omega
   rw[f119 _ rfl,b119]
   simp -implicitDefEqProofs[hd,ha,hb2,hr]
end
theorem zws{V b d three two v0 b0:Nat}(hV:V=three*d+v0)(hv:v0<d)(hb:b=two*d+b0)(hb0:b0<d)(h2:4294967296≤two)(hlt:V<4294967296*b) :
  V/b≤min 4294967295 (three/two)∧min 4294967295 (three/two)≤V/b+1:=by
 have hd:0<d:=by omega
 have htp:0<two:=by omega
 have hbp:0<b:=by
  have:=Nat.mul_pos htp hd
  omega
 have hq:V/b<4294967296:=Nat.div_lt_of_lt_mul (by rw[Nat.mul_comm];exact hlt)
 have hqb:V/b*b≤V:=Nat.div_mul_le_self V b
 have hqb2:V<(V/b+1)*b:=by rw[Nat.mul_comm];exact Nat.lt_mul_div_succ V hbp
 generalize V/b=q at *
 constructor
 ·refine Nat.le_min.2 ⟨by omega,(Nat.le_div_iff_mul_le htp).2 ?_⟩
  have h3:q*two*d<(three+1)*d:=by
   have:q*two*d≤q*b:=by rw[hb,Nat.mul_add,Nat.mul_assoc];omega
   rw[Nat.add_mul,Nat.one_mul]
   omega
  have:=Nat.lt_of_mul_lt_mul_right h3
  omega
 ·generalize hx:min 4294967295 (three/two)=x
  have hx1:x≤three/two:=by rw[←hx];exact Nat.min_le_right _ _
  have hx2:x≤4294967295:=by rw[←hx];exact Nat.min_le_left _ _
  have hx3:x*two≤three:=(Nat.le_div_iff_mul_le htp).1 hx1
  rcases Nat.lt_or_ge (q+1) x with h | h
  ·exfalso
   have e1:(q+2)*two≤x*two:=Nat.mul_le_mul_right _ h
   have e2:(q+2)*two*d≤three*d:=Nat.mul_le_mul_right _ (Nat.le_trans e1 hx3)
   have e3:(q+1)*b=(q+1)*two*d+(q+1)*b0:=by rw[hb,Nat.mul_add,Nat.mul_assoc]
   have e4:(q+1)*b0≤(q+1)*d:=Nat.mul_le_mul_left _ (Nat.le_of_lt hb0)
   have e5:(q+2)*two*d=(q+1)*two*d+two*d:=by rw[show q+2=(q+1)+1 from rfl,Nat.add_mul (q+1) 1 two,Nat.one_mul,Nat.add_mul]
   have e6:(q+1)*d≤two*d:=Nat.mul_le_mul_right _ (by omega)
   omega
  ·exact h
theorem zy3{vA vA' t p V x r vb vm T:Nat}(h0:vA=t+p*V)(h1:vA'=t+p*r)(hV:V=vb*x+r)(hT:T=vA+p*4294967296*(vm*vb)) :
  T=vA'+p*((x+4294967296*vm)*vb):=by grind
theorem zu9{V b x Bo vm p:Nat}(hb:0<b)(h1:V/b≤x)(h2:x≤V/b+1)(_hp:V<p)(hm:vm<p)(hBo:Bo≤1)(h:vm+x*b=V+p*Bo) :
  (Bo=0→x=V/b∧vm=V%b)∧(Bo=1→x=V/b+1∧vm+b=V%b+p):=by
 have hd:=Nat.div_add_mod V b
 constructor
 ·intro h0
  subst h0
  have hx:x=V/b:=by
   have:x*b≤V:=by omega
   have:=(Nat.le_div_iff_mul_le hb).2 this
   omega
  grind
 ·intro h0
  subst h0
  have hx:x=V/b+1:=by
   grind
  grind
theorem zva{vm b r p D vm':Nat}(_hr:r<p)(h:vm+b=r+p)(hm:vm'<p)(hD:D≤1)(hg:vm'+p*D=vm+b):vm'=r:=by
 rcases Nat.eq_zero_or_pos D with h0 | h0
 all_goals grind
theorem zm0{α:Type}{A:List α}{i k:Nat}(h:i=k)(hi:i<A.length)(hk:k<A.length):A[i]'hi=A[k]'hk:=by grind
theorem zk0(A:List UInt32)(j n:Nat):val (A.drop j)=val ((A.drop j).take n)+4294967296^((A.drop j).take n).length*val (A.drop (j+n)):=by
 grind[List.take_append_drop,zao,List.drop_drop]
theorem zrx{q x:Nat}(h:x=q+1)(hx:x<4294967296):sub32 x 1=q:=by unfold sub32;omega
theorem zvb{A m1:List UInt32}{j n:Nat}(hm1:m1.length=n+1)(hj:j+n<A.length) :
  (A.take j++(m1++A.drop (j+(n+1)))).take j=A.take j∧(A.take j++(m1++A.drop (j+(n+1)))).drop (j+(n+1))=A.drop (j+(n+1)) ∧
  ((A.take j++(m1++A.drop (j+(n+1)))).drop j).take (n+1)=m1∧(A.take j++(m1++A.drop (j+(n+1)))).length=A.length:=by
 have htj:(A.take j).length=j:=by grind
 refine⟨?_,?_,?_,?_⟩
 ·rw[List.take_append_of_le_length (by omega),List.take_of_length_le (by omega)]
 ·rw[←List.drop_drop,List.drop_append_of_le_length (by omega),List.drop_of_length_le (l:=A.take j) (by omega),List.nil_append,List.drop_append_of_le_length (by omega),List.drop_of_length_le (by omega),List.nil_append]
 all_goals grind
theorem zvc{D:List UInt32}{n:Nat}(h:n+2<D.length):val (D.take (n+3))=(((D[n+2]'h).toNat*4294967296+(D[n+1]'(by omega)).toNat)*4294967296+(D[n]'(by omega)).toNat)*4294967296^n+val (D.take n):=by
 grind[zae]
theorem z3h{D:List UInt32}{n:Nat}(h:n+1<D.length):val (D.take (n+2))=((D[n+1]'h).toNat*4294967296+(D[n]'(by omega)).toNat)*4294967296^n+val (D.take n):=by
 grind[zae]
section
variable{T:Tbl}[CNat T][CQuot T]
theorem zry(A b:List UInt32)(j x:Nat)(hx:x<4294967296)(hj:j+b.length<A.length)(hl:A.length≤1000000) :
  ∃(B:Nat) (m:List UInt32),B≤1∧m.length=b.length+1∧val m+x*val b=val ((A.drop j).take (b.length+1))+4294967296^(b.length+1)*B ∧
   callH T 120 [.bs (.bor 0) 0 1 0 A.length,.i .i64 j,.sl (u32s b) .an,u32 x] [(.bor 0,⟨0,.own,1,u32s A⟩)] =
    some (.b (decide (0<B)),[(.bor 0,⟨0,.own,1,u32s (A.take j++(m++A.drop (j+(b.length+1))))⟩)]):=by
 have h1:(A.take j).length=j:=by grind
 have h2:(A.drop j).length=A.length-j:=by simp
 obtain⟨B,m,hB,hm,hv,hc⟩:=zvq (T:=T) (A.take j) (A.drop j) b x hx (by omega) (by omega)
 grind[List.take_append_drop,List.drop_drop]
end
section
variable{T:Tbl}[CNat T][CQuot T]
theorem zrz(A b:List UInt32)(j:Nat)(hj:j+b.length<A.length)(hl:A.length≤1000000) :
  ∃(D:Nat) (m:List UInt32),D≤1∧m.length=b.length+1∧val m+4294967296^(b.length+1)*D=val ((A.drop j).take (b.length+1))+val b ∧
   callH T 121 [.bs (.bor 0) 0 1 0 A.length,.i .i64 j,.sl (u32s b) .an] [(.bor 0,⟨0,.own,1,u32s A⟩)] =
    some (.tup [],[(.bor 0,⟨0,.own,1,u32s (A.take j++(m++A.drop (j+(b.length+1))))⟩)]):=by
 have h1:(A.take j).length=j:=by grind
 have h2:(A.drop j).length=A.length-j:=by simp
 obtain⟨D,m,hD,hm,hv,hc⟩:=zvr (T:=T) (A.take j) (A.drop j) b (by omega) (by omega)
 rw[h1,h2,show j+(A.length-j)=A.length by omega,List.take_append_drop,List.drop_drop]at hc
 exact⟨D,m,hD,hm,hv,hc⟩
end
section
variable{T:Tbl}[CNat T][CTwos T][CProd T][CQuot T]
def stLg(b:List UInt32)(LA LQ:Nat)(y:Nat×List UInt32×List UInt32):St:=
 ⟨[(0,.bs (.bor 0) 0 1 0 LA),(1,.sl (u32s b) .an),(5,.i .i64 b.length),(6,.bs (.loc 15) 3 1 0 LQ),(7,.i .i64 ((y.1:Int)-1))],
  [(.bor 0,⟨0,.own,1,u32s y.2.1⟩),(.loc 15,⟨3,.own,1,u32s (List.replicate y.1 0++y.2.2)⟩)],5⟩
end
section
variable{T:Tbl}[CNat T][CQuot T]
set_option maxHeartbeats 2000000 in
theorem z3i(A0 b:List UInt32)(LQ nb:Nat)(hnb:b.length=nb+2)(hb1:0<(b[nb+1]'(by omega)).toNat)(hl:A0.length≤1000000)(hA0:A0.length=LQ+b.length):∀y:Nat×List UInt32×List UInt32,
  (y.1≤LQ∧y.2.1.length=A0.length∧y.2.2.length=LQ-y.1∧val (y.2.1.drop y.1)<val b∧val A0=val y.2.1+4294967296^y.1*(val y.2.2*val b)) →
  ∃r,(∃Q A:List UInt32,r=(Ex.n,(⟨[(6,.bs (.loc 15) 3 1 0 LQ)],[(.bor 0,⟨0,.own,1,u32s A⟩),(.loc 15,⟨3,.own,1,u32s Q⟩)],5⟩:St)) ∧
   Q.length=LQ∧A.length=A0.length∧val Q=val A0/val b∧val A=val A0%val b)∧loopN T 1 0 (.norm false [6]) l93_0 (stLg b A0.length LQ y)=some r:=by
 refine za1 _ _ (fun y=>y.1) _ ?_
 rintro⟨k,A,m⟩ ⟨hk,hA,hm,hlt,hv⟩
 simp only at hk hA hm hlt hv
 have hbp:0<val b:=by omega
 cases k with
 | zero=>
  right
  rw[Nat.pow_zero,Nat.one_mul]at hv
  rw[List.drop_zero]at hlt
  refine⟨_,⟨m,A,rfl,by omega,hA,?_,?_⟩,?_,?_⟩
  ·rw[hv,Nat.add_mul_div_right _ _ hbp,Nat.div_eq_of_lt hlt,Nat.zero_add]
  ·rw[hv,Nat.add_mul_mod_self_right,Nat.mod_eq_of_lt hlt]
  ·simp -implicitDefEqProofs[l93_0,stLg]
  ·simp -implicitDefEqProofs[l93_0,stLg]
 | succ j=>
  left
  -- the window
  have hD:(A.drop j).length=A.length-j:=by simp
  have hDn:nb+2<(A.drop j).length:=by omega
  have hVlt:val (A.drop j)<4294967296*val b:=by
   have:=List.drop_eq_getElem_cons (show j<A.length by omega)
   rw[this,zaw]
   have:=zaq (A[j]'(by omega))
   omega
  have hbB:=zbd b
  rw[hnb]at hbB
  have hsplit:=zk0 A j (nb+3)
  have hlen3:((A.drop j).take (nb+3)).length=nb+3:=by simp;omega
  rw[hlen3]at hsplit
  have hz:val (A.drop (j+(nb+3)))=0:=by
   rcases Nat.eq_zero_or_pos (val (A.drop (j+(nb+3)))) with h | h
   ·exact h
   ·exfalso
    have h1:=Nat.mul_le_mul_left (4294967296^(nb+3)) h
    rw[Nat.pow_succ 4294967296 (nb+2)]at h1 hsplit
    generalize 4294967296^(nb+2)=p at *
    generalize p*4294967296*val (A.drop (j+(nb+3)))=u at *
    omega
  rw[hz,Nat.mul_zero,Nat.add_zero]at hsplit
  have h3:=zvc hDn
  have h2:=z3h (D:=b) (n:=nb) (by omega)
  rw[zbl (a:=b) (i:=nb+2) (by omega)]at h2
  have hv0:=zbd ((A.drop j).take nb)
  have hb0:=zbd (b.take nb)
  rw[show ((A.drop j).take nb).length=nb by simp;omega]at hv0
  rw[show (b.take nb).length=nb by simp;omega]at hb0
  obtain⟨V,hV⟩:∃V,V=val (A.drop j):=⟨_,rfl⟩
  rw[←hV]at hsplit hVlt
  rw[←hsplit]at h3
  have hg:=zws (V:=V) (b:=val b) h3 hv0 h2 hb0 (by omega) hVlt
  obtain⟨p0,hp0⟩:∃p,p=j+b.length:=⟨_,rfl⟩
  obtain⟨p1,hp1⟩:∃p,p=j+(nb+1):=⟨_,rfl⟩
  obtain⟨p2,hp2⟩:∃p,p=j+nb:=⟨_,rfl⟩
  obtain⟨q1,hq1⟩:∃p,p=nb+1:=⟨_,rfl⟩
  have c1:p0<A.length:=by omega
  have c2:p1<A.length:=by omega
  have c3:p2<A.length:=by omega
  have c4:q1<b.length:=by omega
  have c5:nb<b.length:=by omega
  have e1:(A.drop j)[nb+2]'hDn=A[p0]'c1:=List.getElem_drop.trans (zm0 (by omega) _ _)
  have e2:(A.drop j)[nb+1]'(by omega)=A[p1]'c2:=List.getElem_drop.trans (zm0 (by omega) _ _)
  have e3:(A.drop j)[nb]'(by omega)=A[p2]'c3:=List.getElem_drop.trans (zm0 (by omega) _ _)
  have e4:b[nb+1]'(by omega)=b[q1]'c4:=zm0 (by omega) _ _
  rw[e1,e2,e3,e4]at hg
  rw[e4]at hb1
  have hgs:=zrp (T:=T) (A[p0]'c1).toNat (A[p1]'c2).toNat (A[p2]'c3).toNat (b[q1]'c4).toNat (b[nb]'c5).toNat (zaq _) (zaq _) (zaq _) (zaq _) (zaq _) hb1
  obtain⟨x,hxd⟩:∃x,x=min 4294967295 ((((A[p0]'c1).toNat*4294967296+(A[p1]'c2).toNat)*4294967296+(A[p2]'c3).toNat)/((b[q1]'c4).toNat*4294967296+(b[nb]'c5).toNat)):=⟨_,rfl⟩
  rw[←hxd]at hg hgs
  have hx:x<4294967296:=by rw[hxd];exact Nat.lt_of_le_of_lt (Nat.min_le_left _ _) (by decide)
  clear hxd
  obtain⟨Bo,m1,hBo,hm1,hvm1,hct⟩:=zry (T:=T) A b j x hx (by omega) (by omega)
  rw[hnb,show nb+2+1=nb+3 from rfl,←hsplit]at hvm1
  have hm1l:=zbd m1
  rw[hm1,hnb,show nb+2+1=nb+3 from rfl]at hm1l
  have hVp:V<4294967296^(nb+3):=by
   rw[Nat.pow_succ 4294967296 (nb+2)]
   generalize 4294967296^(nb+2)=p at *
   omega
  have hpk:=zu9 hbp hg.1 hg.2 hVp hm1l hBo hvm1
  have hql:V/val b<4294967296:=Nat.div_lt_of_lt_mul (by rw[Nat.mul_comm];exact hVlt)
  have hzb:val (A.drop (j+(b.length+1)))=0:=by rw[hnb];exact hz
  have htj:(A.take j).length=j:=by simp;omega
  have fin:∀m2:List UInt32,m2.length=b.length+1→val m2=V%val b →
    (A.take j++(m2++A.drop (j+(b.length+1)))).length=A0.length∧val ((A.take j++(m2++A.drop (j+(b.length+1)))).drop j)<val b ∧
    val A0=val (A.take j++(m2++A.drop (j+(b.length+1))))+4294967296^j*(val (w32 (V/val b)::m)*val b):=by
   intro m2 hm2 hvm2
   refine⟨by simp[hm2];omega,?_,?_⟩
   ·rw[List.drop_append_of_le_length (by omega),List.drop_of_length_le (by omega),List.nil_append,zao,hzb,Nat.mul_zero,Nat.add_zero,hvm2]
    exact Nat.mod_lt _ hbp
   ·have t1:val A=val (A.take j)+4294967296^j*V:=by rw[hV];exact zni A j (by omega)
    have t2:val (A.take j++(m2++A.drop (j+(b.length+1))))=val (A.take j)+4294967296^j*(V%val b):=by
     rw[zao,zao,hzb,Nat.mul_zero,Nat.add_zero,hvm2,htj]
    rw[zaw,zaf hql]
    exact zy3 t1 t2 (Nat.div_add_mod V (val b)).symm hv
  clear hv hvm1 hsplit h3 h2 hg hbB hVlt hlt hzb hz hv0 hb0 hm1l hVp
  have hw1:IntKind.wrap .i64 ((j:Int)-1)=(j:Int)-1:=zac _ (by omega)
  have hw2:IntKind.wrap .i64 ((j:Int)+b.length)=((p0:Nat):Int):=by rw[zac _ (by omega)];omega
  have hw3:IntKind.wrap .i64 ((p0:Int)-1)=((p1:Nat):Int):=by rw[zac _ (by omega)];omega
  have hw4:IntKind.wrap .i64 ((p0:Int)-2)=((p2:Nat):Int):=by rw[zac _ (by omega)];omega
  have hw5:IntKind.wrap .i64 ((b.length:Int)-1)=((q1:Nat):Int):=by rw[zac _ (by omega)];omega
  have hw6:IntKind.wrap .i64 ((b.length:Int)-2)=((nb:Nat):Int):=by rw[zac _ (by omega)];omega
  have hj1:j<LQ:=by omega
  rw[hA]at hct
  have hml:(w32 (V/val b)::m).length=LQ-j:=by simp[hm];omega
  have hjb:j+b.length<A.length:=by omega
  have hnb3:nb+3=b.length+1:=by omega
  have d1:p0<A0.length:=by omega
  have d2:p1<A0.length:=by omega
  have d3:p2<A0.length:=by omega
  rcases Nat.eq_zero_or_pos Bo with h0 | h0
  ·obtain⟨hxq,hvm⟩:=hpk.1 h0
   subst h0
   subst hxq
   have hset:=zk1 (m:=m) (j:=j) (w32 (V/val b))
   obtain⟨f1,f2,f3⟩:=fin m1 hm1 hvm
   refine⟨(j,A.take j++(m1++A.drop (j+(b.length+1))),w32 (V/val b)::m),⟨Nat.le_of_lt hj1,f1,hml,f2,f3⟩,Nat.lt_succ_self j,?_⟩
   simp -implicitDefEqProofs[l93_0,stLg,hw1,hw2,hw3,hw4,hw5,hw6,c4,c5,d1,d2,d3,hA,hj1,hgs,hct,hset,zk2,zbo _ _ _ hx]
  ·have h1:Bo=1:=by omega
   obtain⟨hxq,hvm⟩:=hpk.2 h1
   subst h1
   have hset:=zk1 (m:=m) (j:=j) (w32 (V/val b))
   obtain⟨t1,t2,t3,t4⟩:=zvb (A:=A) hm1 hjb
   rw[hA]at t4
   obtain⟨D,m2,hD,hm2,hvm2,hcg⟩:=zrz (T:=T) (A.take j++(m1++A.drop (j+(b.length+1)))) b j (by rw[t4,←hA];exact hjb) (by rw[t4];exact hl)
   rw[t1,t2,t4]at hcg
   rw[t3]at hvm2
   have hm2l:=zbd m2
   rw[hm2]at hm2l
   have hVb:=Nat.mod_lt V hbp
   have hbq:val b<4294967296^(b.length+1):=Nat.lt_of_lt_of_le (zbd b) (Nat.pow_le_pow_right (by decide) (Nat.le_succ _))
   rw[hnb3]at hvm
   have hv2:=zva (Nat.lt_trans hVb hbq) hvm hm2l hD hvm2
   have hsx:=zrx hxq hx
   obtain⟨f1,f2,f3⟩:=fin m2 hm2 hv2
   refine⟨(j,A.take j++(m2++A.drop (j+(b.length+1))),w32 (V/val b)::m),⟨Nat.le_of_lt hj1,f1,hml,f2,f3⟩,Nat.lt_succ_self j,?_⟩
   simp -implicitDefEqProofs[l93_0,stLg,hw1,hw2,hw3,hw4,hw5,hw6,c4,c5,d1,d2,d3,hA,hj1,hgs,hct,hsx,hcg,hset,zk2,zbo _ _ _ hql]
end
section
variable{T:Tbl}[CNat T][CQuot T]
theorem zvd(A b:List UInt32)(LQ nb:Nat)(hnb:b.length=nb+2)(hb1:0<(b[nb+1]'(by omega)).toNat)(hl:A.length≤1000000)(hA:A.length=LQ+b.length)(hlt:val (A.drop LQ)<val b) :
  ∃Q R:List UInt32,Q.length=LQ∧R.length=A.length∧val Q=val A/val b∧val R=val A%val b ∧
   callH T 93 [.bs (.bor 0) 0 1 0 A.length,.sl (u32s b) .an] [(.bor 0,⟨0,.own,1,u32s A⟩)]=some (.bs (.loc 15) 3 1 0 LQ,[(.bor 0,⟨0,.own,1,u32s R⟩),(.loc 15,⟨3,.own,1,u32s Q⟩)]):=by
 obtain⟨_,⟨Q,R,rfl,hQ,hR,hq,hr⟩,hlp⟩:=z3i (T:=T) A b LQ nb hnb hb1 hl hA (LQ,A,[]) ⟨Nat.le_refl _,rfl,by simp,hlt,by simp⟩
 have hw:IntKind.wrap .i64 ((A.length:Int)-b.length)=(LQ:Int):=by rw[zac _ (by omega)];omega
 have hw1:IntKind.wrap .i64 ((LQ:Int)-1)=(LQ:Int)-1:=zac _ (by omega)
 have h1:(LQ:Int)≤4294967296:=by omega
 refine⟨Q,R,hQ,hR,hq,hr,?_⟩
 unfold stLg at hlp
 simp at hlp
 rw[f93 _ _ rfl,b93]
 simp -implicitDefEqProofs[hw,hw1,h1,hlp]
end
def b2071:AX:=
 (.seq
 (.reg [rg 2 (.mov (.c (.sl [] .nl)))])
 (.seq
 (.reg [mv 3 0,rg 4 (.call 86 [(.t 3)]),rg 5 (.call 2106 [(.t 4),(.c (.i .i64 0))]),mv 2 5])
 (.pre (.norm false [2]) .ret)))
def l2092_0:AX:=
 (.note
 (.seq
 (.reg [rg 27 (.bin .lss (.t 26) (.t 25))])
 (.seq
 (.cond (.t 27)
 .skip
 (.exit 0))
 (.seq
 (.block 1
 (.seq
 (.reg [mv 28 26,rg 29 (.iad 1 (.t 24) (.t 26)),rg 30 (.load none (.t 29)),mv 8 28,mv 9 30])
 (.seq
 (.reg [mv 31 9,rg 32 (.conv .u64 (.t 31)),mv 33 6,rg 34 (.bin .shl (.t 32) (.t 33)),mv 10 34])
 (.seq
 (.reg [mv 35 7,mv 36 5,mv 37 8,rg 38 (.bin .add (.t 36) (.t 37)),rg 39 (.iad 1 (.t 35) (.t 38)),rg 40 (.load none (.t 39)),mv 41 10,rg 42 (.conv .u32 (.t 41)),rg 43 (.bin .or (.t 40) (.t 42)),rg 44 (.iad 1 (.t 35) (.t 38)),so (.store 1 (.t 44) (.t 43))])
 (.reg [mv 45 7,mv 46 5,mv 47 8,rg 48 (.bin .add (.t 46) (.t 47)),rg 49 (.bin .add (.t 48) (.c (.i .i64 1))),mv 50 10,rg 51 (.bin .shr (.t 50) (.c (u64 32))),rg 52 (.conv .u32 (.t 51)),rg 53 (.iad 1 (.t 45) (.t 49)),so (.store 1 (.t 53) (.t 52))])))))
 (.reg [rg 54 (.bin .add (.t 26) (.c (.i .i64 1))),mv 26 54]))))
 (.norm false [5,6,7,24,25,26]))
def b2092:AX:=
 (.seq
 (.reg [rg 4 (.mov (.c (.sl [] .nl)))])
 (.seq
 (.reg [mv 11 1,rg 12 (.mm true [(.t 11),(.c (.i .i64 0))]),rg 13 (.mm false [(.t 12),(.c (.i .i64 4096))]),mv 1 13])
 (.seq
 (.reg [mv 14 1,rg 15 (.bin .quo (.t 14) (.c (.i .i64 32))),mv 16 1,rg 17 (.bin .rem (.t 16) (.c (.i .i64 32))),mv 5 15,mv 6 17])
 (.seq
 (.reg [mv 18 5,mv 19 0,rg 20 (.len (.t 19)),rg 21 (.bin .add (.t 18) (.t 20)),rg 22 (.bin .add (.t 21) (.c (.i .i64 1))),rg 23 (.mks 1 [(u32 0)] (.t 22) (.t 22)),mv 7 23])
 (.seq
 (.seq
 (.reg [mv 24 0,rg 25 (.len (.t 24)),rg 26 (.mov (.c (.i .i64 0)))])
 (.lp 0 (.norm false [5,6,7,24,25,26]) l2092_0 (.norm false [7])))
 (.seq
 (.reg [mv 55 7,rg 56 (.call 2071 [(.t 55)]),mv 4 56])
 (.pre (.norm false [4]) .ret)))))))
def b62:AX:=
 (.seq
 (.reg [rg 4 (.mov (.c (.sl [] .nl))),rg 5 (.mov (.c (.sl [] .nl))),rg 6 (.mov (.c (.b false)))])
 (.seq
 (.reg [mv 12 1,rg 13 (.call 71 [(.t 12)]),mv 1 13])
 (.seq
 (.block 0
 (.seq
 (.reg [mv 15 1,rg 16 (.len (.t 15)),rg 17 (.bin .eql (.t 16) (.c (.i .i64 0))),mv 14 17])
 (.cond (.t 14)
 (.seq
 (.reg [rg 4 (.mov (.c (.sl [] .nl))),rg 5 (.mov (.c (.sl [] .nl))),rg 6 (.mov (.c (.b false)))])
 (.pre (.norm false [4,5,6]) .ret))
 (.seq
 (.reg [mv 19 0,mv 20 1,rg 21 (.call 87 [(.t 19),(.t 20)]),rg 22 (.bin .lss (.t 21) (.c (.i .i64 0))),mv 18 22])
 (.cond (.t 18)
 (.seq
 (.reg [mv 23 0,rg 24 (.call 71 [(.t 23)]),rg 4 (.mov (.c (.sl [] .nl))),mv 5 24,rg 6 (.mov (.c (.b true)))])
 (.pre (.norm false [4,5,6]) .ret))
 (.seq
 (.reg [mv 26 1,rg 27 (.len (.t 26)),rg 28 (.bin .eql (.t 27) (.c (.i .i64 1))),mv 25 28])
 (.cond (.t 25)
 (.seq
 (.reg [mv 30 0,mv 31 1,rg 32 (.iad 1 (.t 31) (.c (.i .i64 0))),rg 33 (.load none (.t 32)),rg 34 (.call 90 [(.t 30),(.t 33)]),mv 29 34,rg 35 (.ext (.t 29) 0),rg 36 (.ext (.t 29) 1),rg 37 (.ext (.t 29) 2),mv 7 35,mv 8 36,mv 9 37])
 (.seq
 (.reg [mv 38 7,mv 39 8,rg 40 (.conv .u64 (.t 39)),rg 41 (.call 72 [(.t 40)]),mv 4 38,mv 5 41,rg 6 (.mov (.c (.b true)))])
 (.pre (.norm false [4,5,6]) .ret)))
 .skip)))))))
 (.seq
 (.reg [mv 42 1,mv 43 1,rg 44 (.len (.t 43)),rg 45 (.bin .sub (.t 44) (.c (.i .i64 1))),rg 46 (.iad 1 (.t 42) (.t 45)),rg 47 (.load none (.t 46)),rg 48 (.call 91 [(.t 47)]),rg 49 (.bin .sub (.c (.i .i64 32)) (.t 48)),mv 10 49])
 (.seq
 (.reg [mv 50 0,mv 51 10,rg 52 (.call 2092 [(.t 50),(.t 51)]),rg 53 (.bsl 1 [(u32 0)] 1 [(0,(.c (u32 0)))]),rg 54 (.app 1 (.t 52) (.t 53)),mv 11 54])
 (.seq
 (.reg [mv 55 11,mv 56 1,mv 57 10,rg 58 (.call 2092 [(.t 56),(.t 57)]),rg 59 (.call 93 [(.t 55),(.t 58)]),mv 4 59])
 (.seq
 (.reg [mv 60 4,rg 61 (.call 71 [(.t 60)]),mv 62 11,mv 63 10,rg 64 (.call 94 [(.t 62),(.t 63)]),mv 4 61,mv 5 64,rg 6 (.mov (.c (.b true)))])
 (.pre (.norm false [4,5,6]) .ret))))))))
class CQuotD (T:Tbl):Prop where
 h2071:T 2071=some ⟨1,6,[.t 2],b2071,(some [false]),false⟩
 h2092:T 2092=some ⟨2,57,[.t 4],b2092,(some [false,false]),false⟩
 h62:T 62=some ⟨2,65,[.t 4,.t 5,.t 6],b62,none,false⟩
section
variable{T:Tbl}[CQuotD T]{d:Option Nat}{st:St}
@[simp] theorem x2071(xs:List AV):callX (orc T) T 2071 xs d st=bL (frzM st.heap [false] xs) fun ys=>lentX ys (shareIds (refsM [false] xs) st.heap) (reach (shareIds (refsM [false] xs) st.heap) 40 (rootsM [false] xs) []) T 2071 false d st:=zan CQuotD.h2071
theorem f2071(xs:List AV)(hb:Heap)(hn:xs.length=1):callH T 2071 xs hb=retH [.t 2] false hb.length (evX (orc T) T hb.length b2071 ⟨argEnv xs,hb,hb.length+1⟩):=zau CQuotD.h2071 hn
@[simp] theorem x2092(xs:List AV):callX (orc T) T 2092 xs d st=bL (frzM st.heap [false,false] xs) fun ys=>lentX ys (shareIds (refsM [false,false] xs) st.heap) (reach (shareIds (refsM [false,false] xs) st.heap) 40 (rootsM [false,false] xs) []) T 2092 false d st:=zan CQuotD.h2092
theorem f2092(xs:List AV)(hb:Heap)(hn:xs.length=2):callH T 2092 xs hb=retH [.t 4] false hb.length (evX (orc T) T hb.length b2092 ⟨argEnv xs,hb,hb.length+1⟩):=zau CQuotD.h2092 hn
@[simp] theorem x62(xs:List AV):callX (orc T) T 62 xs d st=cP T 62 false xs d st:=zaa CQuotD.h62
theorem f62(xs:List AV)(hn:xs.length=2):callF T 62 xs=retF [.t 4,.t 5,.t 6] false (evX (orc T) T 0 b62 ⟨argEnv xs,[],1⟩):=zab CQuotD.h62 hn
end
theorem z3r(x:Nat):x<2^blen x:=by
 unfold blen
 split
 ·subst x;decide
 ·exact Nat.lt_log2_self
theorem zvs{x:Nat}(h:x<4294967296):blen x≤32:=by
 unfold blen
 split
 ·omega
 ·rename_i h0
  have:=(Nat.log2_lt h0 (k:=32)).2 (by simpa using h)
  omega
theorem z0w{n k:Nat}(h:(ofN n).length=k+1):4294967296^k≤n:=by
 rcases Nat.lt_or_ge n (4294967296^k) with h1 | h1
 ·have:=zat h1
  omega
 ·exact h1
theorem z9c{b:List UInt32}{nb:Nat}(h:b.length=nb+2)(hb:b=ofN (val b)) :
  (ofN (val b*2^(32-blen (b[nb+1]'(by omega)).toNat))).length=nb+2:=by
 have hl:=zvs (zaq (b[nb+1]'(by omega)))
 have hs:=z3r (b[nb+1]'(by omega)).toNat
 have h1:val b=val (b.take (nb+1))+4294967296^(nb+1)*(b[nb+1]'(by omega)).toNat:=by
  have:=zae (List.getElem?_eq_getElem (show nb+1<b.length by omega))
  rwa [zbl (by omega)]at this
 have h2:=zbd (b.take (nb+1))
 rw[show (b.take (nb+1)).length=nb+1 by simp;omega]at h2
 generalize (b[nb+1]'(by omega)).toNat=t at *
 refine Nat.le_antisymm (zat ?_) ?_
 ·have h3:val b<4294967296^(nb+1)*2^blen t:=by
   have:4294967296^(nb+1)*(t+1)≤4294967296^(nb+1)*2^blen t:=Nat.mul_le_mul_left _ hs
   rw[Nat.mul_add,Nat.mul_one]at this
   omega
  have h4:2^blen t*2^(32-blen t)=4294967296:=by
   rw[←Nat.pow_add,show blen t+(32-blen t)=32 by omega]
  have h5:=Nat.mul_lt_mul_of_pos_right h3 (Nat.pow_pos (n:=32-blen t) (show 0<2 by decide))
  rw[Nat.mul_assoc,h4,←Nat.pow_succ]at h5
  exact h5
 ·have h3:val b≤val b*2^(32-blen t):=Nat.le_mul_of_pos_right _ (Nat.pow_pos (by decide))
  have:=zbr h3
  rw[←hb]at this
  omega
theorem z3s{b:List UInt32}{nb:Nat}(h:b.length=nb+2)(hb:b=ofN (val b)):0<(b[nb+1]'(by omega)).toNat:=by
 have h1:val b=val (b.take (nb+1))+4294967296^(nb+1)*(b[nb+1]'(by omega)).toNat:=by
  have:=zae (List.getElem?_eq_getElem (show nb+1<b.length by omega))
  rwa [zbl (by omega)]at this
 have h2:=zbd (b.take (nb+1))
 rw[show (b.take (nb+1)).length=nb+1 by simp;omega]at h2
 have h3:4294967296^(nb+1)≤val b:=z0w (by rw[←hb];omega)
 rcases Nat.eq_zero_or_pos (b[nb+1]'(by omega)).toNat with h0 | h0
 ·rw[h0,Nat.mul_zero]at h1
  omega
 ·exact h0
theorem zik(l:List UInt32):val (l++[0])=val l:=by rw[zao];simp
theorem z9d{A b:List UInt32}{nb L:Nat}(hA:(A++[0]).length=L+b.length)(hb:b.length=nb+2)(hbo:b=ofN (val b)):val ((A++[0]).drop L)<val b:=by
 have hl:L≤A.length:=by simp at hA;omega
 rw[List.drop_append_of_le_length hl,zik]
 have h1:=zbd (A.drop L)
 have h2:(A.drop L).length=nb+1:=by simp at hA ⊢;omega
 rw[h2]at h1
 exact Nat.lt_of_lt_of_le h1 (z0w (by rw[←hbo];omega))
section
variable{T:Tbl}[CNat T][CQuotD T]
theorem zm8(a:List UInt32)(hl:a.length≤1000000):callH T 2071 [.sl (u32s a) .an] [] =
  some (.bs (.fld (.loc 5) 10) 1 1 0 (ofN (val a)).length,[(.fld (.loc 5) 10,⟨1,.own,1,u32s (ofN (val a))⟩)]):=by
 have h1:=zad a
 have h2:=zcw (T:=T) (ofN (val a)) 0 (by omega)
 simp only[Int.natCast_zero,Nat.add_zero,List.replicate_zero,List.append_nil]at h2
 rw[f2071 _ _ rfl,b2071]
 simp -implicitDefEqProofs[zbp a (by omega),h2]
end
section
variable{T:Tbl}[CNat T][CQuotD T]
theorem zil(a:List UInt32)(n:Nat)(hn:n≤4096)(hl:a.length≤100000):callH T 2092 [.sl (u32s a) .an,.i .i64 n] [] =
  some (.bs (.fld (.fld (.loc 56) 0) 6010) 1 1 0 (ofN (val a*2^n)).length,[(.fld (.fld (.loc 56) 0) 6010,⟨1,.own,1,u32s (ofN (val a*2^n))⟩)]):=by
 obtain⟨_,⟨c,m,rfl,hm,hc,hv⟩,hr⟩:=z36 (T:=T) (List.replicate (n/32) 0) a (n%32) (Nat.mod_lt _ (by decide)) (by simp;omega) (0,0,[]) ⟨Nat.zero_le _,Nat.pow_pos (by decide),rfl,by simp⟩
 have hc32:c<4294967296:=Nat.lt_of_lt_of_le hc (by
  have:2^(n%32)≤2^32:=Nat.pow_le_pow_right (by decide) (by omega)
  simpa using this)
 have hval:val (List.replicate (n/32) 0++(m++[w32 c]))=val a*2^n:=by
  rw[zao,zd2,List.length_replicate,zao,hm]
  simp only[zaw,zch,Nat.mul_zero,Nat.add_zero,zaf hc32,Nat.zero_add]
  rw[hv,z39,←Nat.mul_assoc,←Nat.pow_add,show 32*(n/32)+n%32=n by omega,Nat.mul_comm]
 have hlen:(List.replicate (n/32) 0++(m++[w32 c])).length=n/32+a.length+1:=by simp[hm];omega
 have hnm:=zm8 (T:=T) (List.replicate (n/32) 0++(m++[w32 c])) (by omega)
 rw[hval]at hnm
 rw[show l92_0=l2092_0 from rfl]at hr
 unfold stUp at hr
 generalize List.replicate (n/32) 0++(m++[w32 c])=Q at *
 simp at hr
 have hz:List.replicate (n/32) (0:UInt32)++w32 0::List.replicate a.length 0=List.replicate (n/32+a.length+1) 0:=by
  have:w32 0=0:=rfl
  rw[this,←List.replicate_succ,List.replicate_append_replicate,Nat.add_assoc]
 rw[hz]at hr
 have hn2:¬ (4096:Int)<(n:Int):=by omega
 have hq:(n:Int).tdiv 32=(n:Int)/32:=Int.tdiv_eq_ediv_of_nonneg (by omega)
 have hm2:(n:Int).tmod 32=(n:Int)%32:=Int.tmod_eq_emod_of_nonneg (by omega)
 have w1:IntKind.wrap .i64 ((n:Int)/32)=(n:Int)/32:=zac (n/32) (by omega)
 have w2:IntKind.wrap .i64 ((n:Int)/32+a.length)=(n:Int)/32+a.length:=zac _ (by omega)
 have w3:IntKind.wrap .i64 ((n:Int)/32+a.length+1)=(n:Int)/32+a.length+1:=zac _ (by omega)
 have p1:(0:Int)≤(n:Int)/32+a.length+1:=by omega
 have p2:(n:Int)/32+a.length+1≤4294967296:=by omega
 have p3:((n:Int)/32+a.length+1).toNat=n/32+a.length+1:=by omega
 have htk:List.take (n/32+a.length+1) Q=Q:=List.take_of_length_le (by omega)
 rw[f2092 _ _ rfl,b2092]
 simp -implicitDefEqProofs[hn2,hq,hm2,w1,w2,w3,p1,p2,p3,hr,hnm,htk,hlen]
end
section
variable{T:Tbl}[CNat T][CTwos T][CProd T][CQuot T][CQuotD T]
theorem zfv(a b:List UInt32)(ha:a.length≤90000)(hb:b.length≤90000):callF T 62 [.sl (u32s a) .an,.sl (u32s b) .an] =
  some (if val b=0 then .tup [.sl [] .an,.sl [] .an,.b false] else .tup [.sl (u32s (ofN (val a/val b))) .an,.sl (u32s (ofN (val a%val b))) .an,.b true]):=by
 have hnb:=zbq (T:=T) b (by omega)
 have hna:=zbq (T:=T) a (by omega)
 have hlb:=zad b
 have hla:=zad a
 have hcmp:=zii (T:=T) a (ofN (val b)) (by omega) (by omega)
 rw[zah]at hcmp
 rw[f62 _ rfl,b62]
 by_cases h0:val b=0
 ·rw[h0]at hnb
  simp -implicitDefEqProofs[hnb,h0]
 ·have h0':ofN (val b)≠[]:=fun h=>h0 (zbf.1 h)
  have hl0:(ofN (val b)).length≠0:=fun h=>h0' (List.eq_nil_of_length_eq_zero h)
  by_cases hlt:val a<val b
  ·have hd:=Nat.div_eq_of_lt hlt
   have hm:=Nat.mod_eq_of_lt hlt
   simp -implicitDefEqProofs[hnb,h0,hl0,hcmp,zdy,hlt,hna,hd,hm]
  ·rcases Nat.lt_or_ge 1 (ofN (val b)).length with h1 | h1
   ·obtain⟨b',hb'⟩:∃b',b'=ofN (val b):=⟨_,rfl⟩
    have hvb:val b'=val b:=by rw[hb',zah]
    have hbo:b'=ofN (val b'):=by rw[hvb,hb']
    rw[←hb']at hnb hcmp hl0 h1 hlb
    obtain⟨nb,hnbl⟩:∃nb,b'.length=nb+2:=⟨b'.length-2,by omega⟩
    have hll:=zpy (T:=T) (b'[nb+1]'(by omega))
    have hbl:=zvs (zaq (b'[nb+1]'(by omega)))
    have hup:=z9c hnbl hbo
    obtain⟨s,hs⟩:∃s,s=32-blen (b'[nb+1]'(by omega)).toNat:=⟨_,rfl⟩
    obtain⟨l,hll2⟩:∃l,l=blen (b'[nb+1]'(by omega)).toNat:=⟨_,rfl⟩
    rw[←hs]at hup
    rw[←hll2]at hll hs hbl
    obtain⟨B,hB⟩:∃B,B=ofN (val b'*2^s):=⟨_,rfl⟩
    obtain⟨A,hA⟩:∃A,A=ofN (val a*2^s):=⟨_,rfl⟩
    have hua:=zil (T:=T) a s (by omega) (by omega)
    have hub:=zil (T:=T) b' s (by omega) (by omega)
    rw[←hA]at hua
    rw[←hB]at hub hup
    have hBo:B=ofN (val B):=by rw[hB,zah]
    have hvA:val A=val a*2^s:=by rw[hA,zah]
    have hvB:val B=val b'*2^s:=by rw[hB,zah]
    have hAB:B.length≤A.length:=by
     rw[hA,hB]
     exact zbr (Nat.mul_le_mul_right _ (by omega))
    have hAl:A.length≤a.length+1:=by
     rw[hA]
     refine zat ?_
     have h2:2^s≤2^32:=Nat.pow_le_pow_right (by decide) (by omega)
     rw[Nat.pow_succ]
     exact Nat.lt_of_le_of_lt (Nat.mul_le_mul_left _ h2) (Nat.mul_lt_mul_of_pos_right (zbd a) (by decide))
    have hpos:=z3s (hup) hBo
    obtain⟨Q,R,hQ,hR,hvQ,hvR,hlong⟩:=zvd (T:=T) (A++[0]) B (A.length+1-B.length) nb hup hpos (by simp;omega) (by simp;omega) (z9d (by simp;omega) hup hBo)
    rw[zik,hvA,hvB,hvb,Nat.mul_div_mul_right _ _ (Nat.pow_pos (by decide))]at hvQ
    rw[zik,hvA,hvB,hvb,Nat.mul_mod_mul_right]at hvR
    have hnq:=zbq (T:=T) Q (by omega)
    have hAl1:(A++[(0:UInt32)]).length=A.length+1:=by simp
    rw[hAl1]at hlong hR
    have hdn:=zwp (T:=T) R s (by omega) (by omega)
    rw[hvR,Nat.mul_div_cancel _ (Nat.pow_pos (by decide))]at hdn
    rw[hvQ]at hnq
    obtain⟨q1,hq1⟩:∃p,p=nb+1:=⟨_,rfl⟩
    have c1:q1<b'.length:=by omega
    have hwt:b'[nb+1]'(by omega)=b'[q1]'c1:=zm0 (by omega) _ _
    rw[hwt]at hll
    have w1:IntKind.wrap .i64 ((b'.length:Int)-1)=(q1:Int):=by rw[zac _ (by omega)];omega
    have w2:IntKind.wrap .i64 (32-(l:Int))=(s:Int):=by rw[zac _ (by omega)];omega
    have c3:A.length≤4294967295:=by omega
    have c4:w32 0=0:=rfl
    have c5:A.length+1≤A.length+1-B.length+B.length:=by omega
    have c2:¬ ((b'.length:Int)=1):=by omega
    have t1:List.take (A.length+1) R=R:=List.take_of_length_le (by omega)
    have t2:List.take (A.length+1-B.length) Q=Q:=List.take_of_length_le (by omega)
    simp -implicitDefEqProofs[hnb,h0,hl0,hcmp,zdy,hlt,w1,w2,c1,c2,c3,c4,c5,hll,hua,hub,hlong,hnq,hdn,t1,t2,hQ,hR]
   ·have hl1:(ofN (val b)).length=1:=by omega
    obtain⟨w,hw⟩:=List.length_eq_one_iff.1 hl1
    have hvb:val b=w.toNat:=by
     have:=zah (val b)
     rw[hw]at this
     simp at this
     omega
    have hwl:=zaq w
    have hwd:=zvp (T:=T) a (val b) (by omega) (by omega) (by omega)
    have hof:=zih (T:=T) (val a%val b) (by have:=Nat.mod_lt (val a) (show 0<val b by omega);omega)
    have m1:val a%val b%18446744073709551616=val a%val b:=Nat.mod_eq_of_lt (by have:=Nat.mod_lt (val a) (show 0<val b by omega);omega)
    rw[hw]at hnb hcmp
    rw[←hvb]at hwl
    simp -implicitDefEqProofs[hnb,h0,hcmp,zdy,hlt,hwd,←hvb,hof,m1]
end
def digs(n:Nat):List UInt8:=if h:n<10 then [UInt8.ofNat (48+n)] else UInt8.ofNat (48+n%10)::digs (n/10)
termination_by n
decreasing_by omega
def textN(n:Nat):List UInt8:=(digs n).reverse
def wordOf:List AV→Option UInt32
 | [.i .u32 n]=>if 0≤n∧n<4294967296 then some (w32 n.toNat) else none
 | _=>none
def prim68:List AV→Option AV
 | [.sl els .an]=>if els.length≤1000 then (els.mapM wordOf).map fun l=>.s (textN (val l)) else none
 | _=>none
def wrAt:Nat→List UInt8→Int
 | _,[]=>-1
 | k,c::r=>if c.toNat<48∨57<c.toNat∨k=60 then k else wrAt (k+1) r
def wrongI(l:List UInt8):Int:=if l=[] then 0 else wrAt 0 l
def rd(l:List UInt8):Nat:=l.foldl (fun n c=>n*10+(c.toNat-48)) 0
def txN(n:Nat)(s:List UInt8):List UInt8:=if n=0∧s≠[] then s else textN n++s
def digK:Nat→Nat→List UInt8
 | 0,_=>[]
 | k+1,x=>digK k (x/10)++[UInt8.ofNat (48+x%10)]
def u8c(l:List UInt8):List AV:=l.map fun b=>u8 b.toNat
class CDigits (T:Tbl):Prop where
class CText (T:Tbl):Prop where
section
variable{T:Tbl}[CNat T][CProd T][CDigits T]
def stRi(l:List UInt8)(o:List UInt32)(i0 k:Nat):St:=
 ⟨[(0,.s l),(3,.ptr (.loc 3) 1 4 0 0),(5,.sl (u32s o) .an),(6,.i .i64 (i0+k:Nat)),(7,u32 (rd ((l.drop i0).take k))),(8,u32 (10^k)),(9,.i .i64 k)],[(.loc 3,⟨1,.str,4,[[.i .i64 0,.i .i64 0,.i .i64 0,.i .i64 0]]⟩)],3⟩
end
def sg(n:Bool)(k:Nat):Int:=if n then -(k:Int) else k
def wv(n:Bool)(a:List UInt32):Int:=sg n (val a)
abbrev wh(n:Bool)(a:List UInt32):AV:=.agg [.b n,.sl (u32s a) .an]
abbrev ez(z:Int):AV:=wh (decide (z<0)) (ofN z.natAbs)
def sgI(z:Int):Int:=if z<0 then -1 else if z=0 then 0 else 1
theorem zqc(n:Bool)(k:Nat):decide (sg n k<0)=(n&&decide (k≠0)):=by
 cases n
 ·simp[sg]
 ·by_cases h:k=0<;>simp[sg,h]
  omega
theorem zqd(n:Bool)(k:Nat):(sg n k).natAbs=k:=by cases n<;>simp[sg]
@[simp] theorem zi9(z:Int):wv (decide (z<0)) (ofN z.natAbs)=z:=by
 unfold wv
 rw[zah]
 by_cases h:z<0
 ·simp[sg,h];omega
 ·simp[sg,h];omega
theorem z9p(n:Bool)(a:List UInt32):(wv n a).natAbs=val a:=zqd n _
theorem zz0(n:Bool)(k:Nat):ez (sg n k)=wh (n&&decide (k≠0)) (ofN k):=by
 unfold ez
 rw[zqc,zqd]
theorem zow(n:Bool)(x y:Nat):sg n (x+y)=sg n x+sg n y:=by cases n<;>simp[sg]<;>omega
theorem zwt{n m:Bool}(h:n≠m){x y:Nat}(hxy:x<y):sg m (y-x)=sg n x+sg m y:=by
 cases n<;>cases m<;>simp[sg]at h ⊢<;>omega
theorem zwu{n m:Bool}(h:n≠m){x y:Nat}(hxy:¬ x<y):sg n (x-y)=sg n x+sg m y:=by
 cases n<;>cases m<;>simp[sg]at h ⊢<;>omega
theorem z9q(n:Bool)(x:Nat):sg (!n) x=- sg n x:=by cases n<;>simp[sg]
theorem z00(n m:Bool)(x y:Nat):sg (n != m) (x*y)=sg n x*sg m y:=by cases n<;>cases m<;>simp[sg,Int.mul_neg,Int.neg_mul]
theorem z01(n:Bool)(x:Nat):sgI (sg n x)=if x=0 then 0 else if n then -1 else 1:=by
 unfold sgI
 cases n<;>simp[sg]<;>split<;>(try split)<;>omega
def textZ(z:Int):List UInt8:=if z<0 then 45::textN z.natAbs else textN z.natAbs
theorem zd3{x y:Int}{L:Nat}(hx:(ofN x.natAbs).length≤L)(hy:(ofN y.natAbs).length≤L):(ofN (x+y).natAbs).length≤L+1:=by
 refine zat ?_
 have h1:=zbd (ofN x.natAbs)
 have h2:=zbd (ofN y.natAbs)
 rw[zah]at h1 h2
 have h3:4294967296^(ofN x.natAbs).length≤4294967296^L:=Nat.pow_le_pow_right (by decide) hx
 have h4:4294967296^(ofN y.natAbs).length≤4294967296^L:=Nat.pow_le_pow_right (by decide) hy
 rw[Nat.pow_succ]
 generalize 4294967296^L=p at *
 omega
theorem ziv(x:Int):ofN (-x).natAbs=ofN x.natAbs:=by rw[Int.natAbs_neg]
theorem zay{x y:Int}{L M:Nat}(hx:(ofN x.natAbs).length≤L)(hy:(ofN y.natAbs).length≤M):(ofN (x*y).natAbs).length≤L+M:=by
 refine zat ?_
 have h1:=zbd (ofN x.natAbs)
 have h2:=zbd (ofN y.natAbs)
 rw[zah]at h1 h2
 rw[Int.natAbs_mul,Nat.pow_add]
 exact Nat.mul_lt_mul'' (Nat.lt_of_lt_of_le h1 (Nat.pow_le_pow_right (by decide) hx)) (Nat.lt_of_lt_of_le h2 (Nat.pow_le_pow_right (by decide) hy))
theorem zb5(n:Bool)(a:List UInt32):(ofN (wv n a).natAbs).length≤a.length:=by rw[z9p];exact zad a
def readZ(l:List UInt8):Int:=sg (l.head? = some 45) (rd (if l.head? = some 45 then l.tail else l))
def wrongZ(l:List UInt8):Int:=wrongI (if l.head? = some 45 then l.tail else l)
def minus(l:List UInt8):Int:=if l.head? = some 45 then 1 else 0
def b55:AX:=
 (.seq
 (.reg [rg 4 (.alloc [(.b false),(.sl [] .nl)])])
 (.seq
 (.reg [mv 5 0,mv 6 5,gd 7 6 true (.mov (.t 1)),gd 8 6 true (.len (.t 7)),gd 9 6 true (.bin .gtr (.t 8) (.c (.i .i64 0))),rg 10 (.pick (.t 6) (.t 9) (.c (.b false))),mv 11 1,rg 12 (.build [(.b false),(.sl [] .nl)] [(0,1,(.t 10)),(1,1,(.t 11))]),so (.store 2 (.t 4) (.t 12))])
 (.pre (.norm false [4]) .ret)))
def b38:AX:=
 (.seq
 (.reg [rg 1 (.xop (.box 2) [(.t 0)]),rg 2 (.alloc [(.b false),(.sl [] .nl)])])
 (.seq
 (.drawT [rg 3 (.fad 0 (.t 1)),rg 4 (.load none (.t 3)),rg 5 (.fad 1 (.t 1)),rg 6 (.load none (.t 5)),rg 7 (.call 71 [(.t 6)])]
 [rg 8 (.call 55 [(.t 4),(.t 7)]),so (.store 2 (.t 2) (.t 8))])
 (.pre (.norm false [2]) .ret)))
def b40:AX:=
 (.seq
 (.reg [rg 1 (.xop (.box 2) [(.t 0)]),rg 2 (.alloc [(.b false),(.sl [] .nl)])])
 (.seq
 (.drawT [rg 3 (.fad 0 (.t 1)),rg 4 (.load none (.t 3)),rg 5 (.un .not (.t 4)),rg 6 (.fad 1 (.t 1)),rg 7 (.load none (.t 6)),rg 8 (.call 71 [(.t 7)])]
 [rg 9 (.call 55 [(.t 5),(.t 8)]),so (.store 2 (.t 2) (.t 9))])
 (.pre (.norm false [2]) .ret)))
def b23:AX:=
 (.seq
 (.reg [rg 2 (.xop (.box 2) [(.t 0)]),rg 3 (.xop (.box 2) [(.t 1)]),rg 4 (.alloc [(.b false),(.sl [] .nl)])])
 (.seq
 (.seq
 (.reg [rg 7 (.fad 0 (.t 2)),rg 8 (.load none (.t 7)),rg 9 (.fad 0 (.t 3)),rg 10 (.load none (.t 9)),rg 11 (.eqb false (.t 8) (.t 10))])
 (.cond (.t 11)
 (.seq
 (.drawT [rg 12 (.fad 0 (.t 2)),rg 13 (.load none (.t 12)),rg 14 (.fad 1 (.t 2)),rg 15 (.load none (.t 14)),rg 16 (.fad 1 (.t 3)),rg 17 (.load none (.t 16)),rg 18 (.bsl 1 [(.sl [] .nl)] 2 [(0,(.t 15)),(1,(.t 17))]),rg 19 (.call 56 [(.t 18)])]
 [rg 20 (.call 55 [(.t 13),(.t 19)]),so (.store 2 (.t 4) (.t 20))])
 (.pre (.norm false [4]) .ret))
 .skip))
 (.seq
 (.reg [rg 22 (.fad 1 (.t 2)),rg 23 (.load none (.t 22)),rg 24 (.fad 1 (.t 3)),rg 25 (.load none (.t 24)),rg 26 (.call 57 [(.t 23),(.t 25)]),mv 21 26,rg 27 (.ext (.t 21) 0),rg 28 (.ext (.t 21) 1),mv 5 27,mv 6 28])
 (.seq
 (.seq
 (.reg [mv 29 6,rg 30 (.bin .lss (.t 29) (.c (.i .i64 0)))])
 (.cond (.t 30)
 (.seq
 (.reg [rg 31 (.fad 0 (.t 3)),rg 32 (.load none (.t 31)),mv 33 5,rg 34 (.call 55 [(.t 32),(.t 33)]),so (.store 2 (.t 4) (.t 34))])
 (.pre (.norm false [4]) .ret))
 .skip))
 (.seq
 (.reg [rg 35 (.fad 0 (.t 2)),rg 36 (.load none (.t 35)),mv 37 5,rg 38 (.call 55 [(.t 36),(.t 37)]),so (.store 2 (.t 4) (.t 38))])
 (.pre (.norm false [4]) .ret))))))
def b25:AX:=
 (.seq
 (.reg [rg 2 (.xop (.box 2) [(.t 0)]),rg 3 (.xop (.box 2) [(.t 1)]),rg 4 (.alloc [(.b false),(.sl [] .nl)])])
 (.seq
 (.drawT [rg 5 (.load (some 2) (.t 2)),rg 6 (.load (some 2) (.t 3)),rg 7 (.call 40 [(.t 6)])]
 [rg 8 (.call 23 [(.t 5),(.t 7)]),so (.store 2 (.t 4) (.t 8))])
 (.pre (.norm false [4]) .ret)))
def b27:AX:=
 (.seq
 (.reg [rg 2 (.xop (.box 2) [(.t 0)]),rg 3 (.xop (.box 2) [(.t 1)]),rg 4 (.alloc [(.b false),(.sl [] .nl)])])
 (.seq
 (.drawT [rg 5 (.fad 0 (.t 2)),rg 6 (.load none (.t 5)),rg 7 (.fad 0 (.t 3)),rg 8 (.load none (.t 7)),rg 9 (.eqb true (.t 6) (.t 8)),rg 10 (.fad 1 (.t 2)),rg 11 (.load none (.t 10)),rg 12 (.fad 1 (.t 3)),rg 13 (.load none (.t 12)),rg 14 (.call 60 [(.t 11),(.t 13)])]
 [rg 15 (.call 55 [(.t 9),(.t 14)]),so (.store 2 (.t 4) (.t 15))])
 (.pre (.norm false [4]) .ret)))
def b37:AX:=
 (.seq
 (.reg [rg 1 (.xop (.box 2) [(.t 0)]),rg 2 (.mov (.c (.i .i64 0)))])
 (.seq
 (.block 0
 (.seq
 (.reg [rg 4 (.fad 1 (.t 1)),rg 5 (.load none (.t 4)),rg 6 (.call 70 [(.t 5)]),mv 3 6])
 (.cond (.t 3)
 (.seq
 (.reg [rg 2 (.mov (.c (.i .i64 0)))])
 (.pre (.norm false [2]) .ret))
 (.seq
 (.reg [rg 8 (.fad 0 (.t 1)),rg 9 (.load none (.t 8)),mv 7 9])
 (.cond (.t 7)
 (.seq
 (.reg [rg 2 (.mov (.c (.i .i64 (-1))))])
 (.pre (.norm false [2]) .ret))
 .skip)))))
 (.seq
 (.reg [rg 2 (.mov (.c (.i .i64 1)))])
 (.pre (.norm false [2]) .ret))))
def b41:AX:=
 (.seq
 (.reg [rg 2 (.alloc [(.b false),(.sl [] .nl)])])
 (.seq
 (.seq
 (.reg [mv 3 0,rg 4 (.bin .lss (.t 3) (.c (.i .i64 0)))])
 (.cond (.t 4)
 (.seq
 (.reg [mv 5 0,rg 6 (.conv .u64 (.t 5)),rg 7 (.un .neg (.t 6)),rg 8 (.call 72 [(.t 7)]),rg 9 (.call 55 [(.c (.b true)),(.t 8)]),so (.store 2 (.t 2) (.t 9))])
 (.pre (.norm false [2]) .ret))
 .skip))
 (.seq
 (.reg [mv 10 0,rg 11 (.conv .u64 (.t 10)),rg 12 (.call 72 [(.t 11)]),rg 13 (.call 55 [(.c (.b false)),(.t 12)]),so (.store 2 (.t 2) (.t 13))])
 (.pre (.norm false [2]) .ret))))
def b36:AX:=
 (.seq
 (.reg [rg 2 (.xop (.box 2) [(.t 0)]),rg 3 (.xop (.box 2) [(.t 1)]),rg 4 (.mov (.c (.i .i64 0)))])
 (.seq
 (.reg [rg 5 (.load (some 2) (.t 2)),rg 6 (.load (some 2) (.t 3)),rg 7 (.call 25 [(.t 5),(.t 6)]),rg 8 (.call 37 [(.t 7)]),mv 4 8])
 (.pre (.norm false [4]) .ret)))
class CWhole (T:Tbl):Prop where
 h55:T 55=some ⟨2,13,[.cell 4 (some 2)],b55,none,false⟩
 h38:T 38=some ⟨1,9,[.cell 2 (some 2)],b38,none,false⟩
 h40:T 40=some ⟨1,10,[.cell 2 (some 2)],b40,none,false⟩
 h23:T 23=some ⟨2,39,[.cell 4 (some 2)],b23,none,false⟩
 h25:T 25=some ⟨2,9,[.cell 4 (some 2)],b25,none,false⟩
 h27:T 27=some ⟨2,16,[.cell 4 (some 2)],b27,none,false⟩
 h37:T 37=some ⟨1,10,[.t 2],b37,none,false⟩
 h41:T 41=some ⟨1,14,[.cell 2 (some 2)],b41,none,false⟩
 h36:T 36=some ⟨2,9,[.t 4],b36,none,false⟩
section
variable{T:Tbl}[CWhole T]{d:Option Nat}{st:St}
@[simp] theorem x55(xs:List AV):callX (orc T) T 55 xs d st=cP T 55 false xs d st:=zaa CWhole.h55
theorem f55(xs:List AV)(hn:xs.length=2):callF T 55 xs=retF [.cell 4 (some 2)] false (evX (orc T) T 0 b55 ⟨argEnv xs,[],1⟩):=zab CWhole.h55 hn
@[simp] theorem x38(xs:List AV):callX (orc T) T 38 xs d st=cP T 38 false xs d st:=zaa CWhole.h38
theorem f38(xs:List AV)(hn:xs.length=1):callF T 38 xs=retF [.cell 2 (some 2)] false (evX (orc T) T 0 b38 ⟨argEnv xs,[],1⟩):=zab CWhole.h38 hn
@[simp] theorem x40(xs:List AV):callX (orc T) T 40 xs d st=cP T 40 false xs d st:=zaa CWhole.h40
@[simp] theorem y40{e:Env}{h:Heap}{older:List Heap}(args:List Opd):opD (orc T) T (.call 40 args) e h older=dR (callF T 40 ((args.map (ev e.get)).map (wkIf false))) (args.map (ev e.get)):=zal CWhole.h40
theorem f40(xs:List AV)(hn:xs.length=1):callF T 40 xs=retF [.cell 2 (some 2)] false (evX (orc T) T 0 b40 ⟨argEnv xs,[],1⟩):=zab CWhole.h40 hn
@[simp] theorem x23(xs:List AV):callX (orc T) T 23 xs d st=cP T 23 false xs d st:=zaa CWhole.h23
@[simp] theorem y23{e:Env}{h:Heap}{older:List Heap}(args:List Opd):opD (orc T) T (.call 23 args) e h older=dR (callF T 23 ((args.map (ev e.get)).map (wkIf false))) (args.map (ev e.get)):=zal CWhole.h23
theorem f23(xs:List AV)(hn:xs.length=2):callF T 23 xs=retF [.cell 4 (some 2)] false (evX (orc T) T 0 b23 ⟨argEnv xs,[],1⟩):=zab CWhole.h23 hn
@[simp] theorem x25(xs:List AV):callX (orc T) T 25 xs d st=cP T 25 false xs d st:=zaa CWhole.h25
@[simp] theorem y25{e:Env}{h:Heap}{older:List Heap}(args:List Opd):opD (orc T) T (.call 25 args) e h older=dR (callF T 25 ((args.map (ev e.get)).map (wkIf false))) (args.map (ev e.get)):=zal CWhole.h25
theorem f25(xs:List AV)(hn:xs.length=2):callF T 25 xs=retF [.cell 4 (some 2)] false (evX (orc T) T 0 b25 ⟨argEnv xs,[],1⟩):=zab CWhole.h25 hn
@[simp] theorem x27(xs:List AV):callX (orc T) T 27 xs d st=cP T 27 false xs d st:=zaa CWhole.h27
theorem f27(xs:List AV)(hn:xs.length=2):callF T 27 xs=retF [.cell 4 (some 2)] false (evX (orc T) T 0 b27 ⟨argEnv xs,[],1⟩):=zab CWhole.h27 hn
@[simp] theorem x37(xs:List AV):callX (orc T) T 37 xs d st=cP T 37 false xs d st:=zaa CWhole.h37
theorem f37(xs:List AV)(hn:xs.length=1):callF T 37 xs=retF [.t 2] false (evX (orc T) T 0 b37 ⟨argEnv xs,[],1⟩):=zab CWhole.h37 hn
@[simp] theorem x41(xs:List AV):callX (orc T) T 41 xs d st=cP T 41 false xs d st:=zaa CWhole.h41
theorem f41(xs:List AV)(hn:xs.length=1):callF T 41 xs=retF [.cell 2 (some 2)] false (evX (orc T) T 0 b41 ⟨argEnv xs,[],1⟩):=zab CWhole.h41 hn
@[simp] theorem x36(xs:List AV):callX (orc T) T 36 xs d st=cP T 36 false xs d st:=zaa CWhole.h36
theorem f36(xs:List AV)(hn:xs.length=2):callF T 36 xs=retF [.t 4] false (evX (orc T) T 0 b36 ⟨argEnv xs,[],1⟩):=zab CWhole.h36 hn
end
def l198_0:AX:=
 (.note
 (.seq
 (.seq
 (.reg [mv 5 1,rg 6 (.bin .neq (.t 5) (.c (u64 0)))])
 (.cond (.t 6)
 .skip
 (.exit 0)))
 (.block 1
 (.drawT [mv 7 1,mv 8 0,mv 9 1,rg 10 (.bin .rem (.t 8) (.t 9)),mv 0 7]
 [mv 1 10])))
 (.norm false [0,1]))
def b198:AX:=
 (.seq
 (.reg [rg 4 (.mov (.c (u64 0)))])
 (.seq
 (.lp 0 (.norm false [0,1]) l198_0 (.norm false [0]))
 (.seq
 (.reg [mv 11 0,mv 4 11])
 (.pre (.norm false [4]) .ret))))
def l199_0:AX:=
 (.note
 (.seq
 (.seq
 (.reg [mv 19 1,rg 20 (.len (.t 19)),rg 21 (.bin .gtr (.t 20) (.c (.i .i64 2)))])
 (.cond (.t 21)
 .skip
 (.exit 0)))
 (.block 1
 (.seq
 (.reg [mv 23 0,mv 24 1,rg 25 (.call 62 [(.t 23),(.t 24)]),mv 22 25,rg 26 (.ext (.t 22) 0),rg 27 (.ext (.t 22) 1),rg 28 (.ext (.t 22) 2),mv 5 26,mv 6 27,mv 7 28])
 (.reg [mv 29 1,mv 30 6,mv 0 29,mv 1 30]))))
 (.norm false [0,1]))
def b199:AX:=
 (.seq
 (.reg [rg 4 (.mov (.c (.sl [] .nl)))])
 (.seq
 (.reg [mv 15 0,rg 16 (.call 71 [(.t 15)]),mv 17 1,rg 18 (.call 71 [(.t 17)]),mv 0 16,mv 1 18])
 (.seq
 (.lp 0 (.norm false [0,1]) l199_0 (.norm false [0,1]))
 (.seq
 (.seq
 (.reg [mv 31 1,rg 32 (.len (.t 31)),rg 33 (.bin .eql (.t 32) (.c (.i .i64 0)))])
 (.cond (.t 33)
 (.seq
 (.reg [mv 34 0,mv 4 34])
 (.pre (.norm false [4]) .ret))
 .skip))
 (.seq
 (.reg [mv 36 0,mv 37 1,rg 38 (.call 62 [(.t 36),(.t 37)]),mv 35 38,rg 39 (.ext (.t 35) 0),rg 40 (.ext (.t 35) 1),rg 41 (.ext (.t 35) 2),mv 8 39,mv 9 40,mv 10 41])
 (.seq
 (.reg [mv 43 1,rg 44 (.call 73 [(.t 43)]),mv 42 44,rg 45 (.ext (.t 42) 0),rg 46 (.ext (.t 42) 1),mv 11 45,mv 12 46])
 (.seq
 (.reg [mv 48 9,rg 49 (.call 73 [(.t 48)]),mv 47 49,rg 50 (.ext (.t 47) 0),rg 51 (.ext (.t 47) 1),mv 13 50,mv 14 51])
 (.seq
 (.reg [mv 52 11,mv 53 13,rg 54 (.call 198 [(.t 52),(.t 53)]),rg 55 (.call 72 [(.t 54)]),mv 4 55])
 (.pre (.norm false [4]) .ret)))))))))
def b200:AX:=
 (.seq
 (.reg [rg 2 (.mov (.c (.b false)))])
 (.seq
 (.reg [mv 3 0,rg 4 (.len (.t 3)),rg 5 (.bin .eql (.t 4) (.c (.i .i64 1))),mv 6 5,gd 7 6 true (.mov (.t 0)),gd 8 6 true (.iad 1 (.t 7) (.c (.i .i64 0))),gd 9 6 true (.load none (.t 8)),gd 10 6 true (.bin .eql (.t 9) (.c (u32 1))),rg 11 (.pick (.t 6) (.t 10) (.c (.b false))),mv 2 11])
 (.pre (.norm false [2]) .ret)))
def b201:AX:=
 (.seq
 (.reg [rg 4 (.mov (.c (.sl [] .nl))),rg 5 (.mov (.c (.sl [] .nl)))])
 (.seq
 (.reg [mv 7 0,mv 8 1,rg 9 (.call 199 [(.t 7),(.t 8)]),mv 6 9])
 (.seq
 (.block 0
 (.seq
 (.reg [mv 11 6,rg 12 (.len (.t 11)),rg 13 (.bin .eql (.t 12) (.c (.i .i64 0))),mv 10 13])
 (.cond (.t 10)
 (.seq
 (.reg [rg 4 (.mov (.c (.sl [] .nl))),rg 5 (.mov (.c (.sl [] .nl)))])
 (.pre (.norm false [4,5]) .ret))
 (.seq
 (.reg [mv 15 6,rg 16 (.call 200 [(.t 15)]),mv 14 16])
 (.cond (.t 14)
 (.seq
 (.reg [mv 17 0,rg 18 (.call 71 [(.t 17)]),mv 19 1,rg 20 (.call 71 [(.t 19)]),mv 4 18,mv 5 20])
 (.pre (.norm false [4,5]) .ret))
 .skip)))))
 (.seq
 (.reg [mv 22 0,mv 23 6,rg 24 (.call 62 [(.t 22),(.t 23)]),mv 21 24,rg 25 (.ext (.t 21) 0),rg 26 (.ext (.t 21) 1),rg 27 (.ext (.t 21) 2),mv 4 25])
 (.seq
 (.reg [mv 29 1,mv 30 6,rg 31 (.call 62 [(.t 29),(.t 30)]),mv 28 31,rg 32 (.ext (.t 28) 0),rg 33 (.ext (.t 28) 1),rg 34 (.ext (.t 28) 2),mv 5 32])
 (.seq
 (.reg [mv 35 4,mv 36 5,mv 4 35,mv 5 36])
 (.pre (.norm false [4,5]) .ret)))))))
class CCommon (T:Tbl):Prop where
 h198:T 198=some ⟨2,12,[.t 4],b198,none,false⟩
 h199:T 199=some ⟨2,56,[.t 4],b199,none,false⟩
 h200:T 200=some ⟨1,12,[.t 2],b200,none,false⟩
 h201:T 201=some ⟨2,37,[.t 4,.t 5],b201,none,false⟩
section
variable{T:Tbl}[CCommon T]{d:Option Nat}{st:St}{xs:List AV}{ps:List Opd}{e:Env}{h:Heap}{ol:List Heap}
@[simp] theorem x198:callX (orc T) T 198 xs d st=cP T 198 false xs d st:=zaa CCommon.h198
theorem f198(xs:List AV)(hn:xs.length=2):callF T 198 xs=retF [.t 4] false (evX (orc T) T 0 b198 ⟨argEnv xs,[],1⟩):=zab CCommon.h198 hn
@[simp] theorem x199:callX (orc T) T 199 xs d st=cP T 199 false xs d st:=zaa CCommon.h199
theorem f199(xs:List AV)(hn:xs.length=2):callF T 199 xs=retF [.t 4] false (evX (orc T) T 0 b199 ⟨argEnv xs,[],1⟩):=zab CCommon.h199 hn
@[simp] theorem x200:callX (orc T) T 200 xs d st=cP T 200 false xs d st:=zaa CCommon.h200
theorem f200(xs:List AV)(hn:xs.length=1):callF T 200 xs=retF [.t 2] false (evX (orc T) T 0 b200 ⟨argEnv xs,[],1⟩):=zab CCommon.h200 hn
@[simp] theorem x201:callX (orc T) T 201 xs d st=cP T 201 false xs d st:=zaa CCommon.h201
theorem f201(xs:List AV)(hn:xs.length=2):callF T 201 xs=retF [.t 4,.t 5] false (evX (orc T) T 0 b201 ⟨argEnv xs,[],1⟩):=zab CCommon.h201 hn
end
def b202:AX:=
 (.seq
 (.reg [rg 2 (.xop (.box 2) [(.t 0)]),rg 4 (.alloc [(.b false),(.sl [] .nl),(.sl [] .nl)])])
 (.seq
 (.reg [rg 8 (.fad 1 (.t 2)),rg 9 (.load none (.t 8)),mv 10 1,rg 11 (.call 201 [(.t 9),(.t 10)]),mv 7 11,rg 12 (.ext (.t 7) 0),rg 13 (.ext (.t 7) 1),mv 5 12,mv 6 13])
 (.seq
 (.reg [rg 14 (.fad 0 (.t 2)),rg 15 (.load none (.t 14)),mv 16 5,rg 17 (.build [(.b false),(.sl [] .nl)] [(0,1,(.t 15)),(1,1,(.t 16))]),rg 18 (.call 38 [(.t 17)]),mv 19 6,rg 20 (.build [(.b false),(.sl [] .nl),(.sl [] .nl)] [(0,2,(.t 18)),(2,1,(.t 19))]),so (.store 3 (.t 4) (.t 20))])
 (.pre (.norm false [4]) .ret))))
def b203:AX:=
 (.seq
 (.reg [rg 1 (.xop (.box 3) [(.t 0)]),rg 2 (.alloc [(.b false),(.sl [] .nl)]),rg 3 (.mov (.c (.sl [] .nl)))])
 (.seq
 (.seq
 (.reg [rg 4 (.fad 2 (.t 1)),rg 5 (.load none (.t 4)),rg 6 (.call 70 [(.t 5)])])
 (.cond (.t 6)
 (.seq
 (.reg [rg 7 (.build [(.b false),(.sl [] .nl)] []),rg 8 (.call 72 [(.c (u64 1))]),so (.store 2 (.t 2) (.t 7)),mv 3 8])
 (.pre (.norm false [2,3]) .ret))
 .skip))
 (.seq
 (.draw [⟨rg 9 (.fad 0 (.t 1)),0,0⟩,⟨rg 10 (.load (some 2) (.t 9)),0,0⟩,⟨rg 11 (.fad 2 (.t 1)),0,1⟩,⟨rg 12 (.load none (.t 11)),0,1⟩,⟨so (.store 2 (.t 2) (.t 10)),0,1⟩,⟨mv 3 12,1,1⟩])
 (.pre (.norm false [2,3]) .ret))))
def b205:AX:=
 (.seq
 (.reg [rg 2 (.alloc [(.b false),(.sl [] .nl),(.sl [] .nl)])])
 (.seq
 (.reg [mv 3 0,rg 4 (.call 41 [(.t 3)]),rg 5 (.call 72 [(.c (u64 1))]),rg 6 (.build [(.b false),(.sl [] .nl),(.sl [] .nl)] [(0,2,(.t 4)),(2,1,(.t 5))]),so (.store 3 (.t 2) (.t 6))])
 (.pre (.norm false [2]) .ret)))
def b207:AX:=
 (.seq
 (.reg [rg 1 (.xop (.box 3) [(.t 0)]),rg 2 (.alloc [(.b false),(.sl [] .nl),(.sl [] .nl)])])
 (.seq
 (.reg [rg 3 (.load (some 3) (.t 1)),rg 4 (.call 203 [(.t 3)]),rg 5 (.ext (.t 4) 0),rg 6 (.ext (.t 4) 1),rg 7 (.call 202 [(.t 5),(.t 6)]),so (.store 3 (.t 2) (.t 7))])
 (.pre (.norm false [2]) .ret)))
def b209:AX:=
 (.seq
 (.reg [rg 1 (.xop (.box 3) [(.t 0)]),rg 2 (.mov (.c (.i .i64 0)))])
 (.seq
 (.reg [rg 6 (.load (some 3) (.t 1)),rg 7 (.call 203 [(.t 6)]),mv 5 7,rg 8 (.ext (.t 5) 0),rg 9 (.ext (.t 5) 1),rg 3 (.alloc [(.b false),(.sl [] .nl)]),so (.store 2 (.t 3) (.t 8)),mv 4 9])
 (.seq
 (.reg [rg 10 (.load (some 2) (.t 3)),rg 11 (.call 37 [(.t 10)]),mv 2 11])
 (.pre (.norm false [2]) .ret))))
def b210:AX:=
 (.seq
 (.reg [rg 2 (.xop (.box 2) [(.t 0)]),rg 4 (.alloc [(.b false),(.sl [] .nl)])])
 (.seq
 (.reg [rg 5 (.load (some 2) (.t 2)),mv 6 1,rg 7 (.build [(.b false),(.sl [] .nl)] [(1,1,(.t 6))]),rg 8 (.call 27 [(.t 5),(.t 7)]),so (.store 2 (.t 4) (.t 8))])
 (.pre (.norm false [4]) .ret)))
def b211:AX:=
 (.seq
 (.reg [rg 2 (.xop (.box 3) [(.t 0)]),rg 3 (.xop (.box 3) [(.t 1)]),rg 4 (.mov (.c (.i .i64 0)))])
 (.seq
 (.reg [rg 10 (.load (some 3) (.t 2)),rg 11 (.call 203 [(.t 10)]),mv 9 11,rg 12 (.ext (.t 9) 0),rg 13 (.ext (.t 9) 1),rg 5 (.alloc [(.b false),(.sl [] .nl)]),so (.store 2 (.t 5) (.t 12)),mv 6 13])
 (.seq
 (.reg [rg 15 (.load (some 3) (.t 3)),rg 16 (.call 203 [(.t 15)]),mv 14 16,rg 17 (.ext (.t 14) 0),rg 18 (.ext (.t 14) 1),rg 7 (.alloc [(.b false),(.sl [] .nl)]),so (.store 2 (.t 7) (.t 17)),mv 8 18])
 (.seq
 (.drawT [rg 19 (.load (some 2) (.t 5)),mv 20 8,rg 21 (.call 210 [(.t 19),(.t 20)]),rg 22 (.load (some 2) (.t 7)),mv 23 6]
 [rg 24 (.call 210 [(.t 22),(.t 23)]),rg 25 (.call 36 [(.t 21),(.t 24)]),mv 4 25])
 (.pre (.norm false [4]) .ret)))))
def b212:AX:=
 (.seq
 (.reg [rg 2 (.xop (.box 3) [(.t 0)]),rg 3 (.xop (.box 3) [(.t 1)]),rg 4 (.mov (.c (.b false)))])
 (.seq
 (.reg [rg 5 (.load (some 3) (.t 2)),rg 6 (.load (some 3) (.t 3)),rg 7 (.call 211 [(.t 5),(.t 6)]),rg 8 (.bin .eql (.t 7) (.c (.i .i64 0))),mv 4 8])
 (.pre (.norm false [4]) .ret)))
def b213:AX:=
 (.seq
 (.reg [rg 1 (.xop (.box 3) [(.t 0)]),rg 2 (.alloc [(.b false),(.sl [] .nl),(.sl [] .nl)])])
 (.seq
 (.reg [rg 4 (.load (some 3) (.t 1)),rg 5 (.call 207 [(.t 4)]),rg 3 (.alloc [(.b false),(.sl [] .nl),(.sl [] .nl)]),so (.store 3 (.t 3) (.t 5))])
 (.seq
 (.reg [rg 6 (.fad 0 (.t 3)),rg 7 (.load (some 2) (.t 6)),rg 8 (.call 40 [(.t 7)]),rg 9 (.fad 0 (.t 3)),so (.store 2 (.t 9) (.t 8))])
 (.seq
 (.reg [rg 10 (.load (some 3) (.t 3)),so (.store 3 (.t 2) (.t 10))])
 (.pre (.norm false [2]) .ret)))))
def b215:AX:=
 (.seq
 (.reg [rg 2 (.xop (.box 3) [(.t 0)]),rg 3 (.xop (.box 3) [(.t 1)]),rg 4 (.alloc [(.b false),(.sl [] .nl),(.sl [] .nl)])])
 (.seq
 (.reg [rg 10 (.load (some 3) (.t 2)),rg 11 (.call 203 [(.t 10)]),mv 9 11,rg 12 (.ext (.t 9) 0),rg 13 (.ext (.t 9) 1),rg 5 (.alloc [(.b false),(.sl [] .nl)]),so (.store 2 (.t 5) (.t 12)),mv 6 13])
 (.seq
 (.reg [rg 15 (.load (some 3) (.t 3)),rg 16 (.call 203 [(.t 15)]),mv 14 16,rg 17 (.ext (.t 14) 0),rg 18 (.ext (.t 14) 1),rg 7 (.alloc [(.b false),(.sl [] .nl)]),so (.store 2 (.t 7) (.t 17)),mv 8 18])
 (.seq
 (.drawT [rg 19 (.load (some 2) (.t 5)),mv 20 8,rg 21 (.call 210 [(.t 19),(.t 20)]),rg 22 (.load (some 2) (.t 7)),mv 23 6,rg 24 (.call 210 [(.t 22),(.t 23)]),rg 25 (.call 23 [(.t 21),(.t 24)]),mv 26 6,mv 27 8]
 [rg 28 (.call 60 [(.t 26),(.t 27)]),rg 29 (.call 202 [(.t 25),(.t 28)]),so (.store 3 (.t 4) (.t 29))])
 (.pre (.norm false [4]) .ret)))))
def b216:AX:=
 (.seq
 (.reg [rg 2 (.xop (.box 3) [(.t 0)]),rg 3 (.xop (.box 3) [(.t 1)]),rg 4 (.alloc [(.b false),(.sl [] .nl),(.sl [] .nl)])])
 (.seq
 (.reg [rg 10 (.load (some 3) (.t 2)),rg 11 (.call 203 [(.t 10)]),mv 9 11,rg 12 (.ext (.t 9) 0),rg 13 (.ext (.t 9) 1),rg 5 (.alloc [(.b false),(.sl [] .nl)]),so (.store 2 (.t 5) (.t 12)),mv 6 13])
 (.seq
 (.reg [rg 15 (.load (some 3) (.t 3)),rg 16 (.call 203 [(.t 15)]),mv 14 16,rg 17 (.ext (.t 14) 0),rg 18 (.ext (.t 14) 1),rg 7 (.alloc [(.b false),(.sl [] .nl)]),so (.store 2 (.t 7) (.t 17)),mv 8 18])
 (.seq
 (.drawT [rg 19 (.load (some 2) (.t 5)),mv 20 8,rg 21 (.call 210 [(.t 19),(.t 20)]),rg 22 (.load (some 2) (.t 7)),mv 23 6,rg 24 (.call 210 [(.t 22),(.t 23)]),rg 25 (.call 25 [(.t 21),(.t 24)]),mv 26 6,mv 27 8]
 [rg 28 (.call 60 [(.t 26),(.t 27)]),rg 29 (.call 202 [(.t 25),(.t 28)]),so (.store 3 (.t 4) (.t 29))])
 (.pre (.norm false [4]) .ret)))))
def b217:AX:=
 (.seq
 (.reg [rg 2 (.xop (.box 3) [(.t 0)]),rg 3 (.xop (.box 3) [(.t 1)]),rg 4 (.alloc [(.b false),(.sl [] .nl),(.sl [] .nl)])])
 (.seq
 (.reg [rg 10 (.load (some 3) (.t 2)),rg 11 (.call 203 [(.t 10)]),mv 9 11,rg 12 (.ext (.t 9) 0),rg 13 (.ext (.t 9) 1),rg 5 (.alloc [(.b false),(.sl [] .nl)]),so (.store 2 (.t 5) (.t 12)),mv 6 13])
 (.seq
 (.reg [rg 15 (.load (some 3) (.t 3)),rg 16 (.call 203 [(.t 15)]),mv 14 16,rg 17 (.ext (.t 14) 0),rg 18 (.ext (.t 14) 1),rg 7 (.alloc [(.b false),(.sl [] .nl)]),so (.store 2 (.t 7) (.t 17)),mv 8 18])
 (.seq
 (.reg [rg 19 (.load (some 2) (.t 5)),rg 20 (.load (some 2) (.t 7)),rg 21 (.call 27 [(.t 19),(.t 20)]),mv 22 6,mv 23 8,rg 24 (.call 60 [(.t 22),(.t 23)]),rg 25 (.call 202 [(.t 21),(.t 24)]),so (.store 3 (.t 4) (.t 25))])
 (.pre (.norm false [4]) .ret)))))
def b218:AX:=
 (.seq
 (.reg [rg 2 (.xop (.box 3) [(.t 0)]),rg 3 (.xop (.box 3) [(.t 1)]),rg 4 (.alloc [(.b false),(.sl [] .nl),(.sl [] .nl)]),rg 5 (.mov (.c (.b false)))])
 (.seq
 (.reg [rg 12 (.load (some 3) (.t 2)),rg 13 (.call 203 [(.t 12)]),mv 11 13,rg 14 (.ext (.t 11) 0),rg 15 (.ext (.t 11) 1),rg 6 (.alloc [(.b false),(.sl [] .nl)]),so (.store 2 (.t 6) (.t 14)),mv 7 15])
 (.seq
 (.reg [rg 17 (.load (some 3) (.t 3)),rg 18 (.call 203 [(.t 17)]),mv 16 18,rg 19 (.ext (.t 16) 0),rg 20 (.ext (.t 16) 1),rg 8 (.alloc [(.b false),(.sl [] .nl)]),so (.store 2 (.t 8) (.t 19)),mv 9 20])
 (.seq
 (.seq
 (.reg [rg 21 (.load (some 2) (.t 8)),rg 22 (.call 37 [(.t 21)]),rg 23 (.bin .eql (.t 22) (.c (.i .i64 0)))])
 (.cond (.t 23)
 (.seq
 (.reg [rg 24 (.call 205 [(.c (.i .i64 0))]),so (.store 3 (.t 4) (.t 24)),rg 5 (.mov (.c (.b false)))])
 (.pre (.norm false [4,5]) .ret))
 .skip))
 (.seq
 (.reg [rg 25 (.load (some 2) (.t 6)),mv 26 9,rg 27 (.call 210 [(.t 25),(.t 26)]),rg 10 (.alloc [(.b false),(.sl [] .nl)]),so (.store 2 (.t 10) (.t 27))])
 (.seq
 (.reg [rg 28 (.fad 0 (.t 10)),rg 29 (.load none (.t 28)),rg 30 (.fad 0 (.t 8)),rg 31 (.load none (.t 30)),rg 32 (.eqb true (.t 29) (.t 31)),rg 33 (.fad 0 (.t 10)),so (.store 1 (.t 33) (.t 32))])
 (.seq
 (.drawT [rg 34 (.load (some 2) (.t 10)),mv 35 7,rg 36 (.fad 1 (.t 8)),rg 37 (.load none (.t 36)),rg 38 (.call 60 [(.t 35),(.t 37)])]
 [rg 39 (.call 202 [(.t 34),(.t 38)]),so (.store 3 (.t 4) (.t 39)),rg 5 (.mov (.c (.b true)))])
 (.pre (.norm false [4,5]) .ret))))))))
class CFrac (T:Tbl):Prop where
 h202:T 202=some ⟨2,21,[.cell 4 (some 3)],b202,none,false⟩
 h203:T 203=some ⟨1,13,[.cell 2 (some 2),.t 3],b203,none,false⟩
 h205:T 205=some ⟨1,7,[.cell 2 (some 3)],b205,none,false⟩
 h207:T 207=some ⟨1,8,[.cell 2 (some 3)],b207,none,false⟩
 h209:T 209=some ⟨1,12,[.t 2],b209,none,false⟩
 h210:T 210=some ⟨2,9,[.cell 4 (some 2)],b210,none,false⟩
 h211:T 211=some ⟨2,26,[.t 4],b211,none,false⟩
 h212:T 212=some ⟨2,9,[.t 4],b212,none,false⟩
 h213:T 213=some ⟨1,11,[.cell 2 (some 3)],b213,none,false⟩
 h215:T 215=some ⟨2,30,[.cell 4 (some 3)],b215,none,false⟩
 h216:T 216=some ⟨2,30,[.cell 4 (some 3)],b216,none,false⟩
 h217:T 217=some ⟨2,26,[.cell 4 (some 3)],b217,none,false⟩
 h218:T 218=some ⟨2,40,[.cell 4 (some 3),.t 5],b218,none,false⟩
section
variable{T:Tbl}[CFrac T]{d:Option Nat}{st:St}{xs:List AV}{ps:List Opd}{e:Env}{h:Heap}{ol:List Heap}
@[simp] theorem x202:callX (orc T) T 202 xs d st=cP T 202 false xs d st:=zaa CFrac.h202
theorem f202(xs:List AV)(hn:xs.length=2):callF T 202 xs=retF [.cell 4 (some 3)] false (evX (orc T) T 0 b202 ⟨argEnv xs,[],1⟩):=zab CFrac.h202 hn
@[simp] theorem x203:callX (orc T) T 203 xs d st=cP T 203 false xs d st:=zaa CFrac.h203
theorem f203(xs:List AV)(hn:xs.length=1):callF T 203 xs=retF [.cell 2 (some 2),.t 3] false (evX (orc T) T 0 b203 ⟨argEnv xs,[],1⟩):=zab CFrac.h203 hn
@[simp] theorem x205:callX (orc T) T 205 xs d st=cP T 205 false xs d st:=zaa CFrac.h205
theorem f205(xs:List AV)(hn:xs.length=1):callF T 205 xs=retF [.cell 2 (some 3)] false (evX (orc T) T 0 b205 ⟨argEnv xs,[],1⟩):=zab CFrac.h205 hn
@[simp] theorem x207:callX (orc T) T 207 xs d st=cP T 207 false xs d st:=zaa CFrac.h207
@[simp] theorem y207:opD (orc T) T (.call 207 ps) e h ol=dP T 207 false ps e:=zal CFrac.h207
theorem f207(xs:List AV)(hn:xs.length=1):callF T 207 xs=retF [.cell 2 (some 3)] false (evX (orc T) T 0 b207 ⟨argEnv xs,[],1⟩):=zab CFrac.h207 hn
@[simp] theorem x209:callX (orc T) T 209 xs d st=cP T 209 false xs d st:=zaa CFrac.h209
theorem f209(xs:List AV)(hn:xs.length=1):callF T 209 xs=retF [.t 2] false (evX (orc T) T 0 b209 ⟨argEnv xs,[],1⟩):=zab CFrac.h209 hn
@[simp] theorem x210:callX (orc T) T 210 xs d st=cP T 210 false xs d st:=zaa CFrac.h210
@[simp] theorem y210:opD (orc T) T (.call 210 ps) e h ol=dP T 210 false ps e:=zal CFrac.h210
theorem f210(xs:List AV)(hn:xs.length=2):callF T 210 xs=retF [.cell 4 (some 2)] false (evX (orc T) T 0 b210 ⟨argEnv xs,[],1⟩):=zab CFrac.h210 hn
@[simp] theorem x211:callX (orc T) T 211 xs d st=cP T 211 false xs d st:=zaa CFrac.h211
theorem f211(xs:List AV)(hn:xs.length=2):callF T 211 xs=retF [.t 4] false (evX (orc T) T 0 b211 ⟨argEnv xs,[],1⟩):=zab CFrac.h211 hn
@[simp] theorem x212:callX (orc T) T 212 xs d st=cP T 212 false xs d st:=zaa CFrac.h212
theorem f212(xs:List AV)(hn:xs.length=2):callF T 212 xs=retF [.t 4] false (evX (orc T) T 0 b212 ⟨argEnv xs,[],1⟩):=zab CFrac.h212 hn
@[simp] theorem x213:callX (orc T) T 213 xs d st=cP T 213 false xs d st:=zaa CFrac.h213
theorem f213(xs:List AV)(hn:xs.length=1):callF T 213 xs=retF [.cell 2 (some 3)] false (evX (orc T) T 0 b213 ⟨argEnv xs,[],1⟩):=zab CFrac.h213 hn
@[simp] theorem x215:callX (orc T) T 215 xs d st=cP T 215 false xs d st:=zaa CFrac.h215
@[simp] theorem y215:opD (orc T) T (.call 215 ps) e h ol=dP T 215 false ps e:=zal CFrac.h215
theorem f215(xs:List AV)(hn:xs.length=2):callF T 215 xs=retF [.cell 4 (some 3)] false (evX (orc T) T 0 b215 ⟨argEnv xs,[],1⟩):=zab CFrac.h215 hn
@[simp] theorem x216:callX (orc T) T 216 xs d st=cP T 216 false xs d st:=zaa CFrac.h216
theorem f216(xs:List AV)(hn:xs.length=2):callF T 216 xs=retF [.cell 4 (some 3)] false (evX (orc T) T 0 b216 ⟨argEnv xs,[],1⟩):=zab CFrac.h216 hn
@[simp] theorem x217:callX (orc T) T 217 xs d st=cP T 217 false xs d st:=zaa CFrac.h217
@[simp] theorem y217:opD (orc T) T (.call 217 ps) e h ol=dP T 217 false ps e:=zal CFrac.h217
theorem f217(xs:List AV)(hn:xs.length=2):callF T 217 xs=retF [.cell 4 (some 3)] false (evX (orc T) T 0 b217 ⟨argEnv xs,[],1⟩):=zab CFrac.h217 hn
@[simp] theorem x218:callX (orc T) T 218 xs d st=cP T 218 false xs d st:=zaa CFrac.h218
theorem f218(xs:List AV)(hn:xs.length=2):callF T 218 xs=retF [.cell 4 (some 3),.t 5] false (evX (orc T) T 0 b218 ⟨argEnv xs,[],1⟩):=zab CFrac.h218 hn
end
def b214:AX:=
 (.seq
 (.reg [rg 1 (.xop (.box 3) [(.t 0)]),rg 2 (.alloc [(.b false),(.sl [] .nl),(.sl [] .nl)])])
 (.seq
 (.reg [rg 4 (.load (some 3) (.t 1)),rg 5 (.call 207 [(.t 4)]),rg 3 (.alloc [(.b false),(.sl [] .nl),(.sl [] .nl)]),so (.store 3 (.t 3) (.t 5))])
 (.seq
 (.reg [rg 6 (.fad 0 (.t 3)),rg 7 (.fad 0 (.t 6)),so (.store 1 (.t 7) (.c (.b false)))])
 (.seq
 (.reg [rg 8 (.load (some 3) (.t 3)),so (.store 3 (.t 2) (.t 8))])
 (.pre (.norm false [2]) .ret)))))
class CFrac2 (T:Tbl):Prop where
 h214:T 214=some ⟨1,9,[.cell 2 (some 3)],b214,none,false⟩
section
variable{T:Tbl}[CFrac2 T]{d:Option Nat}{st:St}{xs:List AV}{ps:List Opd}{e:Env}{h:Heap}{ol:List Heap}
@[simp] theorem y214:opD (orc T) T (.call 214 ps) e h ol=dP T 214 false ps e:=zal CFrac2.h214
theorem f214(xs:List AV)(hn:xs.length=1):callF T 214 xs=retF [.cell 2 (some 3)] false (evX (orc T) T 0 b214 ⟨argEnv xs,[],1⟩):=zab CFrac2.h214 hn
end
def b208:AX:=
 (.seq
 (.reg [rg 1 (.xop (.box 3) [(.t 0)]),rg 2 (.mov (.c (.b false)))])
 (.seq
 (.reg [rg 4 (.load (some 3) (.t 1)),rg 5 (.call 207 [(.t 4)]),rg 3 (.alloc [(.b false),(.sl [] .nl),(.sl [] .nl)]),so (.store 3 (.t 3) (.t 5))])
 (.seq
 (.reg [rg 6 (.fad 0 (.t 1)),rg 7 (.fad 0 (.t 6)),rg 8 (.load none (.t 7)),rg 9 (.fad 0 (.t 3)),rg 10 (.fad 0 (.t 9)),rg 11 (.load none (.t 10)),rg 12 (.eqb false (.t 8) (.t 11)),mv 13 12,gd 14 13 true (.fad 0 (.t 1)),gd 15 13 true (.fad 1 (.t 14)),gd 16 13 true (.load none (.t 15)),gd 17 13 true (.len (.t 16)),gd 18 13 true (.fad 0 (.t 3)),gd 19 13 true (.fad 1 (.t 18)),gd 20 13 true (.load none (.t 19)),gd 21 13 true (.len (.t 20)),gd 22 13 true (.bin .eql (.t 17) (.t 21)),rg 23 (.pick (.t 13) (.t 22) (.c (.b false))),mv 24 23,gd 25 24 true (.fad 2 (.t 1)),gd 26 24 true (.load none (.t 25)),gd 27 24 true (.len (.t 26)),gd 28 24 true (.fad 2 (.t 3)),gd 29 24 true (.load none (.t 28)),gd 30 24 true (.len (.t 29)),gd 31 24 true (.bin .eql (.t 27) (.t 30)),rg 32 (.pick (.t 24) (.t 31) (.c (.b false))),mv 33 32,gd 34 33 true (.fad 0 (.t 1)),gd 35 33 true (.fad 1 (.t 34)),gd 36 33 true (.load none (.t 35)),gd 37 33 true (.fad 0 (.t 3)),gd 38 33 true (.fad 1 (.t 37)),gd 39 33 true (.load none (.t 38)),gd 40 33 true (.call 87 [(.t 36),(.t 39)]),gd 41 33 true (.bin .eql (.t 40) (.c (.i .i64 0))),rg 42 (.pick (.t 33) (.t 41) (.c (.b false))),mv 43 42,gd 44 43 true (.fad 2 (.t 1)),gd 45 43 true (.load none (.t 44)),gd 46 43 true (.fad 2 (.t 3)),gd 47 43 true (.load none (.t 46)),gd 48 43 true (.call 87 [(.t 45),(.t 47)]),gd 49 43 true (.bin .eql (.t 48) (.c (.i .i64 0))),rg 50 (.pick (.t 43) (.t 49) (.c (.b false))),mv 2 50])
 (.pre (.norm false [2]) .ret))))
def l219_0:AX:=
 (.note
 (.seq
 (.reg [rg 9 (.bin .lss (.t 8) (.t 7))])
 (.seq
 (.cond (.t 9)
 .skip
 (.exit 0))
 (.seq
 (.block 1
 (.reg [mv 10 5,mv 11 0,rg 12 (.call 60 [(.t 10),(.t 11)]),mv 5 12]))
 (.reg [rg 13 (.bin .add (.t 8) (.c (.i .i64 1))),mv 8 13]))))
 (.norm false [0,5,7,8]))
def b219:AX:=
 (.seq
 (.reg [rg 4 (.mov (.c (.sl [] .nl)))])
 (.seq
 (.reg [rg 6 (.call 72 [(.c (u64 1))]),mv 5 6])
 (.seq
 (.seq
 (.reg [mv 7 1,rg 8 (.mov (.c (.i .i64 0)))])
 (.lp 0 (.norm false [0,5,7,8]) l219_0 (.norm false [5])))
 (.seq
 (.reg [mv 14 5,mv 4 14])
 (.pre (.norm false [4]) .ret)))))
def b220:AX:=
 (.seq
 (.reg [rg 2 (.xop (.box 3) [(.t 0)]),rg 4 (.alloc [(.b false),(.sl [] .nl),(.sl [] .nl)]),rg 5 (.mov (.c (.b false)))])
 (.seq
 (.seq
 (.reg [mv 10 1,rg 11 (.bin .lss (.t 10) (.c (.i .i64 (-8)))),mv 12 11,gd 13 12 false (.mov (.t 1)),gd 14 12 false (.bin .gtr (.t 13) (.c (.i .i64 8))),rg 15 (.pick (.t 12) (.c (.b true)) (.t 14)),mv 16 15,gd 17 16 false (.mov (.t 1)),gd 18 16 false (.bin .lss (.t 17) (.c (.i .i64 0))),gd 19 16 false (.mov (.t 18)),gd 20 19 true (.load (some 3) (.t 2)),gd 21 19 true (.call 209 [(.t 20)]),gd 22 19 true (.bin .eql (.t 21) (.c (.i .i64 0))),gd 23 16 false (.pick (.t 19) (.t 22) (.c (.b false))),rg 24 (.pick (.t 16) (.c (.b true)) (.t 23))])
 (.cond (.t 24)
 (.seq
 (.reg [rg 25 (.call 205 [(.c (.i .i64 0))]),so (.store 3 (.t 4) (.t 25)),rg 5 (.mov (.c (.b false)))])
 (.pre (.norm false [4,5]) .ret))
 .skip))
 (.seq
 (.reg [rg 26 (.load (some 3) (.t 2)),rg 27 (.call 207 [(.t 26)]),rg 6 (.alloc [(.b false),(.sl [] .nl),(.sl [] .nl)]),so (.store 3 (.t 6) (.t 27))])
 (.seq
 (.reg [mv 28 1,mv 29 1,rg 30 (.un .neg (.t 29)),rg 31 (.mm true [(.t 28),(.t 30)]),mv 7 31])
 (.seq
 (.drawT [rg 32 (.fad 0 (.t 6)),rg 33 (.fad 1 (.t 32)),rg 34 (.load none (.t 33)),mv 35 7,rg 36 (.call 219 [(.t 34),(.t 35)]),rg 37 (.fad 2 (.t 6)),rg 38 (.load none (.t 37)),mv 39 7]
 [rg 40 (.call 219 [(.t 38),(.t 39)]),mv 8 36,mv 9 40])
 (.seq
 (.seq
 (.reg [mv 41 1,rg 42 (.bin .lss (.t 41) (.c (.i .i64 0)))])
 (.cond (.t 42)
 (.reg [mv 43 9,mv 44 8,mv 8 43,mv 9 44])
 .skip))
 (.seq
 (.reg [rg 45 (.fad 0 (.t 6)),rg 46 (.fad 0 (.t 45)),rg 47 (.load none (.t 46)),mv 48 47,gd 49 48 true (.mov (.t 7)),gd 50 48 true (.bin .rem (.t 49) (.c (.i .i64 2))),gd 51 48 true (.bin .eql (.t 50) (.c (.i .i64 1))),rg 52 (.pick (.t 48) (.t 51) (.c (.b false))),mv 53 8,rg 54 (.build [(.b false),(.sl [] .nl)] [(0,1,(.t 52)),(1,1,(.t 53))]),rg 55 (.call 38 [(.t 54)]),mv 56 9,rg 57 (.build [(.b false),(.sl [] .nl),(.sl [] .nl)] [(0,2,(.t 55)),(2,1,(.t 56))]),so (.store 3 (.t 4) (.t 57)),rg 5 (.mov (.c (.b true)))])
 (.pre (.norm false [4,5]) .ret))))))))
class CFrac3 (T:Tbl):Prop where
 h208:T 208=some ⟨1,51,[.t 2],b208,none,false⟩
 h219:T 219=some ⟨2,15,[.t 4],b219,none,false⟩
 h220:T 220=some ⟨2,58,[.cell 4 (some 3),.t 5],b220,none,false⟩
section
variable{T:Tbl}[CFrac3 T]{d:Option Nat}{st:St}{xs:List AV}{ps:List Opd}{e:Env}{h:Heap}{ol:List Heap}
@[simp] theorem x208:callX (orc T) T 208 xs d st=cP T 208 false xs d st:=zaa CFrac3.h208
theorem f208(xs:List AV)(hn:xs.length=1):callF T 208 xs=retF [.t 2] false (evX (orc T) T 0 b208 ⟨argEnv xs,[],1⟩):=zab CFrac3.h208 hn
@[simp] theorem x219:callX (orc T) T 219 xs d st=cP T 219 false xs d st:=zaa CFrac3.h219
@[simp] theorem y219:opD (orc T) T (.call 219 ps) e h ol=dP T 219 false ps e:=zal CFrac3.h219
theorem f219(xs:List AV)(hn:xs.length=2):callF T 219 xs=retF [.t 4] false (evX (orc T) T 0 b219 ⟨argEnv xs,[],1⟩):=zab CFrac3.h219 hn
@[simp] theorem x220:callX (orc T) T 220 xs d st=cP T 220 false xs d st:=zaa CFrac3.h220
theorem f220(xs:List AV)(hn:xs.length=2):callF T 220 xs=retF [.cell 4 (some 3),.t 5] false (evX (orc T) T 0 b220 ⟨argEnv xs,[],1⟩):=zab CFrac3.h220 hn
end
def l221_0:AX:=
 (.note
 (.seq
 (.reg [rg 10 (.bin .lss (.t 9) (.t 8))])
 (.seq
 (.cond (.t 10)
 .skip
 (.exit 0))
 (.seq
 (.block 1
 (.seq
 (.reg [mv 11 9,rg 12 (.iad 3 (.t 7) (.t 9)),rg 13 (.load (some 3) (.t 12)),rg 5 (.alloc [(.b false),(.sl [] .nl),(.sl [] .nl)]),mv 4 11,so (.store 3 (.t 5) (.t 13))])
 (.seq
 (.reg [mv 14 4,rg 15 (.bin .eql (.t 14) (.c (.i .i64 0))),mv 16 15,gd 17 16 false (.load (some 3) (.t 5)),gd 18 16 false (.load (some 3) (.t 3)),gd 19 16 false (.call 211 [(.t 17),(.t 18)]),gd 20 16 false (.bin .gtr (.t 19) (.c (.i .i64 0))),rg 21 (.pick (.t 16) (.c (.b true)) (.t 20))])
 (.cond (.t 21)
 (.reg [rg 22 (.load (some 3) (.t 5)),rg 23 (.call 207 [(.t 22)]),so (.store 3 (.t 3) (.t 23))])
 .skip))))
 (.reg [rg 24 (.bin .add (.t 9) (.c (.i .i64 1))),mv 9 24]))))
 (.norm false [2,3,7,8,9]))
def b221:AX:=
 (.seq
 (.reg [rg 2 (.alloc [(.b false),(.sl [] .nl),(.sl [] .nl)])])
 (.seq
 (.reg [rg 6 (.call 205 [(.c (.i .i64 0))]),rg 3 (.alloc [(.b false),(.sl [] .nl),(.sl [] .nl)]),so (.store 3 (.t 3) (.t 6))])
 (.seq
 (.seq
 (.reg [mv 7 0,rg 8 (.len (.t 7)),rg 9 (.mov (.c (.i .i64 0)))])
 (.lp 0 (.norm false [2,3,7,8,9]) l221_0 (.norm false [2,3])))
 (.seq
 (.reg [rg 25 (.load (some 3) (.t 3)),so (.store 3 (.t 2) (.t 25))])
 (.pre (.norm false [2]) .ret)))))
def b223:AX:=
 (.seq
 (.reg [rg 1 (.xop (.box 3) [(.t 0)]),rg 2 (.mov (.c (.i .i64 0)))])
 (.seq
 (.drawT [rg 3 (.fad 0 (.t 1)),rg 4 (.fad 1 (.t 3)),rg 5 (.load none (.t 4)),rg 6 (.call 356 [(.t 5)]),rg 7 (.fad 2 (.t 1)),rg 8 (.load none (.t 7))]
 [rg 9 (.call 356 [(.t 8)]),rg 10 (.bin .add (.t 6) (.t 9)),mv 2 10])
 (.pre (.norm false [2]) .ret)))
class CFrac5 (T:Tbl):Prop where
 h221:T 221=some ⟨1,26,[.cell 2 (some 3)],b221,none,false⟩
 h223:T 223=some ⟨1,11,[.t 2],b223,none,false⟩
section
variable{T:Tbl}[CFrac5 T]{d:Option Nat}{st:St}{xs:List AV}{ps:List Opd}{e:Env}{h:Heap}{ol:List Heap}
@[simp] theorem x221:callX (orc T) T 221 xs d st=cP T 221 false xs d st:=zaa CFrac5.h221
theorem f221(xs:List AV)(hn:xs.length=1):callF T 221 xs=retF [.cell 2 (some 3)] false (evX (orc T) T 0 b221 ⟨argEnv xs,[],1⟩):=zab CFrac5.h221 hn
@[simp] theorem x223:callX (orc T) T 223 xs d st=cP T 223 false xs d st:=zaa CFrac5.h223
theorem f223(xs:List AV)(hn:xs.length=1):callF T 223 xs=retF [.t 2] false (evX (orc T) T 0 b223 ⟨argEnv xs,[],1⟩):=zab CFrac5.h223 hn
end
def b356:AX:=
 (.seq
 (.reg [rg 2 (.mov (.c (.i .i64 0)))])
 (.seq
 (.reg [mv 4 0,rg 5 (.call 71 [(.t 4)]),mv 0 5])
 (.seq
 (.reg [mv 6 0,rg 7 (.len (.t 6)),mv 3 7])
 (.seq
 (.seq
 (.reg [mv 8 3,rg 9 (.bin .eql (.t 8) (.c (.i .i64 0)))])
 (.cond (.t 9)
 (.seq
 (.reg [rg 2 (.mov (.c (.i .i64 0)))])
 (.pre (.norm false [2]) .ret))
 .skip))
 (.seq
 (.reg [mv 10 3,rg 11 (.bin .sub (.t 10) (.c (.i .i64 1))),rg 12 (.bin .mul (.c (.i .i64 32)) (.t 11)),mv 13 0,mv 14 3,rg 15 (.bin .sub (.t 14) (.c (.i .i64 1))),rg 16 (.iad 1 (.t 13) (.t 15)),rg 17 (.load none (.t 16)),rg 18 (.call 91 [(.t 17)]),rg 19 (.bin .add (.t 12) (.t 18)),mv 2 19])
 (.pre (.norm false [2]) .ret))))))
class CPow (T:Tbl):Prop where
 h356:T 356=some ⟨1,20,[.t 2],b356,none,false⟩
section
variable{T:Tbl}[CPow T]{d:Option Nat}{st:St}{xs:List AV}{ps:List Opd}{e:Env}{h:Heap}{ol:List Heap}
@[simp] theorem x356:callX (orc T) T 356 xs d st=cP T 356 false xs d st:=zaa CPow.h356
@[simp] theorem y356:opD (orc T) T (.call 356 ps) e h ol=dP T 356 false ps e:=zal CPow.h356
theorem f356(xs:List AV)(hn:xs.length=1):callF T 356 xs=retF [.t 2] false (evX (orc T) T 0 b356 ⟨argEnv xs,[],1⟩):=zab CPow.h356 hn
end
def b421:AX:=
 (.seq
 (.reg [rg 1 (.xop (.box 4) [(.t 0)]),rg 2 (.mov (.c (.b false)))])
 (.seq
 (.reg [rg 3 (.load (some 4) (.t 1)),rg 4 (.call 430 [(.t 3)]),rg 5 (.bin .eql (.t 4) (.c (.i .i64 (-1)))),mv 2 5])
 (.pre (.norm false [2]) .ret)))
def l430_0:AX:=
 (.note
 (.seq
 (.reg [rg 13 (.bin .lss (.t 12) (.t 11))])
 (.seq
 (.cond (.t 13)
 .skip
 (.exit 0))
 (.seq
 (.block 1
 (.seq
 (.reg [mv 14 12,mv 3 14])
 (.seq
 (.reg [rg 15 (.load (some 4) (.t 1)),mv 16 3,rg 17 (.call 434 [(.t 15),(.t 16)]),rg 18 (.un .not (.t 17))])
 (.cond (.t 18)
 (.seq
 (.reg [mv 19 3,mv 2 19])
 (.pre (.norm false [2]) .ret))
 .skip))))
 (.reg [rg 20 (.bin .add (.t 12) (.c (.i .i64 1))),mv 12 20]))))
 (.norm false [1,11,12]))
def l430_1:AX:=
 (.note
 (.seq
 (.reg [rg 25 (.bin .lss (.t 24) (.t 23))])
 (.seq
 (.cond (.t 25)
 .skip
 (.exit 2))
 (.seq
 (.block 3
 (.seq
 (.reg [rg 26 (.iad 1 (.t 22) (.t 24)),rg 27 (.load none (.t 26)),mv 5 27])
 (.seq
 (.reg [mv 28 5,rg 29 (.fad 0 (.t 1)),rg 30 (.load none (.t 29)),rg 31 (.len (.t 30)),rg 32 (.call 435 [(.t 28),(.t 31)]),rg 33 (.un .not (.t 32))])
 (.cond (.t 33)
 (.seq
 (.reg [rg 34 (.fad 0 (.t 1)),rg 35 (.load none (.t 34)),rg 36 (.len (.t 35)),mv 2 36])
 (.pre (.norm false [2]) .ret))
 .skip))))
 (.reg [rg 37 (.bin .add (.t 24) (.c (.i .i64 1))),mv 24 37]))))
 (.norm false [1,22,23,24]))
def b430:AX:=
 (.seq
 (.reg [rg 1 (.xop (.box 4) [(.t 0)]),rg 2 (.mov (.c (.i .i64 0)))])
 (.seq
 (.seq
 (.reg [rg 6 (.load (some 4) (.t 1)),rg 7 (.call 433 [(.t 6)]),rg 8 (.un .not (.t 7))])
 (.cond (.t 8)
 (.seq
 (.reg [rg 2 (.mov (.c (.i .i64 (-2))))])
 (.pre (.norm false [2]) .ret))
 .skip))
 (.seq
 (.seq
 (.reg [rg 9 (.fad 0 (.t 1)),rg 10 (.load none (.t 9)),rg 11 (.len (.t 10)),rg 12 (.mov (.c (.i .i64 0)))])
 (.lp 0 (.norm false [1,11,12]) l430_0 (.norm false [1])))
 (.seq
 (.seq
 (.reg [rg 21 (.fad 1 (.t 1)),rg 22 (.load none (.t 21)),rg 23 (.len (.t 22)),rg 24 (.mov (.c (.i .i64 0)))])
 (.lp 2 (.norm false [1,22,23,24]) l430_1 (.norm false [])))
 (.seq
 (.reg [rg 2 (.mov (.c (.i .i64 (-1))))])
 (.pre (.norm false [2]) .ret))))))
def b433:AX:=
 (.seq
 (.reg [rg 1 (.xop (.box 4) [(.t 0)]),rg 2 (.mov (.c (.b false)))])
 (.seq
 (.reg [rg 3 (.fad 2 (.t 1)),rg 4 (.load none (.t 3)),rg 5 (.bin .sub (.t 4) (.c (.i .i64 1))),rg 6 (.call 435 [(.t 5),(.c (.i .i64 6))]),mv 7 6,gd 8 7 true (.fad 3 (.t 1)),gd 9 7 true (.load none (.t 8)),gd 10 7 true (.call 435 [(.t 9),(.c (.i .i64 7))]),rg 11 (.pick (.t 7) (.t 10) (.c (.b false))),mv 12 11,gd 13 12 true (.fad 1 (.t 1)),gd 14 12 true (.load none (.t 13)),gd 15 12 true (.len (.t 14)),gd 16 12 true (.fad 2 (.t 1)),gd 17 12 true (.load none (.t 16)),gd 18 12 true (.bin .eql (.t 15) (.t 17)),rg 19 (.pick (.t 12) (.t 18) (.c (.b false))),mv 20 19,gd 21 20 true (.fad 0 (.t 1)),gd 22 20 true (.load none (.t 21)),gd 23 20 true (.len (.t 22)),gd 24 20 true (.bin .leq (.t 23) (.c (.i .i64 300))),rg 25 (.pick (.t 20) (.t 24) (.c (.b false))),mv 2 25])
 (.pre (.norm false [2]) .ret)))
def l434_0:AX:=
 (.note
 (.seq
 (.reg [rg 33 (.bin .lss (.t 32) (.t 31))])
 (.seq
 (.cond (.t 33)
 .skip
 (.exit 0))
 (.seq
 (.block 1
 (.seq
 (.reg [rg 34 (.iad 1 (.t 30) (.t 32)),rg 35 (.load none (.t 34)),mv 7 35])
 (.seq
 (.reg [mv 36 7,mv 37 1,rg 38 (.call 435 [(.t 36),(.t 37)]),rg 39 (.un .not (.t 38))])
 (.cond (.t 39)
 (.seq
 (.reg [rg 4 (.mov (.c (.b false)))])
 (.pre (.norm false [4]) .ret))
 .skip))))
 (.reg [rg 40 (.bin .add (.t 32) (.c (.i .i64 1))),mv 32 40]))))
 (.norm false [1,2,5,30,31,32]))
def b434:AX:=
 (.seq
 (.reg [rg 2 (.xop (.box 4) [(.t 0)]),rg 4 (.mov (.c (.b false)))])
 (.seq
 (.reg [rg 8 (.fad 0 (.t 2)),rg 9 (.load none (.t 8)),mv 10 1,rg 11 (.iad 6 (.t 9) (.t 10)),rg 12 (.load (some 6) (.t 11)),rg 5 (.alloc [(.i .i64 0),(.i .i64 0),(.i .i64 0),(.b false),(.sl [] .nl),(.sl [] .nl)]),so (.store 6 (.t 5) (.t 12))])
 (.seq
 (.seq
 (.reg [rg 13 (.fad 0 (.t 5)),rg 14 (.load none (.t 13)),rg 15 (.bin .eql (.t 14) (.c (.i .i64 1)))])
 (.cond (.t 15)
 (.seq
 (.reg [rg 16 (.load (some 6) (.t 5)),rg 17 (.call 437 [(.t 16)]),rg 18 (.build [(.i .i64 0),(.i .i64 0),(.i .i64 0)] [(0,1,(.c (.i .i64 1)))]),rg 19 (.eqs false [(0,.int),(1,.int),(2,.int)] (.t 17) (.t 18)),mv 20 19,gd 21 20 true (.fad 3 (.t 5)),gd 22 20 true (.load (some 3) (.t 21)),gd 23 20 true (.call 208 [(.t 22)]),rg 24 (.pick (.t 20) (.t 23) (.c (.b false))),mv 4 24])
 (.pre (.norm false [4]) .ret))
 .skip))
 (.seq
 (.seq
 (.reg [rg 25 (.fad 3 (.t 5)),rg 26 (.load (some 3) (.t 25)),rg 27 (.call 438 [(.t 26)]),rg 28 (.un .not (.t 27))])
 (.cond (.t 28)
 (.seq
 (.reg [rg 4 (.mov (.c (.b false)))])
 (.pre (.norm false [4]) .ret))
 .skip))
 (.seq
 (.seq
 (.reg [rg 29 (.load (some 6) (.t 5)),rg 30 (.call 439 [(.t 29)]),rg 31 (.len (.t 30)),rg 32 (.mov (.c (.i .i64 0)))])
 (.lp 0 (.norm false [1,2,5,30,31,32]) l434_0 (.norm false [2,5])))
 (.seq
 (.seq
 (.reg [rg 41 (.fad 0 (.t 5)),rg 42 (.load none (.t 41))])
 (.block 2
 (.seq
 (.reg [rg 44 (.bin .eql (.t 42) (.c (.i .i64 2))),mv 43 44])
 (.cond (.t 43)
 (.seq
 (.reg [rg 45 (.load (some 6) (.t 5)),rg 46 (.call 437 [(.t 45)]),rg 47 (.build [(.i .i64 0),(.i .i64 0),(.i .i64 0)] [(0,1,(.c (.i .i64 2)))]),rg 48 (.eqs false [(0,.int),(1,.int),(2,.int)] (.t 46) (.t 47)),mv 4 48])
 (.pre (.norm false [4]) .ret))
 (.seq
 (.reg [rg 50 (.bin .eql (.t 42) (.c (.i .i64 3))),mv 49 50])
 (.cond (.t 49)
 (.seq
 (.reg [rg 51 (.fad 1 (.t 5)),rg 52 (.load none (.t 51)),rg 53 (.fad 2 (.t 2)),rg 54 (.load none (.t 53)),rg 55 (.call 435 [(.t 52),(.t 54)]),mv 56 55,gd 57 56 true (.fad 2 (.t 5)),gd 58 56 true (.load none (.t 57)),gd 59 56 true (.bin .eql (.t 58) (.c (.i .i64 0))),rg 60 (.pick (.t 56) (.t 59) (.c (.b false))),mv 4 60])
 (.pre (.norm false [4]) .ret))
 (.seq
 (.reg [rg 62 (.bin .eql (.t 42) (.c (.i .i64 4))),mv 61 62])
 (.cond (.t 61)
 (.seq
 (.reg [rg 63 (.fad 1 (.t 5)),rg 64 (.load none (.t 63)),rg 65 (.fad 3 (.t 2)),rg 66 (.load none (.t 65)),rg 67 (.call 435 [(.t 64),(.t 66)]),mv 68 67,gd 69 68 true (.fad 2 (.t 5)),gd 70 68 true (.load none (.t 69)),gd 71 68 true (.bin .eql (.t 70) (.c (.i .i64 0))),rg 72 (.pick (.t 68) (.t 71) (.c (.b false))),mv 4 72])
 (.pre (.norm false [4]) .ret))
 (.seq
 (.reg [rg 74 (.bin .eql (.t 42) (.c (.i .i64 6))),mv 73 74])
 (.cond (.t 73)
 (.seq
 (.reg [rg 75 (.fad 2 (.t 5)),rg 76 (.load none (.t 75)),rg 77 (.bin .eql (.t 76) (.c (.i .i64 0))),mv 4 77])
 (.pre (.norm false [4]) .ret))
 (.seq
 (.reg [rg 79 (.bin .eql (.t 42) (.c (.i .i64 11))),mv 78 79])
 (.cond (.t 78)
 (.seq
 (.reg [rg 80 (.fad 2 (.t 5)),rg 81 (.load none (.t 80)),rg 82 (.bin .geq (.t 81) (.c (.i .i64 (-8)))),mv 83 82,gd 84 83 true (.fad 2 (.t 5)),gd 85 83 true (.load none (.t 84)),gd 86 83 true (.bin .leq (.t 85) (.c (.i .i64 8))),rg 87 (.pick (.t 83) (.t 86) (.c (.b false))),mv 4 87])
 (.pre (.norm false [4]) .ret))
 .skip))))))))))))
 (.seq
 (.reg [rg 88 (.load (some 6) (.t 5)),rg 89 (.call 439 [(.t 88)]),rg 90 (.len (.t 89)),rg 91 (.bin .eql (.t 90) (.c (.i .i64 2))),mv 4 91])
 (.pre (.norm false [4]) .ret))))))))
def b435:AX:=
 (.seq
 (.reg [rg 4 (.mov (.c (.b false)))])
 (.seq
 (.reg [mv 5 0,rg 6 (.bin .geq (.t 5) (.c (.i .i64 0))),mv 7 6,gd 8 7 true (.mov (.t 0)),gd 9 7 true (.mov (.t 1)),gd 10 7 true (.bin .lss (.t 8) (.t 9)),rg 11 (.pick (.t 7) (.t 10) (.c (.b false))),mv 4 11])
 (.pre (.norm false [4]) .ret)))
def b437:AX:=
 (.seq
 (.reg [rg 1 (.xop (.box 6) [(.t 0)]),rg 2 (.alloc [(.i .i64 0),(.i .i64 0),(.i .i64 0)])])
 (.seq
 (.reg [rg 3 (.fad 0 (.t 1)),rg 4 (.load none (.t 3)),rg 5 (.fad 1 (.t 1)),rg 6 (.load none (.t 5)),rg 7 (.fad 2 (.t 1)),rg 8 (.load none (.t 7)),rg 9 (.build [(.i .i64 0),(.i .i64 0),(.i .i64 0)] [(0,1,(.t 4)),(1,1,(.t 6)),(2,1,(.t 8))]),so (.store 3 (.t 2) (.t 9))])
 (.pre (.norm false [2]) .ret)))
def b438:AX:=
 (.seq
 (.reg [rg 1 (.xop (.box 3) [(.t 0)]),rg 2 (.mov (.c (.b false)))])
 (.seq
 (.reg [rg 3 (.fad 0 (.t 1)),rg 4 (.fad 0 (.t 3)),rg 5 (.load none (.t 4)),rg 6 (.un .not (.t 5)),mv 7 6,gd 8 7 true (.fad 0 (.t 1)),gd 9 7 true (.fad 1 (.t 8)),gd 10 7 true (.load none (.t 9)),gd 11 7 true (.len (.t 10)),gd 12 7 true (.bin .eql (.t 11) (.c (.i .i64 0))),rg 13 (.pick (.t 7) (.t 12) (.c (.b false))),mv 14 13,gd 15 14 true (.fad 2 (.t 1)),gd 16 14 true (.load none (.t 15)),gd 17 14 true (.len (.t 16)),gd 18 14 true (.bin .eql (.t 17) (.c (.i .i64 0))),rg 19 (.pick (.t 14) (.t 18) (.c (.b false))),mv 2 19])
 (.pre (.norm false [2]) .ret)))
def b439:AX:=
 (.seq
 (.reg [rg 1 (.xop (.box 6) [(.t 0)]),rg 2 (.mov (.c (.sl [] .nl)))])
 (.seq
 (.seq
 (.reg [rg 3 (.fad 0 (.t 1)),rg 4 (.load none (.t 3))])
 (.block 0
 (.seq
 (.seq
 (.reg [rg 6 (.bin .eql (.t 4) (.c (.i .i64 6))),mv 5 6])
 (.cond (.t 5)
 .skip
 (.reg [rg 7 (.bin .eql (.t 4) (.c (.i .i64 11))),mv 5 7])))
 (.cond (.t 5)
 (.seq
 (.reg [rg 8 (.fad 1 (.t 1)),rg 9 (.load none (.t 8)),rg 10 (.bsl 1 [(.i .i64 0)] 1 [(0,(.t 9))]),mv 2 10])
 (.pre (.norm false [2]) .ret))
 (.seq
 (.seq
 (.reg [rg 12 (.bin .eql (.t 4) (.c (.i .i64 7))),mv 11 12])
 (.cond (.t 11)
 .skip
 (.seq
 (.reg [rg 13 (.bin .eql (.t 4) (.c (.i .i64 8))),mv 11 13])
 (.cond (.t 11)
 .skip
 (.seq
 (.reg [rg 14 (.bin .eql (.t 4) (.c (.i .i64 9))),mv 11 14])
 (.cond (.t 11)
 .skip
 (.reg [rg 15 (.bin .eql (.t 4) (.c (.i .i64 10))),mv 11 15])))))))
 (.cond (.t 11)
 (.seq
 (.reg [rg 16 (.fad 1 (.t 1)),rg 17 (.load none (.t 16)),rg 18 (.fad 2 (.t 1)),rg 19 (.load none (.t 18)),rg 20 (.bsl 1 [(.i .i64 0)] 2 [(0,(.t 17)),(1,(.t 19))]),mv 2 20])
 (.pre (.norm false [2]) .ret))
 .skip))))))
 (.seq
 (.reg [rg 2 (.mov (.c (.sl [] .nl)))])
 (.pre (.norm false [2]) .ret))))
class CTape (T:Tbl):Prop where
 h421:T 421=some ⟨1,6,[.t 2],b421,none,false⟩
 h430:T 430=some ⟨1,38,[.t 2],b430,none,false⟩
 h433:T 433=some ⟨1,26,[.t 2],b433,none,false⟩
 h434:T 434=some ⟨2,92,[.t 4],b434,none,false⟩
 h435:T 435=some ⟨2,12,[.t 4],b435,none,false⟩
 h437:T 437=some ⟨1,10,[.cell 2 (some 3)],b437,none,false⟩
 h438:T 438=some ⟨1,20,[.t 2],b438,none,false⟩
 h439:T 439=some ⟨1,21,[.t 2],b439,none,false⟩
section
variable{T:Tbl}[CTape T]{d:Option Nat}{st:St}{xs:List AV}{ps:List Opd}{e:Env}{h:Heap}{ol:List Heap}
@[simp] theorem x421:callX (orc T) T 421 xs d st=cP T 421 false xs d st:=zaa CTape.h421
theorem f421(xs:List AV)(hn:xs.length=1):callF T 421 xs=retF [.t 2] false (evX (orc T) T 0 b421 ⟨argEnv xs,[],1⟩):=zab CTape.h421 hn
@[simp] theorem x430:callX (orc T) T 430 xs d st=cP T 430 false xs d st:=zaa CTape.h430
theorem f430(xs:List AV)(hn:xs.length=1):callF T 430 xs=retF [.t 2] false (evX (orc T) T 0 b430 ⟨argEnv xs,[],1⟩):=zab CTape.h430 hn
@[simp] theorem x433:callX (orc T) T 433 xs d st=cP T 433 false xs d st:=zaa CTape.h433
theorem f433(xs:List AV)(hn:xs.length=1):callF T 433 xs=retF [.t 2] false (evX (orc T) T 0 b433 ⟨argEnv xs,[],1⟩):=zab CTape.h433 hn
@[simp] theorem x434:callX (orc T) T 434 xs d st=cP T 434 false xs d st:=zaa CTape.h434
theorem f434(xs:List AV)(hn:xs.length=2):callF T 434 xs=retF [.t 4] false (evX (orc T) T 0 b434 ⟨argEnv xs,[],1⟩):=zab CTape.h434 hn
@[simp] theorem x435:callX (orc T) T 435 xs d st=cP T 435 false xs d st:=zaa CTape.h435
theorem f435(xs:List AV)(hn:xs.length=2):callF T 435 xs=retF [.t 4] false (evX (orc T) T 0 b435 ⟨argEnv xs,[],1⟩):=zab CTape.h435 hn
@[simp] theorem x437:callX (orc T) T 437 xs d st=cP T 437 false xs d st:=zaa CTape.h437
theorem f437(xs:List AV)(hn:xs.length=1):callF T 437 xs=retF [.cell 2 (some 3)] false (evX (orc T) T 0 b437 ⟨argEnv xs,[],1⟩):=zab CTape.h437 hn
@[simp] theorem x438:callX (orc T) T 438 xs d st=cP T 438 false xs d st:=zaa CTape.h438
theorem f438(xs:List AV)(hn:xs.length=1):callF T 438 xs=retF [.t 2] false (evX (orc T) T 0 b438 ⟨argEnv xs,[],1⟩):=zab CTape.h438 hn
@[simp] theorem x439:callX (orc T) T 439 xs d st=cP T 439 false xs d st:=zaa CTape.h439
theorem f439(xs:List AV)(hn:xs.length=1):callF T 439 xs=retF [.t 2] false (evX (orc T) T 0 b439 ⟨argEnv xs,[],1⟩):=zab CTape.h439 hn
end
def b406:AX:=
 (.seq
 (.reg [rg 2 (.mov (.c (.raw (.pointer none))))])
 (.seq
 (.reg [mv 3 0,rg 4 (.mm true [(.t 3),(.c (.i .i64 0))]),rg 5 (.mm false [(.t 4),(.c (.i .i64 4096))]),rg 6 (.build [(.i .i64 0),(.i .i64 0),(.i .i64 0)] [(2,1,(.t 5))]),rg 7 (.xop (.box 3) [(.t 6)]),mv 2 7])
 (.pre (.norm false [2]) .ret)))
def b411:AX:=
 (.seq
 (.reg [rg 3 (.xop (.box 3) [(.t 1)]),rg 4 (.mov (.c (.b false)))])
 (.seq
 (.reg [rg 6 (.load (some 3) (.t 3)),rg 7 (.call 223 [(.t 6)]),mv 5 7])
 (.seq
 (.reg [mv 8 0,rg 9 (.nilc (.t 8)),rg 10 (.fad 0 (.t 9)),mv 11 5,rg 12 (.call 426 [(.t 10),(.t 11)])])
 (.seq
 (.reg [mv 13 5,mv 14 0,rg 15 (.nilc (.t 14)),rg 16 (.fad 2 (.t 15)),rg 17 (.load none (.t 16)),rg 18 (.bin .leq (.t 13) (.t 17)),mv 4 18])
 (.pre (.norm false [4]) .ret)))))
def b426:AX:=
 (.seq
 (.reg [mv 4 0,rg 5 (.nilc (.t 4)),rg 6 (.fad 0 (.t 5)),rg 7 (.load none (.t 6)),rg 8 (.bin .add (.t 7) (.c (.i .i64 1))),rg 9 (.nilc (.t 4)),rg 10 (.fad 0 (.t 9)),so (.store 1 (.t 10) (.t 8))])
 (.reg [mv 11 0,mv 12 0,rg 13 (.nilc (.t 12)),rg 14 (.fad 1 (.t 13)),rg 15 (.load none (.t 14)),mv 16 1,rg 17 (.mm true [(.t 15),(.t 16)]),rg 18 (.nilc (.t 11)),rg 19 (.fad 1 (.t 18)),so (.store 1 (.t 19) (.t 17))]))
def l413_0:AX:=
 (.note
 (.seq
 (.reg [rg 11 (.bin .lss (.t 10) (.t 9))])
 (.seq
 (.cond (.t 11)
 .skip
 (.exit 0))
 (.seq
 (.block 1
 (.seq
 (.reg [mv 12 10,rg 13 (.iad 3 (.t 8) (.t 10)),rg 14 (.load (some 3) (.t 13)),rg 7 (.alloc [(.b false),(.sl [] .nl),(.sl [] .nl)]),mv 6 12,so (.store 3 (.t 7) (.t 14))])
 (.seq
 (.reg [mv 15 0,rg 16 (.load (some 3) (.t 7)),rg 17 (.call 411 [(.t 15),(.t 16)]),rg 18 (.un .not (.t 17))])
 (.cond (.t 18)
 (.seq
 (.reg [mv 19 6,mv 4 19,rg 5 (.mov (.c (.b false)))])
 (.pre (.norm false [4,5]) .ret))
 .skip))))
 (.reg [rg 20 (.bin .add (.t 10) (.c (.i .i64 1))),mv 10 20]))))
 (.norm false [0,1,8,9,10]))
def b413:AX:=
 (.seq
 (.reg [rg 4 (.mov (.c (.i .i64 0))),rg 5 (.mov (.c (.b false)))])
 (.seq
 (.seq
 (.reg [mv 8 1,rg 9 (.len (.t 8)),rg 10 (.mov (.c (.i .i64 0)))])
 (.lp 0 (.norm false [0,1,8,9,10]) l413_0 (.norm false [1])))
 (.seq
 (.reg [mv 21 1,rg 22 (.len (.t 21)),mv 4 22,rg 5 (.mov (.c (.b true)))])
 (.pre (.norm false [4,5]) .ret))))
class CGauge (T:Tbl):Prop where
 h406:T 406=some ⟨1,8,[.t 2],b406,(some [false]),false⟩
 h411:T 411=some ⟨2,19,[.t 4],b411,(some [true,false]),false⟩
 h426:T 426=some ⟨2,20,[],b426,(some [true,false]),false⟩
 h413:T 413=some ⟨2,23,[.t 4,.t 5],b413,(some [true,false]),false⟩
section
variable{T:Tbl}[CGauge T]{d:Option Nat}{st:St}{xs:List AV}{ps:List Opd}{e:Env}{h:Heap}{ol:List Heap}
@[simp] theorem x406:callX (orc T) T 406 xs d st=cL T 406 false [false] xs d st:=zan CGauge.h406
theorem f406(xs:List AV)(hb:Heap)(hn:xs.length=1):callH T 406 xs hb=retH [.t 2] false hb.length (evX (orc T) T hb.length b406 ⟨argEnv xs,hb,hb.length+1⟩):=zau CGauge.h406 hn
@[simp] theorem x411:callX (orc T) T 411 xs d st=cL T 411 false [true,false] xs d st:=zan CGauge.h411
theorem f411(xs:List AV)(hb:Heap)(hn:xs.length=2):callH T 411 xs hb=retH [.t 4] false hb.length (evX (orc T) T hb.length b411 ⟨argEnv xs,hb,hb.length+1⟩):=zau CGauge.h411 hn
@[simp] theorem x426:callX (orc T) T 426 xs d st=cL T 426 false [true,false] xs d st:=zan CGauge.h426
theorem f426(xs:List AV)(hb:Heap)(hn:xs.length=2):callH T 426 xs hb=retH [] false hb.length (evX (orc T) T hb.length b426 ⟨argEnv xs,hb,hb.length+1⟩):=zau CGauge.h426 hn
@[simp] theorem x413:callX (orc T) T 413 xs d st=cL T 413 false [true,false] xs d st:=zan CGauge.h413
theorem f413(xs:List AV)(hb:Heap)(hn:xs.length=2):callH T 413 xs hb=retH [.t 4,.t 5] false hb.length (evX (orc T) T hb.length b413 ⟨argEnv xs,hb,hb.length+1⟩):=zau CGauge.h413 hn
end
def b405:AX:=
 (.seq
 (.reg [rg 1 (.xop (.box 5) [(.t 0)]),rg 2 (.alloc [(.b false),(.sl [] .nl),(.sl [] .nl),(.sl [] .nl),(.sl [] .nl)])])
 (.seq
 (.drawT [rg 3 (.fad 0 (.t 1)),rg 4 (.load (some 3) (.t 3)),rg 5 (.call 207 [(.t 4)]),rg 6 (.fad 3 (.t 1)),rg 7 (.load none (.t 6)),rg 8 (.call 420 [(.t 7)]),rg 9 (.fad 4 (.t 1)),rg 10 (.load none (.t 9))]
 [rg 11 (.call 420 [(.t 10)]),rg 12 (.build [(.b false),(.sl [] .nl),(.sl [] .nl),(.sl [] .nl),(.sl [] .nl)] [(0,3,(.t 5)),(3,1,(.t 8)),(4,1,(.t 11))]),so (.store 5 (.t 2) (.t 12))])
 (.pre (.norm false [2]) .ret)))
def l420_0:AX:=
 (.note
 (.seq
 (.reg [rg 9 (.bin .lss (.t 8) (.t 7))])
 (.seq
 (.cond (.t 9)
 .skip
 (.exit 0))
 (.seq
 (.block 1
 (.seq
 (.reg [rg 10 (.iad 3 (.t 6) (.t 8)),rg 11 (.load (some 3) (.t 10)),rg 5 (.alloc [(.b false),(.sl [] .nl),(.sl [] .nl)]),so (.store 3 (.t 5) (.t 11))])
 (.reg [mv 12 3,rg 13 (.load (some 3) (.t 5)),rg 14 (.call 207 [(.t 13)]),rg 15 (.bsl 3 [(.b false),(.sl [] .nl),(.sl [] .nl)] 1 [(0,(.t 14))]),rg 16 (.app 3 (.t 12) (.t 15)),mv 3 16])))
 (.reg [rg 17 (.bin .add (.t 8) (.c (.i .i64 1))),mv 8 17]))))
 (.norm false [3,6,7,8]))
def b420:AX:=
 (.seq
 (.reg [rg 2 (.mov (.c (.sl [] .nl)))])
 (.seq
 (.note (.reg [rg 3 (.mov (.c (.sl [] .nl)))]) (.nil 3 3))
 (.seq
 (.seq
 (.reg [mv 6 0,rg 7 (.len (.t 6)),rg 8 (.mov (.c (.i .i64 0)))])
 (.lp 0 (.norm false [3,6,7,8]) l420_0 (.norm false [3])))
 (.seq
 (.reg [mv 18 3,mv 2 18])
 (.pre (.norm false [2]) .ret)))))
class CEval (T:Tbl):Prop where
 h405:T 405=some ⟨1,13,[.cell 2 (some 5)],b405,none,false⟩
 h420:T 420=some ⟨1,19,[.t 2],b420,none,false⟩
section
variable{T:Tbl}[CEval T]{d:Option Nat}{st:St}{xs:List AV}{ps:List Opd}{e:Env}{h:Heap}{ol:List Heap}
@[simp] theorem x405:callX (orc T) T 405 xs d st=cP T 405 false xs d st:=zaa CEval.h405
theorem f405(xs:List AV)(hn:xs.length=1):callF T 405 xs=retF [.cell 2 (some 5)] false (evX (orc T) T 0 b405 ⟨argEnv xs,[],1⟩):=zab CEval.h405 hn
@[simp] theorem x420:callX (orc T) T 420 xs d st=cP T 420 false xs d st:=zaa CEval.h420
@[simp] theorem y420:opD (orc T) T (.call 420 ps) e h ol=dP T 420 false ps e:=zal CEval.h420
theorem f420(xs:List AV)(hn:xs.length=1):callF T 420 xs=retF [.t 2] false (evX (orc T) T 0 b420 ⟨argEnv xs,[],1⟩):=zab CEval.h420 hn
end
def b384:AX:=
 (.seq
 (.reg [rg 3 (.xop (.box 4) [(.t 0)]),rg 4 (.xop (.box 5) [(.t 1)]),rg 6 (.mov (.c (.sl [] .nl))),rg 7 (.alloc [(.i .i64 0),(.i .i64 0),(.i .i64 0),(.i .i64 0)])])
 (.seq
 (.reg [rg 9 (.load (some 5) (.t 4)),rg 10 (.call 405 [(.t 9)]),so (.store 5 (.t 4) (.t 10))])
 (.seq
 (.reg [mv 11 2,rg 12 (.call 406 [(.t 11)]),rg 13 (.build [(.raw (.pointer none))] [(0,1,(.t 12))]),rg 14 (.build [(.raw (.pointer none))] [(0,1,(.t 13))]),rg 8 (.alloc [(.raw (.pointer none))]),so (.store 1 (.t 8) (.t 14))])
 (.seq
 (.reg [rg 15 (.load (some 1) (.t 8)),rg 16 (.load (some 4) (.t 3)),rg 17 (.fad 0 (.t 4)),rg 18 (.load (some 3) (.t 17)),rg 19 (.fad 3 (.t 4)),rg 20 (.load none (.t 19)),rg 21 (.fad 4 (.t 4)),rg 22 (.load none (.t 21)),rg 23 (.build [(.b false),(.sl [] .nl),(.sl [] .nl),(.sl [] .nl),(.sl [] .nl)] [(0,3,(.t 18)),(3,1,(.t 20)),(4,1,(.t 22))]),rg 24 (.call 407 [(.t 15),(.t 16),(.t 23)]),rg 25 (.ext (.t 24) 0),rg 26 (.ext (.t 24) 1),mv 6 25,so (.store 4 (.t 7) (.t 26))])
 (.pre (.norm false [6,7]) .ret)))))
def b389:AX:=
 (.seq
 (.reg [rg 3 (.xop (.box 4) [(.t 0)]),rg 4 (.xop (.box 5) [(.t 1)]),rg 6 (.mov (.c (.sl [] .nl))),rg 7 (.alloc [(.i .i64 0),(.i .i64 0),(.i .i64 0),(.i .i64 0)])])
 (.seq
 (.reg [rg 11 (.load (some 4) (.t 3)),rg 12 (.load (some 5) (.t 4)),mv 13 2,rg 14 (.call 384 [(.t 11),(.t 12),(.t 13)]),mv 10 14,rg 15 (.ext (.t 10) 0),rg 16 (.ext (.t 10) 1),rg 9 (.alloc [(.i .i64 0),(.i .i64 0),(.i .i64 0),(.i .i64 0)]),mv 8 15,so (.store 4 (.t 9) (.t 16))])
 (.seq
 (.seq
 (.reg [rg 17 (.load (some 4) (.t 9)),rg 18 (.build [(.i .i64 0),(.i .i64 0),(.i .i64 0),(.i .i64 0)] []),rg 19 (.eqs true [(0,.int),(1,.int),(2,.int),(3,.int)] (.t 17) (.t 18))])
 (.cond (.t 19)
 (.seq
 (.drawT [rg 20 (.load (some 4) (.t 9)),rg 6 (.mov (.c (.sl [] .nl)))]
 [so (.store 4 (.t 7) (.t 20))])
 (.pre (.norm false [6,7]) .ret))
 .skip))
 (.seq
 (.drawT [rg 21 (.load (some 4) (.t 3)),mv 22 8,rg 23 (.call 409 [(.t 21),(.t 22)]),rg 24 (.load (some 4) (.t 9)),mv 6 23]
 [so (.store 4 (.t 7) (.t 24))])
 (.pre (.norm false [6,7]) .ret)))))
def l407_0:AX:=
 (.note
 (.seq
 (.reg [rg 37 (.bin .lss (.t 36) (.t 35))])
 (.seq
 (.cond (.t 37)
 .skip
 (.exit 0))
 (.seq
 (.block 1
 (.seq
 (.reg [mv 38 36,rg 39 (.iad 6 (.t 34) (.t 36)),rg 40 (.load (some 6) (.t 39)),rg 10 (.alloc [(.i .i64 0),(.i .i64 0),(.i .i64 0),(.b false),(.sl [] .nl),(.sl [] .nl)]),mv 9 38,so (.store 6 (.t 10) (.t 40))])
 (.seq
 (.reg [rg 42 (.load (some 1) (.t 3)),rg 43 (.load (some 6) (.t 10)),rg 44 (.load (some 5) (.t 5)),mv 45 8,rg 46 (.call 422 [(.t 42),(.t 43),(.t 44),(.t 45)]),mv 41 46,rg 47 (.ext (.t 41) 0),rg 48 (.ext (.t 41) 1),rg 11 (.alloc [(.b false),(.sl [] .nl),(.sl [] .nl)]),so (.store 3 (.t 11) (.t 47)),mv 12 48])
 (.seq
 (.block 2
 (.seq
 (.reg [mv 50 12,rg 51 (.un .not (.t 50)),mv 49 51])
 (.cond (.t 49)
 (.seq
 (.reg [mv 52 9,rg 53 (.build [(.i .i64 0),(.i .i64 0),(.i .i64 0),(.i .i64 0)] [(0,1,(.c (.i .i64 3))),(3,1,(.t 52))]),rg 6 (.mov (.c (.sl [] .nl))),so (.store 4 (.t 7) (.t 53))])
 (.pre (.norm false [6,7]) .ret))
 (.seq
 (.reg [rg 55 (.fad 0 (.t 3)),rg 56 (.load (some 1) (.t 55)),rg 57 (.ifc 1 (.t 56)),rg 58 (.load (some 3) (.t 11)),rg 59 (.inv "Fits" 1 442 (.t 57) [(.t 58)]),rg 60 (.un .not (.t 59)),mv 54 60])
 (.cond (.t 54)
 (.seq
 (.reg [mv 61 9,rg 62 (.build [(.i .i64 0),(.i .i64 0),(.i .i64 0),(.i .i64 0)] [(0,1,(.c (.i .i64 6))),(3,1,(.t 61))]),rg 6 (.mov (.c (.sl [] .nl))),so (.store 4 (.t 7) (.t 62))])
 (.pre (.norm false [6,7]) .ret))
 .skip)))))
 (.reg [mv 63 8,rg 64 (.load (some 3) (.t 11)),rg 65 (.bsl 3 [(.b false),(.sl [] .nl),(.sl [] .nl)] 1 [(0,(.t 64))]),rg 66 (.app 3 (.t 63) (.t 65)),mv 8 66])))))
 (.reg [rg 67 (.bin .add (.t 36) (.c (.i .i64 1))),mv 36 67]))))
 (.norm false [3,5,7,8,34,35,36]))
def b407:AX:=
 (.seq
 (.reg [rg 3 (.xop (.box 1) [(.t 0)]),rg 4 (.xop (.box 4) [(.t 1)]),rg 5 (.xop (.box 5) [(.t 2)]),rg 6 (.mov (.c (.sl [] .nl))),rg 7 (.alloc [(.i .i64 0),(.i .i64 0),(.i .i64 0),(.i .i64 0)])])
 (.seq
 (.seq
 (.reg [rg 13 (.load (some 4) (.t 4)),rg 14 (.call 421 [(.t 13)]),rg 15 (.un .not (.t 14)),mv 16 15,gd 17 16 false (.fad 3 (.t 5)),gd 18 16 false (.load none (.t 17)),gd 19 16 false (.len (.t 18)),gd 20 16 false (.fad 2 (.t 4)),gd 21 16 false (.load none (.t 20)),gd 22 16 false (.bin .neq (.t 19) (.t 21)),rg 23 (.pick (.t 16) (.c (.b true)) (.t 22)),mv 24 23,gd 25 24 false (.fad 4 (.t 5)),gd 26 24 false (.load none (.t 25)),gd 27 24 false (.len (.t 26)),gd 28 24 false (.fad 3 (.t 4)),gd 29 24 false (.load none (.t 28)),gd 30 24 false (.bin .neq (.t 27) (.t 29)),rg 31 (.pick (.t 24) (.c (.b true)) (.t 30))])
 (.cond (.t 31)
 (.seq
 (.reg [rg 32 (.build [(.i .i64 0),(.i .i64 0),(.i .i64 0),(.i .i64 0)] [(0,1,(.c (.i .i64 2)))]),rg 6 (.mov (.c (.sl [] .nl))),so (.store 4 (.t 7) (.t 32))])
 (.pre (.norm false [6,7]) .ret))
 .skip))
 (.seq
 (.note (.reg [rg 8 (.mov (.c (.sl [] .nl)))]) (.nil 8 3))
 (.seq
 (.seq
 (.reg [rg 33 (.fad 0 (.t 4)),rg 34 (.load none (.t 33)),rg 35 (.len (.t 34)),rg 36 (.mov (.c (.i .i64 0)))])
 (.lp 0 (.norm false [3,5,7,8,34,35,36]) l407_0 (.norm false [7,8])))
 (.seq
 (.reg [mv 68 8,rg 69 (.build [(.i .i64 0),(.i .i64 0),(.i .i64 0),(.i .i64 0)] []),mv 6 68,so (.store 4 (.t 7) (.t 69))])
 (.pre (.norm false [6,7]) .ret))))))
def l409_0:AX:=
 (.note
 (.seq
 (.reg [rg 23 (.bin .lss (.t 22) (.t 21))])
 (.seq
 (.cond (.t 23)
 .skip
 (.exit 0))
 (.seq
 (.block 1
 (.seq
 (.reg [rg 24 (.iad 1 (.t 20) (.t 22)),rg 25 (.load none (.t 24)),mv 7 25])
 (.reg [mv 26 5,mv 27 1,mv 28 7,rg 29 (.iad 3 (.t 27) (.t 28)),rg 30 (.load (some 3) (.t 29)),rg 31 (.call 207 [(.t 30)]),rg 32 (.bsl 3 [(.b false),(.sl [] .nl),(.sl [] .nl)] 1 [(0,(.t 31))]),rg 33 (.app 3 (.t 26) (.t 32)),mv 5 33])))
 (.reg [rg 34 (.bin .add (.t 22) (.c (.i .i64 1))),mv 22 34]))))
 (.norm false [1,5,20,21,22]))
def b409:AX:=
 (.seq
 (.reg [rg 2 (.xop (.box 4) [(.t 0)]),rg 4 (.mov (.c (.sl [] .nl)))])
 (.seq
 (.seq
 (.reg [rg 8 (.load (some 4) (.t 2)),rg 9 (.call 421 [(.t 8)]),rg 10 (.un .not (.t 9)),mv 11 10,gd 12 11 false (.mov (.t 1)),gd 13 11 false (.len (.t 12)),gd 14 11 false (.fad 0 (.t 2)),gd 15 11 false (.load none (.t 14)),gd 16 11 false (.len (.t 15)),gd 17 11 false (.bin .neq (.t 13) (.t 16)),rg 18 (.pick (.t 11) (.c (.b true)) (.t 17))])
 (.cond (.t 18)
 (.seq
 (.reg [rg 4 (.mov (.c (.sl [] .nl)))])
 (.pre (.norm false [4]) .ret))
 .skip))
 (.seq
 (.note (.reg [rg 5 (.mov (.c (.sl [] .nl)))]) (.nil 5 3))
 (.seq
 (.seq
 (.reg [rg 19 (.fad 1 (.t 2)),rg 20 (.load none (.t 19)),rg 21 (.len (.t 20)),rg 22 (.mov (.c (.i .i64 0)))])
 (.lp 0 (.norm false [1,5,20,21,22]) l409_0 (.norm false [5])))
 (.seq
 (.reg [mv 35 5,mv 4 35])
 (.pre (.norm false [4]) .ret))))))
def b422:AX:=
 (.seq
 (.reg [rg 4 (.xop (.box 1) [(.t 0)]),rg 5 (.xop (.box 6) [(.t 1)]),rg 6 (.xop (.box 5) [(.t 2)]),rg 8 (.alloc [(.b false),(.sl [] .nl),(.sl [] .nl)]),rg 9 (.mov (.c (.b false)))])
 (.seq
 (.seq
 (.reg [rg 10 (.fad 0 (.t 5)),rg 11 (.load none (.t 10))])
 (.block 0
 (.seq
 (.reg [rg 13 (.bin .eql (.t 11) (.c (.i .i64 6))),mv 12 13])
 (.cond (.t 12)
 (.seq
 (.drawT [rg 14 (.fad 0 (.t 4)),rg 15 (.load (some 1) (.t 14)),rg 16 (.ifc 1 (.t 15)),mv 17 3,rg 18 (.fad 1 (.t 5)),rg 19 (.load none (.t 18)),rg 20 (.iad 3 (.t 17) (.t 19)),rg 21 (.load (some 3) (.t 20))]
 [rg 22 (.inv "Neg" 1 444 (.t 16) [(.t 21)]),so (.store 3 (.t 8) (.t 22)),rg 9 (.mov (.c (.b true)))])
 (.pre (.norm false [8,9]) .ret))
 (.seq
 (.reg [rg 24 (.bin .eql (.t 11) (.c (.i .i64 11))),mv 23 24])
 (.cond (.t 23)
 (.seq
 (.drawT [rg 25 (.fad 0 (.t 4)),rg 26 (.load (some 1) (.t 25)),rg 27 (.ifc 1 (.t 26)),mv 28 3,rg 29 (.fad 1 (.t 5)),rg 30 (.load none (.t 29)),rg 31 (.iad 3 (.t 28) (.t 30)),rg 32 (.load (some 3) (.t 31)),rg 33 (.fad 2 (.t 5)),rg 34 (.load none (.t 33)),rg 35 (.inv "Pow" 1 446 (.t 27) [(.t 32),(.t 34)]),rg 36 (.ext (.t 35) 0),rg 37 (.ext (.t 35) 1)]
 [so (.store 3 (.t 8) (.t 36)),mv 9 37])
 (.pre (.norm false [8,9]) .ret))
 (.seq
 (.reg [rg 39 (.bin .eql (.t 11) (.c (.i .i64 7))),mv 38 39])
 (.cond (.t 38)
 (.seq
 (.drawT [rg 40 (.fad 0 (.t 4)),rg 41 (.load (some 1) (.t 40)),rg 42 (.ifc 1 (.t 41)),mv 43 3,rg 44 (.fad 1 (.t 5)),rg 45 (.load none (.t 44)),rg 46 (.iad 3 (.t 43) (.t 45)),rg 47 (.load (some 3) (.t 46)),mv 48 3,rg 49 (.fad 2 (.t 5)),rg 50 (.load none (.t 49)),rg 51 (.iad 3 (.t 48) (.t 50)),rg 52 (.load (some 3) (.t 51))]
 [rg 53 (.inv "Add" 1 441 (.t 42) [(.t 47),(.t 52)]),so (.store 3 (.t 8) (.t 53)),rg 9 (.mov (.c (.b true)))])
 (.pre (.norm false [8,9]) .ret))
 (.seq
 (.reg [rg 55 (.bin .eql (.t 11) (.c (.i .i64 8))),mv 54 55])
 (.cond (.t 54)
 (.seq
 (.drawT [rg 56 (.fad 0 (.t 4)),rg 57 (.load (some 1) (.t 56)),rg 58 (.ifc 1 (.t 57)),mv 59 3,rg 60 (.fad 1 (.t 5)),rg 61 (.load none (.t 60)),rg 62 (.iad 3 (.t 59) (.t 61)),rg 63 (.load (some 3) (.t 62)),mv 64 3,rg 65 (.fad 2 (.t 5)),rg 66 (.load none (.t 65)),rg 67 (.iad 3 (.t 64) (.t 66)),rg 68 (.load (some 3) (.t 67))]
 [rg 69 (.inv "Sub" 1 448 (.t 58) [(.t 63),(.t 68)]),so (.store 3 (.t 8) (.t 69)),rg 9 (.mov (.c (.b true)))])
 (.pre (.norm false [8,9]) .ret))
 (.seq
 (.reg [rg 71 (.bin .eql (.t 11) (.c (.i .i64 9))),mv 70 71])
 (.cond (.t 70)
 (.seq
 (.drawT [rg 72 (.fad 0 (.t 4)),rg 73 (.load (some 1) (.t 72)),rg 74 (.ifc 1 (.t 73)),mv 75 3,rg 76 (.fad 1 (.t 5)),rg 77 (.load none (.t 76)),rg 78 (.iad 3 (.t 75) (.t 77)),rg 79 (.load (some 3) (.t 78)),mv 80 3,rg 81 (.fad 2 (.t 5)),rg 82 (.load none (.t 81)),rg 83 (.iad 3 (.t 80) (.t 82)),rg 84 (.load (some 3) (.t 83))]
 [rg 85 (.inv "Mul" 1 443 (.t 74) [(.t 79),(.t 84)]),so (.store 3 (.t 8) (.t 85)),rg 9 (.mov (.c (.b true)))])
 (.pre (.norm false [8,9]) .ret))
 (.seq
 (.reg [rg 87 (.bin .eql (.t 11) (.c (.i .i64 10))),mv 86 87])
 (.cond (.t 86)
 (.seq
 (.drawT [rg 88 (.fad 0 (.t 4)),rg 89 (.load (some 1) (.t 88)),rg 90 (.ifc 1 (.t 89)),mv 91 3,rg 92 (.fad 1 (.t 5)),rg 93 (.load none (.t 92)),rg 94 (.iad 3 (.t 91) (.t 93)),rg 95 (.load (some 3) (.t 94)),mv 96 3,rg 97 (.fad 2 (.t 5)),rg 98 (.load none (.t 97)),rg 99 (.iad 3 (.t 96) (.t 98)),rg 100 (.load (some 3) (.t 99)),rg 101 (.inv "Quo" 1 447 (.t 90) [(.t 95),(.t 100)]),rg 102 (.ext (.t 101) 0),rg 103 (.ext (.t 101) 1)]
 [so (.store 3 (.t 8) (.t 102)),mv 9 103])
 (.pre (.norm false [8,9]) .ret))
 .skip))))))))))))))
 (.seq
 (.reg [rg 104 (.load (some 1) (.t 4)),rg 105 (.load (some 6) (.t 5)),rg 106 (.load (some 5) (.t 6)),rg 107 (.call 431 [(.t 104),(.t 105),(.t 106)]),so (.store 3 (.t 8) (.t 107)),rg 9 (.mov (.c (.b true)))])
 (.pre (.norm false [8,9]) .ret))))
def b431:AX:=
 (.seq
 (.reg [rg 3 (.xop (.box 1) [(.t 0)]),rg 4 (.xop (.box 6) [(.t 1)]),rg 5 (.xop (.box 5) [(.t 2)]),rg 6 (.alloc [(.b false),(.sl [] .nl),(.sl [] .nl)])])
 (.seq
 (.seq
 (.reg [rg 7 (.fad 0 (.t 4)),rg 8 (.load none (.t 7))])
 (.block 0
 (.seq
 (.reg [rg 10 (.bin .eql (.t 8) (.c (.i .i64 1))),mv 9 10])
 (.cond (.t 9)
 (.seq
 (.reg [rg 11 (.fad 0 (.t 3)),rg 12 (.load (some 1) (.t 11)),rg 13 (.ifc 1 (.t 12)),rg 14 (.fad 3 (.t 4)),rg 15 (.load (some 3) (.t 14)),rg 16 (.inv "Of" 1 445 (.t 13) [(.t 15)]),so (.store 3 (.t 6) (.t 16))])
 (.pre (.norm false [6]) .ret))
 (.seq
 (.reg [rg 18 (.bin .eql (.t 8) (.c (.i .i64 3))),mv 17 18])
 (.cond (.t 17)
 (.seq
 (.reg [rg 19 (.fad 3 (.t 5)),rg 20 (.load none (.t 19)),rg 21 (.fad 1 (.t 4)),rg 22 (.load none (.t 21)),rg 23 (.iad 3 (.t 20) (.t 22)),rg 24 (.load (some 3) (.t 23)),so (.store 3 (.t 6) (.t 24))])
 (.pre (.norm false [6]) .ret))
 (.seq
 (.reg [rg 26 (.bin .eql (.t 8) (.c (.i .i64 4))),mv 25 26])
 (.cond (.t 25)
 (.seq
 (.reg [rg 27 (.fad 4 (.t 5)),rg 28 (.load none (.t 27)),rg 29 (.fad 1 (.t 4)),rg 30 (.load none (.t 29)),rg 31 (.iad 3 (.t 28) (.t 30)),rg 32 (.load (some 3) (.t 31)),so (.store 3 (.t 6) (.t 32))])
 (.pre (.norm false [6]) .ret))
 .skip))))))))
 (.seq
 (.reg [rg 33 (.fad 0 (.t 5)),rg 34 (.load (some 3) (.t 33)),so (.store 3 (.t 6) (.t 34))])
 (.pre (.norm false [6]) .ret))))
def b441:AX:=
 (.seq
 (.reg [rg 3 (.xop (.box 1) [(.t 0)]),rg 4 (.xop (.box 3) [(.t 1)]),rg 5 (.xop (.box 3) [(.t 2)]),rg 6 (.alloc [(.b false),(.sl [] .nl),(.sl [] .nl)])])
 (.seq
 (.reg [rg 7 (.load (some 3) (.t 4)),rg 8 (.load (some 3) (.t 5)),rg 9 (.call 215 [(.t 7),(.t 8)]),so (.store 3 (.t 6) (.t 9))])
 (.pre (.norm false [6]) .ret)))
def b442:AX:=
 (.seq
 (.reg [rg 2 (.xop (.box 1) [(.t 0)]),rg 3 (.xop (.box 3) [(.t 1)]),rg 4 (.mov (.c (.b false)))])
 (.seq
 (.reg [rg 5 (.fad 0 (.t 2)),rg 6 (.load none (.t 5)),rg 7 (.load (some 3) (.t 3)),rg 8 (.call 411 [(.t 6),(.t 7)]),mv 4 8])
 (.pre (.norm false [4]) .ret)))
def b443:AX:=
 (.seq
 (.reg [rg 3 (.xop (.box 1) [(.t 0)]),rg 4 (.xop (.box 3) [(.t 1)]),rg 5 (.xop (.box 3) [(.t 2)]),rg 6 (.alloc [(.b false),(.sl [] .nl),(.sl [] .nl)])])
 (.seq
 (.reg [rg 7 (.load (some 3) (.t 4)),rg 8 (.load (some 3) (.t 5)),rg 9 (.call 217 [(.t 7),(.t 8)]),so (.store 3 (.t 6) (.t 9))])
 (.pre (.norm false [6]) .ret)))
def b444:AX:=
 (.seq
 (.reg [rg 2 (.xop (.box 1) [(.t 0)]),rg 3 (.xop (.box 3) [(.t 1)]),rg 4 (.alloc [(.b false),(.sl [] .nl),(.sl [] .nl)])])
 (.seq
 (.reg [rg 5 (.load (some 3) (.t 3)),rg 6 (.call 213 [(.t 5)]),so (.store 3 (.t 4) (.t 6))])
 (.pre (.norm false [4]) .ret)))
def b445:AX:=
 (.seq
 (.reg [rg 2 (.xop (.box 1) [(.t 0)]),rg 3 (.xop (.box 3) [(.t 1)]),rg 4 (.alloc [(.b false),(.sl [] .nl),(.sl [] .nl)])])
 (.seq
 (.reg [rg 5 (.load (some 3) (.t 3)),rg 6 (.call 207 [(.t 5)]),so (.store 3 (.t 4) (.t 6))])
 (.pre (.norm false [4]) .ret)))
def b446:AX:=
 (.seq
 (.reg [rg 3 (.xop (.box 1) [(.t 0)]),rg 4 (.xop (.box 3) [(.t 1)]),rg 6 (.alloc [(.b false),(.sl [] .nl),(.sl [] .nl)]),rg 7 (.mov (.c (.b false)))])
 (.seq
 (.reg [rg 8 (.load (some 3) (.t 4)),mv 9 2,rg 10 (.call 220 [(.t 8),(.t 9)]),rg 11 (.ext (.t 10) 0),rg 12 (.ext (.t 10) 1),so (.store 3 (.t 6) (.t 11)),mv 7 12])
 (.pre (.norm false [6,7]) .ret)))
def b447:AX:=
 (.seq
 (.reg [rg 3 (.xop (.box 1) [(.t 0)]),rg 4 (.xop (.box 3) [(.t 1)]),rg 5 (.xop (.box 3) [(.t 2)]),rg 6 (.alloc [(.b false),(.sl [] .nl),(.sl [] .nl)]),rg 7 (.mov (.c (.b false)))])
 (.seq
 (.reg [rg 8 (.load (some 3) (.t 4)),rg 9 (.load (some 3) (.t 5)),rg 10 (.call 218 [(.t 8),(.t 9)]),rg 11 (.ext (.t 10) 0),rg 12 (.ext (.t 10) 1),so (.store 3 (.t 6) (.t 11)),mv 7 12])
 (.pre (.norm false [6,7]) .ret)))
def b448:AX:=
 (.seq
 (.reg [rg 3 (.xop (.box 1) [(.t 0)]),rg 4 (.xop (.box 3) [(.t 1)]),rg 5 (.xop (.box 3) [(.t 2)]),rg 6 (.alloc [(.b false),(.sl [] .nl),(.sl [] .nl)])])
 (.seq
 (.reg [rg 7 (.load (some 3) (.t 4)),rg 8 (.load (some 3) (.t 5)),rg 9 (.call 216 [(.t 7),(.t 8)]),so (.store 3 (.t 6) (.t 9))])
 (.pre (.norm false [6]) .ret)))
class CRun (T:Tbl):Prop where
 h384:T 384=some ⟨3,27,[.t 6,.cell 7 (some 4)],b384,none,false⟩
 h389:T 389=some ⟨3,25,[.t 6,.cell 7 (some 4)],b389,none,false⟩
 h407:T 407=some ⟨3,70,[.t 6,.cell 7 (some 4)],b407,(some [true,false,false]),false⟩
 h409:T 409=some ⟨2,36,[.t 4],b409,none,false⟩
 h422:T 422=some ⟨4,108,[.cell 8 (some 3),.t 9],b422,none,false⟩
 h431:T 431=some ⟨3,35,[.cell 6 (some 3)],b431,none,false⟩
 h441:T 441=some ⟨3,10,[.cell 6 (some 3)],b441,none,false⟩
 h442:T 442=some ⟨2,9,[.t 4],b442,(some [true,false]),false⟩
 h443:T 443=some ⟨3,10,[.cell 6 (some 3)],b443,none,false⟩
 h444:T 444=some ⟨2,7,[.cell 4 (some 3)],b444,none,false⟩
 h445:T 445=some ⟨2,7,[.cell 4 (some 3)],b445,none,false⟩
 h446:T 446=some ⟨3,13,[.cell 6 (some 3),.t 7],b446,none,false⟩
 h447:T 447=some ⟨3,13,[.cell 6 (some 3),.t 7],b447,none,false⟩
 h448:T 448=some ⟨3,10,[.cell 6 (some 3)],b448,none,false⟩
section
variable{T:Tbl}[CRun T]{d:Option Nat}{st:St}{xs:List AV}{ps:List Opd}{e:Env}{h:Heap}{ol:List Heap}
@[simp] theorem x384:callX (orc T) T 384 xs d st=cP T 384 false xs d st:=zaa CRun.h384
theorem f384(xs:List AV)(hn:xs.length=3):callF T 384 xs=retF [.t 6,.cell 7 (some 4)] false (evX (orc T) T 0 b384 ⟨argEnv xs,[],1⟩):=zab CRun.h384 hn
@[simp] theorem y389:opD (orc T) T (.call 389 ps) e h ol=dP T 389 false ps e:=zal CRun.h389
theorem f389(xs:List AV)(hn:xs.length=3):callF T 389 xs=retF [.t 6,.cell 7 (some 4)] false (evX (orc T) T 0 b389 ⟨argEnv xs,[],1⟩):=zab CRun.h389 hn
@[simp] theorem x407:callX (orc T) T 407 xs d st=cL T 407 false [true,false,false] xs d st:=zan CRun.h407
theorem f407(xs:List AV)(hb:Heap)(hn:xs.length=3):callH T 407 xs hb=retH [.t 6,.cell 7 (some 4)] false hb.length (evX (orc T) T hb.length b407 ⟨argEnv xs,hb,hb.length+1⟩):=zau CRun.h407 hn
@[simp] theorem y409:opD (orc T) T (.call 409 ps) e h ol=dP T 409 false ps e:=zal CRun.h409
theorem f409(xs:List AV)(hn:xs.length=2):callF T 409 xs=retF [.t 4] false (evX (orc T) T 0 b409 ⟨argEnv xs,[],1⟩):=zab CRun.h409 hn
@[simp] theorem x422:callX (orc T) T 422 xs d st=cP T 422 false xs d st:=zaa CRun.h422
theorem f422(xs:List AV)(hn:xs.length=4):callF T 422 xs=retF [.cell 8 (some 3),.t 9] false (evX (orc T) T 0 b422 ⟨argEnv xs,[],1⟩):=zab CRun.h422 hn
@[simp] theorem x431:callX (orc T) T 431 xs d st=cP T 431 false xs d st:=zaa CRun.h431
theorem f431(xs:List AV)(hn:xs.length=3):callF T 431 xs=retF [.cell 6 (some 3)] false (evX (orc T) T 0 b431 ⟨argEnv xs,[],1⟩):=zab CRun.h431 hn
@[simp] theorem x441:callX (orc T) T 441 xs d st=cP T 441 false xs d st:=zaa CRun.h441
theorem f441(xs:List AV)(hn:xs.length=3):callF T 441 xs=retF [.cell 6 (some 3)] false (evX (orc T) T 0 b441 ⟨argEnv xs,[],1⟩):=zab CRun.h441 hn
@[simp] theorem x442:callX (orc T) T 442 xs d st=cL T 442 false [true,false] xs d st:=zan CRun.h442
theorem f442(xs:List AV)(hb:Heap)(hn:xs.length=2):callH T 442 xs hb=retH [.t 4] false hb.length (evX (orc T) T hb.length b442 ⟨argEnv xs,hb,hb.length+1⟩):=zau CRun.h442 hn
@[simp] theorem x443:callX (orc T) T 443 xs d st=cP T 443 false xs d st:=zaa CRun.h443
theorem f443(xs:List AV)(hn:xs.length=3):callF T 443 xs=retF [.cell 6 (some 3)] false (evX (orc T) T 0 b443 ⟨argEnv xs,[],1⟩):=zab CRun.h443 hn
@[simp] theorem x444:callX (orc T) T 444 xs d st=cP T 444 false xs d st:=zaa CRun.h444
theorem f444(xs:List AV)(hn:xs.length=2):callF T 444 xs=retF [.cell 4 (some 3)] false (evX (orc T) T 0 b444 ⟨argEnv xs,[],1⟩):=zab CRun.h444 hn
@[simp] theorem x445:callX (orc T) T 445 xs d st=cP T 445 false xs d st:=zaa CRun.h445
theorem f445(xs:List AV)(hn:xs.length=2):callF T 445 xs=retF [.cell 4 (some 3)] false (evX (orc T) T 0 b445 ⟨argEnv xs,[],1⟩):=zab CRun.h445 hn
@[simp] theorem z446(xs:List AV):dI T 446 xs=dR (callF T 446 (xs.map (wkIf false))) xs:=z8r CRun.h446
theorem f446(xs:List AV)(hn:xs.length=3):callF T 446 xs=retF [.cell 6 (some 3),.t 7] false (evX (orc T) T 0 b446 ⟨argEnv xs,[],1⟩):=zab CRun.h446 hn
@[simp] theorem z447(xs:List AV):dI T 447 xs=dR (callF T 447 (xs.map (wkIf false))) xs:=z8r CRun.h447
theorem f447(xs:List AV)(hn:xs.length=3):callF T 447 xs=retF [.cell 6 (some 3),.t 7] false (evX (orc T) T 0 b447 ⟨argEnv xs,[],1⟩):=zab CRun.h447 hn
@[simp] theorem x448:callX (orc T) T 448 xs d st=cP T 448 false xs d st:=zaa CRun.h448
theorem f448(xs:List AV)(hn:xs.length=3):callF T 448 xs=retF [.cell 6 (some 3)] false (evX (orc T) T 0 b448 ⟨argEnv xs,[],1⟩):=zab CRun.h448 hn
end
def meths1:List RV:=[.cell 1 (some 445),.cell 2 (some 444),.cell 3 (some 441),.cell 4 (some 448),.cell 5 (some 443),.cell 6 (some 447),.cell 7 (some 446),.cell 8 (some 442)]
class CIfc (T:Tbl):Prop where
 h1:∃t,T 1000001=some ⟨t,0,meths1,.bad,none,false⟩
section
variable{T:Tbl}[CIfc T]
theorem zed(x:String×Nat):x∈methsT T 1↔x∈[("Of",445),("Neg",444),("Add",441),("Sub",448),("Mul",443),("Quo",447),("Pow",446),("Fits",442)]:=by
 obtain⟨t,ht⟩:=CIfc.h1 (T:=T)
 rw[zx1 ht]
 rfl
@[simp] theorem zanw:(("Of",445)∈methsT T 1)=True:=by simp[zed]
@[simp] theorem zala:(("Neg",444)∈methsT T 1)=True:=by simp[zed]
@[simp] theorem zalb:(("Add",441)∈methsT T 1)=True:=by simp[zed]
@[simp] theorem zalc:(("Sub",448)∈methsT T 1)=True:=by simp[zed]
@[simp] theorem zald:(("Mul",443)∈methsT T 1)=True:=by simp[zed]
@[simp] theorem zale:(("Quo",447)∈methsT T 1)=True:=by simp[zed]
@[simp] theorem zalf:(("Pow",446)∈methsT T 1)=True:=by simp[zed]
@[simp] theorem zah6:(("Fits",442)∈methsT T 1)=True:=by simp[zed]
end
def isD(c:UInt8):Bool:=decide (48≤c.toNat)&&decide (c.toNat≤57)
def isL(c:UInt8):Bool:=decide (97≤c.toNat)&&decide (c.toNat≤122) || decide (65≤c.toNat)&&decide (c.toNat≤90) || decide (c.toNat=95)
def signB:List UInt8:=[43,45,42,47,94,40,41,91,93,44,59,61]
def isS(c:UInt8):Bool:=signB.contains c
def kindN(c:UInt8):Nat:=if isD c then 1 else if isL c then 2 else if isS c then 3 else 0
def moreN(k:Nat)(c:UInt8):Bool:=decide (k=1)&&isD c || decide (k=2)&&(isL c || isD c)
def mostN(k:Nat):Nat:=if k=1 then 60 else if k=2 then 12 else 1
def isB(c:UInt8):Bool:=decide (c=32) || decide (c=9) || decide (c=10) || decide (c=13)
abbrev Wd:=Nat×List UInt8×Nat
def skipC:Bool→List UInt8→Nat
 | _,[]=>0
 | note,c::r=>
  let note':=if c=35 then true else if c=10 then false else note
  if (note' || isB c)=true then 1+skipC note' r else 0
def firstN(k:Nat)(r:List UInt8):Nat:=1+(r.takeWhile (moreN k)).length
def scanL(l:List UInt8)(i:Nat)(acc:List Wd):Except Nat (List Wd):=
 match l with
 | []=>.ok acc
 | c::r=>
  if kindN c=0 then .error i
  else if mostN (kindN c)<firstN (kindN c) r then .error (i+mostN (kindN c))
  else scanL ((r.drop (firstN (kindN c) r-1)).drop (skipC false (r.drop (firstN (kindN c) r-1)))) (i+firstN (kindN c) r+skipC false (r.drop (firstN (kindN c) r-1)))
   (acc++[(kindN c,(c::r).take (firstN (kindN c) r),i)])
termination_by l.length
decreasing_by grind
def stepWd(c:UInt8)(i:Nat)(acc:List Wd):List Wd:=
 match acc.getLast? with
 | some (k,t,a)=>if a+t.length=i∧moreN k c=true then acc.dropLast++[(k,t++[c],a)] else acc++[(kindN c,[c],i)]
 | none=>acc++[(kindN c,[c],i)]
def badWd(acc:List Wd):Bool:=
 match acc.getLast? with
 | some (k,t,_)=>decide (k=0) || decide (mostN k<t.length)
 | none=>false
def refL:List UInt8→Nat→Bool→List Wd→Except Nat (List Wd)
 | [],_,_,acc=>.ok acc
 | c::r,i,note,acc=>
  let note':=if c=35 then true else if c=10 then false else note
  if (note' || isB c)=true then refL r (i+1) note' acc
  else if badWd (stepWd c i acc)=true then .error i
  else refL r (i+1) note' (stepWd c i acc)
def Fresh(acc:List Wd)(i:Nat)(l:List UInt8):Prop:=∀k t a,acc.getLast? = some (k,t,a)→a+t.length=i→∀c r,l=c::r→moreN k c=false
def prim187:List AV→Option AV
 | [.i .u8 n]=>if 0≤n∧n<256 then some (.b (isS (UInt8.ofNat n.toNat))) else none
 | _=>none
theorem zsj(c:UInt8):prim187 [u8 c.toNat]=some (.b (isS c)):=by
 have:=c.toNat_lt
 simp only[prim187,u8]
 rw[if_pos ⟨by omega,by omega⟩]
 simp
def prim184:List AV→Option AV
 | [.s l,.s [c]]=>if l.length≤1000000 then some (.tup [.s (l.takeWhile (· != c)),.s ((l.dropWhile (· != c)).drop 1),.b (l.contains c)]) else none
 | _=>none
def textOf:List AV→Option (List UInt8)
 | [.s l]=>if l.length≤10000 then some l else none
 | _=>none
def prim183:List AV→Option AV
 | [.sl els .an,.s sep]=>if els.length≤1000∧sep.length≤100 then (els.mapM textOf).map fun ts=>.s (List.intercalate sep ts) else none
 | _=>none
def rowsT(l:List (List UInt8)):List (List AV):=l.map fun s=>[.s s]
class CJoin (T:Tbl):Prop where
def l263_0:AX:=
 (.note
 (.seq
 (.reg [rg 12 (.bin .lss (.t 11) (.t 10))])
 (.seq
 (.cond (.t 12)
 .skip
 (.exit 0))
 (.seq
 (.block 1
 (.seq
 (.reg [mv 13 11,mv 4 13])
 (.reg [mv 14 3,mv 15 4,rg 16 (.call 205 [(.c (.i .i64 0))]),rg 17 (.iad 3 (.t 14) (.t 15)),so (.store 3 (.t 17) (.t 16))])))
 (.reg [rg 18 (.bin .add (.t 11) (.c (.i .i64 1))),mv 11 18]))))
 (.norm false [3,10,11]))
def b263:AX:=
 (.seq
 (.reg [rg 2 (.mov (.c (.sl [] .nl)))])
 (.seq
 (.reg [mv 5 0,rg 6 (.mm true [(.t 5),(.c (.i .i64 0))]),rg 7 (.mm false [(.t 6),(.c (.i .i64 300))]),mv 0 7])
 (.seq
 (.reg [mv 8 0,rg 9 (.mks 3 [(.b false),(.sl [] .nl),(.sl [] .nl)] (.t 8) (.t 8)),mv 3 9])
 (.seq
 (.seq
 (.reg [mv 10 0,rg 11 (.mov (.c (.i .i64 0)))])
 (.lp 0 (.norm false [3,10,11]) l263_0 (.norm false [3])))
 (.seq
 (.reg [mv 19 3,mv 2 19])
 (.pre (.norm false [2]) .ret))))))
def l265_0:AX:=
 (.note
 (.seq
 (.reg [rg 14 (.bin .lss (.t 13) (.t 12))])
 (.seq
 (.cond (.t 14)
 .skip
 (.exit 0))
 (.seq
 (.block 1
 (.seq
 (.reg [mv 15 13,mv 5 15])
 (.seq
 (.drawT [mv 16 0,mv 17 5,rg 18 (.iad 3 (.t 16) (.t 17)),rg 19 (.load (some 3) (.t 18)),mv 20 1,mv 21 5,rg 22 (.iad 3 (.t 20) (.t 21)),rg 23 (.load (some 3) (.t 22))]
 [rg 24 (.call 212 [(.t 19),(.t 23)]),rg 25 (.un .not (.t 24))])
 (.cond (.t 25)
 (.seq
 (.reg [rg 4 (.mov (.c (.b false)))])
 (.pre (.norm false [4]) .ret))
 .skip))))
 (.reg [rg 26 (.bin .add (.t 13) (.c (.i .i64 1))),mv 13 26]))))
 (.norm false [0,1,12,13]))
def b265:AX:=
 (.seq
 (.reg [rg 4 (.mov (.c (.b false)))])
 (.seq
 (.seq
 (.reg [mv 6 0,rg 7 (.len (.t 6)),mv 8 1,rg 9 (.len (.t 8)),rg 10 (.bin .neq (.t 7) (.t 9))])
 (.cond (.t 10)
 (.seq
 (.reg [rg 4 (.mov (.c (.b false)))])
 (.pre (.norm false [4]) .ret))
 .skip))
 (.seq
 (.seq
 (.reg [mv 11 0,rg 12 (.len (.t 11)),rg 13 (.mov (.c (.i .i64 0)))])
 (.lp 0 (.norm false [0,1,12,13]) l265_0 (.norm false [])))
 (.seq
 (.reg [rg 4 (.mov (.c (.b true)))])
 (.pre (.norm false [4]) .ret)))))
def l266_0:AX:=
 (.note
 (.seq
 (.reg [rg 9 (.bin .lss (.t 8) (.t 7))])
 (.seq
 (.cond (.t 9)
 .skip
 (.exit 0))
 (.seq
 (.block 1
 (.seq
 (.reg [rg 10 (.iad 3 (.t 6) (.t 8)),rg 11 (.load (some 3) (.t 10)),rg 5 (.alloc [(.b false),(.sl [] .nl),(.sl [] .nl)]),so (.store 3 (.t 5) (.t 11))])
 (.reg [mv 12 3,rg 13 (.load (some 3) (.t 5)),rg 14 (.call 207 [(.t 13)]),rg 15 (.bsl 3 [(.b false),(.sl [] .nl),(.sl [] .nl)] 1 [(0,(.t 14))]),rg 16 (.app 3 (.t 12) (.t 15)),mv 3 16])))
 (.reg [rg 17 (.bin .add (.t 8) (.c (.i .i64 1))),mv 8 17]))))
 (.norm false [3,6,7,8]))
def b266:AX:=
 (.seq
 (.reg [rg 2 (.mov (.c (.sl [] .nl)))])
 (.seq
 (.note (.reg [rg 3 (.mov (.c (.sl [] .nl)))]) (.nil 3 3))
 (.seq
 (.seq
 (.reg [mv 6 0,rg 7 (.len (.t 6)),rg 8 (.mov (.c (.i .i64 0)))])
 (.lp 0 (.norm false [3,6,7,8]) l266_0 (.norm false [3])))
 (.seq
 (.reg [mv 18 3,mv 2 18])
 (.pre (.norm false [2]) .ret)))))
def l267_0:AX:=
 (.note
 (.seq
 (.reg [rg 31 (.bin .lss (.t 30) (.t 29))])
 (.seq
 (.cond (.t 31)
 .skip
 (.exit 2))
 (.seq
 (.block 3
 (.seq
 (.reg [mv 32 30,rg 33 (.iad 3 (.t 28) (.t 30)),rg 34 (.load (some 3) (.t 33)),rg 8 (.alloc [(.b false),(.sl [] .nl),(.sl [] .nl)]),mv 7 32,so (.store 3 (.t 8) (.t 34))])
 (.drawT [mv 35 4,mv 36 7,mv 37 4,mv 38 7,rg 39 (.iad 3 (.t 37) (.t 38)),rg 40 (.load (some 3) (.t 39)),rg 41 (.load (some 3) (.t 8)),rg 42 (.call 215 [(.t 40),(.t 41)])]
 [rg 43 (.iad 3 (.t 35) (.t 36)),so (.store 3 (.t 43) (.t 42))])))
 (.reg [rg 44 (.bin .add (.t 30) (.c (.i .i64 1))),mv 30 44]))))
 (.norm false [4,17,18,19,28,29,30]))
def l267_1:AX:=
 (.note
 (.seq
 (.reg [rg 20 (.bin .lss (.t 19) (.t 18))])
 (.seq
 (.cond (.t 20)
 .skip
 (.exit 0))
 (.seq
 (.block 1
 (.seq
 (.reg [rg 21 (.iad 1 (.t 17) (.t 19)),rg 22 (.load none (.t 21)),mv 6 22])
 (.seq
 (.seq
 (.reg [mv 23 6,rg 24 (.len (.t 23)),mv 25 4,rg 26 (.len (.t 25)),rg 27 (.bin .neq (.t 24) (.t 26))])
 (.cond (.t 27)
 (.seq
 (.reg [rg 2 (.mov (.c (.sl [] .nl))),rg 3 (.mov (.c (.b false)))])
 (.pre (.norm false [2,3]) .ret))
 .skip))
 (.seq
 (.reg [mv 28 6,rg 29 (.len (.t 28)),rg 30 (.mov (.c (.i .i64 0)))])
 (.lp 2 (.norm false [4,17,18,19,28,29,30]) l267_0 (.norm false [4,17,18,19]))))))
 (.reg [rg 45 (.bin .add (.t 19) (.c (.i .i64 1))),mv 19 45]))))
 (.norm false [4,17,18,19]))
def b267:AX:=
 (.seq
 (.reg [rg 2 (.mov (.c (.sl [] .nl))),rg 3 (.mov (.c (.b false)))])
 (.seq
 (.seq
 (.reg [mv 9 0,rg 10 (.len (.t 9)),rg 11 (.bin .eql (.t 10) (.c (.i .i64 0)))])
 (.cond (.t 11)
 (.seq
 (.reg [rg 2 (.mov (.c (.sl [] .nl))),rg 3 (.mov (.c (.b true)))])
 (.pre (.norm false [2,3]) .ret))
 .skip))
 (.seq
 (.reg [mv 12 0,rg 13 (.iad 1 (.t 12) (.c (.i .i64 0))),rg 14 (.load none (.t 13)),rg 15 (.call 2266 [(.t 14)]),mv 4 15])
 (.seq
 (.seq
 (.reg [mv 16 0,rg 17 (.slc 1 (.t 16) (some (.c (.i .i64 1))) none none),rg 18 (.len (.t 17)),rg 19 (.mov (.c (.i .i64 0)))])
 (.lp 0 (.norm false [4,17,18,19]) l267_1 (.norm false [4])))
 (.seq
 (.reg [mv 46 4,mv 2 46,rg 3 (.mov (.c (.b true)))])
 (.pre (.norm false [2,3]) .ret))))))
def l269_0:AX:=
 (.note
 (.seq
 (.reg [rg 11 (.bin .lss (.t 10) (.t 9))])
 (.seq
 (.cond (.t 11)
 .skip
 (.exit 0))
 (.seq
 (.block 1
 (.seq
 (.reg [rg 12 (.iad 3 (.t 8) (.t 10)),rg 13 (.load (some 3) (.t 12)),rg 7 (.alloc [(.b false),(.sl [] .nl),(.sl [] .nl)]),so (.store 3 (.t 7) (.t 13))])
 (.reg [mv 14 5,rg 15 (.load (some 3) (.t 2)),rg 16 (.load (some 3) (.t 7)),rg 17 (.call 217 [(.t 15),(.t 16)]),rg 18 (.bsl 3 [(.b false),(.sl [] .nl),(.sl [] .nl)] 1 [(0,(.t 17))]),rg 19 (.app 3 (.t 14) (.t 18)),mv 5 19])))
 (.reg [rg 20 (.bin .add (.t 10) (.c (.i .i64 1))),mv 10 20]))))
 (.norm false [2,5,8,9,10]))
def b269:AX:=
 (.seq
 (.reg [rg 2 (.xop (.box 3) [(.t 0)]),rg 4 (.mov (.c (.sl [] .nl)))])
 (.seq
 (.note (.reg [rg 5 (.mov (.c (.sl [] .nl)))]) (.nil 5 3))
 (.seq
 (.seq
 (.reg [mv 8 1,rg 9 (.len (.t 8)),rg 10 (.mov (.c (.i .i64 0)))])
 (.lp 0 (.norm false [2,5,8,9,10]) l269_0 (.norm false [5])))
 (.seq
 (.reg [mv 21 5,mv 4 21])
 (.pre (.norm false [4]) .ret)))))
def l271_0:AX:=
 (.note
 (.seq
 (.reg [rg 31 (.bin .lss (.t 30) (.t 29))])
 (.seq
 (.cond (.t 31)
 .skip
 (.exit 0))
 (.seq
 (.block 1
 (.seq
 (.reg [rg 32 (.iad 1 (.t 28) (.t 30)),rg 33 (.load none (.t 32)),mv 9 33])
 (.seq
 (.reg [mv 34 9,rg 35 (.len (.t 34)),mv 36 2,rg 37 (.bin .neq (.t 35) (.t 36))])
 (.cond (.t 37)
 (.seq
 (.reg [rg 6 (.mov (.c (.sl [] .nl))),rg 7 (.mov (.c (.b false)))])
 (.pre (.norm false [6,7]) .ret))
 .skip))))
 (.reg [rg 38 (.bin .add (.t 30) (.c (.i .i64 1))),mv 30 38]))))
 (.norm false [0,1,2,28,29,30]))
def l271_1:AX:=
 (.note
 (.seq
 (.reg [rg 57 (.bin .lss (.t 56) (.t 55))])
 (.seq
 (.cond (.t 57)
 .skip
 (.exit 4))
 (.seq
 (.block 5
 (.seq
 (.reg [mv 58 56,rg 59 (.iad 3 (.t 54) (.t 56)),rg 60 (.load (some 3) (.t 59)),rg 14 (.alloc [(.b false),(.sl [] .nl),(.sl [] .nl)]),mv 13 58,so (.store 3 (.t 14) (.t 60))])
 (.drawT [mv 61 10,mv 62 13,mv 63 10,mv 64 13,rg 65 (.iad 3 (.t 63) (.t 64)),rg 66 (.load (some 3) (.t 65)),mv 67 0,mv 68 11,rg 69 (.iad 3 (.t 67) (.t 68)),rg 70 (.load (some 3) (.t 69)),rg 71 (.load (some 3) (.t 14)),rg 72 (.call 217 [(.t 70),(.t 71)]),rg 73 (.call 215 [(.t 66),(.t 72)])]
 [rg 74 (.iad 3 (.t 61) (.t 62)),so (.store 3 (.t 74) (.t 73))])))
 (.reg [rg 75 (.bin .add (.t 56) (.c (.i .i64 1))),mv 56 75]))))
 (.norm false [0,10,11,41,42,43,54,55,56]))
def l271_2:AX:=
 (.note
 (.seq
 (.reg [rg 44 (.bin .lss (.t 43) (.t 42))])
 (.seq
 (.cond (.t 44)
 .skip
 (.exit 2))
 (.seq
 (.block 3
 (.seq
 (.reg [mv 45 43,rg 46 (.iad 1 (.t 41) (.t 43)),rg 47 (.load none (.t 46)),mv 11 45,mv 12 47])
 (.seq
 (.seq
 (.reg [mv 48 0,mv 49 11,rg 50 (.iad 3 (.t 48) (.t 49)),rg 51 (.load (some 3) (.t 50)),rg 52 (.call 209 [(.t 51)]),rg 53 (.bin .eql (.t 52) (.c (.i .i64 0)))])
 (.cond (.t 53)
 (.exit 3)
 .skip))
 (.seq
 (.reg [mv 54 12,rg 55 (.len (.t 54)),rg 56 (.mov (.c (.i .i64 0)))])
 (.lp 4 (.norm false [0,10,11,41,42,43,54,55,56]) l271_1 (.norm false [0,10,41,42,43]))))))
 (.reg [rg 76 (.bin .add (.t 43) (.c (.i .i64 1))),mv 43 76]))))
 (.norm false [0,10,41,42,43]))
def b271:AX:=
 (.seq
 (.reg [rg 6 (.mov (.c (.sl [] .nl))),rg 7 (.mov (.c (.b false)))])
 (.seq
 (.seq
 (.reg [mv 15 0,rg 16 (.len (.t 15)),mv 17 1,rg 18 (.len (.t 17)),rg 19 (.bin .neq (.t 16) (.t 18)),mv 20 19,gd 21 20 false (.mov (.t 2)),gd 22 20 false (.bin .lss (.t 21) (.c (.i .i64 0))),rg 23 (.pick (.t 20) (.c (.b true)) (.t 22)),mv 24 23,gd 25 24 false (.mov (.t 2)),gd 26 24 false (.bin .gtr (.t 25) (.c (.i .i64 300))),rg 27 (.pick (.t 24) (.c (.b true)) (.t 26))])
 (.cond (.t 27)
 (.seq
 (.reg [rg 6 (.mov (.c (.sl [] .nl))),rg 7 (.mov (.c (.b false)))])
 (.pre (.norm false [6,7]) .ret))
 .skip))
 (.seq
 (.seq
 (.reg [mv 28 1,rg 29 (.len (.t 28)),rg 30 (.mov (.c (.i .i64 0)))])
 (.lp 0 (.norm false [0,1,2,28,29,30]) l271_0 (.norm false [0,1,2])))
 (.seq
 (.reg [mv 39 2,rg 40 (.call 2263 [(.t 39)]),mv 10 40])
 (.seq
 (.seq
 (.reg [mv 41 1,rg 42 (.len (.t 41)),rg 43 (.mov (.c (.i .i64 0)))])
 (.lp 2 (.norm false [0,10,41,42,43]) l271_2 (.norm false [10])))
 (.seq
 (.reg [mv 77 10,mv 6 77,rg 7 (.mov (.c (.b true)))])
 (.pre (.norm false [6,7]) .ret)))))))
def l2263_0:AX:=
 (.note
 (.seq
 (.reg [rg 12 (.bin .lss (.t 11) (.t 10))])
 (.seq
 (.cond (.t 12)
 .skip
 (.exit 0))
 (.seq
 (.block 1
 (.seq
 (.reg [mv 13 11,mv 4 13])
 (.reg [mv 14 3,mv 15 4,rg 16 (.call 205 [(.c (.i .i64 0))]),rg 17 (.iad 3 (.t 14) (.t 15)),so (.store 3 (.t 17) (.t 16))])))
 (.reg [rg 18 (.bin .add (.t 11) (.c (.i .i64 1))),mv 11 18]))))
 (.norm false [3,10,11]))
def b2263:AX:=
 (.seq
 (.reg [rg 2 (.mov (.c (.sl [] .nl)))])
 (.seq
 (.reg [mv 5 0,rg 6 (.mm true [(.t 5),(.c (.i .i64 0))]),rg 7 (.mm false [(.t 6),(.c (.i .i64 300))]),mv 0 7])
 (.seq
 (.reg [mv 8 0,rg 9 (.mks 3 [(.b false),(.sl [] .nl),(.sl [] .nl)] (.t 8) (.t 8)),mv 3 9])
 (.seq
 (.seq
 (.reg [mv 10 0,rg 11 (.mov (.c (.i .i64 0)))])
 (.lp 0 (.norm false [3,10,11]) l2263_0 (.norm false [3])))
 (.seq
 (.reg [mv 19 3,mv 2 19])
 (.pre (.norm false [2]) .ret))))))
def l2266_0:AX:=
 (.note
 (.seq
 (.reg [rg 9 (.bin .lss (.t 8) (.t 7))])
 (.seq
 (.cond (.t 9)
 .skip
 (.exit 0))
 (.seq
 (.block 1
 (.seq
 (.reg [rg 10 (.iad 3 (.t 6) (.t 8)),rg 11 (.load (some 3) (.t 10)),rg 5 (.alloc [(.b false),(.sl [] .nl),(.sl [] .nl)]),so (.store 3 (.t 5) (.t 11))])
 (.reg [mv 12 3,rg 13 (.load (some 3) (.t 5)),rg 14 (.call 207 [(.t 13)]),rg 15 (.bsl 3 [(.b false),(.sl [] .nl),(.sl [] .nl)] 1 [(0,(.t 14))]),rg 16 (.app 3 (.t 12) (.t 15)),mv 3 16])))
 (.reg [rg 17 (.bin .add (.t 8) (.c (.i .i64 1))),mv 8 17]))))
 (.norm false [3,6,7,8]))
def b2266:AX:=
 (.seq
 (.reg [rg 2 (.mov (.c (.sl [] .nl)))])
 (.seq
 (.note (.reg [rg 3 (.mov (.c (.sl [] .nl)))]) (.nil 3 3))
 (.seq
 (.seq
 (.reg [mv 6 0,rg 7 (.len (.t 6)),rg 8 (.mov (.c (.i .i64 0)))])
 (.lp 0 (.norm false [3,6,7,8]) l2266_0 (.norm false [3])))
 (.seq
 (.reg [mv 18 3,mv 2 18])
 (.pre (.norm false [2]) .ret)))))
class CRow (T:Tbl):Prop where
 h263:T 263=some ⟨1,20,[.t 2],b263,none,false⟩
 h265:T 265=some ⟨2,27,[.t 4],b265,none,false⟩
 h266:T 266=some ⟨1,19,[.t 2],b266,none,false⟩
 h267:T 267=some ⟨1,47,[.t 2,.t 3],b267,none,false⟩
 h269:T 269=some ⟨2,22,[.t 4],b269,none,false⟩
 h271:T 271=some ⟨3,78,[.t 6,.t 7],b271,none,false⟩
 h2263:T 2263=some ⟨1,20,[.t 2],b2263,(some [false]),false⟩
 h2266:T 2266=some ⟨1,19,[.t 2],b2266,(some [false]),false⟩
section
variable{T:Tbl}[CRow T]{d:Option Nat}{st:St}{xs:List AV}{ps:List Opd}{e:Env}{h:Heap}{ol:List Heap}
@[simp] theorem x265:callX (orc T) T 265 xs d st=cP T 265 false xs d st:=zaa CRow.h265
theorem f265(xs:List AV)(hn:xs.length=2):callF T 265 xs=retF [.t 4] false (evX (orc T) T 0 b265 ⟨argEnv xs,[],1⟩):=zab CRow.h265 hn
@[simp] theorem x267:callX (orc T) T 267 xs d st=cP T 267 false xs d st:=zaa CRow.h267
@[simp] theorem y267:opD (orc T) T (.call 267 ps) e h ol=dP T 267 false ps e:=zal CRow.h267
theorem f267(xs:List AV)(hn:xs.length=1):callF T 267 xs=retF [.t 2,.t 3] false (evX (orc T) T 0 b267 ⟨argEnv xs,[],1⟩):=zab CRow.h267 hn
@[simp] theorem x269:callX (orc T) T 269 xs d st=cP T 269 false xs d st:=zaa CRow.h269
theorem f269(xs:List AV)(hn:xs.length=2):callF T 269 xs=retF [.t 4] false (evX (orc T) T 0 b269 ⟨argEnv xs,[],1⟩):=zab CRow.h269 hn
theorem f271(xs:List AV)(hn:xs.length=3):callF T 271 xs=retF [.t 6,.t 7] false (evX (orc T) T 0 b271 ⟨argEnv xs,[],1⟩):=zab CRow.h271 hn
@[simp] theorem x2263:callX (orc T) T 2263 xs d st=cL T 2263 false [false] xs d st:=zan CRow.h2263
theorem f2263(xs:List AV)(hb:Heap)(hn:xs.length=1):callH T 2263 xs hb=retH [.t 2] false hb.length (evX (orc T) T hb.length b2263 ⟨argEnv xs,hb,hb.length+1⟩):=zau CRow.h2263 hn
@[simp] theorem x2266:callX (orc T) T 2266 xs d st=cL T 2266 false [false] xs d st:=zan CRow.h2266
theorem f2266(xs:List AV)(hb:Heap)(hn:xs.length=1):callH T 2266 xs hb=retH [.t 2] false hb.length (evX (orc T) T hb.length b2266 ⟨argEnv xs,hb,hb.length+1⟩):=zau CRow.h2266 hn
end
def b268:AX:=
 (.seq
 (.reg [rg 4 (.mov (.c (.sl [] .nl))),rg 5 (.mov (.c (.b false)))])
 (.seq
 (.reg [mv 6 0,rg 7 (.call 205 [(.c (.i .i64 (-1)))]),mv 8 1,rg 9 (.call 269 [(.t 7),(.t 8)]),rg 10 (.bsl 1 [(.sl [] .nl)] 2 [(0,(.t 6)),(1,(.t 9))]),rg 11 (.call 267 [(.t 10)]),rg 12 (.ext (.t 11) 0),rg 13 (.ext (.t 11) 1),mv 4 12,mv 5 13])
 (.pre (.norm false [4,5]) .ret)))
def l272_0:AX:=
 (.note
 (.seq
 (.reg [rg 10 (.bin .lss (.t 9) (.t 8))])
 (.seq
 (.cond (.t 10)
 .skip
 (.exit 0))
 (.seq
 (.block 1
 (.seq
 (.reg [rg 11 (.iad 3 (.t 7) (.t 9)),rg 12 (.load (some 3) (.t 11)),rg 5 (.alloc [(.b false),(.sl [] .nl),(.sl [] .nl)]),so (.store 3 (.t 5) (.t 12))])
 (.drawT [rg 13 (.load (some 3) (.t 3)),rg 14 (.load (some 3) (.t 5)),rg 15 (.call 214 [(.t 14)])]
 [rg 16 (.bsl 3 [(.b false),(.sl [] .nl),(.sl [] .nl)] 2 [(0,(.t 13)),(1,(.t 15))]),rg 17 (.call 221 [(.t 16)]),so (.store 3 (.t 3) (.t 17))])))
 (.reg [rg 18 (.bin .add (.t 9) (.c (.i .i64 1))),mv 9 18]))))
 (.norm false [2,3,7,8,9]))
def b272:AX:=
 (.seq
 (.reg [rg 2 (.alloc [(.b false),(.sl [] .nl),(.sl [] .nl)])])
 (.seq
 (.reg [rg 6 (.call 205 [(.c (.i .i64 0))]),rg 3 (.alloc [(.b false),(.sl [] .nl),(.sl [] .nl)]),so (.store 3 (.t 3) (.t 6))])
 (.seq
 (.seq
 (.reg [mv 7 0,rg 8 (.len (.t 7)),rg 9 (.mov (.c (.i .i64 0)))])
 (.lp 0 (.norm false [2,3,7,8,9]) l272_0 (.norm false [2,3])))
 (.seq
 (.reg [rg 19 (.load (some 3) (.t 3)),so (.store 3 (.t 2) (.t 19))])
 (.pre (.norm false [2]) .ret)))))
class CRow5 (T:Tbl):Prop where
 h268:T 268=some ⟨2,14,[.t 4,.t 5],b268,none,false⟩
 h272:T 272=some ⟨1,20,[.cell 2 (some 3)],b272,none,false⟩
section
variable{T:Tbl}[CRow5 T]{d:Option Nat}{st:St}{xs:List AV}{ps:List Opd}{e:Env}{h:Heap}{ol:List Heap}
@[simp] theorem x268:callX (orc T) T 268 xs d st=cP T 268 false xs d st:=zaa CRow5.h268
theorem f268(xs:List AV)(hn:xs.length=2):callF T 268 xs=retF [.t 4,.t 5] false (evX (orc T) T 0 b268 ⟨argEnv xs,[],1⟩):=zab CRow5.h268 hn
@[simp] theorem y272:opD (orc T) T (.call 272 ps) e h ol=dP T 272 false ps e:=zal CRow5.h272
theorem f272(xs:List AV)(hn:xs.length=1):callF T 272 xs=retF [.cell 2 (some 3)] false (evX (orc T) T 0 b272 ⟨argEnv xs,[],1⟩):=zab CRow5.h272 hn
end
end Go.Ab