/-
  A calculus of values, boxes and code, and what functions of the program compute, proved in it.
  Conditions: none beyond those that the theorems state. (Part 4: GcRow, GcGrid, GcRef02, GpRef02, GcRef04, GpRef04, GcRef05, GcRef06, GpRef05, GpRef05d, GcRef07, GpRef07, GcRef08, GcRef09, GcRef11, GcRef12, GcRef14, GcRef41, GcLaw09, GcLaw11, GcLaw12, GcTape, GcGauge, GcEval, GcRun, GcIfc, GcLaw24, GcSpan, GcSpan2, GcPast, GcPast2, GcScheme, GcStep, GcLong33, GcTo33, GcLaw41, GcLaw41n, GcRef5x, GcRef9p, GcRef16, GcRef21, GcRef24, GcRef26, GcRef30, GcRef33, GcRef37, GcRef41s, GcLaw41s, Ax10.)
-/
import Derived.Test.YtoaggbmfmgfnpaaGreatDoorPart3

set_option linter.unusedSectionVars false
set_option linter.unusedVariables false
set_option linter.unusedSimpArgs false
set_option linter.unnecessarySimpa false

section
namespace Go.Ab
def b251:AX:= (XS [XX 1 3 0,XA 2 (.s [])] (XS [XP 4 3 1,XK1 5 207 4,XT 3 1 5] (XS [XF 6 0 1,XP 7 2 6,XK1 8 34 7,mv 3 8] (.seq (.seq (.drawT [XF 9 2 1,XO 10 9,rg 11 (.call 72 [(.c (u64 1))])] [XK2 12 87 10 11,XC 13 .neq 12 0]) (XD 13 (.reg [mv 14 3,XF 15 2 1,XO 16 15,XK1 17 68 16,rg 18 (.bin .add (.c (.s [47])) (.t 17)),XB 19 .add 14 18,mv 3 19]) .skip)) (XS [mv 20 3,mv 2 20] (XZ [2]))))))
def l263_0:AX:= (.note (XS [XB 12 .lss 11 10] (.seq (XQ 12 0) (.seq (.block 1 (XS [mv 13 11,mv 4 13] (.reg [mv 14 3,mv 15 4,rg 16 (.call 205 [(.c (.i .i64 0))]),XI 17 3 14 15,XT 3 17 16]))) (.reg [XC 18 .add 11 1,mv 11 18])))) (XG [3,10,11]))
def b263:AX:= (XS [XA 2 (.sl [] .nl)] (XS [mv 5 0,rg 6 (.mm true [(.t 5),(.c (.i .i64 0))]),rg 7 (.mm false [(.t 6),(.c (.i .i64 300))]),mv 0 7] (XS [mv 8 0,rg 9 (.mks 3 [(.b false),(.sl [] .nl),(.sl [] .nl)] (.t 8) (.t 8)),mv 3 9] (.seq (XS [mv 10 0,XL 11 0] (.lp 0 (XG [3,10,11]) l263_0 (XG [3]))) (XS [mv 19 3,mv 2 19] (XZ [2]))))))
def l265_0:AX:= (.note (XS [XB 14 .lss 13 12] (.seq (XQ 14 0) (.seq (.block 1 (XS [mv 15 13,mv 5 15] (.seq (.drawT [mv 16 0,mv 17 5,XI 18 3 16 17,XP 19 3 18,mv 20 1,mv 21 5,XI 22 3 20 21,XP 23 3 22] [XK2 24 212 19 23,XU 25 24]) (XD 25 (XS [XJ 4] (XZ [4])) .skip)))) (.reg [XC 26 .add 13 1,mv 13 26])))) (XG [0,1,12,13]))
def b265:AX:= (XS [XJ 4] (.seq (XS [mv 6 0,XN 7 6,mv 8 1,XN 9 8,XB 10 .neq 7 9] (XD 10 (XS [XJ 4] (XZ [4])) .skip)) (.seq (XS [mv 11 0,XN 12 11,XL 13 0] (.lp 0 (XG [0,1,12,13]) l265_0 (XG []))) (XS [XA 4 (.b true)] (XZ [4])))))
def l269_0:AX:= (.note (XS [XB 11 .lss 10 9] (.seq (XQ 11 0) (.seq (.block 1 (XS [XI 12 3 8 10,XP 13 3 12,XM 7,XT 3 7 13] (.reg [mv 14 5,XP 15 3 2,XP 16 3 7,XK2 17 217 15 16,XV 18 17,rg 19 (.app 3 (.t 14) (.t 18)),mv 5 19]))) (.reg [XC 20 .add 10 1,mv 10 20])))) (XG [2,5,8,9,10]))
def b269:AX:= (XS [XX 2 3 0,XA 4 (.sl [] .nl)] (.seq (.note (.reg [XA 5 (.sl [] .nl)]) (.nil 5 3)) (.seq (XS [mv 8 1,XN 9 8,XL 10 0] (.lp 0 (XG [2,5,8,9,10]) l269_0 (XG [5]))) (XS [mv 21 5,mv 4 21] (XZ [4])))))
def l271_0:AX:= (.note (XS [XB 31 .lss 30 29] (.seq (XQ 31 0) (.seq (.block 1 (XS [XI 32 1 28 30,XO 33 32,mv 9 33] (XS [mv 34 9,XN 35 34,mv 36 2,XB 37 .neq 35 36] (XD 37 (XS [XA 6 (.sl [] .nl),XJ 7] (XZ [6,7])) .skip)))) (.reg [XC 38 .add 30 1,mv 30 38])))) (XG [0,1,2,28,29,30]))
def l271_1:AX:= (.note (XS [XB 57 .lss 56 55] (.seq (XQ 57 4) (.seq (.block 5 (XS [mv 58 56,XI 59 3 54 56,XP 60 3 59,XM 14,mv 13 58,XT 3 14 60] (.drawT [mv 61 10,mv 62 13,mv 63 10,mv 64 13,XI 65 3 63 64,XP 66 3 65,mv 67 0,mv 68 11,XI 69 3 67 68,XP 70 3 69,XP 71 3 14,XK2 72 217 70 71,XK2 73 215 66 72] [XI 74 3 61 62,XT 3 74 73]))) (.reg [XC 75 .add 56 1,mv 56 75])))) (XG [0,10,11,41,42,43,54,55,56]))
def l271_2:AX:= (.note (XS [XB 44 .lss 43 42] (.seq (XQ 44 2) (.seq (.block 3 (XS [mv 45 43,XI 46 1 41 43,XO 47 46,mv 11 45,mv 12 47] (.seq (XS [mv 48 0,mv 49 11,XI 50 3 48 49,XP 51 3 50,XK1 52 209 51,XC 53 .eql 52 0] (XD 53 (.exit 3) .skip)) (XS [mv 54 12,XN 55 54,XL 56 0] (.lp 4 (XG [0,10,11,41,42,43,54,55,56]) l271_1 (XG [0,10,41,42,43])))))) (.reg [XC 76 .add 43 1,mv 43 76])))) (XG [0,10,41,42,43]))
def b271:AX:= (XS [XA 6 (.sl [] .nl),XJ 7] (.seq (XS [mv 15 0,XN 16 15,mv 17 1,XN 18 17,XB 19 .neq 16 18,mv 20 19,VM 21 20 false 2,VC 22 20 false .lss 21 0,XY 23 20 22,mv 24 23,VM 25 24 false 2,VC 26 24 false .gtr 25 300,XY 27 24 26] (XD 27 (XS [XA 6 (.sl [] .nl),XJ 7] (XZ [6,7])) .skip)) (.seq (XS [mv 28 1,XN 29 28,XL 30 0] (.lp 0 (XG [0,1,2,28,29,30]) l271_0 (XG [0,1,2]))) (XS [mv 39 2,XK1 40 2263 39,mv 10 40] (.seq (XS [mv 41 1,XN 42 41,XL 43 0] (.lp 2 (XG [0,10,41,42,43]) l271_2 (XG [10]))) (XS [mv 77 10,mv 6 77,XA 7 (.b true)] (XZ [6,7])))))))
def l274_0:AX:= (.note (XS [XB 9 .lss 8 7] (.seq (XQ 9 0) (.seq (.block 1 (XS [XI 10 3 6 8,XP 11 3 10,XM 5,XT 3 5 11] (.reg [mv 12 3,XP 13 3 5,XK1 14 251 13,rg 15 (.bsl 1 [(.s [])] 1 [(0,(.t 14))]),rg 16 (.app 1 (.t 12) (.t 15)),mv 3 16]))) (.reg [XC 17 .add 8 1,mv 8 17])))) (XG [3,6,7,8]))
def b274:AX:= (XS [XA 2 (.s [])] (.seq (.note (.reg [XA 3 (.sl [] .nl)]) (.nil 3 1)) (.seq (XS [mv 6 0,XN 7 6,XL 8 0] (.lp 0 (XG [3,6,7,8]) l274_0 (XG [3]))) (XS [mv 18 3,rg 19 (.call 183 [(.t 18),(.c (.s [44]))]),mv 2 19] (XZ [2])))))
def l2263_0:AX:= (.note (XS [XB 12 .lss 11 10] (.seq (XQ 12 0) (.seq (.block 1 (XS [mv 13 11,mv 4 13] (.reg [mv 14 3,mv 15 4,rg 16 (.call 205 [(.c (.i .i64 0))]),XI 17 3 14 15,XT 3 17 16]))) (.reg [XC 18 .add 11 1,mv 11 18])))) (XG [3,10,11]))
def b2263:AX:= (XS [XA 2 (.sl [] .nl)] (XS [mv 5 0,rg 6 (.mm true [(.t 5),(.c (.i .i64 0))]),rg 7 (.mm false [(.t 6),(.c (.i .i64 300))]),mv 0 7] (XS [mv 8 0,rg 9 (.mks 3 [(.b false),(.sl [] .nl),(.sl [] .nl)] (.t 8) (.t 8)),mv 3 9] (.seq (XS [mv 10 0,XL 11 0] (.lp 0 (XG [3,10,11]) l2263_0 (XG [3]))) (XS [mv 19 3,mv 2 19] (XZ [2]))))))
def row251:AFx:=XrV 1 21 2 b251
def row263:AFx:=XrV 1 20 2 b263
def row265:AFx:=XrV 2 27 4 b265
def row269:AFx:=XrV 2 22 4 b269
def row271:AFx:=⟨3,78,[.t 6,.t 7],b271,none,false⟩
def row274:AFx:=XrV 1 20 2 b274
def row2263:AFx:=⟨1,20,[.t 2],b2263,(some [false]),false⟩
class Zbr (T:Tbl):Prop where
 h251:T 251=some row251
 h263:T 263=some row263
 h265:T 265=some row265
 h269:T 269=some row269
 h271:T 271=some row271
 h274:T 274=some row274
 h2263:T 2263=some row2263
section
variable{T:Tbl}[Zbr T]{d:Option Nat}{st:St}{xs:List AV}{ps:List Opd}{e:Env}{h:Heap}{ol:List Heap}
@[simp] theorem x251:XRx T 251:=xrx Zbr.h251
@[simp] theorem x265:XRx T 265:=xrx Zbr.h265
@[simp] theorem x269:XRx T 269:=xrx Zbr.h269
@[simp] theorem y271:XRy T 271:=xry Zbr.h271
@[simp] theorem x274:XRx T 274:=xrx Zbr.h274
@[simp] theorem x2263:Zd (orc T) T 2263 xs d st=cL T 2263 false [false] xs d st:=zas Zbr.h2263
end
end Go.Ab
end
section
namespace Go.Ab
class Zgp (T:Tbl):Prop where
end Go.Ab
end
section
namespace Go.Ab
def l43_0:AX:= (.note (.seq (XS [mv 6 3,XC 7 .gtr 6 0,mv 8 7,VM 9 8 true 0,VM 10 8 true 3,VC 11 8 true .sub 10 1,VI 12 8 true 1 9 11,VO 13 8 true 12,gd 14 8 true (.bin .eql (.t 13) (.c (u32 0))),XW 15 8 14] (XQ 15 0)) (.block 1 (.reg [mv 16 3,XC 17 .sub 16 1,mv 3 17]))) (XG [0,3]))
def b43:AX:= (XS [XA 2 (.sl [] .nl)] (XS [mv 4 0,XN 5 4,mv 3 5] (.seq (.lp 0 (XG [0,3]) l43_0 (XG [0,3])) (XS [rg 18 (.bsl 1 [(u32 0)] 0 []),mv 19 0,mv 20 3,rg 21 (.slc 1 (.t 19) none (some (.t 20)) none),rg 22 (.app 1 (.t 18) (.t 21)),mv 2 22] (XZ [2])))))
def b84:AX:= (XS [XA 4 (u32 0)] (.seq (XS [mv 5 1,mv 6 0,XN 7 6,XB 8 .lss 5 7] (XD 8 (XS [mv 9 0,mv 10 1,XI 11 1 9 10,XO 12 11,mv 4 12] (XZ [4])) .skip)) (XS [XA 4 (u32 0)] (XZ [4]))))
def l52_0:AX:= (.note (.seq (XS [mv 14 5,XC 15 .geq 14 0] (XQ 15 0)) (.seq (.block 1 (XS [mv 18 0,mv 19 5,XK2 20 84 18 19,mv 6 20] (XS [mv 21 1,mv 22 5,XK2 23 84 21 22,mv 7 23] (.seq (XS [mv 24 6,mv 25 7,XB 26 .lss 24 25] (XD 26 (XS [XA 4 (.i .i64 (-1))] (XZ [4])) .skip)) (XS [mv 27 6,mv 28 7,XB 29 .gtr 27 28] (XD 29 (XS [XL 4 1] (XZ [4])) .skip)))))) (.reg [mv 16 5,XC 17 .sub 16 1,mv 5 17]))) (XG [0,1,5]))
def b52:AX:= (XS [XL 4 0] (.seq (XS [mv 8 0,XN 9 8,mv 10 1,XN 11 10,rg 12 (.mm true [(.t 9),(.t 11)]),XC 13 .sub 12 1,mv 5 13] (.lp 0 (XG [0,1,5]) l52_0 (XG []))) (XS [XL 4 0] (XZ [4]))))
def l54_0:AX:= (.note (.seq (XS [mv 11 5,mv 12 0,XN 13 12,XB 14 .lss 11 13] (XQ 14 0)) (.seq (.block 1 (.seq (.drawT [mv 17 0,mv 18 5,XI 19 1 17 18,XO 20 19,mv 21 1,mv 22 5,XI 23 1 21 22,XO 24 23] [XB 25 .neq 20 24]) (XD 25 (XS [XJ 4] (XZ [4])) .skip))) (XH 15 5 16))) (XG [0,1,5]))
def b54:AX:= (XS [XJ 4] (.seq (XS [mv 6 0,XN 7 6,mv 8 1,XN 9 8,XB 10 .neq 7 9] (XD 10 (XS [XJ 4] (XZ [4])) .skip)) (.seq (XS [XL 5 0] (.lp 0 (XG [0,1,5]) l54_0 (XG []))) (XS [XA 4 (.b true)] (XZ [4])))))
def l58_0:AX:= (.note (.seq (XS [mv 17 8,mv 18 5,XB 19 .lss 17 18] (XQ 19 0)) (.seq (.block 1 (XS [mv 22 7,mv 23 0,mv 24 8,XK2 25 84 23 24,rg 26 (.conv .u64 (.t 25)),mv 27 1,mv 28 8,XK2 29 84 27 28,rg 30 (.conv .u64 (.t 29)),XB 31 .add 26 30,XB 32 .add 22 31,mv 7 32] (XS [mv 33 6,mv 34 8,mv 35 7,rg 36 (.bin .rem (.t 35) (.c (u64 4294967296))),rg 37 (.conv .u32 (.t 36)),XI 38 1 33 34,XT 1 38 37] (.reg [mv 39 7,rg 40 (.bin .quo (.t 39) (.c (u64 4294967296))),mv 7 40])))) (XH 20 8 21))) (XG [0,1,5,6,7,8]))
def b58:AX:= (XS [XA 4 (.sl [] .nl)] (XS [mv 9 0,XN 10 9,mv 11 1,XN 12 11,rg 13 (.mm true [(.t 10),(.t 12)]),XC 14 .add 13 1,mv 5 14] (XS [mv 15 5,rg 16 (.mks 1 [(u32 0)] (.t 15) (.t 15)),mv 6 16] (XS [XA 7 (u64 0)] (.seq (XS [XL 8 0] (.lp 0 (XG [0,1,5,6,7,8]) l58_0 (XG [6]))) (XS [mv 41 6,XK1 42 43 41,mv 4 42] (XZ [4])))))))
def l59_0:AX:= (.note (.seq (XS [mv 18 8,mv 19 5,XB 20 .lss 18 19] (XQ 20 0)) (.seq (.block 1 (XS [mv 23 0,mv 24 8,XK2 25 84 23 24,rg 26 (.conv .u64 (.t 25)),mv 9 26] (XS [mv 27 1,mv 28 8,XK2 29 84 27 28,rg 30 (.conv .u64 (.t 29)),mv 31 7,XB 32 .add 30 31,mv 10 32] (XS [XA 7 (u64 0)] (.seq (XS [mv 33 9,mv 34 10,XB 35 .lss 33 34] (XD 35 (XS [mv 36 9,rg 37 (.bin .add (.t 36) (.c (u64 4294967296))),mv 9 37] (.reg [XA 7 (u64 1)])) .skip)) (.reg [mv 38 6,mv 39 8,mv 40 9,mv 41 10,XB 42 .sub 40 41,rg 43 (.conv .u32 (.t 42)),XI 44 1 38 39,XT 1 44 43])))))) (XH 21 8 22))) (XG [0,1,5,6,7,8]))
def b59:AX:= (XS [XA 4 (.sl [] .nl)] (XS [mv 11 0,XN 12 11,mv 13 1,XN 14 13,rg 15 (.mm true [(.t 12),(.t 14)]),mv 5 15] (XS [mv 16 5,rg 17 (.mks 1 [(u32 0)] (.t 16) (.t 16)),mv 6 17] (XS [XA 7 (u64 0)] (.seq (XS [XL 8 0] (.lp 0 (XG [0,1,5,6,7,8]) l59_0 (XG [6]))) (XS [mv 45 6,XK1 46 43 45,mv 4 46] (XZ [4])))))))
def row43:AFx:=XrV 1 23 2 b43
def row84:AFx:=XrV 2 13 4 b84
def row52:AFx:=XrV 2 30 4 b52
def row54:AFx:=XrV 2 26 4 b54
def row58:AFx:=XrV 2 43 4 b58
def row59:AFx:=XrV 2 47 4 b59
class Z0 (T:Tbl):Prop where
 h43:T 43=some row43
 h84:T 84=some row84
 h52:T 52=some row52
 h54:T 54=some row54
 h58:T 58=some row58
 h59:T 59=some row59
section
variable{T:Tbl}[Z0 T]{d:Option Nat}{st:St}
@[simp] theorem x43:XRx T 43:=xrx Z0.h43
@[simp] theorem x84:XRx T 84:=xrx Z0.h84
@[simp] theorem x52:XRx T 52:=xrx Z0.h52
@[simp] theorem x54:XRx T 54:=xrx Z0.h54
@[simp] theorem x58:XRx T 58:=xrx Z0.h58
@[simp] theorem y58{e:Env}{h:Heap}{older:List Heap}(args:List Opd):opD (orc T) T (.call 58 args) e h older=dR (Za T 58 ((args.map (ev e.get)).map (wkIf false))) (args.map (ev e.get)):=zaf Z0.h58
@[simp] theorem y59{e:Env}{h:Heap}{older:List Heap}(args:List Opd):opD (orc T) T (.call 59 args) e h older=dR (Za T 59 ((args.map (ev e.get)).map (wkIf false))) (args.map (ev e.get)):=zaf Z0.h59
end
end Go.Ab
end
section
namespace Go.Ab
section
variable{T:Tbl}
theorem ze3(a:List UInt32)(hl:a.length<9223372036854775808){n:Nat}(hn:n≤a.length)(h0:∀(i:Nat) (x:UInt32),n≤i→a[i]? = some x→x.toNat=0)(h1:∀x:UInt32,0<n→a[n-1]? = some x→x.toNat≠0) :
  ∀m:Nat,(n≤m∧m≤a.length)→Ze T 0 0 (.norm false [0,3]) l43_0 ⟨[(0,.sl (Zb a) .an),(3,.i .i64 (m:Int))],[],2⟩=some (.n,⟨[(0,.sl (Zb a) .an),(3,.i .i64 (n:Int))],[],2⟩):=by
 refine zav (fun m:Nat=>⟨[(0,.sl (Zb a) .an),(3,.i .i64 (m:Int))],[],2⟩) _ (fun m=>m) _ ?_
 rintro m ⟨hm,hma⟩
 by_cases h2:m=0
 ·right;subst h2;have:n=0:=by omega
  subst this;constructor<;>simp[l43_0]
 ·have hw:IntKind.wrap .i64 ((m:Int)-1)=((m-1:Nat):Int):=by rw[zac _ (by omega)];omega
  have hm1:m-1<a.length:=by omega
  have hg:a[m-1]? = some (a[m-1]'hm1):=Ya hm1;have hpos:0<m:=by omega
  by_cases h3:m=n
  ·right;subst h3;have hx:=h1 _ hpos hg;constructor<;>simp[l43_0,hpos,hw,hm1,hx]
  ·left;refine⟨m-1,⟨by omega,by omega⟩,by omega,?_,rfl⟩;have hx:=h0 (m-1) _ (by omega) hg;simp[l43_0,hpos,hw,hm1,hx]
end
section
variable{T:Tbl}[Z0 T]
theorem zbm(a:List UInt32)(hl:a.length≤1000000):Za T 43 [.sl (Zb a) .an]=some (.sl (Zb (ofN (val a))) .an):=by
 obtain⟨n,h1,h2,h3,h4⟩:=zg1 a;have hr:=ze3 (T:=T) a (by omega) h1 h3 h4 a.length ⟨h1,Yg _⟩;have hlen:(ofN (val a)).length=n:=by grind
 have hb:n≤4294967296:=by omega
 rw[zaa Z0.h43 rfl,b43];simp[hr,h1,h2,hlen,hb]
 grind
def atW(a:List UInt32)(i:Nat):Nat:=(a[i]?.map UInt32.toNat).getD 0
theorem zjn(a:List UInt32)(i:Nat):atW a i<4294967296:=by
 grind[atW,zam]
theorem zbg(a:List UInt32)(i:Nat):val (a.take (i+1))=val (a.take i)+4294967296^i*atW a i:=by
 grind[atW,zag,zbi]
theorem zdn(a:List UInt32)(i:Nat)(_hl:a.length≤1000000):Za T 84 [.sl (Zb a) .an,.i .i64 i]=some (u32 (atW a i)):=by
 rw[zaa Z0.h84 rfl,b84];unfold atW;by_cases h:i<a.length
 ·simp[h]
 ·simp[h]
theorem zkn(a b:List UInt32)(hl:a.length≤1000000)(hl2:b.length≤1000000):∀m:Nat,m≤1000000 →
  Ze T 0 0 (.norm false []) l52_0 ⟨[(0,.sl (Zb a) .an),(1,.sl (Zb b) .an),(5,.i .i64 ((m:Int)-1))],[],2⟩ =
   if val (a.take m)<val (b.take m) then some (.r,⟨[(4,.i .i64 (-1))],[],2⟩) else if val (b.take m)<val (a.take m) then some (.r,⟨[(4,.i .i64 1)],[],2⟩) else some (.n,⟨[],[],2⟩):=by
 refine zav (fun m:Nat=>⟨[(0,.sl (Zb a) .an),(1,.sl (Zb b) .an),(5,.i .i64 ((m:Int)-1))],[],2⟩) _ (fun m=>m) _ ?_;intro m hm;cases m with
 | zero=>
  right;constructor<;>simp[l52_0]
 | succ i=>
  have hw:IntKind.wrap .i64 ((i:Int)-1)=(i:Int)-1:=zac _ (by omega);have ca:=zdn (T:=T) a i hl;have cb:=zdn (T:=T) b i hl2;have e1:=zbg a i;have e2:=zbg b i;have b1:=za0 (a.take i);have b2:=za0 (b.take i);have p1:4294967296^(a.take i).length≤4294967296^i:=Yu (by decide) (by grind);have p2:4294967296^(b.take i).length≤4294967296^i:=Yu (by decide) (by grind);rcases Ycd (atW a i) (atW b i) with h1 | h1 | h1
  ·right;have h3:=Yac (4294967296^i) (show atW a i+1≤atW b i from h1);rw[Yae]at h3;have h2:val (a.take (i+1))<val (b.take (i+1)):=by omega
   constructor<;>simp[l52_0,ca,cb,h1,h2]
  ·left;refine⟨i,by omega,Yy i,?_,?_⟩
   ·simp[l52_0,ca,cb,h1,hw]
   grind
  ·right;have h3:=Yac (4294967296^i) (show atW b i+1≤atW a i from h1);rw[Yae]at h3;have h2:val (b.take (i+1))<val (a.take (i+1)):=by omega
   have h4:¬ val (a.take (i+1))<val (b.take (i+1)):=by omega
   have h5:¬ atW a i<atW b i:=by omega
   constructor<;>simp[l52_0,ca,cb,h1,h2,h4,h5]
theorem ze4(a b:List UInt32)(ha:a.length≤1000000)(hb:b.length≤1000000):Za T 52 [.sl (Zb a) .an,.sl (Zb b) .an]=some (.i .i64 (Zc8 (val a) (val b))):=by
 have hc:=zkn (T:=T) a b ha hb (max a.length b.length) (by omega);rw[Yb (by omega),Yb (by omega)]at hc;have e:(if (a.length:Int)<b.length then (b.length:Int) else a.length)=((max a.length b.length:Nat):Int):=by omega
 have hw:IntKind.wrap .i64 (((max a.length b.length:Nat):Int)-1)=((max a.length b.length:Nat):Int)-1:=zac _ (by omega);rw[zaa Z0.h52 rfl,b52];simp at e hw hc;simp[e,hw,hc,Zc8]
 grind
end
section
variable{T:Tbl}
theorem zjo(a b:List UInt32)(hab:a.length=b.length)(hl:a.length≤1000000):∀i:Nat,i≤a.length →
  Ze T 0 0 (.norm false []) l54_0 ⟨[(0,.sl (Zb a) .an),(1,.sl (Zb b) .an),(5,.i .i64 i)],[],2⟩=if a.drop i=b.drop i then some (.n,⟨[],[],2⟩) else some (.r,⟨[(4,.b false)],[],2⟩):=by
 refine zav (fun i:Nat=>⟨[(0,.sl (Zb a) .an),(1,.sl (Zb b) .an),(5,.i .i64 i)],[],2⟩) _ (fun i=>a.length-i) _ ?_;intro i hi;by_cases h0:i<a.length
 ·have h1:i<b.length:=by omega
  have hw:IntKind.wrap .i64 ((i:Int)+1)=((i+1:Nat):Int):=zac _ (by omega);have hda:a.drop i=a[i]'h0::a.drop (i+1):=Ye h0;have hdb:b.drop i=b[i]'h1::b.drop (i+1):=Ye h1;by_cases h2:a[i]'h0=b[i]'h1
  ·left;refine⟨i+1,h0,by omega,?_,?_⟩
   ·simp[l54_0,h0,h1,h2,hw]
   grind
  ·right;have h3:¬ (a[i]'h0).toNat=(b[i]'h1).toNat:=fun h=>h2 (Yef.1 h);have h4:¬ a.drop i=b.drop i:=by grind
   constructor<;>simp[l54_0,h0,h1,h3,h4]
 ·right;have h4:a.drop i=b.drop i:=by grind
  have h5:¬ (i:Int)<a.length:=by omega
  constructor<;>simp[l54_0,h4,h5]
end
section
variable{T:Tbl}[Z0 T]
theorem zle(a b:List UInt32)(ha:a.length≤1000000):Za T 54 [.sl (Zb a) .an,.sl (Zb b) .an]=some (.b (decide (a=b))):=by
 rw[zaa Z0.h54 rfl,b54];by_cases h:a.length=b.length
 ·have hc:=zjo (T:=T) a b h ha 0 (Yv _);simp at hc;by_cases h3:a=b
  ·subst h3;simp[hc]
  ·simp[h,hc,h3]
 ·have h3:¬ a=b:=fun he=>h (by rw[he]);have h2:¬ (a.length:Int)=b.length:=by omega
  simp[h2,h3]
def Zjt(a b:List UInt32)(n:Nat)(y:Nat×Nat×List UInt32):St:=
 ⟨[(0,.sl (Zb a) .an),(1,.sl (Zb b) .an),(5,.i .i64 n),(6,.bs (.loc 16) 1 1 0 n),(7,u64 y.2.1),(8,.i .i64 y.1)],[(.loc 16,⟨1,.own,1,Zb y.2.2⟩)],3⟩
theorem zko(a b:List UInt32)(n:Nat)(ha:a.length≤1000000)(hb:b.length≤1000000)(hn:n≤1000001):∀y:Nat×Nat×List UInt32,
  (y.1≤n∧y.2.1≤1∧y.2.2.length=n∧val (y.2.2.take y.1)+4294967296^y.1*y.2.1=val (a.take y.1)+val (b.take y.1)) →
  ∃r,(∃(c:Nat) (out:List UInt32),r=(Ex.n,(⟨[(6,.bs (.loc 16) 1 1 0 n)],[(.loc 16,⟨1,.own,1,Zb out⟩)],3⟩:St)) ∧
   out.length=n∧c≤1∧val out+4294967296^n*c=val (a.take n)+val (b.take n))∧Ze T 0 0 (.norm false [6]) l58_0 (Zjt a b n y)=some r:=by
 refine zay _ _ (fun y=>n-y.1) _ ?_
 rintro⟨i,c,out⟩ ⟨hi,hc,ho,hv⟩
 simp only at hi hc ho hv;by_cases h0:i<n
 ·left;have hoi:i<out.length:=by omega
  have hog:out[i]? = some (out[i]'hoi):=Ya hoi;have hw:IntKind.wrap .i64 ((i:Int)+1)=((i+1:Nat):Int):=zac _ (by omega);have ca:=zdn (T:=T) a i ha;have cb:=zdn (T:=T) b i hb;have la:=zjn a i;have lb:=zjn b i;have e1:=zbg a i;have e2:=zbg b i;have m1:atW a i%18446744073709551616=atW a i:=Yk (by omega);have m2:atW b i%18446744073709551616=atW b i:=Yk (by omega);have m3:(c+(atW a i+atW b i))%18446744073709551616=c+(atW a i+atW b i):=Yk (by omega);have m4:(c+(atW a i+atW b i))/4294967296%18446744073709551616=(c+(atW a i+atW b i))/4294967296:=Yk (by omega);refine⟨(i+1,(c+(atW a i+atW b i))/4294967296,out.set i (w32 (c+(atW a i+atW b i)))),⟨h0,by grind,by grind,?_⟩,by omega,?_⟩
  ·grind[zbs,zb7,Nat.div_add_mod]
  ·simp[l58_0,Zjt,h0,ca,cb,m1,m2,m3,m4,hog,hw]
 ·right;have:i=n:=by omega
  subst this;rw[Yb (by omega)]at hv;refine⟨_,⟨c,out,rfl,ho,hc,hv⟩,?_,?_⟩<;>simp[l58_0,Zjt]
theorem zzb{p q r x y z c:Nat}(h1:x+p*4294967296*c=y+z)(h2:c≤1)(h3:y<q)(h4:z<r)(h5:q≤p)(h6:r≤p):x=y+z:=by
 rcases(show c=0∨c=1 by omega) with h | h
 all_goals grind
theorem zox(a b:List UInt32)(ha:a.length≤100000)(hb:b.length≤100000):Za T 58 [.sl (Zb a) .an,.sl (Zb b) .an]=some (.sl (Zb (ofN (val a+val b))) .an):=by
 obtain⟨n,hn⟩:∃n,n=max a.length b.length:=⟨_,rfl⟩;obtain⟨_,⟨c,out,rfl,ho,hc,hv⟩,hr⟩:=zko (T:=T) a b (n+1) (by omega) (by omega) (by omega) (0,0,List.replicate (n+1) 0) ⟨Yv _,Yv _,by simp,by simp⟩;unfold Zjt at hr;simp at hr;rw[Yb (by omega),Yb (by omega)]at hv;have e:(if a.length<b.length then (b.length:Int) else a.length)=(n:Int):=by omega
 have hw:IntKind.wrap .i64 ((n:Int)+1)=((n:Int)+1):=zac _ (by omega);have hn1:(0:Int)≤(n:Int)+1:=by omega
 have hn2:(n:Int)+1≤4294967296:=by omega
 have hn3:((n:Int)+1).toNat=n+1:=by omega
 have l1:=za0 a;have l2:=za0 b;have p1:4294967296^a.length≤4294967296^n:=Yu (by decide) (by omega);have p2:4294967296^b.length≤4294967296^n:=Yu (by decide) (by omega);have hval:val out=val a+val b:=by
  exact zzb hv hc l1 l2 p1 p2
 have hnm:=zbm (T:=T) out (by omega);rw[hval]at hnm;have htk:List.take (n+1) out=out:=Yb (by omega);rw[zaa Z0.h58 rfl,b58];simp[e,hw,hn1,hn2,hn3,hr,ho,htk,hnm]
def Zig(a b:List UInt32)(n:Nat)(y:Nat×Nat×List UInt32):St:=
 ⟨[(0,.sl (Zb a) .an),(1,.sl (Zb b) .an),(5,.i .i64 n),(6,.bs (.loc 17) 1 1 0 n),(7,u64 y.2.1),(8,.i .i64 y.1)],[(.loc 17,⟨1,.own,1,Zb y.2.2⟩)],3⟩
theorem zkp(a b:List UInt32)(n:Nat)(ha:a.length≤1000000)(hb:b.length≤1000000)(hn:n≤1000001):∀y:Nat×Nat×List UInt32,
  (y.1≤n∧y.2.1≤1∧y.2.2.length=n∧val (y.2.2.take y.1)+val (b.take y.1)=val (a.take y.1)+4294967296^y.1*y.2.1) →
  ∃r,(∃(c:Nat) (out:List UInt32),r=(Ex.n,(⟨[(6,.bs (.loc 17) 1 1 0 n)],[(.loc 17,⟨1,.own,1,Zb out⟩)],3⟩:St)) ∧
   out.length=n∧c≤1∧val out+val (b.take n)=val (a.take n)+4294967296^n*c)∧Ze T 0 0 (.norm false [6]) l59_0 (Zig a b n y)=some r:=by
 refine zay _ _ (fun y=>n-y.1) _ ?_
 rintro⟨i,c,out⟩ ⟨hi,hc,ho,hv⟩
 simp only at hi hc ho hv;by_cases h0:i<n
 ·left;have hoi:i<out.length:=by omega
  have hog:out[i]? = some (out[i]'hoi):=Ya hoi;have hw:IntKind.wrap .i64 ((i:Int)+1)=((i+1:Nat):Int):=zac _ (by omega);have ca:=zdn (T:=T) a i ha;have cb:=zdn (T:=T) b i hb;have la:=zjn a i;have lb:=zjn b i;have e1:=zbg a i;have e2:=zbg b i;have m1:atW a i%18446744073709551616=atW a i:=Yk (by omega);have m2:atW b i%18446744073709551616=atW b i:=Yk (by omega);have m3:(atW b i+c)%18446744073709551616=atW b i+c:=Yk (by omega);have m4:(atW a i+4294967296)%18446744073709551616=atW a i+4294967296:=Yk (by omega);have fin:∀s d:Nat,d≤1→s<4294967296→s+(atW b i+c)=atW a i+4294967296*d →
    val ((out.set i (w32 s)).take (i+1))+val (b.take (i+1))=val (a.take (i+1))+4294967296^(i+1)*d:=by
   grind[zbs,zah]
  by_cases h1:atW a i<atW b i+c
  ·have hs:Zee (atW a i+4294967296) (atW b i+c)=atW a i+4294967296-(atW b i+c):=zfh (by omega) (by omega);refine⟨(i+1,1,out.set i (w32 (atW a i+4294967296-(atW b i+c)))),⟨h0,Yg _,by grind,fin _ 1 (by omega) (by omega) (by omega)⟩,by omega,?_⟩;simp[l59_0,Zig,h0,ca,cb,m1,m2,m3,m4,h1,hs,hog,hw]
  ·have hs:Zee (atW a i) (atW b i+c)=atW a i-(atW b i+c):=zfh (by omega) (by omega);refine⟨(i+1,0,out.set i (w32 (atW a i-(atW b i+c)))),⟨h0,Yv _,by grind,fin _ 0 (by omega) (by omega) (by omega)⟩,by omega,?_⟩;simp[l59_0,Zig,h0,ca,cb,m1,m2,m3,h1,hs,hog,hw]
 ·right;have:i=n:=by omega
  subst this;rw[Yb (by omega)]at hv;refine⟨_,⟨c,out,rfl,ho,hc,hv⟩,?_,?_⟩<;>simp[l59_0,Zig]
theorem zoy(a b:List UInt32)(ha:a.length≤100000)(hb:b.length≤100000)(hab:val b≤val a):Za T 59 [.sl (Zb a) .an,.sl (Zb b) .an]=some (.sl (Zb (ofN (val a-val b))) .an):=by
 obtain⟨n,hn⟩:∃n,n=max a.length b.length:=⟨_,rfl⟩;obtain⟨_,⟨c,out,rfl,ho,hc,hv⟩,hr⟩:=zkp (T:=T) a b n (by omega) (by omega) (by omega) (0,0,List.replicate n 0) ⟨Yv _,Yv _,by simp,by simp⟩;unfold Zig at hr;simp at hr;rw[Yb (by omega),Yb (by omega)]at hv;have e:(if a.length<b.length then (b.length:Int) else a.length)=(n:Int):=by omega
 have hn2:(n:Int)≤4294967296:=by omega
 have hlo:=za0 out;have hval:val out=val a-val b:=by
  rcases Yar c with h1 | h1
  all_goals grind
 have hnm:=zbm (T:=T) out (by omega);rw[hval]at hnm;have htk:List.take n out=out:=Yb (by omega);rw[zaa Z0.h59 rfl,b59];simp[e,hn2,hr,ho,htk,hnm]
end
end Go.Ab
end
section
namespace Go.Ab
def l61_0:AX:= (.note (.seq (XS [mv 21 8,mv 22 1,XN 23 22,XB 24 .lss 21 23] (XQ 24 2)) (.seq (.block 3 (.seq (.drawT [mv 27 7,mv 28 0,mv 29 6,XI 30 1 28 29,XO 31 30,rg 32 (.conv .u64 (.t 31)),mv 33 1,mv 34 8,XI 35 1 33 34,XO 36 35,rg 37 (.conv .u64 (.t 36)),XB 38 .mul 32 37,mv 39 5,mv 40 6,mv 41 8,XB 42 .add 40 41,XI 43 1 39 42,XO 44 43,rg 45 (.conv .u64 (.t 44)),XB 46 .add 38 45] [XB 47 .add 27 46,mv 7 47]) (XS [mv 48 5,mv 49 6,mv 50 8,XB 51 .add 49 50,mv 52 7,rg 53 (.bin .rem (.t 52) (.c (u64 4294967296))),rg 54 (.conv .u32 (.t 53)),XI 55 1 48 51,XT 1 55 54] (.reg [mv 56 7,rg 57 (.bin .quo (.t 56) (.c (u64 4294967296))),mv 7 57])))) (XH 25 8 26))) (XG [0,1,5,6,7,8]))
def l61_1:AX:= (.note (.seq (XS [mv 15 6,mv 16 0,XN 17 16,XB 18 .lss 15 17] (XQ 18 0)) (.seq (.block 1 (XS [XA 7 (u64 0)] (.seq (XS [XL 8 0] (.lp 2 (XG [0,1,5,6,7,8]) l61_0 (XG [0,1,5,6,7]))) (.reg [mv 58 5,mv 59 6,mv 60 1,XN 61 60,XB 62 .add 59 61,mv 63 7,rg 64 (.conv .u32 (.t 63)),XI 65 1 58 62,XT 1 65 64])))) (XH 19 6 20))) (XG [0,1,5,6]))
def b61:AX:= (XS [XA 4 (.sl [] .nl)] (XS [mv 9 0,XN 10 9,mv 11 1,XN 12 11,XB 13 .add 10 12,rg 14 (.mks 1 [(u32 0)] (.t 13) (.t 13)),mv 5 14] (.seq (XS [XL 6 0] (.lp 0 (XG [0,1,5,6]) l61_1 (XG [5]))) (XS [mv 66 5,XK1 67 43 66,mv 4 67] (XZ [4])))))
def row61:AFx:=XrV 2 68 4 b61
class Z7 (T:Tbl):Prop extends Z0 T where
 h61:T 61=some row61
section
variable{T:Tbl}[Z7 T]{d:Option Nat}{st:St}
@[simp] theorem x61:XRx T 61:=xrx Z7.h61
@[simp] theorem y61{e:Env}{h:Heap}{older:List Heap}(args:List Opd):opD (orc T) T (.call 61 args) e h older=dR (Za T 61 ((args.map (ev e.get)).map (wkIf false))) (args.map (ev e.get)):=zaf Z7.h61
end
end Go.Ab
end
section
namespace Go.Ab
section
variable{T:Tbl}[Z7 T]
theorem zzc{p m w c c' s x y t v:Nat}(h:m+p*c=s+x*t)(e:w+4294967296*c'=x*y+v+c):(m+p*w)+p*4294967296*c'=(s+p*v)+x*(t+p*y):=
 zsp (k:=0) h e
def Zk5(P S a b:List UInt32)(y:Nat×Nat×List UInt32):St:=
 ⟨[(0,.sl (Zb a) .an),(1,.sl (Zb b) .an),(5,.bs (.loc 14) 1 1 0 (P.length+S.length)),(6,.i .i64 P.length),(7,u64 y.2.1),(8,.i .i64 y.1)],[(.loc 14,⟨1,.own,1,Zb (P++(y.2.2++S.drop y.1))⟩)],3⟩
end
section
variable{T:Tbl}
theorem z3j(P S a b:List UInt32)(x:UInt32)(hxa:a[P.length]? = some x)(hS:b.length<S.length)(hl:P.length+S.length≤1000000):∀y:Nat×Nat×List UInt32,
  (y.1≤b.length∧y.2.1<4294967296∧y.2.2.length=y.1∧val y.2.2+4294967296^y.1*y.2.1=val (S.take y.1)+x.toNat*val (b.take y.1)) →
  ∃r,(∃(c:Nat) (m:List UInt32),r=(Ex.n,(⟨[(0,.sl (Zb a) .an),(1,.sl (Zb b) .an),(5,.bs (.loc 14) 1 1 0 (P.length+S.length)),(6,.i .i64 P.length),(7,u64 c)],[(.loc 14,⟨1,.own,1,Zb (P++(m++S.drop b.length))⟩)],3⟩:St)) ∧
   m.length=b.length∧c<4294967296∧val m+4294967296^b.length*c=val (S.take b.length)+x.toNat*val b)∧Ze T 0 2 (.norm false [0,1,5,6,7]) l61_0 (Zk5 P S a b y)=some r:=by
 refine zay _ _ (fun y=>b.length-y.1) _ ?_
 rintro⟨i,c,m⟩ ⟨hi,hc,hm,hv⟩
 simp only at hi hc hm hv;have hPa:P.length<a.length:=by
  rcases Ys P.length a.length with h | h
  ·exact h
  ·rw[Ybs h]at hxa;cases hxa
 obtain rfl:a[P.length]'hPa=x:=by rw[Ya hPa]at hxa;cases hxa;rfl
 generalize hX:a[P.length]'hPa=x at hv ⊢;by_cases h0:i<b.length
 ·left;have hb:b[i]? = some (b[i]'h0):=Ya h0;have hiS:i<S.length:=by omega
  have hs:S[i]? = some (S[i]'hiS):=Ya hiS;have hg:=zdv (P:=P) hm hiS;have hw:IntKind.wrap .i64 ((i:Int)+1)=((i+1:Nat):Int):=zac _ (by omega);have hw2:IntKind.wrap .i64 ((P.length:Int)+i)=((P.length+i:Nat):Int):=zac _ (by omega);have hlb:=zam (b[i]'h0);have hls:=zam (S[i]'hiS);have hmul:=zjh (zam x) hlb;have hset:=zdd (P:=P) (w32 (c+(x.toNat*(b[i]'h0).toNat+(S[i]'hiS).toNat))) hm hiS;have m1:x.toNat*(b[i]'h0).toNat%18446744073709551616=x.toNat*(b[i]'h0).toNat:=Yk (by omega);have m2:(x.toNat*(b[i]'h0).toNat+(S[i]'hiS).toNat)%18446744073709551616=x.toNat*(b[i]'h0).toNat+(S[i]'hiS).toNat:=Yk (by omega);have m3:(c+(x.toNat*(b[i]'h0).toNat+(S[i]'hiS).toNat))%18446744073709551616=c+(x.toNat*(b[i]'h0).toNat+(S[i]'hiS).toNat):=Yk (by omega);have m4:(c+(x.toNat*(b[i]'h0).toNat+(S[i]'hiS).toNat))/4294967296%18446744073709551616=(c+(x.toNat*(b[i]'h0).toNat+(S[i]'hiS).toNat))/4294967296:=Yk (by omega);refine⟨(i+1,(c+(x.toNat*(b[i]'h0).toNat+(S[i]'hiS).toNat))/4294967296,m++[w32 (c+(x.toNat*(b[i]'h0).toNat+(S[i]'hiS).toNat))]),⟨h0,by simp only;omega,by simp[hm],?_⟩,by simp only;omega,?_⟩
  ·simp only;rw[zaj,zag hb,zag hs,Y6,hm];simp only[zap,zbf,Yal,Y4,zb7];exact zzc hv (by have:=Ybq (c+(x.toNat*(b[i]'h0).toNat+(S[i]'hiS).toNat)) 4294967296;omega)
  ·simp at hg hset;simp -implicitDefEqProofs[l61_0,Zk5,h0,hw,hw2,hiS,hg,hset,hPa,hX,m1,m2,m3,m4]
 ·right;have hib:i=b.length:=by omega
  have hv':val m+4294967296^b.length*c=val (S.take b.length)+x.toNat*val b:=by
   rw[hib,Yb (Yg b.length)]at hv;exact hv
  refine⟨(Ex.n,⟨[(0,.sl (Zb a) .an),(1,.sl (Zb b) .an),(5,.bs (.loc 14) 1 1 0 (P.length+S.length)),(6,.i .i64 P.length),(7,u64 c)],[(.loc 14,⟨1,.own,1,Zb (P++(m++S.drop i))⟩)],3⟩),⟨c,m,by rw[hib],by rw[hm,hib],hc,hv'⟩,?_,?_⟩<;>simp -implicitDefEqProofs[l61_0,Zk5,h0]
end
section
variable{T:Tbl}[Z7 T]
def Zju(a b:List UInt32)(y:Nat×List UInt32):St:=
 ⟨[(0,.sl (Zb a) .an),(1,.sl (Zb b) .an),(5,.bs (.loc 14) 1 1 0 (a.length+b.length)),(6,.i .i64 y.1)],[(.loc 14,⟨1,.own,1,Zb (y.2++List.replicate (a.length-y.1) 0)⟩)],3⟩
end
section
variable{T:Tbl}
theorem zzd(a b:List UInt32)(ha:a.length≤100000)(hb:b.length≤100000):∀y:Nat×List UInt32,
  (y.1≤a.length∧y.2.length=b.length+y.1∧val y.2=val (a.take y.1)*val b) →
  ∃r,(∃out:List UInt32,r=(Ex.n,(⟨[(5,.bs (.loc 14) 1 1 0 (a.length+b.length))],[(.loc 14,⟨1,.own,1,Zb out⟩)],3⟩:St))∧out.length=a.length+b.length∧val out=val a*val b) ∧
   Ze T 0 0 (.norm false [5]) l61_1 (Zju a b y)=some r:=by
 refine zay _ _ (fun y=>a.length-y.1) _ ?_
 rintro⟨i,X⟩ ⟨hi,hX,hv⟩
 simp only at hi hX hv;by_cases h0:i<a.length
 ·left;have hag:a[i]? = some (a[i]'h0):=Ya h0;have hw:IntKind.wrap .i64 ((i:Int)+1)=((i+1:Nat):Int):=zac _ (by omega);have e2:(X.take i).length=i:=by simp;omega
  have e3:(X.drop i++List.replicate (a.length-i) 0).length=a.length+b.length-i:=by simp;omega
  obtain⟨_,⟨c,m,rfl,hm,hc,hvm⟩,hr⟩:=z3j (T:=T) (X.take i) (X.drop i++List.replicate (a.length-i) 0) a b (a[i]'h0) (by rw[e2];exact hag) (by simp;omega) (by simp;omega) (0,0,[]) ⟨Yv _,Nat.zero_lt_succ _,rfl,by simp⟩;have e1:X.take i++(X.drop i++List.replicate (a.length-i) 0)=X++List.replicate (a.length-i) 0:=by rw[←Ya3,Yay]
  have e4:i+(a.length+b.length-i)=a.length+b.length:=by omega
  have e6:(X.drop i++List.replicate (a.length-i) 0).take b.length=X.drop i:=by
   rw[Ycn (by simp;omega),Yb (by simp;omega)]
  have hSl:b.length<(X.drop i++List.replicate (a.length-i) 0).length:=by simp;omega
  have hg:=zdv (P:=X.take i) (m:=m) hm hSl;have hset:=zdd (P:=X.take i) (m:=m) (w32 c) hm hSl;have e5:(X.drop i++List.replicate (a.length-i) 0).drop (b.length+1)=List.replicate (a.length-(i+1)) 0:=by
   rw[List.drop_append,Yas (by simp;omega),List.drop_replicate];simp only[Yax,Yb4];congr 1;omega
  unfold Zk5 at hr;simp only[Yax,Y3]at hr;rw[e1,e2,e3,e4]at hr;rw[e2]at hg hset;rw[e5]at hset;rw[e6]at hvm;generalize hQ:X.take i++(m++(X.drop i++List.replicate (a.length-i) 0).drop b.length)=Q at hr hg hset;have hw2:IntKind.wrap .i64 ((i:Int)+b.length)=((i+b.length:Nat):Int):=zac _ (by omega);have hlt:((i:Int)+b.length)<(a.length:Int)+b.length:=by omega
  simp at hr hg hset;refine⟨(i+1,X.take i++(m++[w32 c])),⟨h0,by simp only[Ya7,e2,hm,List.length_singleton];omega,?_⟩,by simp only;omega,?_⟩
  ·simp only;have e7:=zaj (X.take i) (X.drop i);rw[Yay,e2]at e7;rw[zaj,e2,zaj,hm];simp only[zap,zbf,Yal,Y4,zah hc];rw[hvm,zag hag,Ybu,←hv,e7,Yae];rw[Y9];omega
  ·simp -implicitDefEqProofs[l61_1,Zju,h0,hw,hr,hw2,hlt,hg,hset]
 ·right;have:i=a.length:=by omega
  subst this;rw[Yb (Yg _)]at hv;refine⟨_,⟨X++List.replicate (a.length-a.length) 0,rfl,by simp;omega,by simp[hv]⟩,?_,?_⟩<;>simp -implicitDefEqProofs[l61_1,Zju]
end
section
variable{T:Tbl}[Z7 T]
theorem zcs(a b:List UInt32)(ha:a.length≤100000)(hb:b.length≤100000):Za T 61 [.sl (Zb a) .an,.sl (Zb b) .an]=some (.sl (Zb (ofN (val a*val b))) .an):=by
 obtain⟨_,⟨out,rfl,ho,hv⟩,hr⟩:=zzd (T:=T) a b ha hb (0,List.replicate b.length 0) ⟨Yv _,by simp,by simp[zbk]⟩;unfold Zju at hr;simp at hr;have hw1:IntKind.wrap .i64 ((a.length:Int)+b.length)=(a.length:Int)+b.length:=zac _ (by omega);have hle:(a.length:Int)+b.length≤4294967296:=by omega
 have hn:=zbm (T:=T) out (by omega);rw[hv]at hn;have htk:List.take (a.length+b.length) out=out:=Yb (by omega);have he:b.length+a.length=a.length+b.length:=by omega
 rw[he]at hr;rw[zaa Z7.h61 rfl,b61];simp -implicitDefEqProofs[hw1,hle,hr,ho,htk,hn]
end
end Go.Ab
end
section
namespace Go.Ab
def l122_0:AX:= (.note (.seq (XS [mv 21 6,mv 22 1,XC 23 .rem 22 32,XB 24 .lss 21 23] (XQ 24 0)) (.seq (.block 1 (.reg [mv 27 5,rg 28 (.bin .quo (.t 27) (.c (u32 2))),mv 5 28])) (XH 25 6 26))) (XG [1,5,6]))
def b122:AX:= (XS [XJ 4] (.seq (XS [mv 7 1,XC 8 .lss 7 0,mv 9 8,VM 10 9 false 1,VC 11 9 false .quo 10 32,VM 12 9 false 0,VN 13 9 false 12,VB 14 9 false .geq 11 13,XY 15 9 14] (XD 15 (XS [XJ 4] (XZ [4])) .skip)) (XS [mv 16 0,mv 17 1,XC 18 .quo 17 32,XI 19 1 16 18,XO 20 19,mv 5 20] (.seq (XS [XL 6 0] (.lp 0 (XG [1,5,6]) l122_0 (XG [5]))) (XS [mv 29 5,rg 30 (.bin .rem (.t 29) (.c (u32 2))),rg 31 (.bin .eql (.t 30) (.c (u32 1))),mv 4 31] (XZ [4]))))))
def l95_0:AX:= (.note (.seq (XS [mv 7 3,XC 8 .gtr 7 0,mv 9 8,VM 10 9 true 0,VM 11 9 true 3,VC 12 9 true .sub 11 1,gd 13 9 true (.call 122 [(.t 10),(.t 12)]),VU 14 9 true 13,XW 15 9 14] (XQ 15 0)) (.block 1 (.reg [mv 16 3,XC 17 .sub 16 1,mv 3 17]))) (XG [0,3]))
def b95:AX:= (XS [XL 2 0] (XS [mv 4 0,XN 5 4,rg 6 (.bin .mul (.c (.i .i64 32)) (.t 5)),mv 3 6] (.seq (.lp 0 (XG [0,3]) l95_0 (XG [3])) (XS [mv 18 3,mv 2 18] (XZ [2])))))
def l96_0:AX:= (.note (.seq (XS [mv 8 5,mv 9 0,XN 10 9,XB 11 .lss 8 10] (XQ 11 0)) (.seq (.block 1 (XS [mv 14 0,mv 15 5,XI 16 1 14 15,XO 17 16,rg 18 (.bin .quo (.t 17) (.c (u32 2147483648))),mv 6 18] (XS [mv 19 0,mv 20 5,mv 21 0,mv 22 5,XI 23 1 21 22,XO 24 23,rg 25 (.bin .mul (.t 24) (.c (u32 2))),mv 26 4,XB 27 .add 25 26,XI 28 1 19 20,XT 1 28 27] (.reg [mv 29 6,mv 4 29])))) (XH 12 5 13))) (XG [0,4,5]))
def b96:AX:= (XS [XA 4 (u32 0)] (.seq (XS [mv 7 1] (XD 7 (.reg [XA 4 (u32 1)]) .skip)) (XS [XL 5 0] (.lp 0 (XG [0,4,5]) l96_0 (XG [])))))
def l97_0:AX:= (.note (.seq (XS [mv 8 5,mv 9 0,XN 10 9,XB 11 .lss 8 10] (XQ 11 0)) (.seq (.block 1 (XS [mv 14 0,mv 15 5,XI 16 1 14 15,XO 17 16,rg 18 (.conv .u64 (.t 17)),mv 6 18] (XS [mv 19 1,mv 20 5,XK2 21 84 19 20,rg 22 (.conv .u64 (.t 21)),mv 23 4,XB 24 .add 22 23,mv 7 24] (XS [XA 4 (u64 0)] (.seq (XS [mv 25 6,mv 26 7,XB 27 .lss 25 26] (XD 27 (XS [mv 28 6,rg 29 (.bin .add (.t 28) (.c (u64 4294967296))),mv 6 29] (.reg [XA 4 (u64 1)])) .skip)) (.reg [mv 30 0,mv 31 5,mv 32 6,mv 33 7,XB 34 .sub 32 33,rg 35 (.conv .u32 (.t 34)),XI 36 1 30 31,XT 1 36 35])))))) (XH 12 5 13))) (XG [0,1,4,5]))
def b97:AX:= (XS [XA 4 (u64 0)] (XS [XL 5 0] (.lp 0 (XG [0,1,4,5]) l97_0 (XG []))))
def l63_0:AX:= (.note (.seq (XS [mv 19 8,XC 20 .geq 19 0] (XQ 20 0)) (.seq (.block 1 (.seq (.drawT [mv 23 7,mv 24 0,mv 25 8,XC 26 .quo 25 32,XI 27 1 24 26,XO 28 27,mv 29 8,XC 30 .rem 29 32,rg 31 (.bin .shl (.c (u32 1)) (.t 30)),XB 32 .quo 28 31,rg 33 (.bin .rem (.t 32) (.c (u32 2))),rg 34 (.bin .eql (.t 33) (.c (u32 1)))] [XK2 35 96 23 34]) (XS [mv 36 6,rg 37 (.call 96 [(.t 36),(.c (.b false))])] (XS [mv 38 7,mv 39 1,XK2 40 52 38 39,XC 41 .geq 40 0] (XD 41 (XS [mv 42 7,mv 43 1,XK2 44 97 42 43] (.reg [mv 45 6,rg 46 (.iad 1 (.t 45) (.c (.i .i64 0))),XO 47 46,rg 48 (.bin .add (.t 47) (.c (u32 1))),rg 49 (.iad 1 (.t 45) (.c (.i .i64 0))),XT 1 49 48])) .skip))))) (.reg [mv 21 8,XC 22 .sub 21 1,mv 8 22]))) (XG [0,1,6,7,8]))
def b63:AX:= (XS [XA 4 (.sl [] .nl),XA 5 (.sl [] .nl)] (XS [mv 9 0,XN 10 9,rg 11 (.mks 1 [(u32 0)] (.t 10) (.t 10)),mv 6 11] (XS [mv 12 1,XN 13 12,XC 14 .add 13 1,rg 15 (.mks 1 [(u32 0)] (.t 14) (.t 14)),mv 7 15] (.seq (XS [mv 16 0,XK1 17 95 16,XC 18 .sub 17 1,mv 8 18] (.lp 0 (XG [0,1,6,7,8]) l63_0 (XG [6,7]))) (XS [mv 50 6,XK1 51 43 50,mv 52 7,XK1 53 43 52,mv 4 51,mv 5 53] (XZ [4,5]))))))
def row122:AFx:=XrV 2 32 4 b122
def row95:AFx:=XrV 1 19 2 b95
def row96:AFx:=⟨2,30,[],b96,(some [true,false]),false⟩
def row97:AFx:=⟨2,37,[],b97,(some [true,false]),false⟩
def row63:AFx:=⟨2,54,[.t 4,.t 5],b63,none,false⟩
class Zy (T:Tbl):Prop extends Z7 T where
 h122:T 122=some row122
 h95:T 95=some row95
 h96:T 96=some row96
 h97:T 97=some row97
 h63:T 63=some row63
section
variable{T:Tbl}[Zy T]{d:Option Nat}{st:St}
@[simp] theorem x122:XRx T 122:=xrx Zy.h122
@[simp] theorem x95:XRx T 95:=xrx Zy.h95
@[simp] theorem y95{e:Env}{h:Heap}{older:List Heap}(args:List Opd):opD (orc T) T (.call 95 args) e h older=dR (Za T 95 ((args.map (ev e.get)).map (wkIf false))) (args.map (ev e.get)):=zaf Zy.h95
@[simp] theorem x96(xs:List AV):Zd (orc T) T 96 xs d st=bL (Ze4 st.heap [true,false] xs) fun ys=>Zed ys (Zh (Zaw [true,false] xs) st.heap) (Zcz (Zh (Zaw [true,false] xs) st.heap) 40 (Zcn [true,false] xs) []) T 96 false d st:=zas Zy.h96
@[simp] theorem x97(xs:List AV):Zd (orc T) T 97 xs d st=bL (Ze4 st.heap [true,false] xs) fun ys=>Zed ys (Zh (Zaw [true,false] xs) st.heap) (Zcz (Zh (Zaw [true,false] xs) st.heap) 40 (Zcn [true,false] xs) []) T 97 false d st:=zas Zy.h97
@[simp] theorem x63:XRx T 63:=xrx Zy.h63
end
end Go.Ab
end
section
namespace Go.Ab
def l224_0:AX:= (.note (.seq (XS [mv 6 0,rg 7 (.bin .rem (.t 6) (.c (u32 2))),rg 8 (.bin .eql (.t 7) (.c (u32 0)))] (XQ 8 0)) (.block 1 (XS [mv 9 0,rg 10 (.bin .quo (.t 9) (.c (u32 2))),mv 0 10] (XH 11 3 12)))) (XG [0,3]))
def b224:AX:= (XS [XL 2 0] (.seq (XS [mv 4 0,rg 5 (.bin .eql (.t 4) (.c (u32 0)))] (XD 5 (XS [XL 2 32] (XZ [2])) .skip)) (XS [XL 3 0] (.seq (.lp 0 (XG [0,3]) l224_0 (XG [3])) (XS [mv 13 3,mv 2 13] (XZ [2]))))))
def l225_0:AX:= (.note (.seq (XS [mv 7 5,mv 8 0,XN 9 8,XB 10 .lss 7 9] (XQ 10 0)) (.seq (.block 1 (XS [XA 6 (u64 0)] (.seq (XS [mv 13 5,XC 14 .add 13 1,mv 15 0,XN 16 15,XB 17 .lss 14 16] (XD 17 (.reg [mv 18 0,mv 19 5,XC 20 .add 19 1,XI 21 1 18 20,XO 22 21,rg 23 (.conv .u64 (.t 22)),mv 6 23]) .skip)) (.reg [mv 24 0,mv 25 5,mv 26 6,rg 27 (.bin .mul (.t 26) (.c (u64 4294967296))),mv 28 0,mv 29 5,XI 30 1 28 29,XO 31 30,rg 32 (.conv .u64 (.t 31)),XB 33 .add 27 32,mv 34 1,XB 35 .shr 33 34,rg 36 (.conv .u32 (.t 35)),XI 37 1 24 25,XT 1 37 36])))) (XH 11 5 12))) (XG [0,1,5]))
def l225_1:AX:= (.note (.seq (XS [mv 38 0,XN 39 38,XC 40 .gtr 39 0,mv 41 40,VM 42 41 true 0,VM 43 41 true 0,VN 44 41 true 43,VC 45 41 true .sub 44 1,VI 46 41 true 1 42 45,VO 47 41 true 46,gd 48 41 true (.bin .eql (.t 47) (.c (u32 0))),XW 49 41 48] (XQ 49 2)) (.block 3 (.reg [mv 50 0,mv 51 0,XN 52 51,XC 53 .sub 52 1,rg 54 (.slc 1 (.t 50) none (some (.t 53)) none),mv 0 54]))) (XG [0]))
def b225:AX:= (XS [XA 4 (.sl [] .nl)] (.seq (XS [XL 5 0] (.lp 0 (XG [0,1,5]) l225_0 (XG [0]))) (.seq (.lp 2 (XG [0]) l225_1 (XG [0])) (XS [mv 55 0,mv 4 55] (XZ [4])))))
def l226_0:AX:= (.note (.seq (XS [mv 6 0,rg 7 (.iad 1 (.t 6) (.c (.i .i64 0))),XO 8 7,rg 9 (.bin .eql (.t 8) (.c (u32 0)))] (XQ 9 0)) (.block 1 (XS [mv 10 0,rg 11 (.slc 1 (.t 10) (some (.c (.i .i64 1))) none none),mv 0 11] (.reg [mv 12 4,XC 13 .add 12 32,mv 4 13])))) (XG [0,4]))
def b226:AX:= (XS [XA 2 (.sl [] .nl),XL 3 0] (XS [XL 4 0] (.seq (.lp 0 (XG [0,4]) l226_0 (XG [0,4])) (XS [mv 14 0,rg 15 (.iad 1 (.t 14) (.c (.i .i64 0))),XO 16 15,XK1 17 224 16,mv 5 17] (XS [mv 18 0,mv 19 5,XK2 20 225 18 19,mv 21 4,mv 22 5,XB 23 .add 21 22,mv 2 20,mv 3 23] (XZ [2,3]))))))
def b227:AX:= (XS [XA 4 (.sl [] .nl)] (XS [mv 6 1,XC 7 .quo 6 32,rg 8 (.mks 1 [(u32 0)] (.t 7) (.t 7)),mv 9 0,rg 10 (.app 1 (.t 8) (.t 9)),mv 5 10] (XS [mv 11 5,mv 12 1,XC 13 .rem 12 32,rg 14 (.bin .shl (.c (u32 1)) (.t 13)),rg 15 (.bsl 1 [(u32 0)] 1 [(0,(.t 14))]),XK2 16 61 11 15,mv 4 16] (XZ [4]))))
def l228_0:AX:= (.note (.block 1 (XS [mv 33 5,mv 34 6,XK2 35 52 33 34,mv 9 35] (.seq (XS [mv 36 9,XC 37 .eql 36 0] (XD 37 (.exit 0) .skip)) (.seq (XS [mv 38 9,XC 39 .lss 38 0] (XD 39 (XS [mv 40 5,mv 10 40] (XS [mv 41 6,mv 5 41] (.reg [mv 42 10,mv 6 42]))) .skip)) (XS [mv 43 5,mv 44 6,XK2 45 2097 43 44] (.reg [mv 47 5,XK1 48 226 47,mv 46 48,XE 49 46 0,XE 50 46 1,mv 5 49])))))) (XG [5,6,7,8]))
def b228:AX:= (XS [XA 4 (.sl [] .nl)] (XS [mv 11 0,XK1 12 2043 11,mv 5 12] (XS [mv 13 1,XK1 14 2043 13,mv 6 14] (.seq (XS [mv 15 5,XN 16 15,XC 17 .eql 16 0] (XD 17 (XS [mv 18 6,mv 4 18] (XZ [4])) .skip)) (.seq (XS [mv 19 6,XN 20 19,XC 21 .eql 20 0] (XD 21 (XS [mv 22 5,mv 4 22] (XZ [4])) .skip)) (XS [mv 24 5,XK1 25 226 24,mv 23 25,XE 26 23 0,XE 27 23 1,mv 5 26,mv 7 27] (XS [mv 29 6,XK1 30 226 29,mv 28 30,XE 31 28 0,XE 32 28 1,mv 6 31,mv 8 32] (.seq (.lp 0 (XG [5,6,7,8]) l228_0 (XG [5,7,8])) (XS [mv 51 5,mv 52 7,mv 53 8,rg 54 (.mm false [(.t 52),(.t 53)]),XK2 55 227 51 54,mv 4 55] (XZ [4]))))))))))
def b229:AX:= (XS [XJ 2] (XS [mv 3 0,XN 4 3,XC 5 .eql 4 1,mv 6 5,VM 7 6 true 0,gd 8 6 true (.iad 1 (.t 7) (.c (.i .i64 0))),VO 9 6 true 8,gd 10 6 true (.bin .eql (.t 9) (.c (u32 1))),XW 11 6 10,mv 2 11] (XZ [2])))
def b230:AX:= (XS [XA 4 (.sl [] .nl)] (.seq (XS [mv 7 1,XK1 8 229 7] (XD 8 (XS [mv 9 0,XK1 10 43 9,mv 4 10] (XZ [4])) .skip)) (XS [mv 12 0,mv 13 1,XK2 14 63 12 13,mv 11 14,XE 15 11 0,XE 16 11 1,mv 5 15,mv 6 16] (XS [mv 17 5,mv 4 17] (XZ [4])))))
def l2097_0:AX:= (.note (.seq (XS [mv 8 5,mv 9 0,XN 10 9,XB 11 .lss 8 10] (XQ 11 0)) (.seq (.block 1 (XS [mv 14 0,mv 15 5,XI 16 1 14 15,XO 17 16,rg 18 (.conv .u64 (.t 17)),mv 6 18] (XS [mv 19 1,mv 20 5,XK2 21 84 19 20,rg 22 (.conv .u64 (.t 21)),mv 23 4,XB 24 .add 22 23,mv 7 24] (XS [XA 4 (u64 0)] (.seq (XS [mv 25 6,mv 26 7,XB 27 .lss 25 26] (XD 27 (XS [mv 28 6,rg 29 (.bin .add (.t 28) (.c (u64 4294967296))),mv 6 29] (.reg [XA 4 (u64 1)])) .skip)) (.reg [mv 30 0,mv 31 5,mv 32 6,mv 33 7,XB 34 .sub 32 33,rg 35 (.conv .u32 (.t 34)),XI 36 1 30 31,XT 1 36 35])))))) (XH 12 5 13))) (XG [0,1,4,5]))
def b2097:AX:= (XS [XA 4 (u64 0)] (XS [XL 5 0] (.lp 0 (XG [0,1,4,5]) l2097_0 (XG []))))
def row224:AFx:=XrV 1 14 2 b224
def row225:AFx:=⟨2,56,[.t 4],b225,(some [true,false]),false⟩
def row226:AFx:=⟨1,24,[.t 2,.t 3],b226,(some [true]),false⟩
def row227:AFx:=XrV 2 17 4 b227
def row228:AFx:=XrV 2 56 4 b228
def row229:AFx:=XrV 1 12 2 b229
def row230:AFx:=XrV 2 18 4 b230
def row2097:AFx:=⟨2,37,[],b2097,(some [true,true]),false⟩
class Zz (T:Tbl):Prop where
 h224:T 224=some row224
 h225:T 225=some row225
 h226:T 226=some row226
 h227:T 227=some row227
 h228:T 228=some row228
 h229:T 229=some row229
 h230:T 230=some row230
 h2097:T 2097=some row2097
section
variable{T:Tbl}[Zz T]{d:Option Nat}{st:St}{xs:List AV}{ps:List Opd}{e:Env}{h:Heap}{ol:List Heap}
@[simp] theorem x224:XRx T 224:=xrx Zz.h224
@[simp] theorem x225:Zd (orc T) T 225 xs d st=cL T 225 false [true,false] xs d st:=zas Zz.h225
@[simp] theorem x226:Zd (orc T) T 226 xs d st=cL T 226 false [true] xs d st:=zas Zz.h226
@[simp] theorem x227:XRx T 227:=xrx Zz.h227
@[simp] theorem x228:XRx T 228:=xrx Zz.h228
@[simp] theorem x229:XRx T 229:=xrx Zz.h229
@[simp] theorem x230:XRx T 230:=xrx Zz.h230
@[simp] theorem x2097:Zd (orc T) T 2097 xs d st=cL T 2097 false [true,true] xs d st:=zas Zz.h2097
end
end Go.Ab
end
section
namespace Go.Ab
section
variable{T:Tbl}[Zy T]
def Znf(a:List UInt32)(y:Nat×Nat×List UInt32):St:=
 ⟨[(0,.bs (.bor 0) 0 1 0 a.length),(4,u32 y.2.1),(5,.i .i64 y.1)],[(.bor 0,⟨0,.own,1,Zb (y.2.2++a.drop y.1)⟩)],4⟩
theorem z7e{p m c c' w s x k:Nat}(h:m+p*c=2*s+k)(e:w+4294967296*c'=2*x+c):(m+p*w)+p*4294967296*c'=2*(s+p*x)+k:=by
 grind
end
section
variable{T:Tbl}
theorem z7f(a:List UInt32)(c0:Nat)(hl:a.length≤1000000):∀y:Nat×Nat×List UInt32,
  (y.1≤a.length∧y.2.1≤1∧y.2.2.length=y.1∧val y.2.2+4294967296^y.1*y.2.1=2*val (a.take y.1)+c0) →
  ∃r,(∃(c:Nat) (m:List UInt32),r=(Ex.n,(⟨[],[(.bor 0,⟨0,.own,1,Zb m⟩)],4⟩:St)) ∧
   m.length=a.length∧c≤1∧val m+4294967296^a.length*c=2*val a+c0)∧Ze T 1 0 (.norm false []) l96_0 (Znf a y)=some r:=by
 refine zay _ _ (fun y=>a.length-y.1) _ ?_
 rintro⟨i,c,m⟩ ⟨hi,hc,hm,hv⟩
 simp only at hi hc hm hv;by_cases h0:i<a.length
 ·left;have ha:a[i]? = some (a[i]'h0):=Ya h0;have hg:=zdv (P:=[]) hm h0;have hw:IntKind.wrap .i64 ((i:Int)+1)=((i+1:Nat):Int):=zac _ (by omega);have hlx:=zam (a[i]'h0);have hset:=zdd (P:=[]) (w32 ((a[i]'h0).toNat*2%4294967296+c)) hm h0;simp at hg hset;have m1:((a[i]'h0).toNat*2%4294967296+c)%4294967296=(a[i]'h0).toNat*2%4294967296+c:=Yk (by omega);have m2:(a[i]'h0).toNat/2147483648<4294967296:=by omega
  have m3:(a[i]'h0).toNat*2%4294967296+c<4294967296:=by omega
  refine⟨(i+1,(a[i]'h0).toNat/2147483648,m++[w32 ((a[i]'h0).toNat*2%4294967296+c)]),⟨h0,by grind,by grind,?_⟩,by omega,?_⟩
  ·rw[zaj,zag ha,Y6,hm];simp only[zap,zbf,Yal,Y4,zb7];exact z7e hv (by omega)
  ·simp -implicitDefEqProofs[l96_0,Znf,h0,hw,hg,hset,m1,m2,zbj _ _ _ m3]
 ·right;have:i=a.length:=by omega
  subst this;rw[Yb (Yg a.length)]at hv;refine⟨_,⟨c,m,rfl,hm,hc,hv⟩,?_,?_⟩<;>simp -implicitDefEqProofs[l96_0,Znf]
end
section
variable{T:Tbl}[Zy T]
theorem zh3(a:List UInt32)(v:Bool)(hl:a.length≤1000000) :
  ∃(c:Nat) (m:List UInt32),m.length=a.length∧c≤1∧val m+4294967296^a.length*c=2*val a+(if v then 1 else 0) ∧
   Zbp T 96 [.bs (.bor 0) 0 1 0 a.length,.b v] [(.bor 0,⟨0,.own,1,Zb a⟩)]=some (.tup [],[(.bor 0,⟨0,.own,1,Zb m⟩)]):=by
 obtain⟨_,⟨c,m,rfl,hm,hc,hv⟩,hr⟩:=z7f (T:=T) a (if v then 1 else 0) hl (0,(if v then 1 else 0),[]) ⟨Yv _,by grind,rfl,by simp_all⟩;refine⟨c,m,hm,hc,hv,?_⟩;unfold Znf at hr;rw[za3 Zy.h96 rfl,b96];cases v
 ·simp at hr;simp -implicitDefEqProofs[hr]
 ·simp at hr;simp -implicitDefEqProofs[hr]
def Zmh(a b:List UInt32)(y:Nat×Nat×List UInt32):St:=
 ⟨[(0,.bs (.bor 0) 0 1 0 a.length),(1,.sl (Zb b) .an),(4,u64 y.2.1),(5,.i .i64 y.1)],[(.bor 0,⟨0,.own,1,Zb (y.2.2++a.drop y.1)⟩)],4⟩
theorem z7g(a b:List UInt32)(hl:a.length≤1000000)(hb:b.length≤1000000):∀y:Nat×Nat×List UInt32,
  (y.1≤a.length∧y.2.1≤1∧y.2.2.length=y.1∧val y.2.2+val (b.take y.1)=val (a.take y.1)+4294967296^y.1*y.2.1) →
  ∃r,(∃(c:Nat) (m:List UInt32),r=(Ex.n,(⟨[],[(.bor 0,⟨0,.own,1,Zb m⟩)],4⟩:St)) ∧
   m.length=a.length∧c≤1∧val m+val (b.take a.length)=val a+4294967296^a.length*c)∧Ze T 1 0 (.norm false []) l97_0 (Zmh a b y)=some r:=by
 refine zay _ _ (fun y=>a.length-y.1) _ ?_
 rintro⟨i,c,m⟩ ⟨hi,hc,hm,hv⟩
 simp only at hi hc hm hv;by_cases h0:i<a.length
 ·left;have ha:a[i]? = some (a[i]'h0):=Ya h0;have hg:=zdv (P:=[]) hm h0;have hw:IntKind.wrap .i64 ((i:Int)+1)=((i+1:Nat):Int):=zac _ (by omega);have cb:=zdn (T:=T) b i hb;have la:=zam (a[i]'h0);have lb:=zjn b i;have e1:=zag ha;have e2:=zbg b i;simp at hg;have m1:(a[i]'h0).toNat%18446744073709551616=(a[i]'h0).toNat:=Yk (by omega);have m2:atW b i%18446744073709551616=atW b i:=Yk (by omega);have m3:(atW b i+c)%18446744073709551616=atW b i+c:=Yk (by omega);have m4:((a[i]'h0).toNat+4294967296)%18446744073709551616=(a[i]'h0).toNat+4294967296:=Yk (by omega);have fin:∀s d:Nat,d≤1→s<4294967296→s+(atW b i+c)=(a[i]'h0).toNat+4294967296*d →
    val (m++[w32 s])+val (b.take (i+1))=val (a.take (i+1))+4294967296^(i+1)*d:=by
   grind[zaj,zap,zbf,zah]
  by_cases h1:(a[i]'h0).toNat<atW b i+c
  ·have hs:Zee ((a[i]'h0).toNat+4294967296) (atW b i+c)=(a[i]'h0).toNat+4294967296-(atW b i+c):=zfh (by omega) (by omega);have hset:=zdd (P:=[]) (w32 ((a[i]'h0).toNat+4294967296-(atW b i+c))) hm h0;simp at hset;refine⟨(i+1,1,m++[w32 ((a[i]'h0).toNat+4294967296-(atW b i+c))]),⟨h0,Yg _,by grind,fin _ 1 (by omega) (by omega) (by omega)⟩,by omega,?_⟩;simp -implicitDefEqProofs[l97_0,Zmh,h0,cb,m1,m2,m3,m4,h1,hs,hg,hw,hset]
  ·have hs:Zee (a[i]'h0).toNat (atW b i+c)=(a[i]'h0).toNat-(atW b i+c):=zfh (by omega) (by omega);have hset:=zdd (P:=[]) (w32 ((a[i]'h0).toNat-(atW b i+c))) hm h0;simp at hset;refine⟨(i+1,0,m++[w32 ((a[i]'h0).toNat-(atW b i+c))]),⟨h0,Yv _,by grind,fin _ 0 (by omega) (by omega) (by omega)⟩,by omega,?_⟩;simp -implicitDefEqProofs[l97_0,Zmh,h0,cb,m1,m2,m3,h1,hs,hg,hw,hset]
 ·right;have:i=a.length:=by omega
  subst this;rw[Yb (Yg a.length)]at hv;refine⟨_,⟨c,m,rfl,hm,hc,hv⟩,?_,?_⟩<;>simp -implicitDefEqProofs[l97_0,Zmh]
theorem zux(a b:List UInt32)(hl:a.length≤1000000)(hb:b.length≤a.length)(hab:val b≤val a) :
  ∃m:List UInt32,m.length=a.length∧val m=val a-val b ∧
   Zbp T 97 [.bs (.bor 0) 0 1 0 a.length,.sl (Zb b) .an] [(.bor 0,⟨0,.own,1,Zb a⟩)]=some (.tup [],[(.bor 0,⟨0,.own,1,Zb m⟩)]):=by
 obtain⟨_,⟨c,m,rfl,hm,hc,hv⟩,hr⟩:=z7g (T:=T) a b hl (by omega) (0,0,[]) ⟨Yv _,Yv _,rfl,by simp⟩;rw[Yb hb]at hv;have hlo:=za0 m;have hval:val m=val a-val b:=by
  rcases Yar c with h1 | h1
  all_goals grind
 refine⟨m,hm,hval,?_⟩;unfold Zmh at hr;rw[za3 Zy.h97 rfl,b97]
 simp_all
def Zng(x i:Nat)(y:Nat):St:=⟨[(1,.i .i64 i),(5,u32 (x/2^y)),(6,.i .i64 y)],[],2⟩
end
section
variable{T:Tbl}
theorem z7h(x i:Nat)(_hi:i≤100000000)(hx:x<4294967296):∀y:Nat,y≤i%32 →
  ∃r,(r=(Ex.n,(⟨[(5,u32 (x/2^(i%32)))],[],2⟩:St)))∧Ze T 0 0 (.norm false [5]) l122_0 (Zng x i y)=some r:=by
 refine zay _ _ (fun y=>i%32-y) _ ?_;intro j hj;have hm:((i:Int).tmod 32)=((i%32:Nat):Int):=rfl;by_cases h0:j<i%32
 ·left;have hw:IntKind.wrap .i64 ((j:Int)+1)=((j+1:Nat):Int):=zac _ (by omega);have hd:x/2^j/2=x/2^(j+1):=by rw[Ybf,Y6]
  have hd2:x/2^(j+1)%4294967296=x/2^(j+1):=Yk (Ydb (Yce _ _) hx);refine⟨j+1,h0,by omega,?_⟩;have hj2:(j:Int)<(i:Int)%32:=by omega
  simp -implicitDefEqProofs[l122_0,Zng,hm,hw,hd,hd2,hj2]
 ·right;have:j=i%32:=by omega
  subst this;refine⟨_,rfl,?_,?_⟩<;>simp -implicitDefEqProofs[l122_0,Zng,hm]
end
section
variable{T:Tbl}[Zy T]
theorem zoz(a:List UInt32)(i:Nat)(hl:a.length≤1000000)(hi:i<32*a.length) :
  Za T 122 [.sl (Zb a) .an,.i .i64 i]=some (.b (decide (val a/2^i%2=1))):=by
 have h1:i/32<a.length:=by omega
 have ha:a[i/32]? = some (a[i/32]'h1):=Ya h1;obtain⟨_,rfl,hr⟩:=z7h (T:=T) (a[i/32]'h1).toNat i (by omega) (zam _) 0 (Yv _);unfold Zng at hr;simp at hr;have hq:IntKind.wrap .i64 ((i:Int)/32)=(i:Int)/32:=zac (i/32) (by omega);have hq1:((i:Int)/32).toNat=i/32:=by omega
 have hq2:(0:Int)≤(i:Int)/32:=by omega
 have hq3:(i:Int)/32<(a.length:Int):=by omega
 have hq4:¬ (a.length:Int)≤(i:Int)/32:=by omega
 have hb:=z07 ha;rw[zaa Zy.h122 rfl,b122];simp -implicitDefEqProofs[hr,hq,hq1,hq2,hq3,hq4,h1,hb]
def Zih(a:List UInt32)(y:Nat):St:=⟨[(0,.sl (Zb a) .an),(3,.i .i64 y)],[],2⟩
theorem z7i(a:List UInt32)(hl:a.length≤1000000):∀y:Nat,(y≤32*a.length∧val a<2^y) →
  ∃r,(∃n:Nat,r=(Ex.n,(⟨[(3,.i .i64 n)],[],2⟩:St))∧n≤32*a.length∧val a<2^n)∧Ze T 0 0 (.norm false [3]) l95_0 (Zih a y)=some r:=by
 refine zay _ _ (fun y=>y) _ ?_
 rintro k ⟨hk,hv⟩
 by_cases h0:k=0
 ·right;subst h0;refine⟨_,⟨0,rfl,Yv _,hv⟩,?_,?_⟩<;>simp -implicitDefEqProofs[l95_0,Zih]
 ·obtain⟨j,rfl⟩:∃j,k=j+1:=⟨k-1,by omega⟩;have hw:IntKind.wrap .i64 (j:Int)=(j:Int):=zac _ (by omega);have hh:=zoz (T:=T) a j hl (by omega);have hp:(0:Int)<(j:Int)+1:=by omega
  by_cases h1:val a/2^j%2=1
  ·right;refine⟨_,⟨j+1,rfl,hk,hv⟩,?_,?_⟩<;>simp -implicitDefEqProofs[l95_0,Zih,hw,hh,hp,h1]
  ·left;refine⟨j,⟨by omega,zpm hv (by omega)⟩,by omega,?_⟩;simp -implicitDefEqProofs[l95_0,Zih,hw,hh,hp,h1]
theorem zze(a:List UInt32)(hl:a.length≤1000000):∃n:Nat,n≤32*a.length∧val a<2^n∧Za T 95 [.sl (Zb a) .an]=some (.i .i64 n):=by
 obtain⟨_,⟨n,rfl,hn,hv⟩,hr⟩:=z7i (T:=T) a hl (32*a.length) ⟨Yg _,by rw[←zpk];exact za0 a⟩;refine⟨n,hn,hv,?_⟩;unfold Zih at hr;simp at hr;have hw:IntKind.wrap .i64 (32*(a.length:Int))=32*(a.length:Int):=by
  grind[zac]
 rw[zaa Zy.h95 rfl,b95];simp -implicitDefEqProofs[hr,hw]
end
end Go.Ab
end
section
namespace Go.Ab
section
variable{T:Tbl}[Zy T]
theorem z3k(n:Nat)(h:n<32):Zad .shl (u32 1) (.i .i64 (n:Int))=some (u32 (2^n)):=by
 have h1:¬ (n:Int)<0:=by omega
 have h2:2^n<4294967296:=by
  have:2^n<2^32:=Nat.pow_lt_pow_right (by decide) h;simpa using this
 have h3:min n IntKind.u32.bits=n:=by
  have:IntKind.u32.bits=32:=rfl;rw[this];omega
 have h4:((1:Nat):Int)*2^n=((2^n:Nat):Int):=by simp
 unfold u32;simp only[Zad,if_neg h1,Ycb,h3,h4,zek,Yk h2]
theorem zacg{v b Q L:Nat}(hb:0<b)(hq:Q=v/2/b)(hr:L=v/2%b) :
  (b≤2*L+v%2→v/b=2*Q+1∧v%b=2*L+v%2-b)∧(2*L+v%2<b→v/b=2*Q∧v%b=2*L+v%2):=by
 have h1:=Ybq (v/2) b;have h2:L<b:=by rw[hr];exact Yaz _ hb
 rw[←hq,←hr]at h1;have h3:v=b*(2*Q)+(2*L+v%2):=by
  rw[←Y9,Yab b 2,Y9];omega
 have ht:v%2<2:=Yaz _ (by decide);clear h1 hq hr;generalize v%2=t at *
 rw[h3];constructor
 ·intro h;have e:b*(2*Q)+(2*L+t)=(2*L+t-b)+b*(2*Q+1):=by rw[Yae,Ydg];omega
  rw[e,Ybx _ _ hb,Yc0,Ybb (by omega),Yk (by omega)];omega
 ·intro h;rw[Ybi,Ybx _ _ hb,Yc0,Ybb h,Yk h];omega
theorem z7j{a:List UInt32}{x:UInt32}(h:a[0]? = some x)(hx:x.toNat+1<4294967296):val (a.set 0 (w32 (x.toNat+1)))=val a+1:=by
 cases a with
 | nil=>cases h
 | cons y l=>
  cases h;simp only[Yb8,zap,zah hx];omega
def Zkp(a b:List UInt32)(y:Nat×List UInt32×List UInt32):St:=
 ⟨[(0,.sl (Zb a) .an),(1,.sl (Zb b) .an),(6,.bs (.loc 11) 1 1 0 a.length),(7,.bs (.loc 15) 2 1 0 (b.length+1)),(8,.i .i64 ((y.1:Int)-1))],[(.loc 11,⟨1,.own,1,Zb y.2.1⟩),(.loc 15,⟨2,.own,1,Zb y.2.2⟩)],4⟩
theorem z7k(a b:List UInt32)(ha:a.length≤100000)(hb:b.length≤100000)(h0b:0<val b):∀y:Nat×List UInt32×List UInt32,
  (y.1≤32*a.length∧y.2.1.length=a.length∧y.2.2.length=b.length+1∧val y.2.1=val a/2^y.1/val b∧val y.2.2=val a/2^y.1%val b) →
  ∃r,(∃Q L:List UInt32,r=(Ex.n,(⟨[(6,.bs (.loc 11) 1 1 0 a.length),(7,.bs (.loc 15) 2 1 0 (b.length+1))],[(.loc 11,⟨1,.own,1,Zb Q⟩),(.loc 15,⟨2,.own,1,Zb L⟩)],4⟩:St)) ∧
   Q.length=a.length∧L.length=b.length+1∧val Q=val a/val b∧val L=val a%val b)∧Ze T 0 0 (.norm false [6,7]) l63_0 (Zkp a b y)=some r:=by
 refine zay _ _ (fun y=>y.1) _ ?_
 rintro⟨k,Q,L⟩ ⟨hk,hQ,hL,hq,hr⟩
 simp only at hk hQ hL hq hr;cases k with
 | zero=>
  right;rw[Ydi,Nat.div_one]at hq hr;refine⟨_,⟨Q,L,rfl,hQ,hL,hq,hr⟩,?_,?_⟩<;>simp -implicitDefEqProofs[l63_0,Zkp]
 | succ j=>
  left;have h1:j/32<a.length:=by omega
  have hag:a[j/32]? = some (a[j/32]'h1):=Ya h1;have hbit:=z07 hag;have hw:IntKind.wrap .i64 ((j:Int)-1)=(j:Int)-1:=zac _ (by omega);have hsh:Zad .shl (u32 1) (.i .i64 ((j:Int)%32))=some (u32 (2^(j%32))):=z3k (j%32) (Yaz _ (by decide));have hm:((j:Int).tmod 32)=((j%32:Nat):Int):=rfl;have hj0:IntKind.wrap .i64 ((j:Int)/32)=(j:Int)/32:=zac (j/32) (by omega);have hj1:((j:Int)/32).toNat=j/32:=by omega
  have hj2:(0:Int)≤(j:Int)/32:=by omega
  have hj3:(j:Int)/32<(a.length:Int):=by omega
  have hxl:=zam (a[j/32]'h1);obtain⟨cL,L2,hL2,hcL,hvL,hrL⟩:=zh3 (T:=T) L (decide ((a[j/32]'h1).toNat/2^(j%32)%2=1)) (by omega);obtain⟨cQ,Q2,hQ2,hcQ,hvQ,hrQ⟩:=zh3 (T:=T) Q false (by omega);have hcmp:=ze4 (T:=T) L2 b (by omega) (by omega);have hpq:(2^(j%32))≠0:=Nat.ne_of_gt (Ya2 (by decide));rw[hL]at hrL;rw[hQ]at hrQ;rw[hL]at hL2;rw[hQ]at hQ2;have htL:List.take (b.length+1) L2=L2:=Yb (by omega);have hres:∃Q3 L3:List UInt32,Q3.length=a.length∧L3.length=b.length+1∧val Q3=val a/2^j/val b∧val L3=val a/2^j%val b ∧
    (evX (orc T) T 0 l63_0 (Zkp a b (j+1,Q,L))=some (Ex.n,Zkp a b (j,Q3,L3))):=by
   have hvb:=za0 b;have hva:=za0 a;have hLb:val L<val b:=by rw[hr];exact Yaz _ h0b
   have hv2:val a/2^(j+1)=val a/2^j/2:=by rw[Y6,Ybf]
   rw[hv2]at hq hr;have hlaw:=zacg h0b hq hr;have hva2:val a/2^j≤val a:=Yce _ _;have hq2:2*val Q≤val a/2^j:=by
    have h2:val a/2^j/2/val b≤val a/2^j/2:=Yce _ _;omega
   have hL0:val L2=2*val L+val a/2^j%2:=by
    have hb2:(if decide ((a[j/32]'h1).toNat/2^(j%32)%2=1)=true then 1 else 0)=val a/2^j%2:=by
     rw[hbit];simp only[decide_eq_true_eq];split<;>omega
    rw[hb2,hL,Y6]at hvL;have ht:val a/2^j%2<2:=Yaz _ (by decide);generalize val a/2^j%2=t at *
    generalize 4294967296^b.length=p at *
    rcases Yar cL with h | h
    ·rw[h,Yal,Y4]at hvL;exact hvL
    ·have:=Yac (p*4294967296) h;generalize p*4294967296*cL=u at *
     omega
   have hQ0:val Q2=2*val Q:=by
    rw[hQ]at hvQ;simp at hvQ;generalize 4294967296^a.length=p at *
    rcases Yar cQ with h | h
    ·rw[h,Yal,Y4]at hvQ;exact hvQ
    ·have:=Yac p h;generalize p*cQ=u at *
     omega
   rw[←hL0]at hlaw;by_cases hle:val b≤val L2
   ·have hc:(0:Int)≤Zc8 (val L2) (val b):=by
     unfold Zc8;split
     ·omega
     ·split<;>omega
    obtain⟨L3,hL3,hvL3,hrL3⟩:=zux (T:=T) L2 b (by omega) (by omega) hle;rw[hL2]at hrL3 hL3;have h0Q:0<Q2.length:=by omega
    have hQg:Q2[0]? = some (Q2[0]'h0Q):=Ya h0Q;have hev:(Q2[0]'h0Q).toNat+1<4294967296:=by
     have:=zam (Q2[0]'h0Q);have hc:val Q2=(Q2[0]'h0Q).toNat+4294967296*val (Q2.drop 1):=by
      conv=>lhs;rw[←Y3 (l:=Q2),Ye h0Q,zap]
     omega
    have h0a:0<a.length:=by omega
    have hQg':=hQg;have hev':=hev;generalize hqq:(Q2[0]'h0Q).toNat=qq at hev';refine⟨Q2.set 0 (w32 ((Q2[0]'h0Q).toNat+1)),L3,by simp[hQ2],hL3,by rw[z7j hQg hev,hQ0,(hlaw.1 hle).1],by rw[hvL3,(hlaw.1 hle).2],?_⟩;simp -implicitDefEqProofs[l63_0,Zkp,hw,hsh,hm,hj0,hj1,hj2,hj3,h1,hrL,hrQ,hL2,htL,hcmp,hc,hrL3,hQ2,h0a]
   ·have hc:¬ (0:Int)≤Zc8 (val L2) (val b):=by unfold Zc8;rw[if_pos (by omega)];decide
    have hlt:val L2<val b:=by omega
    refine⟨Q2,L2,hQ2,hL2,by rw[hQ0,(hlaw.2 hlt).1],by rw[(hlaw.2 hlt).2],?_⟩;simp -implicitDefEqProofs[l63_0,Zkp,hw,hsh,hm,hj0,hj1,hj2,hj3,h1,hrL,hrQ,hL2,htL,hcmp,hc]
  obtain⟨Q3,L3,e1,e2,e3,e4,e5⟩:=hres;exact⟨(j,Q3,L3),⟨by simp only;omega,e1,e2,e3,e4⟩,Yy j,e5⟩
theorem zzf(a b:List UInt32)(ha:a.length≤100000)(hb:b.length≤100000)(h0b:0<val b) :
  Za T 63 [.sl (Zb a) .an,.sl (Zb b) .an]=some (.tup [.sl (Zb (ofN (val a/val b))) .an,.sl (Zb (ofN (val a%val b))) .an]):=by
 obtain⟨n,hn,hvn,hln⟩:=zze (T:=T) a (by omega);have hd0:val a/2^n=0:=Ybb hvn;obtain⟨_,⟨Q,L,rfl,hQ,hL,hq,hr⟩,hlp⟩:=z7k (T:=T) a b ha hb h0b (n,List.replicate a.length 0,List.replicate (b.length+1) 0)
  ⟨hn,by simp,by simp,by simp[zbk,hd0],by simp only[hd0,Nat.zero_mod];exact zbk _⟩
 have hw:IntKind.wrap .i64 ((n:Int)-1)=(n:Int)-1:=zac _ (by omega);have hw2:IntKind.wrap .i64 ((b.length:Int)+1)=((b.length+1:Nat):Int):=zac _ (by omega);have h1:(a.length:Int)≤4294967296:=by omega
 have h2:(b.length:Int)+1≤4294967296:=by omega
 have hn1:=zbm (T:=T) Q (by omega);have hn2:=zbm (T:=T) L (by omega);have t1:List.take a.length Q=Q:=Yb (by omega);have t2:List.take (b.length+1) L=L:=Yb (by omega);unfold Zkp at hlp;simp at hlp;rw[zaa Zy.h63 rfl,b63];simp -implicitDefEqProofs[hln,hw,hw2,h1,h2,hlp,hQ,hL,t1,t2,hn1,hn2,hq,hr]
end
end Go.Ab
end
section
namespace Go.Ab
def l2043_0:AX:= (.note (.seq (XS [mv 6 3,XC 7 .gtr 6 0,mv 8 7,VM 9 8 true 0,VM 10 8 true 3,VC 11 8 true .sub 10 1,VI 12 8 true 1 9 11,VO 13 8 true 12,gd 14 8 true (.bin .eql (.t 13) (.c (u32 0))),XW 15 8 14] (XQ 15 0)) (.block 1 (.reg [mv 16 3,XC 17 .sub 16 1,mv 3 17]))) (XG [0,3]))
def b2043:AX:= (XS [XA 2 (.sl [] .nl)] (XS [mv 4 0,XN 5 4,mv 3 5] (.seq (.lp 0 (XG [0,3]) l2043_0 (XG [0,3])) (XS [rg 18 (.bsl 1 [(u32 0)] 0 []),mv 19 0,mv 20 3,rg 21 (.slc 1 (.t 19) none (some (.t 20)) none),rg 22 (.app 1 (.t 18) (.t 21)),mv 2 22] (XZ [2])))))
def row2043:AFx:=⟨1,23,[.t 2],b2043,(some [false]),false⟩
class Zaa (T:Tbl):Prop extends Zy T where
 h2043:T 2043=some row2043
section
variable{T:Tbl}[Zaa T]{d:Option Nat}{st:St}
@[simp] theorem x2043(xs:List AV):Zd (orc T) T 2043 xs d st=bL (Ze4 st.heap [false] xs) fun ys=>Zed ys (Zh (Zaw [false] xs) st.heap) (Zcz (Zh (Zaw [false] xs) st.heap) 40 (Zcn [false] xs) []) T 2043 false d st:=zas Zaa.h2043
end
end Go.Ab
end
section
namespace Go.Ab
section
variable{T:Tbl}[Zaa T]
theorem zfx(a:List UInt32)(hl:a.length≤1000000):Zbp T 2043 [.sl (Zb a) .an] [] =
  some (.bs (.loc 22) 1 1 0 (ofN (val a)).length,[(.loc 22,⟨1,.own,1,Zb (ofN (val a))⟩)]):=by
 obtain⟨n,h1,h2,h3,h4⟩:=zg1 a;have hr:=ze3 (T:=T) a (by omega) h1 h3 h4 a.length ⟨h1,Yg _⟩;rw[show l43_0=l2043_0 from rfl]at hr;have hlen:(ofN (val a)).length=n:=by rw[←h2];simp;omega
 have hb:n≤4294967296:=by omega
 rw[za3 Zaa.h2043 rfl,b2043];simp -implicitDefEqProofs[hr,h1,h2,hb,hlen]
def Zqk(N:Nat)(y:Nat×Nat×List UInt32)(P:List UInt32):St:=
 ⟨[(0,.bs (.bor 0) 0 1 0 N),(3,u64 y.2.1),(4,.i .i64 ((y.1:Int)-1))],[(.bor 0,⟨0,.own,1,Zb (P.take y.1++y.2.2)⟩)],4⟩
end
section
variable{T:Tbl}[Zaa T]
def Zq8(b:BId)(x:List UInt32)(s:List UInt8):St:=⟨[(3,.bs b 1 1 0 x.length),(4,.s s)],[(b,⟨1,.own,1,Zb x⟩)],3⟩
end
end Go.Ab
end
section
namespace Go.Ab
def b39:AX:= (XS [XX 1 2 0,rg 2 (.alloc [(.b false),(.sl [] .nl)])] (XS [XF 4 1 1,XO 5 4,XK1 6 43 5,mv 3 6] (XS [XF 7 0 1,XO 8 7,mv 9 8,VM 10 9 true 3,VN 11 9 true 10,VC 12 9 true .gtr 11 0,XW 13 9 12,mv 14 3,rg 15 (.build [(.b false),(.sl [] .nl)] [(0,1,(.t 13)),(1,1,(.t 14))]),XT 2 2 15] (XZ [2]))))
def b24:AX:= (XS [XX 2 2 0,XX 3 2 1,rg 4 (.alloc [(.b false),(.sl [] .nl)])] (.seq (XS [XF 5 0 2,XO 6 5,XF 7 0 3,XO 8 7,rg 9 (.eqb false (.t 6) (.t 8))] (XD 9 (.seq (.drawT [XF 10 0 2,XO 11 10,XF 12 1 2,XO 13 12,XF 14 1 3,XO 15 14,XK2 16 58 13 15] [rg 17 (.build [(.b false),(.sl [] .nl)] [(0,1,(.t 11)),(1,1,(.t 16))]),XK1 18 39 17,XT 2 4 18]) (XZ [4])) .skip)) (.seq (XS [XF 19 1 2,XO 20 19,XF 21 1 3,XO 22 21,XK2 23 52 20 22,XC 24 .lss 23 0] (XD 24 (.seq (.drawT [XF 25 0 3,XO 26 25,XF 27 1 3,XO 28 27,XF 29 1 2,XO 30 29,XK2 31 59 28 30] [rg 32 (.build [(.b false),(.sl [] .nl)] [(0,1,(.t 26)),(1,1,(.t 31))]),XK1 33 39 32,XT 2 4 33]) (XZ [4])) .skip)) (.seq (.drawT [XF 34 0 2,XO 35 34,XF 36 1 2,XO 37 36,XF 38 1 3,XO 39 38,XK2 40 59 37 39] [rg 41 (.build [(.b false),(.sl [] .nl)] [(0,1,(.t 35)),(1,1,(.t 40))]),XK1 42 39 41,XT 2 4 42]) (XZ [4])))))
def row39:AFx:=XrC 1 16 2 2 b39
def row24:AFx:=XrC 2 43 4 2 b24
class Zab (T:Tbl):Prop extends Zaa T where
 h39:T 39=some row39
 h24:T 24=some row24
section
variable{T:Tbl}[Zab T]{d:Option Nat}{st:St}
@[simp] theorem x39:XRx T 39:=xrx Zab.h39
@[simp] theorem x24:XRx T 24:=xrx Zab.h24
end
end Go.Ab
end
section
namespace Go.Ab
def b231:AX:= (XS [XX 1 3 0,XM 2] (XS [XF 6 2 1,XO 7 6,XK1 8 43 7,mv 3 8] (XS [XF 9 1 1,XO 10 9,XK1 11 43 10,mv 4 11] (.seq (XS [mv 12 3,XN 13 12,XC 14 .eql 13 0,mv 15 14,VM 16 15 false 4,VN 17 15 false 16,VC 18 15 false .eql 17 0,XY 19 15 18] (XD 19 (XS [rg 20 (.bsl 1 [(u32 0)] 0 []),rg 21 (.bsl 1 [(u32 0)] 1 [(0,(.c (u32 1)))]),rg 22 (.build [(.b false),(.sl [] .nl),(.sl [] .nl)] [(1,1,(.t 20)),(2,1,(.t 21))]),XT 3 2 22] (XZ [2])) .skip)) (.seq (XS [mv 23 3,XK1 24 229 23,XU 25 24] (XD 25 (XS [mv 26 4,mv 27 3,XK2 28 228 26 27,mv 5 28] (XS [mv 29 4,mv 30 5,XK2 31 230 29 30,mv 4 31] (.reg [mv 32 3,mv 33 5,XK2 34 230 32 33,mv 3 34]))) .skip)) (XS [XF 35 0 1,XO 36 35,mv 37 4,mv 38 3,rg 39 (.build [(.b false),(.sl [] .nl),(.sl [] .nl)] [(0,1,(.t 36)),(1,1,(.t 37)),(2,1,(.t 38))]),XT 3 2 39] (XZ [2])))))))
def b232:AX:= (XS [XM 2] (.seq (XS [mv 3 0,XC 4 .lss 3 0] (XD 4 (XS [mv 5 0,XC 6 .add 5 1,rg 7 (.un .neg (.t 6)),rg 8 (.conv .u64 (.t 7)),XK1 9 353 8,rg 10 (.bsl 1 [(u32 0)] 1 [(0,(.c (u32 1)))]),XK2 11 58 9 10,rg 12 (.bsl 1 [(u32 0)] 1 [(0,(.c (u32 1)))]),rg 13 (.build [(.b false),(.sl [] .nl),(.sl [] .nl)] [(0,1,(.c (.b true))),(1,1,(.t 11)),(2,1,(.t 12))]),XK1 14 231 13,XT 3 2 14] (XZ [2])) .skip)) (XS [mv 15 0,rg 16 (.conv .u64 (.t 15)),XK1 17 353 16,rg 18 (.bsl 1 [(u32 0)] 1 [(0,(.c (u32 1)))]),rg 19 (.build [(.b false),(.sl [] .nl),(.sl [] .nl)] [(1,1,(.t 17)),(2,1,(.t 18))]),XK1 20 231 19,XT 3 2 20] (XZ [2]))))
def b233:AX:= (XS [XX 2 3 0,XX 3 3 1,XJ 4] (XS [XF 5 0 2,XO 6 5,XF 7 0 3,XO 8 7,rg 9 (.eqb false (.t 6) (.t 8)),mv 10 9,VF 11 10 true 1 2,VO 12 10 true 11,VF 13 10 true 1 3,VO 14 10 true 13,gd 15 10 true (.call 54 [(.t 12),(.t 14)]),XW 16 10 15,mv 17 16,VF 18 17 true 2 2,VO 19 17 true 18,VF 20 17 true 2 3,VO 21 17 true 20,gd 22 17 true (.call 54 [(.t 19),(.t 21)]),XW 23 17 22,mv 4 23] (XZ [4])))
def b235:AX:= (XS [XX 1 3 0,XJ 2] (XS [XF 3 1 1,XO 4 3,XN 5 4,XC 6 .eql 5 0,mv 2 6] (XZ [2])))
def b236:AX:= (XS [XX 1 3 0,XL 2 0] (.seq (XS [XF 3 1 1,XO 4 3,XN 5 4,XC 6 .eql 5 0] (XD 6 (XS [XL 2 0] (XZ [2])) .skip)) (.seq (XS [XF 7 0 1,XO 8 7] (XD 8 (XS [XA 2 (.i .i64 (-1))] (XZ [2])) .skip)) (XS [XL 2 1] (XZ [2])))))
def b237:AX:= (XS [XX 1 3 0,XM 2] (XS [XF 3 0 1,XO 4 3,XU 5 4,XF 6 1 1,XO 7 6,XF 8 2 1,XO 9 8,rg 10 (.build [(.b false),(.sl [] .nl),(.sl [] .nl)] [(0,1,(.t 5)),(1,1,(.t 7)),(2,1,(.t 9))]),XK1 11 231 10,XT 3 2 11] (XZ [2])))
def b239:AX:= (XS [XX 2 3 0,XX 3 3 1,XM 4] (.seq (.draw [⟨XF 8 0 2,0,1⟩,⟨XO 9 8,0,1⟩,⟨XF 10 1 2,0,1⟩,⟨XO 11 10,0,1⟩,⟨XF 12 2 3,0,1⟩,⟨XO 13 12,0,1⟩,⟨XK2 14 61 11 13,0,1⟩,⟨rg 15 (.build [(.b false),(.sl [] .nl)] [(0,1,(.t 9)),(1,1,(.t 14))]),0,1⟩,⟨rg 5 (.alloc [(.b false),(.sl [] .nl)]),0,1⟩,⟨XT 2 5 15,1,2⟩]) (.seq (.draw [⟨XF 16 0 3,0,1⟩,⟨XO 17 16,0,1⟩,⟨XF 18 1 3,0,1⟩,⟨XO 19 18,0,1⟩,⟨XF 20 2 2,0,1⟩,⟨XO 21 20,0,1⟩,⟨XK2 22 61 19 21,0,1⟩,⟨rg 23 (.build [(.b false),(.sl [] .nl)] [(0,1,(.t 17)),(1,1,(.t 22))]),0,1⟩,⟨rg 6 (.alloc [(.b false),(.sl [] .nl)]),0,1⟩,⟨XT 2 6 23,1,2⟩]) (XS [XP 24 2 5,XP 25 2 6,XK2 26 24 24 25,rg 7 (.alloc [(.b false),(.sl [] .nl)]),XT 2 7 26] (.seq (.drawT [XF 27 0 7,XO 28 27,XF 29 1 7,XO 30 29,XF 31 2 2,XO 32 31,XF 33 2 3,XO 34 33,XK2 35 61 32 34] [rg 36 (.build [(.b false),(.sl [] .nl),(.sl [] .nl)] [(0,1,(.t 28)),(1,1,(.t 30)),(2,1,(.t 35))]),XK1 37 231 36,XT 3 4 37]) (XZ [4]))))))
def b240:AX:= (XS [XX 2 3 0,XX 3 3 1,XM 4] (.seq (.drawT [XP 5 3 2,XP 6 3 3,XK1 7 237 6] [XK2 8 239 5 7,XT 3 4 8]) (XZ [4])))
def b241:AX:= (XS [XX 2 3 0,XX 3 3 1,XM 4] (.seq (.drawT [XF 5 0 2,XO 6 5,XF 7 0 3,XO 8 7,rg 9 (.eqb true (.t 6) (.t 8)),XF 10 1 2,XO 11 10,XF 12 1 3,XO 13 12,XK2 14 61 11 13,XF 15 2 2,XO 16 15,XF 17 2 3,XO 18 17,XK2 19 61 16 18] [rg 20 (.build [(.b false),(.sl [] .nl),(.sl [] .nl)] [(0,1,(.t 9)),(1,1,(.t 14)),(2,1,(.t 19))]),XK1 21 231 20,XT 3 4 21]) (XZ [4])))
def b242:AX:= (XS [XX 2 3 0,XX 3 3 1,XM 4] (.seq (.drawT [XF 5 0 2,XO 6 5,XF 7 0 3,XO 8 7,rg 9 (.eqb true (.t 6) (.t 8)),XF 10 1 2,XO 11 10,XF 12 2 3,XO 13 12,XK2 14 61 11 13,XF 15 2 2,XO 16 15,XF 17 1 3,XO 18 17,XK2 19 61 16 18] [rg 20 (.build [(.b false),(.sl [] .nl),(.sl [] .nl)] [(0,1,(.t 9)),(1,1,(.t 14)),(2,1,(.t 19))]),XK1 21 231 20,XT 3 4 21]) (XZ [4])))
def b247:AX:= (XS [XX 2 3 0,XJ 4] (XS [XF 5 1 2,XO 6 5,XN 7 6,mv 8 1,XB 9 .gtr 7 8,mv 10 9,VF 11 10 false 2 2,VO 12 10 false 11,VN 13 10 false 12,VM 14 10 false 1,VB 15 10 false .gtr 13 14,XY 16 10 15,mv 4 16] (XZ [4])))
def b353:AX:= (XS [XA 2 (.sl [] .nl)] (XS [mv 3 0,rg 4 (.bin .rem (.t 3) (.c (u64 4294967296))),rg 5 (.conv .u32 (.t 4)),mv 6 0,rg 7 (.bin .quo (.t 6) (.c (u64 4294967296))),rg 8 (.conv .u32 (.t 7)),rg 9 (.bsl 1 [(u32 0)] 2 [(0,(.t 5)),(1,(.t 8))]),XK1 10 43 9,mv 2 10] (XZ [2])))
def row231:AFx:=XrC 1 40 2 3 b231
def row232:AFx:=XrC 1 21 2 3 b232
def row233:AFx:=XrV 2 24 4 b233
def row235:AFx:=XrV 1 7 2 b235
def row236:AFx:=XrV 1 9 2 b236
def row237:AFx:=XrC 1 12 2 3 b237
def row239:AFx:=XrC 2 38 4 3 b239
def row240:AFx:=XrC 2 9 4 3 b240
def row241:AFx:=XrC 2 22 4 3 b241
def row242:AFx:=XrC 2 22 4 3 b242
def row247:AFx:=XrV 2 17 4 b247
def row353:AFx:=XrV 1 11 2 b353
class Zk (T:Tbl):Prop where
 h231:T 231=some row231
 h232:T 232=some row232
 h233:T 233=some row233
 h235:T 235=some row235
 h236:T 236=some row236
 h237:T 237=some row237
 h239:T 239=some row239
 h240:T 240=some row240
 h241:T 241=some row241
 h242:T 242=some row242
 h247:T 247=some row247
 h353:T 353=some row353
section
variable{T:Tbl}[Zk T]{d:Option Nat}{st:St}{xs:List AV}{ps:List Opd}{e:Env}{h:Heap}{ol:List Heap}
@[simp] theorem x231:XRx T 231:=xrx Zk.h231
@[simp] theorem y231:XRy T 231:=xry Zk.h231
@[simp] theorem x232:XRx T 232:=xrx Zk.h232
@[simp] theorem y232:XRy T 232:=xry Zk.h232
@[simp] theorem x233:XRx T 233:=xrx Zk.h233
@[simp] theorem y233:XRy T 233:=xry Zk.h233
@[simp] theorem x235:XRx T 235:=xrx Zk.h235
@[simp] theorem x236:XRx T 236:=xrx Zk.h236
@[simp] theorem x237:XRx T 237:=xrx Zk.h237
@[simp] theorem y237:XRy T 237:=xry Zk.h237
@[simp] theorem x239:XRx T 239:=xrx Zk.h239
@[simp] theorem y239:XRy T 239:=xry Zk.h239
@[simp] theorem x240:XRx T 240:=xrx Zk.h240
@[simp] theorem y240:XRy T 240:=xry Zk.h240
@[simp] theorem x241:XRx T 241:=xrx Zk.h241
@[simp] theorem y241:XRy T 241:=xry Zk.h241
theorem f241(xs:List AV)(hn:xs.length=2):Za T 241 xs=Zj5 [.cell 4 (some 3)] false (evX (orc T) T 0 b241 ⟨Zdd xs,[],1⟩):=zaa Zk.h241 hn
@[simp] theorem x242:XRx T 242:=xrx Zk.h242
@[simp] theorem y242:XRy T 242:=xry Zk.h242
@[simp] theorem x247:XRx T 247:=xrx Zk.h247
@[simp] theorem x353:XRx T 353:=xrx Zk.h353
end
end Go.Ab
end
section
namespace Go.Ab
def l278_0:AX:= (.note (.seq (XS [mv 5 4,mv 6 0,XN 7 6,XB 8 .lss 5 7] (XQ 8 0)) (.seq (.block 1 (.reg [mv 11 3,mv 12 0,mv 13 4,XI 14 3 12 13,XP 15 3 14,XK1 16 231 15,XV 17 16,rg 18 (.app 3 (.t 11) (.t 17)),mv 3 18])) (XH 9 4 10))) (XG [0,3,4]))
def b278:AX:= (XS [XA 2 (.sl [] .nl)] (.seq (.note (.reg [XA 3 (.sl [] .nl)]) (.nil 3 3)) (.seq (XS [XL 4 0] (.lp 0 (XG [0,3,4]) l278_0 (XG [3]))) (XS [mv 19 3,mv 2 19] (XZ [2])))))
def l279_0:AX:= (.note (.seq (XS [mv 11 5,mv 12 0,XN 13 12,XB 14 .lss 11 13] (XQ 14 0)) (.seq (.block 1 (.seq (.drawT [mv 17 0,mv 18 5,XI 19 3 17 18,XP 20 3 19,mv 21 1,mv 22 5,XI 23 3 21 22,XP 24 3 23] [XK2 25 233 20 24,XU 26 25]) (XD 26 (XS [XJ 4] (XZ [4])) .skip))) (XH 15 5 16))) (XG [0,1,5]))
def b279:AX:= (XS [XJ 4] (.seq (XS [mv 6 0,XN 7 6,mv 8 1,XN 9 8,XB 10 .neq 7 9] (XD 10 (XS [XJ 4] (XZ [4])) .skip)) (.seq (XS [XL 5 0] (.lp 0 (XG [0,1,5]) l279_0 (XG []))) (XS [XA 4 (.b true)] (XZ [4])))))
def l286_0:AX:= (.note (.seq (XS [mv 8 7,mv 9 0,XN 10 9,XB 11 .lss 8 10,mv 12 11,VM 13 12 true 7,VM 14 12 true 1,VB 15 12 true .lss 13 14,XW 16 12 15] (XQ 16 0)) (.seq (.block 1 (XS [mv 19 0,mv 20 7,XI 21 3 19 20,XP 22 3 21,mv 23 2,XK2 24 247 22 23] (XD 24 (XS [XA 6 (.b true)] (XZ [6])) .skip))) (XH 17 7 18))) (XG [0,1,2,7]))
def b286:AX:= (XS [XJ 6] (.seq (XS [XL 7 0] (.lp 0 (XG [0,1,2,7]) l286_0 (XG [0,1]))) (XS [mv 25 0,XN 26 25,mv 27 1,XB 28 .gtr 26 27,mv 6 28] (XZ [6]))))
def row278:AFx:=XrV 1 20 2 b278
def row279:AFx:=XrV 2 27 4 b279
def row286:AFx:=XrV 3 29 6 b286
class Zac (T:Tbl):Prop where
 h278:T 278=some row278
 h279:T 279=some row279
 h286:T 286=some row286
section
variable{T:Tbl}[Zac T]{d:Option Nat}{st:St}{xs:List AV}{ps:List Opd}{e:Env}{h:Heap}{ol:List Heap}
@[simp] theorem x278:XRx T 278:=xrx Zac.h278
@[simp] theorem y278:XRy T 278:=xry Zac.h278
@[simp] theorem x279:XRx T 279:=xrx Zac.h279
@[simp] theorem x286:XRx T 286:=xrx Zac.h286
end
end Go.Ab
end
section
namespace Go.Ab
class Zfq (T:Tbl):Prop where
end Go.Ab
end
section
namespace Go.Ab
def l340_0:AX:= (.note (.seq (XS [mv 5 4,mv 6 0,XN 7 6,XB 8 .lss 5 7] (XQ 8 0)) (.seq (.block 1 (.drawT [mv 11 3,mv 12 4,XK1 13 232 12,mv 14 0,mv 15 4,XI 16 3 14 15,XP 17 3 16,XK2 18 241 13 17,XV 19 18] [rg 20 (.app 3 (.t 11) (.t 19)),mv 3 20])) (XH 9 4 10))) (XG [0,3,4]))
def b340:AX:= (XS [XA 2 (.sl [] .nl)] (.seq (.note (.reg [XA 3 (.sl [] .nl)]) (.nil 3 3)) (.seq (XS [XL 4 1] (.lp 0 (XG [0,3,4]) l340_0 (XG [3]))) (XS [mv 21 3,XK1 22 349 21,mv 2 22] (XZ [2])))))
def l341_0:AX:= (.note (.seq (XS [mv 10 7,mv 11 0,XN 12 11,XB 13 .lss 10 12] (XQ 13 0)) (.seq (.block 1 (.seq (.drawT [XP 16 3 5,mv 17 0,mv 18 7,XI 19 3 17 18,XP 20 3 19,XP 21 3 6,XK2 22 241 20 21] [XK2 23 239 16 22,XT 3 5 23]) (.reg [XP 24 3 6,XP 25 3 3,XK2 26 241 24 25,XT 3 6 26]))) (XH 14 7 15))) (XG [0,3,4,5,6,7]))
def b341:AX:= (XS [XX 3 3 1,XM 4] (XS [rg 8 (.call 232 [(.c (.i .i64 0))]),XM 5,XT 3 5 8] (XS [rg 9 (.call 232 [(.c (.i .i64 1))]),XM 6,XT 3 6 9] (.seq (XS [XL 7 0] (.lp 0 (XG [0,3,4,5,6,7]) l341_0 (XG [4,5]))) (XS [XP 27 3 5,XT 3 4 27] (XZ [4]))))))
def l347_0:AX:= (.note (.seq (XS [mv 19 8,mv 20 6,XB 21 .leq 19 20,mv 22 21,VM 23 22 true 8,VM 24 22 true 0,VN 25 22 true 24,VB 26 22 true .lss 23 25,XW 27 22 26] (XQ 27 2)) (.seq (.block 3 (XS [mv 30 6,mv 31 8,XB 32 .sub 30 31,mv 33 1,XN 34 33,XB 35 .lss 32 34] (XD 35 (.drawT [XP 36 3 7,mv 37 0,mv 38 8,XI 39 3 37 38,XP 40 3 39,mv 41 1,mv 42 6,mv 43 8,XB 44 .sub 42 43,XI 45 3 41 44,XP 46 3 45,XK2 47 241 40 46] [XK2 48 239 36 47,XT 3 7 48]) .skip))) (XH 28 8 29))) (XG [0,1,5,6,7,8]))
def l347_1:AX:= (.note (.seq (XS [mv 9 6,mv 10 0,XN 11 10,mv 12 1,XN 13 12,XB 14 .add 11 13,XB 15 .lss 9 14] (XQ 15 0)) (.seq (.block 1 (XS [rg 18 (.call 232 [(.c (.i .i64 0))]),XM 7,XT 3 7 18] (.seq (XS [XL 8 0] (.lp 2 (XG [0,1,5,6,7,8]) l347_0 (XG [0,1,5,6,7]))) (.reg [mv 49 5,XP 50 3 7,XV 51 50,rg 52 (.app 3 (.t 49) (.t 51)),mv 5 52])))) (XH 16 6 17))) (XG [0,1,5,6]))
def b347:AX:= (XS [XA 4 (.sl [] .nl)] (.seq (.note (.reg [XA 5 (.sl [] .nl)]) (.nil 5 3)) (.seq (XS [XL 6 0] (.lp 0 (XG [0,1,5,6]) l347_1 (XG [5]))) (XS [mv 53 5,XK1 54 349 53,mv 4 54] (XZ [4])))))
def l348_0:AX:= (.note (.seq (XS [mv 7 6,mv 8 0,XN 9 8,XB 10 .lss 7 9,mv 11 10,VM 12 11 false 6,VM 13 11 false 1,VN 14 11 false 13,VB 15 11 false .lss 12 14,XY 16 11 15] (XQ 16 0)) (.seq (.block 1 (.reg [mv 19 5,mv 20 0,mv 21 6,XK2 22 355 20 21,mv 23 1,mv 24 6,XK2 25 355 23 24,XK2 26 239 22 25,XV 27 26,rg 28 (.app 3 (.t 19) (.t 27)),mv 5 28])) (XH 17 6 18))) (XG [0,1,5,6]))
def b348:AX:= (XS [XA 4 (.sl [] .nl)] (.seq (.note (.reg [XA 5 (.sl [] .nl)]) (.nil 5 3)) (.seq (XS [XL 6 0] (.lp 0 (XG [0,1,5,6]) l348_0 (XG [5]))) (XS [mv 29 5,XK1 30 349 29,mv 4 30] (XZ [4])))))
def l349_0:AX:= (.note (.seq (XS [mv 6 3,XC 7 .gtr 6 0,mv 8 7,VM 9 8 true 0,VM 10 8 true 3,VC 11 8 true .sub 10 1,VI 12 8 true 3 9 11,VP 13 8 true 3 12,gd 14 8 true (.call 235 [(.t 13)]),XW 15 8 14] (XQ 15 0)) (.block 1 (.reg [mv 16 3,XC 17 .sub 16 1,mv 3 17]))) (XG [0,3]))
def b349:AX:= (XS [XA 2 (.sl [] .nl)] (XS [mv 4 0,XN 5 4,mv 3 5] (.seq (.lp 0 (XG [0,3]) l349_0 (XG [0,3])) (XS [rg 18 (.bsl 3 [(.b false),(.sl [] .nl),(.sl [] .nl)] 0 []),mv 19 0,mv 20 3,rg 21 (.slc 3 (.t 19) none (some (.t 20)) none),rg 22 (.app 3 (.t 18) (.t 21)),mv 2 22] (XZ [2])))))
def b355:AX:= (XS [XM 4] (.seq (XS [mv 5 1,mv 6 0,XN 7 6,XB 8 .lss 5 7] (XD 8 (XS [mv 9 0,mv 10 1,XI 11 3 9 10,XP 12 3 11,XT 3 4 12] (XZ [4])) .skip)) (XS [rg 13 (.call 232 [(.c (.i .i64 0))]),XT 3 4 13] (XZ [4]))))
def row340:AFx:=XrV 1 23 2 b340
def row341:AFx:=XrC 2 28 4 3 b341
def row347:AFx:=XrV 2 55 4 b347
def row348:AFx:=XrV 2 31 4 b348
def row349:AFx:=XrV 1 23 2 b349
def row355:AFx:=XrC 2 14 4 3 b355
class Za9 (T:Tbl):Prop where
 h340:T 340=some row340
 h341:T 341=some row341
 h347:T 347=some row347
 h348:T 348=some row348
 h349:T 349=some row349
 h355:T 355=some row355
section
variable{T:Tbl}[Za9 T]{d:Option Nat}{st:St}{xs:List AV}{ps:List Opd}{e:Env}{h:Heap}{ol:List Heap}
@[simp] theorem x340:XRx T 340:=xrx Za9.h340
@[simp] theorem x341:XRx T 341:=xrx Za9.h341
@[simp] theorem x347:XRx T 347:=xrx Za9.h347
@[simp] theorem x348:XRx T 348:=xrx Za9.h348
@[simp] theorem x349:XRx T 349:=xrx Za9.h349
@[simp] theorem y349:XRy T 349:=xry Za9.h349
@[simp] theorem x355:XRx T 355:=xrx Za9.h355
end
end Go.Ab
end
section
namespace Go.Ab
def l330_0:AX:= (.note (.seq (XS [mv 15 9,XF 16 6 3,XO 17 16,XN 18 17,XB 19 .lss 15 18] (XQ 19 0)) (.seq (.block 1 (XS [XP 22 10 3,mv 23 9,XK2 24 339 22 23,mv 10 24] (.seq (XS [mv 25 2] (XD 25 (.reg [mv 26 10,XK1 27 340 26,mv 10 27]) .skip)) (.reg [mv 28 7,mv 29 10,XP 30 3 8,XK2 31 341 29 30,XV 32 31,rg 33 (.app 3 (.t 28) (.t 32)),mv 7 33])))) (XH 20 9 21))) (XG [2,3,7,8,9]))
def b330:AX:= (XS [XX 3 10 0,XX 4 3 1,XA 6 (.sl [] .nl)] (.seq (.note (.reg [XA 7 (.sl [] .nl)]) (.nil 7 3)) (XS [XP 11 3 4,XF 12 0 3,XP 13 3 12,XK2 14 240 11 13,XM 8,XT 3 8 14] (.seq (XS [XL 9 0] (.lp 0 (XG [2,3,7,8,9]) l330_0 (XG [7]))) (XS [mv 34 7,mv 6 34] (XZ [6]))))))
def b339:AX:= (XS [XX 2 10 0,XA 4 (.sl [] .nl)] (.seq (.draw [⟨XF 11 7 2,0,1⟩,⟨XO 12 11,0,1⟩,⟨mv 13 1,0,1⟩,⟨XI 14 3 12 13,0,1⟩,⟨XP 15 3 14,0,1⟩,⟨XF 16 6 2,0,1⟩,⟨XO 17 16,0,1⟩,⟨mv 18 1,0,1⟩,⟨XI 19 3 17 18,0,1⟩,⟨XP 20 3 19,0,1⟩,⟨XK2 21 240 15 20,0,1⟩,⟨XF 22 3 2,0,1⟩,⟨XP 23 3 22,0,1⟩,⟨XK2 24 242 21 23,0,1⟩,⟨XM 5,0,1⟩,⟨XT 3 5 24,1,2⟩]) (.seq (.draw [⟨XP 25 3 5,0,1⟩,⟨XF 26 8 2,0,1⟩,⟨XO 27 26,0,1⟩,⟨mv 28 1,0,1⟩,⟨XI 29 3 27 28,0,1⟩,⟨XP 30 3 29,0,1⟩,⟨XK2 31 240 25 30,0,1⟩,⟨XF 32 3 2,0,1⟩,⟨XP 33 3 32,0,1⟩,⟨XK2 34 242 31 33,0,1⟩,⟨XM 6,0,1⟩,⟨XT 3 6 34,1,2⟩]) (.seq (.draw [⟨XF 35 9 2,0,1⟩,⟨XO 36 35,0,1⟩,⟨mv 37 1,0,1⟩,⟨XI 38 3 36 37,0,1⟩,⟨XP 39 3 38,0,1⟩,⟨XP 40 3 5,0,1⟩,⟨XK2 41 240 39 40,0,1⟩,⟨XF 42 3 2,0,1⟩,⟨XP 43 3 42,0,1⟩,⟨XK2 44 242 41 43,0,1⟩,⟨XM 7,0,1⟩,⟨XT 3 7 44,1,2⟩]) (.seq (.draw [⟨XP 45 3 7,0,1⟩,⟨XP 46 3 6,0,1⟩,⟨XK2 47 240 45 46,0,1⟩,⟨XF 48 3 2,0,1⟩,⟨XP 49 3 48,0,1⟩,⟨XK2 50 242 47 49,0,1⟩,⟨XM 8,0,1⟩,⟨XT 3 8 50,1,2⟩]) (XS [rg 51 (.call 232 [(.c (.i .i64 0))]),XM 9,XT 3 9 51] (.seq (.drawT [XP 52 3 9,XP 53 3 9,XP 54 3 8,rg 55 (.bsl 3 [(.b false),(.sl [] .nl),(.sl [] .nl)] 3 [(0,(.t 52)),(1,(.t 53)),(2,(.t 54))]),XF 56 3 2,XP 57 3 56,XK1 58 237 57,rg 59 (.call 232 [(.c (.i .i64 1))]),rg 60 (.bsl 3 [(.b false),(.sl [] .nl),(.sl [] .nl)] 2 [(0,(.t 58)),(1,(.t 59))])] [XK2 61 347 55 60,mv 10 61]) (.seq (.drawT [XF 62 6 2,XO 63 62,mv 64 1,XI 65 3 63 64,XP 66 3 65,XF 67 8 2,XO 68 67,mv 69 1,XI 70 3 68 69,XP 71 3 70,XP 72 3 6,rg 73 (.bsl 3 [(.b false),(.sl [] .nl),(.sl [] .nl)] 3 [(0,(.t 66)),(1,(.t 71)),(2,(.t 72))]),XK1 74 349 73,mv 75 10] [XK2 76 348 74 75,mv 4 76]) (XZ [4])))))))))
def row330:AFx:=XrV 3 35 6 b330
def row339:AFx:=XrV 2 77 4 b339
class Zds (T:Tbl):Prop where
 h330:T 330=some row330
 h339:T 339=some row339
section
variable{T:Tbl}[Zds T]{d:Option Nat}{st:St}{xs:List AV}{ps:List Opd}{e:Env}{h:Heap}{ol:List Heap}
@[simp] theorem x330:XRx T 330:=xrx Zds.h330
@[simp] theorem x339:XRx T 339:=xrx Zds.h339
end
end Go.Ab
end
section
namespace Go.Ab
def b248:AX:= (XS [XX 1 3 0,XM 2] (XS [XF 3 0 1,XO 4 3,XF 5 1 1,XO 6 5,rg 7 (.build [(.b false),(.sl [] .nl)] [(0,1,(.t 4)),(1,1,(.t 6))]),XF 8 2 1,XO 9 8,rg 10 (.build [(.b false),(.sl [] .nl),(.sl [] .nl)] [(0,2,(.t 7)),(2,1,(.t 9))]),XT 3 2 10] (XZ [2])))
def b249:AX:= (XS [XX 1 3 0,XM 2] (XS [XF 3 0 1,XF 4 0 3,XO 5 4,XF 6 0 1,XF 7 1 6,XO 8 7,XF 9 2 1,XO 10 9,rg 11 (.build [(.b false),(.sl [] .nl),(.sl [] .nl)] [(0,1,(.t 5)),(1,1,(.t 8)),(2,1,(.t 10))]),XT 3 2 11] (XZ [2])))
def row248:AFx:=XrC 1 11 2 3 b248
def row249:AFx:=XrC 1 12 2 3 b249
class Zb1 (T:Tbl):Prop where
 h248:T 248=some row248
 h249:T 249=some row249
section
variable{T:Tbl}[Zb1 T]{d:Option Nat}{st:St}{xs:List AV}{ps:List Opd}{e:Env}{h:Heap}{ol:List Heap}
@[simp] theorem x248:XRx T 248:=xrx Zb1.h248
@[simp] theorem y248:XRy T 248:=xry Zb1.h248
@[simp] theorem x249:XRx T 249:=xrx Zb1.h249
@[simp] theorem y249:XRy T 249:=xry Zb1.h249
end
end Go.Ab
end
section
namespace Go.Ab
def l287_0:AX:= (.note (.seq (XS [mv 5 4,mv 6 0,XN 7 6,XB 8 .lss 5 7] (XQ 8 0)) (.seq (.block 1 (.reg [mv 11 3,mv 12 0,mv 13 4,XI 14 3 12 13,XP 15 3 14,XK1 16 248 15,XV 17 16,rg 18 (.app 3 (.t 11) (.t 17)),mv 3 18])) (XH 9 4 10))) (XG [0,3,4]))
def b287:AX:= (XS [XA 2 (.sl [] .nl)] (.seq (.note (.reg [XA 3 (.sl [] .nl)]) (.nil 3 3)) (.seq (XS [XL 4 0] (.lp 0 (XG [0,3,4]) l287_0 (XG [3]))) (XS [mv 19 3,mv 2 19] (XZ [2])))))
def l288_0:AX:= (.note (.seq (XS [mv 5 4,mv 6 0,XN 7 6,XB 8 .lss 5 7] (XQ 8 0)) (.seq (.block 1 (.reg [mv 11 3,mv 12 0,mv 13 4,XI 14 3 12 13,XP 15 3 14,XK1 16 249 15,XV 17 16,rg 18 (.app 3 (.t 11) (.t 17)),mv 3 18])) (XH 9 4 10))) (XG [0,3,4]))
def b288:AX:= (XS [XA 2 (.sl [] .nl)] (.seq (.note (.reg [XA 3 (.sl [] .nl)]) (.nil 3 3)) (.seq (XS [XL 4 0] (.lp 0 (XG [0,3,4]) l288_0 (XG [3]))) (XS [mv 19 3,mv 2 19] (XZ [2])))))
def b289:AX:= (XS [XJ 4] (XS [mv 5 0,XK1 6 288 5,mv 7 1,XK2 8 279 6 7,mv 4 8] (XZ [4])))
def row287:AFx:=XrV 1 20 2 b287
def row288:AFx:=XrV 1 20 2 b288
def row289:AFx:=XrV 2 9 4 b289
class Zbq (T:Tbl):Prop where
 h287:T 287=some row287
 h288:T 288=some row288
 h289:T 289=some row289
section
variable{T:Tbl}[Zbq T]{d:Option Nat}{st:St}{xs:List AV}{ps:List Opd}{e:Env}{h:Heap}{ol:List Heap}
@[simp] theorem x287:XRx T 287:=xrx Zbq.h287
@[simp] theorem y287:XRy T 287:=xry Zbq.h287
@[simp] theorem x288:XRx T 288:=xrx Zbq.h288
@[simp] theorem y288:XRy T 288:=xry Zbq.h288
@[simp] theorem x289:XRx T 289:=xrx Zbq.h289
end
end Go.Ab
end
section
namespace Go.Ab
def l308_0:AX:= (.note (.seq (XS [mv 5 4,mv 6 0,XN 7 6,XB 8 .lss 5 7] (XQ 8 0)) (.seq (.block 1 (.reg [mv 11 3,mv 12 0,mv 13 4,XI 14 1 12 13,XO 15 14,XK1 16 287 15,rg 17 (.bsl 1 [(.sl [] .nl)] 1 [(0,(.t 16))]),rg 18 (.app 1 (.t 11) (.t 17)),mv 3 18])) (XH 9 4 10))) (XG [0,3,4]))
def b308:AX:= (XS [XA 2 (.sl [] .nl)] (.seq (.note (.reg [XA 3 (.sl [] .nl)]) (.nil 3 1)) (.seq (XS [XL 4 0] (.lp 0 (XG [0,3,4]) l308_0 (XG [3]))) (XS [mv 19 3,mv 2 19] (XZ [2])))))
def row308:AFx:=XrV 1 20 2 b308
class Zei (T:Tbl):Prop where
 h308:T 308=some row308
section
variable{T:Tbl}[Zei T]{d:Option Nat}{st:St}{xs:List AV}{ps:List Opd}{e:Env}{h:Heap}{ol:List Heap}
@[simp] theorem y308:XRy T 308:=xry Zei.h308
end
end Go.Ab
end
section
namespace Go.Ab
def b421:AX:= (XS [XX 1 4 0,XJ 2] (XS [XP 3 4 1,XK1 4 430 3,rg 5 (.bin .eql (.t 4) (.c (.i .i64 (-1)))),mv 2 5] (XZ [2])))
def l430_0:AX:= (.note (XS [XB 13 .lss 12 11] (.seq (XQ 13 0) (.seq (.block 1 (XS [mv 14 12,mv 3 14] (XS [XP 15 4 1,mv 16 3,XK2 17 434 15 16,XU 18 17] (XD 18 (XS [mv 19 3,mv 2 19] (XZ [2])) .skip)))) (.reg [XC 20 .add 12 1,mv 12 20])))) (XG [1,11,12]))
def l430_1:AX:= (.note (XS [XB 25 .lss 24 23] (.seq (XQ 25 2) (.seq (.block 3 (XS [XI 26 1 22 24,XO 27 26,mv 5 27] (XS [mv 28 5,XF 29 0 1,XO 30 29,XN 31 30,XK2 32 435 28 31,XU 33 32] (XD 33 (XS [XF 34 0 1,XO 35 34,XN 36 35,mv 2 36] (XZ [2])) .skip)))) (.reg [XC 37 .add 24 1,mv 24 37])))) (XG [1,22,23,24]))
def b430:AX:= (XS [XX 1 4 0,XL 2 0] (.seq (XS [XP 6 4 1,XK1 7 433 6,XU 8 7] (XD 8 (XS [XA 2 (.i .i64 (-2))] (XZ [2])) .skip)) (.seq (XS [XF 9 0 1,XO 10 9,XN 11 10,XL 12 0] (.lp 0 (XG [1,11,12]) l430_0 (XG [1]))) (.seq (XS [XF 21 1 1,XO 22 21,XN 23 22,XL 24 0] (.lp 2 (XG [1,22,23,24]) l430_1 (XG []))) (XS [XA 2 (.i .i64 (-1))] (XZ [2]))))))
def b433:AX:= (XS [XX 1 4 0,XJ 2] (XS [XF 3 2 1,XO 4 3,XC 5 .sub 4 1,rg 6 (.call 435 [(.t 5),(.c (.i .i64 6))]),mv 7 6,VF 8 7 true 3 1,VO 9 7 true 8,gd 10 7 true (.call 435 [(.t 9),(.c (.i .i64 7))]),XW 11 7 10,mv 12 11,VF 13 12 true 1 1,VO 14 12 true 13,VN 15 12 true 14,VF 16 12 true 2 1,VO 17 12 true 16,VB 18 12 true .eql 15 17,XW 19 12 18,mv 20 19,VF 21 20 true 0 1,VO 22 20 true 21,VN 23 20 true 22,VC 24 20 true .leq 23 300,XW 25 20 24,mv 2 25] (XZ [2])))
def l434_0:AX:= (.note (XS [XB 33 .lss 32 31] (.seq (XQ 33 0) (.seq (.block 1 (XS [XI 34 1 30 32,XO 35 34,mv 7 35] (XS [mv 36 7,mv 37 1,XK2 38 435 36 37,XU 39 38] (XD 39 (XS [XJ 4] (XZ [4])) .skip)))) (.reg [XC 40 .add 32 1,mv 32 40])))) (XG [1,2,5,30,31,32]))
def b434:AX:= (XS [XX 2 4 0,XJ 4] (XS [XF 8 0 2,XO 9 8,mv 10 1,XI 11 6 9 10,XP 12 6 11,rg 5 (.alloc [(.i .i64 0),(.i .i64 0),(.i .i64 0),(.b false),(.sl [] .nl),(.sl [] .nl)]),XT 6 5 12] (.seq (XS [XF 13 0 5,XO 14 13,XC 15 .eql 14 1] (XD 15 (XS [XP 16 6 5,XK1 17 437 16,rg 18 (.build [(.i .i64 0),(.i .i64 0),(.i .i64 0)] [(0,1,(.c (.i .i64 1)))]),rg 19 (.eqs false [(0,.int),(1,.int),(2,.int)] (.t 17) (.t 18)),mv 20 19,VF 21 20 true 3 5,VP 22 20 true 3 21,gd 23 20 true (.call 208 [(.t 22)]),XW 24 20 23,mv 4 24] (XZ [4])) .skip)) (.seq (XS [XF 25 3 5,XP 26 3 25,XK1 27 438 26,XU 28 27] (XD 28 (XS [XJ 4] (XZ [4])) .skip)) (.seq (XS [XP 29 6 5,XK1 30 439 29,XN 31 30,XL 32 0] (.lp 0 (XG [1,2,5,30,31,32]) l434_0 (XG [2,5]))) (.seq (XS [XF 41 0 5,XO 42 41] (.block 2 (XS [XC 44 .eql 42 2,mv 43 44] (XD 43 (XS [XP 45 6 5,XK1 46 437 45,rg 47 (.build [(.i .i64 0),(.i .i64 0),(.i .i64 0)] [(0,1,(.c (.i .i64 2)))]),rg 48 (.eqs false [(0,.int),(1,.int),(2,.int)] (.t 46) (.t 47)),mv 4 48] (XZ [4])) (XS [XC 50 .eql 42 3,mv 49 50] (XD 49 (XS [XF 51 1 5,XO 52 51,XF 53 2 2,XO 54 53,XK2 55 435 52 54,mv 56 55,VF 57 56 true 2 5,VO 58 56 true 57,VC 59 56 true .eql 58 0,XW 60 56 59,mv 4 60] (XZ [4])) (XS [XC 62 .eql 42 4,mv 61 62] (XD 61 (XS [XF 63 1 5,XO 64 63,XF 65 3 2,XO 66 65,XK2 67 435 64 66,mv 68 67,VF 69 68 true 2 5,VO 70 68 true 69,VC 71 68 true .eql 70 0,XW 72 68 71,mv 4 72] (XZ [4])) (XS [XC 74 .eql 42 6,mv 73 74] (XD 73 (XS [XF 75 2 5,XO 76 75,XC 77 .eql 76 0,mv 4 77] (XZ [4])) (XS [XC 79 .eql 42 11,mv 78 79] (XD 78 (XS [XF 80 2 5,XO 81 80,rg 82 (.bin .geq (.t 81) (.c (.i .i64 (-8)))),mv 83 82,VF 84 83 true 2 5,VO 85 83 true 84,VC 86 83 true .leq 85 8,XW 87 83 86,mv 4 87] (XZ [4])) .skip)))))))))))) (XS [XP 88 6 5,XK1 89 439 88,XN 90 89,XC 91 .eql 90 2,mv 4 91] (XZ [4]))))))))
def b435:AX:= (XS [XJ 4] (XS [mv 5 0,XC 6 .geq 5 0,mv 7 6,VM 8 7 true 0,VM 9 7 true 1,VB 10 7 true .lss 8 9,XW 11 7 10,mv 4 11] (XZ [4])))
def b437:AX:= (XS [XX 1 6 0,rg 2 (.alloc [(.i .i64 0),(.i .i64 0),(.i .i64 0)])] (XS [XF 3 0 1,XO 4 3,XF 5 1 1,XO 6 5,XF 7 2 1,XO 8 7,rg 9 (.build [(.i .i64 0),(.i .i64 0),(.i .i64 0)] [(0,1,(.t 4)),(1,1,(.t 6)),(2,1,(.t 8))]),XT 3 2 9] (XZ [2])))
def b438:AX:= (XS [XX 1 3 0,XJ 2] (XS [XF 3 0 1,XF 4 0 3,XO 5 4,XU 6 5,mv 7 6,VF 8 7 true 0 1,VF 9 7 true 1 8,VO 10 7 true 9,VN 11 7 true 10,VC 12 7 true .eql 11 0,XW 13 7 12,mv 14 13,VF 15 14 true 2 1,VO 16 14 true 15,VN 17 14 true 16,VC 18 14 true .eql 17 0,XW 19 14 18,mv 2 19] (XZ [2])))
def b439:AX:= (XS [XX 1 6 0,XA 2 (.sl [] .nl)] (.seq (XS [XF 3 0 1,XO 4 3] (.block 0 (.seq (XS [XC 6 .eql 4 6,mv 5 6] (XD 5 .skip (.reg [XC 7 .eql 4 11,mv 5 7]))) (XD 5 (XS [XF 8 1 1,XO 9 8,rg 10 (.bsl 1 [(.i .i64 0)] 1 [(0,(.t 9))]),mv 2 10] (XZ [2])) (.seq (XS [XC 12 .eql 4 7,mv 11 12] (XD 11 .skip (XS [XC 13 .eql 4 8,mv 11 13] (XD 11 .skip (XS [XC 14 .eql 4 9,mv 11 14] (XD 11 .skip (.reg [XC 15 .eql 4 10,mv 11 15]))))))) (XD 11 (XS [XF 16 1 1,XO 17 16,XF 18 2 1,XO 19 18,rg 20 (.bsl 1 [(.i .i64 0)] 2 [(0,(.t 17)),(1,(.t 19))]),mv 2 20] (XZ [2])) .skip)))))) (XS [XA 2 (.sl [] .nl)] (XZ [2]))))
def row421:AFx:=XrV 1 6 2 b421
def row430:AFx:=XrV 1 38 2 b430
def row433:AFx:=XrV 1 26 2 b433
def row434:AFx:=XrV 2 92 4 b434
def row435:AFx:=XrV 2 12 4 b435
def row437:AFx:=XrC 1 10 2 3 b437
def row438:AFx:=XrV 1 20 2 b438
def row439:AFx:=XrV 1 21 2 b439
class Zal (T:Tbl):Prop where
 h421:T 421=some row421
 h430:T 430=some row430
 h433:T 433=some row433
 h434:T 434=some row434
 h435:T 435=some row435
 h437:T 437=some row437
 h438:T 438=some row438
 h439:T 439=some row439
section
variable{T:Tbl}[Zal T]{d:Option Nat}{st:St}{xs:List AV}{ps:List Opd}{e:Env}{h:Heap}{ol:List Heap}
@[simp] theorem x421:XRx T 421:=xrx Zal.h421
@[simp] theorem x430:XRx T 430:=xrx Zal.h430
@[simp] theorem x433:XRx T 433:=xrx Zal.h433
@[simp] theorem x434:XRx T 434:=xrx Zal.h434
@[simp] theorem x435:XRx T 435:=xrx Zal.h435
@[simp] theorem x437:XRx T 437:=xrx Zal.h437
@[simp] theorem x438:XRx T 438:=xrx Zal.h438
@[simp] theorem x439:XRx T 439:=xrx Zal.h439
end
end Go.Ab
end
section
namespace Go.Ab
def b406:AX:= (XS [XA 2 (.raw (.pointer none))] (XS [mv 3 0,rg 4 (.mm true [(.t 3),(.c (.i .i64 0))]),rg 5 (.mm false [(.t 4),(.c (.i .i64 4096))]),rg 6 (.build [(.i .i64 0),(.i .i64 0),(.i .i64 0)] [(2,1,(.t 5))]),XX 7 3 6,mv 2 7] (XZ [2])))
def b411:AX:= (XS [XX 3 3 1,XJ 4] (XS [XP 6 3 3,XK1 7 223 6,mv 5 7] (XS [mv 8 0,rg 9 (.nilc (.t 8)),XF 10 0 9,mv 11 5,XK2 12 426 10 11] (XS [mv 13 5,mv 14 0,rg 15 (.nilc (.t 14)),XF 16 2 15,XO 17 16,XB 18 .leq 13 17,mv 4 18] (XZ [4])))))
def b426:AX:= (XS [mv 4 0,rg 5 (.nilc (.t 4)),XF 6 0 5,XO 7 6,XC 8 .add 7 1,rg 9 (.nilc (.t 4)),XF 10 0 9,XT 1 10 8] (.reg [mv 11 0,mv 12 0,rg 13 (.nilc (.t 12)),XF 14 1 13,XO 15 14,mv 16 1,rg 17 (.mm true [(.t 15),(.t 16)]),rg 18 (.nilc (.t 11)),XF 19 1 18,XT 1 19 17]))
def row406:AFx:=⟨1,8,[.t 2],b406,(some [false]),false⟩
def row411:AFx:=⟨2,19,[.t 4],b411,(some [true,false]),false⟩
def row426:AFx:=⟨2,20,[],b426,(some [true,false]),false⟩
class Zar (T:Tbl):Prop where
 h406:T 406=some row406
 h411:T 411=some row411
 h426:T 426=some row426
section
variable{T:Tbl}[Zar T]{d:Option Nat}{st:St}{xs:List AV}{ps:List Opd}{e:Env}{h:Heap}{ol:List Heap}
@[simp] theorem x406:Zd (orc T) T 406 xs d st=cL T 406 false [false] xs d st:=zas Zar.h406
@[simp] theorem x411:Zd (orc T) T 411 xs d st=cL T 411 false [true,false] xs d st:=zas Zar.h411
@[simp] theorem x426:Zd (orc T) T 426 xs d st=cL T 426 false [true,false] xs d st:=zas Zar.h426
end
end Go.Ab
end
section
namespace Go.Ab
def b405:AX:= (XS [XX 1 5 0,rg 2 (.alloc [(.b false),(.sl [] .nl),(.sl [] .nl),(.sl [] .nl),(.sl [] .nl)])] (.seq (.drawT [XF 3 0 1,XP 4 3 3,XK1 5 207 4,XF 6 3 1,XO 7 6,XK1 8 420 7,XF 9 4 1,XO 10 9] [XK1 11 420 10,rg 12 (.build [(.b false),(.sl [] .nl),(.sl [] .nl),(.sl [] .nl),(.sl [] .nl)] [(0,3,(.t 5)),(3,1,(.t 8)),(4,1,(.t 11))]),XT 5 2 12]) (XZ [2])))
def l420_0:AX:= (.note (XS [XB 9 .lss 8 7] (.seq (XQ 9 0) (.seq (.block 1 (XS [XI 10 3 6 8,XP 11 3 10,XM 5,XT 3 5 11] (.reg [mv 12 3,XP 13 3 5,XK1 14 207 13,XV 15 14,rg 16 (.app 3 (.t 12) (.t 15)),mv 3 16]))) (.reg [XC 17 .add 8 1,mv 8 17])))) (XG [3,6,7,8]))
def b420:AX:= (XS [XA 2 (.sl [] .nl)] (.seq (.note (.reg [XA 3 (.sl [] .nl)]) (.nil 3 3)) (.seq (XS [mv 6 0,XN 7 6,XL 8 0] (.lp 0 (XG [3,6,7,8]) l420_0 (XG [3]))) (XS [mv 18 3,mv 2 18] (XZ [2])))))
def row405:AFx:=XrC 1 13 2 5 b405
def row420:AFx:=XrV 1 19 2 b420
class Zbs (T:Tbl):Prop where
 h405:T 405=some row405
 h420:T 420=some row420
section
variable{T:Tbl}[Zbs T]{d:Option Nat}{st:St}{xs:List AV}{ps:List Opd}{e:Env}{h:Heap}{ol:List Heap}
@[simp] theorem x405:XRx T 405:=xrx Zbs.h405
@[simp] theorem x420:XRx T 420:=xrx Zbs.h420
@[simp] theorem y420:XRy T 420:=xry Zbs.h420
end
end Go.Ab
end
section
namespace Go.Ab
def b384:AX:= (XS [XX 3 4 0,XX 4 5 1,XA 6 (.sl [] .nl),rg 7 (.alloc [(.i .i64 0),(.i .i64 0),(.i .i64 0),(.i .i64 0)])] (XS [XP 9 5 4,XK1 10 405 9,XT 5 4 10] (XS [mv 11 2,XK1 12 406 11,rg 13 (.build [(.raw (.pointer none))] [(0,1,(.t 12))]),rg 14 (.build [(.raw (.pointer none))] [(0,1,(.t 13))]),rg 8 (.alloc [(.raw (.pointer none))]),XT 1 8 14] (XS [XP 15 1 8,XP 16 4 3,XF 17 0 4,XP 18 3 17,XF 19 3 4,XO 20 19,XF 21 4 4,XO 22 21,rg 23 (.build [(.b false),(.sl [] .nl),(.sl [] .nl),(.sl [] .nl),(.sl [] .nl)] [(0,3,(.t 18)),(3,1,(.t 20)),(4,1,(.t 22))]),XK3 24 407 15 16 23,XE 25 24 0,XE 26 24 1,mv 6 25,XT 4 7 26] (XZ [6,7])))))
def b389:AX:= (XS [XX 3 4 0,XX 4 5 1,XA 6 (.sl [] .nl),rg 7 (.alloc [(.i .i64 0),(.i .i64 0),(.i .i64 0),(.i .i64 0)])] (XS [XP 11 4 3,XP 12 5 4,mv 13 2,XK3 14 384 11 12 13,mv 10 14,XE 15 10 0,XE 16 10 1,rg 9 (.alloc [(.i .i64 0),(.i .i64 0),(.i .i64 0),(.i .i64 0)]),mv 8 15,XT 4 9 16] (.seq (XS [XP 17 4 9,rg 18 (.build [(.i .i64 0),(.i .i64 0),(.i .i64 0),(.i .i64 0)] []),rg 19 (.eqs true [(0,.int),(1,.int),(2,.int),(3,.int)] (.t 17) (.t 18))] (XD 19 (.seq (.drawT [XP 20 4 9,XA 6 (.sl [] .nl)] [XT 4 7 20]) (XZ [6,7])) .skip)) (.seq (.drawT [XP 21 4 3,mv 22 8,XK2 23 409 21 22,XP 24 4 9,mv 6 23] [XT 4 7 24]) (XZ [6,7])))))
def l407_0:AX:= (.note (XS [XB 37 .lss 36 35] (.seq (XQ 37 0) (.seq (.block 1 (XS [mv 38 36,XI 39 6 34 36,XP 40 6 39,rg 10 (.alloc [(.i .i64 0),(.i .i64 0),(.i .i64 0),(.b false),(.sl [] .nl),(.sl [] .nl)]),mv 9 38,XT 6 10 40] (XS [XP 42 1 3,XP 43 6 10,XP 44 5 5,mv 45 8,XK4 46 422 42 43 44 45,mv 41 46,XE 47 41 0,XE 48 41 1,XM 11,XT 3 11 47,mv 12 48] (.seq (.block 2 (XS [mv 50 12,XU 51 50,mv 49 51] (XD 49 (XS [mv 52 9,rg 53 (.build [(.i .i64 0),(.i .i64 0),(.i .i64 0),(.i .i64 0)] [(0,1,(.c (.i .i64 3))),(3,1,(.t 52))]),XA 6 (.sl [] .nl),XT 4 7 53] (XZ [6,7])) (XS [XF 55 0 3,XP 56 1 55,rg 57 (.ifc 1 (.t 56)),XP 58 3 11,rg 59 (.inv "Fits" 1 442 (.t 57) [(.t 58)]),XU 60 59,mv 54 60] (XD 54 (XS [mv 61 9,rg 62 (.build [(.i .i64 0),(.i .i64 0),(.i .i64 0),(.i .i64 0)] [(0,1,(.c (.i .i64 6))),(3,1,(.t 61))]),XA 6 (.sl [] .nl),XT 4 7 62] (XZ [6,7])) .skip))))) (.reg [mv 63 8,XP 64 3 11,XV 65 64,rg 66 (.app 3 (.t 63) (.t 65)),mv 8 66]))))) (.reg [XC 67 .add 36 1,mv 36 67])))) (XG [3,5,7,8,34,35,36]))
def b407:AX:= (XS [XX 3 1 0,XX 4 4 1,XX 5 5 2,XA 6 (.sl [] .nl),rg 7 (.alloc [(.i .i64 0),(.i .i64 0),(.i .i64 0),(.i .i64 0)])] (.seq (XS [XP 13 4 4,XK1 14 421 13,XU 15 14,mv 16 15,VF 17 16 false 3 5,VO 18 16 false 17,VN 19 16 false 18,VF 20 16 false 2 4,VO 21 16 false 20,VB 22 16 false .neq 19 21,XY 23 16 22,mv 24 23,VF 25 24 false 4 5,VO 26 24 false 25,VN 27 24 false 26,VF 28 24 false 3 4,VO 29 24 false 28,VB 30 24 false .neq 27 29,XY 31 24 30] (XD 31 (XS [rg 32 (.build [(.i .i64 0),(.i .i64 0),(.i .i64 0),(.i .i64 0)] [(0,1,(.c (.i .i64 2)))]),XA 6 (.sl [] .nl),XT 4 7 32] (XZ [6,7])) .skip)) (.seq (.note (.reg [XA 8 (.sl [] .nl)]) (.nil 8 3)) (.seq (XS [XF 33 0 4,XO 34 33,XN 35 34,XL 36 0] (.lp 0 (XG [3,5,7,8,34,35,36]) l407_0 (XG [7,8]))) (XS [mv 68 8,rg 69 (.build [(.i .i64 0),(.i .i64 0),(.i .i64 0),(.i .i64 0)] []),mv 6 68,XT 4 7 69] (XZ [6,7]))))))
def l409_0:AX:= (.note (XS [XB 23 .lss 22 21] (.seq (XQ 23 0) (.seq (.block 1 (XS [XI 24 1 20 22,XO 25 24,mv 7 25] (.reg [mv 26 5,mv 27 1,mv 28 7,XI 29 3 27 28,XP 30 3 29,XK1 31 207 30,XV 32 31,rg 33 (.app 3 (.t 26) (.t 32)),mv 5 33]))) (.reg [XC 34 .add 22 1,mv 22 34])))) (XG [1,5,20,21,22]))
def b409:AX:= (XS [XX 2 4 0,XA 4 (.sl [] .nl)] (.seq (XS [XP 8 4 2,XK1 9 421 8,XU 10 9,mv 11 10,VM 12 11 false 1,VN 13 11 false 12,VF 14 11 false 0 2,VO 15 11 false 14,VN 16 11 false 15,VB 17 11 false .neq 13 16,XY 18 11 17] (XD 18 (XS [XA 4 (.sl [] .nl)] (XZ [4])) .skip)) (.seq (.note (.reg [XA 5 (.sl [] .nl)]) (.nil 5 3)) (.seq (XS [XF 19 1 2,XO 20 19,XN 21 20,XL 22 0] (.lp 0 (XG [1,5,20,21,22]) l409_0 (XG [5]))) (XS [mv 35 5,mv 4 35] (XZ [4]))))))
def b422:AX:= (XS [XX 4 1 0,XX 5 6 1,XX 6 5 2,XM 8,XJ 9] (.seq (XS [XF 10 0 5,XO 11 10] (.block 0 (XS [XC 13 .eql 11 6,mv 12 13] (XD 12 (.seq (.drawT [XF 14 0 4,XP 15 1 14,rg 16 (.ifc 1 (.t 15)),mv 17 3,XF 18 1 5,XO 19 18,XI 20 3 17 19,XP 21 3 20] [rg 22 (.inv "Neg" 1 444 (.t 16) [(.t 21)]),XT 3 8 22,XA 9 (.b true)]) (XZ [8,9])) (XS [XC 24 .eql 11 11,mv 23 24] (XD 23 (.seq (.drawT [XF 25 0 4,XP 26 1 25,rg 27 (.ifc 1 (.t 26)),mv 28 3,XF 29 1 5,XO 30 29,XI 31 3 28 30,XP 32 3 31,XF 33 2 5,XO 34 33,rg 35 (.inv "Pow" 1 446 (.t 27) [(.t 32),(.t 34)]),XE 36 35 0,XE 37 35 1] [XT 3 8 36,mv 9 37]) (XZ [8,9])) (XS [XC 39 .eql 11 7,mv 38 39] (XD 38 (.seq (.drawT [XF 40 0 4,XP 41 1 40,rg 42 (.ifc 1 (.t 41)),mv 43 3,XF 44 1 5,XO 45 44,XI 46 3 43 45,XP 47 3 46,mv 48 3,XF 49 2 5,XO 50 49,XI 51 3 48 50,XP 52 3 51] [rg 53 (.inv "Add" 1 441 (.t 42) [(.t 47),(.t 52)]),XT 3 8 53,XA 9 (.b true)]) (XZ [8,9])) (XS [XC 55 .eql 11 8,mv 54 55] (XD 54 (.seq (.drawT [XF 56 0 4,XP 57 1 56,rg 58 (.ifc 1 (.t 57)),mv 59 3,XF 60 1 5,XO 61 60,XI 62 3 59 61,XP 63 3 62,mv 64 3,XF 65 2 5,XO 66 65,XI 67 3 64 66,XP 68 3 67] [rg 69 (.inv "Sub" 1 448 (.t 58) [(.t 63),(.t 68)]),XT 3 8 69,XA 9 (.b true)]) (XZ [8,9])) (XS [XC 71 .eql 11 9,mv 70 71] (XD 70 (.seq (.drawT [XF 72 0 4,XP 73 1 72,rg 74 (.ifc 1 (.t 73)),mv 75 3,XF 76 1 5,XO 77 76,XI 78 3 75 77,XP 79 3 78,mv 80 3,XF 81 2 5,XO 82 81,XI 83 3 80 82,XP 84 3 83] [rg 85 (.inv "Mul" 1 443 (.t 74) [(.t 79),(.t 84)]),XT 3 8 85,XA 9 (.b true)]) (XZ [8,9])) (XS [XC 87 .eql 11 10,mv 86 87] (XD 86 (.seq (.drawT [XF 88 0 4,XP 89 1 88,rg 90 (.ifc 1 (.t 89)),mv 91 3,XF 92 1 5,XO 93 92,XI 94 3 91 93,XP 95 3 94,mv 96 3,XF 97 2 5,XO 98 97,XI 99 3 96 98,XP 100 3 99,rg 101 (.inv "Quo" 1 447 (.t 90) [(.t 95),(.t 100)]),XE 102 101 0,XE 103 101 1] [XT 3 8 102,mv 9 103]) (XZ [8,9])) .skip)))))))))))))) (XS [XP 104 1 4,XP 105 6 5,XP 106 5 6,XK3 107 431 104 105 106,XT 3 8 107,XA 9 (.b true)] (XZ [8,9]))))
def b431:AX:= (XS [XX 3 1 0,XX 4 6 1,XX 5 5 2,XM 6] (.seq (XS [XF 7 0 4,XO 8 7] (.block 0 (XS [XC 10 .eql 8 1,mv 9 10] (XD 9 (XS [XF 11 0 3,XP 12 1 11,rg 13 (.ifc 1 (.t 12)),XF 14 3 4,XP 15 3 14,rg 16 (.inv "Of" 1 445 (.t 13) [(.t 15)]),XT 3 6 16] (XZ [6])) (XS [XC 18 .eql 8 3,mv 17 18] (XD 17 (XS [XF 19 3 5,XO 20 19,XF 21 1 4,XO 22 21,XI 23 3 20 22,XP 24 3 23,XT 3 6 24] (XZ [6])) (XS [XC 26 .eql 8 4,mv 25 26] (XD 25 (XS [XF 27 4 5,XO 28 27,XF 29 1 4,XO 30 29,XI 31 3 28 30,XP 32 3 31,XT 3 6 32] (XZ [6])) .skip)))))))) (XS [XF 33 0 5,XP 34 3 33,XT 3 6 34] (XZ [6]))))
def b441:AX:= (XS [XX 3 1 0,XX 4 3 1,XX 5 3 2,XM 6] (XS [XP 7 3 4,XP 8 3 5,XK2 9 215 7 8,XT 3 6 9] (XZ [6])))
def b442:AX:= (XS [XX 2 1 0,XX 3 3 1,XJ 4] (XS [XF 5 0 2,XO 6 5,XP 7 3 3,XK2 8 411 6 7,mv 4 8] (XZ [4])))
def b443:AX:= (XS [XX 3 1 0,XX 4 3 1,XX 5 3 2,XM 6] (XS [XP 7 3 4,XP 8 3 5,XK2 9 217 7 8,XT 3 6 9] (XZ [6])))
def b444:AX:= (XS [XX 2 1 0,XX 3 3 1,XM 4] (XS [XP 5 3 3,XK1 6 213 5,XT 3 4 6] (XZ [4])))
def b445:AX:= (XS [XX 2 1 0,XX 3 3 1,XM 4] (XS [XP 5 3 3,XK1 6 207 5,XT 3 4 6] (XZ [4])))
def b446:AX:= (XS [XX 3 1 0,XX 4 3 1,XM 6,XJ 7] (XS [XP 8 3 4,mv 9 2,XK2 10 220 8 9,XE 11 10 0,XE 12 10 1,XT 3 6 11,mv 7 12] (XZ [6,7])))
def b447:AX:= (XS [XX 3 1 0,XX 4 3 1,XX 5 3 2,XM 6,XJ 7] (XS [XP 8 3 4,XP 9 3 5,XK2 10 218 8 9,XE 11 10 0,XE 12 10 1,XT 3 6 11,mv 7 12] (XZ [6,7])))
def b448:AX:= (XS [XX 3 1 0,XX 4 3 1,XX 5 3 2,XM 6] (XS [XP 7 3 4,XP 8 3 5,XK2 9 216 7 8,XT 3 6 9] (XZ [6])))
def row384:AFx:=⟨3,27,[.t 6,.cell 7 (some 4)],b384,none,false⟩
def row389:AFx:=⟨3,25,[.t 6,.cell 7 (some 4)],b389,none,false⟩
def row407:AFx:=⟨3,70,[.t 6,.cell 7 (some 4)],b407,(some [true,false,false]),false⟩
def row409:AFx:=XrV 2 36 4 b409
def row422:AFx:=⟨4,108,[.cell 8 (some 3),.t 9],b422,none,false⟩
def row431:AFx:=XrC 3 35 6 3 b431
def row441:AFx:=XrC 3 10 6 3 b441
def row442:AFx:=⟨2,9,[.t 4],b442,(some [true,false]),false⟩
def row443:AFx:=XrC 3 10 6 3 b443
def row444:AFx:=XrC 2 7 4 3 b444
def row445:AFx:=XrC 2 7 4 3 b445
def row446:AFx:=⟨3,13,[.cell 6 (some 3),.t 7],b446,none,false⟩
def row447:AFx:=⟨3,13,[.cell 6 (some 3),.t 7],b447,none,false⟩
def row448:AFx:=XrC 3 10 6 3 b448
class Zas (T:Tbl):Prop where
 h384:T 384=some row384
 h389:T 389=some row389
 h407:T 407=some row407
 h409:T 409=some row409
 h422:T 422=some row422
 h431:T 431=some row431
 h441:T 441=some row441
 h442:T 442=some row442
 h443:T 443=some row443
 h444:T 444=some row444
 h445:T 445=some row445
 h446:T 446=some row446
 h447:T 447=some row447
 h448:T 448=some row448
section
variable{T:Tbl}[Zas T]{d:Option Nat}{st:St}{xs:List AV}{ps:List Opd}{e:Env}{h:Heap}{ol:List Heap}
@[simp] theorem x384:XRx T 384:=xrx Zas.h384
@[simp] theorem y389:XRy T 389:=xry Zas.h389
@[simp] theorem x407:Zd (orc T) T 407 xs d st=cL T 407 false [true,false,false] xs d st:=zas Zas.h407
@[simp] theorem y409:XRy T 409:=xry Zas.h409
@[simp] theorem x422:XRx T 422:=xrx Zas.h422
@[simp] theorem x431:XRx T 431:=xrx Zas.h431
@[simp] theorem x441:XRx T 441:=xrx Zas.h441
@[simp] theorem x442:Zd (orc T) T 442 xs d st=cL T 442 false [true,false] xs d st:=zas Zas.h442
@[simp] theorem x443:XRx T 443:=xrx Zas.h443
@[simp] theorem x444:XRx T 444:=xrx Zas.h444
@[simp] theorem x445:XRx T 445:=xrx Zas.h445
@[simp] theorem z446(xs:List AV):dI T 446 xs=dR (Za T 446 (xs.map (wkIf false))) xs:=zabw Zas.h446
@[simp] theorem z447(xs:List AV):dI T 447 xs=dR (Za T 447 (xs.map (wkIf false))) xs:=zabw Zas.h447
@[simp] theorem x448:XRx T 448:=xrx Zas.h448
end
end Go.Ab
end
section
namespace Go.Ab
def meths1:List RV:=[.cell 1 (some 445),.cell 2 (some 444),.cell 3 (some 441),.cell 4 (some 448),.cell 5 (some 443),.cell 6 (some 447),.cell 7 (some 446),.cell 8 (some 442)]
class Zew (T:Tbl):Prop where
 h1:∃t,T 1000001=some ⟨t,0,meths1,.bad,none,false⟩
section
variable{T:Tbl}[Zew T]
theorem zey(x:String×Nat):x∈Zao T 1↔x∈[("Of",445),("Neg",444),("Add",441),("Sub",448),("Mul",443),("Quo",447),("Pow",446),("Fits",442)]:=by
 obtain⟨t,ht⟩:=Zew.h1 (T:=T)
 rw[z2e ht]
 rfl
@[simp] theorem zaow:(("Of",445)∈Zao T 1)=True:=by simp[zey]
@[simp] theorem zal9:(("Neg",444)∈Zao T 1)=True:=by simp[zey]
@[simp] theorem zama:(("Add",441)∈Zao T 1)=True:=by simp[zey]
@[simp] theorem zamb:(("Sub",448)∈Zao T 1)=True:=by simp[zey]
@[simp] theorem zamc:(("Mul",443)∈Zao T 1)=True:=by simp[zey]
@[simp] theorem zamd:(("Quo",447)∈Zao T 1)=True:=by simp[zey]
@[simp] theorem zame:(("Pow",446)∈Zao T 1)=True:=by simp[zey]
@[simp] theorem zajc:(("Fits",442)∈Zao T 1)=True:=by simp[zey]
end
end Go.Ab
end
section
namespace Go.Ab
def l379_0:AX:= (.note (.seq (XS [mv 8 7,XF 9 0 3,XO 10 9,XN 11 10,XB 12 .lss 8 11,mv 13 12,VM 14 13 true 7,VM 15 13 true 1,VB 16 13 true .lss 14 15,XW 17 13 16] (XQ 17 0)) (.seq (.block 1 (XS [XF 20 0 3,XO 21 20,mv 22 7,XI 23 6 21 22,XF 24 3 23,XP 25 3 24,mv 26 2,XK2 27 247 25 26] (XD 27 (XS [XA 6 (.b true)] (XZ [6])) .skip))) (XH 18 7 19))) (XG [1,2,3,7]))
def b379:AX:= (XS [XX 3 4 0,XJ 6] (.seq (XS [XL 7 0] (.lp 0 (XG [1,2,3,7]) l379_0 (XG [1,3]))) (XS [XF 28 0 3,XO 29 28,XN 30 29,mv 31 1,XB 32 .gtr 30 31,mv 33 32,VF 34 33 false 1 3,VO 35 33 false 34,VN 36 33 false 35,VM 37 33 false 1,VB 38 33 false .gtr 36 37,XY 39 33 38,mv 6 39] (XZ [6]))))
def l382_0:AX:= (.note (.seq (XS [mv 15 4,XF 16 0 1,XO 17 16,XN 18 17,XB 19 .lss 15 18] (XQ 19 0)) (.seq (.block 1 (XS [XF 22 0 1,XO 23 22,mv 24 4,XI 25 6 23 24,XP 26 6 25,rg 5 (.alloc [(.i .i64 0),(.i .i64 0),(.i .i64 0),(.b false),(.sl [] .nl),(.sl [] .nl)]),XT 6 5 26] (.drawT [XF 27 0 3,XO 28 27,XF 29 0 5,XO 30 29,XF 31 1 5,XO 32 31,XF 33 2 5,XO 34 33,XF 35 3 5,XP 36 3 35,XK1 37 248 36,rg 38 (.build [(.i .i64 0),(.i .i64 0),(.i .i64 0),(.b false),(.sl [] .nl),(.sl [] .nl)] [(0,1,(.t 30)),(1,1,(.t 32)),(2,1,(.t 34)),(3,3,(.t 37))]),rg 39 (.bsl 6 [(.i .i64 0),(.i .i64 0),(.i .i64 0),(.b false),(.sl [] .nl),(.sl [] .nl)] 1 [(0,(.t 38))])] [rg 40 (.app 6 (.t 28) (.t 39)),XF 41 0 3,XT 1 41 40]))) (XH 20 4 21))) (XG [1,2,3,4]))
def b382:AX:= (XS [XX 1 4 0,rg 2 (.alloc [(.sl [] .nl),(.sl [] .nl),(.i .i64 0),(.i .i64 0)])] (.seq (.drawM [XF 6 2 1,XO 7 6,XF 8 3 1,XO 9 8,rg 10 (.bsl 1 [(.i .i64 0)] 0 []),XF 11 1 1,XO 12 11,rg 13 (.app 1 (.t 10) (.t 12)),rg 14 (.build [(.sl [] .nl),(.sl [] .nl),(.i .i64 0),(.i .i64 0)] [(2,1,(.t 7)),(3,1,(.t 9)),(1,1,(.t 13))]),rg 3 (.alloc [(.sl [] .nl),(.sl [] .nl),(.i .i64 0),(.i .i64 0)])] [XT 4 3 14]) (.seq (XS [XL 4 0] (.pre (.fld 3 0 0 6) (.lp 0 (XG [1,2,3,4]) l382_0 (XG [2,3])))) (XS [XP 42 4 3,XT 4 2 42] (XZ [2])))))
def row379:AFx:=XrV 3 40 6 b379
def row382:AFx:=XrC 1 43 2 4 b382
class Zdr (T:Tbl):Prop where
 h379:T 379=some row379
 h382:T 382=some row382
section
variable{T:Tbl}[Zdr T]{d:Option Nat}{st:St}{xs:List AV}{ps:List Opd}{e:Env}{h:Heap}{ol:List Heap}
@[simp] theorem x379:XRx T 379:=xrx Zdr.h379
@[simp] theorem y382:XRy T 382:=xry Zdr.h382
end
end Go.Ab
end
section
namespace Go.Ab
def b324:AX:= (XS [XX 2 10 0,XX 3 3 1,XA 4 (.sl [] .nl),XJ 5] (.seq (XS [XP 8 10 2,XK1 9 329 8,XU 10 9] (XD 10 (XS [XA 4 (.sl [] .nl),XJ 5] (XZ [4,5])) .skip)) (XS [XP 11 10 2,XP 12 3 3,XK2 13 335 11 12,XM 6,XT 3 6 13] (XS [XP 14 3 6,rg 15 (.call 336 [(.c (.i .i64 1)),(.c (.i .i64 (-1))),(.t 14)]),XM 7,XT 3 7 15] (.seq (.drawT [XP 16 3 7,XP 17 3 7,XP 18 3 6,rg 19 (.call 336 [(.c (.i .i64 1)),(.c (.i .i64 2)),(.t 18)]),rg 20 (.bsl 3 [(.b false),(.sl [] .nl),(.sl [] .nl)] 3 [(0,(.t 16)),(1,(.t 17)),(2,(.t 19))]),XK1 21 337 20,XP 22 3 6,XP 23 3 6,XP 24 3 6,rg 25 (.call 336 [(.c (.i .i64 3)),(.c (.i .i64 (-2))),(.t 24)]),rg 26 (.bsl 3 [(.b false),(.sl [] .nl),(.sl [] .nl)] 3 [(0,(.t 22)),(1,(.t 23)),(2,(.t 25))]),XK1 27 337 26,XF 28 3 2,XP 29 3 28,XP 30 3 6,XP 31 3 7,XP 32 3 7,rg 33 (.bsl 3 [(.b false),(.sl [] .nl),(.sl [] .nl)] 4 [(0,(.t 29)),(1,(.t 30)),(2,(.t 31)),(3,(.t 32))]),XK1 34 337 33,XF 35 3 2,XP 36 3 35,XP 37 3 6,XP 38 3 6,XP 39 3 7,XK1 40 213 39,rg 41 (.bsl 3 [(.b false),(.sl [] .nl),(.sl [] .nl)] 4 [(0,(.t 36)),(1,(.t 37)),(2,(.t 38)),(3,(.t 40))]),XK1 42 337 41,rg 43 (.bsl 3 [(.b false),(.sl [] .nl),(.sl [] .nl)] 4 [(0,(.t 21)),(1,(.t 27)),(2,(.t 34)),(3,(.t 42))]),XP 44 10 2,XK1 45 338 44,XF 46 6 2,XO 47 46,XN 48 47,XK3 49 271 43 45 48,XE 50 49 0,XE 51 49 1] [mv 4 50,mv 5 51]) (XZ [4,5]))))))
def b326:AX:= (XS [XX 2 10 0,XX 3 3 1,XA 4 (.sl [] .nl),XJ 5] (.seq (XS [XP 10 10 2,XK1 11 329 10,XU 12 11] (XD 12 (XS [XA 4 (.sl [] .nl),XJ 5] (XZ [4,5])) .skip)) (XS [XP 13 10 2,XP 14 3 3,XK2 15 335 13 14,XM 6,XT 3 6 15] (XS [XP 16 3 6,rg 17 (.call 336 [(.c (.i .i64 1)),(.c (.i .i64 (-1))),(.t 16)]),XM 7,XT 3 7 17] (.seq (.draw [⟨rg 19 (.call 205 [(.c (.i .i64 6))]),0,1⟩,⟨XP 20 3 6,0,1⟩,⟨XP 21 3 7,0,1⟩,⟨rg 22 (.bsl 3 [(.b false),(.sl [] .nl),(.sl [] .nl)] 3 [(0,(.t 19)),(1,(.t 20)),(2,(.t 21))]),0,1⟩,⟨XK1 23 337 22,0,1⟩,⟨XF 24 3 2,0,1⟩,⟨XP 25 3 24,0,1⟩,⟨XK2 26 218 23 25,0,1⟩,⟨mv 18 26,0,1⟩,⟨XE 27 18 0,0,1⟩,⟨XE 28 18 1,0,2⟩,⟨XM 8,0,1⟩,⟨XT 3 8 27,1,2⟩,⟨mv 9 28,2,2⟩]) (.seq (.drawT [XP 29 3 8,XK1 30 213 29,XP 31 3 8,XP 32 3 7,XP 33 3 6,rg 34 (.call 336 [(.c (.i .i64 1)),(.c (.i .i64 (-3))),(.t 33)]),rg 35 (.bsl 3 [(.b false),(.sl [] .nl),(.sl [] .nl)] 2 [(0,(.t 32)),(1,(.t 34))]),XK1 36 337 35,XP 37 3 6,XP 38 3 6,rg 39 (.call 336 [(.c (.i .i64 (-2))),(.c (.i .i64 3)),(.t 38)]),rg 40 (.bsl 3 [(.b false),(.sl [] .nl),(.sl [] .nl)] 2 [(0,(.t 37)),(1,(.t 39))]),XK1 41 337 40,rg 42 (.bsl 3 [(.b false),(.sl [] .nl),(.sl [] .nl)] 4 [(0,(.t 30)),(1,(.t 31)),(2,(.t 36)),(3,(.t 41))]),XP 43 10 2,XK1 44 338 43,XF 45 6 2,XO 46 45,XN 47 46,XK3 48 271 42 44 47,XE 49 48 0,XE 50 48 1] [mv 4 49,mv 5 50]) (XZ [4,5])))))))
def b329:AX:= (XS [XX 1 10 0,XJ 2] (XS [XF 4 6 1,XO 5 4,XN 6 5,mv 3 6] (XS [XF 7 3 1,XP 8 3 7,XK1 9 209 8,XC 10 .gtr 9 0,mv 11 10,VM 12 11 true 3,VC 13 11 true .leq 12 300,XW 14 11 13,mv 15 14,VF 16 15 true 7 1,VO 17 15 true 16,VN 18 15 true 17,VM 19 15 true 3,VB 20 15 true .eql 18 19,XW 21 15 20,mv 22 21,VF 23 22 true 8 1,VO 24 22 true 23,VN 25 22 true 24,VM 26 22 true 3,VB 27 22 true .eql 25 26,XW 28 22 27,mv 29 28,VF 30 29 true 9 1,VO 31 29 true 30,VN 32 29 true 31,VM 33 29 true 3,VB 34 29 true .eql 32 33,XW 35 29 34,mv 2 35] (XZ [2]))))
def b335:AX:= (XS [XX 2 10 0,XX 3 3 1,XM 4] (.seq (.draw [⟨XP 8 3 3,0,1⟩,⟨XF 9 0 2,0,1⟩,⟨XP 10 3 9,0,1⟩,⟨XK2 11 216 8 10,0,1⟩,⟨XF 12 3 2,0,1⟩,⟨XP 13 3 12,0,1⟩,⟨XK2 14 218 11 13,0,1⟩,⟨mv 7 14,0,1⟩,⟨XE 15 7 0,0,1⟩,⟨XE 16 7 1,0,2⟩,⟨XM 5,0,1⟩,⟨XT 3 5 15,1,2⟩,⟨mv 6 16,2,2⟩]) (XS [XP 17 3 5,XT 3 4 17] (XZ [4]))))
def b336:AX:= (XS [XX 5 3 2,XM 6] (.seq (.drawT [mv 7 0,XK1 8 205 7,mv 9 1,XK1 10 205 9,XP 11 3 5] [XK2 12 217 10 11,XK2 13 215 8 12,XT 3 6 13]) (XZ [6])))
def l337_0:AX:= (.note (XS [XB 10 .lss 9 8] (.seq (XQ 10 0) (.seq (.block 1 (XS [XI 11 3 7 9,XP 12 3 11,XM 5,XT 3 5 12] (.reg [XP 13 3 3,XP 14 3 5,XK2 15 217 13 14,XT 3 3 15]))) (.reg [XC 16 .add 9 1,mv 9 16])))) (XG [2,3,7,8,9]))
def b337:AX:= (XS [XM 2] (XS [rg 6 (.call 205 [(.c (.i .i64 1))]),XM 3,XT 3 3 6] (.seq (XS [mv 7 0,XN 8 7,XL 9 0] (.lp 0 (XG [2,3,7,8,9]) l337_0 (XG [2,3]))) (XS [XP 17 3 3,XT 3 2 17] (XZ [2])))))
def b338:AX:= (XS [XX 1 10 0,XA 2 (.sl [] .nl)] (XS [XF 3 6 1,XO 4 3,XF 5 7 1,XO 6 5,XF 7 8 1,XO 8 7,XF 9 9 1,XO 10 9,rg 11 (.bsl 1 [(.sl [] .nl)] 4 [(0,(.t 4)),(1,(.t 6)),(2,(.t 8)),(3,(.t 10))]),mv 2 11] (XZ [2])))
def row324:AFx:=⟨2,52,[.t 4,.t 5],b324,none,false⟩
def row326:AFx:=⟨2,51,[.t 4,.t 5],b326,none,false⟩
def row329:AFx:=XrV 1 36 2 b329
def row335:AFx:=XrC 2 18 4 3 b335
def row336:AFx:=XrC 3 14 6 3 b336
def row337:AFx:=XrC 1 18 2 3 b337
def row338:AFx:=XrV 1 12 2 b338
class Zbg (T:Tbl):Prop where
 h324:T 324=some row324
 h326:T 326=some row326
 h329:T 329=some row329
 h335:T 335=some row335
 h336:T 336=some row336
 h337:T 337=some row337
 h338:T 338=some row338
section
variable{T:Tbl}[Zbg T]{d:Option Nat}{st:St}{xs:List AV}{ps:List Opd}{e:Env}{h:Heap}{ol:List Heap}
@[simp] theorem x324:XRx T 324:=xrx Zbg.h324
@[simp] theorem y324:XRy T 324:=xry Zbg.h324
@[simp] theorem y326:XRy T 326:=xry Zbg.h326
@[simp] theorem x329:XRx T 329:=xrx Zbg.h329
@[simp] theorem x335:XRx T 335:=xrx Zbg.h335
@[simp] theorem x336:XRx T 336:=xrx Zbg.h336
@[simp] theorem y336:XRy T 336:=xry Zbg.h336
@[simp] theorem y337:XRy T 337:=xry Zbg.h337
@[simp] theorem y338:XRy T 338:=xry Zbg.h338
end
end Go.Ab
end
section
namespace Go.Ab
def l568_0:AX:= (.note (XS [XB 28 .lss 27 26] (.seq (XQ 28 0) (.seq (.block 1 (XS [mv 29 27,XI 30 3 25 27,XP 31 3 30,XM 9,mv 8 29,XT 3 9 31] (XS [XP 32 3 3,XP 33 3 9,XK2 34 211 32 33,XC 35 .leq 34 0] (XD 35 (XS [mv 36 8,mv 4 36,XA 5 (.b true)] (XZ [4,5])) .skip)))) (.reg [XC 37 .add 27 1,mv 27 37])))) (XG [3,25,26,27]))
def b568:AX:= (XS [XX 2 5 0,XX 3 3 1,XL 4 0,XJ 5] (.seq (XS [XP 10 5 2,XK1 11 576 10,XU 12 11] (XD 12 (XS [XA 4 (.i .i64 (-1)),XJ 5] (XZ [4,5])) .skip)) (XS [XP 14 5 2,XK1 15 513 14,mv 13 15,XE 16 13 0,XE 17 13 1,mv 6 16,mv 7 17] (.seq (.seq (.drawT [XP 18 3 3,mv 19 6,rg 20 (.iad 3 (.t 19) (.c (.i .i64 0))),XP 21 3 20] [XK2 22 211 18 21,XC 23 .lss 22 0]) (XD 23 (XS [XA 4 (.i .i64 (-1)),XJ 5] (XZ [4,5])) .skip)) (.seq (XS [mv 24 6,rg 25 (.slc 3 (.t 24) (some (.c (.i .i64 1))) none none),XN 26 25,XL 27 0] (.lp 0 (XG [3,25,26,27]) l568_0 (XG []))) (XS [XA 4 (.i .i64 (-1)),XJ 5] (XZ [4,5])))))))
def l569_0:AX:= (.note (XS [XC 52 .lss 51 2] (.seq (XQ 52 0) (.seq (.block 1 (XS [mv 53 51,mv 12 53] (.seq (.draw [⟨XP 55 11 3,0,1⟩,⟨mv 56 9,0,1⟩,⟨mv 57 2,0,1⟩,⟨mv 58 12,0,1⟩,⟨XB 59 .add 57 58,0,1⟩,⟨XI 60 3 56 59,0,1⟩,⟨XP 61 3 60,0,1⟩,⟨mv 62 10,0,1⟩,⟨mv 63 2,0,1⟩,⟨mv 64 12,0,1⟩,⟨XB 65 .add 63 64,0,1⟩,⟨XI 66 1 62 65,0,1⟩,⟨XO 67 66,0,1⟩,⟨XK3 68 577 55 61 67,0,1⟩,⟨mv 54 68,0,1⟩,⟨XE 69 54 0,0,1⟩,⟨XE 70 54 1,0,1⟩,⟨rg 14 (.alloc [(.i .i64 0),(.i .i64 0),(.i .i64 0),(.i .i64 0)]),0,1⟩,⟨mv 13 69,1,1⟩,⟨XT 4 14 70,1,2⟩]) (.seq (XS [XP 71 4 14,rg 72 (.build [(.i .i64 0),(.i .i64 0),(.i .i64 0),(.i .i64 0)] []),rg 73 (.eqs true [(0,.int),(1,.int),(2,.int),(3,.int)] (.t 71) (.t 72))] (XD 73 (XS [mv 74 2,mv 75 12,XB 76 .add 74 75,XC 77 .add 76 1,XF 78 1 14,XT 1 78 77] (.seq (.draw [⟨rg 79 (.build [(.b false),(.sl [] .nl),(.sl [] .nl),(.b false),(.sl [] .nl),(.sl [] .nl),(.sl [] .nl),(.sl [] .nl),(.sl [] .nl),(.sl [] .nl)] []),0,0⟩,⟨XP 80 4 14,0,1⟩,⟨XT 10 6 79,0,1⟩,⟨XT 4 7 80,1,2⟩]) (XZ [6,7]))) .skip)) (.reg [mv 81 12,mv 82 13,rg 83 (.iaa 1 2 (.t 11) (.t 81)),XT 1 83 82]))))) (.reg [XC 84 .add 51 1,mv 51 84])))) (XG [2,3,6,7,9,10,11,51]))
def b569:AX:= (XS [XX 3 11 0,XX 4 5 1,rg 6 (.alloc [(.b false),(.sl [] .nl),(.sl [] .nl),(.b false),(.sl [] .nl),(.sl [] .nl),(.sl [] .nl),(.sl [] .nl),(.sl [] .nl),(.sl [] .nl)]),rg 7 (.alloc [(.i .i64 0),(.i .i64 0),(.i .i64 0),(.i .i64 0)])] (XS [rg 15 (.build [(.i .i64 0),(.i .i64 0),(.i .i64 0),(.i .i64 0)] [(0,1,(.c (.i .i64 2)))]),rg 8 (.alloc [(.i .i64 0),(.i .i64 0),(.i .i64 0),(.i .i64 0)]),XT 4 8 15] (.seq (XS [XP 16 5 4,XK1 17 576 16,XU 18 17,mv 19 18,VP 20 19 false 11 3,gd 21 19 false (.call 524 [(.t 20)]),VU 22 19 false 21,XY 23 19 22,mv 24 23,VF 25 24 false 4 4,VO 26 24 false 25,VN 27 24 false 26,VF 28 24 false 0 3,VF 29 24 false 2 28,VO 30 24 false 29,VB 31 24 false .neq 27 30,XY 32 24 31] (XD 32 (.seq (.draw [⟨rg 33 (.build [(.b false),(.sl [] .nl),(.sl [] .nl),(.b false),(.sl [] .nl),(.sl [] .nl),(.sl [] .nl),(.sl [] .nl),(.sl [] .nl),(.sl [] .nl)] []),0,0⟩,⟨XP 34 4 8,0,1⟩,⟨XT 10 6 33,0,1⟩,⟨XT 4 7 34,1,2⟩]) (XZ [6,7])) .skip)) (XS [XP 36 5 4,XK1 37 513 36,mv 35 37,XE 38 35 0,XE 39 35 1,mv 9 38,mv 10 39] (.seq (XS [mv 40 2,XC 41 .lss 40 0,mv 42 41,VM 43 42 false 2,VM 44 42 false 9,VN 45 42 false 44,VC 46 42 false .sub 45 1,VB 47 42 false .geq 43 46,XY 48 42 47] (XD 48 (.seq (.draw [⟨rg 49 (.build [(.b false),(.sl [] .nl),(.sl [] .nl),(.b false),(.sl [] .nl),(.sl [] .nl),(.sl [] .nl),(.sl [] .nl),(.sl [] .nl),(.sl [] .nl)] []),0,0⟩,⟨XP 50 4 8,0,1⟩,⟨XT 10 6 49,0,1⟩,⟨XT 4 7 50,1,2⟩]) (XZ [6,7])) .skip)) (XS [rg 11 (.alloc [(.sl [] .nl),(.sl [] .nl)])] (.seq (XS [XL 51 0] (.lp 0 (XG [2,3,6,7,9,10,11,51]) l569_0 (XG [2,6,7,9,10,11]))) (.seq (.draw [⟨mv 85 9,0,0⟩,⟨mv 86 2,0,0⟩,⟨XI 87 3 85 86,0,0⟩,⟨XP 88 3 87,0,0⟩,⟨mv 89 9,0,0⟩,⟨mv 90 2,0,0⟩,⟨XC 91 .add 90 1,0,0⟩,⟨XI 92 3 89 91,0,0⟩,⟨XP 93 3 92,0,0⟩,⟨mv 94 9,0,0⟩,⟨mv 95 2,0,0⟩,⟨XI 96 3 94 95,0,0⟩,⟨XP 97 3 96,0,0⟩,⟨XK2 98 216 93 97,0,0⟩,⟨mv 99 10,0,0⟩,⟨mv 100 2,0,0⟩,⟨XI 101 1 99 100,0,0⟩,⟨XO 102 101,0,0⟩,⟨mv 103 10,0,0⟩,⟨mv 104 2,0,0⟩,⟨XC 105 .add 104 1,0,0⟩,⟨XI 106 1 103 105,0,0⟩,⟨XO 107 106,0,0⟩,⟨rg 108 (.iaa 1 2 (.t 11) (.c (.i .i64 0))),0,0⟩,⟨XO 109 108,0,0⟩,⟨rg 110 (.iaa 1 2 (.t 11) (.c (.i .i64 1))),0,0⟩,⟨XO 111 110,0,0⟩,⟨rg 112 (.build [(.b false),(.sl [] .nl),(.sl [] .nl),(.b false),(.sl [] .nl),(.sl [] .nl),(.sl [] .nl),(.sl [] .nl),(.sl [] .nl),(.sl [] .nl)] [(0,3,(.t 88)),(3,3,(.t 98)),(6,1,(.t 102)),(7,1,(.t 107)),(8,1,(.t 109)),(9,1,(.t 111))]),0,0⟩,⟨rg 113 (.build [(.i .i64 0),(.i .i64 0),(.i .i64 0),(.i .i64 0)] []),0,1⟩,⟨XT 10 6 112,0,1⟩,⟨XT 4 7 113,1,2⟩]) (XZ [6,7])))))))))
def b570:AX:= (XS [XX 3 11 0,XX 4 5 1,XX 5 3 2,XA 6 (.sl [] .nl),rg 7 (.alloc [(.i .i64 0),(.i .i64 0),(.i .i64 0),(.i .i64 0)])] (.seq (XS [XP 16 5 4,XK1 17 576 16,XU 18 17,mv 19 18,VP 20 19 false 11 3,gd 21 19 false (.call 524 [(.t 20)]),VU 22 19 false 21,XY 23 19 22,mv 24 23,VF 25 24 false 4 4,VO 26 24 false 25,VN 27 24 false 26,VF 28 24 false 0 3,VF 29 24 false 2 28,VO 30 24 false 29,VB 31 24 false .neq 27 30,XY 32 24 31] (XD 32 (XS [rg 33 (.build [(.i .i64 0),(.i .i64 0),(.i .i64 0),(.i .i64 0)] [(0,1,(.c (.i .i64 2)))]),XA 6 (.sl [] .nl),XT 4 7 33] (XZ [6,7])) .skip)) (XS [XP 35 5 4,XK1 36 513 35,mv 34 36,XE 37 34 0,XE 38 34 1,mv 8 37,mv 9 38] (.seq (.seq (.drawT [mv 39 8,XN 40 39,XC 41 .eql 40 1,mv 42 41,VM 43 42 true 8,gd 44 42 true (.iad 3 (.t 43) (.c (.i .i64 0))),VP 45 42 true 3 44,VP 46 42 true 3 5] [gd 47 42 true (.call 212 [(.t 45),(.t 46)]),XW 48 42 47]) (XD 48 (XS [mv 49 9,rg 50 (.iad 1 (.t 49) (.c (.i .i64 0))),XO 51 50,rg 52 (.build [(.i .i64 0),(.i .i64 0),(.i .i64 0),(.i .i64 0)] []),mv 6 51,XT 4 7 52] (XZ [6,7])) .skip)) (XS [XP 54 5 4,XP 55 3 5,XK2 56 568 54 55,mv 53 56,XE 57 53 0,XE 58 53 1,mv 10 57,mv 11 58] (.seq (XS [mv 59 11,XU 60 59] (XD 60 (XS [rg 61 (.build [(.i .i64 0),(.i .i64 0),(.i .i64 0),(.i .i64 0)] [(0,1,(.c (.i .i64 7)))]),XA 6 (.sl [] .nl),XT 4 7 61] (XZ [6,7])) .skip)) (XS [XP 63 11 3,XP 64 5 4,mv 65 10,XK3 66 569 63 64 65,mv 62 66,XE 67 62 0,XE 68 62 1,rg 12 (.alloc [(.b false),(.sl [] .nl),(.sl [] .nl),(.b false),(.sl [] .nl),(.sl [] .nl),(.sl [] .nl),(.sl [] .nl),(.sl [] .nl),(.sl [] .nl)]),rg 13 (.alloc [(.i .i64 0),(.i .i64 0),(.i .i64 0),(.i .i64 0)]),XT 10 12 67,XT 4 13 68] (.seq (XS [XP 69 4 13,rg 70 (.build [(.i .i64 0),(.i .i64 0),(.i .i64 0),(.i .i64 0)] []),rg 71 (.eqs true [(0,.int),(1,.int),(2,.int),(3,.int)] (.t 69) (.t 70))] (XD 71 (.seq (.drawT [XP 72 4 13,XA 6 (.sl [] .nl)] [XT 4 7 72]) (XZ [6,7])) .skip)) (XS [XP 74 10 12,XP 75 3 5,XK2 76 324 74 75,mv 73 76,XE 77 73 0,XE 78 73 1,mv 14 77,mv 15 78] (.seq (.drawT [mv 79 14,XP 80 4 13,mv 6 79] [XT 4 7 80]) (XZ [6,7])))))))))))
def row568:AFx:=⟨2,38,[.t 4,.t 5],b568,none,false⟩
def row569:AFx:=⟨3,114,[.cell 6 (some 10),.cell 7 (some 4)],b569,none,false⟩
def row570:AFx:=⟨3,81,[.t 6,.cell 7 (some 4)],b570,none,false⟩
class Zba (T:Tbl):Prop where
 h568:T 568=some row568
 h569:T 569=some row569
 h570:T 570=some row570
section
variable{T:Tbl}[Zba T]{d:Option Nat}{st:St}{xs:List AV}{ps:List Opd}{e:Env}{h:Heap}{ol:List Heap}
@[simp] theorem x568:XRx T 568:=xrx Zba.h568
@[simp] theorem y568:XRy T 568:=xry Zba.h568
@[simp] theorem x569:XRx T 569:=xrx Zba.h569
@[simp] theorem y570:XRy T 570:=xry Zba.h570
end
end Go.Ab
end
section
namespace Go.Ab
def l513_0:AX:= (.note (XS [XB 12 .lss 11 10] (.seq (XQ 12 0) (.seq (.block 1 (XS [XI 13 14 9 11,XP 14 14 13,rg 7 (.alloc [(.b false),(.sl [] .nl),(.sl [] .nl),(.b false),(.sl [] .nl),(.sl [] .nl),(.b false),(.sl [] .nl),(.sl [] .nl),(.b false),(.sl [] .nl),(.sl [] .nl),(.sl [] .nl),(.b false)]),XT 14 7 14] (XS [mv 15 4,XF 16 0 7,XP 17 3 16,XV 18 17,rg 19 (.app 3 (.t 15) (.t 18)),mv 4 19] (.reg [mv 20 5,XF 21 12 7,XO 22 21,rg 23 (.bsl 1 [(.sl [] .nl)] 1 [(0,(.t 22))]),rg 24 (.app 1 (.t 20) (.t 23)),mv 5 24])))) (.reg [XC 25 .add 11 1,mv 11 25])))) (XG [1,4,5,9,10,11]))
def b513:AX:= (XS [XX 1 5 0,XA 2 (.sl [] .nl),XA 3 (.sl [] .nl)] (.seq (.note (.reg [XA 4 (.sl [] .nl)]) (.nil 4 3)) (.seq (.note (.reg [XA 5 (.sl [] .nl)]) (.nil 5 1)) (.seq (XS [XP 8 5 1,XK1 9 532 8,XN 10 9,XL 11 0] (.lp 0 (XG [1,4,5,9,10,11]) l513_0 (XG [1,4,5]))) (.seq (.drawM [mv 26 4,XF 27 1 1,XP 28 3 27,XK1 29 207 28,XV 30 29,rg 31 (.app 3 (.t 26) (.t 30)),mv 32 5,XF 33 4 1,XO 34 33,XK1 35 533 34,rg 36 (.bsl 1 [(.sl [] .nl)] 1 [(0,(.t 35))])] [rg 37 (.app 1 (.t 32) (.t 36)),mv 2 31,mv 3 37]) (XZ [2,3]))))))
def l532_0:AX:= (.note (XS [XB 11 .lss 10 9] (.seq (XQ 11 0) (.seq (.block 1 (XS [XI 12 14 8 10,XP 13 14 12,rg 5 (.alloc [(.b false),(.sl [] .nl),(.sl [] .nl),(.b false),(.sl [] .nl),(.sl [] .nl),(.b false),(.sl [] .nl),(.sl [] .nl),(.b false),(.sl [] .nl),(.sl [] .nl),(.sl [] .nl),(.b false)]),XT 14 5 13] (XS [XF 14 13 5,XO 15 14] (XD 15 (XS [XP 16 14 5,XK1 17 549 16,XK1 18 533 17,mv 6 18] (.drawT [mv 19 3,mv 20 6,rg 21 (.iad 3 (.t 20) (.c (.i .i64 0))),XP 22 3 21,mv 23 6,rg 24 (.iad 3 (.t 23) (.c (.i .i64 1))),XP 25 3 24,mv 26 6,rg 27 (.iad 3 (.t 26) (.c (.i .i64 2))),XP 28 3 27,mv 29 6,rg 30 (.iad 3 (.t 29) (.c (.i .i64 3))),XP 31 3 30,XF 32 12 5,XO 33 32,XK1 34 533 33,rg 35 (.build [(.b false),(.sl [] .nl),(.sl [] .nl),(.b false),(.sl [] .nl),(.sl [] .nl),(.b false),(.sl [] .nl),(.sl [] .nl),(.b false),(.sl [] .nl),(.sl [] .nl),(.sl [] .nl),(.b false)] [(0,3,(.t 22)),(3,3,(.t 25)),(6,3,(.t 28)),(9,3,(.t 31)),(12,1,(.t 34)),(13,1,(.c (.b true)))]),rg 36 (.bsl 14 [(.b false),(.sl [] .nl),(.sl [] .nl),(.b false),(.sl [] .nl),(.sl [] .nl),(.b false),(.sl [] .nl),(.sl [] .nl),(.b false),(.sl [] .nl),(.sl [] .nl),(.sl [] .nl),(.b false)] 1 [(0,(.t 35))])] [rg 37 (.app 14 (.t 19) (.t 36)),mv 3 37])) .skip)))) (.reg [XC 38 .add 10 1,mv 10 38])))) (XG [3,8,9,10]))
def b532:AX:= (XS [XX 1 5 0,XA 2 (.sl [] .nl)] (.seq (.note (.reg [XA 3 (.sl [] .nl)]) (.nil 3 14)) (.seq (XS [XF 7 0 1,XO 8 7,XN 9 8,XL 10 0] (.lp 0 (XG [3,8,9,10]) l532_0 (XG [3]))) (XS [mv 39 3,mv 2 39] (XZ [2])))))
def b533:AX:= (XS [XA 2 (.sl [] .nl)] (XS [rg 3 (.call 205 [(.c (.i .i64 1))]),mv 4 0,XK2 5 269 3 4,mv 2 5] (XZ [2])))
def b549:AX:= (XS [XX 1 14 0,XA 2 (.sl [] .nl)] (XS [XF 3 0 1,XP 4 3 3,XF 5 3 1,XP 6 3 5,XF 7 6 1,XP 8 3 7,XF 9 9 1,XP 10 3 9,rg 11 (.bsl 3 [(.b false),(.sl [] .nl),(.sl [] .nl)] 4 [(0,(.t 4)),(1,(.t 6)),(2,(.t 8)),(3,(.t 10))]),mv 2 11] (XZ [2])))
def b576:AX:= (XS [XX 1 5 0,XJ 2] (XS [XP 3 5 1,XK1 4 579 3,XC 5 .eql 4 0,mv 2 5] (XZ [2])))
def b579:AX:= (XS [XX 1 5 0,XL 2 0] (.seq (.block 0 (XS [XP 4 5 1,XK1 5 580 4,XU 6 5,mv 3 6] (XD 3 (XS [XL 2 1] (XZ [2])) (XS [XP 8 5 1,XK1 9 581 8,XU 10 9,mv 7 10] (XD 7 (XS [XL 2 2] (XZ [2])) (XS [XF 12 0 1,XO 13 12,XN 14 13,XC 15 .gtr 14 200,mv 11 15] (XD 11 (XS [XL 2 3] (XZ [2])) (XS [XP 17 5 1,XK1 18 582 17,XU 19 18,mv 16 19] (XD 16 (XS [XL 2 4] (XZ [2])) (XS [XP 21 5 1,XK1 22 583 21,XU 23 22,mv 20 23] (XD 20 (XS [XL 2 5] (XZ [2])) .skip))))))))))) (XS [XL 2 0] (XZ [2]))))
def l580_0:AX:= (.note (XS [XB 9 .lss 8 7] (.seq (XQ 9 0) (.seq (.block 1 (XS [XI 10 14 6 8,XP 11 14 10,rg 4 (.alloc [(.b false),(.sl [] .nl),(.sl [] .nl),(.b false),(.sl [] .nl),(.sl [] .nl),(.b false),(.sl [] .nl),(.sl [] .nl),(.b false),(.sl [] .nl),(.sl [] .nl),(.sl [] .nl),(.b false)]),XT 14 4 11] (.seq (.drawT [XP 12 14 4,XK1 13 549 12,XF 14 12 4,XO 15 14] [rg 16 (.bsl 1 [(.sl [] .nl)] 2 [(0,(.t 13)),(1,(.t 15))]),XK1 17 584 16,XU 18 17]) (XD 18 (XS [XJ 2] (XZ [2])) .skip)))) (.reg [XC 19 .add 8 1,mv 8 19])))) (XG [1,6,7,8]))
def b580:AX:= (XS [XX 1 5 0,XJ 2] (.seq (XS [XF 5 0 1,XO 6 5,XN 7 6,XL 8 0] (.lp 0 (XG [1,6,7,8]) l580_0 (XG [1]))) (XS [XF 20 1 1,XP 21 3 20,XV 22 21,XF 23 4 1,XO 24 23,rg 25 (.bsl 1 [(.sl [] .nl)] 2 [(0,(.t 22)),(1,(.t 24))]),XK1 26 584 25,mv 2 26] (XZ [2]))))
def l581_0:AX:= (.note (XS [XB 9 .lss 8 7] (.seq (XQ 9 0) (.seq (.block 1 (XS [XI 10 14 6 8,XP 11 14 10,rg 4 (.alloc [(.b false),(.sl [] .nl),(.sl [] .nl),(.b false),(.sl [] .nl),(.sl [] .nl),(.b false),(.sl [] .nl),(.sl [] .nl),(.b false),(.sl [] .nl),(.sl [] .nl),(.sl [] .nl),(.b false)]),XT 14 4 11] (XS [XF 12 12 4,XO 13 12,XN 14 13,XF 15 4 1,XO 16 15,XN 17 16,XB 18 .neq 14 17] (XD 18 (XS [XJ 2] (XZ [2])) .skip)))) (.reg [XC 19 .add 8 1,mv 8 19])))) (XG [1,6,7,8]))
def b581:AX:= (XS [XX 1 5 0,XJ 2] (.seq (XS [XF 5 0 1,XO 6 5,XN 7 6,XL 8 0] (.lp 0 (XG [1,6,7,8]) l581_0 (XG [1]))) (XS [XF 20 4 1,XO 21 20,XN 22 21,XC 23 .geq 22 1,mv 24 23,VF 25 24 true 4 1,VO 26 24 true 25,VN 27 24 true 26,VC 28 24 true .leq 27 6,XW 29 24 28,mv 2 29] (XZ [2]))))
def l582_0:AX:= (.note (XS [XB 9 .lss 8 7] (.seq (XQ 9 0) (.seq (.block 1 (XS [XI 10 14 6 8,XP 11 14 10,rg 4 (.alloc [(.b false),(.sl [] .nl),(.sl [] .nl),(.b false),(.sl [] .nl),(.sl [] .nl),(.b false),(.sl [] .nl),(.sl [] .nl),(.b false),(.sl [] .nl),(.sl [] .nl),(.sl [] .nl),(.b false)]),XT 14 4 11] (XS [XF 12 3 4,XP 13 3 12,XK1 14 209 13,XC 15 .leq 14 0,mv 16 15,VF 17 16 false 6 4,VP 18 16 false 3 17,gd 19 16 false (.call 209 [(.t 18)]),VC 20 16 false .leq 19 0,XY 21 16 20,mv 22 21,VF 23 22 false 6 4,VP 24 22 false 3 23,VF 25 22 false 3 4,VP 26 22 false 3 25,gd 27 22 false (.call 211 [(.t 24),(.t 26)]),VC 28 22 false .gtr 27 0,XY 29 22 28,mv 30 29,VF 31 30 false 9 4,VP 32 30 false 3 31,gd 33 30 false (.call 209 [(.t 32)]),VC 34 30 false .lss 33 0,XY 35 30 34] (XD 35 (XS [XJ 2] (XZ [2])) .skip)))) (.reg [XC 36 .add 8 1,mv 8 36])))) (XG [6,7,8]))
def b582:AX:= (XS [XX 1 5 0,XJ 2] (.seq (XS [XF 5 0 1,XO 6 5,XN 7 6,XL 8 0] (.lp 0 (XG [6,7,8]) l582_0 (XG []))) (XS [XA 2 (.b true)] (XZ [2]))))
def l583_0:AX:= (.note (XS [XB 11 .lss 10 9] (.seq (XQ 11 0) (.seq (.block 1 (XS [mv 12 10,XI 13 14 8 10,XP 14 14 13,rg 4 (.alloc [(.b false),(.sl [] .nl),(.sl [] .nl),(.b false),(.sl [] .nl),(.sl [] .nl),(.b false),(.sl [] .nl),(.sl [] .nl),(.b false),(.sl [] .nl),(.sl [] .nl),(.sl [] .nl),(.b false)]),mv 3 12,XT 14 4 14] (.seq (.draw [⟨XF 15 1 1,0,1⟩,⟨XP 16 3 15,0,1⟩,⟨XF 17 4 1,0,2⟩,⟨XO 18 17,0,2⟩,⟨XM 5,0,1⟩,⟨XT 3 5 16,1,2⟩,⟨mv 6 18,2,2⟩]) (.seq (XS [mv 19 3,XC 20 .add 19 1,XF 21 0 1,XO 22 21,XN 23 22,XB 24 .lss 20 23] (XD 24 (.draw [⟨XF 25 0 1,0,0⟩,⟨XO 26 25,0,0⟩,⟨mv 27 3,0,0⟩,⟨XC 28 .add 27 1,0,0⟩,⟨XI 29 14 26 28,0,0⟩,⟨XF 30 0 29,0,0⟩,⟨XP 31 3 30,0,0⟩,⟨XF 32 0 1,0,1⟩,⟨XO 33 32,0,1⟩,⟨mv 34 3,0,1⟩,⟨XC 35 .add 34 1,0,1⟩,⟨XI 36 14 33 35,0,1⟩,⟨XF 37 12 36,0,1⟩,⟨XO 38 37,0,1⟩,⟨XT 3 5 31,0,1⟩,⟨mv 6 38,1,1⟩]) .skip)) (XS [XP 39 14 4,XP 40 3 5,mv 41 6,XK3 42 585 39 40 41,XU 43 42] (XD 43 (XS [XJ 2] (XZ [2])) .skip)))))) (.reg [XC 44 .add 10 1,mv 10 44])))) (XG [1,8,9,10]))
def b583:AX:= (XS [XX 1 5 0,XJ 2] (.seq (XS [XF 7 0 1,XO 8 7,XN 9 8,XL 10 0] (.lp 0 (XG [1,8,9,10]) l583_0 (XG []))) (XS [XA 2 (.b true)] (XZ [2]))))
def l584_0:AX:= (.note (XS [XB 16 .lss 15 14] (.seq (XQ 16 2) (.seq (.block 3 (XS [XI 17 3 13 15,XP 18 3 17,XM 6,XT 3 6 18] (XS [XP 19 3 6,XK1 20 208 19,XU 21 20] (XD 21 (XS [XJ 2] (XZ [2])) .skip)))) (.reg [XC 22 .add 15 1,mv 15 22])))) (XG [7,8,9,13,14,15]))
def l584_1:AX:= (.note (XS [XB 10 .lss 9 8] (.seq (XQ 10 0) (.seq (.block 1 (XS [XI 11 1 7 9,XO 12 11,mv 4 12] (XS [mv 13 4,XN 14 13,XL 15 0] (.lp 2 (XG [7,8,9,13,14,15]) l584_0 (XG [7,8,9]))))) (.reg [XC 23 .add 9 1,mv 9 23])))) (XG [7,8,9]))
def b584:AX:= (XS [XJ 2] (.seq (XS [mv 7 0,XN 8 7,XL 9 0] (.lp 0 (XG [7,8,9]) l584_1 (XG []))) (XS [XA 2 (.b true)] (XZ [2]))))
def b585:AX:= (XS [XX 3 14 0,XX 4 3 1,XJ 6] (.seq (XS [XF 7 13 3,XO 8 7] (XD 8 (.seq (.drawT [XP 9 3 4,XF 10 0 3,XP 11 3 10,XF 12 6 3,XP 13 3 12,XK2 14 215 11 13] [XK2 15 212 9 14,mv 6 15]) (XZ [6])) .skip)) (XS [XP 16 3 4,XF 17 0 3,XP 18 3 17,XK2 19 212 16 18,mv 20 19,VM 21 20 true 2,VF 22 20 true 12 3,VO 23 20 true 22,gd 24 20 true (.call 265 [(.t 21),(.t 23)]),XW 25 20 24,mv 6 25] (XZ [6]))))
def row513:AFx:=⟨1,38,[.t 2,.t 3],b513,none,false⟩
def row532:AFx:=XrV 1 40 2 b532
def row533:AFx:=XrV 1 6 2 b533
def row549:AFx:=XrV 1 12 2 b549
def row576:AFx:=XrV 1 6 2 b576
def row579:AFx:=XrV 1 24 2 b579
def row580:AFx:=XrV 1 27 2 b580
def row581:AFx:=XrV 1 30 2 b581
def row582:AFx:=XrV 1 37 2 b582
def row583:AFx:=XrV 1 45 2 b583
def row584:AFx:=XrV 1 24 2 b584
def row585:AFx:=XrV 3 26 6 b585
class Zam (T:Tbl):Prop where
 h513:T 513=some row513
 h532:T 532=some row532
 h533:T 533=some row533
 h549:T 549=some row549
 h576:T 576=some row576
 h579:T 579=some row579
 h580:T 580=some row580
 h581:T 581=some row581
 h582:T 582=some row582
 h583:T 583=some row583
 h584:T 584=some row584
 h585:T 585=some row585
section
variable{T:Tbl}[Zam T]{d:Option Nat}{st:St}{xs:List AV}{ps:List Opd}{e:Env}{h:Heap}{ol:List Heap}
@[simp] theorem x513:XRx T 513:=xrx Zam.h513
@[simp] theorem x532:XRx T 532:=xrx Zam.h532
@[simp] theorem x533:XRx T 533:=xrx Zam.h533
@[simp] theorem y533:XRy T 533:=xry Zam.h533
@[simp] theorem x549:XRx T 549:=xrx Zam.h549
@[simp] theorem y549:XRy T 549:=xry Zam.h549
@[simp] theorem x576:XRx T 576:=xrx Zam.h576
@[simp] theorem x579:XRx T 579:=xrx Zam.h579
@[simp] theorem x580:XRx T 580:=xrx Zam.h580
@[simp] theorem x581:XRx T 581:=xrx Zam.h581
@[simp] theorem x582:XRx T 582:=xrx Zam.h582
@[simp] theorem x583:XRx T 583:=xrx Zam.h583
@[simp] theorem x584:XRx T 584:=xrx Zam.h584
@[simp] theorem x585:XRx T 585:=xrx Zam.h585
end
end Go.Ab
end
section
namespace Go.Ab
class Zej (T:Tbl):Prop where
end Go.Ab
end
section
namespace Go.Ab
def b536:AX:= (XS [XX 1 5 0,XJ 2] (XS [XP 3 5 1,XK1 4 551 3,XC 5 .eql 4 0,mv 2 5] (XZ [2])))
def b551:AX:= (XS [XX 1 5 0,XL 2 0] (XS [rg 4 (.call 205 [(.c (.i .i64 1))]),XM 3,XT 3 3 4] (.seq (.block 0 (XS [XF 6 0 1,XO 7 6,rg 8 (.build [(.i .i64 0),(.s []),(.i .i64 0)] [(0,1,(.c (.i .i64 2))),(1,1,(.t 7))]),XK1 9 172 8,XU 10 9,mv 5 10] (XD 5 (XS [XL 2 1] (XZ [2])) (XS [XP 12 5 1,XK1 13 559 12,XU 14 13,mv 11 14] (XD 11 (XS [XL 2 2] (XZ [2])) (XS [XF 16 2 1,XO 17 16,XK1 18 560 17,XU 19 18,mv 20 19,VF 21 20 false 3 1,VO 22 20 false 21,VF 23 20 false 1 1,VO 24 20 false 23,VF 25 20 false 4 1,VO 26 20 false 25,gd 27 20 false (.bsl 1 [(.sl [] .nl)] 3 [(0,(.t 22)),(1,(.t 24)),(2,(.t 26))]),gd 28 20 false (.call 560 [(.t 27)]),VU 29 20 false 28,XY 30 20 29,mv 15 30] (XD 15 (XS [XL 2 3] (XZ [2])) (XS [XP 32 5 1,XK1 33 561 32,XU 34 33,mv 31 34] (XD 31 (XS [XL 2 4] (XZ [2])) (.seq (.drawT [XF 36 3 1,XO 37 36,XK1 38 562 37,XP 39 3 3] [XK2 40 212 38 39,XU 41 40,mv 35 41]) (XD 35 (XS [XL 2 5] (XZ [2])) (.seq (.drawT [XF 43 4 1,XO 44 43,XN 45 44,XC 46 .gtr 45 0,mv 47 46,VF 48 47 true 4 1,VO 49 47 true 48,gd 50 47 true (.call 562 [(.t 49)]),VP 51 47 true 3 3] [gd 52 47 true (.call 212 [(.t 50),(.t 51)]),VU 53 47 true 52,XW 54 47 53,mv 42 54]) (XD 42 (XS [XL 2 6] (XZ [2])) .skip))))))))))))) (XS [XL 2 0] (XZ [2])))))
def l559_0:AX:= (.note (XS [XB 46 .lss 45 44] (.seq (XQ 46 0) (.seq (.block 1 (XS [mv 47 45,XI 48 1 43 45,XO 49 48,mv 4 47,mv 5 49] (XS [mv 50 5,XN 51 50,mv 52 4,XB 53 .neq 51 52] (XD 53 (XS [XJ 2] (XZ [2])) .skip)))) (.reg [XC 54 .add 45 1,mv 45 54])))) (XG [43,44,45]))
def b559:AX:= (XS [XX 1 5 0,XJ 2] (XS [XF 6 3 1,XO 7 6,XN 8 7,mv 3 8] (.seq (XS [mv 9 3,XC 10 .lss 9 1,mv 11 10,VM 12 11 false 3,VC 13 11 false .gtr 12 8,XY 14 11 13,mv 15 14,VF 16 15 false 1 1,VO 17 15 false 16,VN 18 15 false 17,VM 19 15 false 3,VB 20 15 false .neq 18 19,XY 21 15 20,mv 22 21,VF 23 22 false 2 1,VO 24 22 false 23,VN 25 22 false 24,VM 26 22 false 3,VB 27 22 false .neq 25 26,XY 28 22 27,mv 29 28,VF 30 29 false 4 1,VO 31 29 false 30,VN 32 29 false 31,VM 33 29 false 3,VB 34 29 false .neq 32 33,VM 35 29 false 34,VF 36 35 true 4 1,VO 37 35 true 36,VN 38 35 true 37,VC 39 35 true .neq 38 0,gd 40 29 false (.pick (.t 35) (.t 39) (.c (.b false))),XY 41 29 40] (XD 41 (XS [XJ 2] (XZ [2])) .skip)) (.seq (XS [XF 42 2 1,XO 43 42,XN 44 43,XL 45 0] (.lp 0 (XG [43,44,45]) l559_0 (XG []))) (XS [XA 2 (.b true)] (XZ [2]))))))
def l560_0:AX:= (.note (XS [XB 16 .lss 15 14] (.seq (XQ 16 2) (.seq (.block 3 (XS [XI 17 3 13 15,XP 18 3 17,XM 6,XT 3 6 18] (XS [XP 19 3 6,XK1 20 208 19,XU 21 20,mv 22 21,VP 23 22 false 3 6,gd 24 22 false (.call 223 [(.t 23)]),VC 25 22 false .gtr 24 190,XY 26 22 25] (XD 26 (XS [XJ 2] (XZ [2])) .skip)))) (.reg [XC 27 .add 15 1,mv 15 27])))) (XG [7,8,9,13,14,15]))
def l560_1:AX:= (.note (XS [XB 10 .lss 9 8] (.seq (XQ 10 0) (.seq (.block 1 (XS [XI 11 1 7 9,XO 12 11,mv 4 12] (XS [mv 13 4,XN 14 13,XL 15 0] (.lp 2 (XG [7,8,9,13,14,15]) l560_0 (XG [7,8,9]))))) (.reg [XC 28 .add 9 1,mv 9 28])))) (XG [7,8,9]))
def b560:AX:= (XS [XJ 2] (.seq (XS [mv 7 0,XN 8 7,XL 9 0] (.lp 0 (XG [7,8,9]) l560_1 (XG []))) (XS [XA 2 (.b true)] (XZ [2]))))
def l561_0:AX:= (.note (XS [XB 9 .lss 8 7] (.seq (XQ 9 0) (.seq (.block 1 (XS [mv 10 8,XI 11 1 6 8,XO 12 11,mv 3 10,mv 4 12] (.seq (.drawT [mv 13 4,XK1 14 562 13,XF 15 1 1,XO 16 15,mv 17 3,XI 18 3 16 17,XP 19 3 18] [XK2 20 212 14 19,XU 21 20]) (XD 21 (XS [XJ 2] (XZ [2])) .skip)))) (.reg [XC 22 .add 8 1,mv 8 22])))) (XG [1,6,7,8]))
def b561:AX:= (XS [XX 1 5 0,XJ 2] (.seq (XS [XF 5 2 1,XO 6 5,XN 7 6,XL 8 0] (.lp 0 (XG [1,6,7,8]) l561_0 (XG []))) (XS [XA 2 (.b true)] (XZ [2]))))
def l562_0:AX:= (.note (XS [XB 10 .lss 9 8] (.seq (XQ 10 0) (.seq (.block 1 (XS [XI 11 3 7 9,XP 12 3 11,XM 5,XT 3 5 12] (.reg [XP 13 3 3,XP 14 3 5,XK2 15 215 13 14,XT 3 3 15]))) (.reg [XC 16 .add 9 1,mv 9 16])))) (XG [2,3,7,8,9]))
def b562:AX:= (XS [XM 2] (XS [rg 6 (.call 205 [(.c (.i .i64 0))]),XM 3,XT 3 3 6] (.seq (XS [mv 7 0,XN 8 7,XL 9 0] (.lp 0 (XG [2,3,7,8,9]) l562_0 (XG [2,3]))) (XS [XP 17 3 3,XT 3 2 17] (XZ [2])))))
def row536:AFx:=XrV 1 6 2 b536
def row551:AFx:=XrV 1 55 2 b551
def row559:AFx:=XrV 1 55 2 b559
def row560:AFx:=XrV 1 29 2 b560
def row561:AFx:=XrV 1 23 2 b561
def row562:AFx:=XrC 1 18 2 3 b562
class Zag (T:Tbl):Prop where
 h536:T 536=some row536
 h551:T 551=some row551
 h559:T 559=some row559
 h560:T 560=some row560
 h561:T 561=some row561
 h562:T 562=some row562
section
variable{T:Tbl}[Zag T]{d:Option Nat}{st:St}{xs:List AV}{ps:List Opd}{e:Env}{h:Heap}{ol:List Heap}
@[simp] theorem x536:XRx T 536:=xrx Zag.h536
@[simp] theorem x551:XRx T 551:=xrx Zag.h551
@[simp] theorem x559:XRx T 559:=xrx Zag.h559
@[simp] theorem x560:XRx T 560:=xrx Zag.h560
@[simp] theorem x561:XRx T 561:=xrx Zag.h561
@[simp] theorem y562:XRy T 562:=xry Zag.h562
end
end Go.Ab
end
section
namespace Go.Ab
def b524:AX:= (XS [XX 1 11 0,XJ 2] (XS [XF 3 0 1,XP 4 4 3,XK1 5 421 4,mv 6 5,VF 7 6 true 4 1,VP 8 6 true 5 7,gd 9 6 true (.call 536 [(.t 8)]),XW 10 6 9,mv 11 10,VF 12 11 true 9 1,VO 13 11 true 12,VN 14 11 true 13,VF 15 11 true 0 1,VF 16 11 true 3 15,VO 17 11 true 16,VB 18 11 true .eql 14 17,XW 19 11 18,mv 2 19] (XZ [2])))
def b563:AX:= (XS [XX 3 11 0,XX 4 3 1,rg 6 (.alloc [(.b false),(.sl [] .nl),(.sl [] .nl),(.sl [] .nl),(.sl [] .nl)])] (XS [XP 7 3 4,mv 8 2,XF 9 9 3,XO 10 9,rg 11 (.build [(.b false),(.sl [] .nl),(.sl [] .nl),(.sl [] .nl),(.sl [] .nl)] [(0,3,(.t 7)),(3,1,(.t 8)),(4,1,(.t 10))]),XT 5 6 11] (XZ [6])))
def b577:AX:= (XS [XX 3 11 0,XX 4 3 1,XA 6 (.sl [] .nl),rg 7 (.alloc [(.i .i64 0),(.i .i64 0),(.i .i64 0),(.i .i64 0)])] (.seq (XS [XP 8 11 3,XK1 9 524 8,XU 10 9] (XD 10 (XS [rg 11 (.build [(.i .i64 0),(.i .i64 0),(.i .i64 0),(.i .i64 0)] [(0,1,(.c (.i .i64 2)))]),XA 6 (.sl [] .nl),XT 4 7 11] (XZ [6,7])) .skip)) (.seq (.drawT [XF 12 0 3,XP 13 4 12,XP 14 11 3,XP 15 3 4,mv 16 2,XK3 17 563 14 15 16,XF 18 10 3,XO 19 18,XK3 20 389 13 17 19,XE 21 20 0,XE 22 20 1] [mv 6 21,XT 4 7 22]) (XZ [6,7]))))
def row524:AFx:=XrV 1 20 2 b524
def row563:AFx:=XrC 3 12 6 5 b563
def row577:AFx:=⟨3,23,[.t 6,.cell 7 (some 4)],b577,none,false⟩
class Zdn (T:Tbl):Prop where
 h524:T 524=some row524
 h563:T 563=some row563
 h577:T 577=some row577
section
variable{T:Tbl}[Zdn T]{d:Option Nat}{st:St}{xs:List AV}{ps:List Opd}{e:Env}{h:Heap}{ol:List Heap}
@[simp] theorem x524:XRx T 524:=xrx Zdn.h524
@[simp] theorem y563:XRy T 563:=xry Zdn.h563
@[simp] theorem y577:XRy T 577:=xry Zdn.h577
end
end Go.Ab
end
section
namespace Go.Ab
def b496:AX:= (XS [XX 4 11 0,XJ 8] (XS [XF 9 0 4,XP 10 4 9,mv 11 1,mv 12 3,XK3 13 379 10 11 12,mv 14 13,VF 15 14 false 4 4,VP 16 14 false 5 15,VM 17 14 false 2,gd 18 14 false (.call 515 [(.t 16),(.t 17),(.c (.i .i64 4))]),XY 19 14 18,mv 20 19,VF 21 20 false 9 4,VO 22 20 false 21,VM 23 20 false 3,gd 24 20 false (.call 286 [(.t 22),(.c (.i .i64 6)),(.t 23)]),XY 25 20 24,mv 8 25] (XZ [8])))
def l497_0:AX:= (.note (.seq (XS [mv 25 7,XF 26 0 3,XO 27 26,XN 28 27,XB 29 .lss 25 28] (XQ 29 0)) (.seq (.block 1 (XS [XF 32 0 3,XO 33 32,mv 34 7,XI 35 14 33 34,XP 36 14 35,XK1 37 516 36,mv 38 2,rg 39 (.call 286 [(.t 37),(.c (.i .i64 4)),(.t 38)]),mv 40 39,VF 41 40 false 0 3,VO 42 40 false 41,VM 43 40 false 7,VI 44 40 false 14 42 43,VF 45 40 false 12 44,VO 46 40 false 45,VM 47 40 false 2,gd 48 40 false (.call 286 [(.t 46),(.c (.i .i64 8)),(.t 47)]),XY 49 40 48] (XD 49 (XS [XA 6 (.b true)] (XZ [6])) .skip))) (XH 30 7 31))) (XG [2,3,7]))
def b497:AX:= (XS [XX 3 5 0,XJ 6] (.seq (XS [XF 8 0 3,XO 9 8,XN 10 9,mv 11 1,XB 12 .gtr 10 11,mv 13 12,VF 14 13 false 1 3,VP 15 13 false 3 14,VM 16 13 false 2,gd 17 13 false (.call 247 [(.t 15),(.t 16)]),XY 18 13 17,mv 19 18,VF 20 19 false 4 3,VO 21 19 false 20,VM 22 19 false 2,gd 23 19 false (.call 286 [(.t 21),(.c (.i .i64 8)),(.t 22)]),XY 24 19 23] (XD 24 (XS [XA 6 (.b true)] (XZ [6])) .skip)) (.seq (XS [XL 7 0] (.lp 0 (XG [2,3,7]) l497_0 (XG []))) (XS [XJ 6] (XZ [6])))))
def l515_0:AX:= (.note (.seq (XS [mv 40 7,XF 41 2 3,XO 42 41,XN 43 42,XB 44 .lss 40 43] (XQ 44 0)) (.seq (.block 1 (XS [XF 47 2 3,XO 48 47,mv 49 7,XI 50 1 48 49,XO 51 50,mv 52 1,mv 53 2,XK3 54 286 51 52 53] (XD 54 (XS [XA 6 (.b true)] (XZ [6])) .skip))) (XH 45 7 46))) (XG [1,2,3,7]))
def b515:AX:= (XS [XX 3 5 0,XJ 6] (.seq (XS [XF 8 0 3,XO 9 8,rg 10 (.lens (.t 9)),XC 11 .gtr 10 50,mv 12 11,VF 13 12 false 2 3,VO 14 12 false 13,VN 15 12 false 14,VM 16 12 false 1,VB 17 12 false .gtr 15 16,XY 18 12 17,mv 19 18,VF 20 19 false 3 3,VO 21 19 false 20,VM 22 19 false 1,VM 23 19 false 2,gd 24 19 false (.call 286 [(.t 21),(.t 22),(.t 23)]),XY 25 19 24,mv 26 25,VF 27 26 false 1 3,VO 28 26 false 27,VM 29 26 false 1,VM 30 26 false 2,gd 31 26 false (.call 286 [(.t 28),(.t 29),(.t 30)]),XY 32 26 31,mv 33 32,VF 34 33 false 4 3,VO 35 33 false 34,VM 36 33 false 1,VM 37 33 false 2,gd 38 33 false (.call 286 [(.t 35),(.t 36),(.t 37)]),XY 39 33 38] (XD 39 (XS [XA 6 (.b true)] (XZ [6])) .skip)) (.seq (XS [XL 7 0] (.lp 0 (XG [1,2,3,7]) l515_0 (XG []))) (XS [XJ 6] (XZ [6])))))
def b516:AX:= (XS [XX 1 14 0,XA 2 (.sl [] .nl)] (XS [XF 3 0 1,XP 4 3 3,XF 5 3 1,XP 6 3 5,XF 7 6 1,XP 8 3 7,XF 9 9 1,XP 10 3 9,rg 11 (.bsl 3 [(.b false),(.sl [] .nl),(.sl [] .nl)] 4 [(0,(.t 4)),(1,(.t 6)),(2,(.t 8)),(3,(.t 10))]),mv 2 11] (XZ [2])))
def row496:AFx:=XrV 4 26 8 b496
def row497:AFx:=XrV 3 50 6 b497
def row515:AFx:=XrV 3 55 6 b515
def row516:AFx:=XrV 1 12 2 b516
class Za5 (T:Tbl):Prop where
 h496:T 496=some row496
 h497:T 497=some row497
 h515:T 515=some row515
 h516:T 516=some row516
section
variable{T:Tbl}[Za5 T]{d:Option Nat}{st:St}{xs:List AV}{ps:List Opd}{e:Env}{h:Heap}{ol:List Heap}
@[simp] theorem x496:XRx T 496:=xrx Za5.h496
@[simp] theorem x497:XRx T 497:=xrx Za5.h497
@[simp] theorem x515:XRx T 515:=xrx Za5.h515
@[simp] theorem x516:XRx T 516:=xrx Za5.h516
end
end Go.Ab
end
section
namespace Go.Ab
def l500_0:AX:= (.note (.seq (XS [mv 13 4,XF 14 0 1,XO 15 14,XN 16 15,XB 17 .lss 13 16] (XQ 17 0)) (.seq (.block 1 (XS [XF 20 0 1,XO 21 20,mv 22 4,XI 23 14 21 22,XP 24 14 23,rg 5 (.alloc [(.b false),(.sl [] .nl),(.sl [] .nl),(.b false),(.sl [] .nl),(.sl [] .nl),(.b false),(.sl [] .nl),(.sl [] .nl),(.b false),(.sl [] .nl),(.sl [] .nl),(.sl [] .nl),(.b false)]),XT 14 5 24] (.drawT [XF 25 0 3,XO 26 25,XF 27 0 5,XP 28 3 27,XK1 29 248 28,XF 30 3 5,XP 31 3 30,XK1 32 248 31,XF 33 6 5,XP 34 3 33,XK1 35 248 34,XF 36 9 5,XP 37 3 36,XK1 38 248 37,XF 39 12 5,XO 40 39,XK1 41 287 40,XF 42 13 5,XO 43 42,rg 44 (.build [(.b false),(.sl [] .nl),(.sl [] .nl),(.b false),(.sl [] .nl),(.sl [] .nl),(.b false),(.sl [] .nl),(.sl [] .nl),(.b false),(.sl [] .nl),(.sl [] .nl),(.sl [] .nl),(.b false)] [(0,3,(.t 29)),(3,3,(.t 32)),(6,3,(.t 35)),(9,3,(.t 38)),(12,1,(.t 41)),(13,1,(.t 43))]),rg 45 (.bsl 14 [(.b false),(.sl [] .nl),(.sl [] .nl),(.b false),(.sl [] .nl),(.sl [] .nl),(.b false),(.sl [] .nl),(.sl [] .nl),(.b false),(.sl [] .nl),(.sl [] .nl),(.sl [] .nl),(.b false)] 1 [(0,(.t 44))])] [rg 46 (.app 14 (.t 26) (.t 45)),XF 47 0 3,XT 1 47 46]))) (XH 18 4 19))) (XG [1,2,3,4]))
def b500:AX:= (XS [XX 1 5 0,rg 2 (.alloc [(.sl [] .nl),(.b false),(.sl [] .nl),(.sl [] .nl),(.sl [] .nl)])] (.seq (.draw [⟨XF 6 1 1,0,1⟩,⟨XP 7 3 6,0,1⟩,⟨XK1 8 248 7,0,1⟩,⟨XF 9 4 1,0,1⟩,⟨XO 10 9,0,1⟩,⟨XK1 11 287 10,0,1⟩,⟨rg 12 (.build [(.sl [] .nl),(.b false),(.sl [] .nl),(.sl [] .nl),(.sl [] .nl)] [(1,3,(.t 8)),(4,1,(.t 11))]),0,1⟩,⟨rg 3 (.alloc [(.sl [] .nl),(.b false),(.sl [] .nl),(.sl [] .nl),(.sl [] .nl)]),0,1⟩,⟨XT 5 3 12,1,2⟩]) (.seq (XS [XL 4 0] (.pre (.fld 3 0 0 14) (.lp 0 (XG [1,2,3,4]) l500_0 (XG [2,3])))) (XS [XP 48 5 3,XT 5 2 48] (XZ [2])))))
def b507:AX:= (XS [XX 1 11 0,rg 2 (.alloc [(.sl [] .nl),(.sl [] .nl),(.i .i64 0),(.i .i64 0),(.s []),(.sl [] .nl),(.sl [] .nl),(.sl [] .nl),(.sl [] .nl),(.sl [] .nl),(.i .i64 0)])] (.seq (.drawT [XF 3 0 1,XP 4 4 3,XK1 5 382 4,XF 6 4 1,XP 7 5 6,XK1 8 527 7,XF 9 9 1,XO 10 9,XK1 11 287 10,XF 12 10 1,XO 13 12] [rg 14 (.build [(.sl [] .nl),(.sl [] .nl),(.i .i64 0),(.i .i64 0),(.s []),(.sl [] .nl),(.sl [] .nl),(.sl [] .nl),(.sl [] .nl),(.sl [] .nl),(.i .i64 0)] [(0,4,(.t 5)),(4,5,(.t 8)),(9,1,(.t 11)),(10,1,(.t 13))]),XT 11 2 14]) (XZ [2])))
def b527:AX:= (XS [XX 1 5 0,rg 2 (.alloc [(.s []),(.sl [] .nl),(.sl [] .nl),(.sl [] .nl),(.sl [] .nl)])] (.seq (.drawT [XF 3 0 1,XO 4 3,XF 5 1 1,XO 6 5,XK1 7 287 6,XF 8 2 1,XO 9 8,XK1 10 308 9,XF 11 3 1,XO 12 11,XK1 13 287 12,XF 14 4 1,XO 15 14,XK1 16 287 15] [rg 17 (.build [(.s []),(.sl [] .nl),(.sl [] .nl),(.sl [] .nl),(.sl [] .nl)] [(0,1,(.t 4)),(1,1,(.t 7)),(2,1,(.t 10)),(3,1,(.t 13)),(4,1,(.t 16))]),XT 5 2 17]) (XZ [2])))
def row500:AFx:=XrC 1 49 2 5 b500
def row507:AFx:=XrC 1 15 2 11 b507
def row527:AFx:=XrC 1 18 2 5 b527
class Zex (T:Tbl):Prop where
 h500:T 500=some row500
 h507:T 507=some row507
 h527:T 527=some row527
section
variable{T:Tbl}[Zex T]{d:Option Nat}{st:St}{xs:List AV}{ps:List Opd}{e:Env}{h:Heap}{ol:List Heap}
@[simp] theorem x500:XRx T 500:=xrx Zex.h500
@[simp] theorem x507:XRx T 507:=xrx Zex.h507
@[simp] theorem y527:XRy T 527:=xry Zex.h527
end
end Go.Ab
end
section
namespace Go.Ab
def b323:AX:= (XS [XJ 0] (XS [rg 7 (.call 205 [(.c (.i .i64 0))]),XV 8 7,mv 1 8] (XS [rg 9 (.call 205 [(.c (.i .i64 0))]),rg 10 (.call 205 [(.c (.i .i64 2))]),mv 11 1,rg 12 (.call 205 [(.c (.i .i64 8))]),XV 13 12,mv 14 1,rg 15 (.call 205 [(.c (.i .i64 12))]),XV 16 15,rg 17 (.build [(.b false),(.sl [] .nl),(.sl [] .nl),(.b false),(.sl [] .nl),(.sl [] .nl),(.sl [] .nl),(.sl [] .nl),(.sl [] .nl),(.sl [] .nl)] [(0,3,(.t 9)),(3,3,(.t 10)),(6,1,(.t 11)),(7,1,(.t 13)),(8,1,(.t 14)),(9,1,(.t 16))]),rg 2 (.alloc [(.b false),(.sl [] .nl),(.sl [] .nl),(.b false),(.sl [] .nl),(.sl [] .nl),(.sl [] .nl),(.sl [] .nl),(.sl [] .nl),(.sl [] .nl)]),XT 10 2 17] (.seq (.drawT [XP 19 10 2,rg 20 (.call 205 [(.c (.i .i64 1))]),XK2 21 324 19 20,mv 18 21,XE 22 18 0,XE 23 18 1,mv 3 22] [mv 4 23]) (.seq (.drawT [XP 25 10 2,rg 26 (.call 205 [(.c (.i .i64 1))]),XK2 27 326 25 26,mv 24 27,XE 28 24 0,XE 29 24 1,mv 5 28] [mv 6 29]) (XS [mv 30 4,mv 31 30,VM 32 31 true 6,XW 33 31 32,mv 34 33,VM 35 34 true 3,gd 36 34 true (.call 274 [(.t 35)]),gd 37 34 true (.bin .eql (.t 36) (.c (.s [49]))),XW 38 34 37,mv 39 38,VM 40 39 true 5,gd 41 39 true (.call 274 [(.t 40)]),gd 42 39 true (.bin .eql (.t 41) (.c (.s [51]))),XW 43 39 42,mv 0 43] (XZ [0])))))))
def row323:AFx:=XrV 0 44 0 b323
class Ze7 (T:Tbl):Prop where
 h323:T 323=some row323
section
variable{T:Tbl}[Ze7 T]{d:Option Nat}{st:St}{xs:List AV}{ps:List Opd}{e:Env}{h:Heap}{ol:List Heap}
@[simp] theorem x323:XRx T 323:=xrx Ze7.h323
end
end Go.Ab
end
section
namespace Go.Ab
class Zk2 (T:Tbl):Prop where
end Go.Ab
end
section
namespace Go.Ab
def b243:AX:= (XS [XX 2 3 0,XX 3 3 1,XL 4 0] (XS [XP 5 3 2,XP 6 3 3,XK2 7 240 5 6,XK1 8 236 7,mv 4 8] (XZ [4])))
def b245:AX:= (XS [XX 1 3 0,XL 2 0] (.seq (.drawT [XF 3 1 1,XO 4 3,XK1 5 95 4,XF 6 2 1,XO 7 6] [XK1 8 95 7,XB 9 .add 5 8,mv 2 9]) (XZ [2])))
def row243:AFx:=XrV 2 9 4 b243
def row245:AFx:=XrV 1 10 2 b245
class Zcw (T:Tbl):Prop where
 h243:T 243=some row243
 h245:T 245=some row245
section
variable{T:Tbl}[Zcw T]{d:Option Nat}{st:St}{xs:List AV}{ps:List Opd}{e:Env}{h:Heap}{ol:List Heap}
@[simp] theorem x243:XRx T 243:=xrx Zcw.h243
@[simp] theorem y243:XRy T 243:=xry Zcw.h243
@[simp] theorem x245:XRx T 245:=xrx Zcw.h245
end
end Go.Ab
end
section
namespace Go.Ab
def l244_0:AX:= (.note (.seq (XS [mv 25 7,mv 26 1,XB 27 .lss 25 26] (XQ 27 0)) (.seq (.block 1 (.reg [XP 30 3 6,XP 31 3 2,XK2 32 241 30 31,XT 3 6 32])) (XH 28 7 29))) (XG [1,2,4,6,7]))
def l244_1:AX:= (.note (.seq (XS [mv 33 8,mv 34 1,XB 35 .gtr 33 34] (XQ 35 2)) (.seq (.block 3 (.reg [XP 38 3 6,XP 39 3 2,XK2 40 242 38 39,XT 3 6 40])) (.reg [mv 36 8,XC 37 .sub 36 1,mv 8 37]))) (XG [1,2,4,6,8]))
def b244:AX:= (XS [XX 2 3 0,XM 4,XJ 5] (.seq (XS [mv 9 1,rg 10 (.bin .lss (.t 9) (.c (.i .i64 (-8)))),mv 11 10,VM 12 11 false 1,VC 13 11 false .gtr 12 8,XY 14 11 13,mv 15 14,VM 16 15 false 1,VC 17 15 false .lss 16 0,VM 18 15 false 17,VP 19 18 true 3 2,gd 20 18 true (.call 235 [(.t 19)]),gd 21 15 false (.pick (.t 18) (.t 20) (.c (.b false))),XY 22 15 21] (XD 22 (XS [rg 23 (.call 232 [(.c (.i .i64 0))]),XT 3 4 23,XJ 5] (XZ [4,5])) .skip)) (XS [rg 24 (.call 232 [(.c (.i .i64 1))]),XM 6,XT 3 6 24] (.seq (XS [XL 7 0] (.lp 0 (XG [1,2,4,6,7]) l244_0 (XG [1,2,4,6]))) (.seq (XS [XL 8 0] (.lp 2 (XG [1,2,4,6,8]) l244_1 (XG [4,6]))) (XS [XP 41 3 6,XT 3 4 41,XA 5 (.b true)] (XZ [4,5])))))))
def row244:AFx:=⟨2,42,[.cell 4 (some 3),.t 5],b244,none,false⟩
class Zd6 (T:Tbl):Prop where
 h244:T 244=some row244
section
variable{T:Tbl}[Zd6 T]{d:Option Nat}{st:St}{xs:List AV}{ps:List Opd}{e:Env}{h:Heap}{ol:List Heap}
@[simp] theorem x244:XRx T 244:=xrx Zd6.h244
end
end Go.Ab
end
section
namespace Go.Ab
def b189:AX:= (XS [XJ 2] (XS [mv 3 0,rg 4 (.bin .geq (.t 3) (.c (u8 48))),mv 5 4,VM 6 5 true 0,gd 7 5 true (.bin .leq (.t 6) (.c (u8 57))),XW 8 5 7,mv 2 8] (XZ [2])))
def b190:AX:= (XS [XJ 2] (XS [mv 3 0,rg 4 (.bin .geq (.t 3) (.c (u8 97))),mv 5 4,VM 6 5 true 0,gd 7 5 true (.bin .leq (.t 6) (.c (u8 122))),XW 8 5 7,mv 9 8,VM 10 9 false 0,gd 11 9 false (.bin .geq (.t 10) (.c (u8 65))),VM 12 9 false 11,VM 13 12 true 0,gd 14 12 true (.bin .leq (.t 13) (.c (u8 90))),gd 15 9 false (.pick (.t 12) (.t 14) (.c (.b false))),XY 16 9 15,mv 17 16,VM 18 17 false 0,gd 19 17 false (.bin .eql (.t 18) (.c (u8 95))),XY 20 17 19,mv 2 20] (XZ [2])))
def l181_0:AX:= (.note (.seq (XS [mv 9 4,mv 10 3,rg 11 (.lens (.t 10)),XB 12 .lss 9 11] (XQ 12 0)) (.seq (.block 1 (XS [mv 15 3,mv 16 4,rg 17 (.ixs (.t 15) (.t 16)),mv 18 0,XB 19 .eql 17 18] (XD 19 (XS [XL 2 3] (XZ [2])) .skip))) (XH 13 4 14))) (XG [0,3,4]))
def b181:AX:= (XS [XL 2 0] (.seq (XS [mv 5 0,XK1 6 189 5] (XD 6 (XS [XL 2 1] (XZ [2])) .skip)) (.seq (XS [mv 7 0,XK1 8 190 7] (XD 8 (XS [XL 2 2] (XZ [2])) .skip)) (XS [XA 3 (.s [43,45,42,47,94,40,41,91,93,44,59,61])] (.seq (XS [XL 4 0] (.lp 0 (XG [0,3,4]) l181_0 (XG []))) (XS [XL 2 0] (XZ [2])))))))
def b180:AX:= (XS [XJ 4] (XS [mv 5 0,XC 6 .eql 5 1,mv 7 6,VM 8 7 true 1,gd 9 7 true (.call 189 [(.t 8)]),XW 10 7 9,mv 11 10,VM 12 11 false 0,VC 13 11 false .eql 12 2,VM 14 11 false 13,VM 15 14 true 1,gd 16 14 true (.call 189 [(.t 15)]),VM 17 14 true 16,VM 18 17 false 1,gd 19 17 false (.call 190 [(.t 18)]),gd 20 14 true (.pick (.t 17) (.c (.b true)) (.t 19)),gd 21 11 false (.pick (.t 14) (.t 20) (.c (.b false))),XY 22 11 21,mv 4 22] (XZ [4])))
def b182:AX:= (XS [XL 2 0] (.seq (XS [mv 3 0,XC 4 .eql 3 1] (XD 4 (XS [XL 2 60] (XZ [2])) .skip)) (.seq (XS [mv 5 0,XC 6 .eql 5 2] (XD 6 (XS [XL 2 12] (XZ [2])) .skip)) (XS [XL 2 1] (XZ [2])))))
def l168_0:AX:= (.note (.seq (XS [mv 14 6,mv 15 0,rg 16 (.lens (.t 15)),XB 17 .lss 14 16] (XQ 17 0)) (.seq (.block 1 (XS [mv 20 0,mv 21 6,rg 22 (.ixs (.t 20) (.t 21)),mv 7 22] (.seq (XS [mv 23 7,rg 24 (.bin .eql (.t 23) (.c (u8 10)))] (XD 24 (.reg [XJ 5]) .skip)) (.seq (XS [mv 25 7,rg 26 (.bin .eql (.t 25) (.c (u8 35)))] (XD 26 (.reg [XA 5 (.b true)]) .skip)) (.seq (XS [mv 27 5,mv 28 27,VM 29 28 false 7,gd 30 28 false (.bin .eql (.t 29) (.c (u8 32))),XY 31 28 30,mv 32 31,VM 33 32 false 7,gd 34 32 false (.bin .eql (.t 33) (.c (u8 9))),XY 35 32 34,mv 36 35,VM 37 36 false 7,gd 38 36 false (.bin .eql (.t 37) (.c (u8 10))),XY 39 36 38,mv 40 39,VM 41 40 false 7,gd 42 40 false (.bin .eql (.t 41) (.c (u8 13))),XY 43 40 42] (XD 43 (.exit 1) .skip)) (XS [mv 44 4,XN 45 44,mv 8 45] (.seq (.seq (.drawT [mv 46 8,XC 47 .gtr 46 0,mv 48 47,VM 49 48 true 4,VM 50 48 true 8,VC 51 48 true .sub 50 1,VI 52 48 true 3 49 51,VF 53 48 true 2 52,VO 54 48 true 53,VM 55 48 true 4,VM 56 48 true 8,VC 57 48 true .sub 56 1,VI 58 48 true 3 55 57,VF 59 48 true 1 58,VO 60 48 true 59,gd 61 48 true (.lens (.t 60)),VB 62 48 true .add 54 61,VM 63 48 true 6,VB 64 48 true .eql 62 63,XW 65 48 64,mv 66 65,VM 67 66 true 4,VM 68 66 true 8,VC 69 66 true .sub 68 1,VI 70 66 true 3 67 69,VF 71 66 true 0 70,VO 72 66 true 71,VM 73 66 true 7] [gd 74 66 true (.call 180 [(.t 72),(.t 73)]),XW 75 66 74]) (XD 75 (.drawT [mv 76 4,mv 77 8,XC 78 .sub 77 1,XI 79 3 76 78,XF 80 1 79,XO 81 80,mv 82 0,mv 83 6,mv 84 6,XC 85 .add 84 1,rg 86 (.slstr (.t 82) (some (.t 83)) (some (.t 85)))] [XB 87 .add 81 86,XI 88 3 76 78,XF 89 1 88,XT 1 89 87]) (.drawT [mv 90 4,mv 91 7,XK1 92 181 91,mv 93 0,mv 94 6,mv 95 6,XC 96 .add 95 1,rg 97 (.slstr (.t 93) (some (.t 94)) (some (.t 96))),mv 98 6,rg 99 (.build [(.i .i64 0),(.s []),(.i .i64 0)] [(0,1,(.t 92)),(1,1,(.t 97)),(2,1,(.t 98))]),rg 100 (.bsl 3 [(.i .i64 0),(.s []),(.i .i64 0)] 1 [(0,(.t 99))])] [rg 101 (.app 3 (.t 90) (.t 100)),mv 4 101]))) (XS [mv 102 4,mv 103 4,XN 104 103,XC 105 .sub 104 1,XI 106 3 102 105,XP 107 3 106,rg 9 (.alloc [(.i .i64 0),(.s []),(.i .i64 0)]),XT 3 9 107] (.seq (.drawT [XF 108 0 9,XO 109 108,XC 110 .eql 109 0,mv 111 110,VF 112 111 false 1 9,VO 113 111 false 112,gd 114 111 false (.lens (.t 113)),VF 115 111 false 0 9,VO 116 111 false 115,gd 117 111 false (.call 182 [(.t 116)])] [VB 118 111 false .gtr 114 117,XY 119 111 118]) (XD 119 (XS [rg 120 (.bsl 3 [(.i .i64 0),(.s []),(.i .i64 0)] 0 []),mv 121 6,mv 2 120,mv 3 121] (XZ [2,3])) .skip)))))))))) (XH 18 6 19))) (XG [0,4,5,6]))
def b168:AX:= (XS [XA 2 (.sl [] .nl),XL 3 0] (.seq (XS [mv 10 0,rg 11 (.lens (.t 10)),XC 12 .gtr 11 4000] (XD 12 (XS [rg 13 (.bsl 3 [(.i .i64 0),(.s []),(.i .i64 0)] 0 []),mv 2 13,XL 3 4000] (XZ [2,3])) .skip)) (.seq (.note (.reg [XA 4 (.sl [] .nl)]) (.nil 4 3)) (XS [XJ 5] (.seq (XS [XL 6 0] (.lp 0 (XG [0,4,5,6]) l168_0 (XG [4]))) (XS [mv 122 4,mv 2 122,XA 3 (.i .i64 (-1))] (XZ [2,3])))))))
def b173:AX:= (XS [XX 1 3 0,XJ 2] (XS [XF 6 1 1,XO 7 6,XK1 8 168 7,mv 5 8,XE 9 5 0,XE 10 5 1,mv 3 9,mv 4 10] (.seq (.drawT [mv 11 4,XC 12 .lss 11 0,mv 13 12,VM 14 13 true 3,VN 15 13 true 14,VC 16 13 true .eql 15 1,XW 17 13 16,mv 18 17,VM 19 18 true 3,gd 20 18 true (.iad 3 (.t 19) (.c (.i .i64 0))),VF 21 18 true 0 20,VO 22 18 true 21,VF 23 18 true 0 1,VO 24 18 true 23,VB 25 18 true .eql 22 24,XW 26 18 25,mv 27 26,VM 28 27 true 3,gd 29 27 true (.iad 3 (.t 28) (.c (.i .i64 0))),VF 30 27 true 1 29,VO 31 27 true 30,VF 32 27 true 1 1,VO 33 27 true 32] [VB 34 27 true .eql 31 33,XW 35 27 34,mv 2 35]) (XZ [2]))))
def row189:AFx:=XrV 1 9 2 b189
def row190:AFx:=XrV 1 21 2 b190
def row181:AFx:=XrV 1 20 2 b181
def row180:AFx:=XrV 2 23 4 b180
def row182:AFx:=XrV 1 7 2 b182
def row168:AFx:=⟨1,123,[.t 2,.t 3],b168,none,false⟩
def row173:AFx:=XrV 1 36 2 b173
class Za1 (T:Tbl):Prop where
 h189:T 189=some row189
 h190:T 190=some row190
 h181:T 181=some row181
 h180:T 180=some row180
 h182:T 182=some row182
 h168:T 168=some row168
 h173:T 173=some row173
section
variable{T:Tbl}[Za1 T]{d:Option Nat}{st:St}
@[simp] theorem x189:XRx T 189:=xrx Za1.h189
@[simp] theorem x190:XRx T 190:=xrx Za1.h190
@[simp] theorem y181{e:Env}{h:Heap}{older:List Heap}(args:List Opd):opD (orc T) T (.call 181 args) e h older=dR (Za T 181 ((args.map (ev e.get)).map (wkIf false))) (args.map (ev e.get)):=zaf Za1.h181
@[simp] theorem x180:XRx T 180:=xrx Za1.h180
@[simp] theorem y182{e:Env}{h:Heap}{older:List Heap}(args:List Opd):opD (orc T) T (.call 182 args) e h older=dR (Za T 182 ((args.map (ev e.get)).map (wkIf false))) (args.map (ev e.get)):=zaf Za1.h182
@[simp] theorem x168:XRx T 168:=xrx Za1.h168
@[simp] theorem x173:XRx T 173:=xrx Za1.h173
end
end Go.Ab
end
section
namespace Go.Ab
def b465:AX:= (XS [XL 2 0] (XS [mv 3 0,rg 4 (.mm true [(.t 3),(.c (.i .i64 0))]),rg 5 (.mm false [(.t 4),(.c (.i .i64 4096))]),mv 2 5] (XZ [2])))
def b475:AX:= (XS [XX 6 3 2,XX 7 3 3,XM 8,XJ 9] (.seq (XS [mv 10 0,XC 11 .eql 10 6] (XD 11 (XS [XP 12 3 6,XK1 13 237 12,XT 3 8 13,XA 9 (.b true)] (XZ [8,9])) .skip)) (.seq (XS [mv 14 0,XC 15 .eql 14 7] (XD 15 (XS [XP 16 3 6,XP 17 3 7,XK2 18 239 16 17,XT 3 8 18,XA 9 (.b true)] (XZ [8,9])) .skip)) (.seq (XS [mv 19 0,XC 20 .eql 19 8] (XD 20 (XS [XP 21 3 6,XP 22 3 7,XK2 23 240 21 22,XT 3 8 23,XA 9 (.b true)] (XZ [8,9])) .skip)) (.seq (XS [mv 24 0,XC 25 .eql 24 9] (XD 25 (XS [XP 26 3 6,XP 27 3 7,XK2 28 241 26 27,XT 3 8 28,XA 9 (.b true)] (XZ [8,9])) .skip)) (.seq (XS [mv 29 0,XC 30 .eql 29 11] (XD 30 (XS [XP 31 3 6,mv 32 1,XK2 33 244 31 32,XE 34 33 0,XE 35 33 1,XT 3 8 34,mv 9 35] (XZ [8,9])) .skip)) (.seq (XS [XP 36 3 7,XK1 37 235 36] (XD 37 (XS [XP 38 3 7,XT 3 8 38,XJ 9] (XZ [8,9])) .skip)) (XS [XP 39 3 6,XP 40 3 7,XK2 41 242 39 40,XT 3 8 41,XA 9 (.b true)] (XZ [8,9])))))))))
def b476:AX:= (XS [XX 2 3 0,XJ 4] (XS [XP 5 3 2,XK1 6 245 5,mv 7 1,XB 8 .leq 6 7,mv 4 8] (XZ [4])))
def row465:AFx:=XrV 1 6 2 b465
def row475:AFx:=⟨4,42,[.cell 8 (some 3),.t 9],b475,none,false⟩
def row476:AFx:=XrV 2 9 4 b476
class Zc2 (T:Tbl):Prop where
 h465:T 465=some row465
 h475:T 475=some row475
 h476:T 476=some row476
section
variable{T:Tbl}[Zc2 T]{d:Option Nat}{st:St}{xs:List AV}{ps:List Opd}{e:Env}{h:Heap}{ol:List Heap}
@[simp] theorem x465:XRx T 465:=xrx Zc2.h465
@[simp] theorem y475:XRy T 475:=xry Zc2.h475
@[simp] theorem x476:XRx T 476:=xrx Zc2.h476
end
end Go.Ab
end
section
namespace Go.Ab
def l528_0:AX:= (.note (.seq (XS [mv 29 3,XF 30 0 1,XO 31 30,XN 32 31,XB 33 .lss 29 32] (XQ 33 0)) (.seq (.block 1 (.seq (.drawT [XF 36 0 1,XO 37 36,mv 38 3,XI 39 6 37 38,XP 40 6 39,mv 41 3,XF 42 2 1,XO 43 42,XF 44 3 1,XO 45 44] [XK4 46 539 40 41 43 45,XU 47 46]) (XD 47 (XS [mv 48 3,mv 2 48] (XZ [2])) .skip))) (XH 34 3 35))) (XG [1,3]))
def l528_1:AX:= (.note (.seq (XS [mv 49 4,XF 50 1 1,XO 51 50,XN 52 51,XB 53 .lss 49 52] (XQ 53 2)) (.seq (.block 3 (.seq (.drawT [XF 56 1 1,XO 57 56,mv 58 4,XI 59 1 57 58,XO 60 59,XF 61 0 1,XO 62 61,XN 63 62,XC 64 .sub 63 1] [rg 65 (.call 538 [(.t 60),(.c (.i .i64 0)),(.t 64)]),XU 66 65]) (XD 66 (XS [XF 67 0 1,XO 68 67,XN 69 68,mv 2 69] (XZ [2])) .skip))) (XH 54 4 55))) (XG [1,4]))
def b528:AX:= (XS [XX 1 4 0,XL 2 0] (.seq (XS [XF 5 2 1,XO 6 5,rg 7 (.call 538 [(.t 6),(.c (.i .i64 1)),(.c (.i .i64 6))]),XU 8 7,mv 9 8,VF 10 9 false 3 1,VO 11 9 false 10,gd 12 9 false (.call 538 [(.t 11),(.c (.i .i64 0)),(.c (.i .i64 6))]),VU 13 9 false 12,XY 14 9 13,mv 15 14,VF 16 15 false 1 1,VO 17 15 false 16,VN 18 15 false 17,VF 19 15 false 2 1,VO 20 15 false 19,VB 21 15 false .neq 18 20,XY 22 15 21,mv 23 22,VF 24 23 false 0 1,VO 25 23 false 24,VN 26 23 false 25,VC 27 23 false .gtr 26 300,XY 28 23 27] (XD 28 (XS [XA 2 (.i .i64 (-2))] (XZ [2])) .skip)) (.seq (XS [XL 3 0] (.lp 0 (XG [1,3]) l528_0 (XG [1]))) (.seq (XS [XL 4 0] (.lp 2 (XG [1,4]) l528_1 (XG []))) (XS [XA 2 (.i .i64 (-1))] (XZ [2]))))))
def b538:AX:= (XS [XJ 6] (XS [mv 7 0,mv 8 1,XB 9 .geq 7 8,mv 10 9,VM 11 10 true 0,VM 12 10 true 2,VB 13 10 true .leq 11 12,XW 14 10 13,mv 6 14] (XZ [6])))
def b539:AX:= (XS [XX 4 6 0,XJ 8] (.seq (XS [XF 9 0 4,XO 10 9,XC 11 .eql 10 1] (XD 11 (.seq (.drawT [XF 12 1 4,XO 13 12,XC 14 .eql 13 0,mv 15 14,VF 16 15 true 2 4,VO 17 15 true 16,VC 18 15 true .eql 17 0,XW 19 15 18,mv 20 19,VF 21 20 true 3 4,VP 22 20 true 3 21,gd 23 20 true (.call 231 [(.t 22)]),VF 24 20 true 3 4,VP 25 20 true 3 24] [gd 26 20 true (.call 233 [(.t 23),(.t 25)]),XW 27 20 26,mv 8 27]) (XZ [8])) .skip)) (.seq (XS [XF 28 3 4,XF 29 0 28,XO 30 29,mv 31 30,VF 32 31 false 3 4,VF 33 31 false 1 32,VO 34 31 false 33,VN 35 31 false 34,VC 36 31 false .gtr 35 0,XY 37 31 36,mv 38 37,VF 39 38 false 3 4,VF 40 38 false 2 39,VO 41 38 false 40,VN 42 38 false 41,VC 43 38 false .gtr 42 0,XY 44 38 43] (XD 44 (XS [XJ 8] (XZ [8])) .skip)) (.seq (XS [XF 45 0 4,XO 46 45,XC 47 .eql 46 2] (XD 47 (XS [XF 48 1 4,XO 49 48,XC 50 .eql 49 0,mv 51 50,VF 52 51 true 2 4,VO 53 51 true 52,VC 54 51 true .eql 53 0,XW 55 51 54,mv 8 55] (XZ [8])) .skip)) (.seq (XS [XF 56 0 4,XO 57 56,XC 58 .eql 57 3] (XD 58 (XS [XF 59 1 4,XO 60 59,mv 61 2,XC 62 .sub 61 1,rg 63 (.call 538 [(.t 60),(.c (.i .i64 0)),(.t 62)]),mv 64 63,VF 65 64 true 2 4,VO 66 64 true 65,VC 67 64 true .eql 66 0,XW 68 64 67,mv 8 68] (XZ [8])) .skip)) (.seq (XS [XF 69 0 4,XO 70 69,XC 71 .eql 70 4] (XD 71 (XS [XF 72 1 4,XO 73 72,mv 74 3,XC 75 .sub 74 1,rg 76 (.call 538 [(.t 73),(.c (.i .i64 0)),(.t 75)]),mv 77 76,VF 78 77 true 2 4,VO 79 77 true 78,VC 80 77 true .eql 79 0,XW 81 77 80,mv 8 81] (XZ [8])) .skip)) (.seq (XS [XF 82 0 4,XO 83 82,XC 84 .eql 83 6] (XD 84 (XS [XF 85 1 4,XO 86 85,mv 87 1,XC 88 .sub 87 1,rg 89 (.call 538 [(.t 86),(.c (.i .i64 0)),(.t 88)]),mv 90 89,VF 91 90 true 2 4,VO 92 90 true 91,VC 93 90 true .eql 92 0,XW 94 90 93,mv 8 94] (XZ [8])) .skip)) (.seq (XS [XF 95 0 4,XO 96 95,XC 97 .eql 96 11] (XD 97 (XS [XF 98 1 4,XO 99 98,mv 100 1,XC 101 .sub 100 1,rg 102 (.call 538 [(.t 99),(.c (.i .i64 0)),(.t 101)]),mv 103 102,VF 104 103 true 2 4,VO 105 103 true 104,gd 106 103 true (.call 538 [(.t 105),(.c (.i .i64 (-8))),(.c (.i .i64 8))]),XW 107 103 106,mv 8 107] (XZ [8])) .skip)) (XS [XF 108 0 4,XO 109 108,rg 110 (.call 538 [(.t 109),(.c (.i .i64 7)),(.c (.i .i64 10))]),mv 111 110,VF 112 111 true 1 4,VO 113 111 true 112,VM 114 111 true 1,VC 115 111 true .sub 114 1,gd 116 111 true (.call 538 [(.t 113),(.c (.i .i64 0)),(.t 115)]),XW 117 111 116,mv 118 117,VF 119 118 true 2 4,VO 120 118 true 119,VM 121 118 true 1,VC 122 118 true .sub 121 1,gd 123 118 true (.call 538 [(.t 120),(.c (.i .i64 0)),(.t 122)]),XW 124 118 123,mv 8 124] (XZ [8]))))))))))
def row528:AFx:=XrV 1 70 2 b528
def row538:AFx:=XrV 3 15 6 b538
def row539:AFx:=XrV 4 125 8 b539
class Zb2 (T:Tbl):Prop where
 h528:T 528=some row528
 h538:T 538=some row538
 h539:T 539=some row539
section
variable{T:Tbl}[Zb2 T]{d:Option Nat}{st:St}{xs:List AV}{ps:List Opd}{e:Env}{h:Heap}{ol:List Heap}
@[simp] theorem x528:XRx T 528:=xrx Zb2.h528
@[simp] theorem x538:XRx T 538:=xrx Zb2.h538
@[simp] theorem x539:XRx T 539:=xrx Zb2.h539
end
end Go.Ab
end
section
namespace Go.Ab
def l544_0:AX:= (.note (.seq (XS [mv 13 10,XF 14 0 3,XO 15 14,XN 16 15,XB 17 .lss 13 16] (XQ 17 0)) (.seq (.block 1 (.seq (.draw [⟨XF 21 0 3,0,1⟩,⟨XO 22 21,0,1⟩,⟨mv 23 10,0,1⟩,⟨XI 24 6 22 23,0,1⟩,⟨XP 25 6 24,0,1⟩,⟨XP 26 5 4,0,1⟩,⟨mv 27 9,0,1⟩,⟨XK3 28 558 25 26 27,0,1⟩,⟨mv 20 28,0,1⟩,⟨XE 29 20 0,0,1⟩,⟨XE 30 20 1,0,2⟩,⟨XM 11,0,1⟩,⟨XT 3 11 29,1,2⟩,⟨mv 12 30,2,2⟩]) (.seq (XS [mv 31 12,XU 32 31] (XD 32 (XS [rg 33 (.bsl 3 [(.b false),(.sl [] .nl),(.sl [] .nl)] 0 []),mv 34 10,mv 6 33,XL 7 3,mv 8 34] (XZ [6,7,8])) .skip)) (.seq (XS [XP 35 3 11,mv 36 2,XK2 37 476 35 36,XU 38 37] (XD 38 (XS [rg 39 (.bsl 3 [(.b false),(.sl [] .nl),(.sl [] .nl)] 0 []),mv 40 10,mv 6 39,XL 7 6,mv 8 40] (XZ [6,7,8])) .skip)) (.reg [mv 41 9,XP 42 3 11,XV 43 42,rg 44 (.app 3 (.t 41) (.t 43)),mv 9 44]))))) (XH 18 10 19))) (XG [2,3,4,9,10]))
def b544:AX:= (XS [XX 3 4 0,XX 4 5 1,XA 6 (.sl [] .nl),XL 7 0,XL 8 0] (.seq (.note (.reg [XA 9 (.sl [] .nl)]) (.nil 9 3)) (.seq (.seq (.note (.reg [XL 10 0]) (.shr 9)) (.lp 0 (XG [2,3,4,9,10]) l544_0 (XG [9]))) (XS [mv 45 9,mv 6 45,XL 7 0,XL 8 0] (XZ [6,7,8])))))
def l547_0:AX:= (.note (.seq (XS [mv 7 6,XF 8 1 2,XO 9 8,XN 10 9,XB 11 .lss 7 10] (XQ 11 0)) (.seq (.block 1 (.reg [mv 14 5,mv 15 1,XF 16 1 2,XO 17 16,mv 18 6,XI 19 1 17 18,XO 20 19,XI 21 3 15 20,XP 22 3 21,XV 23 22,rg 24 (.app 3 (.t 14) (.t 23)),mv 5 24])) (XH 12 6 13))) (XG [1,2,5,6]))
def b547:AX:= (XS [XX 2 4 0,XA 4 (.sl [] .nl)] (.seq (.note (.reg [XA 5 (.sl [] .nl)]) (.nil 5 3)) (.seq (XS [XL 6 0] (.lp 0 (XG [1,2,5,6]) l547_0 (XG [5]))) (XS [mv 25 5,mv 4 25] (XZ [4])))))
def b558:AX:= (XS [XX 3 6 0,XX 4 5 1,XM 6,XJ 7] (.seq (XS [XF 8 0 3,XO 9 8,XC 10 .eql 9 1] (XD 10 (XS [XF 11 3 3,XP 12 3 11,XT 3 6 12,XA 7 (.b true)] (XZ [6,7])) .skip)) (.seq (XS [XF 13 0 3,XO 14 13,XC 15 .eql 14 2] (XD 15 (XS [XF 16 0 4,XP 17 3 16,XT 3 6 17,XA 7 (.b true)] (XZ [6,7])) .skip)) (.seq (XS [XF 18 0 3,XO 19 18,XC 20 .eql 19 3] (XD 20 (XS [XF 21 3 4,XO 22 21,XF 23 1 3,XO 24 23,XI 25 3 22 24,XP 26 3 25,XT 3 6 26,XA 7 (.b true)] (XZ [6,7])) .skip)) (.seq (XS [XF 27 0 3,XO 28 27,XC 29 .eql 28 4] (XD 29 (XS [XF 30 4 4,XO 31 30,XF 32 1 3,XO 33 32,XI 34 3 31 33,XP 35 3 34,XT 3 6 35,XA 7 (.b true)] (XZ [6,7])) .skip)) (.seq (XS [XF 36 0 3,XO 37 36,XC 38 .eql 37 6,mv 39 38,VF 40 39 false 0 3,VO 41 39 false 40,VC 42 39 false .eql 41 11,XY 43 39 42] (XD 43 (.seq (.drawT [XF 44 0 3,XO 45 44,XF 46 2 3,XO 47 46,mv 48 2,XF 49 1 3,XO 50 49,XI 51 3 48 50,XP 52 3 51,mv 53 2,XF 54 1 3,XO 55 54,XI 56 3 53 55,XP 57 3 56,XK4 58 475 45 47 52 57,XE 59 58 0,XE 60 58 1] [XT 3 6 59,mv 7 60]) (XZ [6,7])) .skip)) (.seq (.drawT [XF 61 0 3,XO 62 61,mv 63 2,XF 64 1 3,XO 65 64,XI 66 3 63 65,XP 67 3 66,mv 68 2,XF 69 2 3,XO 70 69,XI 71 3 68 70,XP 72 3 71,rg 73 (.call 475 [(.t 62),(.c (.i .i64 0)),(.t 67),(.t 72)]),XE 74 73 0,XE 75 73 1] [XT 3 6 74,mv 7 75]) (XZ [6,7]))))))))
def row544:AFx:=⟨3,46,[.t 6,.t 7,.t 8],b544,none,false⟩
def row547:AFx:=XrV 2 26 4 b547
def row558:AFx:=⟨3,76,[.cell 6 (some 3),.t 7],b558,none,false⟩
class Zbk (T:Tbl):Prop where
 h544:T 544=some row544
 h547:T 547=some row547
 h558:T 558=some row558
section
variable{T:Tbl}[Zbk T]{d:Option Nat}{st:St}{xs:List AV}{ps:List Opd}{e:Env}{h:Heap}{ol:List Heap}
@[simp] theorem y544:XRy T 544:=xry Zbk.h544
@[simp] theorem y547:XRy T 547:=xry Zbk.h547
end
end Go.Ab
end
section
namespace Go.Ab
def l529_0:AX:= (.note (.seq (XS [mv 49 4,mv 50 3,XB 51 .lss 49 50] (XQ 51 0)) (.seq (.block 1 (XS [XF 54 2 1,XO 55 54,mv 56 4,XI 57 1 55 56,XO 58 57,XN 59 58,mv 60 4,XB 61 .neq 59 60] (XD 61 (XS [XL 2 2] (XZ [2])) .skip))) (XH 52 4 53))) (XG [1,3,4]))
def l529_1:AX:= (.note (.seq (XS [mv 62 5,mv 63 3,XB 64 .lss 62 63] (XQ 64 2)) (.seq (.block 3 (XS [XF 67 2 1,XO 68 67,mv 69 5,XI 70 1 68 69,XO 71 70,XK1 72 540 71] (XD 72 (XS [XL 2 3] (XZ [2])) .skip))) (XH 65 5 66))) (XG [1,3,5]))
def l529_2:AX:= (.note (.seq (XS [mv 86 6,mv 87 3,XB 88 .lss 86 87] (XQ 88 4)) (.seq (.block 5 (.seq (.drawT [XF 91 2 1,XO 92 91,mv 93 6,XI 94 1 92 93,XO 95 94,XK1 96 541 95,XF 97 1 1,XO 98 97,mv 99 6,XI 100 3 98 99,XP 101 3 100] [XK2 102 233 96 101,XU 103 102]) (XD 103 (XS [XL 2 4] (XZ [2])) .skip))) (XH 89 6 90))) (XG [1,3,6]))
def b529:AX:= (XS [XX 1 5 0,XL 2 0] (XS [XF 8 3 1,XO 9 8,XN 10 9,mv 3 10] (.seq (XS [XF 11 0 1,XO 12 11,rg 13 (.build [(.i .i64 0),(.s []),(.i .i64 0)] [(0,1,(.c (.i .i64 2))),(1,1,(.t 12))]),XK1 14 173 13,XU 15 14] (XD 15 (XS [XL 2 1] (XZ [2])) .skip)) (.seq (XS [mv 16 3,XC 17 .lss 16 1,mv 18 17,VM 19 18 false 3,VC 20 18 false .gtr 19 8,XY 21 18 20,mv 22 21,VF 23 22 false 1 1,VO 24 22 false 23,VN 25 22 false 24,VM 26 22 false 3,VB 27 22 false .neq 25 26,XY 28 22 27,mv 29 28,VF 30 29 false 2 1,VO 31 29 false 30,VN 32 29 false 31,VM 33 29 false 3,VB 34 29 false .neq 32 33,XY 35 29 34,mv 36 35,VF 37 36 false 4 1,VO 38 36 false 37,VN 39 36 false 38,VC 40 36 false .neq 39 0,VM 41 36 false 40,VF 42 41 true 4 1,VO 43 41 true 42,VN 44 41 true 43,VM 45 41 true 3,VB 46 41 true .neq 44 45,gd 47 36 false (.pick (.t 41) (.t 46) (.c (.b false))),XY 48 36 47] (XD 48 (XS [XL 2 2] (XZ [2])) .skip)) (.seq (XS [XL 4 0] (.lp 0 (XG [1,3,4]) l529_0 (XG [1,3]))) (.seq (XS [XL 5 0] (.lp 2 (XG [1,3,5]) l529_1 (XG [1,3]))) (.seq (XS [XF 73 3 1,XO 74 73,XK1 75 540 74,mv 76 75,VF 77 76 false 1 1,VO 78 76 false 77,gd 79 76 false (.call 540 [(.t 78)]),XY 80 76 79,mv 81 80,VF 82 81 false 4 1,VO 83 81 false 82,gd 84 81 false (.call 540 [(.t 83)]),XY 85 81 84] (XD 85 (XS [XL 2 3] (XZ [2])) .skip)) (.seq (XS [XL 6 0] (.lp 4 (XG [1,3,6]) l529_2 (XG [1]))) (XS [rg 104 (.call 232 [(.c (.i .i64 1))]),XM 7,XT 3 7 104] (.seq (.seq (.drawT [XF 105 3 1,XO 106 105,XK1 107 541 106,XP 108 3 7] [XK2 109 233 107 108,XU 110 109]) (XD 110 (XS [XL 2 5] (XZ [2])) .skip)) (.seq (.seq (.drawT [XF 111 4 1,XO 112 111,XN 113 112,XC 114 .gtr 113 0,mv 115 114,VF 116 115 true 4 1,VO 117 115 true 116,gd 118 115 true (.call 541 [(.t 117)]),VP 119 115 true 3 7] [gd 120 115 true (.call 233 [(.t 118),(.t 119)]),VU 121 115 true 120,XW 122 115 121]) (XD 122 (XS [XL 2 6] (XZ [2])) .skip)) (XS [XL 2 0] (XZ [2])))))))))))))
def l540_0:AX:= (.note (.seq (XS [mv 4 3,mv 5 0,XN 6 5,XB 7 .lss 4 6] (XQ 7 0)) (.seq (.block 1 (.seq (.drawT [mv 10 0,mv 11 3,XI 12 3 10 11,XP 13 3 12,XK1 14 231 13,mv 15 0,mv 16 3,XI 17 3 15 16,XP 18 3 17,XK2 19 233 14 18,XU 20 19,mv 21 20,VM 22 21 false 0,VM 23 21 false 3] [VI 24 21 false 3 22 23,VP 25 21 false 3 24,gd 26 21 false (.call 245 [(.t 25)]),VC 27 21 false .gtr 26 190,XY 28 21 27]) (XD 28 (XS [XA 2 (.b true)] (XZ [2])) .skip))) (XH 8 3 9))) (XG [0,3]))
def b540:AX:= (XS [XJ 2] (.seq (XS [XL 3 0] (.lp 0 (XG [0,3]) l540_0 (XG []))) (XS [XJ 2] (XZ [2]))))
def l541_0:AX:= (.note (.seq (XS [mv 6 4,mv 7 0,XN 8 7,XB 9 .lss 6 8] (XQ 9 0)) (.seq (.block 1 (.drawT [XP 12 3 3,mv 13 0,mv 14 4,XI 15 3 13 14,XP 16 3 15] [XK2 17 239 12 16,XT 3 3 17])) (XH 10 4 11))) (XG [0,2,3,4]))
def b541:AX:= (XS [XM 2] (XS [rg 5 (.call 232 [(.c (.i .i64 0))]),XM 3,XT 3 3 5] (.seq (XS [XL 4 0] (.lp 0 (XG [0,2,3,4]) l541_0 (XG [2,3]))) (XS [XP 18 3 3,XT 3 2 18] (XZ [2])))))
def row529:AFx:=XrV 1 123 2 b529
def row540:AFx:=XrV 1 29 2 b540
def row541:AFx:=XrC 1 19 2 3 b541
class Zcr (T:Tbl):Prop where
 h529:T 529=some row529
 h540:T 540=some row540
 h541:T 541=some row541
section
variable{T:Tbl}[Zcr T]{d:Option Nat}{st:St}{xs:List AV}{ps:List Opd}{e:Env}{h:Heap}{ol:List Heap}
@[simp] theorem x529:XRx T 529:=xrx Zcr.h529
@[simp] theorem x540:XRx T 540:=xrx Zcr.h540
@[simp] theorem y541:XRy T 541:=xry Zcr.h541
end
end Go.Ab
end
section
namespace Go.Ab
def b508:AX:= (XS [XX 1 11 0,XJ 2] (XS [XF 3 0 1,XP 4 4 3,XK1 5 528 4,rg 6 (.bin .eql (.t 5) (.c (.i .i64 (-1)))),mv 7 6,VF 8 7 true 4 1,VP 9 7 true 5 8,gd 10 7 true (.call 529 [(.t 9)]),VC 11 7 true .eql 10 0,XW 12 7 11,mv 13 12,VF 14 13 true 9 1,VO 15 13 true 14,VN 16 13 true 15,VF 17 13 true 0 1,VF 18 13 true 3 17,VO 19 13 true 18,VB 20 13 true .eql 16 19,XW 21 13 20,mv 2 21] (XZ [2])))
def b545:AX:= (XS [XX 3 11 0,XX 4 3 1,rg 6 (.alloc [(.b false),(.sl [] .nl),(.sl [] .nl),(.sl [] .nl),(.sl [] .nl)])] (.seq (.drawT [XP 7 3 4,mv 8 2,XF 9 9 3,XO 10 9,XK1 11 278 10] [rg 12 (.build [(.b false),(.sl [] .nl),(.sl [] .nl),(.sl [] .nl),(.sl [] .nl)] [(0,3,(.t 7)),(3,1,(.t 8)),(4,1,(.t 11))]),XT 5 6 12]) (XZ [6])))
def row508:AFx:=XrV 1 22 2 b508
def row545:AFx:=XrC 3 13 6 5 b545
class Zd5 (T:Tbl):Prop where
 h508:T 508=some row508
 h545:T 545=some row545
section
variable{T:Tbl}[Zd5 T]{d:Option Nat}{st:St}{xs:List AV}{ps:List Opd}{e:Env}{h:Heap}{ol:List Heap}
@[simp] theorem x508:XRx T 508:=xrx Zd5.h508
@[simp] theorem y545:XRy T 545:=xry Zd5.h545
end
end Go.Ab
end
section
namespace Go.Ab
def l522_0:AX:= (.note (.seq (XS [mv 7 6,XF 8 0 1,XO 9 8,XN 10 9,XB 11 .lss 7 10] (XQ 11 0)) (.seq (.block 1 (XS [XF 14 0 1,XO 15 14,mv 16 6,XI 17 14 15 16,XF 18 13 17,XO 19 18] (XD 19 (XS [mv 20 4,XF 21 0 1,XO 22 21,mv 23 6,XI 24 14 22 23,XF 25 0 24,XP 26 3 25,XV 27 26,rg 28 (.app 3 (.t 20) (.t 27)),mv 4 28] (.reg [mv 29 5,XF 30 0 1,XO 31 30,mv 32 6,XI 33 14 31 32,XF 34 12 33,XO 35 34,rg 36 (.bsl 1 [(.sl [] .nl)] 1 [(0,(.t 35))]),rg 37 (.app 1 (.t 29) (.t 36)),mv 5 37])) .skip))) (XH 12 6 13))) (XG [1,4,5,6]))
def b522:AX:= (XS [XX 1 5 0,XA 2 (.sl [] .nl),XA 3 (.sl [] .nl)] (.seq (.note (.reg [XA 4 (.sl [] .nl)]) (.nil 4 3)) (.seq (.note (.reg [XA 5 (.sl [] .nl)]) (.nil 5 1)) (.seq (XS [XL 6 0] (.lp 0 (XG [1,4,5,6]) l522_0 (XG [1,4,5]))) (.seq (.draw [⟨mv 38 4,0,0⟩,⟨XF 39 1 1,0,0⟩,⟨XP 40 3 39,0,0⟩,⟨XV 41 40,0,0⟩,⟨rg 42 (.app 3 (.t 38) (.t 41)),0,1⟩,⟨mv 43 5,0,1⟩,⟨XF 44 4 1,0,1⟩,⟨XO 45 44,0,1⟩,⟨rg 46 (.bsl 1 [(.sl [] .nl)] 1 [(0,(.t 45))]),0,1⟩,⟨rg 47 (.app 1 (.t 43) (.t 46)),1,2⟩,⟨mv 2 42,2,2⟩,⟨mv 3 47,2,2⟩]) (XZ [2,3]))))))
def l571_0:AX:= (.note (.seq (XS [mv 17 4,XF 18 0 1,XO 19 18,XN 20 19,XB 21 .lss 17 20] (XQ 21 0)) (.seq (.block 1 (.seq (XS [XF 24 0 1,XO 25 24,mv 26 4,XI 27 14 25 26,XF 28 12 27,XO 29 28,XK1 30 578 29,mv 31 30,VF 32 31 false 0 1,VO 33 31 false 32,VM 34 31 false 4,VI 35 31 false 14 33 34,VP 36 31 false 14 35,gd 37 31 false (.call 516 [(.t 36)]),gd 38 31 false (.call 578 [(.t 37)]),XY 39 31 38] (XD 39 (XS [XL 2 1] (XZ [2])) .skip)) (.seq (.drawT [XF 40 0 1,XO 41 40,mv 42 4,XI 43 14 41 42,XF 44 12 43,XO 45 44,XN 46 45,XF 47 4 1,XO 48 47,XN 49 48] [XB 50 .neq 46 49]) (XD 50 (.reg [XL 3 2]) .skip)))) (XH 22 4 23))) (XG [1,3,4]))
def l571_1:AX:= (.note (.seq (XS [mv 69 5,XF 70 0 1,XO 71 70,XN 72 71,XB 73 .lss 69 72] (XQ 73 2)) (.seq (.block 3 (XS [XF 76 0 1,XO 77 76,mv 78 5,XI 79 14 77 78,XP 80 14 79,rg 6 (.alloc [(.b false),(.sl [] .nl),(.sl [] .nl),(.b false),(.sl [] .nl),(.sl [] .nl),(.b false),(.sl [] .nl),(.sl [] .nl),(.b false),(.sl [] .nl),(.sl [] .nl),(.sl [] .nl),(.b false)]),XT 14 6 80] (.seq (XS [XF 81 3 6,XP 82 3 81,XK1 83 236 82,XC 84 .leq 83 0,mv 85 84,VF 86 85 false 6 6,VP 87 85 false 3 86,gd 88 85 false (.call 236 [(.t 87)]),VC 89 85 false .leq 88 0,XY 90 85 89,mv 91 90,VF 92 91 false 6 6,VP 93 91 false 3 92,VF 94 91 false 3 6,VP 95 91 false 3 94,gd 96 91 false (.call 243 [(.t 93),(.t 95)]),VC 97 91 false .gtr 96 0,XY 98 91 97,mv 99 98,VF 100 99 false 9 6,VP 101 99 false 3 100,gd 102 99 false (.call 236 [(.t 101)]),VC 103 99 false .lss 102 0,XY 104 99 103] (XD 104 (XS [XL 2 4] (XZ [2])) .skip)) (XS [XF 105 1 1,XP 106 3 105,XF 107 4 1,XO 108 107,rg 109 (.build [(.b false),(.sl [] .nl),(.sl [] .nl),(.b false),(.sl [] .nl),(.sl [] .nl),(.b false),(.sl [] .nl),(.sl [] .nl),(.b false),(.sl [] .nl),(.sl [] .nl),(.sl [] .nl),(.b false)] [(0,3,(.t 106)),(12,1,(.t 108))]),rg 7 (.alloc [(.b false),(.sl [] .nl),(.sl [] .nl),(.b false),(.sl [] .nl),(.sl [] .nl),(.b false),(.sl [] .nl),(.sl [] .nl),(.b false),(.sl [] .nl),(.sl [] .nl),(.sl [] .nl),(.b false)]),XT 14 7 109] (.seq (XS [mv 110 5,XC 111 .add 110 1,XF 112 0 1,XO 113 112,XN 114 113,XB 115 .lss 111 114] (XD 115 (.reg [XF 116 0 1,XO 117 116,mv 118 5,XC 119 .add 118 1,XI 120 14 117 119,XP 121 14 120,XT 14 7 121]) .skip)) (.seq (.seq (.drawT [XF 122 13 6,XO 123 122,mv 124 123,VF 125 124 true 0 7,VP 126 124 true 3 125,VF 127 124 true 0 6,VP 128 124 true 3 127,VF 129 124 true 6 6,VP 130 124 true 3 129,gd 131 124 true (.call 239 [(.t 128),(.t 130)])] [gd 132 124 true (.call 233 [(.t 126),(.t 131)]),VU 133 124 true 132,XW 134 124 133]) (XD 134 (.reg [XL 3 5]) .skip)) (XS [XF 135 13 6,XO 136 135,XU 137 136,mv 138 137,VF 139 138 true 0 7,VP 140 138 true 3 139,VF 141 138 true 0 6,VP 142 138 true 3 141,gd 143 138 true (.call 233 [(.t 140),(.t 142)]),VU 144 138 true 143,VM 145 138 true 144,VF 146 145 false 12 7,VO 147 145 false 146,VF 148 145 false 12 6,VO 149 145 false 148,gd 150 145 false (.call 279 [(.t 147),(.t 149)]),VU 151 145 false 150,gd 152 138 true (.pick (.t 145) (.c (.b true)) (.t 151)),XW 153 138 152] (XD 153 (.reg [XL 3 5]) .skip)))))))) (XH 74 5 75))) (XG [1,3,5]))
def b571:AX:= (XS [XX 1 5 0,XL 2 0] (XS [XL 3 0] (.seq (XS [XF 8 4 1,XO 9 8,XK1 10 578 9,mv 11 10,VF 12 11 false 1 1,VP 13 11 false 3 12,gd 14 11 false (.bsl 3 [(.b false),(.sl [] .nl),(.sl [] .nl)] 1 [(0,(.t 13))]),gd 15 11 false (.call 578 [(.t 14)]),XY 16 11 15] (XD 16 (XS [XL 2 1] (XZ [2])) .skip)) (.seq (XS [XL 4 0] (.lp 0 (XG [1,3,4]) l571_0 (XG [1,3]))) (.seq (XS [mv 51 3,XC 52 .eql 51 2,mv 53 52,VF 54 53 false 4 1,VO 55 53 false 54,VN 56 53 false 55,VC 57 53 false .lss 56 1,XY 58 53 57,mv 59 58,VF 60 59 false 4 1,VO 61 59 false 60,VN 62 59 false 61,VC 63 59 false .gtr 62 6,XY 64 59 63] (XD 64 (XS [XL 2 2] (XZ [2])) .skip)) (.seq (XS [XF 65 0 1,XO 66 65,XN 67 66,XC 68 .gtr 67 200] (XD 68 (XS [XL 2 3] (XZ [2])) .skip)) (.seq (XS [XL 5 0] (.lp 2 (XG [1,3,5]) l571_1 (XG [3]))) (XS [mv 154 3,mv 2 154] (XZ [2])))))))))
def b578:AX:= (XS [XJ 2] (XS [mv 3 0,XK1 4 278 3,mv 5 0,XK2 6 279 4 5,XU 7 6,mv 2 7] (XZ [2])))
def row522:AFx:=⟨1,48,[.t 2,.t 3],b522,none,false⟩
def row571:AFx:=XrV 1 155 2 b571
def row578:AFx:=XrV 1 8 2 b578
class Zcs (T:Tbl):Prop where
 h522:T 522=some row522
 h571:T 571=some row571
 h578:T 578=some row578
section
variable{T:Tbl}[Zcs T]{d:Option Nat}{st:St}{xs:List AV}{ps:List Opd}{e:Env}{h:Heap}{ol:List Heap}
@[simp] theorem x522:XRx T 522:=xrx Zcs.h522
@[simp] theorem x571:XRx T 571:=xrx Zcs.h571
@[simp] theorem x578:XRx T 578:=xrx Zcs.h578
end
end Go.Ab
end
section
namespace Go.Ab
def l572_0:AX:= (.note (.seq (XS [mv 14 7,XC 15 .add 14 1,mv 16 5,XN 17 16,XB 18 .lss 15 17] (XQ 18 0)) (.seq (.block 1 (.seq (.drawT [XP 21 3 3,mv 22 5,mv 23 7,XI 24 3 22 23,XP 25 3 24,XK2 26 243 21 25,XC 27 .gtr 26 0,mv 28 27,VM 29 28 false 7,VC 30 28 false .eql 29 0,VM 31 28 false 30,VP 32 31 true 3 3,VM 33 31 true 5,gd 34 31 true (.iad 3 (.t 33) (.c (.i .i64 0))),VP 35 31 true 3 34] [gd 36 31 true (.call 233 [(.t 32),(.t 35)]),gd 37 28 false (.pick (.t 31) (.t 36) (.c (.b false))),XY 38 28 37,mv 8 38]) (.seq (.drawT [mv 39 8,mv 40 39,VP 41 40 true 3 3,VM 42 40 true 5,VM 43 40 true 7,VC 44 40 true .add 43 1,VI 45 40 true 3 42 44,VP 46 40 true 3 45] [gd 47 40 true (.call 243 [(.t 41),(.t 46)]),VC 48 40 true .leq 47 0,XW 49 40 48]) (XD 49 (XS [mv 50 7,mv 4 50] (XZ [4])) .skip)))) (XH 19 7 20))) (XG [3,5,7]))
def b572:AX:= (XS [XX 2 5 0,XX 3 3 1,XL 4 0] (XS [XP 10 5 2,XK1 11 522 10,mv 9 11,XE 12 9 0,XE 13 9 1,mv 5 12,mv 6 13] (.seq (XS [XL 7 0] (.lp 0 (XG [3,5,7]) l572_0 (XG []))) (XS [XA 4 (.i .i64 (-1))] (XZ [4])))))
def b573:AX:= (XS [XX 2 10 0,XX 3 10 1,XJ 4] (XS [XF 5 0 2,XP 6 3 5,XF 7 0 3,XP 8 3 7,XK2 9 233 6 8,mv 10 9,VF 11 10 true 3 2,VP 12 10 true 3 11,VF 13 10 true 3 3,VP 14 10 true 3 13,gd 15 10 true (.call 233 [(.t 12),(.t 14)]),XW 16 10 15,mv 17 16,VF 18 17 true 6 2,VO 19 17 true 18,VF 20 17 true 6 3,VO 21 17 true 20,gd 22 17 true (.call 279 [(.t 19),(.t 21)]),XW 23 17 22,mv 24 23,VF 25 24 true 7 2,VO 26 24 true 25,VF 27 24 true 7 3,VO 28 24 true 27,gd 29 24 true (.call 279 [(.t 26),(.t 28)]),XW 30 24 29,mv 31 30,VF 32 31 true 8 2,VO 33 31 true 32,VF 34 31 true 8 3,VO 35 31 true 34,gd 36 31 true (.call 279 [(.t 33),(.t 35)]),XW 37 31 36,mv 38 37,VF 39 38 true 9 2,VO 40 38 true 39,VF 41 38 true 9 3,VO 42 38 true 41,gd 43 38 true (.call 279 [(.t 40),(.t 42)]),XW 44 38 43,mv 4 44] (XZ [4])))
def b575:AX:= (XS [XX 3 11 0,XX 4 5 1,rg 6 (.alloc [(.b false),(.sl [] .nl),(.sl [] .nl),(.b false),(.sl [] .nl),(.sl [] .nl),(.sl [] .nl),(.sl [] .nl),(.sl [] .nl),(.sl [] .nl)]),rg 7 (.alloc [(.i .i64 0),(.i .i64 0),(.i .i64 0)])] (XS [XP 16 5 4,XK1 17 522 16,mv 15 17,XE 18 15 0,XE 19 15 1,mv 8 18,mv 9 19] (XS [XF 20 10 3,XO 21 20,XK1 22 465 21,mv 10 22] (.seq (.drawT [XF 24 0 3,XP 25 4 24,XP 26 11 3,mv 27 8,mv 28 2,XI 29 3 27 28,XP 30 3 29,mv 31 9,mv 32 2,XI 33 1 31 32,XO 34 33,XK3 35 545 26 30 34,mv 36 10,XK3 37 544 25 35 36,mv 23 37,XE 38 23 0,XE 39 23 1,XE 40 23 2,mv 11 38,mv 12 39] [mv 13 40]) (.seq (XS [mv 41 12,XC 42 .neq 41 0] (XD 42 (XS [rg 43 (.build [(.b false),(.sl [] .nl),(.sl [] .nl),(.b false),(.sl [] .nl),(.sl [] .nl),(.sl [] .nl),(.sl [] .nl),(.sl [] .nl),(.sl [] .nl)] []),mv 44 12,mv 45 2,XC 46 .add 45 1,mv 47 13,rg 48 (.build [(.i .i64 0),(.i .i64 0),(.i .i64 0)] [(0,1,(.t 44)),(1,1,(.t 46)),(2,1,(.t 47))]),XT 10 6 43,XT 3 7 48] (XZ [6,7])) .skip)) (.seq (.drawT [XF 50 0 3,XP 51 4 50,XP 52 11 3,mv 53 8,mv 54 2,XC 55 .add 54 1,XI 56 3 53 55,XP 57 3 56,mv 58 9,mv 59 2,XC 60 .add 59 1,XI 61 1 58 60,XO 62 61,XK3 63 545 52 57 62,mv 64 10,XK3 65 544 51 63 64,mv 49 65,XE 66 49 0,XE 67 49 1,XE 68 49 2,mv 14 66,mv 12 67] [mv 13 68]) (.seq (XS [mv 69 12,XC 70 .neq 69 0] (XD 70 (XS [rg 71 (.build [(.b false),(.sl [] .nl),(.sl [] .nl),(.b false),(.sl [] .nl),(.sl [] .nl),(.sl [] .nl),(.sl [] .nl),(.sl [] .nl),(.sl [] .nl)] []),mv 72 12,mv 73 2,XC 74 .add 73 2,mv 75 13,rg 76 (.build [(.i .i64 0),(.i .i64 0),(.i .i64 0)] [(0,1,(.t 72)),(1,1,(.t 74)),(2,1,(.t 75))]),XT 10 6 71,XT 3 7 76] (XZ [6,7])) .skip)) (.seq (.draw [⟨mv 77 8,0,0⟩,⟨mv 78 2,0,0⟩,⟨XI 79 3 77 78,0,0⟩,⟨XP 80 3 79,0,0⟩,⟨mv 81 8,0,0⟩,⟨mv 82 2,0,0⟩,⟨XC 83 .add 82 1,0,0⟩,⟨XI 84 3 81 83,0,0⟩,⟨XP 85 3 84,0,0⟩,⟨mv 86 8,0,0⟩,⟨mv 87 2,0,0⟩,⟨XI 88 3 86 87,0,0⟩,⟨XP 89 3 88,0,0⟩,⟨XK2 90 240 85 89,0,0⟩,⟨mv 91 9,0,0⟩,⟨mv 92 2,0,0⟩,⟨XI 93 1 91 92,0,0⟩,⟨XO 94 93,0,0⟩,⟨mv 95 9,0,0⟩,⟨mv 96 2,0,0⟩,⟨XC 97 .add 96 1,0,0⟩,⟨XI 98 1 95 97,0,0⟩,⟨XO 99 98,0,0⟩,⟨XF 100 0 3,0,0⟩,⟨XP 101 4 100,0,0⟩,⟨mv 102 11,0,0⟩,⟨XK2 103 547 101 102,0,0⟩,⟨XF 104 0 3,0,0⟩,⟨XP 105 4 104,0,0⟩,⟨mv 106 14,0,0⟩,⟨XK2 107 547 105 106,0,0⟩,⟨rg 108 (.build [(.b false),(.sl [] .nl),(.sl [] .nl),(.b false),(.sl [] .nl),(.sl [] .nl),(.sl [] .nl),(.sl [] .nl),(.sl [] .nl),(.sl [] .nl)] [(0,3,(.t 80)),(3,3,(.t 90)),(6,1,(.t 94)),(7,1,(.t 99)),(8,1,(.t 103)),(9,1,(.t 107))]),0,0⟩,⟨rg 109 (.build [(.i .i64 0),(.i .i64 0),(.i .i64 0)] []),0,1⟩,⟨XT 10 6 108,0,1⟩,⟨XT 3 7 109,1,2⟩]) (XZ [6,7])))))))))
def row572:AFx:=XrV 2 51 4 b572
def row573:AFx:=XrV 2 45 4 b573
def row575:AFx:=⟨3,110,[.cell 6 (some 10),.cell 7 (some 3)],b575,none,false⟩
class Zch (T:Tbl):Prop where
 h572:T 572=some row572
 h573:T 573=some row573
 h575:T 575=some row575
section
variable{T:Tbl}[Zch T]{d:Option Nat}{st:St}{xs:List AV}{ps:List Opd}{e:Env}{h:Heap}{ol:List Heap}
@[simp] theorem x572:XRx T 572:=xrx Zch.h572
@[simp] theorem x573:XRx T 573:=xrx Zch.h573
@[simp] theorem y573:XRy T 573:=xry Zch.h573
@[simp] theorem x575:XRx T 575:=xrx Zch.h575
end
end Go.Ab
end
section
namespace Go.Ab
def b566:AX:= (XS [XX 4 11 0,XX 5 5 1,XX 6 3 2,XJ 8] (.seq (XS [XP 27 11 4,rg 28 (.call 496 [(.t 27),(.c (.i .i64 10)),(.c (.i .i64 4)),(.c (.i .i64 2))]),mv 29 28,VF 30 29 false 10 4,VO 31 29 false 30,VC 32 29 false .gtr 31 300,XY 33 29 32,mv 34 33,VP 35 34 false 5 5,gd 36 34 false (.call 497 [(.t 35),(.c (.i .i64 5)),(.c (.i .i64 2))]),XY 37 34 36,mv 38 37,VF 39 38 false 4 5,VO 40 38 false 39,VN 41 38 false 40,VC 42 38 false .gtr 41 4,XY 43 38 42,mv 44 43,VP 45 44 false 3 6,gd 46 44 false (.call 247 [(.t 45),(.c (.i .i64 2))]),XY 47 44 46] (XD 47 (XS [rg 48 (.call 323 []),mv 8 48] (XZ [8])) .skip)) (XS [XP 49 11 4,XK1 50 507 49,rg 9 (.alloc [(.sl [] .nl),(.sl [] .nl),(.i .i64 0),(.i .i64 0),(.s []),(.sl [] .nl),(.sl [] .nl),(.sl [] .nl),(.sl [] .nl),(.sl [] .nl),(.i .i64 0)]),XT 11 9 50] (XS [XP 51 5 5,XK1 52 500 51,rg 10 (.alloc [(.sl [] .nl),(.b false),(.sl [] .nl),(.sl [] .nl),(.sl [] .nl)]),XT 5 10 52] (.seq (.drawT [XP 54 5 10,XP 55 3 6,XK1 56 248 55,XK2 57 568 54 56,mv 53 57,XE 58 53 0,XE 59 53 1,mv 11 58] [mv 12 59]) (XS [XP 61 11 9,XP 62 5 10,mv 63 3,XK3 64 569 61 62 63,mv 60 64,XE 65 60 0,XE 66 60 1,rg 13 (.alloc [(.b false),(.sl [] .nl),(.sl [] .nl),(.b false),(.sl [] .nl),(.sl [] .nl),(.sl [] .nl),(.sl [] .nl),(.sl [] .nl),(.sl [] .nl)]),rg 14 (.alloc [(.i .i64 0),(.i .i64 0),(.i .i64 0),(.i .i64 0)]),XT 10 13 65,XT 4 14 66] (.seq (.draw [⟨XP 68 11 9,0,1⟩,⟨XP 69 5 10,0,1⟩,⟨XP 70 3 6,0,1⟩,⟨XK1 71 248 70,0,1⟩,⟨XK3 72 570 68 69 71,0,1⟩,⟨mv 67 72,0,1⟩,⟨XE 73 67 0,0,1⟩,⟨XE 74 67 1,0,1⟩,⟨rg 16 (.alloc [(.i .i64 0),(.i .i64 0),(.i .i64 0),(.i .i64 0)]),0,1⟩,⟨mv 15 73,1,1⟩,⟨XT 4 16 74,1,2⟩]) (XS [XP 75 3 6,XK1 76 231 75,XM 17,XT 3 17 76] (XS [XP 77 5 5,XK1 78 571 77,XC 79 .eql 78 0,mv 18 79] (XS [XA 19 (.i .i64 (-1))] (.seq (XS [mv 80 18] (XD 80 (.reg [XP 81 5 5,XP 82 3 17,XK2 83 572 81 82,mv 19 83]) .skip)) (.seq (XS [mv 84 11,mv 85 19,XB 86 .neq 84 85,mv 87 86,VM 88 87 false 12,VM 89 87 false 19,VC 90 87 false .geq 89 0,gd 91 87 false (.eqb true (.t 88) (.t 90)),XY 92 87 91] (XD 92 (XS [XJ 8] (XZ [8])) .skip)) (XS [rg 93 (.build [(.i .i64 0),(.i .i64 0),(.i .i64 0),(.i .i64 0)] [(0,1,(.c (.i .i64 2)))]),rg 20 (.alloc [(.i .i64 0),(.i .i64 0),(.i .i64 0),(.i .i64 0)]),XT 4 20 93] (.seq (XS [mv 94 18,XU 95 94,mv 96 95,VP 97 96 false 11 4,gd 98 96 false (.call 508 [(.t 97)]),VU 99 96 false 98,XY 100 96 99,mv 101 100,VF 102 101 false 4 5,VO 103 101 false 102,VN 104 101 false 103,VF 105 101 false 0 4,VF 106 101 false 2 105,VO 107 101 false 106,VB 108 101 false .neq 104 107,XY 109 101 108] (XD 109 (XS [XP 110 10 13,XK1 111 574 110,rg 112 (.build [(.b false),(.sl [] .nl),(.sl [] .nl),(.b false),(.sl [] .nl),(.sl [] .nl),(.sl [] .nl),(.sl [] .nl),(.sl [] .nl),(.sl [] .nl)] []),XK2 113 573 111 112,mv 114 113,VP 115 114 true 4 14,VP 116 114 true 4 20,gd 117 114 true (.eqs false [(0,.int),(1,.int),(2,.int),(3,.int)] (.t 115) (.t 116)),XW 118 114 117,mv 119 118,VM 120 119 true 15,VN 121 119 true 120,VC 122 119 true .eql 121 0,XW 123 119 122,mv 124 123,VP 125 124 true 4 16,VP 126 124 true 4 20,gd 127 124 true (.eqs false [(0,.int),(1,.int),(2,.int),(3,.int)] (.t 125) (.t 126)),XW 128 124 127,mv 129 128,gd 130 129 true (.call 323 []),XW 131 129 130,mv 8 131] (XZ [8])) .skip)) (XS [XP 133 5 5,XK1 134 522 133,mv 132 134,XE 135 132 0,XE 136 132 1,mv 21 135,mv 22 136] (.seq (XS [mv 137 3,XC 138 .lss 137 0,mv 139 138,VM 140 139 false 3,VM 141 139 false 21,VN 142 139 false 141,VC 143 139 false .sub 142 2,VB 144 139 false .gtr 140 143,XY 145 139 144] (XD 145 (XS [XP 146 10 13,XK1 147 574 146,rg 148 (.build [(.b false),(.sl [] .nl),(.sl [] .nl),(.b false),(.sl [] .nl),(.sl [] .nl),(.sl [] .nl),(.sl [] .nl),(.sl [] .nl),(.sl [] .nl)] []),XK2 149 573 147 148,XU 150 149,mv 151 150,VP 152 151 false 4 14,VP 153 151 false 4 20,gd 154 151 false (.eqs true [(0,.int),(1,.int),(2,.int),(3,.int)] (.t 152) (.t 153)),XY 155 151 154] (XD 155 (XS [XJ 8] (XZ [8])) .skip)) (XS [XP 157 11 4,XP 158 5 5,mv 159 3,XK3 160 575 157 158 159,mv 156 160,XE 161 156 0,XE 162 156 1,rg 23 (.alloc [(.b false),(.sl [] .nl),(.sl [] .nl),(.b false),(.sl [] .nl),(.sl [] .nl),(.sl [] .nl),(.sl [] .nl),(.sl [] .nl),(.sl [] .nl)]),rg 24 (.alloc [(.i .i64 0),(.i .i64 0),(.i .i64 0)]),XT 10 23 161,XT 3 24 162] (.seq (.drawT [XP 163 10 13,XK1 164 574 163,XP 165 10 23,XK2 166 573 164 165,XU 167 166,mv 168 167,VP 169 168 false 4 14,gd 170 168 false (.iaa 1 3 (.t 24) (.c (.i .i64 0))),VO 171 168 false 170,gd 172 168 false (.iaa 1 3 (.t 24) (.c (.i .i64 1))),VO 173 168 false 172,gd 174 168 false (.iaa 1 3 (.t 24) (.c (.i .i64 2))),VO 175 168 false 174,gd 176 168 false (.build [(.i .i64 0),(.i .i64 0),(.i .i64 0),(.i .i64 0)] [(0,1,(.t 171)),(1,1,(.t 173)),(3,1,(.t 175))])] [gd 177 168 false (.eqs true [(0,.int),(1,.int),(2,.int),(3,.int)] (.t 169) (.t 176)),XY 178 168 177]) (XD 178 (XS [XJ 8] (XZ [8])) .skip))))) (.seq (.seq (.drawT [mv 179 21,XN 180 179,XC 181 .eql 180 1,mv 182 181,VP 183 182 true 3 17,VM 184 182 true 21,gd 185 182 true (.iad 3 (.t 184) (.c (.i .i64 0))),VP 186 182 true 3 185] [gd 187 182 true (.call 233 [(.t 183),(.t 186)]),XW 188 182 187]) (XD 188 (XS [mv 189 15,mv 190 22,rg 191 (.iad 1 (.t 190) (.c (.i .i64 0))),XO 192 191,XK2 193 289 189 192,mv 194 193,VP 195 194 true 4 16,gd 196 194 true (.build [(.i .i64 0),(.i .i64 0),(.i .i64 0),(.i .i64 0)] []),gd 197 194 true (.eqs false [(0,.int),(1,.int),(2,.int),(3,.int)] (.t 195) (.t 196)),XW 198 194 197,mv 199 198,gd 200 199 true (.call 323 []),XW 201 199 200,mv 8 201] (XZ [8])) .skip)) (.seq (XS [mv 202 19,XC 203 .lss 202 0] (XD 203 (XS [mv 204 15,XN 205 204,XC 206 .eql 205 0,mv 207 206,VP 208 207 true 4 16,gd 209 207 true (.build [(.i .i64 0),(.i .i64 0),(.i .i64 0),(.i .i64 0)] [(0,1,(.c (.i .i64 7)))]),gd 210 207 true (.eqs false [(0,.int),(1,.int),(2,.int),(3,.int)] (.t 208) (.t 209)),XW 211 207 210,mv 212 211,gd 213 212 true (.call 323 []),XW 214 212 213,mv 8 214] (XZ [8])) .skip)) (XS [XP 216 11 4,XP 217 5 5,mv 218 19,XK3 219 575 216 217 218,mv 215 219,XE 220 215 0,XE 221 215 1,rg 25 (.alloc [(.b false),(.sl [] .nl),(.sl [] .nl),(.b false),(.sl [] .nl),(.sl [] .nl),(.sl [] .nl),(.sl [] .nl),(.sl [] .nl),(.sl [] .nl)]),rg 26 (.alloc [(.i .i64 0),(.i .i64 0),(.i .i64 0)]),XT 10 25 220,XT 3 26 221] (.seq (XS [rg 222 (.iaa 1 3 (.t 26) (.c (.i .i64 0))),XO 223 222,XC 224 .neq 223 0] (XD 224 (XS [mv 225 15,XN 226 225,XC 227 .eql 226 0,mv 228 227,VP 229 228 true 4 16,gd 230 228 true (.iaa 1 3 (.t 26) (.c (.i .i64 0))),VO 231 228 true 230,gd 232 228 true (.iaa 1 3 (.t 26) (.c (.i .i64 1))),VO 233 228 true 232,gd 234 228 true (.iaa 1 3 (.t 26) (.c (.i .i64 2))),VO 235 228 true 234,gd 236 228 true (.build [(.i .i64 0),(.i .i64 0),(.i .i64 0),(.i .i64 0)] [(0,1,(.t 231)),(1,1,(.t 233)),(3,1,(.t 235))]),gd 237 228 true (.eqs false [(0,.int),(1,.int),(2,.int),(3,.int)] (.t 229) (.t 236)),XW 238 228 237,mv 239 238,gd 240 239 true (.call 323 []),XW 241 239 240,mv 8 241] (XZ [8])) .skip)) (XS [mv 242 15,XP 243 10 25,XP 244 3 17,rg 245 (.call 330 [(.t 243),(.t 244),(.c (.b false))]),XK2 246 289 242 245,mv 247 246,VP 248 247 true 4 16,gd 249 247 true (.build [(.i .i64 0),(.i .i64 0),(.i .i64 0),(.i .i64 0)] []),gd 250 247 true (.eqs false [(0,.int),(1,.int),(2,.int),(3,.int)] (.t 248) (.t 249)),XW 251 247 250,mv 252 251,gd 253 252 true (.call 323 []),XW 254 252 253,mv 8 254] (XZ [8]))))))))))))))))))))))
def b574:AX:= (XS [XX 1 10 0,rg 2 (.alloc [(.b false),(.sl [] .nl),(.sl [] .nl),(.b false),(.sl [] .nl),(.sl [] .nl),(.sl [] .nl),(.sl [] .nl),(.sl [] .nl),(.sl [] .nl)])] (.seq (.drawT [XF 3 0 1,XP 4 3 3,XK1 5 249 4,XF 6 3 1,XP 7 3 6,XK1 8 249 7,XF 9 6 1,XO 10 9,XK1 11 288 10,XF 12 7 1,XO 13 12,XK1 14 288 13,XF 15 8 1,XO 16 15,XK1 17 288 16,XF 18 9 1,XO 19 18] [XK1 20 288 19,rg 21 (.build [(.b false),(.sl [] .nl),(.sl [] .nl),(.b false),(.sl [] .nl),(.sl [] .nl),(.sl [] .nl),(.sl [] .nl),(.sl [] .nl),(.sl [] .nl)] [(0,3,(.t 5)),(3,3,(.t 8)),(6,1,(.t 11)),(7,1,(.t 14)),(8,1,(.t 17)),(9,1,(.t 20))]),XT 10 2 21]) (XZ [2])))
def row566:AFx:=XrV 4 255 8 b566
def row574:AFx:=XrC 1 22 2 10 b574
class Zak (T:Tbl):Prop where
 h566:T 566=some row566
 h574:T 574=some row574
section
variable{T:Tbl}[Zak T]{d:Option Nat}{st:St}{xs:List AV}{ps:List Opd}{e:Env}{h:Heap}{ol:List Heap}
@[simp] theorem x574:XRx T 574:=xrx Zak.h574
@[simp] theorem y574:XRy T 574:=xry Zak.h574
end
end Go.Ab
end
section
namespace Go.Ab
open Go.RowKit
def opU:AOp→List Nat
 | .call u _=>[u]
 | .ifc k _=>[1000000+k]
 | .inv _ k u _ _=>[1000000+k,u]
 | .xop (.mkf k) _ | .xop (.mkv k) _=>[1000000+k]
 | _=>[]
def cXs:AX→List Nat
 | .reg l=>l.flatMap fun o=>opU o.op
 | .draw l=>l.flatMap fun o=>opU o.ao.op
 | .drawT hd tl=>(hd.flatMap fun o=>opU o.op)++tl.flatMap fun o=>opU o.op
 | .drawM hd tl=>(hd.flatMap fun o=>opU o.op)++tl.flatMap fun o=>opU o.op
 | .seq a b=>cXs a++cXs b
 | .cond _ x y=>cXs x++cXs y
 | .block _ c | .loop c | .note c _ | .pre _ c | .scope c | .lp _ _ c _=>cXs c
 | .gsc _ c r=>cXs c++cXs r
 | _=>[]
structure Agr (R:Nat→Bool) (T T':Tbl) (O O':Orc):Prop where
 tbl:∀u,R u=true→T u=T' u
 call:∀u xs hb,R u=true→O.call u xs hb=O'.call u xs hb
 loop:∀k c st,(∀u∈cXs c,R u=true)→O.loop k c st=O'.loop k c st
section
variable{R:Nat→Bool}{T T':Tbl}{O O':Orc}
theorem zny(h:Agr R T T' O O'){u:Nat}(hu:R u=true){xs:List AV}{d:Option Nat}{st:St}:Zd O T u xs d st=Zd O' T' u xs d st:=by
 unfold Zd;rw[h.tbl u hu];simp only[h.call u _ _ hu]
theorem z51(h:Agr R T T' O O'){op:AOp}(hu:∀u∈opU op,R u=true){d:Option Nat}{st:St}:opX O T op d st=opX O' T' op d st:=by
 cases op<;>simp only[opX]
 case call u args=>exact zny h (hu _ (by simp[opU]))
 case ifc k x=>unfold Zq;rw[h.tbl _ (hu _ (by simp[opU]))]
 case inv nm k u r args=>
  have e1:Zq T k=Zq T' k:=by unfold Zq;rw[h.tbl _ (hu _ (by simp[opU]))]
  have e2:Zao T k=Zao T' k:=by unfold Zao;rw[h.tbl _ (hu _ (by simp[opU]))]
  have e3:Ziq T k=Ziq T' k:=by unfold Ziq;rw[h.tbl _ (hu _ (by simp[opU]))]
  grind[zny,opU]
 case xop k xs=>
  cases k<;>simp only
  all_goals rename_i k
  all_goals
   have e1:Zq T k=Zq T' k:=by unfold Zq;rw[h.tbl _ (hu _ (by simp[opU]))]
   rw[e1]
theorem zxi(h:Agr R T T' O O'){o:AO}(hu:∀u∈opU o.op,R u=true){st:St}:Zhg O T o st=Zhg O' T' o st:=by
 unfold Zhg gX;simp only[z51 h hu]
theorem zic(h:Agr R T T' O O'):∀(l:List AO),(∀o∈l,∀u∈opU o.op,R u=true)→∀st,Zfh O T l st=Zfh O' T' l st
 | [],_,st=>rfl
 | o::l,hu,st=>by
  simp only[Zfh];rw[zxi h (hu o Y8)];congr 1
  funext s
  exact zic h l (fun o ho=>hu o (Yq _ ho)) s
theorem z52(h:Agr R T T' O O'){op:AOp}(hu:∀u∈opU op,R u=true){e:Env}{hp:Heap}{older:List Heap}:opD O T op e hp older=opD O' T' op e hp older:=by
 by_cases hap:∃z x0 y,op=.app z x0 y
 ·obtain⟨z,x0,y,rfl⟩:=hap;by_cases hc:x0=.c (.sl [] .nl)
  ·subst hc;rfl
  ·rw[zqf hc,zqf hc]
 cases op<;>(try exact absurd ⟨_,_,_,rfl⟩ hap)<;>simp only[opD]
 case call u args=>
  rw[h.tbl _ (hu _ (by simp[opU]))];simp only[h.call _ _ _ (hu _ (show u∈_ by simp[opU]))]
 case ifc k x=>unfold Zq;rw[h.tbl _ (hu _ (by simp[opU]))]
 case inv nm k u r args=>
  have e1:Zq T k=Zq T' k:=by unfold Zq;rw[h.tbl _ (hu _ (by simp[opU]))]
  have e2:Zao T k=Zao T' k:=by unfold Zao;rw[h.tbl _ (hu _ (by simp[opU]))]
  rw[e1,e2,h.tbl u (hu u (by simp[opU]))];simp only[h.call u _ _ (hu u (by simp[opU]))]
theorem zxj(h:Agr R T T' O O'){o:AO}(hu:∀u∈opU o.op,R u=true){e:Env}{hp:Heap}{older:List Heap}:qX O T o e hp older=qX O' T' o e hp older:=by
 unfold qX;simp only[z52 h hu]
theorem zxk(h:Agr R T T' O O'){u:Nat}(hu:R u=true){ys:List AV}:Zfo O T u ys=Zfo O' T' u ys:=by
 unfold Zfo;rw[h.tbl u hu];simp only[h.call u _ _ hu]
theorem znz(h:Agr R T T' O O'):∀(l:List DO),(∀o∈l,∀u∈opU o.ao.op,R u=true)→∀e hp clk older pend,Zcd O T l e hp clk older pend=Zcd O' T' l e hp clk older pend
 | [],_,e,hp,clk,older,pend=>rfl
 | o::l,hu,e,hp,clk,older,pend=>by
  have ih:=znz h l (fun o ho=>hu o (Yq _ ho));simp only[Zcd];rw[zxj h (hu o Y8)];simp only[ih];cases o.ao.op.writes with
  | true=>rfl
  | false=>
   cases hrow:Zh6 o.ao.guard o.ao.op.callN e hp (older.take (older.length-o.lo)) with
   | none=>rfl
   | some p=>
    obtain⟨_,args,hop,_⟩:=znx hrow;have hp:R p.1=true:=hu o Y8 _ (by rw[hop];simp[opU]);simp only[zxk h hp]
theorem zn0(h:Agr R T T' O O')(tl:List AO)(ht:∀o∈tl,∀u∈opU o.op,R u=true):∀(l:List AO),(∀o∈l,∀u∈opU o.op,R u=true)→∀e hp clk,Zev O T tl l e hp clk=Zev O' T' tl l e hp clk
 | [],_,e,hp,clk=>zic h tl ht _
 | o::l,hu,e,hp,clk=>by
  have ih:=zn0 h tl ht l (fun o ho=>hu o (Yq _ ho));simp only[Zev];rw[zxj h (hu o Y8)];simp only[ih]
theorem zxl(h:Agr R T T' O O'){u:Nat}(hu:R u=true){xs:List AV}{d clk:Nat}:Zf7 O T u xs d clk=Zf7 O' T' u xs d clk:=by
 unfold Zf7;rw[h.tbl u hu];simp only[h.call u _ _ hu]
theorem zn1(h:Agr R T T' O O')(tl:List AO)(ht:∀o∈tl,∀u∈opU o.op,R u=true)(h0:Heap)(c0:Nat)(X:Heap):∀(l:List AO),(∀o∈l,∀u∈opU o.op,R u=true)→∀e hp clk,Zbc O T tl h0 c0 X l e hp clk=Zbc O' T' tl h0 c0 X l e hp clk
 | [],_,e,hp,clk=>zic h tl ht _
 | o::l,hu,e,hp,clk=>by
  have ih:=zn1 h tl ht h0 c0 X l (fun o ho=>hu o (Yq _ ho));simp only[Zbc];rw[zxj h (hu o Y8)];simp only[ih];cases hm:o.op.maker with
  | true=>rfl
  | false=>
   cases hst:o.op.isStore with
   | true=>rfl
   | false=>
   cases hl:o.op.lentN with
   | none=>rfl
   | some ua=>
    have hua:R ua.1=true:=hu o Y8 _ (by rw[zk5 hl];simp[opU]);simp only[zxl h hua]
theorem zb8(h:Agr R T T' O O')(k:Nat):∀(c:AX),(∀u∈cXs c,R u=true)→∀st,evX O T k c st=evX O' T' k c st
 | .skip,_,st=>rfl
 | .reg l,hu,st=>by
  simp only[evX];rw[zic h l fun o ho u hou=>hu u (Yau.2 ⟨o,ho,hou⟩)]
 | .draw l,hu,st=>by
  simp only[evX];rw[znz h l fun o ho u hou=>hu u (Yau.2 ⟨o,ho,hou⟩)]
 | .drawT hd tl,hu,st=>by
  simp only[evX];rw[zn0 h tl (fun o ho u hou=>hu u (Yba _ (Yau.2 ⟨o,ho,hou⟩))) hd (fun o ho u hou=>hu u (Ya6 _ (Yau.2 ⟨o,ho,hou⟩)))]
 | .drawM hd tl,hu,st=>by
  simp only[evX];rw[zn1 h tl (fun o ho u hou=>hu u (Yba _ (Yau.2 ⟨o,ho,hou⟩))) _ _ _ hd (fun o ho u hou=>hu u (Ya6 _ (Yau.2 ⟨o,ho,hou⟩)))]
 | .bad,_,st=>rfl
 | .prim f,_,st=>rfl
 | .seq a b,hu,st=>by
  simp only[evX];rw[zb8 h k a fun u hm=>hu u (Ya6 _ hm)];congr 1
  funext r
  rw[zb8 h k b fun u hm=>hu u (Yba _ hm)]
 | .cond c x y,hu,st=>by
  simp only[evX];rw[zb8 h k x fun u hm=>hu u (Ya6 _ hm),zb8 h k y fun u hm=>hu u (Yba _ hm)]
 | .block id c,hu,st=>by
  simp only[evX];rw[zb8 h k c hu]
 | .loop c,hu,st=>h.loop k c st hu
 | .exit id,_,st=>rfl
 | .ret,_,st=>rfl
 | .note c g,hu,st=>by
  simp only[evX];rw[zb8 h k c hu]
 | .pre g c,hu,st=>by
  simp only[evX];congr 1
  funext s
  exact zb8 h k c hu s
 | .scope c,hu,st=>by
  simp only[evX];rw[zb8 h k c hu]
 | .label _,_,st=>rfl
 | .goto _,_,st=>rfl
 | .gsc l c r,hu,st=>by
  simp only[evX];rw[zb8 h k c fun u hm=>hu u (Ya6 _ hm)];congr 1
  funext s
  exact zb8 h k r (fun u hm=>hu u (Yba _ hm)) s
 | .lp id g c g2,hu,st=>by
  simp only[evX,h.loop k c _ hu]
theorem zxm(hc:∀u af,R u=true→T u=some af→∀v∈cXs af.body,R v=true)(h:Agr R T T' O O'):Agr R T T' (Zdw T O) (Zdw T' O') where
 tbl:=h.tbl
 call u xs hb hu:=by
  simp only[Zdw];rw[←h.tbl u hu];cases ht:T u with
  | none=>rfl
  | some af=>
   grind[zb8]
 loop k c st hu:=by
  simp only[Zdw];rw[zb8 h k c hu];congr 1
  funext r
  rw[h.loop k c _ hu]
theorem zl8(ht:∀u,R u=true→T u=T' u)(hc:∀u af,R u=true→T u=some af→∀v∈cXs af.body,R v=true):∀n,Agr R T T' (orcN T n) (orcN T' n)
 | 0=>⟨ht,fun _ _ _ _=>rfl,fun _ _ _ _=>rfl⟩
 | n+1=>zxm hc (zl8 ht hc n)
theorem z53(ht:∀u,R u=true→T u=T' u)(hc:∀u af,R u=true→T u=some af→∀v∈cXs af.body,R v=true):Agr R T T' (orc T) (orc T'):=by
 refine⟨ht,fun u xs hb hu=>?_,fun k c st hu=>?_⟩
 ·simp only[orc];congr 1
  funext n
  exact(zl8 ht hc n).call u xs hb hu
 ·simp only[orc];congr 1
  funext n
  exact(zl8 ht hc n).loop k c st hu
end
theorem zeh{l:List (Nat×AFx)}{u:Nat}{af:AFx}(h:l.lookup u=some af):(u,af)∈l:=by
 induction l with
 | nil=>cases h
 | cons q l ih=>
  grind
structure Part (l l':List (Nat×AFx)):Prop where
 sub:∀p∈l',l.lookup p.1=some p.2
 clo:(l'.all fun p=>(cXs p.2.body).all fun v=>(l'.lookup v).isSome || (l.lookup v).isNone)=true
theorem Part.agr{l l':List (Nat×AFx)}(h:Part l l'):Agr (fun u=>(l'.lookup u).isSome || (l.lookup u).isNone) (fun u=>l.lookup u) (fun u=>l'.lookup u) (orc fun u=>l.lookup u) (orc fun u=>l'.lookup u):=by
 refine z53 (fun v hv=>?_) (fun v a hv hva w hw=>?_)
 ·cases hv2:l'.lookup v with
  | none=>
   cases hv3:l.lookup v with
   | none=>rfl
   | some a=>grind
  | some a=>exact h.sub _ (zeh hv2)
 ·cases hv2:l'.lookup v with
  | none=>grind
  | some b=>
   have hb:=zeh hv2;have h1:=h.sub _ hb;rw[hva]at h1;cases h1;exact Ym.1 (Ym.1 h.clo _ hb) w hw
theorem Part.ev{l l':List (Nat×AFx)}(h:Part l l'){c:AX}(hc:((cXs c).all fun v=>(l'.lookup v).isSome)=true){st:St}{r:Option (Ex×St)}
  (he:evX (orc fun u=>l.lookup u) (fun u=>l.lookup u) 0 c st=r):evX (orc fun u=>l'.lookup u) (fun u=>l'.lookup u) 0 c st=r:=by
 rw[←zb8 h.agr 0 c (fun v hv=>by grind) st];omega
theorem Part.call{l l':List (Nat×AFx)}(h:Part l l'){u:Nat}(hu:(l'.lookup u).isSome=true){xs:List AV}{r:Option AV}(he:Za (fun u=>l.lookup u) u xs=r):Za (fun u=>l'.lookup u) u xs=r:=by
 rw[←he];unfold Za;rw[h.agr.call u xs [] (by grind)]
end Go.Ab
end