/-
  A calculus of values, boxes and code, and what functions of the program compute, proved in it.
  Conditions: none beyond those that the theorems state. (Part 5.)
-/
import Derived.Test.YtmojeopgpabkhaaGreatDoorPart4

set_option linter.unusedSectionVars false
set_option linter.unusedVariables false
set_option linter.unusedSimpArgs false
set_option linter.unnecessarySimpa false
set_option linter.defProp false
set_option maxRecDepth 100000

namespace Go.Ab
section
def b202:AX:=QZ "g79LOx_UeD0OQybNQLLrg9gBS47wdlvayu.b.IiGv4M9okLwa4c4txVs_V03WRQ7r2FBk6"
def b203:AX:=QZ "0Y_uMbXBht0bSoqpJu5Zr8wq1wyUMT287WTv40USs5P1mgvuixrnAMSHNYdQGPg9"
def b205:AX:=QZ "T.jPM5u9jBWGbRSPz.vXOba4vsrK3"
def b207:AX:=QZ "0UMUsQV.RLjl13DjumJR6TP5Cb7D"
def b209:AX:=QZ "1PgBglcuZ_3ZeggeD26ca0Kk8rGtOd4RqyZlsjAvbi.9polTaNq"
def b210:AX:=QZ "IXdZQJE0BTUMd8cvDa8wkhkS3WG"
def b211:AX:=QZ "7v1NhhysXb3LGYDcfyMurhBS5vHnct86mNTb36OjY.ZHxxRopAwYncKlRc2T4MWZKeNGTOsX.4XYQOzDCdOleGBQLyHUxc_X8kjgn"
def b212:AX:=QZ "kZHCNdzrZsE.n4LiYxjoMARSg."
def b213:AX:=QZ "6KYwyxNF4YrD6eXkr68agK8TV7hLOGar26tuO69B3FmFD9d4"
def b215:AX:=QZ "J6aVaKCrfNaPmRTAOThw8E0IzUuBNIruLUw8a1MD4tDrQEhgJ1vpWEFYCM73xVWoNSUc.RQnMg0aHDQuosIK1DqfA0WLsu3xMCfJiqYiUih0hdvskFd"
def b216:AX:=QZ "J6aVaKCrfNaPmRTAOThw8E0J.mRINCzrcyjAJKtk6idZTBTCvEJorCmQOcrrwqoBd5WO5OBpQjRezRvVWHB0tOkqzGu2zQmt.1Kc_UvYgmMJM9bIpcr"
def b217:AX:=QZ "Y1veyGN4rzA3GRt6BL9Ncd7w5GQXf_W8WLpn_cl4PISrzelcTt_nSpwLwTOx4dLH5Y.Yjv7y5CEiLrpx1JrLa24qqvtoLHPScRWiO2"
def b218:AX:=QZ "REx1TVYIdf20buOnu.9DOabY_Ib.y7EkMHZc1aucQem_LAgbxpQnaacJn141Xfs0RvACRyyqEze_snivkOYi2tyZTzjFipoPQqdTKjYZr15fVGjb3DvDiW9jP3waEyuQ8ewXThgKKWXUDH8mQ1NHwHGepFXLJ65XrXhVIPFy"
abbrev row202:AFx:=⟨2,21,[.cell 4 (some 3)],b202,none,false⟩
abbrev row203:AFx:=⟨1,13,[.cell 2 (some 2),.t 3],b203,none,false⟩
abbrev row205:AFx:=⟨1,7,[.cell 2 (some 3)],b205,none,false⟩
abbrev row207:AFx:=⟨1,8,[.cell 2 (some 3)],b207,none,false⟩
abbrev row209:AFx:=⟨1,12,[.t 2],b209,none,false⟩
abbrev row210:AFx:=⟨2,9,[.cell 4 (some 2)],b210,none,false⟩
abbrev row211:AFx:=⟨2,26,[.t 4],b211,none,false⟩
abbrev row212:AFx:=⟨2,9,[.t 4],b212,none,false⟩
abbrev row213:AFx:=⟨1,11,[.cell 2 (some 3)],b213,none,false⟩
abbrev row215:AFx:=⟨2,30,[.cell 4 (some 3)],b215,none,false⟩
abbrev row216:AFx:=⟨2,30,[.cell 4 (some 3)],b216,none,false⟩
abbrev row217:AFx:=⟨2,26,[.cell 4 (some 3)],b217,none,false⟩
abbrev row218:AFx:=⟨2,40,[.cell 4 (some 3),.t 5],b218,none,false⟩
class Zs (T:Tbl):Prop where
 h202:Tr T 202=some row202
 h203:Tr T 203=some row203
 h205:Tr T 205=some row205
 h207:Tr T 207=some row207
 h209:Tr T 209=some row209
 h210:Tr T 210=some row210
 h211:Tr T 211=some row211
 h212:Tr T 212=some row212
 h213:Tr T 213=some row213
 h215:Tr T 215=some row215
 h216:Tr T 216=some row216
 h217:Tr T 217=some row217
 h218:Tr T 218=some row218
attribute [simp] Zs.h202 Zs.h203 Zs.h205 Zs.h207 Zs.h209 Zs.h210 Zs.h211 Zs.h212 Zs.h213 Zs.h215 Zs.h216 Zs.h217 Zs.h218
end
section
def b204:AX:=QZ "DepWm4AJhYGvGBUL_911D078lW436OnQh7ugoR06VFC6fE4WW7Dx0"
abbrev row204:AFx:=⟨2,12,[.cell 4 (some 3),.t 5],b204,none,false⟩
class Zbv (T:Tbl):Prop where
 h204:Tr T 204=some row204
attribute [simp] Zbv.h204
end
section
def b208:AX:=QZ "196RqjD0K4lr8A8tdvYq9oIIBzqM1YTHeJKvdVjzBmmZd7Snwn0X2WzKIIuNYp3RfifLL_7FjRq.in5HVAMz3SXJTlOAzX.8Pa93bVSq06NfI6FvL1YLdu3E.1C42Kwjk7StMpKnD2ChpBMqme8Ew8YMnxaYNbO18GRioUZ1dK"
def l219_0:AX:=QZ "216GRRxFmYS3evhp3XVOeEu2ctEsRzOfHH4yA_"
def b219:AX:=(fun p0=>QY [p0] [] "AyqFXYAqFBBHv5Pd0d19tBNG6g15wHf9ZO8Mm7f") l219_0
def b220:AX:=QY [] [(AV.i .i64 (-8))] "EVp.avcX0uj9AGKUdG.dhnNtCIHMkqNWy_acDRfucFR8RwhTD.qacTao_0XUSJiVH_F_EfyAK2zjtWkIpFKAYeyWczGJj0D69qytm3J74J4Y8pneG2tZ_Fmhn0FgvaAz5eC5KmS8Hmhqllmya7ePOAu9yeig877Ppz__1AY_sD3QYJgtoxrVlwmS1r24mmpuK.MbrVe7B.ZCeh7P0.xoX4.rIn_K"
abbrev row208:AFx:=⟨1,51,[.t 2],b208,none,false⟩
abbrev row219:AFx:=⟨2,15,[.t 4],b219,none,false⟩
abbrev row220:AFx:=⟨2,58,[.cell 4 (some 3),.t 5],b220,none,false⟩
class Z0 (T:Tbl):Prop where
 h208:Tr T 208=some row208
 h219:Tr T 219=some row219
 h220:Tr T 220=some row220
attribute [simp] Z0.h208 Z0.h219 Z0.h220
end
section
def b223:AX:=QZ "pzDP1j6gBpp.4szYkCeQhf67EKPyF3"
abbrev row223:AFx:=⟨1,11,[.t 2],b223,none,false⟩
class Z5 (T:Tbl):Prop where
 h223:Tr T 223=some row223
attribute [simp] Z5.h223
end
section
def b356:AX:=QZ "D6bahOzn667v9hB5ON6AqlOkGofixGB8dLksHuuTBxl4k5DHMD6RHd7TIxSfBupf2vJ.UmjBBP"
abbrev row356:AFx:=⟨1,20,[.t 2],b356,none,false⟩
class Zbk (T:Tbl):Prop where
 h356:Tr T 356=some row356
attribute [simp] Zbk.h356
end
def isD(c:UInt8):Bool:=decide (48<=c.toNat)&&decide (c.toNat<=57)
def isL(c:UInt8):Bool:=decide (97<=c.toNat)&&decide (c.toNat<=122) || decide (65<=c.toNat)&&decide (c.toNat<=90) || decide (c.toNat=95)
def Zpb:List UInt8:=[43,45,42,47,94,40,41,91,93,44,59,61]
def isS(c:UInt8):Bool:=Zpb.contains c
def Zev(c:UInt8):Nat:=if isD c then 1 else if isL c then 2 else if isS c then 3 else 0
def Znf(k:Nat)(c:UInt8):Bool:=decide (k=1)&&isD c || decide (k=2)&&(isL c || isD c)
def Zlr(k:Nat):Nat:=if k=1 then 60 else if k=2 then 12 else 1
def isB(c:UInt8):Bool:=decide (c=32) || decide (c=9) || decide (c=10) || decide (c=13)
abbrev Wd:=Nat×List UInt8×Nat
def Zk3:Bool->List UInt8->Nat
 | _,[]=>0
 | note,c::r=>
  let note':=if c=35 then true else if c=10 then false else note
  if (note' || isB c)=true then 1+Zk3 note' r else 0
def Zhb(k:Nat)(r:List UInt8):Nat:=1+(r.takeWhile (Znf k)).length
def Zn6(l:List UInt8)(i:Nat)(acc:List Wd):Except Nat (List Wd):=
 match l with
 | []=>.ok acc
 | c::r=>
  if Zev c=0 then .error i
  else if Zlr (Zev c)<Zhb (Zev c) r then .error (i+Zlr (Zev c))
  else Zn6 ((r.drop (Zhb (Zev c) r-1)).drop (Zk3 false (r.drop (Zhb (Zev c) r-1)))) (i+Zhb (Zev c) r+Zk3 false (r.drop (Zhb (Zev c) r-1)))
   (acc++[(Zev c,(c::r).take (Zhb (Zev c) r),i)])
termination_by l.length
decreasing_by grind
def Zng(c:UInt8)(i:Nat)(acc:List Wd):List Wd:=
 match acc.getLast? with
 | some (k,t,a)=>if a+t.length=i/\Znf k c=true then acc.dropLast++[(k,t++[c],a)] else acc++[(Zev c,[c],i)]
 | none=>acc++[(Zev c,[c],i)]
def Zpc(acc:List Wd):Bool:=
 match acc.getLast? with
 | some (k,t,_)=>decide (k=0) || decide (Zlr k<t.length)
 | none=>false
def Zpd:List UInt8->Nat->Bool->List Wd->Except Nat (List Wd)
 | [],_,_,acc=>.ok acc
 | c::r,i,note,acc=>
  let note':=if c=35 then true else if c=10 then false else note
  if (note' || isB c)=true then Zpd r (i+1) note' acc
  else if Zpc (Zng c i acc)=true then .error i
  else Zpd r (i+1) note' (Zng c i acc)
def Zrq(acc:List Wd)(i:Nat)(l:List UInt8):Prop:=∀k t a,acc.getLast? = some (k,t,a)->a+t.length=i->∀c r,l=c::r->Znf k c=false
def prim187:List AV->Option AV
 | [.i .u8 n]=>if 0<=n/\n<256 then some (.b (isS (UInt8.ofNat n.toNat))) else none
 | _=>none
def prim184:List AV->Option AV
 | [.s l,.s [c]]=>if l.length<=1000000 then some (.tup [.s (l.takeWhile (· != c)),.s ((l.dropWhile (· != c)).drop 1),.b (l.contains c)]) else none
 | _=>none
def textOf:List AV->Option (List UInt8)
 | [.s l]=>if l.length<=10000 then some l else none
 | _=>none
def prim183:List AV->Option AV
 | [.sl els .an,.s sep]=>if els.length<=1000/\sep.length<=100 then (els.mapM textOf).map fun ts=>.s (List.intercalate sep ts) else none
 | _=>none
def Zcu(l:List (List UInt8)):List (List AV):=l.map fun s=>[.s s]
@[simp] theorem zd1(l:List (List UInt8)):(Zcu l).length=l.length:=by simp[Zcu]
@[simp] def z48(l:List (List UInt8)):wkL (Zcu l)=Zcu l:=by
 induction l with
 | nil=>rfl
 | cons x l ih=>simpa[Zcu,wkL,wkR]using ih
def zw7(l:List (List UInt8))(s:List UInt8):wkL (List.take l.length (Zcu l)++[[AV.s s]])=Zcu (l++[s]):=by
 rw[Yc (by simp),show Zcu l++[[AV.s s]]=Zcu (l++[s]) by simp[Zcu],z48]
theorem zsp(l:List (List UInt8))(h:∀s∈l,s.length<=10000):(Zcu l).mapM textOf=some l:=by
 induction l with
 | nil=>rfl
 | cons x l ih=>
  grind[textOf,Zcu]
theorem zmk:∀{els:List (List AV)} {ts:List (List UInt8)},els.mapM textOf=some ts->els=Zcu ts/\∀t∈ts,t.length<=10000
 | [],ts,h=>by cases h;exact⟨rfl,by simp⟩
 | r::els,ts,h=>by
  rw[Ybm]at h;obtain⟨x,hx,h1⟩:=bind_some h;obtain⟨y,hy,h2⟩:=bind_some h1;cases h2;obtain⟨e1,e2⟩:=zmk hy;unfold textOf at hx;split at hx
  ·split at hx
   ·cases hx;rename_i hl;subst e1;exact⟨rfl,fun t ht=>(Yw.1 ht).elim (fun h=>h▸hl) (e2 t)⟩
   ·cases hx
  ·cases hx
theorem zw8(l:List (List UInt8))(sep:List UInt8)(h:∀s∈l,s.length<=10000)(hl:l.length<=1000)(hs:sep.length<=100):prim183 [.sl (Zcu l) .an,.s sep]=some (.s (List.intercalate sep l)):=by
 grind[prim183,zd1,zsp]
section
abbrev row183:AFx:=⟨0,0,[],.prim prim183,none,false⟩
class Za5 (T:Tbl):Prop where
 h183:Tr T 183=some row183
attribute [simp] Za5.h183
section
variable{T:Tbl}[Za5 T]{d:Option Nat}{st:St}{xs:List AV}{ps:List Opd}{e:Env}{h:Heap}{ol:List Heap}
theorem p183(xs:List AV):Za T 183 xs=prim183 xs:=zl0 Za5.h183
end
end
section
def b251:AX:=QY [] [(AV.s [47])] "6LiNfnn8mPJInA0FARr8tli6qaZ.l4PSopIB5nKgMIL53S0ETf9AJUIUTnXugNep9kY4TEhxmsCEHt3w4"
def l263_0:AX:=QZ "RgV2ZUfn1Tb9De1QchaVlPTD1svz3dsyEwrPSijgyQ6b"
def b263:AX:=(fun p0=>QY [p0] [] "kVxxtM17.QNrhnCj8xun9G9vo07VygEGwHERLCtwIUnJFV8DTOYlZCgwC") l263_0
def b264:AX:=QZ "0tT5wr_TA5uu3cYD3xIqOTnczOPOsIqz55tiGhI0xL65278w7sDM3TvJqXSyu0pS8"
def l265_0:AX:=QZ "J6uuTyV77f1ULVvFUCM9zdKm4hD98CYK2HH47BZd7LDj7DcAUz9_eeNCEYYEM4za"
def b265:AX:=(fun p0=>QY [p0] [] "1lJoGcT5Gxc.rtT_LpRAJtE1nAqlKhthCsfV6ff.9GD") l265_0
def l274_0:AX:=QZ "1VtJWH.CSir4PfoFWTYAqurzDc_UC39cwZ.zs3ZwoJKTThUzd6_8pqe5kjVa.2c"
def b274:AX:=(fun p0=>QY [p0] [(AV.s [44])] "v0SDdctRkos5HO.9OcQpAy2v38uv7YiOgIzedF") l274_0
def l2263_0:AX:=QZ "RgV2ZUfn1Tb9De1QchaVlPTD1svz3dsyEwrPSijgyQ6b"
def b2263:AX:=(fun p0=>QY [p0] [] "kVxxtM17.QNrhnCj8xun9G9vo07VygEGwHERLCtwIUnJFV8DTOYlZCgwC") l2263_0
abbrev row251:AFx:=⟨1,21,[.t 2],b251,none,false⟩
abbrev row263:AFx:=⟨1,20,[.t 2],b263,none,false⟩
abbrev row264:AFx:=⟨2,21,[.t 4],b264,none,false⟩
abbrev row265:AFx:=⟨2,27,[.t 4],b265,none,false⟩
abbrev row274:AFx:=⟨1,20,[.t 2],b274,none,false⟩
abbrev row2263:AFx:=⟨1,20,[.t 2],b2263,(some [false]),false⟩
class Zb8 (T:Tbl):Prop where
 h251:Tr T 251=some row251
 h263:Tr T 263=some row263
 h264:Tr T 264=some row264
 h265:Tr T 265=some row265
 h274:Tr T 274=some row274
 h2263:Tr T 2263=some row2263
attribute [simp] Zb8.h251 Zb8.h263 Zb8.h264 Zb8.h265 Zb8.h274 Zb8.h2263
end
class Zny (T:Tbl):Prop where
class Znz (T:Tbl):Prop where
class Zb1 (T:Tbl):Prop where
section
variable{T:Tbl}[Zb1 T]
def atW(a:List UInt32)(i:Nat):Nat:=(a[i]?.map UInt32.toNat).getD 0
end
section
variable{T:Tbl}[Zb1 T]
def Zp5(a b:List UInt32)(n:Nat)(y:Nat×Nat×List UInt32):St:=
 ⟨[(0,.sl (Zb a) .an),(1,.sl (Zb b) .an),(5,.i .i64 n),(6,.bs (.loc 16) 1 1 0 n),(7,u64 y.2.1),(8,.i .i64 y.1)],[(.loc 16,⟨1,.own,1,Zb y.2.2⟩)],3⟩
def Zp6(a b:List UInt32)(n:Nat)(y:Nat×Nat×List UInt32):St:=
 ⟨[(0,.sl (Zb a) .an),(1,.sl (Zb b) .an),(5,.i .i64 n),(6,.bs (.loc 17) 1 1 0 n),(7,u64 y.2.1),(8,.i .i64 y.1)],[(.loc 17,⟨1,.own,1,Zb y.2.2⟩)],3⟩
end
class Zb2 (T:Tbl):Prop extends Zb1 T where
section
variable{T:Tbl}[Zb2 T]
def Zrb(P S a b:List UInt32)(y:Nat×Nat×List UInt32):St:=
 ⟨[(0,.sl (Zb a) .an),(1,.sl (Zb b) .an),(5,.bs (.loc 14) 1 1 0 (P.length+S.length)),(6,.i .i64 P.length),(7,u64 y.2.1),(8,.i .i64 y.1)],[(.loc 14,⟨1,.own,1,Zb (P++(y.2.2++S.drop y.1))⟩)],3⟩
end
section
variable{T:Tbl}[Zb2 T]
def Zp7(a b:List UInt32)(y:Nat×List UInt32):St:=
 ⟨[(0,.sl (Zb a) .an),(1,.sl (Zb b) .an),(5,.bs (.loc 14) 1 1 0 (a.length+b.length)),(6,.i .i64 y.1)],[(.loc 14,⟨1,.own,1,Zb (y.2++List.replicate (a.length-y.1) 0)⟩)],3⟩
end
class Zbm (T:Tbl):Prop extends Zb2 T where
class Zc7 (T:Tbl):Prop where
section
variable{T:Tbl}[Zbm T]
def Zsn(a:List UInt32)(y:Nat×Nat×List UInt32):St:=
 ⟨[(0,.bs (.bor 0) 0 1 0 a.length),(4,u32 y.2.1),(5,.i .i64 y.1)],[(.bor 0,⟨0,.own,1,Zb (y.2.2++a.drop y.1)⟩)],4⟩
end
section
variable{T:Tbl}[Zbm T]
def Zso(a b:List UInt32)(y:Nat×Nat×List UInt32):St:=
 ⟨[(0,.bs (.bor 0) 0 1 0 a.length),(1,.sl (Zb b) .an),(4,u64 y.2.1),(5,.i .i64 y.1)],[(.bor 0,⟨0,.own,1,Zb (y.2.2++a.drop y.1)⟩)],4⟩
def Zsp(x i:Nat)(y:Nat):St:=⟨[(1,.i .i64 i),(5,u32 (x/2^y)),(6,.i .i64 y)],[],2⟩
end
section
variable{T:Tbl}[Zbm T]
def Zsq(a:List UInt32)(y:Nat):St:=⟨[(0,.sl (Zb a) .an),(3,.i .i64 y)],[],2⟩
end
section
variable{T:Tbl}[Zbm T]
def Zsr(a b:List UInt32)(y:Nat×List UInt32×List UInt32):St:=
 ⟨[(0,.sl (Zb a) .an),(1,.sl (Zb b) .an),(6,.bs (.loc 11) 1 1 0 a.length),(7,.bs (.loc 15) 2 1 0 (b.length+1)),(8,.i .i64 ((y.1:Int)-1))],[(.loc 11,⟨1,.own,1,Zb y.2.1⟩),(.loc 15,⟨2,.own,1,Zb y.2.2⟩)],4⟩
end
class Zb3 (T:Tbl):Prop extends Zbm T where
section
variable{T:Tbl}[Zb3 T]
def Zrc(N:Nat)(y:Nat×Nat×List UInt32)(P:List UInt32):St:=
 ⟨[(0,.bs (.bor 0) 0 1 0 N),(3,u64 y.2.1),(4,.i .i64 ((y.1:Int)-1))],[(.bor 0,⟨0,.own,1,Zb (P.take y.1++y.2.2)⟩)],4⟩
end
section
variable{T:Tbl}[Zb3 T]
def Zsv(b:BId)(x:List UInt32)(s:List UInt8):St:=⟨[(3,.bs b 1 1 0 x.length),(4,.s s)],[(b,⟨1,.own,1,Zb x⟩)],3⟩
end
class Zdf (T:Tbl):Prop extends Zb3 T where
section
def b247:AX:=QZ "9F2bgKQvszm_Yluvso88ob6auJjxRwNKl.TdnLqiRf0A"
abbrev row247:AFx:=⟨2,17,[.t 4],b247,none,false⟩
class Zc0 (T:Tbl):Prop where
 h247:Tr T 247=some row247
attribute [simp] Zc0.h247
end
section
def l286_0:AX:=QZ "1jEfmG6W7cB7ormJ.3109khMwCVtg02GcdH9YdJzRtaYV4OF7olBGmIboR2gm2Bv9v_"
def b286:AX:=(fun p0=>QY [p0] [] "7a8gXAJesrba7s0D1hWc9m5eMDcjTHGA") l286_0
abbrev row286:AFx:=⟨3,29,[.t 6],b286,none,false⟩
class Zc1 (T:Tbl):Prop where
 h286:Tr T 286=some row286
attribute [simp] Zc1.h286
end
section
def b248:AX:=QZ "6oLpoZ4gRqgszhzcq3NkC_I_.MCQ7Lyj7G.3"
abbrev row248:AFx:=⟨1,11,[.cell 2 (some 3)],b248,none,false⟩
class Zd6 (T:Tbl):Prop where
 h248:Tr T 248=some row248
attribute [simp] Zd6.h248
end
section
def l287_0:AX:=QZ "AIybf.YKWXFHaCv3MLhuan0qFsUC7LaWX_kM7A6a.RIwXCijyqo3y2e"
def b287:AX:=(fun p0=>QY [p0] [] "1UEexwWnUP1H7_jkshi3JjyIQ_3w") l287_0
abbrev row287:AFx:=⟨1,20,[.t 2],b287,none,false⟩
class Zd7 (T:Tbl):Prop where
 h287:Tr T 287=some row287
attribute [simp] Zd7.h287
end
section
def b421:AX:=QY [] [(AV.i .i64 (-1))] "0TzoS_3cdYStAb1v772Bsx"
def l430_0:AX:=QZ "4yaIjgEvtn93O1MMFucEDy.RbKkGj_9obNwqgUmhcZ7RvCfIcXcchjb"
def l430_1:AX:=QZ "CqtB2Y7Gv4onzqbKHv6uCSkVm7Nwk4sVbF9HIWGo1j78DEIYR_Jf.YrOWB6CAnPje"
def b430:AX:=(fun p0 p1=>QY [p0,p1] [(AV.i .i64 (-2)),(AV.i .i64 (-1))] "YUan7W_8.Bc2ZYoOeITqUFgtXXov2XjJhvzcnKKRKSTGJKEdrak4oZELws3Ml8G") l430_0 l430_1
def b433:AX:=QZ "4isvmZAhGUySf1Oh_dr9Nybg5sUW5JbCiZ0g2wS_LPKQYbX8c1w0WJ1jrVYsDm7oi.6Xb.6dVUPv4xxwgLgKK8wa"
def l434_0:AX:=QZ "05lyTEZTH7rIr0h2OqnhPoFIC5Y_IpJvI4QZf96eMpH9E07qgCGdOYUYAb"
def b434:AX:=(fun p0=>QY [p0] [(AV.i .i64 (-8))] "WULvsq_PfS.1O3HoEGYVVbeNiyUW1gzHzPy.FhSdw0x3pbaSRXzJgtCTA3abdhxL9W4lRGkMffYdUtOdsKpkL5W2EnqzGugqG3qTsl_N.UjmNEyUqYY_Zv9lhj5uJo_w0BZgs3iNykzyW7DtCHKzJFnTIbRmunSd0trKPqUl6WP5K6zU04IUOnAu2SQ.Z2rTgAj6vcXIZEOBIkcJIW4clN8KPwZTWCwnGnjrzC5LXmD4_ZTVd5J2iYMJl0Z0.r03loBziOBmd475idUjh6eGFvj3OzFrODbjZZOMFbDU4GuaWciMeXVdxuoTjYT6nF4jFcU3KZAunJozay8ydfVcqvQcNX2iSVEY3U") l434_0
def b435:AX:=QZ "PsjyN2vVZtZ6ybYiXZ7xklZOlipV3A"
def b437:AX:=QZ "1YeE8bOowYRpvEB_t2VF.OPrh3ksAC9"
def b438:AX:=QZ "rXbk0VvJk9HwmOBbnlLLZwdjOagRi6fH0v0mxJXnv1gPYXFAOav06N_TZM"
def b439:AX:=QZ "Z5wJkE9mnWwKF8vznJUz93cpbk17079Ob0yheO0bQ6l9pubIO.M9fn57jXjyZjXqBss.NsCQ5ew_TL729JbzmBfl4wqW04mGeFH1RjJwUnfyBb5kTQLvY7_2ePMhTwi"
abbrev row421:AFx:=⟨1,6,[.t 2],b421,none,false⟩
abbrev row430:AFx:=⟨1,38,[.t 2],b430,none,false⟩
abbrev row433:AFx:=⟨1,26,[.t 2],b433,none,false⟩
abbrev row434:AFx:=⟨2,92,[.t 4],b434,none,false⟩
abbrev row435:AFx:=⟨2,12,[.t 4],b435,none,false⟩
abbrev row437:AFx:=⟨1,10,[.cell 2 (some 3)],b437,none,false⟩
abbrev row438:AFx:=⟨1,20,[.t 2],b438,none,false⟩
abbrev row439:AFx:=⟨1,21,[.t 2],b439,none,false⟩
class Z7 (T:Tbl):Prop where
 h421:Tr T 421=some row421
 h430:Tr T 430=some row430
 h433:Tr T 433=some row433
 h434:Tr T 434=some row434
 h435:Tr T 435=some row435
 h437:Tr T 437=some row437
 h438:Tr T 438=some row438
 h439:Tr T 439=some row439
attribute [simp] Z7.h421 Z7.h430 Z7.h433 Z7.h434 Z7.h435 Z7.h437 Z7.h438 Z7.h439
end
end Go.Ab