/-
  A calculus of values, boxes and code, and what functions of the program compute, proved in it.
  Conditions: none beyond those that the theorems state. (Part 5.)
-/
import Derived.Test.YtfdblmomnikehaaDoorPart4

set_option linter.unusedSectionVars false
set_option linter.unusedVariables false
set_option linter.unusedSimpArgs false
set_option linter.unnecessarySimpa false
set_option linter.defProp false
set_option maxRecDepth 100000

namespace Go.Ab
section
def b202:AX:=QZ "0V7.ZcTD3nOh0xoLzDP2vAcdbhIY0St2B3EA67qDbSDa0_xxK1DHnwtVs5hxWVx14Zis7Vj"
def b203:AX:=QZ "BEjr_F5xHrahX0qfmOYIcBSYmPrNMw5s52e5d2CQlvnUf_5mXQdss_6.nzCgy9Vo"
def b205:AX:=QZ "BvwY5s32t3yWkh9WcdY4o_dcV7A02"
def b207:AX:=QZ "anmwhC9HbxBmw4sT_GGC1.94AZz"
def b209:AX:=QZ "JPy4vUU9mdPoRnjQ_o8zrcCBeO8klkpMRDfneQTINtwmrsZic6"
def b210:AX:=QZ "00XschxBrcKWR23sPnNgCuGCzpp4"
def b211:AX:=QZ "5LUPNziYoCa3R2DshkPcW4R0SmrqhiddBPvQmcjzT9vG_vfD4C1Y.PonNoXRuiNYeK..YWEvZf53qmgL.Qcz_iSlJJ8J205v1zsd"
def b212:AX:=QZ "15Y7mn6O0eh.GLurvKXzPW8Ll8K"
def b213:AX:=QZ "8enxd6RbsF3JLevfBE3wVMh3OdydR2Nx.V3UPsVhTTADiwfwQ"
def b215:AX:=QZ "5lIzAylTmlLudKEySVXC_u891ueiYVd_NpepO8qEGISAXxkwD.I3Is_f90Fcg79gWZOPsz8H_eD86knRZA4a2tfr7Qzlecu.vy3d86IbBCw2BxLMxL"
def b216:AX:=QZ "5lIzAylTmlLudKEySVXC_u892t9ThwPTrJWIZrrLdm9YNpzh0PunqceHQQa1gYQesokksD_tHdaOruu.nB_j9DSI2..pCXK2bULk7jTVJWAL8IcJk2"
def b217:AX:=QZ "VKPZoPrcKi1qmK1_mAiJXgPljClIjvKGdV7wvIPFmhgx40KJkgz6WMQRgZQRkt7zaH97Fy8TzZYiZrdsTyElPr.EUWtw4MUgdu6ca"
def b218:AX:=QZ "KRj9zsg78lFPSBh_KnTq0_iP7VHnpUmfn_nUfuYCd_h0LwdJr_a46pJ3yGf.PNIeeVpVawx.NRPSmX7l.IvyvBll4VYHTwV2ujh7ZQViPZ35tV8jUx9HySY1_7v6s7gVGJ66E0_sMRt.H7Qhtsp0iQl9bV.bYMq6H9SyBV787"
abbrev row202:AFx:=⟨2,21,[.cell 4 (some 3)],b202,none,false⟩
abbrev row203:AFx:=⟨1,13,[.cell 2 (some 2),.t 3],b203,none,false⟩
abbrev row205:AFx:=⟨1,7,[.cell 2 (some 3)],b205,none,false⟩
abbrev row207:AFx:=⟨1,8,[.cell 2 (some 3)],b207,none,false⟩
abbrev row209:AFx:=⟨1,12,[.t 2],b209,none,false⟩
abbrev row210:AFx:=⟨2,9,[.cell 4 (some 2)],b210,none,false⟩
abbrev row211:AFx:=⟨2,26,[.t 4],b211,none,false⟩
abbrev row212:AFx:=⟨2,9,[.t 4],b212,none,false⟩
abbrev row213:AFx:=⟨1,11,[.cell 2 (some 3)],b213,none,false⟩
abbrev row215:AFx:=⟨2,30,[.cell 4 (some 3)],b215,none,false⟩
abbrev row216:AFx:=⟨2,30,[.cell 4 (some 3)],b216,none,false⟩
abbrev row217:AFx:=⟨2,26,[.cell 4 (some 3)],b217,none,false⟩
abbrev row218:AFx:=⟨2,40,[.cell 4 (some 3),.t 5],b218,none,false⟩
class Zp (T:Tbl):Prop where
 h202:Tr T 202=some row202
 h203:Tr T 203=some row203
 h205:Tr T 205=some row205
 h207:Tr T 207=some row207
 h209:Tr T 209=some row209
 h210:Tr T 210=some row210
 h211:Tr T 211=some row211
 h212:Tr T 212=some row212
 h213:Tr T 213=some row213
 h215:Tr T 215=some row215
 h216:Tr T 216=some row216
 h217:Tr T 217=some row217
 h218:Tr T 218=some row218
attribute [simp] Zp.h202 Zp.h203 Zp.h205 Zp.h207 Zp.h209 Zp.h210 Zp.h211 Zp.h212 Zp.h213 Zp.h215 Zp.h216 Zp.h217 Zp.h218
end
class Zgc (T:Tbl):Prop where
def isD(c:UInt8):Bool:=decide (48<=c.toNat)&&decide (c.toNat<=57)
def isL(c:UInt8):Bool:=decide (97<=c.toNat)&&decide (c.toNat<=122) || decide (65<=c.toNat)&&decide (c.toNat<=90) || decide (c.toNat=95)
def Zkz:List UInt8:=[43,45,42,47,94,40,41,91,93,44,59,61]
def isS(c:UInt8):Bool:=Zkz.contains c
def Zca(c:UInt8):Nat:=if isD c then 1 else if isL c then 2 else if isS c then 3 else 0
def Zi1(k:Nat)(c:UInt8):Bool:=decide (k=1)&&isD c || decide (k=2)&&(isL c || isD c)
def Zhl(k:Nat):Nat:=if k=1 then 60 else if k=2 then 12 else 1
def isB(c:UInt8):Bool:=decide (c=32) || decide (c=9) || decide (c=10) || decide (c=13)
abbrev Wd:=Nat×List UInt8×Nat
def Zgw:Bool->List UInt8->Nat
 | _,[]=>0
 | note,c::r=>
  let note':=if c=35 then true else if c=10 then false else note
  if (note' || isB c)=true then 1+Zgw note' r else 0
def Zd1(k:Nat)(r:List UInt8):Nat:=1+(r.takeWhile (Zi1 k)).length
def Zjn(l:List UInt8)(i:Nat)(acc:List Wd):Except Nat (List Wd):=
 match l with
 | []=>.ok acc
 | c::r=>
  if Zca c=0 then .error i
  else if Zhl (Zca c)<Zd1 (Zca c) r then .error (i+Zhl (Zca c))
  else Zjn ((r.drop (Zd1 (Zca c) r-1)).drop (Zgw false (r.drop (Zd1 (Zca c) r-1)))) (i+Zd1 (Zca c) r+Zgw false (r.drop (Zd1 (Zca c) r-1)))
   (acc++[(Zca c,(c::r).take (Zd1 (Zca c) r),i)])
termination_by l.length
decreasing_by grind
def Zi2(c:UInt8)(i:Nat)(acc:List Wd):List Wd:=
 match acc.getLast? with
 | some (k,t,a)=>if a+t.length=i/\Zi1 k c=true then acc.dropLast++[(k,t++[c],a)] else acc++[(Zca c,[c],i)]
 | none=>acc++[(Zca c,[c],i)]
def Zk0(acc:List Wd):Bool:=
 match acc.getLast? with
 | some (k,t,_)=>decide (k=0) || decide (Zhl k<t.length)
 | none=>false
def Zk1:List UInt8->Nat->Bool->List Wd->Except Nat (List Wd)
 | [],_,_,acc=>.ok acc
 | c::r,i,note,acc=>
  let note':=if c=35 then true else if c=10 then false else note
  if (note' || isB c)=true then Zk1 r (i+1) note' acc
  else if Zk0 (Zi2 c i acc)=true then .error i
  else Zk1 r (i+1) note' (Zi2 c i acc)
def Zm5(acc:List Wd)(i:Nat)(l:List UInt8):Prop:=∀k t a,acc.getLast? = some (k,t,a)->a+t.length=i->∀c r,l=c::r->Zi1 k c=false
def prim187:List AV->Option AV
 | [.i .u8 n]=>if 0<=n/\n<256 then some (.b (isS (UInt8.ofNat n.toNat))) else none
 | _=>none
def prim184:List AV->Option AV
 | [.s l,.s [c]]=>if l.length<=1000000 then some (.tup [.s (l.takeWhile (· != c)),.s ((l.dropWhile (· != c)).drop 1),.b (l.contains c)]) else none
 | _=>none
def textOf:List AV->Option (List UInt8)
 | [.s l]=>if l.length<=10000 then some l else none
 | _=>none
def prim183:List AV->Option AV
 | [.sl els .an,.s sep]=>if els.length<=1000/\sep.length<=100 then (els.mapM textOf).map fun ts=>.s (List.intercalate sep ts) else none
 | _=>none
def Za4(l:List (List UInt8)):List (List AV):=l.map fun s=>[.s s]
@[simp] theorem zc5(l:List (List UInt8)):(Za4 l).length=l.length:=by simp[Za4]
@[simp] def zvi(l:List (List UInt8)):wkL (Za4 l)=Za4 l:=by
 induction l with
 | nil=>rfl
 | cons x l ih=>simpa[Za4,wkL,wkR]using ih
def zpp(l:List (List UInt8))(s:List UInt8):wkL (List.take l.length (Za4 l)++[[AV.s s]])=Za4 (l++[s]):=by
 rw[Yb (by simp),show Za4 l++[[AV.s s]]=Za4 (l++[s]) by simp[Za4],zvi]
theorem zmt(l:List (List UInt8))(h:∀s∈l,s.length<=10000):(Za4 l).mapM textOf=some l:=by
 induction l with
 | nil=>rfl
 | cons x l ih=>
  grind[textOf,Za4]
theorem zin:∀{els:List (List AV)} {ts:List (List UInt8)},els.mapM textOf=some ts->els=Za4 ts/\∀t∈ts,t.length<=10000
 | [],ts,h=>by cases h;exact⟨rfl,by simp⟩
 | r::els,ts,h=>by
  rw[Ya8]at h;obtain⟨x,hx,h1⟩:=bind_some h;obtain⟨y,hy,h2⟩:=bind_some h1;cases h2;obtain⟨e1,e2⟩:=zin hy;unfold textOf at hx;split at hx
  ·split at hx
   ·cases hx;rename_i hl;subst e1;exact⟨rfl,fun t ht=>(Yv.1 ht).elim (fun h=>h▸hl) (e2 t)⟩
   ·cases hx
  ·cases hx
theorem zpq(l:List (List UInt8))(sep:List UInt8)(h:∀s∈l,s.length<=10000)(hl:l.length<=1000)(hs:sep.length<=100):prim183 [.sl (Za4 l) .an,.s sep]=some (.s (List.intercalate sep l)):=by
 grind[prim183,zc5,zmt]
section
abbrev row183:AFx:=⟨0,0,[],.prim prim183,none,false⟩
class Za7 (T:Tbl):Prop where
 h183:Tr T 183=some row183
attribute [simp] Za7.h183
section
variable{T:Tbl}[Za7 T]{d:Option Nat}{st:St}{xs:List AV}{ps:List Opd}{e:Env}{h:Heap}{ol:List Heap}
theorem p183(xs:List AV):Zb T 183 xs=prim183 xs:=zid Za7.h183
end
end
section
def b251:AX:=QY [] [(AV.s [47])] "5eMstXVl46yQEbSOIMNHVUmj7Gs9GcZEsMGR44ka36RbK1.VCwNGJ2X9KLJoWg5zFHbELJ.Bkty44oNgF"
def l263_0:AX:=QZ "0z4HuG1EgnbNXlVOMmbhjjQeiID7g5x0B9OAbSlSGSjc"
def b263:AX:=(fun p0=>QY [p0] [] "1VtT9MN72PrMFe9_8PPAFN795DkEfVpP1TtHJv_ordvkJcuGxMo3GH08L") l263_0
def l265_0:AX:=QZ "UyukzumcBjHZkfz5Q5Q8HBba8NQfVxIBW.m43PVd9Mnnmuhhb.NygWROKgFnhEa"
def b265:AX:=(fun p0=>QY [p0] [] "J5Wppz1LXpM6MflE6DFS90nj3J9KjhZhDLLchrW_oB") l265_0
def l271_0:AX:=QZ "7dw_Oc9alZNwc.oN8g7r7XWdouzany6FrEfaM3MyzkWZ6jsLVNTRSzVAc"
def l271_1:AX:=QZ "32Fd57WTF09J9KqOIaZM4aDMIwFDUrF4jJI2oCY1qwE94O_Jlk7mqeYnKEb6xby02edwLYk3SmP95VAz2DgtT75CLkWGYKx2Eb"
def l271_2:AX:=(fun p0=>QY [p0] [] "030_aIdNKlYiQ604Q_RP8713KA85wzklWztl3G9z6s3MpYVMO0UYBOPBKuA2lCxcHQtlEiI3jpdslNIF0TMvu6_") l271_1
def b271:AX:=(fun p0 p1=>QY [p0,p1] [] "sg3MJY5TtEJqwOXADBRexJKkKdb9jW1jkF6pkckLVz0Z1AeT_YOEkK4zEKjN5hXWW5ndGckYQeOWqtShIyUysXfM.1RgpUByosu8yJfnSt_vyD0rxN") l271_0 l271_2
def l274_0:AX:=QZ "N4DyMBJandx6MMJORb4o47O8I7wPok3wjei95g4vdLbgmstS5SXiktkSilz2b_"
def b274:AX:=(fun p0=>QY [p0] [(AV.s [44])] "DtY9Bn8hDOhdaTpLGnHxhK0_TZgpIHhGK9I2V4") l274_0
def l2263_0:AX:=QZ "0z4HuG1EgnbNXlVOMmbhjjQeiID7g5x0B9OAbSlSGSjc"
def b2263:AX:=(fun p0=>QY [p0] [] "1VtT9MN72PrMFe9_8PPAFN795DkEfVpP1TtHJv_ordvkJcuGxMo3GH08L") l2263_0
abbrev row251:AFx:=⟨1,21,[.t 2],b251,none,false⟩
abbrev row263:AFx:=⟨1,20,[.t 2],b263,none,false⟩
abbrev row265:AFx:=⟨2,27,[.t 4],b265,none,false⟩
abbrev row271:AFx:=⟨3,78,[.t 6,.t 7],b271,none,false⟩
abbrev row274:AFx:=⟨1,20,[.t 2],b274,none,false⟩
abbrev row2263:AFx:=⟨1,20,[.t 2],b2263,(some [false]),false⟩
class Zbg (T:Tbl):Prop where
 h251:Tr T 251=some row251
 h263:Tr T 263=some row263
 h265:Tr T 265=some row265
 h271:Tr T 271=some row271
 h274:Tr T 274=some row274
 h2263:Tr T 2263=some row2263
attribute [simp] Zbg.h251 Zbg.h263 Zbg.h265 Zbg.h271 Zbg.h274 Zbg.h2263
end
section
def b324:AX:=QY [] [(AV.i .i64 (-1)),(AV.i .i64 (-2))] "FaQg4T_.v_IE48nsslSiwC3l6DVgq2jJrrUGJvdMfNy28bJhQWvrNaLOVyRQb23LN6pxFbZMruUVFJuCxPS5an3Gi.aWO3p1UaJRtvTQ0Za3bCmmErHFRhPC_kBVF_5FjKg_mpK8f2xgnNrJxtBl8Ml0tH9LQ9va_O_pT_bpYqBdTpleJ3zedK.z2qEczeYizld.VT.Z0ITmj3q5Z3r4kK.Kmdg9oE0V3"
def b326:AX:=QY [] [(AV.i .i64 (-1)),(AV.i .i64 (-3)),(AV.i .i64 (-2))] "1O2NSIBluYkzODla7aChQ.UQJqGj663D0Ox3Qzk6XlvR4KdNBaoOukpV0oEzh1aSPdgKJfUcHDJMHYl96ETW.hlwgOX8.Qwg2h69Tp6MFi2_ZDXpW_WuL1fOHIi6dksG_mF3KZs9MbaVuj80u5GSSq3tfwJIMkQmnA89YAB254q8gqJp63xmf8HvsfoXtso46N93Y_Xw8EOUCiWiTqL0bIWusmr04S9jHz.D5FGzQ02T72CYoDG7"
def b329:AX:=QZ "QQ470AlOwFQos3uy0mYB2i7C8HpnPadJMBaFMlG5PlayG.cDZYJEtOYJz5yeKdR600P0IC82mp2iZxXULgNtSJgQ3Vf2UNW8PHbON_YrB_3xkHg6y5aIzh8"
def b335:AX:=QZ "23qGeMOlWkrK6hXkZ9tgqGZnE7mwLLFQg13NWvJD6FdnzWoLZSDm.Djes9UZFMGcEVcQSHaNLG3VJ9J0"
def b336:AX:=QZ "FZnFSBFqlQYLY9cU4Fw8ybQToHqnPVTDQLwGg7"
def l337_0:AX:=QZ "1ONB1f7AFDkAdYekp33l83BdskrbAU2102qnWHfPdldZ0D.wFkuAh6_"
def b337:AX:=(fun p0=>QY [p0] [] "04_X.KhwryPOogBMXT_Q3DbXzkuaVx109HXLG8TaTcCIwzgOMFg") l337_0
def b338:AX:=QZ "nexm4q24Qama45.1cBz5QoEAJXJbtoFNjWd7cZ."
abbrev row324:AFx:=⟨2,52,[.t 4,.t 5],b324,none,false⟩
abbrev row326:AFx:=⟨2,51,[.t 4,.t 5],b326,none,false⟩
abbrev row329:AFx:=⟨1,36,[.t 2],b329,none,false⟩
abbrev row335:AFx:=⟨2,18,[.cell 4 (some 3)],b335,none,false⟩
abbrev row336:AFx:=⟨3,14,[.cell 6 (some 3)],b336,none,false⟩
abbrev row337:AFx:=⟨1,18,[.cell 2 (some 3)],b337,none,false⟩
abbrev row338:AFx:=⟨1,12,[.t 2],b338,none,false⟩
class Zbf (T:Tbl):Prop where
 h324:Tr T 324=some row324
 h326:Tr T 326=some row326
 h329:Tr T 329=some row329
 h335:Tr T 335=some row335
 h336:Tr T 336=some row336
 h337:Tr T 337=some row337
 h338:Tr T 338=some row338
attribute [simp] Zbf.h324 Zbf.h326 Zbf.h329 Zbf.h335 Zbf.h336 Zbf.h337 Zbf.h338
end
class Zih (T:Tbl):Prop where
class Zaz (T:Tbl):Prop where
section
variable{T:Tbl}[Zaz T]
def atW(a:List UInt32)(i:Nat):Nat:=(a[i]?.map UInt32.toNat).getD 0
end
section
variable{T:Tbl}[Zaz T]
def Zlp(a b:List UInt32)(n:Nat)(y:Nat×Nat×List UInt32):St:=
 ⟨[(0,.sl (Za a) .an),(1,.sl (Za b) .an),(5,.i .i64 n),(6,.bs (.loc 16) 1 1 0 n),(7,u64 y.2.1),(8,.i .i64 y.1)],[(.loc 16,⟨1,.own,1,Za y.2.2⟩)],3⟩
def Zlq(a b:List UInt32)(n:Nat)(y:Nat×Nat×List UInt32):St:=
 ⟨[(0,.sl (Za a) .an),(1,.sl (Za b) .an),(5,.i .i64 n),(6,.bs (.loc 17) 1 1 0 n),(7,u64 y.2.1),(8,.i .i64 y.1)],[(.loc 17,⟨1,.own,1,Za y.2.2⟩)],3⟩
end
class Za0 (T:Tbl):Prop extends Zaz T where
section
variable{T:Tbl}[Za0 T]
def Zmo(P S a b:List UInt32)(y:Nat×Nat×List UInt32):St:=
 ⟨[(0,.sl (Za a) .an),(1,.sl (Za b) .an),(5,.bs (.loc 14) 1 1 0 (P.length+S.length)),(6,.i .i64 P.length),(7,u64 y.2.1),(8,.i .i64 y.1)],[(.loc 14,⟨1,.own,1,Za (P++(y.2.2++S.drop y.1))⟩)],3⟩
end
section
variable{T:Tbl}[Za0 T]
def Zlr(a b:List UInt32)(y:Nat×List UInt32):St:=
 ⟨[(0,.sl (Za a) .an),(1,.sl (Za b) .an),(5,.bs (.loc 14) 1 1 0 (a.length+b.length)),(6,.i .i64 y.1)],[(.loc 14,⟨1,.own,1,Za (y.2++List.replicate (a.length-y.1) 0)⟩)],3⟩
end
class Zan (T:Tbl):Prop extends Za0 T where
section
variable{T:Tbl}[Zan T]
def Znf(a:List UInt32)(y:Nat×Nat×List UInt32):St:=
 ⟨[(0,.bs (.bor 0) 0 1 0 a.length),(4,u32 y.2.1),(5,.i .i64 y.1)],[(.bor 0,⟨0,.own,1,Za (y.2.2++a.drop y.1)⟩)],4⟩
end
section
variable{T:Tbl}[Zan T]
def Zng(a b:List UInt32)(y:Nat×Nat×List UInt32):St:=
 ⟨[(0,.bs (.bor 0) 0 1 0 a.length),(1,.sl (Za b) .an),(4,u64 y.2.1),(5,.i .i64 y.1)],[(.bor 0,⟨0,.own,1,Za (y.2.2++a.drop y.1)⟩)],4⟩
def Znh(x i:Nat)(y:Nat):St:=⟨[(1,.i .i64 i),(5,u32 (x/2^y)),(6,.i .i64 y)],[],2⟩
end
section
variable{T:Tbl}[Zan T]
def Zni(a:List UInt32)(y:Nat):St:=⟨[(0,.sl (Za a) .an),(3,.i .i64 y)],[],2⟩
end
section
variable{T:Tbl}[Zan T]
def Znj(a b:List UInt32)(y:Nat×List UInt32×List UInt32):St:=
 ⟨[(0,.sl (Za a) .an),(1,.sl (Za b) .an),(6,.bs (.loc 11) 1 1 0 a.length),(7,.bs (.loc 15) 2 1 0 (b.length+1)),(8,.i .i64 ((y.1:Int)-1))],[(.loc 11,⟨1,.own,1,Za y.2.1⟩),(.loc 15,⟨2,.own,1,Za y.2.2⟩)],4⟩
end
class Za1 (T:Tbl):Prop extends Zan T where
class Zbe (T:Tbl):Prop where
section
variable{T:Tbl}[Za1 T]
def Zmp(N:Nat)(y:Nat×Nat×List UInt32)(P:List UInt32):St:=
 ⟨[(0,.bs (.bor 0) 0 1 0 N),(3,u64 y.2.1),(4,.i .i64 ((y.1:Int)-1))],[(.bor 0,⟨0,.own,1,Za (P.take y.1++y.2.2)⟩)],4⟩
end
section
variable{T:Tbl}[Za1 T]
def Znn(b:BId)(x:List UInt32)(s:List UInt8):St:=⟨[(3,.bs b 1 1 0 x.length),(4,.s s)],[(b,⟨1,.own,1,Za x⟩)],3⟩
end
class Zbn (T:Tbl):Prop extends Za1 T where
section
def b247:AX:=QZ "isSfrqMf4wIg7NnrK1Ly3M17db_9ex97FtZrMXo_Etkh"
abbrev row247:AFx:=⟨2,17,[.t 4],b247,none,false⟩
class Zba (T:Tbl):Prop where
 h247:Tr T 247=some row247
attribute [simp] Zba.h247
end
section
def l286_0:AX:=QZ "E0ghUI7.mAzKOrg7H3DfdG87mcuwhM7hM2UVJcjcQz4ZPIrop2mqebTECjp67sGhMc"
def b286:AX:=(fun p0=>QY [p0] [] "bppMe4rHTdtVtQcjjR85ep15CIqp47Q") l286_0
abbrev row286:AFx:=⟨3,29,[.t 6],b286,none,false⟩
class Zbo (T:Tbl):Prop where
 h286:Tr T 286=some row286
attribute [simp] Zbo.h286
end
class Zeo (T:Tbl):Prop where
class Zge (T:Tbl):Prop where
section
def b248:AX:=QZ "09Km27HAqbO_7x0qh9sXU.8JvDMQnCKRmLpAZN"
abbrev row248:AFx:=⟨1,11,[.cell 2 (some 3)],b248,none,false⟩
class Zdy (T:Tbl):Prop where
 h248:Tr T 248=some row248
attribute [simp] Zdy.h248
end
section
def l287_0:AX:=QZ "F6xODUL5r1Yg.gagMB2DaBYvKm6g87vbF2X3C8zc3U8yhgnurKR2nd"
def b287:AX:=(fun p0=>QY [p0] [] "0gsifZoI9xF80dCic8nuEZ2Ce8_L") l287_0
abbrev row287:AFx:=⟨1,20,[.t 2],b287,none,false⟩
class Zdz (T:Tbl):Prop where
 h287:Tr T 287=some row287
attribute [simp] Zdz.h287
end
section
def b322:AX:=QZ "JSuWiALMDNmEhmDHomfVPbLMB4kEaf93Qzc3WGbdsyBb3GGRlJCfLyGZ9yrJx3lwvYC__POKbwmYFr5m81RCm57ZI9uP2PgUlbGKaxKQHGyFHGdujt0Vn"
def b323:AX:=QY [] [(AV.s [49]),(AV.s [51])] "4S4hZe03D6gwFTPImygZ4WE.rWdVM3s3jzQy5JF_w.qCFQaduq_nCJlkq.IiHCirGbFdqhoLsQXbJiqPQDoqoeJPT3IOqlsUAwbQeX6ZPH3Zye0GHt.dxgH4lLd1M.UZu155fulM829hYeBCWz.KsGyjcmKvNm3l6cClFj4Sz4JCpyWQmTmpQ.ZyrstzXnhsjEmsOMiKCyjcETKodzD4mtNx"
def b325:AX:=QZ "w3yiWoOHodOE9FaaLl5vJjJcurEDFJkug37UMsx.4vaM65N_EfUhDloy1naKZOYqQsqgjXbfUOWsk78O9J6ne_8W_2Rz"
abbrev row322:AFx:=⟨1,31,[.t 2],b322,none,false⟩
abbrev row323:AFx:=⟨0,44,[.t 0],b323,none,false⟩
abbrev row325:AFx:=⟨1,22,[.cell 2 (some 10)],b325,none,false⟩
class Zc3 (T:Tbl):Prop where
 h322:Tr T 322=some row322
 h323:Tr T 323=some row323
 h325:Tr T 325=some row325
attribute [simp] Zc3.h322 Zc3.h323 Zc3.h325
end
end Go.Ab