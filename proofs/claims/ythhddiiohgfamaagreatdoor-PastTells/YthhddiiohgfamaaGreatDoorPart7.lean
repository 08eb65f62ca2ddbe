/-
  A calculus of values, boxes and code, and what functions of the program compute, proved in it.
  Conditions: none beyond those that the theorems state. (Part 7.)
-/
import Derived.Test.YthhddiiohgfamaaGreatDoorPart6

set_option linter.unusedSectionVars false
set_option linter.unusedVariables false
set_option linter.unusedSimpArgs false
set_option linter.unnecessarySimpa false
set_option linter.defProp false
set_option maxRecDepth 100000

namespace Go.Ab
section
def l688_0:AX:=QZ "0PdI6.Z6KQSz1B1mzfJJLiPim5ftwihsAY76JPtAW_BSeaV9NFjdNq5vVB52XchLB9zm0.a9HYMMKtKT2CFOGfvlPBdd.07DWtpEMR7eeTyX5mfpBgMAeiJux7t7asyYMzmxRScxOejvt6z9P2srwdm4KzdaNUXAdtHbwRS3qxQAccQJq1twNAfBUQoX_V7cyOpBE8SjQ"
def b688:AX:=(fun p0=>QY [p0] [] "Rbd3We9I0OxFBFciS7PPJk1.A9CcxRl9CGM8W2.rGn9.dF7vtlWWdUO09yGL905dzJp.jB4Hpv_h0GMJ712RgdK_tBP54owoSa7f") l688_0
def l690_0:AX:=QY [] [(AV.s [43,32]),(AV.s [45,32]),(AV.s [32]),(AV.s [10])] "ML5AplXRcXUlUe6AU75M3HIBL7DGQHA12.5Przifnd5cgyzxQsWeo7UK89FZoAaelFVrjO9lgF4yu1hcSoeTgvWSBhI9HNRh_jmLqhhS_d9mToQNeY.Fq1VWNyxfF.JHb88a3mD62IiSc.ls3EbOO_H_Y5iSYQ_4pVIoARz8E.bwPoTY2T"
def b690:AX:=(fun p0=>QY [p0] [(AV.s [61,32]),(AV.s [32])] "1NZTuR_OIICkypbNZC.Zu4WBvVuWlbc53mfdhFDO6kD3lGrdQVXcH0B3") l690_0
abbrev row688:AFx:=⟨2,69,[.t 4],b688,none,false⟩
abbrev row690:AFx:=⟨1,61,[.t 2],b690,none,false⟩
class Zei (T:Tbl):Prop where
 h688:Tr T 688=some row688
 h690:Tr T 690=some row690
attribute [simp] Zei.h688 Zei.h690
end
section
def l502_0:AX:=QZ "i8_2V06Cul3CPEhBVrTSiyqTcBuZIQJsJVSfEIEyMEIQH73.nyx9mz2S3_jJr4E5KSETdChrkybkh6ROcWhfmevm5AVMKrqzVMfDT63WJfDnTqkMp417GOJOonLqjYi5kIYDm5ctdtJ5X59AaAt_S.SCLlTwzm9D5dh4vPr9xdjI_RFP12UfB8eOuCo6KGn6S"
def b502:AX:=(fun p0=>QY [p0] [] "1H8pEp_dnrLdtReaa2MC9pGT1TqEhnQy4CBIkD7n.JtukmkcqbYvuonV.H7jMZ8fFCLVhTkHJ4skKKhGh4") l502_0
def l521_0:AX:=QZ "IpqX16URQ5CCXXvwIicXLgnIBl1FGKqtbWBfkHBvcZgCZDEOWvVtESgK7a47cybxI7pDL5tc7AFjV"
def b521:AX:=(fun p0=>QY [p0] [] "BDpRdOPsZDlsWXl5PNJubz8I8ATke") l521_0
abbrev row502:AFx:=⟨1,53,[.cell 2 (some 5)],b502,none,false⟩
abbrev row521:AFx:=⟨1,28,[.t 2],b521,none,false⟩
class Zeh (T:Tbl):Prop where
 h502:Tr T 502=some row502
 h521:Tr T 521=some row521
attribute [simp] Zeh.h502 Zeh.h521
end
section
def l522_0:AX:=QZ "A0HLSGl8HQ_mZXHrtaC7GDPBpu0oeA1QBoW_gp1ry5usSB8ZI8_0JhHF5B2hASV0yiQqWGykYYa9jOcwRV4rh8a5Gw.WxXCZyro94FQ_0SzT"
def b522:AX:=(fun p0=>QY [p0] [] "4ghe4k3DyfeKQMFF6v_2eh5d5N_nAZ6gMTgYHHko5tSU_k74g9PXw0iN4Yyy8BoZkI_1N8lVdK9Zb") l522_0
def l571_0:AX:=QZ "A._D_qxGgUmeZEvqlzvjmyXLDXHlrrHu1BEX5CogFfrref_f34SIGqPIy7GSupn5AmxkH4CByS2kkD.4VJbkme0QvL4svWSmihuUqEdoY4BbdaQkda21hqaKqJEFWgFV5ET"
def l571_1:AX:=QZ "mUYKs1WRAwutTZxrejA5aMkuu3uy4FfON1vZHSqRCFMOslggZj17AJ9CszKcsn38MLXpedGQ3gX5h6.nZUFVU95DhvXa5GpoigunHu36Uc3u0EZ2BIaFozjPeyvK.RoRBCligDwYrT0BOdYPLblgJ8g7pSZ52F4PJrn7YMPtUzX9NHDWEOlnMNBe_bPM0FJpXXSyJjXlq7GTxSGyTEUjckngo2alZimNaD2E9EmiwtiLGvp.XC.JpD3UReEuaKtyqKVFN6fttb9aemEAwu_JnZlAsDjsqZrzHMTOhkKO2SAvXlx.X7TFYXWTHI_azMRCh0yfEygarbP3UNp3MhUJUnUWNbJBHSI_7KKDmo4fPGQmbcDrb88Z4QenOqVXd1sGi4CKiZC8rEOJBGXjU"
def b571:AX:=(fun p0 p1=>QY [p0,p1] [] "Trbiq9WfKNMSL4LRSsoYEl_rbY46FBnRmoyIL8xvvQhMt7R2QvLNqJ6GeQKVYjTHehkYGbdCHlSTCUvf5D8BXjGRw9dNFLtO795RpcLMUx53eA0D.xVAkizzPLAVOFnyTBWsg6xDVYKIohJisSCvaccP5Jt") l571_0 l571_1
def b578:AX:=QZ "5dBPG59mKB83Rb2SDKF8xgX"
abbrev row522:AFx:=⟨1,48,[.t 2,.t 3],b522,none,false⟩
abbrev row571:AFx:=⟨1,155,[.t 2],b571,none,false⟩
abbrev row578:AFx:=⟨1,8,[.t 2],b578,none,false⟩
class Zc2 (T:Tbl):Prop where
 h522:Tr T 522=some row522
 h571:Tr T 571=some row571
 h578:Tr T 578=some row578
attribute [simp] Zc2.h522 Zc2.h571 Zc2.h578
end
section
def l497_0:AX:=QZ "RaL8kPPdXZEdiSik0CkIjR_2GUqRPDeUJLZVkUzbPennhbfkvTR3HkGMpZwFyh1HHq23T5SAp1AaC0Ace0VpN_9NIePD6MNFgQlBW7FH1rU"
def b497:AX:=(fun p0=>QY [p0] [] "ZFaiy_2o6v1EbLzxwW0rJeMWtuWQ8B.TevH8nmgWg1cft1cTgAv2BABH8FhQ.yjkkFR_Rpkt_VBnOsQoz") l497_0
def b516:AX:=QZ "6BiJOwxewrjuNBceVHJLJG6CL3GugKtQWtlccsJuBT"
abbrev row497:AFx:=⟨3,50,[.t 6],b497,none,false⟩
abbrev row516:AFx:=⟨1,12,[.t 2],b516,none,false⟩
class Zb4 (T:Tbl):Prop where
 h497:Tr T 497=some row497
 h516:Tr T 516=some row516
attribute [simp] Zb4.h497 Zb4.h516
end
section
def l500_0:AX:=QZ "6LK5X7BJhywWJV52fiSGYxWGaR0BVnTtAOOJgJTNE6nM38xPb61hVDjSoFup3qZCpPLcBUzAEa9GcJ.2aSqAac2G9qwmhMDJhFxBUxhjgLaD3YF1t8xpDya.Bw6Ee9dMUkaGmpYOSjAbn6E_O2eTHG_0gucp5x6JMeLnG8DsfoPHd_HabNQS"
def b500:AX:=(fun p0=>QY [p0] [] "137Nh2rSX4QD4py2I5tn5A_egEP7BFo.kM0iiZ.ld5GEIq8DBKSkNQ6V61YUI44tid9t.HpgSHZJ.PMBk8") l500_0
abbrev row500:AFx:=⟨1,49,[.cell 2 (some 5)],b500,none,false⟩
class Zh1 (T:Tbl):Prop where
 h500:Tr T 500=some row500
attribute [simp] Zh1.h500
end
class Zmk (T:Tbl):Prop where
class Zm0 (T:Tbl):Prop where
class Zjr (T:Tbl):Prop where
class Zmy (T:Tbl):Prop where
section
variable{T:Tbl}[Zba T][Zmy T]
def wdR(w:Wd):List AV:=[.i .i64 w.1,.s w.2.1,.i .i64 w.2.2]
def Zkw(l:List Wd):List (List AV):=l.map wdR
def Zo0(s:List UInt8)(i:Nat)(acc:List Wd):St:=
 ⟨[(0,.s s),(3,.ptr (.loc 3) 1 4 0 0),(4,.bs (.loc 4) 2 3 0 acc.length),(5,.i .i64 i)],[(.loc 3,⟨1,.str,4,[[.i .i64 0,.i .i64 0,.i .i64 0,.i .i64 0]]⟩),(.loc 4,⟨2,.own,3,Zkw acc⟩)],4⟩
def Zo1:Except Nat (List Wd)->Option (Ex×St)
 | .ok ws=>some (.n,⟨[(3,.ptr (.loc 3) 1 4 0 0),(4,.bs (.loc 4) 2 3 0 ws.length)],[(.loc 3,⟨1,.str,4,[[.i .i64 0,.i .i64 0,.i .i64 0,.i .i64 0]]⟩),(.loc 4,⟨2,.own,3,Zkw ws⟩)],4⟩)
 | .error e=>some (.r,⟨[(2,.sl [] .an),(3,.ptr (.loc 3) 1 4 0 0)],[(.loc 3,⟨1,.str,4,[[.i .i64 1,.i .i64 0,.i .i64 0,.i .i64 e]]⟩)],3⟩)
def Znt(r:Except Nat (List Wd)):AV:=
 match r with
 | .ok ws=>.tup [.sl (Zkw ws) .an,.agg [.i .i64 0,.i .i64 0,.i .i64 0,.i .i64 0]]
 | .error e=>.tup [.sl [] .an,.agg [.i .i64 1,.i .i64 0,.i .i64 0,.i .i64 e]]
def Zo2(s:List UInt8):Except Nat (List Wd):=if 4000<s.length then .error 4000 else Zmd (s.drop (Zi1 false s)) (Zi1 false s) []
def Zmn(k:Int)(t:List UInt8):Bool:=
 match t with
 | []=>false
 | c::r=>decide (k≠0)&&decide ((Zdl c:Int)=k)&&decide (Zfm (Zdl c) r=r.length+1)&&decide (r.length+1<=Zjy (Zdl c))
abbrev Wz:=Int×List UInt8×Int
def wzR(w:Wz):List AV:=[.i .i64 w.1,.s w.2.1,.i .i64 w.2.2]
def Zm8(l:List Wz):List (List AV):=l.map wzR
def Zpu(l:List Wz)(i:Nat)(b:BId):St:=
 ⟨[(3,.bs (.loc 3) 1 1 0 i),(6,.sl (Zm8 l) .an),(7,.i .i64 l.length),(8,.i .i64 i)],[(.loc 3,⟨1,.own,1,Zg ((l.take i).map (·.2.1))⟩)],3⟩
end
class Zmb (T:Tbl):Prop where
section
def b243:AX:=QZ "03z_9De8BkYso0m8DiQQWORzvtiFF"
abbrev row243:AFx:=⟨2,9,[.t 4],b243,none,false⟩
class Zfz (T:Tbl):Prop where
 h243:Tr T 243=some row243
attribute [simp] Zfz.h243
end
abbrev Fz:=Bool×List UInt32×List UInt32
abbrev Zam(x:Fz):List AV:=[.b x.1,.sl (Za x.2.1) .an,.sl (Za x.2.2) .an]
abbrev efz(x:Fz):AV:=.agg (Zam x)
def fv(x:Fz):Rat:=mkRat (wv x.1 x.2.1) (val x.2.2)
def fz(q:Rat):Fz:=(decide (q.num<0),ofN q.num.natAbs,ofN q.den)
@[simp] theorem zhd(q:Rat):fv (fz q)=q:=by
 unfold fv fz;rw[zhc,zad,Yeu]
def zza{p q:Rat}:fz p=fz q↔p=q:=⟨fun h=>by rw[<-zhd p,h,zhd],fun h=>by rw[h]⟩
def fsz(x:Fz):Nat:=max x.2.1.length x.2.2.length
def zfp(x:Fz):x.2.1.length<=fsz x:=Nat.le_max_left ..
def zgh(x:Fz):x.2.2.length<=fsz x:=Nat.le_max_right ..
def sz(q:Rat):Nat:=max (ofN q.num.natAbs).length (ofN q.den).length
theorem zg9(q:Rat):(ofN q.num.natAbs).length<=sz q:=Nat.le_max_left ..
theorem zgi(q:Rat):(ofN q.den).length<=sz q:=Nat.le_max_right ..
def zqi{n:Nat}(h:n≠0):1<=(ofN n).length:=by
 have:ofN n≠[]:=fun e=>h (zan.1 e);exact Ycr.2 this
def zaba(q:Rat):1<=sz q:=Yc (zqi q.den_nz) (zgi q)
def z22{z:Int}{d:Nat}(h:d≠0):(mkRat z d).num.natAbs=z.natAbs/Nat.gcd z.natAbs d:=by
 rw[Rat.num_mkRat,if_neg h,Int.natAbs_ediv_of_dvd (Int.ofNat_dvd_left.2 (Nat.gcd_dvd_right ..)),Ydg,Ych]
def z23{z:Int}{d:Nat}(h:d≠0):(mkRat z d).den=d/Nat.gcd z.natAbs d:=by
 rw[Rat.den_mkRat,if_neg h,Ych]
def z24{z:Int}{d:Nat}(h:d≠0):sgI (mkRat z d).num=sgI z:=by
 rw[Rat.num_mkRat,if_neg h];have hg:0<Nat.gcd d z.natAbs:=Nat.gcd_pos_of_pos_left _ (Yap h);obtain⟨k,hk⟩:((Nat.gcd d z.natAbs:Nat):Int) ∣ z:=Int.ofNat_dvd_left.2 (Nat.gcd_dvd_right ..);generalize Nat.gcd d z.natAbs=g at *
 have hg':(0:Int)<g:=by omega
 subst hk;rw[Int.mul_ediv_cancel_left _ (by omega)];unfold sgI;rcases Int.lt_trichotomy k 0 with h1 | h1 | h1
 ·have:=Int.mul_neg_of_pos_of_neg hg' h1;rw[if_pos h1,if_pos this]
 ·subst h1;simp
 ·have:=Int.mul_pos hg' h1;rw[if_neg (by omega),if_neg (by omega),if_neg (by omega),if_neg (by omega)]
def zzb(z:Int):decide (z<0)=decide (sgI z<0):=by
 unfold sgI;split
 ·simp[*]
 ·split<;>simp[*]
def zabb{z:Int}{d:Nat}(h:d≠0):decide ((mkRat z d).num<0)=decide (z<0):=by
 rw[zzb,zzb z,z24 h]
def zabc(n:Bool)(x:Nat){d:Nat}(h:d≠0):fz (mkRat (sg n x) d)=(n&&decide (x≠0),ofN (x/Nat.gcd x d),ofN (d/Nat.gcd x d)):=by
 unfold fz;rw[zabb h,z22 h,z23 h,z2y,zr4]
def zjn:ofN 1=[1]:=by
 rw[zgz (by decide),show 1/4294967296=0 from rfl,zl7]
 rfl
def zqj:fz 0=(false,[],[1]):=by
 unfold fz;rw[Rat.zero_num,Rat.zero_den,zjn];simp
theorem zr6(q:Rat):fsz (fz q)=sz q:=rfl
def zabd{z:Int}{d L:Nat}(hz:(ofN z.natAbs).length<=L)(hd:(ofN d).length<=L)(h1:1<=L):sz (mkRat z d)<=L:=by
 unfold sz;by_cases h:d=0
 ·subst h;rw[Yet,Rat.zero_num,Rat.zero_den,zjn];simp;omega
 ·rw[z22 h,z23 h];exact Nat.max_le.2 ⟨Yc (zap (Ybg _ _)) hz,Yc (zap (Ybg _ _)) hd⟩
theorem zhe{x:Fz}{L:Nat}(h:fsz x<=L)(h1:1<=L):sz (fv x)<=L:=
 zabd (Yc (zcv _ _) (Yc (zfp x) h)) (Yc (zac _) (Yc (zgh x) h)) h1
def zb5{x y L M:Nat}(hx:(ofN x).length<=L)(hy:(ofN y).length<=M):(ofN (x*y)).length<=L+M:=by
 have:=zbq (x:=(x:Int)) (y:=(y:Int)) (L:=L) (M:=M) (by simpa using hx) (by simpa using hy);simpa[Int.natAbs_mul]using this
def zabe(p q:Rat):sz (p+q)<=sz p+sz q+1:=by
 rw[Rat.add_def'];have h1:=zg9 p;have h2:=zgi p;have h3:=zg9 q;have h4:=zgi q;have h5:=zaba p;refine zabd ?_ (Yc (zb5 h2 h4) (by omega)) (by omega);refine zcl ?_ ?_
 ·exact zbq h1 (by simpa using h4)
 ·rw[Ybr];exact zbq h3 (by simpa using h2)
def zabf(p:Rat):sz (-p)=sz p:=by
 unfold sz;rw[Rat.neg_num,Rat.neg_den,Int.natAbs_neg]
def sgQ(q:Rat):Int:=sgI q.num
def z25{z:Int}{d:Nat}(h:d≠0):sgQ (mkRat z d)=sgI z:=z24 h
def zr7{z:Int}:sgI z=0↔z=0:=by
 unfold sgI;split
 ·constructor<;>intro h<;>omega
 ·split<;>constructor<;>intro h<;>omega
def zzc{z:Int}:0<sgI z↔0<z:=by
 unfold sgI;split
 ·constructor<;>intro h<;>omega
 ·split<;>constructor<;>intro h<;>omega
def zzd{z:Int}:sgI z<0↔z<0:=by
 unfold sgI;split
 ·constructor<;>intro h<;>omega
 ·split<;>constructor<;>intro h<;>omega
theorem zl9{q:Rat}:sgQ q=0↔q=0:=by
 unfold sgQ;rw[zr7,Rat.num_eq_zero]
def zg1{q:Rat}:0<sgQ q↔0<q:=by
 unfold sgQ;rw[zzc,Rat.lt_iff];simp
def zze{q:Rat}:sgQ q<0↔q<0:=by
 unfold sgQ;rw[zzd,Rat.lt_iff];simp
def Zc(l:List Fz):List (List AV):=l.map Zam
@[simp] def zqk(l:List Fz):(Zc l).length=l.length:=by simp[Zc]
@[simp] def zcu(l:List Fz):wkL (Zc l)=Zc l:=by rw[zb3];simp[Zc,wkR,wkA]
@[simp] def zael(l:List Fz)(i:Nat)(h:i<(Zc l).length):(Zc l)[i]=Zam (l[i]'(by simpa using h)):=by simp[Zc]
def zzf(l:List Fz)(x:Fz):Zc l++[Zam x]=Zc (l++[x]):=by simp[Zc]
@[simp] def zabg(l:List Fz)(n:Nat):(Zc l).take n=Zc (l.take n):=by simp[Zc]
@[simp] def zcd:Zc []=[]:=rfl
def Zz(m:List (List Fz)):List (List AV):=m.map fun r=>[.sl (Zc r) .an]
@[simp] def z54(l:List (List Fz)):(Zz l).length=l.length:=by simp[Zz]
@[simp] def zma(l:List (List Fz)):wkL (Zz l)=Zz l:=by rw[zb3];simp[Zz,wkR,wkA]
@[simp] def zaem(l:List (List Fz))(i:Nat)(h:i<(Zz l).length):(Zz l)[i]=[.sl (Zc (l[i]'(by simpa using h))) .an]:=by simp[Zz]
def zzg(l:List (List Fz))(r:List Fz):Zz l++[[.sl (Zc r) .an]]=Zz (l++[r]):=by simp[Zz]
@[simp] def zabh(l:List (List Fz))(n:Nat):(Zz l).take n=Zz (l.take n):=by simp[Zz]
@[simp] def zr8:Zz []=[]:=rfl
def cop2{X:Nat}(h:X%2=1)(k:Nat):Nat.Coprime (2^k) X:=by
 refine Nat.Coprime.pow_left k ?_;unfold Nat.Coprime;rw[Yev,h]
 rfl
def zjo{k m Y:Nat}(hY:Y%2=1):Nat.gcd (2^k*m) Y=Nat.gcd m Y:=Nat.Coprime.gcd_mul_left_cancel m (cop2 hY k)
def z55{m n X Y:Nat}(hX:X%2=1)(hY:Y%2=1):Nat.gcd (2^m*X) (2^n*Y)=2^(min m n)*Nat.gcd X Y:=by
 rcases Nat.le_total m n with h | h
 ·rw[Ycn h,show n=m+(n-m) by omega,Ybb,Yag,Nat.gcd_mul_left,Ych X,zjo hX,Ych Y]
 ·rw[Nat.min_eq_right h,show m=n+(m-n) by omega,Ybb,Yag,Nat.gcd_mul_left,zjo hY]
theorem zr9{X Y k m:Nat}(hY:Y%2=1)(h:Y<=X)(e:X-Y=2^k*m):Nat.gcd m Y=Nat.gcd X Y:=by
 rw[<-zjo hY (k:=k),<-e,Nat.gcd_sub_self_left h]
def z1y{n:Nat}(h:n≠0):∃k m,n=2^k*m/\m%2=1:=by
 induction n using Nat.strongRecOn with
 | _ n ih=>
  by_cases h2:n%2=1
  ·exact⟨0,n,by simp,h2⟩
  ·obtain⟨k,m,e,hm⟩:=ih (n/2) (by omega) (by omega);refine⟨k+1,m,?_,hm⟩;rw[Y7,Yah (2^k),Yag,<-e];omega
section
variable{T:Tbl}
def zjv(G:Nat):∀y:Nat×Nat,(y.1<18446744073709551616/\y.2<18446744073709551616/\Nat.gcd y.1 y.2=G) ->
  Zl T 0 0 (.norm false [0]) l198_0 ⟨[(0,u64 y.1),(1,u64 y.2)],[],2⟩=some (.n,⟨[(0,u64 G)],[],2⟩):=by
 refine zat (fun y:Nat×Nat=>⟨[(0,u64 y.1),(1,u64 y.2)],[],2⟩) _ (fun y=>y.2) _ ?_
 rintro⟨x,y⟩ ⟨hx,hy,hG⟩
 simp only at hx hy hG ⊢;by_cases h:y=0
 ·right;subst h;rw[Yd4]at hG;subst hG;constructor<;>simp -implicitDefEqProofs[l198_0]
 ·left;have hm:=Ya0 x (Yap h);refine⟨(y,x%y),⟨hy,by simp only;omega,by simp only;rw[<-hG,Ych y,<-Yev,Ych]⟩,hm,?_,trivial⟩;simp -implicitDefEqProofs[l198_0,h]
end
section
variable{T:Tbl}[Zo T]
def znx(x y:Nat)(hx:x<18446744073709551616)(hy:y<18446744073709551616):Zb T 198 [u64 x,u64 y]=some (u64 (Nat.gcd x y)):=by
 have h:=zjv (T:=T) (Nat.gcd x y) (x,y) ⟨hx,hy,rfl⟩;simp only at h;rw[zaa Zo.h198 rfl,b198];simp -implicitDefEqProofs[h]
def ztb(a:List UInt32):Zb T 200 [.sl (Za (ofN (val a))) .an]=some (.b (decide (val a=1))):=by
 rw[zaa Zo.h200 rfl,b200];generalize val a=n;by_cases h0:n=0
 ·subst h0;simp -implicitDefEqProofs
 ·rw[zgz h0];by_cases h1:n/4294967296=0
  ·have e:ofN (n/4294967296)=[]:=zan.2 h1;have e2:n%4294967296=n:=Yf (by omega);simp -implicitDefEqProofs[e,Za,zck,e2]
  ·have h2:¬ ofN (n/4294967296)=[]:=fun e=>h1 (zan.1 e);have h3:¬ n=1:=by rintro rfl;simp at h1
   have h4:¬ ((ofN (n/4294967296)).length:Int)+1=1:=by
    have:=Ycr.2 h2;omega
   simp -implicitDefEqProofs[Za,h3,h4]
end
section
variable{T:Tbl}[Zr T][Zx T][Z2 T][Zt T][Zw T][Zo T]
def z0h(G:Nat):∀y:List UInt32×List UInt32,(y.1.length<=90000/\y.2.length<=90000/\(∃n,y.1=ofN n)/\(∃n,y.2=ofN n)/\Nat.gcd (val y.1) (val y.2)=G) ->
  ∃r,(∃a b:List UInt32,r=(Ex.n,(⟨[(0,.sl (Za a) .an),(1,.sl (Za b) .an)],[],2⟩:St))/\a.length<=90000/\b.length<=2/\(∃n,a=ofN n)/\(∃n,b=ofN n)/\Nat.gcd (val a) (val b)=G) /\
   Zl T 0 0 (.norm false [0,1]) l199_0 ⟨[(0,.sl (Za y.1) .an),(1,.sl (Za y.2) .an)],[],2⟩=some r:=by
 refine zaq (fun y:List UInt32×List UInt32=>⟨[(0,.sl (Za y.1) .an),(1,.sl (Za y.2) .an)],[],2⟩) _ (fun y=>val y.2) _ ?_
 rintro⟨a,b⟩ ⟨ha,hb,hk,hn,hG⟩
 simp only at ha hb hk hn hG ⊢;by_cases h:2<b.length
 ·left;have h':(2:Int)<b.length:=by omega
  have hv:val b≠0:=by
   obtain⟨n,rfl⟩:=hn;rw[zad]
   rintro rfl
   simp at h
  have hd:=zgc (T:=T) a b ha hb;rw[if_neg hv]at hd;have hm:=Ya0 (val a) (Yap hv);refine⟨(b,ofN (val a%val b)),⟨hb,?_,hn,⟨_,rfl⟩,?_⟩,?_,?_⟩
  ·have:=zap (Yci hm);have:=zac b;simp only;omega
  ·simp only;rw[zad,<-hG,Ych (val b),<-Yev,Ych]
  ·simp only[zad];exact hm
  ·clear hG hm hn hv hk;simp -implicitDefEqProofs[l199_0,h',hd]
 ·right;have h':¬ (2:Int)<b.length:=by omega
  refine⟨_,⟨a,b,rfl,ha,by omega,hk,hn,hG⟩,?_,?_⟩<;>clear hG<;>simp -implicitDefEqProofs[l199_0,h']
def zpx(a b:List UInt32)(ha:a.length<=90000)(hb:b.length<=90000):Zb T 199 [.sl (Za a) .an,.sl (Za b) .an]=some (.sl (Za (ofN (Nat.gcd (val a) (val b)))) .an):=by
 have h1:=zbe (T:=T) a (by omega);have h2:=zbe (T:=T) b (by omega);have la:=zac a;have lb:=zac b;obtain⟨G,hG⟩:∃G,G=Nat.gcd (val a) (val b):=⟨_,rfl⟩;obtain⟨_,⟨x,y,rfl,hx,hy,⟨m,rfl⟩,⟨n,rfl⟩,hg⟩,hr⟩:=z0h (T:=T) G (ofN (val a),ofN (val b)) ⟨by simp only;omega,by simp only;omega,⟨_,rfl⟩,⟨_,rfl⟩,by simp only[zad];exact hG.symm⟩;simp only at hr;rw[zad,zad]at hg;rw[zaa Zo.h199 rfl,b199,<-hG];clear hG;by_cases h0:n=0
 ·subst h0;rw[Yd4]at hg;subst hg;simp -implicitDefEqProofs[h1,h2,hr]
 ·have hv:val (ofN n)≠0:=by rw[zad];exact h0
  have hd:=zgc (T:=T) (ofN m) (ofN n) hx (by omega);rw[if_neg hv,zad,zad]at hd;have hn64:n<18446744073709551616:=by
   have:=zau (ofN n);rw[zad]at this;exact Yq this (Yp (by decide) hy)
  have hm:=Ya0 m (Yap h0);have s1:=zn5 (T:=T) (ofN n) (by omega);rw[zad,if_pos hn64]at s1;have s2:=zn5 (T:=T) (ofN (m%n)) (by have:=zap (Yci hm);omega);rw[zad,if_pos (by omega)]at s2;have s3:=znx (T:=T) n (m%n) hn64 (by omega);have e:Nat.gcd n (m%n)=G:=by rw[<-hg,Ych n,<-Yev,Ych]
  rw[e]at s3;have s4:=zep (T:=T) G (by
   rw[<-hg];exact Ycs (Nat.gcd_le_right _ (Yap h0)) hn64)
  have hl:¬ ofN n=[]:=fun e=>h0 (zan.1 e);simp -implicitDefEqProofs[h1,h2,hr,hd,s1,s2,s3,s4,hl,h0]
def zjw(a b:List UInt32)(ha:a.length<=90000)(hb:b.length<=90000):Zb T 201 [.sl (Za a) .an,.sl (Za b) .an] =
  some (.tup [.sl (Za (ofN (val a/Nat.gcd (val a) (val b)))) .an,.sl (Za (ofN (val b/Nat.gcd (val a) (val b)))) .an]):=by
 have hg:=zpx (T:=T) a b ha hb;have ho:=ztb (T:=T) (ofN (Nat.gcd (val a) (val b)));rw[zad]at ho;have ll:(ofN (Nat.gcd (val a) (val b))).length<=90000:=by
  by_cases h:val a=0
  ·rw[h,Nat.gcd_zero_left];have:=zac b;omega
  ·have:=zap (Nat.gcd_le_left (val b) (Yap h));have:=zac a;omega
 have d1:=zgc (T:=T) a (ofN (Nat.gcd (val a) (val b))) ha ll;have d2:=zgc (T:=T) b (ofN (Nat.gcd (val a) (val b))) hb ll;have n1:=zbe (T:=T) a (by omega);have n2:=zbe (T:=T) b (by omega);rw[zad]at d1 d2;rw[zaa Zo.h201 rfl,b201];by_cases h0:Nat.gcd (val a) (val b)=0
 ·rw[h0]at hg ⊢;simp only[zl7]at hg;simp -implicitDefEqProofs[hg]
 ·rw[if_neg h0]at d1 d2;have hl:¬ ofN (Nat.gcd (val a) (val b))=[]:=fun e=>h0 (zan.1 e);by_cases h1:Nat.gcd (val a) (val b)=1
  ·rw[h1]at hg ho hl ⊢;simp -implicitDefEqProofs[hg,ho,n1,n2,hl]
  ·generalize Nat.gcd (val a) (val b)=g at *
   simp -implicitDefEqProofs[hg,ho,d1,d2,hl,h0,h1]
end
section
variable{T:Tbl}[Zi T]
def za6(n:Bool)(k:Nat):Zb T 55 [.b n,.sl (Za (ofN k)) .an]=some (ez (sg n k)):=by
 rw[zaa Zi.h55 rfl,b55,z53];have h:(0<(ofN k).length)=(k≠0):=by
  rw[eq_iff_iff,Ycr];exact not_congr zan
 cases n<;>simp -implicitDefEqProofs[h]
end
section
variable{T:Tbl}[Zr T][Zi T]
def zut(n:Bool)(a:List UInt32)(ha:a.length<=1000000):Zb T 38 [wh n a]=some (ez (wv n a)):=by
 have h:=zbe (T:=T) a (by omega);have hs:=za6 (T:=T) n (val a);rw[zaa Zi.h38 rfl,b38];simp -implicitDefEqProofs[h,hs,wv]
end
section
variable{T:Tbl}[Zr T][Zi T]
def zy1(n:Bool)(a:List UInt32)(ha:a.length<=1000000):Zb T 40 [wh n a]=some (ez (-wv n a)):=by
 have h:=zbe (T:=T) a (by omega);have hs:=za6 (T:=T) (!n) (val a);rw[z2z]at hs;rw[zaa Zi.h40 rfl,b40];simp -implicitDefEqProofs[h,hs,wv]
end
section
variable{T:Tbl}[Zr T][Zi T]
theorem zk1(n m:Bool)(a b:List UInt32)(ha:a.length<=90000)(hb:b.length<=90000):Zb T 23 [wh n a,wh m b]=some (ez (wv n a+wv m b)):=by
 rw[zaa Zi.h23 rfl,b23];by_cases h:n=m
 ·subst h;have hn:=zrv (T:=T) [a,b] (by simp) (by simp;omega);have hs:=za6 (T:=T) n (val a+val b);rw[zjk]at hs;have e:lls [a,b]=[[.sl (Za a) .an],[.sl (Za b) .an]]:=rfl;have e2:Zdx [a,b]=val a+val b:=by simp[Zdx]
  rw[e,e2]at hn;simp -implicitDefEqProofs[hn,hs,wv]
 ·have hg:=z41 (T:=T) a b (by omega) (by omega);by_cases hlt:val a<val b
  ·have hs:=za6 (T:=T) m (val b-val a);rw[zor h hlt]at hs;simp -implicitDefEqProofs[h,hg,hlt,zdh,hs,wv]
  ·have hs:=za6 (T:=T) n (val a-val b);rw[zos h hlt]at hs;simp -implicitDefEqProofs[h,hg,hlt,zdh,hs,wv]
end
section
variable{T:Tbl}[Zr T][Zi T]
def zuu(n m:Bool)(a b:List UInt32)(ha:a.length<=90000)(hb:b.length<=90000):Zb T 25 [wh n a,wh m b]=some (ez (wv n a-wv m b)):=by
 obtain⟨z,hz⟩:∃z,z=-wv m b:=⟨_,rfl⟩;have h1:=zy1 (T:=T) m b (by omega);have hl:=zcv m b;rw[<-zjm,<-hz]at hl;have h2:=zk1 (T:=T) n (decide (z<0)) a (ofN z.natAbs) (by omega) (by omega);have e:wv n a-wv m b=wv n a+z:=by omega
 rw[zhc,<-e]at h2;rw[<-hz]at h1;rw[zaa Zi.h25 rfl,b25];simp -implicitDefEqProofs[h1,h2]
end
section
variable{T:Tbl}[Zx T][Zi T]
def zol(n m:Bool)(a b:List UInt32)(ha:a.length<=100000)(hb:b.length<=100000):Zb T 27 [wh n a,wh m b]=some (ez (wv n a*wv m b)):=by
 have h1:=zgb (T:=T) a b ha hb;have hs:=za6 (T:=T) (n != m) (val a*val b);rw[zaa8]at hs;rw[zaa Zi.h27 rfl,b27];simp -implicitDefEqProofs[h1,hs,wv]
end
section
variable{T:Tbl}[Zr T][Zi T]
def zgy(n:Bool)(a:List UInt32)(ha:a.length<=1000000):Zb T 37 [wh n a]=some (.i .i64 (sgI (wv n a))):=by
 have h1:=ze6 (T:=T) a (by omega);rw[zaa Zi.h37 rfl,b37];unfold wv;rw[zaa9];by_cases h:val a=0
 ·simp -implicitDefEqProofs[h1,h]
 ·cases n<;>simp -implicitDefEqProofs[h1,h]
end
section
variable{T:Tbl}[Zr T][Zi T]
theorem zuv(n m:Bool)(a b:List UInt32)(ha:a.length<=90000)(hb:b.length<=90000):Zb T 36 [wh n a,wh m b]=some (.i .i64 (sgI (wv n a-wv m b))):=by
 have h1:=zuu (T:=T) n m a b ha hb;have hl:=zcl (x:=wv n a) (y:=-wv m b) (L:=90000) (by have:=zcv n a;omega) (by rw[zjm];have:=zcv m b;omega);rw[<-Int.sub_eq_add_neg]at hl;have h2:=zgy (T:=T) (decide (wv n a-wv m b<0)) (ofN (wv n a-wv m b).natAbs) (show (ofN (wv n a-wv m b).natAbs).length<=1000000 by omega);rw[zhc]at h2;rw[zaa Zi.h36 rfl,b36];simp -implicitDefEqProofs[h1,h2]
end
section
variable{T:Tbl}[Zr T][Zi T]
def z1r(k:Int)(h1:-9223372036854775808<=k)(h2:k<9223372036854775808):Zb T 41 [.i .i64 k]=some (ez k):=by
 rw[zaa Zi.h41 rfl,b41];by_cases h:k<0
 ·have hn:=zep (T:=T) k.natAbs (by omega);have hs:=za6 (T:=T) true k.natAbs;have e:sg true k.natAbs=k:=by simp[sg];omega
  have e2:Zds 0 (k%18446744073709551616).toNat=k.natAbs:=by unfold Zds;omega
  rw[e]at hs;simp -implicitDefEqProofs[h,e2,hn,hs]
 ·have hn:=zep (T:=T) k.natAbs (by omega);have hs:=za6 (T:=T) false k.natAbs;have e:sg false k.natAbs=k:=by simp[sg];omega
  have e2:(k%18446744073709551616).toNat=k.natAbs:=by omega
  rw[e]at hs;simp -implicitDefEqProofs[h,e2,hn,hs]
end
section
variable{T:Tbl}[Zr T][Zbb T][Zi T]
def zuw(n:Bool)(a:List UInt32)(ha:a.length<=1000):Zb T 34 [wh n a]=some (.s (Z6 (wv n a))):=by
 have h1:Zb T 68 [.sl (Za a) .an]=some (.s (Zu (val a))):=by rw[p68,zop a ha]
 have h2:=zgy (T:=T) n a (by omega);have h3:=zee ha;have h4:1+(Zu (val a)).length<=9223372036854775807:=by omega
 rw[zaa Zi.h34 rfl,b34];unfold Z6;rw[zy9];by_cases h:wv n a<0
 ·have h5:sgI (wv n a)=-1:=by unfold sgI;rw[if_pos h]
  simp -implicitDefEqProofs[h1,h2,h,h5,h4]
 ·have h5:¬ sgI (wv n a)<0:=by unfold sgI;rw[if_neg h];split<;>omega
  simp -implicitDefEqProofs[h1,h2,h,h5]
end
section
variable{T:Tbl}[Zx T][Zp T][Zi T]
def zux(l:List UInt8)(hl:l.length<=1000000):Zb T 32 [.s l]=some (.tup (if 0<=Zbw l then [wh false [],.agg [.i .i64 1,.i .i64 0,.i .i64 0,.i .i64 (Zbw l+Zc7 l)]]
  else [ez (Za6 l),.agg [.i .i64 0,.i .i64 0,.i .i64 0,.i .i64 0]])):=by
 have h1:=zxe (T:=T) l hl;obtain⟨l',hl'⟩:∃l',l'=if l.head? = some 45 then l.tail else l:=⟨_,rfl⟩
 have hl2:l'.length<=1000000:=by
  rw[hl'];split
  ·simp;omega
  ·exact hl
 have h2:=ziy (T:=T) l' hl2;have hs:=za6 (T:=T) (l.head? = some 45) (rd l');have hm:(l.length:Int)-l'.length=Zc7 l:=by
  rw[hl'];unfold Zc7;split
  ·rename_i h;cases l with
   | nil=>cases h
   | cons c r=>simp;omega
  ·omega
 unfold Zbw Za6;rw[<-hl']at h1 ⊢;have hw1:IntKind.wrap .i64 ((l.length:Int)-l'.length)=Zc7 l:=by rw[hm];exact zab _ (by unfold Zc7;split<;>omega)
 rw[zaa Zi.h32 rfl,b32];have hwb:Z3 l'<=60:=by
  unfold Z3;split
  ·omega
  ·exact zjh 0 l' (by omega)
 by_cases h0:0<=Z3 l'
 ·have hw2:IntKind.wrap .i64 (Z3 l'+Zc7 l)=Z3 l'+Zc7 l:=zab _ (by unfold Zc7;split<;>omega);simp -implicitDefEqProofs[h1,h2,h0,hw1,hw2,ziv]
 ·simp -implicitDefEqProofs[h1,h2,h0,hs]
end
section
variable{T:Tbl}[Zr T][Zx T][Z2 T][Zt T][Zw T][Zi T][Zo T][Z0 T]
def zpz(p q:Int)(hp:(ofN p.natAbs).length<=90000)(hq:(ofN q.natAbs).length<=90000):Zb T 23 [ez p,ez q]=some (ez (p+q)):=by
 grind[zk1,zhc]
def zp0(p q:Int)(hp:(ofN p.natAbs).length<=90000)(hq:(ofN q.natAbs).length<=90000):Zb T 36 [ez p,ez q]=some (.i .i64 (sgI (p-q))):=by
 grind[zuv,zhc]
def ztf{x d:Nat}(h:d≠0):decide (x/Nat.gcd x d≠0)=decide (x≠0):=by
 obtain⟨k,hk⟩:=Nat.gcd_dvd_left x d
 grind[Nat.mul_div_cancel_left,Nat.mul_eq_zero]
def zdo(n:Bool)(a d:List UInt32)(ha:a.length<=90000)(hd:d.length<=90000)(h:val d≠0) :
  Zb T 202 [wh n a,.sl (Za d) .an]=some (efz (fz (mkRat (wv n a) (val d)))):=by
 have e:=zabc n (val a) h
 change fz (mkRat (wv n a) (val d))=_ at e
 have hc:=zjw (T:=T) a d ha hd;have hl:(ofN (val a/Nat.gcd (val a) (val d))).length<=1000000:=by
  have:=zap (Ybg (val a) (Nat.gcd (val a) (val d)));have:=zac a;omega
 have hn:=zut (T:=T) n _ hl;have e2:wv n (ofN (val a/Nat.gcd (val a) (val d)))=sg n (val a/Nat.gcd (val a) (val d)):=by unfold wv;rw[zad]
 rw[e2,z53,ztf h]at hn;rw[e,zaa Z0.h202 rfl,b202];simp -implicitDefEqProofs[hc,hn]
def zp1(n:Bool)(a d:List UInt32)(ha:a.length<=10000)(hd:d.length<=10000)(h:val d≠0) :
  Zb T 202 [wh n a,.sl (Za d) .an]=some (efz (fz (mkRat (wv n a) (val d)))):=zdo (T:=T) n a d (Yc ha (by decide)) (Yc hd (by decide)) h
def zb7(x:Fz)(hx:fsz x<=100000):∃y:Fz,val y.2.2≠0/\fv y=fv x/\fsz y<=max 1 (fsz x)/\Zb T 203 [efz x]=some (.tup [wh y.1 y.2.1,.sl (Za y.2.2) .an]):=by
 obtain⟨n,a,d⟩:=x;have h1:=zfp (n,a,d);have h2:=zgh (n,a,d);simp only at h1 h2;have hz:=ze6 (T:=T) d (by omega);by_cases h:val d=0
 ·refine⟨(false,[],[1]),by simp,?_,?_,?_⟩
  ·unfold fv;simp only[h,Yet]
   rfl
  ·show 1<=_;omega
  ·have ho:=zep (T:=T) 1 (by decide);rw[zjn]at ho;rw[zaa Z0.h203 rfl,b203];simp -implicitDefEqProofs[hz,h,ho]
 ·refine⟨(n,a,d),h,rfl,by omega,?_⟩;rw[zaa Z0.h203 rfl,b203];simp -implicitDefEqProofs[hz,h]
def zxh(k:Int)(h1:-9223372036854775808<=k)(h2:k<9223372036854775808):Zb T 205 [.i .i64 k]=some (efz (fz (k:Rat))):=by
 have hw:=z1r (T:=T) k h1 h2;have ho:=zep (T:=T) 1 (by decide);have e:fz (k:Rat)=(decide (k<0),ofN k.natAbs,ofN 1):=rfl;rw[e,zaa Z0.h205 rfl,b205];simp -implicitDefEqProofs[hw,ho]
def zhl:Zb T 205 [.i .i64 0]=some (efz (fz 0)):=zxh 0 (by decide) (by decide)
def z0m:Zb T 205 [.i .i64 1]=some (efz (fz 1)):=zxh 1 (by decide) (by decide)
def ztg(x:Fz)(hx:fsz x<=90000):Zb T 207 [efz x]=some (efz (fz (fv x))):=by
 obtain⟨⟨n,a,d⟩,h1,h2,h3,hp⟩:=zb7 (T:=T) x (by omega);have la:=zfp (n,a,d);have ld:=zgh (n,a,d);simp only at la ld;have hc:=zdo (T:=T) n a d (by omega) (by omega) h1;rw[<-h2]
 change _=some (efz (fz (mkRat (wv n a) (val d))))
 rw[zaa Z0.h207 rfl,b207];simp -implicitDefEqProofs[hp,hc]
def ziz(x:Fz)(hx:fsz x<=10000):Zb T 207 [efz x]=some (efz (fz (fv x))):=ztg (T:=T) x (Yc hx (by decide))
def zth(x:Fz)(hx:fsz x<=90000):Zb T 209 [efz x]=some (.i .i64 (sgQ (fv x))):=by
 obtain⟨⟨n,a,d⟩,h1,h2,h3,hp⟩:=zb7 (T:=T) x (by omega);have la:=zfp (n,a,d);simp only at la;have hc:=zgy (T:=T) n a (by omega);rw[<-h2];unfold fv;rw[z25 h1,zaa Z0.h209 rfl,b209];simp -implicitDefEqProofs[hp,hc]
def zi0(x:Fz)(hx:fsz x<=10000):Zb T 209 [efz x]=some (.i .i64 (sgQ (fv x))):=zth (T:=T) x (Yc hx (by decide))
def zeb(n:Bool)(a d:List UInt32)(ha:a.length<=90000)(hd:d.length<=90000):Zb T 210 [wh n a,.sl (Za d) .an]=some (ez (wv n a*(val d:Int))):=by
 have hm:=zol (T:=T) n false a d (by omega) (by omega);rw[show wv false d=(val d:Int) from rfl]at hm;rw[zaa Z0.h210 rfl,b210];simp -implicitDefEqProofs[hm]
def zn1(x x':Fz)(hx:fsz x<=30000)(hx':fsz x'<=30000):Zb T 211 [efz x,efz x']=some (.i .i64 (sgQ (fv x-fv x'))):=by
 obtain⟨⟨n,a,d⟩,h1,h2,h3,hp⟩:=zb7 (T:=T) x (by omega);obtain⟨⟨m,b,e⟩,h1',h2',h3',hp'⟩:=zb7 (T:=T) x' (by omega);have la:=zfp (n,a,d);have ld:=zgh (n,a,d);have lb:=zfp (m,b,e);have le:=zgh (m,b,e);simp only at la ld lb le;have c1:=zeb (T:=T) n a e (by omega) (by omega);have c2:=zeb (T:=T) m b d (by omega) (by omega);have l1:(ofN (wv n a*(val e:Int)).natAbs).length<=60000:=by
  have:=zbq (x:=wv n a) (y:=(val e:Int)) (L:=30000) (M:=30000) (Yc (zcv n a) (by omega)) (Yc (zcv false e) (by omega));omega
 have l2:(ofN (wv m b*(val d:Int)).natAbs).length<=60000:=by
  have:=zbq (x:=wv m b) (y:=(val d:Int)) (L:=30000) (M:=30000) (Yc (zcv m b) (by omega)) (Yc (zcv false d) (by omega));omega
 have e1:sgQ (fv x-fv x')=sgI (wv n a*(val e:Int)-wv m b*(val d:Int)):=by
  rw[<-h2,<-h2',Rat.sub_eq_add_neg];unfold fv;rw[Rat.neg_mkRat,Ydx _ _ h1 h1',z25 (Ydy h1 h1'),Int.neg_mul]
  rfl
 generalize wv n a*(val e:Int)=z1 at *
 generalize wv m b*(val d:Int)=z2 at *
 have c3:=zp0 (T:=T) z1 z2 (by omega) (by omega);rw[e1,zaa Z0.h211 rfl,b211];simp -implicitDefEqProofs[hp,hp',c1,c2,c3]
def z0n(x x':Fz)(hx:fsz x<=1000)(hx':fsz x'<=1000):Zb T 211 [efz x,efz x']=some (.i .i64 (sgQ (fv x-fv x'))):=zn1 (T:=T) x x' (Yc hx (by decide)) (Yc hx' (by decide))
def zti(x x':Fz)(hx:fsz x<=30000)(hx':fsz x'<=30000):Zb T 212 [efz x,efz x']=some (.b (decide (fv x=fv x'))):=by
 have hc:=zn1 (T:=T) x x' hx hx';have e:(sgQ (fv x-fv x') == 0)=decide (fv x=fv x'):=by
  grind[zl9]
 rw[zaa Z0.h212 rfl,b212];simp -implicitDefEqProofs[hc,e]
def zf5(x x':Fz)(hx:fsz x<=1000)(hx':fsz x'<=1000):Zb T 212 [efz x,efz x']=some (.b (decide (fv x=fv x'))):=zti (T:=T) x x' (Yc hx (by decide)) (Yc hx' (by decide))
def zxi(x x':Fz)(hx:fsz x<=30000)(hx':fsz x'<=30000):Zb T 215 [efz x,efz x']=some (efz (fz (fv x+fv x'))):=by
 obtain⟨⟨n,a,d⟩,h1,h2,h3,hp⟩:=zb7 (T:=T) x (by omega);obtain⟨⟨m,b,e⟩,h1',h2',h3',hp'⟩:=zb7 (T:=T) x' (by omega);have la:=zfp (n,a,d);have ld:=zgh (n,a,d);have lb:=zfp (m,b,e);have le:=zgh (m,b,e);simp only at la ld lb le;have c1:=zeb (T:=T) n a e (by omega) (by omega);have c2:=zeb (T:=T) m b d (by omega) (by omega);have c4:=zgb (T:=T) d e (by omega) (by omega);have l1:(ofN (wv n a*(val e:Int)).natAbs).length<=60000:=by
  have:=zbq (x:=wv n a) (y:=(val e:Int)) (L:=30000) (M:=30000) (Yc (zcv n a) (by omega)) (Yc (zcv false e) (by omega));omega
 have l2:(ofN (wv m b*(val d:Int)).natAbs).length<=60000:=by
  have:=zbq (x:=wv m b) (y:=(val d:Int)) (L:=30000) (M:=30000) (Yc (zcv m b) (by omega)) (Yc (zcv false d) (by omega));omega
 have l3:(ofN (val d*val e)).length<=60000:=by
  have:=zb5 (x:=val d) (y:=val e) (L:=30000) (M:=30000) (Yc (zac d) (by omega)) (Yc (zac e) (by omega));omega
 have e1:fv x+fv x'=mkRat (wv n a*(val e:Int)+wv m b*(val d:Int)) (val d*val e):=by
  rw[<-h2,<-h2'];exact Ydx _ _ h1 h1'
 have hne:=Ydy h1 h1';generalize wv n a*(val e:Int)=z1 at *
 generalize wv m b*(val d:Int)=z2 at *
 generalize val d*val e=D at *
 have c3:=zpz (T:=T) z1 z2 (by omega) (by omega);have c5:=zdo (T:=T) (decide (z1+z2<0)) (ofN (z1+z2).natAbs) (ofN D) (by have:=zcl l1 l2;omega) (by omega) (by rw[zad];omega);rw[zhc,zad,<-e1]at c5;rw[zaa Z0.h215 rfl,b215];simp -implicitDefEqProofs[hp,hp',c1,c2,c3,c4,c5]
def z0o(x x':Fz)(hx:fsz x<=1000)(hx':fsz x'<=1000):Zb T 215 [efz x,efz x']=some (efz (fz (fv x+fv x'))):=zxi (T:=T) x x' (Yc hx (by decide)) (Yc hx' (by decide))
def zxj(x x':Fz)(hx:fsz x<=30000)(hx':fsz x'<=30000):Zb T 217 [efz x,efz x']=some (efz (fz (fv x*fv x'))):=by
 obtain⟨⟨n,a,d⟩,h1,h2,h3,hp⟩:=zb7 (T:=T) x (by omega);obtain⟨⟨m,b,e⟩,h1',h2',h3',hp'⟩:=zb7 (T:=T) x' (by omega);have la:=zfp (n,a,d);have ld:=zgh (n,a,d);have lb:=zfp (m,b,e);have le:=zgh (m,b,e);simp only at la ld lb le;have c3:=zol (T:=T) n m a b (by omega) (by omega);have c4:=zgb (T:=T) d e (by omega) (by omega);have l1:(ofN (wv n a*wv m b).natAbs).length<=60000:=by
  have:=zbq (x:=wv n a) (y:=wv m b) (L:=30000) (M:=30000) (Yc (zcv n a) (by omega)) (Yc (zcv m b) (by omega));omega
 have l3:(ofN (val d*val e)).length<=60000:=by
  have:=zb5 (x:=val d) (y:=val e) (L:=30000) (M:=30000) (Yc (zac d) (by omega)) (Yc (zac e) (by omega));omega
 have e1:fv x*fv x'=mkRat (wv n a*wv m b) (val d*val e):=by
  rw[<-h2,<-h2'];exact Rat.mkRat_mul_mkRat _ _ _ _
 have hne:=Ydy h1 h1';generalize wv n a*wv m b=z at *
 generalize val d*val e=D at *
 have c5:=zdo (T:=T) (decide (z<0)) (ofN z.natAbs) (ofN D) (by omega) (by omega) (by rw[zad];omega);rw[zhc,zad,<-e1]at c5;rw[f217 _ rfl,b217];simp -implicitDefEqProofs[hp,hp',c3,c4,c5]
def z0p(x x':Fz)(hx:fsz x<=1000)(hx':fsz x'<=1000):Zb T 217 [efz x,efz x']=some (efz (fz (fv x*fv x'))):=zxj (T:=T) x x' (Yc hx (by decide)) (Yc hx' (by decide))
end
def nrm(l:List Fz):List Fz:=l.map fun x=>fz (fv x)
def fzs(l:List Rat):List Fz:=l.map fz
def zbg{m:List Fz}{n:Nat}(h:m.length=n)(x:Fz):wkL (Zc (List.take n m)++[Zam x])=Zc (m++[x]):=by
 rw[Yb (by omega),zzf,zcu]
def zc0{α β:Type}(l:List α)(f:α->β){i:Nat}(h:i<l.length):(l.take (i+1)).map f=(l.take i).map f++[f (l[i]'h)]:=by
 grind[List.take_succ_eq_append_getElem]
@[simp] def zyr:Zg []=[]:=rfl
def Zd(q:Rat):List UInt8:=if q.den=1 then Z6 q.num else Z6 q.num++47::Zu q.den
section
variable{T:Tbl}[Zr T][Zx T][Z2 T][Zt T][Zw T][Zbb T][Zi T][Zo T][Z0 T][Zba T][Zb8 T]
def zjg(x:Fz)(hx:fsz x<=900):Zb T 251 [efz x]=some (.s (Zd (fv x))):=by
 have h1:=ziz (T:=T) x (by omega);have hs:=zhe (x:=x) (L:=900) hx (by decide);generalize fv x=q at *
 have l1:=zg9 q;have l2:=zgi q;have e':fz q=(decide (q.num<0),ofN q.num.natAbs,ofN q.den):=rfl;have h2:=zuw (T:=T) (decide (q.num<0)) (ofN q.num.natAbs) (by omega);rw[zhc]at h2;have h3:=zep (T:=T) 1 (by decide);have h4:=zgu (T:=T) (ofN q.den) (ofN 1) (by omega) (by rw[zjn];decide);rw[zad,zad]at h4;have h5:Zb T 68 [.sl (Za (ofN q.den)) .an]=some (.s (Zu q.den)):=by
  rw[p68,zop _ (by omega),zad]
 have t1:(Zu q.den).length<=10000:=by
  grind[zee,zad]
 have t2:(Z6 q.num).length<=20000:=by
  grind[zee,zad,Z6]
 rw[zaa Zb8.h251 rfl,b251];rw[e']at h1;unfold Zd;obtain⟨D,hD⟩:∃D,D=ofN q.den:=⟨_,rfl⟩;obtain⟨A,hA⟩:∃A,A=ofN q.num.natAbs:=⟨_,rfl⟩;obtain⟨O,hO⟩:∃O,O=ofN 1:=⟨_,rfl⟩;by_cases hd:q.den=1
 ·have hc:Zck q.den 1=0:=by rw[hd];rfl
  rw[hc]at h4;rw[if_pos hd];simp -implicitDefEqProofs[h1,h2,h3,h4]
 ·have hc:Zck q.den 1=1:=by
   unfold Zck;have:=q.den_pos;omega
  rw[hc]at h4;rw[if_neg hd];have b1:1+(Zu q.den).length<=9223372036854775807:=by omega
  have b2:(Z6 q.num).length+((Zu q.den).length+1)<=9223372036854775807:=by omega
  simp -implicitDefEqProofs[h1,h2,h3,h4,h5,b1,b2]
def Zp2(n i:Nat):St:=⟨[(3,.bs (.loc 9) 1 3 0 n),(10,.i .i64 n),(11,.i .i64 i)],[(.loc 9,⟨1,.own,3,Zc (List.replicate i (fz 0))++List.replicate (n-i) [.b false,.sl [] .an,.sl [] .an]⟩)],3⟩
def Zp3(l:List Fz)(i:Nat):St:=⟨[(3,.bs (.loc 3) 1 3 0 i),(6,.sl (Zc l) .an),(7,.i .i64 l.length),(8,.i .i64 i)],[(.loc 3,⟨1,.own,3,Zc (nrm (l.take i))⟩)],3⟩
def scl(c:Rat)(l:List Fz):List Fz:=l.map fun x=>fz (c*fv x)
def Zk8(c:Fz)(l:List Fz)(i:Nat):St:=⟨[(2,.ptr (.loc 2) 1 3 0 0),(5,.bs (.loc 5) 2 3 0 i),(8,.sl (Zc l) .an),(9,.i .i64 l.length),(10,.i .i64 i)],[(.loc 2,⟨1,.str,3,[Zam c]⟩),(.loc 5,⟨2,.own,3,Zc (scl (fv c) (l.take i))⟩)],4⟩
def zuq(c:Fz)(hc:fsz c<=1000)(l:List Fz)(hl:l.length<=1000)(hw:∀x∈l,fsz x<=1000) :
  Zl T 0 0 (.norm false [5]) l269_0 (Zk8 c l 0)=some (.n,⟨[(5,.bs (.loc 5) 1 3 0 l.length)],[(.loc 5,⟨1,.own,3,Zc (scl (fv c) l)⟩)],3⟩):=by
 refine zas (Zk8 c l) l.length _ (fun i hi=>?_) ?_
 ·have hws:=zbo hi (by omega);have hn:=z0p (T:=T) c (l[i]'hi) hc (hw _ (Yx hi));have e:scl (fv c) (l.take (i+1))=scl (fv c) (l.take i)++[fz (fv c*fv (l[i]'hi))]:=zc0 l _ hi;have hml:(scl (fv c) (l.take i)).length=i:=by simp[scl];omega
  have hp:=zbg hml (fz (fv c*fv (l[i]'hi)));unfold Zk8;rw[e];have hb:i<=4294967295:=by omega
  simp -implicitDefEqProofs[l269_0,hi,hws,hn,hp,hml,hb]
 ·unfold Zk8;rw[Yb (Yd _)];constructor<;>simp -implicitDefEqProofs[l269_0]
def zys(c:Fz)(hc:fsz c<=1000)(l:List Fz)(hl:l.length<=1000)(hw:∀x∈l,fsz x<=1000):Zb T 269 [efz c,.sl (Zc l) .an]=some (.sl (Zc (scl (fv c) l)) .an):=by
 have h:=zuq (T:=T) c hc l hl hw;unfold Zk8 at h;have e:scl (fv c) (l.take 0)=[]:=rfl;rw[e]at h;simp at h;have ht:List.take l.length (scl (fv c) l)=scl (fv c) l:=Yb (by simp[scl]);have hl2:(scl (fv c) l).length=l.length:=by simp[scl]
 rw[zaa Zb8.h269 rfl,b269];simp -implicitDefEqProofs[h,ht,hl2]
def Zje:List Fz->List Fz->Rat
 | x::a,y::b=>fv x*fv y+Zje a b
 | _,_=>0
def Zk9(a b:List Fz)(i:Nat):Rat:=Zje (a.take i) (b.take i)
theorem zoi:∀(a b:List Fz) (x y:Fz),a.length=b.length->Zje (a++[x]) (b++[y])=Zje a b+fv x*fv y
 | [],[],x,y,_=>by simp[Zje,Rat.add_zero,Rat.zero_add]
 | u::a,v::b,x,y,h=>by
  have ih:=zoi a b x y (by simpa using h);simp only[Ycd,Zje,ih,Rat.add_assoc]
def zaa6{a b:List Fz}(hab:a.length=b.length){i:Nat}(hi:i<a.length):Zk9 a b (i+1)=Zk9 a b i+fv (a[i]'hi)*fv (b[i]'(by omega)):=by
 grind[Zk9,List.take_succ_eq_append_getElem,zoi]
abbrev Zfk:List AV:=[.b false,.sl [] .an,.sl [] .an]
def Zp4(a b:List Fz)(i:Nat):St:=⟨[(1,.sl (Zc b) .an),(4,.ptr (.loc 4) 1 3 0 0),(6,.ptr (.loc 6) 2 3 0 0),(16,.sl (Zc a) .an),(17,.i .i64 a.length),(18,.i .i64 i)],
 [(.loc 4,⟨1,.str,3,[Zfk]⟩),(.loc 6,⟨2,.str,3,[Zam (fz (Zk9 a b i))]⟩)],4⟩
def Zka(a b:List Fz)(i:Nat):St:=⟨[(0,.sl (Zc a) .an),(1,.sl (Zc b) .an),(12,.i .i64 a.length),(13,.i .i64 i)],[],2⟩
def zyt(a b:List Fz)(hab:a.length=b.length)(hl:a.length<=1000)(ha:∀x∈a,fsz x<=1000)(hb:∀x∈b,fsz x<=1000) :
  Zl T 0 0 (.norm false []) l265_0 (Zka a b 0)=if (a.drop 0).map fv=(b.drop 0).map fv then some (.n,⟨[],[],2⟩) else some (.r,⟨[(4,.b false)],[],2⟩):=by
 refine zay (Zka a b) a.length (fun i=>if (a.drop i).map fv=(b.drop i).map fv then some (.n,⟨[],[],2⟩) else some (.r,⟨[(4,.b false)],[],2⟩)) (fun i hi=>?_) ?_
 ·have hib:i<b.length:=by omega
  have hws:=zbo hi (by omega);have c:=zf5 (T:=T) (a[i]'hi) (b[i]'hib) (ha _ (Yx hi)) (hb _ (Yx hib));have hib':(i:Int)<b.length:=by omega
  have key:((a.drop i).map fv=(b.drop i).map fv)↔(fv (a[i]'hi)=fv (b[i]'hib)/\(a.drop (i+1)).map fv=(b.drop (i+1)).map fv):=by
   grind[List.drop_eq_getElem_cons]
  by_cases he:fv (a[i]'hi)=fv (b[i]'hib)
  ·left;refine⟨?_,by grind⟩;unfold Zka;simp -implicitDefEqProofs[l265_0,hi,hws,c,he,hib,hib']
  ·right;rw[if_neg (fun h=>he (key.1 h).1)];unfold Zka;constructor<;>simp -implicitDefEqProofs[l265_0,hi,c,he,hib,hib']
 ·rw[Y8,if_pos (by rw[hab,Y8])];unfold Zka;constructor<;>simp -implicitDefEqProofs[l265_0]
def zhm(a b:List Fz)(hl:a.length<=1000)(ha:∀x∈a,fsz x<=1000)(hb:∀x∈b,fsz x<=1000) :
  Zb T 265 [.sl (Zc a) .an,.sl (Zc b) .an]=some (.b (decide (a.map fv=b.map fv))):=by
 rw[zaa Zb8.h265 rfl,b265];by_cases hab:a.length=b.length
 ·have h:=zyt (T:=T) a b hab hl ha hb;unfold Zka at h;simp at h;have hab':(b.length:Int)=a.length:=by omega
  by_cases he:a.map fv=b.map fv
  ·simp -implicitDefEqProofs[hab',h,he]
  ·simp -implicitDefEqProofs[hab',h,he]
 ·have he:¬ a.map fv=b.map fv:=fun h=>hab (by simpa using congrArg List.length h);have hab':¬ (a.length:Int)=b.length:=by omega
  simp -implicitDefEqProofs[hab',he]
def Zat(l:List Fz):List (List UInt8):=l.map fun x=>Zd (fv x)
def Zla(l:List Fz)(i:Nat):St:=⟨[(3,.bs (.loc 3) 1 1 0 i),(6,.sl (Zc l) .an),(7,.i .i64 l.length),(8,.i .i64 i)],[(.loc 3,⟨1,.own,1,Zg (Zat (l.take i))⟩)],3⟩
def zoj(l:List Fz)(hl:l.length<=1000)(hw:∀x∈l,fsz x<=400) :
  Zl T 0 0 (.norm false [3]) l274_0 (Zla l 0)=some (.n,⟨[(3,.bs (.loc 3) 1 1 0 l.length)],[(.loc 3,⟨1,.own,1,Zg (Zat l)⟩)],3⟩):=by
 refine zas (Zla l) l.length _ (fun i hi=>?_) ?_
 ·have hws:=zbo hi (by omega);have hn:=zjg (T:=T) (l[i]'hi) (Yc (hw _ (Yx hi)) (by decide));have e:Zat (l.take (i+1))=Zat (l.take i)++[Zd (fv (l[i]'hi))]:=zc0 l _ hi;have hml:(Zat (l.take i)).length=i:=by simp[Zat];omega
  have hp:=zuz (Zat (l.take i)) (Zd (fv (l[i]'hi)));rw[hml]at hp;unfold Zla;rw[e];have hb:i<=4294967295:=by omega
  simp -implicitDefEqProofs[l274_0,hi,hws,hn,hp,hml,hb]
 ·unfold Zla;rw[Yb (Yd _)];constructor<;>simp -implicitDefEqProofs[l274_0]
theorem zyu{q:Rat}(h:sz q<=400):(Zd q).length<=10000:=by
 have key:∀{a:List UInt32},a.length<=400->(Zu (val a)).length<=4000:=by
  intro a ha;obtain⟨K,hK⟩:∃K,K=3999:=⟨_,rfl⟩;have h1:=zau a;have h2:4294967296^a.length<=(10^10)^a.length:=Yda (by decide) _;rw[<-Yc9]at h2;have h3:10^(10*a.length)<=10^(K+1):=Yp (by decide) (by omega);have h4:=zjl (k:=K) (Yq h1 (Yc h2 h3));omega
 grind[zg9,zgi,zad,Z6,Zd]
def z1o(l:List Fz)(hl:l.length<=1000)(hw:∀x∈l,fsz x<=400):Zb T 274 [.sl (Zc l) .an]=some (.s (List.intercalate [44] (Zat l))):=by
 have h:=zoj (T:=T) l hl hw;unfold Zla at h;have e:Zat (l.take 0)=[]:=rfl;rw[e]at h;simp only[zyr,Yt]at h;have hj:Zb T 183 [.sl (Zg (Zat l)) .an,.s [44]]=some (.s (List.intercalate [44] (Zat l))):=by
  grind[p183,zu0,Zat,zyu,zhe]
 have ht:List.take l.length (Zg (Zat l))=Zg (Zat l):=Yb (by simp[Zat]);have hl2:(Zat l).length=l.length:=by simp[Zat]
 rw[zaa Zb8.h274 rfl,b274];simp -implicitDefEqProofs[h,ht,hl2,hj]
end
def z5u{l:List Rat}{i:Nat}{q:Rat}(h:l[i]? = some q):(fzs l)[i]? = some (fz q):=by
 unfold fzs;rw[Ya3,h]
 rfl
@[simp] def zgx(l:List Rat):(fzs l).length=l.length:=by simp[fzs]
def Zoa(c:Rat)(acc:List Rat)(r:List Fz):List Rat:=List.zipWith (fun q x=>q+c*fv x) acc r
def Zl2(acc:List Rat)(r:List Fz):List Rat:=List.zipWith (fun q x=>q+fv x) acc r
section
variable{T:Tbl}[Zr T][Zx T][Z2 T][Zt T][Zw T][Zbb T][Zi T][Zo T][Z0 T][Zba T][Zb8 T]
def Zp5(k j n:Nat)(rest:List (List Fz))(r:List Fz)(L acc:List Rat)(i:Nat):St:=
 ⟨[(4,.bs (.fld (.loc 15) 3) 1 3 0 n),(17,.sl (Zz rest) .an),(18,.i .i64 k),(19,.i .i64 j),(28,.sl (Zc r) .an),(29,.i .i64 n),(30,.i .i64 i)],
  [(.fld (.loc 15) 3,⟨1,.own,3,Zc (fzs (L.take i++acc.drop i))⟩)],3⟩
def Zp6(n:Nat)(rest:List (List Fz))(acc:List Rat)(j:Nat):St:=
 ⟨[(4,.bs (.fld (.loc 15) 3) 1 3 0 n),(17,.sl (Zz rest) .an),(18,.i .i64 rest.length),(19,.i .i64 j)],[(.fld (.loc 15) 3,⟨1,.own,3,Zc (fzs ((rest.take j).foldl Zl2 acc))⟩)],3⟩
end
end Go.Ab
section
namespace Go.Ab
end Go.Ab
end
namespace Go.Ab
section
def l278_0:AX:=QZ "CilB4YxMcXgVkHVrbtMnwQ9TvxP733AZYNSHm7A2L3HhmE7FeClsfR"
def b278:AX:=(fun p0=>QY [p0] [] "Hvoglwd0NQj5qB6nrPLp5BSDNsq") l278_0
def l279_0:AX:=QZ "TqCEGjnkVtYvcqBIbgznCxfVgzwYiAnlvKHPXVYGTBfiUlKAa7HOKrSsbTET"
def b279:AX:=(fun p0=>QY [p0] [] "qOm2EII9vAJmRHeK_HdvEVhRQzLk3q_wA9w.") l279_0
def l284_0:AX:=QY [] [(AV.s [44])] "15Y8KFrKQfkRiSWC4ZY326AqQrUpYLaSMwa2k0fe.zJccGstlROnPsAsUZnVKtSE_UQ"
def b284:AX:=(fun p0=>QY [p0] [] "TLu1H2tcIxPKiVBh0BEG0vxNB7") l284_0
def l286_0:AX:=QZ "6Ys0ZqvjQK3HD1V7nRSC7mMH5fZLKnsooSTPt0BqiSilQMWZbK9qaLCjf0MpslYIIS"
def b286:AX:=(fun p0=>QY [p0] [] "HFC9geWaEoFuAzS7WkD0VBPITVqf6cE") l286_0
abbrev row278:AFx:=⟨1,20,[.t 2],b278,none,false⟩
abbrev row279:AFx:=⟨2,27,[.t 4],b279,none,false⟩
abbrev row284:AFx:=⟨1,23,[.t 2],b284,none,false⟩
abbrev row286:AFx:=⟨3,29,[.t 6],b286,none,false⟩
class Zas (T:Tbl):Prop where
 h278:Tr T 278=some row278
 h279:Tr T 279=some row279
 h284:Tr T 284=some row284
 h286:Tr T 286=some row286
attribute [simp] Zas.h278 Zas.h279 Zas.h284 Zas.h286
end
section
def b231:AX:=QZ "I4KVGMYgIHvsOCkN7zqhCDTE4efNMHjJg1xUrhFGrzS3wLL2R7bw88wiIpzM3Ell7grk0H5Wydg.flzQtFZrQeEC_st0UKXvLRp.0N6y3PLEsZEZ3omB1iBzKXzw2011Pq6PbN7P6cvPleKt1AmxIb9yePHsfS0"
def b233:AX:=QZ "0FKCqQGFN3niYrnTRTPqor7QoFxz2455cp.0GZmhfCamBjxT6qtevUOQI_rrJfamhes3rqdlGWC"
def b234:AX:=QZ "z2i_Z3QaQudGJwAmSUQLtXSGE"
def b236:AX:=QY [] [(AV.i .i64 (-1))] "vAOk0rket_gigoUTJp7ZcRcwcQFK9JGGLTkl8h8WhI"
def b237:AX:=QZ "63ZRkJSFv7ujhZQY.ARXcCDoNlKWCH7rCTxXoF"
def b239:AX:=QZ "jSgzrvUKjju8Kl1.o1q2O3NFRQTGXS6hRidCKSaOJn_Ra4C0CapvROCyROUVW6V9934M9nFBexCMwcy9M_vRNq8r9QCTbuKTmCqSrvxR.nRB6W_9ZSOkwi6FVjDYkFbT.4izJXLkZn464dFSD29xTHjWN.N"
def b240:AX:=QZ "L.uxUgruWyIcMmhuX0eqbUPxX17ncWJ"
def b247:AX:=QZ "Lz4MizMyiD7d_ey3Tfg_DXDkG.Uob_gm_MQEvnMg0cK5"
abbrev row231:AFx:=⟨1,40,[.cell 2 (some 3)],b231,none,false⟩
abbrev row233:AFx:=⟨2,24,[.t 4],b233,none,false⟩
abbrev row234:AFx:=⟨1,8,[.cell 2 (some 2)],b234,none,false⟩
abbrev row236:AFx:=⟨1,9,[.t 2],b236,none,false⟩
abbrev row237:AFx:=⟨1,12,[.cell 2 (some 3)],b237,none,false⟩
abbrev row239:AFx:=⟨2,38,[.cell 4 (some 3)],b239,none,false⟩
abbrev row240:AFx:=⟨2,9,[.cell 4 (some 3)],b240,none,false⟩
abbrev row247:AFx:=⟨2,17,[.t 4],b247,none,false⟩
class Z8 (T:Tbl):Prop where
 h231:Tr T 231=some row231
 h233:Tr T 233=some row233
 h234:Tr T 234=some row234
 h236:Tr T 236=some row236
 h237:Tr T 237=some row237
 h239:Tr T 239=some row239
 h240:Tr T 240=some row240
 h247:Tr T 247=some row247
attribute [simp] Z8.h231 Z8.h233 Z8.h234 Z8.h236 Z8.h237 Z8.h239 Z8.h240 Z8.h247
end
end Go.Ab