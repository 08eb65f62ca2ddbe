/-
  A calculus of values, boxes and code, and what functions of the program compute, proved in it.
  Conditions: none beyond those that the theorems state. (Part 8.)
-/
import Derived.Test.YtpkknnhpfhpbdaaGreatPart7

set_option linter.unusedSectionVars false
set_option linter.unusedVariables false
set_option linter.unusedSimpArgs false
set_option linter.unnecessarySimpa false
set_option linter.defProp false
set_option maxRecDepth 100000

namespace Go.Ab
section
def b496:AX:=QZ "1RYnft9LqgpoWKn0RjM.kTJmK8zjGtFzqB315fexPF1sgbwxlbu4HPyEwX.yGZJMZShR8hQ07"
def l497_0:AX:=QZ "0fGDSHvCYWQniVwqfZT2UdaLyNm6YyunXU8WULfuVXTDGgkMdBP.LUW.NvUV6rZhTP7MdOGBDwqsOcZucrp_QUjiz4nmYhekpTvhoti1.6U"
def b497:AX:=(fun p0=>QY [p0] [] "1HHt63a7TgVsl_i.45VfQVReeLuKF1M5RBPuLoY_Pp4KclgonZFeNmLK9fyCVgWUNt5LCe5e.YdoGrJv") l497_0
def l515_0:AX:=QZ "SDJgxeTtUa8jpEX9GCZaRW5gHZWj.4sThHoXxPgR5k_ukrRFgThbzg.zKZCfQ"
def b515:AX:=(fun p0=>QY [p0] [] "KX57js7SKjSknaG2P1Y_yYr3QcKCA8VNQ4Lo4PZWUgpkgR_yyeQKohreFQsL238kz7I7eEzdEby9UTwAqAGRY32Gy2tjDM4cOuru2htuTjzIdDv..okJ9WYU3tafpd.O") l515_0
def b516:AX:=QZ "XALPUVvm_sok2ETzsB_6I2NnewiflrdPSnjA4oLBP"
abbrev row496:AFx:=⟨4,26,[.t 8],b496,none,false⟩
abbrev row497:AFx:=⟨3,50,[.t 6],b497,none,false⟩
abbrev row515:AFx:=⟨3,55,[.t 6],b515,none,false⟩
abbrev row516:AFx:=⟨1,12,[.t 2],b516,none,false⟩
class Zby (T:Tbl):Prop where
 h496:Tr T 496=some row496
 h497:Tr T 497=some row497
 h515:Tr T 515=some row515
 h516:Tr T 516=some row516
attribute [simp] Zby.h496 Zby.h497 Zby.h515 Zby.h516
end
section
def l500_0:AX:=QZ "12MLxbwPoTmhwnLuQ0hxCZByXGKqwCWIqyosffPe7C_l1rQuU5ivhIqyzPBYC5uoPusqx.ltX93_wi64qscVHNGSbDNS2DZDYjJeQq_cW2hem2stPFQyfumfaZ.QLsSK57FQMaWy4viiFkwcBNY795F9vCSr4RoALA_Uigd3R6wYvnvo8GT47fYR"
def b500:AX:=(fun p0=>QY [p0] [] "5R2WxhHV9UXLUJzgz8aet.CWbJzpcuOftXuNcizwdLcWdYM.FuRVPtwfw.6ixlSEB9ZJlt5E.EbZ0tljTwF") l500_0
def b507:AX:=QZ "g_l_9q4ZuGcsBlyU8db5nD5o1SU1aXjXacshE.1h19gw4N7zk8JVVeYXuqbC3RlOe0s7Rh"
def b527:AX:=QZ "1CnNmIHxl8y_85UGL7gplw5Dhj63MgA6ain4ErTXe6vxDCGSVndBymPb9T4OYiTzAwl"
abbrev row500:AFx:=⟨1,49,[.cell 2 (some 5)],b500,none,false⟩
abbrev row507:AFx:=⟨1,15,[.cell 2 (some 11)],b507,none,false⟩
abbrev row527:AFx:=⟨1,18,[.cell 2 (some 5)],b527,none,false⟩
class Ze2 (T:Tbl):Prop where
 h500:Tr T 500=some row500
 h507:Tr T 507=some row507
 h527:Tr T 527=some row527
attribute [simp] Ze2.h500 Ze2.h507 Ze2.h527
end
section
def b498:AX:=QZ "05qAePVsoc04wS0AOzIQnxYlJbl1vrbw9B6RH_aVGhr7uMUGG7jJmFp5yVIvo_l3Y5q2_owBAcAkHGLnAm.KMiGWzK0d65ZvWy7QpxrSkUqlqEJt9c6_FKfxC2JoH_hp_NgB1"
abbrev row498:AFx:=⟨0,33,[.t 0],b498,none,false⟩
class Zgl (T:Tbl):Prop where
 h498:Tr T 498=some row498
attribute [simp] Zgl.h498
end
section
def l494_0:AX:=QZ "3Z4R25uj2GDyB7pQH30YxUxxxB8Pm6v2tJoFBjIl1Y.uANply.T521dVEnIuvvzgiDO.dicI0SJdk1bWezt6OvWvYaanbxFeolVw21tTI7_YG0x1FxQ2.DS1aAgZr.WfG8PuelQT.MTDMsHZjZ2VCWa2_UTUI5bOq8COWss88CvD9YwB6kGL10EvJY03._AsD_2mPXyhCKwqo7p3O3rdWKqtXQg5s820GXdpXGCu8wyihO7sG0KzlOb0wcqyhmxn64_Tn_rMQG8CTlr9IoiHZiFiMERGdNGT3ItL1TJGScMCp7HXc.2U4g7CV3uVHWar9uuc4SFQL5DiDlQHnjzkcMT"
def b494:AX:=(fun p0=>QY [p0] [] "kAbHm.1iJ6dZ_ApSHnJSPf1w.judaerok_DI8DVuv7mMvZ2sB.26PU89pWkC5xQoDgfUs4UOdwMtOr.ntLOQzJC.VAcvqvnhDRmqlcBbFP9MpKxFz.uFw5EOpjfPnmTTTj2wPDMf.sKQCSnzO3MMgO") ((fun p0 p1=>QY [p0,p1] [] "5nrE7FalssVCdxYhy6tUWf83cYb8vdXwbrHH2uhi9M1gvQBucrDZ6hDEy_oN2tx.3A78rakp7Lx3UAVfIFKZHegRhsokhU86Gq7U7w11ohPNIP.Bmlkvc5MpaYMN4yKFq__.wMqfTksZ.YXDeF_QUvncT0xoLEc7FGIfmXI6kA_7tjmISYj5dQxPdL2Y1s404XDuTUJRLBAF28KP_duXtz6Xs0dAINan8bAJg7Pcv3nZ2KhyLWvNIUYWrI2hF7CkCxXW6aP71GlMJ6CeEHSVTiP.6DpH7K5uih8aLiKcUfTK2sQkzwNgK2WsP_0") l494_0 (QZ "7aZDXj9EA55U4AEuHt2T6nsWpROPV9Kevi9LMfVxaBf1eTvYH8VYCAm8kQITTeOf_DWuRrAf.K1b6vGsWljadjbejUd80TFFTTJnm59aCg.K33j_wO6.t_vhYa4DtXXSHR88OZ.ayI.hYnQnm4C44k8uF4K3r_J2MZK3yG3_2qoZCa1KdFNla8e2ZX6jlTFGhElMQPpM1Wau7ip65pkjBufwNHDPjx7fqXpu0ljwZFjlMrYye9_n.KHPSxpw7qJaYNGRuqVVJQl298kE4vC0_EMWPbjKRT572eG2FM8ex1aWnN6kkYvyY2dORrn_Ea1wenclINZslXwOdLfwDJTqRsj6X0Av2KflVNZoj_i7s0.6izqKS."))
def b503:AX:=QZ "CWDFF8cL1FLe.uYlPw0iqg2GwwEDOXfLYZYark51ddjrrkczF39"
def b510:AX:=QZ "0WQkP4rhge5mxIoH.ZYIpjlcCZEVOrDeqIHku35sXHT9dYwt"
abbrev row494:AFx:=⟨4,303,[.t 8],b494,none,false⟩
abbrev row503:AFx:=⟨1,15,[.cell 2 (some 4)],b503,none,false⟩
abbrev row510:AFx:=⟨1,12,[.cell 2 (some 4)],b510,none,false⟩
class Zcp (T:Tbl):Prop where
 h494:Tr T 494=some row494
 h503:Tr T 503=some row503
 h510:Tr T 510=some row510
attribute [simp] Zcp.h494 Zcp.h503 Zcp.h510
end
section
def l43_0:AX:=QZ "2XqayF6QYNahpdz.nrY3461.OPn6qNNCwIyUCwREFAuu_t9vU"
def b43:AX:=(fun p0=>QY [p0] [] "3WgQU0f2ZzTnd5hyhHsSfvNFNGmQOhUxXsmvaoA39") l43_0
def b84:AX:=QZ "8Ln4aN7uLiC1FZkmuq4APNd36YEgBkWx688"
def l52_0:AX:=QY [] [(AV.i .i64 (-1))] "6Z1w5hxzSN.A.4Jtj3Wcd3xc1L2CklCanqXVidoHOm5i75kSFzIVM3zskANWXyXKmO85O79jrhoc8nuO9xiJb_CVUR"
def b52:AX:=(fun p0=>QY [p0] [] "_t6nkWztbH4OvlJta.vMRmzHKaPFaVnqdkI") l52_0
def l54_0:AX:=QZ "45oXSKa9ZlWdVL45d6I.LHQrM3S8AcfvwG8Est6QCcY_.nr9aCcjMKjU"
def b54:AX:=(fun p0=>QY [p0] [] "1f7iVLBYVrwlPvcCNgtFCHEu1c3zMLELoS203") l54_0
def l58_0:AX:=QY [] [(u64 4294967296)] "3dbTedo5JkkmkvyMCVfcqqPk.U3rPst3ncQ0VMJtpLhKzbi7BkuDeXjxTKtg_bUml4kASfEA_52S06h714qGQ5ykHA01aAQ"
def b58:AX:=(fun p0=>QY [p0] [] "QFlyPLXgxUs6JgnlRiXquPJEugJl9UQ9ovTCA91X1fFQ7_rJ7Ip9SxuQWZ8dV43Y") l58_0
def l59_0:AX:=QY [] [(u64 4294967296)] "1TyLErdhYfCpqgYXq8oKP4Y9YKzYlKVOVn.hTGkkNFDUdASBcfIVFSBbZ54ss7qlWw45lJ0t4f_88U1J9L9at9__TL9fIR3t0xKl4j2v8kUzK8ww0_4uYYS"
def b59:AX:=(fun p0=>QY [p0] [] "4LPk4sopbgQ1xROP2fSTWG1jturfU4evhJWXFy4yO8a10RTqCzlMYiXUs7h.ck") l59_0
abbrev row43:AFx:=⟨1,23,[.t 2],b43,none,false⟩
abbrev row84:AFx:=⟨2,13,[.t 4],b84,none,false⟩
abbrev row52:AFx:=⟨2,30,[.t 4],b52,none,false⟩
abbrev row54:AFx:=⟨2,26,[.t 4],b54,none,false⟩
abbrev row58:AFx:=⟨2,43,[.t 4],b58,none,false⟩
abbrev row59:AFx:=⟨2,47,[.t 4],b59,none,false⟩
class Zz (T:Tbl):Prop where
 h43:Tr T 43=some row43
 h84:Tr T 84=some row84
 h52:Tr T 52=some row52
 h54:Tr T 54=some row54
 h58:Tr T 58=some row58
 h59:Tr T 59=some row59
attribute [simp] Zz.h43 Zz.h84 Zz.h52 Zz.h54 Zz.h58 Zz.h59
end
section
variable{T:Tbl}
def zfd(a:List UInt32)(hl:a.length<9223372036854775808){n:Nat}(hn:n<=a.length)(h0:∀(i:Nat) (x:UInt32),n<=i->a[i]? = some x->x.toNat=0)(h1:∀x:UInt32,0<n->a[n-1]? = some x->x.toNat≠0) :
  ∀m:Nat,(n<=m/\m<=a.length)->Ze T 0 0 (.norm false [0,3]) l43_0 ⟨[(0,.sl (Zc a) .an),(3,.i .i64 (m:Int))],[],2⟩=some (.n,⟨[(0,.sl (Zc a) .an),(3,.i .i64 (n:Int))],[],2⟩):=by
 refine za4 (fun m:Nat=>⟨[(0,.sl (Zc a) .an),(3,.i .i64 (m:Int))],[],2⟩) _ (fun m=>m) _ ?_
 rintro m ⟨hm,hma⟩
 by_cases h2:m=0
 ·right;subst h2;have:n=0:=by omega
  subst this;constructor<;>simp[l43_0]
 ·have hw:IntKind.wrap .i64 ((m:Int)-1)=((m-1:Nat):Int):=by rw[zab _ (by omega)];omega
  have hm1:m-1<a.length:=by omega
  have hg:a[m-1]? = some (a[m-1]'hm1):=Yb hm1;have hpos:0<m:=by omega
  by_cases h3:m=n
  ·right;subst h3;have hx:=h1 _ hpos hg;constructor<;>simp[l43_0,hpos,hw,hm1,hx]
  ·left;refine⟨m-1,⟨by omega,by omega⟩,by omega,?_,rfl⟩;have hx:=h0 (m-1) _ (by omega) hg;simp[l43_0,hpos,hw,hm1,hx]
end
section
variable{T:Tbl}[Zz T]
def zbt(a:List UInt32)(hl:a.length<=1000000):Za T 43 [.sl (Zc a) .an]=some (.sl (Zc (ofN (val a))) .an):=by
 obtain⟨n,h1,h2,h3,h4⟩:=zhe a;have hr:=zfd (T:=T) a (by omega) h1 h3 h4 a.length ⟨h1,Ye _⟩;have hlen:(ofN (val a)).length=n:=by grind
 have hb:n<=4294967296:=by omega
 rw[zaa Zz.h43 rfl,b43];simp[hr,h1,h2,hlen,hb]
 grind
def atW(a:List UInt32)(i:Nat):Nat:=(a[i]?.map UInt32.toNat).getD 0
def zkd(a:List UInt32)(i:Nat):atW a i<4294967296:=by
 grind[atW,zan]
theorem zbm(a:List UInt32)(i:Nat):val (a.take (i+1))=val (a.take i)+4294967296^i*atW a i:=by
 grind[atW,zaf,zbo]
def zd7(a:List UInt32)(i:Nat)(_hl:a.length<=1000000):Za T 84 [.sl (Zc a) .an,.i .i64 i]=some (u32 (atW a i)):=by
 rw[zaa Zz.h84 rfl,b84];unfold atW;by_cases h:i<a.length
 ·simp[h]
 ·simp[h]
def zk7(a b:List UInt32)(hl:a.length<=1000000)(hl2:b.length<=1000000):∀m:Nat,m<=1000000 ->
  Ze T 0 0 (.norm false []) l52_0 ⟨[(0,.sl (Zc a) .an),(1,.sl (Zc b) .an),(5,.i .i64 ((m:Int)-1))],[],2⟩ =
   if val (a.take m)<val (b.take m) then some (.r,⟨[(4,.i .i64 (-1))],[],2⟩) else if val (b.take m)<val (a.take m) then some (.r,⟨[(4,.i .i64 1)],[],2⟩) else some (.n,⟨[],[],2⟩):=by
 refine za4 (fun m:Nat=>⟨[(0,.sl (Zc a) .an),(1,.sl (Zc b) .an),(5,.i .i64 ((m:Int)-1))],[],2⟩) _ (fun m=>m) _ ?_;intro m hm;cases m with
 | zero=>
  right;constructor<;>simp[l52_0]
 | succ i=>
  have hw:IntKind.wrap .i64 ((i:Int)-1)=(i:Int)-1:=zab _ (by omega);have ca:=zd7 (T:=T) a i hl;have cb:=zd7 (T:=T) b i hl2;have e1:=zbm a i;have e2:=zbm b i;have b1:=za3 (a.take i);have b2:=za3 (b.take i);have p1:4294967296^(a.take i).length<=4294967296^i:=Y9 (by decide) (by grind);have p2:4294967296^(b.take i).length<=4294967296^i:=Y9 (by decide) (by grind);rcases Ybg (atW a i) (atW b i) with h1 | h1 | h1
  ·right;have h3:=Yaq (4294967296^i) (show atW a i+1<=atW b i from h1);rw[Yas]at h3;have h2:val (a.take (i+1))<val (b.take (i+1)):=by omega
   constructor<;>simp[l52_0,ca,cb,h1,h2]
  ·left;refine⟨i,by omega,Y7 i,?_,?_⟩
   ·simp[l52_0,ca,cb,h1,hw]
   grind
  ·right;have h3:=Yaq (4294967296^i) (show atW b i+1<=atW a i from h1);rw[Yas]at h3;have h2:val (b.take (i+1))<val (a.take (i+1)):=by omega
   have h4:¬ val (a.take (i+1))<val (b.take (i+1)):=by omega
   have h5:¬ atW a i<atW b i:=by omega
   constructor<;>simp[l52_0,ca,cb,h1,h2,h4,h5]
def zfe(a b:List UInt32)(ha:a.length<=1000000)(hb:b.length<=1000000):Za T 52 [.sl (Zc a) .an,.sl (Zc b) .an]=some (.i .i64 (Zeb (val a) (val b))):=by
 have hc:=zk7 (T:=T) a b ha hb (max a.length b.length) (by omega);rw[Ya (by omega),Ya (by omega)]at hc;have e:(if (a.length:Int)<b.length then (b.length:Int) else a.length)=((max a.length b.length:Nat):Int):=by omega
 have hw:IntKind.wrap .i64 (((max a.length b.length:Nat):Int)-1)=((max a.length b.length:Nat):Int)-1:=zab _ (by omega);rw[zaa Zz.h52 rfl,b52];simp at e hw hc;simp[e,hw,hc,Zeb]
 grind
end
section
variable{T:Tbl}
def zke(a b:List UInt32)(hab:a.length=b.length)(hl:a.length<=1000000):∀i:Nat,i<=a.length ->
  Ze T 0 0 (.norm false []) l54_0 ⟨[(0,.sl (Zc a) .an),(1,.sl (Zc b) .an),(5,.i .i64 i)],[],2⟩=if a.drop i=b.drop i then some (.n,⟨[],[],2⟩) else some (.r,⟨[(4,.b false)],[],2⟩):=by
 refine za4 (fun i:Nat=>⟨[(0,.sl (Zc a) .an),(1,.sl (Zc b) .an),(5,.i .i64 i)],[],2⟩) _ (fun i=>a.length-i) _ ?_;intro i hi;by_cases h0:i<a.length
 ·have h1:i<b.length:=by omega
  have hw:IntKind.wrap .i64 ((i:Int)+1)=((i+1:Nat):Int):=zab _ (by omega);have hda:a.drop i=a[i]'h0::a.drop (i+1):=Yg h0;have hdb:b.drop i=b[i]'h1::b.drop (i+1):=Yg h1;by_cases h2:a[i]'h0=b[i]'h1
  ·left;refine⟨i+1,h0,by omega,?_,?_⟩
   ·simp[l54_0,h0,h1,h2,hw]
   grind
  ·right;have h3:¬ (a[i]'h0).toNat=(b[i]'h1).toNat:=fun h=>h2 (Yet.1 h);have h4:¬ a.drop i=b.drop i:=by grind
   constructor<;>simp[l54_0,h0,h1,h3,h4]
 ·right;have h4:a.drop i=b.drop i:=by grind
  have h5:¬ (i:Int)<a.length:=by omega
  constructor<;>simp[l54_0,h4,h5]
end
section
variable{T:Tbl}[Zz T]
def zma(a b:List UInt32)(ha:a.length<=1000000):Za T 54 [.sl (Zc a) .an,.sl (Zc b) .an]=some (.b (decide (a=b))):=by
 rw[zaa Zz.h54 rfl,b54];by_cases h:a.length=b.length
 ·have hc:=zke (T:=T) a b h ha 0 (Yv _);simp at hc;by_cases h3:a=b
  ·subst h3;simp[hc]
  ·simp[h,hc,h3]
 ·have h3:¬ a=b:=fun he=>h (by rw[he]);have h2:¬ (a.length:Int)=b.length:=by omega
  simp[h2,h3]
def Zkt(a b:List UInt32)(n:Nat)(y:Nat×Nat×List UInt32):St:=
 ⟨[(0,.sl (Zc a) .an),(1,.sl (Zc b) .an),(5,.i .i64 n),(6,.bs (.loc 16) 1 1 0 n),(7,u64 y.2.1),(8,.i .i64 y.1)],[(.loc 16,⟨1,.own,1,Zc y.2.2⟩)],3⟩
def zk8(a b:List UInt32)(n:Nat)(ha:a.length<=1000000)(hb:b.length<=1000000)(hn:n<=1000001):∀y:Nat×Nat×List UInt32,
  (y.1<=n/\y.2.1<=1/\y.2.2.length=n/\val (y.2.2.take y.1)+4294967296^y.1*y.2.1=val (a.take y.1)+val (b.take y.1)) ->
  ∃r,(∃(c:Nat) (out:List UInt32),r=(Ex.n,(⟨[(6,.bs (.loc 16) 1 1 0 n)],[(.loc 16,⟨1,.own,1,Zc out⟩)],3⟩:St)) /\
   out.length=n/\c<=1/\val out+4294967296^n*c=val (a.take n)+val (b.take n))/\Ze T 0 0 (.norm false [6]) l58_0 (Zkt a b n y)=some r:=by
 refine zar _ _ (fun y=>n-y.1) _ ?_
 rintro⟨i,c,out⟩ ⟨hi,hc,ho,hv⟩
 simp only at hi hc ho hv;by_cases h0:i<n
 ·left;have hoi:i<out.length:=by omega
  have hog:out[i]? = some (out[i]'hoi):=Yb hoi;have hw:IntKind.wrap .i64 ((i:Int)+1)=((i+1:Nat):Int):=zab _ (by omega);have ca:=zd7 (T:=T) a i ha;have cb:=zd7 (T:=T) b i hb;have la:=zkd a i;have lb:=zkd b i;have e1:=zbm a i;have e2:=zbm b i;have m1:atW a i%18446744073709551616=atW a i:=Yq (by omega);have m2:atW b i%18446744073709551616=atW b i:=Yq (by omega);have m3:(c+(atW a i+atW b i))%18446744073709551616=c+(atW a i+atW b i):=Yq (by omega);have m4:(c+(atW a i+atW b i))/4294967296%18446744073709551616=(c+(atW a i+atW b i))/4294967296:=Yq (by omega);refine⟨(i+1,(c+(atW a i+atW b i))/4294967296,out.set i (w32 (c+(atW a i+atW b i)))),⟨h0,by grind,by grind,?_⟩,by omega,?_⟩
  ·grind[zb1,zcp,Nat.div_add_mod]
  ·simp[l58_0,Zkt,h0,ca,cb,m1,m2,m3,m4,hog,hw]
 ·right;have:i=n:=by omega
  subst this;rw[Ya (by omega)]at hv;refine⟨_,⟨c,out,rfl,ho,hc,hv⟩,?_,?_⟩<;>simp[l58_0,Zkt]
def zz3{p q r x y z c:Nat}(h1:x+p*4294967296*c=y+z)(h2:c<=1)(h3:y<q)(h4:z<r)(h5:q<=p)(h6:r<=p):x=y+z:=by
 rcases(show c=0\/c=1 by omega) with h | h
 all_goals grind
def zpm(a b:List UInt32)(ha:a.length<=100000)(hb:b.length<=100000):Za T 58 [.sl (Zc a) .an,.sl (Zc b) .an]=some (.sl (Zc (ofN (val a+val b))) .an):=by
 obtain⟨n,hn⟩:∃n,n=max a.length b.length:=⟨_,rfl⟩;obtain⟨_,⟨c,out,rfl,ho,hc,hv⟩,hr⟩:=zk8 (T:=T) a b (n+1) (by omega) (by omega) (by omega) (0,0,List.replicate (n+1) 0) ⟨Yv _,Yv _,by simp,by simp⟩;unfold Zkt at hr;simp at hr;rw[Ya (by omega),Ya (by omega)]at hv;have e:(if a.length<b.length then (b.length:Int) else a.length)=(n:Int):=by omega
 have hw:IntKind.wrap .i64 ((n:Int)+1)=((n:Int)+1):=zab _ (by omega);have hn1:(0:Int)<=(n:Int)+1:=by omega
 have hn2:(n:Int)+1<=4294967296:=by omega
 have hn3:((n:Int)+1).toNat=n+1:=by omega
 have l1:=za3 a;have l2:=za3 b;have p1:4294967296^a.length<=4294967296^n:=Y9 (by decide) (by omega);have p2:4294967296^b.length<=4294967296^n:=Y9 (by decide) (by omega);have hval:val out=val a+val b:=by
  exact zz3 hv hc l1 l2 p1 p2
 have hnm:=zbt (T:=T) out (by omega);rw[hval]at hnm;have htk:List.take (n+1) out=out:=Ya (by omega);rw[zaa Zz.h58 rfl,b58];simp[e,hw,hn1,hn2,hn3,hr,ho,htk,hnm]
def Zjl(a b:List UInt32)(n:Nat)(y:Nat×Nat×List UInt32):St:=
 ⟨[(0,.sl (Zc a) .an),(1,.sl (Zc b) .an),(5,.i .i64 n),(6,.bs (.loc 17) 1 1 0 n),(7,u64 y.2.1),(8,.i .i64 y.1)],[(.loc 17,⟨1,.own,1,Zc y.2.2⟩)],3⟩
def zk9(a b:List UInt32)(n:Nat)(ha:a.length<=1000000)(hb:b.length<=1000000)(hn:n<=1000001):∀y:Nat×Nat×List UInt32,
  (y.1<=n/\y.2.1<=1/\y.2.2.length=n/\val (y.2.2.take y.1)+val (b.take y.1)=val (a.take y.1)+4294967296^y.1*y.2.1) ->
  ∃r,(∃(c:Nat) (out:List UInt32),r=(Ex.n,(⟨[(6,.bs (.loc 17) 1 1 0 n)],[(.loc 17,⟨1,.own,1,Zc out⟩)],3⟩:St)) /\
   out.length=n/\c<=1/\val out+val (b.take n)=val (a.take n)+4294967296^n*c)/\Ze T 0 0 (.norm false [6]) l59_0 (Zjl a b n y)=some r:=by
 refine zar _ _ (fun y=>n-y.1) _ ?_
 rintro⟨i,c,out⟩ ⟨hi,hc,ho,hv⟩
 simp only at hi hc ho hv;by_cases h0:i<n
 ·left;have hoi:i<out.length:=by omega
  have hog:out[i]? = some (out[i]'hoi):=Yb hoi;have hw:IntKind.wrap .i64 ((i:Int)+1)=((i+1:Nat):Int):=zab _ (by omega);have ca:=zd7 (T:=T) a i ha;have cb:=zd7 (T:=T) b i hb;have la:=zkd a i;have lb:=zkd b i;have e1:=zbm a i;have e2:=zbm b i;have m1:atW a i%18446744073709551616=atW a i:=Yq (by omega);have m2:atW b i%18446744073709551616=atW b i:=Yq (by omega);have m3:(atW b i+c)%18446744073709551616=atW b i+c:=Yq (by omega);have m4:(atW a i+4294967296)%18446744073709551616=atW a i+4294967296:=Yq (by omega);have fin:∀s d:Nat,d<=1->s<4294967296->s+(atW b i+c)=atW a i+4294967296*d ->
    val ((out.set i (w32 s)).take (i+1))+val (b.take (i+1))=val (a.take (i+1))+4294967296^(i+1)*d:=by
   grind[zb1,zah]
  by_cases h1:atW a i<atW b i+c
  ·have hs:Ze0 (atW a i+4294967296) (atW b i+c)=atW a i+4294967296-(atW b i+c):=zfs (by omega) (by omega);refine⟨(i+1,1,out.set i (w32 (atW a i+4294967296-(atW b i+c)))),⟨h0,Ye _,by grind,fin _ 1 (by omega) (by omega) (by omega)⟩,by omega,?_⟩;simp[l59_0,Zjl,h0,ca,cb,m1,m2,m3,m4,h1,hs,hog,hw]
  ·have hs:Ze0 (atW a i) (atW b i+c)=atW a i-(atW b i+c):=zfs (by omega) (by omega);refine⟨(i+1,0,out.set i (w32 (atW a i-(atW b i+c)))),⟨h0,Yv _,by grind,fin _ 0 (by omega) (by omega) (by omega)⟩,by omega,?_⟩;simp[l59_0,Zjl,h0,ca,cb,m1,m2,m3,h1,hs,hog,hw]
 ·right;have:i=n:=by omega
  subst this;rw[Ya (by omega)]at hv;refine⟨_,⟨c,out,rfl,ho,hc,hv⟩,?_,?_⟩<;>simp[l59_0,Zjl]
def zpn(a b:List UInt32)(ha:a.length<=100000)(hb:b.length<=100000)(hab:val b<=val a):Za T 59 [.sl (Zc a) .an,.sl (Zc b) .an]=some (.sl (Zc (ofN (val a-val b))) .an):=by
 obtain⟨n,hn⟩:∃n,n=max a.length b.length:=⟨_,rfl⟩;obtain⟨_,⟨c,out,rfl,ho,hc,hv⟩,hr⟩:=zk9 (T:=T) a b n (by omega) (by omega) (by omega) (0,0,List.replicate n 0) ⟨Yv _,Yv _,by simp,by simp⟩;unfold Zjl at hr;simp at hr;rw[Ya (by omega),Ya (by omega)]at hv;have e:(if a.length<b.length then (b.length:Int) else a.length)=(n:Int):=by omega
 have hn2:(n:Int)<=4294967296:=by omega
 have hlo:=za3 out;have hval:val out=val a-val b:=by
  rcases Ya4 c with h1 | h1
  all_goals grind
 have hnm:=zbt (T:=T) out (by omega);rw[hval]at hnm;have htk:List.take n out=out:=Ya (by omega);rw[zaa Zz.h59 rfl,b59];simp[e,hn2,hr,ho,htk,hnm]
end
section
def l61_0:AX:=QY [] [(u64 4294967296)] "09bv0BFzjt1YkEg2ziSDs0eMztqEJgFPjfvH.ye0v7mCI5YUeqHuF_5JZyWHLqBMuaBayc_Ill3npaUNL4wHmbJkiFsxt9Xi5AZVwDFZsknYVCjS2h7nQ"
def l61_1:AX:=(fun p0=>QY [p0] [] "1JCS6wDDClcrWAenUi0h5iQlcrVQepcHNodWXbQ53qchQtmLGEnsbDA46IcreDfioL5kVQT") l61_0
def b61:AX:=(fun p0=>QY [p0] [] "I6PHTFL2Bx.3l6dhSlhNNf_7dMwMo0nw4RTv62auVF91rh2") l61_1
abbrev row61:AFx:=⟨2,68,[.t 4],b61,none,false⟩
class Z8 (T:Tbl):Prop extends Zz T where
 h61:Tr T 61=some row61
attribute [simp] Z8.h61
end
section
variable{T:Tbl}[Z8 T]
def zz4{p m w c c' s x y t v:Nat}(h:m+p*c=s+x*t)(e:w+4294967296*c'=x*y+v+c):(m+p*w)+p*4294967296*c'=(s+p*v)+x*(t+p*y):=
 ztb (k:=0) h e
def Zmb(P S a b:List UInt32)(y:Nat×Nat×List UInt32):St:=
 ⟨[(0,.sl (Zc a) .an),(1,.sl (Zc b) .an),(5,.bs (.loc 14) 1 1 0 (P.length+S.length)),(6,.i .i64 P.length),(7,u64 y.2.1),(8,.i .i64 y.1)],[(.loc 14,⟨1,.own,1,Zc (P++(y.2.2++S.drop y.1))⟩)],3⟩
end
section
variable{T:Tbl}
def z4d(P S a b:List UInt32)(x:UInt32)(hxa:a[P.length]? = some x)(hS:b.length<S.length)(hl:P.length+S.length<=1000000):∀y:Nat×Nat×List UInt32,
  (y.1<=b.length/\y.2.1<4294967296/\y.2.2.length=y.1/\val y.2.2+4294967296^y.1*y.2.1=val (S.take y.1)+x.toNat*val (b.take y.1)) ->
  ∃r,(∃(c:Nat) (m:List UInt32),r=(Ex.n,(⟨[(0,.sl (Zc a) .an),(1,.sl (Zc b) .an),(5,.bs (.loc 14) 1 1 0 (P.length+S.length)),(6,.i .i64 P.length),(7,u64 c)],[(.loc 14,⟨1,.own,1,Zc (P++(m++S.drop b.length))⟩)],3⟩:St)) /\
   m.length=b.length/\c<4294967296/\val m+4294967296^b.length*c=val (S.take b.length)+x.toNat*val b)/\Ze T 0 2 (.norm false [0,1,5,6,7]) l61_0 (Zmb P S a b y)=some r:=by
 refine zar _ _ (fun y=>b.length-y.1) _ ?_
 rintro⟨i,c,m⟩ ⟨hi,hc,hm,hv⟩
 simp only at hi hc hm hv;have hPa:P.length<a.length:=by
  rcases Yy P.length a.length with h | h
  ·exact h
  ·rw[Yc1 h]at hxa;cases hxa
 obtain rfl:a[P.length]'hPa=x:=by rw[Yb hPa]at hxa;cases hxa;rfl
 generalize hX:a[P.length]'hPa=x at hv ⊢;by_cases h0:i<b.length
 ·left;have hb:b[i]? = some (b[i]'h0):=Yb h0;have hiS:i<S.length:=by omega
  have hs:S[i]? = some (S[i]'hiS):=Yb hiS;have hg:=zee (P:=P) hm hiS;have hw:IntKind.wrap .i64 ((i:Int)+1)=((i+1:Nat):Int):=zab _ (by omega);have hw2:IntKind.wrap .i64 ((P.length:Int)+i)=((P.length+i:Nat):Int):=zab _ (by omega);have hlb:=zan (b[i]'h0);have hls:=zan (S[i]'hiS);have hmul:=zj5 (zan x) hlb;have hset:=zd1 (P:=P) (w32 (c+(x.toNat*(b[i]'h0).toNat+(S[i]'hiS).toNat))) hm hiS;have m1:x.toNat*(b[i]'h0).toNat%18446744073709551616=x.toNat*(b[i]'h0).toNat:=Yq (by omega);have m2:(x.toNat*(b[i]'h0).toNat+(S[i]'hiS).toNat)%18446744073709551616=x.toNat*(b[i]'h0).toNat+(S[i]'hiS).toNat:=Yq (by omega);have m3:(c+(x.toNat*(b[i]'h0).toNat+(S[i]'hiS).toNat))%18446744073709551616=c+(x.toNat*(b[i]'h0).toNat+(S[i]'hiS).toNat):=Yq (by omega);have m4:(c+(x.toNat*(b[i]'h0).toNat+(S[i]'hiS).toNat))/4294967296%18446744073709551616=(c+(x.toNat*(b[i]'h0).toNat+(S[i]'hiS).toNat))/4294967296:=Yq (by omega);refine⟨(i+1,(c+(x.toNat*(b[i]'h0).toNat+(S[i]'hiS).toNat))/4294967296,m++[w32 (c+(x.toNat*(b[i]'h0).toNat+(S[i]'hiS).toNat))]),⟨h0,by simp only;omega,by simp[hm],?_⟩,by simp only;omega,?_⟩
  ·simp only;rw[zaj,zaf hb,zaf hs,Yan,hm];simp only[zao,zbh,Yax,Yad,zcp];exact zz4 hv (by have:=Ybs (c+(x.toNat*(b[i]'h0).toNat+(S[i]'hiS).toNat)) 4294967296;omega)
  ·simp at hg hset;simp -implicitDefEqProofs[l61_0,Zmb,h0,hw,hw2,hiS,hg,hset,hPa,hX,m1,m2,m3,m4]
 ·right;have hib:i=b.length:=by omega
  have hv':val m+4294967296^b.length*c=val (S.take b.length)+x.toNat*val b:=by
   rw[hib,Ya (Ye b.length)]at hv;exact hv
  refine⟨(Ex.n,⟨[(0,.sl (Zc a) .an),(1,.sl (Zc b) .an),(5,.bs (.loc 14) 1 1 0 (P.length+S.length)),(6,.i .i64 P.length),(7,u64 c)],[(.loc 14,⟨1,.own,1,Zc (P++(m++S.drop i))⟩)],3⟩),⟨c,m,by rw[hib],by rw[hm,hib],hc,hv'⟩,?_,?_⟩<;>simp -implicitDefEqProofs[l61_0,Zmb,h0]
end
section
variable{T:Tbl}[Z8 T]
def Zku(a b:List UInt32)(y:Nat×List UInt32):St:=
 ⟨[(0,.sl (Zc a) .an),(1,.sl (Zc b) .an),(5,.bs (.loc 14) 1 1 0 (a.length+b.length)),(6,.i .i64 y.1)],[(.loc 14,⟨1,.own,1,Zc (y.2++List.replicate (a.length-y.1) 0)⟩)],3⟩
end
section
variable{T:Tbl}
def zz5(a b:List UInt32)(ha:a.length<=100000)(hb:b.length<=100000):∀y:Nat×List UInt32,
  (y.1<=a.length/\y.2.length=b.length+y.1/\val y.2=val (a.take y.1)*val b) ->
  ∃r,(∃out:List UInt32,r=(Ex.n,(⟨[(5,.bs (.loc 14) 1 1 0 (a.length+b.length))],[(.loc 14,⟨1,.own,1,Zc out⟩)],3⟩:St))/\out.length=a.length+b.length/\val out=val a*val b) /\
   Ze T 0 0 (.norm false [5]) l61_1 (Zku a b y)=some r:=by
 refine zar _ _ (fun y=>a.length-y.1) _ ?_
 rintro⟨i,X⟩ ⟨hi,hX,hv⟩
 simp only at hi hX hv;by_cases h0:i<a.length
 ·left;have hag:a[i]? = some (a[i]'h0):=Yb h0;have hw:IntKind.wrap .i64 ((i:Int)+1)=((i+1:Nat):Int):=zab _ (by omega);have e2:(X.take i).length=i:=by simp;omega
  have e3:(X.drop i++List.replicate (a.length-i) 0).length=a.length+b.length-i:=by simp;omega
  obtain⟨_,⟨c,m,rfl,hm,hc,hvm⟩,hr⟩:=z4d (T:=T) (X.take i) (X.drop i++List.replicate (a.length-i) 0) a b (a[i]'h0) (by rw[e2];exact hag) (by simp;omega) (by simp;omega) (0,0,[]) ⟨Yv _,Nat.zero_lt_succ _,rfl,by simp⟩;have e1:X.take i++(X.drop i++List.replicate (a.length-i) 0)=X++List.replicate (a.length-i) 0:=by rw[<-Ybk,Ybb]
  have e4:i+(a.length+b.length-i)=a.length+b.length:=by omega
  have e6:(X.drop i++List.replicate (a.length-i) 0).take b.length=X.drop i:=by
   rw[Ycs (by simp;omega),Ya (by simp;omega)]
  have hSl:b.length<(X.drop i++List.replicate (a.length-i) 0).length:=by simp;omega
  have hg:=zee (P:=X.take i) (m:=m) hm hSl;have hset:=zd1 (P:=X.take i) (m:=m) (w32 c) hm hSl;have e5:(X.drop i++List.replicate (a.length-i) 0).drop (b.length+1)=List.replicate (a.length-(i+1)) 0:=by
   rw[List.drop_append,Ya7 (by simp;omega),List.drop_replicate];simp only[Yau,Ybv];congr 1;omega
  unfold Zmb at hr;simp only[Yau,Y6]at hr;rw[e1,e2,e3,e4]at hr;rw[e2]at hg hset;rw[e5]at hset;rw[e6]at hvm;generalize hQ:X.take i++(m++(X.drop i++List.replicate (a.length-i) 0).drop b.length)=Q at hr hg hset;have hw2:IntKind.wrap .i64 ((i:Int)+b.length)=((i+b.length:Nat):Int):=zab _ (by omega);have hlt:((i:Int)+b.length)<(a.length:Int)+b.length:=by omega
  simp at hr hg hset;refine⟨(i+1,X.take i++(m++[w32 c])),⟨h0,by simp only[Yam,e2,hm,Yc2];omega,?_⟩,by simp only;omega,?_⟩
  ·simp only;have e7:=zaj (X.take i) (X.drop i);rw[Ybb,e2]at e7;rw[zaj,e2,zaj,hm];simp only[zao,zbh,Yax,Yad,zah hc];rw[hvm,zaf hag,Ybz,<-hv,e7,Yas];rw[Yal];omega
  ·simp -implicitDefEqProofs[l61_1,Zku,h0,hw,hr,hw2,hlt,hg,hset]
 ·right;have:i=a.length:=by omega
  subst this;rw[Ya (Ye _)]at hv;refine⟨_,⟨X++List.replicate (a.length-a.length) 0,rfl,by simp;omega,by simp[hv]⟩,?_,?_⟩<;>simp -implicitDefEqProofs[l61_1,Zku]
end
section
variable{T:Tbl}[Z8 T]
def zc7(a b:List UInt32)(ha:a.length<=100000)(hb:b.length<=100000):Za T 61 [.sl (Zc a) .an,.sl (Zc b) .an]=some (.sl (Zc (ofN (val a*val b))) .an):=by
 obtain⟨_,⟨out,rfl,ho,hv⟩,hr⟩:=zz5 (T:=T) a b ha hb (0,List.replicate b.length 0) ⟨Yv _,by simp,by simp[zbq]⟩;unfold Zku at hr;simp at hr;have hw1:IntKind.wrap .i64 ((a.length:Int)+b.length)=(a.length:Int)+b.length:=zab _ (by omega);have hle:(a.length:Int)+b.length<=4294967296:=by omega
 have hn:=zbt (T:=T) out (by omega);rw[hv]at hn;have htk:List.take (a.length+b.length) out=out:=Ya (by omega);have he:b.length+a.length=a.length+b.length:=by omega
 rw[he]at hr;rw[zaa Z8.h61 rfl,b61];simp -implicitDefEqProofs[hw1,hle,hr,ho,htk,hn]
end
end Go.Ab