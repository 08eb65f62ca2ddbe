/-
  A calculus of values, boxes and code, and what functions of the program compute, proved in it.
  Conditions: none beyond those that the theorems state. (Part 8.)
-/
import Derived.Test.YtmojeopgpabkhaaGreatDoorPart7

set_option linter.unusedSectionVars false
set_option linter.unusedVariables false
set_option linter.unusedSimpArgs false
set_option linter.unnecessarySimpa false
set_option linter.defProp false
set_option maxRecDepth 100000

namespace Go.Ab
section
def l646_0:AX:=QZ "5hsoxd_guvFyqGiAZU_zYpfjHLqi1aBEYWrO2wYlXWIAe"
def b646:AX:=(fun p0=>QY [p0] [] "8JBZXCY4ovJBOm8fayD7hC5G3aBVeoXPK6X4nBSKRLJrk_6u0VQ0hlzge1PuhIme_OXlrz1PyZlaoDmK235ROaOGo5dr_rbHWJ41y.K.Ft6WmXyzUKPk_xc8EBsGc5DF7LPAqKL3ThObGM5T7wJs_6HA5VCbGyywYzqqUbznXXqtDJX8KW5yd9AVGhhWcZqaDYiBl7fw5uQzcf3t0ICSSvoMq3aX9X3figRhJZlZ2Ll8J3SsyMUdxpdfqPa4oCdfZy") l646_0
def b647:AX:=QY [] [(AV.raw (.pointer none)),(AV.raw (.map none))] "qZCa8jKWhG_3yIcN4ZbjoA3ga"
def l648_0:AX:=QZ "05fxXWEi405m7fjVMslXoG3EwXElCnU1GK36kXMjRvxfYk7G2T_jWhUlQuVdOrHhCzxHIxqjySz.teH4WMTCEXHGE0doJfOqPtNYO14BZfQoXEq0bR1mvc"
def b648:AX:=(fun p0=>QY [p0] [] "_r32WsgWtXbApb3isGtEwdEIBLEOSTpK_CocTBQ") l648_0
def b649:AX:=QZ "K5a9QcNAZEiikamigCHtyvflHxYwaWTQGjXT3LRwMTaunLGBdLSJn2SAPBfTa_uoF23s75R0TtWcQBbtHE4cK6EE9dO6ycTwkB1mQYvNCtg1w.gFYmJBmylDi.e3uyPMQOwc1HhD2c4RdnI69iXa3b9jYL1Nsheaw5bZYri9BRaSdpHxLu6cOinbS2Cv6_5vP49iIYsR4uS.RL2aNn"
def b650:AX:=QZ "7l3M50I3IfQS3uYfNePrEoi_mFH1bxx4Ta6aLao6P2g.szVuH.Tq0XPEcu82fnC2mE2iuLxOm0cSCqIZzawcdshe6FEXcJ..XJ6MJK6TCs9xyQvAPcrdvLWrPG6k0udhIr2Z3MYUaIBKC0Eeolrv8.27m6ePFWCH7j.EQ1Ux.W7ePLJcAdMAdujkVmsePj02yIZPd71hudwt4"
def b651:AX:=QZ "0cOFTNYQu8QSr74yTyDA.VpdpZOTDDq8UySCJaLT4tKxFIG14KRHOjJZ1kdCOf_AZeuLuoHWLVzqu2doeG0CoJUgIV2JbjtLvkEkebD4zvVFRcPWdipm.hc3cvrCQZzNwnrbCZOAJsu"
abbrev row646:AFx:=⟨3,65,[.cell 6 (some 4),.cell 7 (some 4)],b646,none,false⟩
abbrev row647:AFx:=⟨0,4,[.t 0],b647,(some []),true⟩
abbrev row648:AFx:=⟨2,44,[.t 4],b648,(some [true,false]),false⟩
abbrev row649:AFx:=⟨3,63,[.t 6],b649,(some [true,false,true]),false⟩
abbrev row650:AFx:=⟨2,61,[.t 4],b650,(some [true,false]),false⟩
abbrev row651:AFx:=⟨1,27,[.cell 2 (some 6)],b651,none,false⟩
class Zbs (T:Tbl):Prop where
 h646:Tr T 646=some row646
 h647:Tr T 647=some row647
 h648:Tr T 648=some row648
 h649:Tr T 649=some row649
 h650:Tr T 650=some row650
 h651:Tr T 651=some row651
attribute [simp] Zbs.h646 Zbs.h647 Zbs.h648 Zbs.h649 Zbs.h650 Zbs.h651
end
section
def b290:AX:=QZ "qFrEpu2Bvsl7rmc8KN6C5KB8StTZwMv0E"
def l291_0:AX:=QZ "0Sh3XXLY40W1BDJ_GNuRCYPARF9K_dXM6aaYrPctEwXWBpU.kShH026_"
def b291:AX:=(fun p0=>QY [p0] [] "60Stfr.7VZpk1zjE.GdxRu") l291_0
def l293_0:AX:=QZ "DEtvLZsTCMHC69StylfcLnt442GMYdVYfY_c7uFWUcLOp_MSZjhVclg1MOLXrF2c"
def b293:AX:=(fun p0=>QY [p0] [] "0w1v9GUIAJTaHqquvxA5I_IKK9NsX3hD1oYGAR61NRh") l293_0
def l294_0:AX:=QZ "SbCm1x6l43oVj.YQWhE6laIdIkW.34pfcwX9OjeVa.oX9FuFA98FHg7RAXTJhdcnZ.rc"
def l294_1:AX:=(fun p0=>QY [p0] [] "Hyw8AmR44WtSwlupS4VSjbl99vG6KLuTLPE6rtzEj8QL24yCQqwss1coxeqYOPWY_bhQJCfRgcjn2_") l294_0
def b294:AX:=(fun p0=>QY [p0] [] "iBkWlInGnlf1_WGEJHcJ6BTW2B66zhWcdAvTjyIZFU0XPCLlmTdyBU") l294_1
abbrev row290:AFx:=⟨1,10,[.t 2],b290,none,false⟩
abbrev row291:AFx:=⟨1,17,[.t 2],b291,none,false⟩
abbrev row293:AFx:=⟨2,27,[.t 4],b293,none,false⟩
abbrev row294:AFx:=⟨1,37,[.t 2],b294,none,false⟩
class Zer (T:Tbl):Prop where
 h290:Tr T 290=some row290
 h291:Tr T 291=some row291
 h293:Tr T 293=some row293
 h294:Tr T 294=some row294
attribute [simp] Zer.h290 Zer.h291 Zer.h293 Zer.h294
end
section
def l397_0:AX:=QZ "An9_PuN9MAK_bVc.u8LRFoodl8y7jGyB1WsPe_FxOVcAksE3AUrWQ68xPTFLGuKrd"
def l397_1:AX:=QZ "7NES3yHfmZc_SVfT8IYGAIP3ZrI_edVc_ID9s..juITKHJP3Lhc1a..msn7lNsvGd5VgTG0hdrhMmxAOJzoq2J5bl94uwoo_fa"
def b397:AX:=(fun p0 p1=>QY [p0,p1] [] "W.hPCZEEuX0WyS.Nv1Nq24Ucaa2eQ5EBbpJsAWesnZeo3A2TC4M3JJE5OUr1wH3Mh_f6phi.rftgosAi86AyxtK6PcT..OXEX1bTfamBDTjMMMffZHiLOmBoE0GvDcxh2XX.bAsK3ZVIA5mGnRsF_xoNolnmDKaDYdZNDRunatgyg8sV4aPVGD6YJxI97wwovd7ijgm4uWfZB.VQluYOBHWsaJByJRYNS5VMe4qeGGASg9BKIObT6d5wytJPUrxGLv7h3VEwTUXg2oiABOrhlbef8mNYBPf9wLuLWucs6cdgPdajzcK1NP51cSXKuAPObjeb7TpzxbkkyusU3UUmhbCHrSGQItAqOuQnTleWdSPksWGsyCY7ainbINBh55ybiBv") l397_0 l397_1
def b410:AX:=QZ "0GwZQ6Z17YIk_jQLUIz_K98RgCqMPapzMGVXiWrXs3"
def b412:AX:=(fun p0=>QY [p0] [] "3QTZjVvfqrZPR2YjK9Og5eSv0AzFGcb4dpG2AVL0b2zM348ef1mJjRF8Ehu5srVJE4z4vvrwVVa_uv6QpRmEgtVo.DjLMZlN.s1RVyNMk6gBd46") (QZ "aHWTbwl3166ASKj8te3hHXeabC5DlTLPvgDg42.0gmzDB.v5MSF8Ajr.hc1al_Tuz5V25Vb.DH0gqFFyI8nozblmE8iFa6SJiVgjchzi5NIOug4aGI3XWaM0_pxMdtV.atIvYBVOd60KaAH7fR31WZKYd0qPPaCawMMVTSD23VLXTL.wk9Tv52hvL5fqxa7UytpflPVdusTNcaabnhPZJX6EHsJD1J_3Oln55EITAuECDeZNJ9QwIwzEywoStybzlTFo1YBchpdTSbrehaS6dcvtB_TMnYC6H.aI3hgDx7kl.i5a_XDCJKMdDWU9w0zu9V1OU9GL0ZM6O4Fb.gcdYabyulmAe4DYNEwi4odhQMmnTlH6T53jAfE8FSyp_ASaYU63VcegBLMPrEyNEXyk_J")
def b414:AX:=QZ "12.crW5k9ZXyj6DwhT1Y5qPLWXQz8CflGXQBS5iUmRwVm"
def b427:AX:=QZ "01OGstsWS0IZoIgI3Q7DkqSlJaj1qWoKiNs8Ak2SObiGt2Ita8iY1sjLCMYRoTIxbE0xYekg_nLnD7IMIwaTOpqN1dyxidO3r9m5tX11OdI.UcougO"
def b428:AX:=QZ "04ABF5TPd1JXgOur5R1MKOyKdVW9tGI0DgEZ4ptzy8dBNsAiqRlSiAZCtgYcrdZzThipipRbAqPN61y7pw8HQoCTZBB3Jq0JffhN3QsshkXzo.YntlteTy_5Ebj1hVWQusre59tolUFHxIdxlgo8_i8p2SjeE.4yTMUID8.BWuIbhpyJA1CVLHnw0p_CLwaQC7K3u"
def b2395:AX:=QZ "05XpsNCe98Lk0wPrLAcOooalGz92MiHEohJ7AFNlG"
abbrev row397:AFx:=⟨4,115,[.cell 8 (some 5),.cell 9 (some 4)],b397,none,false⟩
abbrev row410:AFx:=⟨3,21,[],b410,(some [true,false,false]),false⟩
abbrev row412:AFx:=⟨2,170,[],b412,(some [true,false]),false⟩
abbrev row414:AFx:=⟨1,14,[.t 2],b414,none,false⟩
abbrev row427:AFx:=⟨4,36,[],b427,(some [true,false,false,false]),false⟩
abbrev row428:AFx:=⟨4,57,[],b428,(some [true,false,false,false]),false⟩
abbrev row2395:AFx:=⟨2,11,[.cell 4 (some 5)],b2395,(some [false,false]),false⟩
class Zai (T:Tbl):Prop where
 h397:Tr T 397=some row397
 h410:Tr T 410=some row410
 h412:Tr T 412=some row412
 h414:Tr T 414=some row414
 h427:Tr T 427=some row427
 h428:Tr T 428=some row428
 h2395:Tr T 2395=some row2395
attribute [simp] Zai.h397 Zai.h410 Zai.h412 Zai.h414 Zai.h427 Zai.h428 Zai.h2395
end
@[simp] def zaep{f:Nat}{id:BId}{g z i o:Nat}{h:Heap}{clk:Nat}(hf:f≠0):Zmj f (.ptr id g z i o) h clk=some (.fnp f id g z i o,h,clk):=by
 show (if f≠0 then some (AV.fnp f id g z i o,h,clk) else none)=_
 rw[if_pos hf]
def ziv{T:Tbl}{k t u:Nat}(h0:t≠0)(h:T (1000000+k)=some ⟨t,u,[],.bad,none,false⟩):Zft T k=some u:=by
 unfold Zft
 rw[h]
 simp[AX.isBad,h0]
class Zdl (T:Tbl):Prop where
 h1500424:∃t,t≠0/\T 1500424=some ⟨t,424,[],.bad,none,false⟩
class Ze7 (T:Tbl):Prop where
 h1500416:∃t,t≠0/\T 1500416=some ⟨t,416,[],.bad,none,false⟩
class Ze8 (T:Tbl):Prop where
 h1500418:∃t,t≠0/\T 1500418=some ⟨t,418,[],.bad,none,false⟩
section
variable{T:Tbl}
@[simp] def zarz[Zdl T]:¬ Zf T 500424=0:=zyp (u:=424) (by
 obtain⟨t,h0,ht⟩:=Zdl.h1500424 (T:=T)
 exact ziv h0 ht)
@[simp] def zauv[Zdl T]:Zft T 500424=some 424:=by
 obtain⟨t,h0,ht⟩:=Zdl.h1500424 (T:=T)
 exact ziv h0 ht
@[simp] def zauw[Ze7 T]:Zft T 500416=some 416:=by
 obtain⟨t,h0,ht⟩:=Ze7.h1500416 (T:=T)
 exact ziv h0 ht
@[simp] def zaux[Ze8 T]:Zft T 500418=some 418:=by
 obtain⟨t,h0,ht⟩:=Ze8.h1500418 (T:=T)
 exact ziv h0 ht
end
end Go.Ab