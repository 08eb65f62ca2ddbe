/-
  A calculus of values, boxes and code, and what functions of the program compute, proved in it.
  Conditions: none beyond those that the theorems state. (Part 11.)
-/
import Derived.Test.YtpkknnhpfhpbdaaGreatPart10

set_option linter.unusedSectionVars false
set_option linter.unusedVariables false
set_option linter.unusedSimpArgs false
set_option linter.unnecessarySimpa false
set_option linter.defProp false
set_option maxRecDepth 100000

namespace Go.Ab
section
def l529_0:AX:=QZ "9OBM1WtqUcSwUgTdK9OZ7yJjVJWPlZluHaMP9fZAapqfizX8Td8fUR"
def l529_1:AX:=QZ "2XeQUPibA4_IR7TZRuskMiYC.Uz3EkuFA.5.LfP5XAaePK06fjkjU"
def l529_2:AX:=QZ "b3me1YFK.25qZZxG4BWoNcYrW1LAlTEUmBHJ5B8arZxDmx4sPOYuAci5Uy1KIFIuhhUejR"
def b529:AX:=(fun p0 p1 p2=>QY [p0,p1,p2] [] "7nswdVd2cYhn9.19Hgoc6vk9bR1bVHIOVo5su.D001Rkl8PQAvoEMAezKKRMjIlTSW6HaRtPwcka3WmCPrtM1VCiRrnm1SH51A4u9PBNFGPDhHGfZp4ViRWHHqfEGPETpu2Al6c.bsmSY6Hf4GdXktJftNtlSCW7DIsZSniUCLsO6qYQJ.VlS6bQNO2QO5.ndxgOQ_7xiWqjATqbOb4SS1eSgBT79LK3zktke3H94wnshz7qF4iqwnPbcfzn4sb54pl0xWYzZywTVaFj4ehJbXB0KCb0xOkQcCoURACKuzYPxPNT3GqNLPdcgg9JgKZBWxeKqHtNkXya_H") l529_0 l529_1 l529_2
def l540_0:AX:=QZ "7QFkqTb0os22kmlA3yBUrMDQhztyWt7YAto0KeWRPFJOQZgdKJ9PF5j5LyY.Ye5b_SyQmWcOp1B3vgOb6fJw1tkuf2Q"
def b540:AX:=(fun p0=>QY [p0] [] "0TNnkvwHSleu81iBl") l540_0
def l541_0:AX:=QZ "0AMwiVlZgvbkCEOxVb.DYaGOR.4kXN8nuKvhZ3yjRL8qcfSPjR"
def b541:AX:=(fun p0=>QY [p0] [] "YhSw555AyhtMOzuVIjUoz2VaGXpRK0uC8p92s1Ifus1") l541_0
abbrev row529:AFx:=⟨1,123,[.t 2],b529,none,false⟩
abbrev row540:AFx:=⟨1,29,[.t 2],b540,none,false⟩
abbrev row541:AFx:=⟨1,19,[.cell 2 (some 3)],b541,none,false⟩
class Zc6 (T:Tbl):Prop where
 h529:Tr T 529=some row529
 h540:Tr T 540=some row540
 h541:Tr T 541=some row541
attribute [simp] Zc6.h529 Zc6.h540 Zc6.h541
end
section
def b508:AX:=QY [] [(AV.i .i64 (-1))] "0cppk3h6v.WG271A2cSKakQyWpjesVKnWMO_u8BVwYuVmZGixzwtBkk59DFfJy5ATcHiGaBM"
def b545:AX:=QZ "PR0oGby1x1n8XjgKqrujRpqznEUvMvov2SWve_4m8Awg"
abbrev row508:AFx:=⟨1,22,[.t 2],b508,none,false⟩
abbrev row545:AFx:=⟨3,13,[.cell 6 (some 5)],b545,none,false⟩
class Zdf (T:Tbl):Prop where
 h508:Tr T 508=some row508
 h545:Tr T 545=some row545
attribute [simp] Zdf.h508 Zdf.h545
end
section
def l530_0:AX:=QZ "0VxAZWf.pkH3qahqrM7TZiKL5HHINu3zPHwZ9xpznxtyDWVEFHzw_xFldvbNjyHDbeewbSdCIRQtdUAFecDtihJ4DfsL18EZaAGLnij1WPZnOw9rK9gYce6Mw4cJDdsild8aEqUBFxE7utmaUyLtHjmuj_j..C5fWqyUQmTwJUX6EY3fxa2ZRt_tRIMjuXmkwEMwIhPpXmaDtaQn2qxu5T_cLPyzOMoNPGaod2d2e_zgZeDKBfjmdYHdL6GrypNnAvVBCpGYXDlK5Qb8oxSVCzYFYnbtD8PvU"
def b530:AX:=(fun p0=>QY [p0] [] "HqdxEIzqJ34PPI9Gp5ENhWd_ukirwL2f0YEL1FCCEKxpCEUkoRH1rCPOVv0DVfzA7UjcVQGajb.8HxTFDNNemL3RZU5RjCRc2iYbICz7ZBNKjw8AuSay01H0HRBnEyHJo.0V9ECEax5df_OC83IL08O4pPo32C8dEDInxFwIyOtYtfX1d030TCvZ.ENF1eixfItcYCmAllXFnps0d7GCmQdKYBXpBhVT9F6Orxyp6a0tTNNZDIZQ8p6Y49Giqkbt6ZhJAuTbZjKv_EMOO5U7hqM.F024yvGJr_5UeWsCnHbrtIEHaeojDd8ckP_kwOgyEsUIvffE9Yp.AVvF1") l530_0
def l542_0:AX:=QZ "C1gYGQ_N5fDtMJVgQtqZ2iRzBgdeRXTkBbXOcyIEwQ7.WoQgTxZ9opJqfilSQYLCGO4x8gndvYV"
def b542:AX:=(fun p0=>QY [p0] [] "0SCo1keO9KB5u4TrwDNiBzYy8NWPtW_ukFC") l542_0
def l543_0:AX:=QZ "0gsSpjObzN4LmQbZWVwTncJ3HoPmc4yPHIA2z8j7xRm_tpofoBefzHjR"
def b543:AX:=(fun p0=>QY [p0] [] "Nh8AudZy22.77Z32hea.MwtN1") l543_0
def b546:AX:=QZ "2FgbdHJamTygtBwGSE2XQnqdFeZYBA93gS56tRzA.6LJwcccx"
def l548_0:AX:=QZ "01gbYDb_NFy1FvOGQ4XXKusTGmCNt8mcJVItM6VfahNZfcmE9hPl72nqNpMGUKHzYL780oRAHsQOydByhmBamRBEMVhVrV"
def b548:AX:=(fun p0=>QY [p0] [] "e7sumNlKJwno.BaaiJkqAw_1HgN3w") l548_0
def l557_0:AX:=QZ "kbywUOYS3ROYqAxWOJsrVfFhpyYC_Z7rbWzjB.NEd98GR8QSK3jkW2_d8qrwsG2sDde6WWEioztx9_qS2bzp4YT"
def b557:AX:=(fun p0=>QY [p0] [] "0B4a4Zhj0Opi2IPPFQk0HsfXJEWhPyBCuBWaeJZVYtp5WlQtZGE4DM4.xoR") l557_0
abbrev row530:AFx:=⟨4,150,[.cell 8 (some 4),.cell 9 (some 3)],b530,none,false⟩
abbrev row542:AFx:=⟨4,31,[.t 8],b542,none,false⟩
abbrev row543:AFx:=⟨2,22,[.t 4],b543,none,false⟩
abbrev row546:AFx:=⟨4,19,[.cell 8 (some 3)],b546,none,false⟩
abbrev row548:AFx:=⟨1,34,[.t 2],b548,none,false⟩
abbrev row557:AFx:=⟨4,41,[.cell 8 (some 3)],b557,none,false⟩
class Z1 (T:Tbl):Prop where
 h530:Tr T 530=some row530
 h542:Tr T 542=some row542
 h543:Tr T 543=some row543
 h546:Tr T 546=some row546
 h548:Tr T 548=some row548
 h557:Tr T 557=some row557
attribute [simp] Z1.h530 Z1.h542 Z1.h543 Z1.h546 Z1.h548 Z1.h557
end
section
def l522_0:AX:=QZ "2sdCxc.vEkcb4V0jD9vec.L0UChQ382FXwMjI4eaIL.JkMIDNStPM7mvXKJGXRfQnzxsgSBi3yQKtgwmXDyvJZZ.Qe8j2zHcBj2i9nLfvL_MV"
def b522:AX:=(fun p0=>QY [p0] [] "DNbeI6FdqjVePEI8i6GDH.xlMZ_KX1LXRnj6kQeotPOWb3Ua6HnGpXqUHGcPafUO.fiH4lubj1lt3") l522_0
abbrev row522:AFx:=⟨1,48,[.t 2,.t 3],b522,none,false⟩
class Zgn (T:Tbl):Prop where
 h522:Tr T 522=some row522
attribute [simp] Zgn.h522
end
section
def l502_0:AX:=QZ "HkNQ6p8OTQ4L_B7v6WrtF2121X3yhEMNv57jUb9VAuihGzwqKSEBoFh_JfLGO7i1yixJG50ntEOmtqjAKF62rdRcqNmFPWeXTE1X3Oem5YhfIXm7rgieoHCnEJWmE6ljeBso01wqTJ4LahakOAuS6n9Lr1Vt3INHw.lvOGxMq4c5C8sFLpi2eOn.dhgEFFGiPPPjT"
def b502:AX:=(fun p0=>QY [p0] [] "79.tNanq8G4E_w612iRtt60_R_9ijZD9QvP_OAPp5WtNBdNZumcf.RfJJ9J1blbNxZeEgdLydyPsozHyAl3") l502_0
def l521_0:AX:=QZ "1Ng3nUBGz1CgFHbh7EleBrky_szoo8t_JwfwcKW38lcIrz7OHIgB1_X_Ve6m5HoQhfGDXCDW6xMKrR"
def b521:AX:=(fun p0=>QY [p0] [] "Xgxn.PFStqrGPFzda5cdRGv7foLBg") l521_0
abbrev row502:AFx:=⟨1,53,[.cell 2 (some 5)],b502,none,false⟩
abbrev row521:AFx:=⟨1,28,[.t 2],b521,none,false⟩
class Zdn (T:Tbl):Prop where
 h502:Tr T 502=some row502
 h521:Tr T 521=some row521
attribute [simp] Zdn.h502 Zdn.h521
end
section
def l501_0:AX:=QZ "LWEvD7tEO7FrRJukdoYcz3SKDHE6nucbofG9eKQdPL0005M8YnRKxGMLEx9y5HVRZCTte2ebB8CwHNleFpHZ_RPFq01wPzV"
def b501:AX:=(fun p0=>QY [p0] [] "VYMu2V.sK3JpfAyjDkPyXzaWdUGuGOEL4P3o9jeVZFNBxlf6gAbLe19hnU.K.qQpF5LW1thEPoT3YLsOzCAROMolRRU05rB6LswxCQp4MliK9XZWufPLEAwDaqvC.") l501_0
def l505_0:AX:=QZ "7ZdJLnxDkU4V4AdvHTvkl38P3ufUIQRIn18GK.nQHXHyFqCoTW4zBDN_YQ"
def b505:AX:=(fun p0=>QY [p0] [] "J591j8FOKxv3kQz5qNPW576wboRUpLqNmEIxQ8KK_2SZpKuZgh2S1SeoRI5Gj4a9QTW267p4hLhu71MCaEacoPh3Tb.AMjT1LvhzDFKbbjKn4GaoQSGdc5UwMFkoW2") l505_0
def l509_0:AX:=QZ "6oKYtBX2yjnAFcgk9_NWCYrEDVUDHyoG4mt6L5mPdPA5YBqQiIhPTJxYPKIuzvWJgz15fNnLLZZp06HtZgDjGThr9xYeWmdFpIRHZGVxs6j7fIlnA4UyfBwSbboSLhniTszoLJ88jDeaqpYx7jvhY7ITU.0VKqotF69waAu8A0tkOUNTOVXhC2RLP8R6ECGm5RcdZLoWjMQMf5uSsaX0Gc5Egv9QI2R"
def b509:AX:=(fun p0=>QY [p0] [] "88MUhQKpiUnfY_qFTerXqgbyEX9rNTaUfvgUp8Di6TCzjD44w2pk_pzOSgFV3vyrBt.0PuffaDeiWEchfxnG5I8VzaGAqyBno7g_SU8gHMjKpqOCxKfD3sP3OPMY2HaO4.hT1y8EAWSg.") l509_0
def b520:AX:=QZ "2_I06rQSYJ_Pvq_jKBtz7E"
def l523_0:AX:=QZ "WCna6QVT29LPZEllGYCd4.UpyHA8MlW.57O89wCGqJa3cg5NsLuV3FuBNVF376PaSpnpSnR"
def b523:AX:=(fun p0=>QY [p0] [] "0ArLJwqKVo2Fidjrl3dYx0ZQe8XjVq") l523_0
abbrev row501:AFx:=⟨2,56,[.cell 4 (some 4)],b501,none,false⟩
abbrev row505:AFx:=⟨1,55,[.t 2],b505,none,false⟩
abbrev row509:AFx:=⟨4,82,[.t 8,.cell 9 (some 4)],b509,none,false⟩
abbrev row520:AFx:=⟨1,6,[.t 2],b520,none,false⟩
abbrev row523:AFx:=⟨2,26,[.t 4],b523,none,false⟩
class Zaz (T:Tbl):Prop where
 h501:Tr T 501=some row501
 h505:Tr T 505=some row505
 h509:Tr T 509=some row509
 h520:Tr T 520=some row520
 h523:Tr T 523=some row523
attribute [simp] Zaz.h501 Zaz.h505 Zaz.h509 Zaz.h520 Zaz.h523
end
section
open Go.RowKit
def opU:AOp->List Nat
 | .call u _=>[u]
 | .ifc k _=>[1000000+k]
 | .inv _ k u _ _=>[1000000+k,u]
 | .xop (.mkf k) _ | .xop (.mkv k) _=>[1000000+k]
 | _=>[]
def cXs:AX->List Nat
 | .reg l=>l.flatMap fun o=>opU o.op
 | .draw l=>l.flatMap fun o=>opU o.ao.op
 | .drawT hd tl=>(hd.flatMap fun o=>opU o.op)++tl.flatMap fun o=>opU o.op
 | .drawM hd tl=>(hd.flatMap fun o=>opU o.op)++tl.flatMap fun o=>opU o.op
 | .drawC l1 o l2 tl=>(l1.flatMap fun o=>opU o.op)++(opU o.op++((l2.flatMap fun o=>opU o.op)++tl.flatMap fun o=>opU o.op))
 | .drawN l1 o l2=>(l1.flatMap fun o=>opU o.ao.op)++(opU o.op++l2.flatMap fun o=>opU o.ao.op)
 | .drawR hd tl=>(hd.flatMap fun o=>opU o.op)++tl.flatMap fun o=>opU o.op
 | .drawP l1 o l2 _ _ _ _ _=>(l1.flatMap fun o=>opU o.ao.op)++(opU o.op++l2.flatMap fun o=>opU o.ao.op)
 | .seq a b=>cXs a++cXs b
 | .cond _ x y=>cXs x++cXs y
 | .block _ c | .loop c | .note c _ | .pre _ c | .scope c | .lp _ _ c _=>cXs c
 | .gsc _ c r=>cXs c++cXs r
 | _=>[]
structure Agr (R:Nat->Bool) (T T':Tbl) (O O':Orc):Prop where
 tbl:∀u,R u=true->T u=T' u
 call:∀u xs hb,R u=true->O.call u xs hb=O'.call u xs hb
 loop:∀k c st,(∀u∈cXs c,R u=true)->O.loop k c st=O'.loop k c st
section
variable{R:Nat->Bool}{T T':Tbl}{O O':Orc}
theorem zjf(h:Agr R T T' O O'){u:Nat}(hu:R u=true){xs:List AV}{d:Option Nat}{st:St}:Zbx O T u xs d st=Zbx O' T' u xs d st:=by
 unfold Zbx;rw[h.tbl u hu];simp only[h.call u _ _ hu]
def z6x(h:Agr R T T' O O'){op:AOp}(hu:∀u∈opU op,R u=true){d:Option Nat}{st:St}:opX O T op d st=opX O' T' op d st:=by
 cases op<;>simp only[opX]
 case call u args=>exact zjf h (hu _ (by simp[opU]))
 case ifc k x=>unfold Zf;rw[h.tbl _ (hu _ (by simp[opU]))]
 case inv nm k u r args=>
  have e1:Zf T k=Zf T' k:=by unfold Zf;rw[h.tbl _ (hu _ (by simp[opU]))]
  have e2:Za3 T k=Za3 T' k:=by unfold Za3;rw[h.tbl _ (hu _ (by simp[opU]))]
  have e3:Zio T k=Zio T' k:=by unfold Zio;rw[h.tbl _ (hu _ (by simp[opU]))]
  grind[zjf,opU]
 case xop k xs=>
  cases k<;>simp only
  all_goals rename_i k
  all_goals
   have e1:Zf T k=Zf T' k:=by unfold Zf;rw[h.tbl _ (hu _ (by simp[opU]))]
   rw[e1]
def zxx(h:Agr R T T' O O'){o:AO}(hu:∀u∈opU o.op,R u=true){st:St}:Zie O T o st=Zie O' T' o st:=by
 unfold Zie gX;simp only[z6x h hu]
theorem zfo(h:Agr R T T' O O'):∀(l:List AO),(∀o∈l,∀u∈opU o.op,R u=true)->∀st,Zey O T l st=Zey O' T' l st
 | [],_,st=>rfl
 | o::l,hu,st=>by
  simp only[Zey];rw[zxx h (hu o Yu)];congr 1
  funext s
  exact zfo h l (fun o ho=>hu o (Yn _ ho)) s
def z6y(h:Agr R T T' O O'){op:AOp}(hu:∀u∈opU op,R u=true){e:Env}{hp:Heap}{older:List Heap}:opD O T op e hp older=opD O' T' op e hp older:=by
 by_cases hap:∃z x0 y,op=.app z x0 y
 ·obtain⟨z,x0,y,rfl⟩:=hap;by_cases hc:x0=.c (.sl [] .nl)
  ·subst hc;rfl
  ·rw[zq0 hc,zq0 hc]
 cases op<;>(try exact absurd ⟨_,_,_,rfl⟩ hap)<;>simp only[opD]
 case call u args=>
  rw[h.tbl _ (hu _ (by simp[opU]))];simp only[h.call _ _ _ (hu _ (show u∈_ by simp[opU]))]
 case ifc k x=>unfold Zf;rw[h.tbl _ (hu _ (by simp[opU]))]
 case inv nm k u r args=>
  have e1:Zf T k=Zf T' k:=by unfold Zf;rw[h.tbl _ (hu _ (by simp[opU]))]
  have e2:Za3 T k=Za3 T' k:=by unfold Za3;rw[h.tbl _ (hu _ (by simp[opU]))]
  rw[e1,e2,h.tbl u (hu u (by simp[opU]))];simp only[h.call u _ _ (hu u (by simp[opU]))]
def zjg(h:Agr R T T' O O'){o:AO}(hu:∀u∈opU o.op,R u=true){e:Env}{hp:Heap}{older:List Heap}:qX O T o e hp older=qX O' T' o e hp older:=by
 unfold qX;simp only[z6y h hu]
def zoo(h:Agr R T T' O O'){u:Nat}(hu:R u=true){ys:List AV}:Zee O T u ys=Zee O' T' u ys:=by
 unfold Zee;rw[h.tbl u hu];simp only[h.call u _ _ hu]
theorem zjh(h:Agr R T T' O O'):∀(l:List DO),(∀o∈l,∀u∈opU o.ao.op,R u=true)->∀e hp clk older pend,Zci O T l e hp clk older pend=Zci O' T' l e hp clk older pend
 | [],_,e,hp,clk,older,pend=>rfl
 | o::l,hu,e,hp,clk,older,pend=>by
  have ih:=zjh h l (fun o ho=>hu o (Yn _ ho));simp only[Zci];rw[zjg h (hu o Yu)];simp only[ih];cases o.ao.op.writes with
  | true=>rfl
  | false=>
   cases hrow:Zhd o.ao.guard o.ao.op.callN e hp (older.take (older.length-o.lo)) with
   | none=>rfl
   | some p=>
    obtain⟨_,args,hop,_⟩:=zgw hrow;have hp:R p.1=true:=hu o Yu _ (by rw[hop];simp[opU]);simp only[zoo h hp]
theorem zop(h:Agr R T T' O O')(tl:List AO)(ht:∀o∈tl,∀u∈opU o.op,R u=true):∀(l:List AO),(∀o∈l,∀u∈opU o.op,R u=true)->∀e hp clk,Zdi O T tl l e hp clk=Zdi O' T' tl l e hp clk
 | [],_,e,hp,clk=>zfo h tl ht _
 | o::l,hu,e,hp,clk=>by
  have ih:=zop h tl ht l (fun o ho=>hu o (Yn _ ho));simp only[Zdi];rw[zjg h (hu o Yu)];simp only[ih];cases hrow:Zhd o.guard o.op.callN e hp []with
  | none=>rfl
  | some p=>
   obtain⟨_,args,hop,_⟩:=zgw hrow;have hp:R p.1=true:=hu o Yu _ (by rw[hop];simp[opU]);simp only[zoo h hp]
theorem zoq(h:Agr R T T' O O')(tl:List AO)(ht:∀o∈tl,∀u∈opU o.op,R u=true):∀(l:List AO),(∀o∈l,∀u∈opU o.op,R u=true)->∀e hp clk,Zfp O T tl l e hp clk=Zfp O' T' tl l e hp clk
 | [],_,e,hp,clk=>zfo h tl ht _
 | o::l,hu,e,hp,clk=>by
  have ih:=zoq h tl ht l (fun o ho=>hu o (Yn _ ho));simp only[Zfp];rw[zjg h (hu o Yu)];simp only[ih]
def zxy(h:Agr R T T' O O'){u:Nat}(hu:R u=true){xs:List AV}{d clk:Nat}:Zg6 O T u xs d clk=Zg6 O' T' u xs d clk:=by
 unfold Zg6;rw[h.tbl u hu];simp only[h.call u _ _ hu]
theorem zor(h:Agr R T T' O O')(tl:List AO)(ht:∀o∈tl,∀u∈opU o.op,R u=true)(h0:Heap)(c0:Nat)(X:Heap):∀(l:List AO),(∀o∈l,∀u∈opU o.op,R u=true)->∀e hp clk,Zbo O T tl h0 c0 X l e hp clk=Zbo O' T' tl h0 c0 X l e hp clk
 | [],_,e,hp,clk=>zfo h tl ht _
 | o::l,hu,e,hp,clk=>by
  have ih:=zor h tl ht h0 c0 X l (fun o ho=>hu o (Yn _ ho));simp only[Zbo];rw[zjg h (hu o Yu)];simp only[ih];cases hm:o.op.maker with
  | true=>rfl
  | false=>
   cases hst:o.op.isStore with
   | true=>rfl
   | false=>
   cases hl:o.op.lentN with
   | none=>rfl
   | some ua=>
    have hua:R ua.1=true:=hu o Yu _ (by rw[zlq hl];simp[opU]);simp only[zxy h hua]
theorem zij(h:Agr R T T' O O'){K K':Env->Zay->Option St}(hK:∀e pend,K e pend=K' e pend)(hp:Heap):∀(l:List DO),(∀o∈l,∀u∈opU o.ao.op,R u=true)->∀e pend,Zer O T K hp l e pend=Zer O' T' K' hp l e pend
 | [],_,e,pend=>hK e pend
 | o::l,hu,e,pend=>by
  have ih:=zij h hK hp l (fun o ho=>hu o (Yn _ ho));simp only[Zer];rw[zjg h (hu o Yu)];simp only[ih]
theorem zos(h:Agr R T T' O O'){K K':Env->Option St}(hK:∀e,K e=K' e)(h0 h1:Heap):∀(l:List AO),(∀o∈l,∀u∈opU o.op,R u=true)->∀e,Zd2 O T K h0 h1 l e=Zd2 O' T' K' h0 h1 l e
 | [],_,e=>hK e
 | o::l,hu,e=>by
  have ih:=zos h hK h0 h1 l (fun o ho=>hu o (Yn _ ho));simp only[Zd2];rw[zjg h (hu o Yu)];simp only[ih]
def zji(h:Agr R T T' O O'){o:AO}(hu:∀u∈opU o.op,R u=true){st:St}:Zf6 O T o st=Zf6 O' T' o st:=by
 obtain⟨d,g,op⟩:=o;cases op
 case call u args=>
  cases g<;>cases d<;>simp only[Zf6];exact zjf h (hu u (by simp[opU]))
 all_goals cases g<;>cases d<;>rfl
def zxz(h:Agr R T T' O O')(l1:List AO)(o:AO)(l2 tl:List AO)(hu:∀u∈cXs (.drawC l1 o l2 tl),R u=true)(st:St):Zig O T l1 o l2 tl st=Zig O' T' l1 o l2 tl st:=by
 have u1:∀o∈l1,∀u∈opU o.op,R u=true:=fun o ho u hou=>hu u (Y5 _ (Yai.2 ⟨o,ho,hou⟩));have u2:∀u∈opU o.op,R u=true:=fun u hou=>hu u (Y2 _ (Y5 _ hou));have u3:∀o∈l2,∀u∈opU o.op,R u=true:=fun o ho u hou=>hu u (Y2 _ (Y2 _ (Y5 _ (Yai.2 ⟨o,ho,hou⟩))));have u4:∀o∈tl,∀u∈opU o.op,R u=true:=fun o ho u hou=>hu u (Y2 _ (Y2 _ (Y2 _ (Yai.2 ⟨o,ho,hou⟩))));unfold Zig;refine zij h (fun e pend=>?_) _ _ (fun o ho=>?_) _ _
 ·rw[zji h u2];congr 1
  funext s
  rw[zos h (fun e=>zfo h tl u4 _) _ _ l2 u3]
 ·obtain⟨o',ho',rfl⟩:=Yl.1 ho;exact u1 o' ho'
def zx0(h:Agr R T T' O O')(l1:List DO)(o:AO)(l2:List DO)(hu:∀u∈cXs (.drawN l1 o l2),R u=true)(st:St):Zih O T l1 o l2 st=Zih O' T' l1 o l2 st:=by
 have u1:∀o∈l1,∀u∈opU o.ao.op,R u=true:=fun o ho u hou=>hu u (Y5 _ (Yai.2 ⟨o,ho,hou⟩));have u2:∀u∈opU o.op,R u=true:=fun u hou=>hu u (Y2 _ (Y5 _ hou));have u3:∀o∈l2,∀u∈opU o.ao.op,R u=true:=fun o ho u hou=>hu u (Y2 _ (Y2 _ (Yai.2 ⟨o,ho,hou⟩)));unfold Zih;congr 1;refine zij h (fun e pend=>?_) _ _ (fun o ho=>?_) _ _
 ·rw[zji h u2];congr 1
  funext s
  rw[zjh h _ fun o ho=>?_];obtain⟨o',ho',rfl⟩:=Yl.1 ho;exact u3 o' ho'
 ·obtain⟨o',ho',rfl⟩:=Yl.1 ho;exact u1 o' ho'
theorem zot(h:Agr R T T' O O'){K K':Env->Option St}(hK:∀e,K e=K' e)(hs:List Heap)(h1:Heap):∀(l:List AO),(∀o∈l,∀u∈opU o.op,R u=true)->∀e,Zes O T K hs h1 l e=Zes O' T' K' hs h1 l e
 | [],_,e=>hK e
 | o::l,hu,e=>by
  have ih:=zot h hK hs h1 l (fun o ho=>hu o (Yn _ ho));simp only[Zes];rw[zjg h (hu o Yu)];simp only[ih]
def zx1(h:Agr R T T' O O')(l1:List DO)(o:AO)(l2:List DO)(da:Nat)(cs:List AV)(n:Nat)(xs vs:Opd)(hu:∀u∈cXs (.drawP l1 o l2 da cs n xs vs),R u=true)(st:St):Zg7 O T l1 o l2 da cs n xs vs st=Zg7 O' T' l1 o l2 da cs n xs vs st:=by
 have u1:∀o∈l1,∀u∈opU o.ao.op,R u=true:=fun o ho u hou=>hu u (Y5 _ (Yai.2 ⟨o,ho,hou⟩));have u2:∀u∈opU o.op,R u=true:=fun u hou=>hu u (Y2 _ (Y5 _ hou));have u3:∀o∈l2,∀u∈opU o.ao.op,R u=true:=fun o ho u hou=>hu u (Y2 _ (Y2 _ (Yai.2 ⟨o,ho,hou⟩)));unfold Zg7;congr 1;refine zij h (fun e pend=>?_) _ _ (fun o ho=>?_) _ _
 ·simp only[zji h u2];congr 1
  funext s1
  congr 1
  funext s2
  rw[zot h (fun e=>rfl) _ _ _ fun o ho=>?_];obtain⟨o',ho',rfl⟩:=Yl.1 ho;exact u3 o' ho'
 ·obtain⟨o',ho',rfl⟩:=Yl.1 ho;exact u1 o' ho'
theorem zct(h:Agr R T T' O O')(k:Nat):∀(c:AX),(∀u∈cXs c,R u=true)->∀st,evX O T k c st=evX O' T' k c st
 | .skip,_,st=>rfl
 | .reg l,hu,st=>by
  simp only[evX];rw[zfo h l fun o ho u hou=>hu u (Yai.2 ⟨o,ho,hou⟩)]
 | .draw l,hu,st=>by
  simp only[evX];rw[zjh h l fun o ho u hou=>hu u (Yai.2 ⟨o,ho,hou⟩)]
 | .drawT hd tl,hu,st=>by
  simp only[evX];rw[zoq h tl (fun o ho u hou=>hu u (Y2 _ (Yai.2 ⟨o,ho,hou⟩))) hd (fun o ho u hou=>hu u (Y5 _ (Yai.2 ⟨o,ho,hou⟩)))]
 | .drawM hd tl,hu,st=>by
  simp only[evX];rw[zor h tl (fun o ho u hou=>hu u (Y2 _ (Yai.2 ⟨o,ho,hou⟩))) _ _ _ hd (fun o ho u hou=>hu u (Y5 _ (Yai.2 ⟨o,ho,hou⟩)))]
 | .drawC l1 o l2 tl,hu,st=>by
  simp only[evX];rw[zxz h l1 o l2 tl hu]
 | .drawN l1 o l2,hu,st=>by
  simp only[evX];rw[zx0 h l1 o l2 hu]
 | .drawR hd tl,hu,st=>by
  simp only[evX];rw[zop h tl (fun o ho u hou=>hu u (Y2 _ (Yai.2 ⟨o,ho,hou⟩))) hd (fun o ho u hou=>hu u (Y5 _ (Yai.2 ⟨o,ho,hou⟩)))]
 | .drawP l1 o l2 da cs n xs vs,hu,st=>by
  simp only[evX];rw[zx1 h l1 o l2 da cs n xs vs hu]
 | .bad,_,st=>rfl
 | .prim f,_,st=>rfl
 | .seq a b,hu,st=>by
  simp only[evX];rw[zct h k a fun u hm=>hu u (Y5 _ hm)];congr 1
  funext r
  rw[zct h k b fun u hm=>hu u (Y2 _ hm)]
 | .cond c x y,hu,st=>by
  simp only[evX];rw[zct h k x fun u hm=>hu u (Y5 _ hm),zct h k y fun u hm=>hu u (Y2 _ hm)]
 | .block id c,hu,st=>by
  simp only[evX];rw[zct h k c hu]
 | .loop c,hu,st=>h.loop k c st hu
 | .exit id,_,st=>rfl
 | .ret,_,st=>rfl
 | .note c g,hu,st=>by
  simp only[evX];rw[zct h k c hu]
 | .pre g c,hu,st=>by
  simp only[evX];congr 1
  funext s
  exact zct h k c hu s
 | .scope c,hu,st=>by
  simp only[evX];rw[zct h k c hu]
 | .label _,_,st=>rfl
 | .goto _,_,st=>rfl
 | .gsc l c r,hu,st=>by
  simp only[evX];rw[zct h k c fun u hm=>hu u (Y5 _ hm)];congr 1
  funext s
  exact zct h k r (fun u hm=>hu u (Y2 _ hm)) s
 | .lp id g c g2,hu,st=>by
  simp only[evX,h.loop k c _ hu]
def zx2(hc:∀u af,R u=true->T u=some af->∀v∈cXs af.body,R v=true)(h:Agr R T T' O O'):Agr R T T' (Zef T O) (Zef T' O') where
 tbl:=h.tbl
 call u xs hb hu:=by
  simp only[Zef];rw[<-h.tbl u hu];cases ht:T u with
  | none=>rfl
  | some af=>
   grind[zct]
 loop k c st hu:=by
  simp only[Zef];rw[zct h k c hu];congr 1
  funext r
  rw[h.loop k c _ hu]
theorem zmw(ht:∀u,R u=true->T u=T' u)(hc:∀u af,R u=true->T u=some af->∀v∈cXs af.body,R v=true):∀n,Agr R T T' (orcN T n) (orcN T' n)
 | 0=>⟨ht,fun _ _ _ _=>rfl,fun _ _ _ _=>rfl⟩
 | n+1=>zx2 hc (zmw ht hc n)
def z6z(ht:∀u,R u=true->T u=T' u)(hc:∀u af,R u=true->T u=some af->∀v∈cXs af.body,R v=true):Agr R T T' (orc T) (orc T'):=by
 refine⟨ht,fun u xs hb hu=>?_,fun k c st hu=>?_⟩
 ·simp only[orc];congr 1
  funext n
  exact(zmw ht hc n).call u xs hb hu
 ·simp only[orc];congr 1
  funext n
  exact(zmw ht hc n).loop k c st hu
end
def zeo{l:List (Nat×AFx)}{u:Nat}{af:AFx}(h:l.lookup u=some af):(u,af)∈l:=by
 induction l with
 | nil=>cases h
 | cons q l ih=>
  grind
structure Part (l l':List (Nat×AFx)):Prop where
 sub:∀p∈l',l.lookup p.1=some p.2
 clo:(l'.all fun p=>(cXs p.2.body).all fun v=>(l'.lookup v).isSome || (l.lookup v).isNone)=true
def Part.agr{l l':List (Nat×AFx)}(h:Part l l'):Agr (fun u=>(l'.lookup u).isSome || (l.lookup u).isNone) (fun u=>l.lookup u) (fun u=>l'.lookup u) (orc fun u=>l.lookup u) (orc fun u=>l'.lookup u):=by
 refine z6z (fun v hv=>?_) (fun v a hv hva w hw=>?_)
 ·cases hv2:l'.lookup v with
  | none=>
   cases hv3:l.lookup v with
   | none=>rfl
   | some a=>grind
  | some a=>exact h.sub _ (zeo hv2)
 ·cases hv2:l'.lookup v with
  | none=>grind
  | some b=>
   have hb:=zeo hv2;have h1:=h.sub _ hb;rw[hva]at h1;cases h1;exact Yo.1 (Yo.1 h.clo _ hb) w hw
def Part.ev{l l':List (Nat×AFx)}(h:Part l l'){c:AX}(hc:((cXs c).all fun v=>(l'.lookup v).isSome)=true){st:St}{r:Option (Ex×St)}
  (he:evX (orc fun u=>l.lookup u) (fun u=>l.lookup u) 0 c st=r):evX (orc fun u=>l'.lookup u) (fun u=>l'.lookup u) 0 c st=r:=by
 rw[<-zct h.agr 0 c (fun v hv=>by grind) st];omega
def Part.call{l l':List (Nat×AFx)}(h:Part l l'){u:Nat}(hu:(l'.lookup u).isSome=true){xs:List AV}{r:Option AV}(he:Za (fun u=>l.lookup u) u xs=r):Za (fun u=>l'.lookup u) u xs=r:=by
 rw[<-he];unfold Za;rw[h.agr.call u xs [] (by grind)]
end
end Go.Ab