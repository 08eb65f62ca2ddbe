/-
  A calculus of values, boxes and code, and what functions of the program compute, proved in it.
  Conditions: none beyond those that the theorems state. (Part 6.)
-/
import Derived.Test.YthhddiiohgfamaaGreatDoorPart5

set_option linter.unusedSectionVars false
set_option linter.unusedVariables false
set_option linter.unusedSimpArgs false
set_option linter.unnecessarySimpa false
set_option linter.defProp false
set_option maxRecDepth 100000

namespace Go.Ab
section
def l275_0:AX:=QZ "x9YkKimFcRwbVtkRrgLKR9_qNsugkIXeCRhQzxJTLCPAdUiXW_S4iEyg_JtXzzh2ZinAkmgRjoCxu8.0tihvPeL6JPiYbisHpvuioSUU0IfJruemt2iCgYQopuUd7Z85HdQPrwokIVth_Kp63N00Hv4f7GROXnX"
def b275:AX:=(fun p0=>QY [p0] [(AV.s [44])] "06bUI9TtnTS7JWqAOkmq_bOZdsqGMFIVQpSXD6vtIHdxh7d5x4r_MEGPvS6nKCs8xNSIgfJUHTUIci5lPW7JxzLJ4BZc") l275_0
abbrev row275:AFx:=⟨1,46,[.t 2,.cell 3 (some 4)],b275,none,false⟩
class Ze3 (T:Tbl):Prop where
 h275:Tr T 275=some row275
attribute [simp] Ze3.h275
end
section
def l513_0:AX:=QZ "lkRBlG__mgXfw4dEofZEBLmjpxkkAMMDRU.hFNV81Qrz0ue3YSq3B407L4CawmqMfMFQOxpIiVBRrHUwRCj4Y8Goj5RsS7XyYiAY"
def b513:AX:=(fun p0=>QY [p0] [] "8XDkra6YWgKrAp9eupS9QV3m0I1GMdbGblqG3tlW2cK2KfmNOGfvoEgsYfac8s0ADxsitbcxSKcr751qIJ4VoZ") l513_0
def l532_0:AX:=QZ "I.Z94920_LUTPMm2xxuQjh1.SDGmEanCoUOQTD6NjHPh4Wle1D5lUmuByBbuaAAD_IdT3joAhRcsqICznVl2VHJEtAUVTaDmrY3e.YWHwF9vFy6u_Z_gdBFcUgOXZPOL0xrjwALszbOZQD0oCqe6pG616Y2b5GLhKd80CscvLftbNvL6j94zU"
def b532:AX:=(fun p0=>QY [p0] [] "VS2CzhomTuXn5lZ5kv.jsHJAKvWT6vSDu5dImG0") l532_0
def b533:AX:=QZ "HhcCOUUfSKktsYvRREQcf"
def b549:AX:=QZ "RWyOXrEv9ZbeUlpGhYhe3osymk9ZXa_eV9JdWWfzJe"
def b576:AX:=QZ "Hwhh2fHILigKrPx90_344"
def b579:AX:=QZ "O2dqc0LcRxAoy4ILaA6L9E523sGewspH7wwqNCG2nyH5eTO.OOQwQgpwDi88H7vtgKKiu5PISik4jQaY.g0uVuUDtk2wWqwzxAzxFTwv6ABC41FTjHInIfuDTgpc59vKyBs"
def l580_0:AX:=QZ "5v0ewi9SoDOZJ31nDr711SJNRk_6uHp3h7p5n13KvtyhZBZ7Wm_eN_D2iE5sIqqkOCkyDm6itMoi7sUKYxLtVNAO2TEX"
def b580:AX:=(fun p0=>QY [p0] [] "M3hDM5ggBNIYQN8XTbyWHFo099NOV5Am1WS0ND3JIpmLaalvP.c") l580_0
def l581_0:AX:=QZ "5sb4GpUvzLIlEfhgoR.9QHik0D4VoOivY0lcXPPBko9PCHH3q2He0s7_TFjPaxfObjLVkoBwqniO2L2DEV"
def b581:AX:=(fun p0=>QY [p0] [] "0dPE0w4YSUPHbZbl0EGZoBbQDfeebL2_b5Uj_bNZXYJ_S89jyGga69OgBy") l581_0
def l582_0:AX:=QZ "0YKYTUzjX8nUcVhkG94gsy.xkn0fy9JbvGRC6bBdkPtIx4Yg_OLqkN7ED2gEVWzyG3bBNzzPecKgQ3MbJEFI2mjjto8Nv.JC29NWfZ7bJr8Gs1LqmpI7tPVrdGR7hC3rB64.Nd_vKGk4pOIgnIX"
def b582:AX:=(fun p0=>QY [p0] [] "lZt7xKzzzhxI1b5deiWHfNk3") l582_0
def l583_0:AX:=QZ "0GYrZzGpzOH19KeuzkkD5.EvstN3WmnX1eWr99jOdJFKlG7y4bpsYK6zW0viguDX6F.0R2ySOo1IBwu8C_yP596wo0p1tHgv4Oi7CuOB8eIi9SSAlffwpaGcoFiCYsHd1tZIzZrImmlvIVos_v7soCC55FmCXn1p7FKxjoaWONExv6hXeMIvCrVgWxDXJkpjY"
def b583:AX:=(fun p0=>QY [p0] [] "0dkpcRSrSqMV17TlKKwauMnjS77") l583_0
def l584_0:AX:=QZ "1l0VFmxWJDZncJ7P..FQEkryCpfQcpNgp7z2m7WkZ7LyXwyj.5yfscpoI_v6V"
def l584_1:AX:=(fun p0=>QY [p0] [] "TLxUaY4eO_SObu.oSeYDnxZ.7EmHbkHpb8Zp1s4GN_a_6DoejT") l584_0
def b584:AX:=(fun p0=>QY [p0] [] "1IX.WMMNBc0DUtsDTYcNJs") l584_1
def b585:AX:=QZ "3MJa5ucXl.c.UVuYVVR1_q_0oAY3_77v7iSqma2H8OvrodmNK5bKmKO2sFUETb_q_jSd_FL5pKZoG_SOUt6oNhpPg1dI"
abbrev row513:AFx:=⟨1,38,[.t 2,.t 3],b513,none,false⟩
abbrev row532:AFx:=⟨1,40,[.t 2],b532,none,false⟩
abbrev row533:AFx:=⟨1,6,[.t 2],b533,none,false⟩
abbrev row549:AFx:=⟨1,12,[.t 2],b549,none,false⟩
abbrev row576:AFx:=⟨1,6,[.t 2],b576,none,false⟩
abbrev row579:AFx:=⟨1,24,[.t 2],b579,none,false⟩
abbrev row580:AFx:=⟨1,27,[.t 2],b580,none,false⟩
abbrev row581:AFx:=⟨1,30,[.t 2],b581,none,false⟩
abbrev row582:AFx:=⟨1,37,[.t 2],b582,none,false⟩
abbrev row583:AFx:=⟨1,45,[.t 2],b583,none,false⟩
abbrev row584:AFx:=⟨1,24,[.t 2],b584,none,false⟩
abbrev row585:AFx:=⟨3,26,[.t 6],b585,none,false⟩
class Zar (T:Tbl):Prop where
 h513:Tr T 513=some row513
 h532:Tr T 532=some row532
 h533:Tr T 533=some row533
 h549:Tr T 549=some row549
 h576:Tr T 576=some row576
 h579:Tr T 579=some row579
 h580:Tr T 580=some row580
 h581:Tr T 581=some row581
 h582:Tr T 582=some row582
 h583:Tr T 583=some row583
 h584:Tr T 584=some row584
 h585:Tr T 585=some row585
attribute [simp] Zar.h513 Zar.h532 Zar.h533 Zar.h549 Zar.h576 Zar.h579 Zar.h580 Zar.h581 Zar.h582 Zar.h583 Zar.h584 Zar.h585
end
section
def l519_0:AX:=QZ "S0Bc8Jd8pTwfTsHHAVGNNvQD23CXiXU5N6d7LNQuQb4lPASI53tspVvPh3M6nSHRNIj0.KnOQ3SvW"
def b519:AX:=(fun p0=>QY [p0] [] "0je0UyTqrTDHJPZBYKMBj17_7nmmkcoFesJnT.w") l519_0
abbrev row519:AFx:=⟨1,20,[.t 2],b519,none,false⟩
class Zfy (T:Tbl):Prop where
 h519:Tr T 519=some row519
attribute [simp] Zfy.h519
end
section
def l687_0:AX:=QZ "0kncjFIldukrUrwoF8qGupX6pBbtNXqVKc0NWpJrcrZGyH1rOIanlWANqUrSEXn2o_3at08vb77T_mFVF.g1AIZ_rzux7MJOp5AQT"
def b687:AX:=(fun p0=>QY [p0] [] "9VRSL6C1eHMqncEdtvRWyhdO05JCtI.kJVjJvFNuG8heCpJrqnN9aTAIrZOL_0KYYrK4IhurMab2aklR2qjrv.X_qOwfPkU8MRRHWQe3UxpC") l687_0
def b694:AX:=QZ "9T5XWdzAF3QVAJos5yTrEP1zzY5tUzzT8QDxqXzjvzTTtw6ldkbLmBMJx.hZZbnqYIrpFe2TSE7zkBc5yCA9Ahah9FKgufhbQ7Q"
abbrev row687:AFx:=⟨2,47,[.t 4],b687,none,false⟩
abbrev row694:AFx:=⟨2,24,[.t 4],b694,none,false⟩
class Ze9 (T:Tbl):Prop where
 h687:Tr T 687=some row687
 h694:Tr T 694=some row694
attribute [simp] Ze9.h687 Ze9.h694
end
section
def b693:AX:=QZ "84fEfHNjAJjzcjDIuTQy_cv1b7GljvIw4kDpHp9RmfwB63.zpar1lxAL7b64u78GOdzEuCzm02V6KUI50c34BuIYIxHPa6ssDaDiJIrUMkK7dRfSteFYVxqkOLcg2KsLw52rwJQfCrEno9tuQ5vUYXDHNgfiZmuh5"
def l695_0:AX:=QZ "eeayyNPGSqI9msM.7xLQjTFlNkMAmjXguGlybYOBzX0BfSNiDtTRRx9kmZTDOfedKLJo9CEHwYNF0GMTUQFbnluIQRHlEX3XieUCgffGqmsiO6fJFKGCO3amMCKcHhc1I0gxytp2is7AZmH_8guqmJJqQwGodcvcCKScCztz83oma0tT6emapxIa0EFv1LYVAgCXaYLMcopYqaMVbXtUM_ZswOx4GQKc7y5M_9x8m1e62GkPTlUs4XhVvdhRSZQdHeiJXloE0AFxUrPFvDSGrfcNnrNtJuVqHkxQQypZ1SeTVF5SGTnlCQTdedPulhR9t4N4VgGocMuNNTlhUV"
def b695:AX:=(fun p0=>QY [p0] [(AV.s [10])] "O3tGYWSKWXCYt5fPlDNs.Ii4XqkYo.JXZ8T7bMpIUlk_CmccZWY4SaZBts_KG6QuqtDJE6p5kKgIEYeXrV5D91SP1F4nyWMKOWxRnsgpbn39jmR_6") l695_0
def b696:AX:=QY [] [(AV.s [43,32]),(AV.s [45,32]),(AV.s [61,32]),(AV.s [32])] "1yNa.xnlC3QCFcbWl6sI7vwaH7nu8N.tAn4xTPDxPcwodlnzywHGnNkWF4qZ1yBYp6ClCLLO4iZsfWFZCvfu33kzDzpowKcdT_dTMRf"
def l697_0:AX:=QZ "LFCdjevYAnrhQ1VsqwE3Z4QrNbnyimcLE07u9ueRqLpkE3r2Tln0xTYoK8IZ1vPhbxBXwDsRdxyMck0dmBq1O4byN8tiA49T0ZGh4iZ3houq9YkWAPGAV5Pnkhr480Yz9Z.TQR_7o9EzgyRRjO2FQWEfRl941AroYhejT"
def b697:AX:=(fun p0=>QY [p0] [(AV.s [32])] "26fNjLa70bv0lYZejHmq4zPyrMAZSkYj.ehn5a6wwVaIMsKcz1MiSrEShsceR9F3Bv4uufnOTeoFfDzRFBtxOvyNawRXu052jxa_O3h7YccIEIfO27W0fbpTQHhIUG7Fo6rjrv4GF0Xsma.C6VkUIPBx7nbiZcAYSV5") l697_0
def b698:AX:=QZ "5MR6OHZ3fPmjMSn48J4oTZp"
abbrev row693:AFx:=⟨1,26,[.cell 2 (some 5),.cell 3 (some 4)],b693,none,false⟩
abbrev row695:AFx:=⟨1,89,[.cell 2 (some 5),.cell 3 (some 4)],b695,none,false⟩
abbrev row696:AFx:=⟨1,20,[.t 2],b696,none,false⟩
abbrev row697:AFx:=⟨3,72,[.t 6,.t 7,.cell 8 (some 4)],b697,none,false⟩
abbrev row698:AFx:=⟨3,11,[.t 6],b698,none,false⟩
class Zbi (T:Tbl):Prop where
 h693:Tr T 693=some row693
 h695:Tr T 695=some row695
 h696:Tr T 696=some row696
 h697:Tr T 697=some row697
 h698:Tr T 698=some row698
attribute [simp] Zbi.h693 Zbi.h695 Zbi.h696 Zbi.h697 Zbi.h698
end
class Zk8 (T:Tbl):Prop where
class Zm5 (T:Tbl):Prop where
class Zj9 (T:Tbl):Prop where
section
def l497_0:AX:=QZ "TCwGkc00oMSnNXMKHnftso8stUY1RvBhhrhGiVpeMpI7L3DJ_OdxuFIUUfJ2k4aTm_htiSbHG3ABi_4KnnU8JdFDX4YuKpzfJzlANM8V3fQU"
def b497:AX:=(fun p0=>QY [p0] [] "2rvk2_5maJBNhiStzO0AE9QHRJsuPSEgcyJZSHdmwl9BF_CEHhJkIgr0AcptCj3PxQtl0aLobesAYNV0ZU") l497_0
def b516:AX:=QZ "RWyOXrEv9ZbeUlpGhYhe3osymk9ZXa_eV9JdWWfzJe"
abbrev row497:AFx:=⟨3,50,[.t 6],b497,none,false⟩
abbrev row516:AFx:=⟨1,12,[.t 2],b516,none,false⟩
class Zck (T:Tbl):Prop where
 h497:Tr T 497=some row497
 h516:Tr T 516=some row516
attribute [simp] Zck.h497 Zck.h516
end
end Go.Ab