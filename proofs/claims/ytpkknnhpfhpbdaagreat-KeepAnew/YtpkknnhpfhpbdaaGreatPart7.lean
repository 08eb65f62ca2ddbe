/-
  A calculus of values, boxes and code, and what functions of the program compute, proved in it.
  Conditions: none beyond those that the theorems state. (Part 7.)
-/
import Derived.Test.YtpkknnhpfhpbdaaGreatPart6

set_option linter.unusedSectionVars false
set_option linter.unusedVariables false
set_option linter.unusedSimpArgs false
set_option linter.unnecessarySimpa false
set_option linter.defProp false
set_option maxRecDepth 100000

namespace Go.Ab
section
def b526:AX:=QY [] [(AV.raw (.pointer none))] "NP.3qD56wMmtwQHLGNRlwDgWaA96EJtiZF0gT_I78tiffStsIXXudlJNh77nLYLiMNGJZOc51k818r7gefaEPjJaSNJyNzuD4bxiwICdYIHt8k8VDJIZrLjwm0VamPE9_qYXeTX4EKxxpD1cQ2O3Qg.TBb2wusviKcjEw49dZB8AY3WiQDPSk4_vx31.z5cHNDYKpfU7TLNWGbjhLpICgV27axiiJ7TFdlcpG2rg19bnO7mLZrqV4AXBF4oR"
def l537_0:AX:=QZ "9wWMDl_9dWR4Oi5Bey7BYxmrxUNITJuzB44Lgd1RblXPuO4plx3eL0IrhxKaY1j1LBFsAobtbTE1t_nV"
def b537:AX:=(fun p0=>QY [p0] [] "8XUbQZR0yfN9lixda1ja_IcqTDmwOCGZlaWklUCFRU_OlB.qIjdWnvSQns.tfFdV8OI6xBDxN00b8s4KvWjWKJrExTOEzo5T0UCTY_qMbT2yZqg5mh_t.eSP5FNRtRElDo2_2Pl2JL5KzgEGB7STeu.xggL6HB1l.FpFQhB4DCj7ZZ6OLXpcYYJ44XCOlgKRDkcDI.YXLvIHRdSa4q7cMQzzSdK") l537_0
def b552:AX:=QZ "WUvzzcYCbg0tT4GOGAkDTZUo1U1HD0ewkANw93AoETu_NeGhBXBWUZQLz2HOWZmliJjdQ_omxNuMVw6ribNXxe_KT9mgn2hDzjWljSgvfsawqb4Tvbb_k1f4d5y_kPhFa1Qf7uwkzQSjvLwGY2fdgTVAWuCTI9wx7nq4Agq3CmDLFWiu.yN6s0VwxlXp8SvgkLOKSLJsRfVN2giGmambdf8OaD5ORuWhAEj28BaR0RmcVMYYCPbcazh4aEVVJfAoKYMWpSL3Q.99_qx_Nvi2AqeYWWPkkD7DNlfqvNeVy.UB6bX_5UacPT8Nyg6bnqnu7MVQfpR_"
def b553:AX:=QZ "JhkqymviSMVDA6UYblzfrR_olaAXgw56lqJhKwsliy1T_xy6mkiLy0fu83CY0AO8"
def b554:AX:=QZ "4tLJOHhgKhQQM6hNdEMgxWe4nGUhzQzzimKeEP3b6NMi.5DZW9giamjadd3X12lcEf4oAS.vfNQ3mZt89tKuFxs0"
def b556:AX:=QZ "211sBACOoPiYelR7Eg876hPXlZ5tjPcsMDv2sHTsPSCcvwc_GgaQOzOpk8XYziLVfcebc_OIJ3I.8w3w1"
def b564:AX:=QZ "CB8vke9pCY8KnPcMMkSiW57bK5PxU6cyZQJLWnCKL.AKvJmqt8ZpShhiXbxeHQEBsMSWXq2ze50aGmT_ZLdvopZi0omdE"
abbrev row526:AFx:=⟨4,46,[.cell 8 (some 4),.cell 9 (some 4)],b526,none,false⟩
abbrev row537:AFx:=⟨1,72,[.cell 2 (some 4)],b537,(some [true]),false⟩
abbrev row552:AFx:=⟨2,93,[.cell 4 (some 4)],b552,(some [true,false]),false⟩
abbrev row553:AFx:=⟨2,20,[.t 4],b553,(some [true,false]),false⟩
abbrev row554:AFx:=⟨3,25,[.cell 6 (some 4)],b554,(some [true,false,false]),false⟩
abbrev row556:AFx:=⟨2,28,[.t 4],b556,(some [true,false]),false⟩
abbrev row564:AFx:=⟨4,31,[.cell 8 (some 3)],b564,none,false⟩
class Zai (T:Tbl):Prop where
 h526:Tr T 526=some row526
 h537:Tr T 537=some row537
 h552:Tr T 552=some row552
 h553:Tr T 553=some row553
 h554:Tr T 554=some row554
 h556:Tr T 556=some row556
 h564:Tr T 564=some row564
attribute [simp] Zai.h526 Zai.h537 Zai.h552 Zai.h553 Zai.h554 Zai.h556 Zai.h564
end
section
def l499_0:AX:=QZ "lxrPyS0Ek2rZRxoe6mFoVyDCEIPiAsw9hCKiP60GwntjSuts5PfwnpZQRlePphFRlnnexn1ijojsKDvs37v0.MUXnS"
def b499:AX:=(fun p0=>QY [p0] [] "0gRimlVAmKZaXH3uH1tIRNb0E7AepeMe18LMirKFIpBhMWXQYwZrI4iuUpLkkU2RnFwHMz50ssUga6PRwJ.XbPfWdfyvGD8zV2eJIMvFAxNhm7Zn_Jn_DN8jdbVlF") l499_0
def l504_0:AX:=QZ "Guq6np4lumXBiT1LxJTkRvdk.KEsCimR6GEyeHtPQkuFAWE1IaLXafqkCYQU"
def b504:AX:=(fun p0=>QY [p0] [] "6b.VVeaYwdoAJ5ZIeWuxn7FkOgzcv3looyyEbmutghKxqh5.kcazFtJxX8lVOfCvoZflwvwbnkjekG2XK815LoHPmn22SwC6o4_Uk5fkYfklN06ztjuKxJYfVAZJo") l504_0
def l506_0:AX:=QZ "0OzeXwYRXoTKS1tSzLkF_7kWJ7K2_iEUn0PmEJ_1N2JZh3x043rf7YD2jCBdeHTH3phbHA_nj.PGUexKiOlvjgNNVXXp7EFE2bAzX_JAdgEVHFnkZb.QnC8BbPjuoQd6NrXFmuUz1bkX.IwnRjIv4cD5SJUvqPMhwwKt8xhsxwxZQWfpj.45soacX_u2vuQusa_KzOUWS7n9XHYd6O4cbU"
def b506:AX:=(fun p0=>QY [p0] [] "8uWSQ.qEMn.6oHnzGnjHpCMur8F9J936UgG4T09WvLaHsLrCdcD6tmoo4zZCFMqYs27Xnvqc558bNjSTBGiTp1L5Q_4Kx26Cm0Q97uCEsMYFp5z_rsL7YaDtJywzt81Td0xoEX6KVwRWBMYf_Z5wM4Mg3SpXnUw37gNHnedqC1CJWSeEyMCRDBck_PImwBjVWv4KlYFh4M7ajOiZCnMGOy6OsdqO4LLAJpG2ouu1oEggzaf5gZHTaE8R7bHQB8jVVRNXpIePMXrv_yR1WWHQlAjybD1rpY.XEflktLKVUFe3eVrNF9pUxyKtL58N1") l506_0
def l514_0:AX:=QZ "5MKPmi4OmWMTJbMO47Ji_bxzyBRKOcZvcvUTbB5ZnBXX8kh70nJbXIaW8nalaisupzT"
def l514_1:AX:=QZ "49ZJu3zN8IXkguXlQXDX.H5leqjhfWiCqdYa6SM2h1VK5vk19RYx77XkU__wU7VlZKL2kaVFkMR"
def b514:AX:=(fun p0 p1=>QY [p0,p1] [] "O.bKvyDEVEXyM6tya6hp8o0bhobgcT6YvXjOwHMpqsLiE9qGLNELpO.RKxHGC_PJbhBRIImC9r3.7a51wa210nR1") l514_0 l514_1
def l517_0:AX:=QZ "K7vIA_xn4E6jL2XAU8KcTa9nYtlef6fOh0Ez2gIDQxErXvzVjT"
def b517:AX:=(fun p0=>QY [p0] [] "0L8QdnvDOt7icozqajq1i9F2TDxPFvBw4jSWTMvAYHgPWfZCoeU_sFuSK") l517_0
def b518:AX:=QZ "2_I06rQSYJ_Pvq_jKBtz7E"
def l525_0:AX:=QZ "XMSzFU0mzhpGpEPYXMh9HReFI.ijc1WZyc1yQXXAhDE1gZIVqbOXkdMQ5VET"
def b525:AX:=(fun p0=>QY [p0] [] "0zP.SDmYclp_CS5wZKDr3arYrHrFs2IE1I9NRo") l525_0
def b534:AX:=QZ "5bzwAqussgFsIH7F2Tgl8k"
def b535:AX:=QZ "l8iENx15Vbv8ktY1.uZDPRiqByiInoN_Z2zhDLL.V03vHU_Q.blxsKsBCSDJJM8wYk_bcMIKVTiror7xWy52e3H8jcmfXPSyV1o7.yE85VAdd6S02FgysY8EZ6mgA"
def b550:AX:=QZ "AJVOJL6xMFFlTMIKAbPrMKeYzPjy6s864suW0LkdkxLSgL.5SQltYZjlibkOb6BCrW4wzPgVFw"
-- (*retrospect/keep.Pile[retrospect/keep.Segment]).Len does not resolve
abbrev row499:AFx:=⟨2,50,[.cell 4 (some 4)],b499,none,false⟩
abbrev row504:AFx:=⟨1,50,[.t 2],b504,none,false⟩
abbrev row506:AFx:=⟨3,109,[.t 6,.cell 7 (some 4)],b506,none,false⟩
abbrev row514:AFx:=⟨2,45,[.t 4],b514,none,false⟩
abbrev row517:AFx:=⟨2,25,[.t 4],b517,none,false⟩
abbrev row518:AFx:=⟨1,6,[.t 2],b518,none,false⟩
abbrev row525:AFx:=⟨2,22,[.t 4],b525,none,false⟩
abbrev row534:AFx:=⟨2,13,[],b534,(some [true,false]),false⟩
abbrev row535:AFx:=⟨1,41,[.cell 2 (some 2),.t 3],b535,(some [true]),false⟩
abbrev row550:AFx:=⟨1,24,[.cell 2 (some 2),.t 3],b550,(some [true]),false⟩
class Zar (T:Tbl):Prop where
 h499:Tr T 499=some row499
 h504:Tr T 504=some row504
 h506:Tr T 506=some row506
 h514:Tr T 514=some row514
 h517:Tr T 517=some row517
 h518:Tr T 518=some row518
 h525:Tr T 525=some row525
 h534:Tr T 534=some row534
 h535:Tr T 535=some row535
 h550:Tr T 550=some row550
attribute [simp] Zar.h499 Zar.h504 Zar.h506 Zar.h514 Zar.h517 Zar.h518 Zar.h525 Zar.h534 Zar.h535 Zar.h550
end
section
def l513_0:AX:=QZ "QhbLpPRm.3VktI0wMBr1qi.pRCDMaQ4zoO9PdFfJLMJEwGth6EZanpqRETQHDcSmgzL40Fu5dG9fPjhr6Af23dARo9fQGoJ5gKRnEV"
def b513:AX:=(fun p0=>QY [p0] [] "NilSiLswjKWNq3rgSLMmpBecpqqy09GACmaqCbdi4pAa5KMzZzULlTl_cPd9_06LUmhGqZmLLsoADVzPJLZVp") l513_0
def l532_0:AX:=QZ "OVzByHELHn0ECIkijMts.P7pAYTNdtyfztm0hAyWsQHmfBBEBmY_5LqPzNMWm1XwNA8O60xPD9YRMYpotIkq9LHpsuHKy4rkcpOH96nPWCCPHz7k0dKBwytjTsPhS3lUUocv2KrpMDopQreeGRJytAgcJQvmLof3nvQuD14qQajB7.dt4VcwDA2S"
def b532:AX:=(fun p0=>QY [p0] [] "0iY7DoC_vOcxy.MLCp51c2vOZJIN1ThMGgtKPQRI") l532_0
def b533:AX:=QZ "WeR8gh37uaJmGepV0WY_I"
def b549:AX:=QZ "XALPUVvm_sok2ETzsB_6I2NnewiflrdPSnjA4oLBP"
abbrev row513:AFx:=⟨1,38,[.t 2,.t 3],b513,none,false⟩
abbrev row532:AFx:=⟨1,40,[.t 2],b532,none,false⟩
abbrev row533:AFx:=⟨1,6,[.t 2],b533,none,false⟩
abbrev row549:AFx:=⟨1,12,[.t 2],b549,none,false⟩
class Ze1 (T:Tbl):Prop where
 h513:Tr T 513=some row513
 h532:Tr T 532=some row532
 h533:Tr T 533=some row533
 h549:Tr T 549=some row549
attribute [simp] Ze1.h513 Ze1.h532 Ze1.h533 Ze1.h549
end
section
def l519_0:AX:=QZ "95SpsHnPyTyaMI81h1IMt8K7228Sn83O4OvNYsH9d5dHqUvEpdqcN0mdsQZ.2Dokse2nJjbXDGVs4vR"
def b519:AX:=(fun p0=>QY [p0] [] "5G8NyAZbWV4dY0kGaKwTs2hfGMtHTegoPn7wZsZ") l519_0
abbrev row519:AFx:=⟨1,20,[.t 2],b519,none,false⟩
class Zhf (T:Tbl):Prop where
 h519:Tr T 519=some row519
attribute [simp] Zhf.h519
end
end Go.Ab