/-
  A calculus of values, boxes and code, and what functions of the program compute, proved in it.
  Conditions: none beyond those that the theorems state. (Part 6.)
-/
import Derived.Test.YthhddiiohgfamaaGreatDoorPart5

set_option linter.unusedSectionVars false
set_option linter.unusedVariables false
set_option linter.unusedSimpArgs false
set_option linter.unnecessarySimpa false
set_option linter.defProp false
set_option maxRecDepth 100000

namespace Go.Ab
section
def l275_0:AX:=QZ "3BFT6vqodXMFkFewQwu2QsuYNSmp50lJZ1jIPvNLvaOai86jLgveGmLFuVnlgg.PXtaYyhd6XB.EKoyMc5PcWB5AreCk5rmMhQH9OxCFJxt00VBoAFmpupkPUPen6.lSilk7Nxy0Y1z.YrRSVVALFbnnfzGximvAU"
def b275:AX:=(fun p0=>QY [p0] [(AV.s [44])] "3QuPBim8WfaHFdH3ThvPe0N_yJa10GVEbHbMxDkxuPhRoqCnbH0cAyWIvmjUrE3yg8xKYB.Oygx8PW8cpqj2k73WMUsVl") l275_0
abbrev row275:AFx:=⟨1,46,[.t 2,.cell 3 (some 4)],b275,none,false⟩
class Zfb (T:Tbl):Prop where
 h275:Tr T 275=some row275
attribute [simp] Zfb.h275
end
section
def l513_0:AX:=QZ "0KIVvL9S4xqW8N29vlW3dC0mtgFfqVvCJ8ypdvqb.Ao4Jq0xYw.hj6xsrBHcfqdxrK4fwdCUwV4zMVPeAzmKcy1j63.wsP2OKNUS"
def b513:AX:=(fun p0=>QY [p0] [] "EzjtCFWyLgbUkkn9DNSEdDvTWT.ImDu40MuzMicBhlzMKFcl_.SSP5Z7fluRh8en6_NwyewSTzvjz79V6_CJF") l513_0
def l532_0:AX:=QZ "2RmWnYzXO2o_W8XXT2tb3X2bLAcGGljYpqEKT7RKxrmAd5AlgCO2AL8djQplBOZ1O.KsGoKCyKYE423ZuyDc2O3zRXVRcT9lpAVf5KzfcVfyZJF4CPQ1IloBvHRp4OInMub3pJzkI6yClA6GideP0QdsJ6mpF2O0_TYrjnbD82dWJDPmgmnR"
def b532:AX:=(fun p0=>QY [p0] [] "8jF99ADRery4r2VIrGVRB1_drfMxlcwRLPqkMF0") l532_0
def b533:AX:=QZ "MRW5JDEuRhE86smyGhORE"
def b549:AX:=QZ "6BiJOwxewrjuNBceVHJLJG6CL3GugKtQWtlccsJuBT"
def b576:AX:=QZ "Qgq2FfQ7orIVUkL1CfnZb"
def b579:AX:=QZ "0gki8FqM4sqqCXDPlcwFdSM67jeUWEzDh2aOWgHj6vWVpXh0FzHa4FuIaerDqAu_YjhfhOckGeDbStAP08obOCL0Bwe0JRBSAAYbIRf5qVlF3G86GE0H5XKryQqAjUuCREgV"
def l580_0:AX:=QZ "mORnLhqyjE3fCM8CRsOqaziCbON18nLk0caxD6oYJItzksMSXIAw.I_nralFv.KO6SwSeJI8bBpjRxhDyX6Bl_t4f6S"
def b580:AX:=(fun p0=>QY [p0] [] "4BTe72u2mqrwk8w3fPIQeJ6TEye1LfMTifl450z8rhtpENtuXS5") l580_0
def l581_0:AX:=QZ "O0OxCapFHZAeV5C9uNQ7tOpf6dJQu5FwcKhN6VY0_HtiTYvqK6vrZlB.tjCuFemxfAEQavq3epYym2FIU"
def b581:AX:=(fun p0=>QY [p0] [] "0.sMOTTn.jXvJLDVzZ5h0jKAALmVMDDa0WMtK9FH2eulo9wIndu1GezyxG") l581_0
def l582_0:AX:=QZ "8jWibrSAxmTw.JIi_gzJaz9EwXGDyYWSWvdyD1KJZLnYpRbAu_LP8AzmtFD0oISOQekYNNh23BmFrhL6q3ijE1ckuxI8jXhIuNowcnUchb14t4fgfIsDTh3AzbUm.H27unb6JAiEG5txFgrfYU"
def b582:AX:=(fun p0=>QY [p0] [] "N2GsCXKV.hicBhq_rTx5rz7X") l582_0
def l583_0:AX:=QZ "Fu5aIy1ZBbx.5uJb_9Gyl7eSccIUlU9eFnVOfPd2cmGJw4MvtqFr0G37kzcH1b3F9Z6j1XGpxCcvJ4HioSvt4x.T5NawzzrzVM4q2gy27L78hKnrZfx_nizmN9iDqFabSiZMl4HkWGFM8e5pjRpILdyYLUoaY6lWbw4Wmic0wI.210BjhsITSlniT1PrSQT"
def b583:AX:=(fun p0=>QY [p0] [] "0GpJ5ZaI2S_aFDSSBkInXLW14ko") l583_0
def l584_0:AX:=QZ "9.Va5gyuDX4uENGYZRBv_soocDJl31i5fl6ia3w6nQbNvrxfx7wloRSuLJkIV"
def l584_1:AX:=(fun p0=>QY [p0] [] "M_mydcOF._rWXRap1daC.SExr4g0hE3ABf_tXvyhU6qylytXnU") l584_0
def b584:AX:=(fun p0=>QY [p0] [] "0noTP0H3uy9nq_nHbNeU88") l584_1
def b585:AX:=QZ "1R0EYp_QpP2gcMMrgvr32hAy2_QC1L0p9n8A9DrQQE6I21VvsatCmSYtxeWVgVnURlfVyfyzFCk.tQDFL9vqUJhU.3Jb"
abbrev row513:AFx:=⟨1,38,[.t 2,.t 3],b513,none,false⟩
abbrev row532:AFx:=⟨1,40,[.t 2],b532,none,false⟩
abbrev row533:AFx:=⟨1,6,[.t 2],b533,none,false⟩
abbrev row549:AFx:=⟨1,12,[.t 2],b549,none,false⟩
abbrev row576:AFx:=⟨1,6,[.t 2],b576,none,false⟩
abbrev row579:AFx:=⟨1,24,[.t 2],b579,none,false⟩
abbrev row580:AFx:=⟨1,27,[.t 2],b580,none,false⟩
abbrev row581:AFx:=⟨1,30,[.t 2],b581,none,false⟩
abbrev row582:AFx:=⟨1,37,[.t 2],b582,none,false⟩
abbrev row583:AFx:=⟨1,45,[.t 2],b583,none,false⟩
abbrev row584:AFx:=⟨1,24,[.t 2],b584,none,false⟩
abbrev row585:AFx:=⟨3,26,[.t 6],b585,none,false⟩
class Za3 (T:Tbl):Prop where
 h513:Tr T 513=some row513
 h532:Tr T 532=some row532
 h533:Tr T 533=some row533
 h549:Tr T 549=some row549
 h576:Tr T 576=some row576
 h579:Tr T 579=some row579
 h580:Tr T 580=some row580
 h581:Tr T 581=some row581
 h582:Tr T 582=some row582
 h583:Tr T 583=some row583
 h584:Tr T 584=some row584
 h585:Tr T 585=some row585
attribute [simp] Za3.h513 Za3.h532 Za3.h533 Za3.h549 Za3.h576 Za3.h579 Za3.h580 Za3.h581 Za3.h582 Za3.h583 Za3.h584 Za3.h585
end
section
def l519_0:AX:=QZ "2xsM3m._sj7pq7_d7baDGyLcM.WEGE6L2FzohpF6uh47kr0C4wPrGaTsUOXkmGttWiuH3nJ.7_nQU"
def b519:AX:=(fun p0=>QY [p0] [] "0Sc9dF_3eHwTsq0zj8Yr5qQAv1d6iVTzSEvQHFT") l519_0
abbrev row519:AFx:=⟨1,20,[.t 2],b519,none,false⟩
class Zgb (T:Tbl):Prop where
 h519:Tr T 519=some row519
attribute [simp] Zgb.h519
end
section
def l687_0:AX:=QZ "Qwv73Wz7K3KQ4Kwg09vqtOoonZ1TTpJDyD1MG7v1HWrd.fPiTCCflxYOxkiYAsPdZFz_H3sx0Y8PGCRcKksS0V59dTKKtsnwr_rR"
def b687:AX:=(fun p0=>QY [p0] [] "HPbyT8gbiL7OgSoUlEIUXE0pQ3MNKmceOogCY8148_7f9bW0a.FBdiYEi80nzrdZLro3Cw1xqOVbd41cDqkLIdhQzcaar9g5AQEpwDTr.Fu") l687_0
def b694:AX:=QZ "ELzBWgkC6PuoZ.vvsksSXR1262hFUWytuk4xdHuVGRxj.ddONq6R965h65NgZtfoW901MGSecZ6wMpBBUeXgGkCd_aemGlLcsT"
abbrev row687:AFx:=⟨2,47,[.t 4],b687,none,false⟩
abbrev row694:AFx:=⟨2,24,[.t 4],b694,none,false⟩
class Zfi (T:Tbl):Prop where
 h687:Tr T 687=some row687
 h694:Tr T 694=some row694
attribute [simp] Zfi.h687 Zfi.h694
end
section
def b693:AX:=QZ "MnSHT7PUts1yQYxp0D9q401Ku9MO8tKUmkfuMwrEebdGN3HI_ksiTy8ZAMi.07l1nZ2SghaQFdCUxn2t8QDTc7y7PG76mrWxvh5SY.P5.e.A3z6H_8Dk7g2yK05e0eW9xU39Qks.5ReEuo1Xz0G5IbTtec25loDlxsd"
def l695_0:AX:=QZ "HbHf4vRlU51dco13u2C8vVYsSGjjFxtcYQ8ofAqNhQNRBVjCYAajidnbyHp4PYEV9ryO0wv6Jkw.wyHvf4MM3SQxBahA9oY3n3xVHwBaRCmbY_PKb66HuIj7zQiliHQ42iMhr84caBhj.pW2qPcfUEyR_RSGkB0BLDGTuFoydpn_khxR5i9mPlHSSDxmn7TpYJ3Gyfc50s8HKYLcdqCvdU.5VM4O6F5W0cPnVUMCXS.0U6fzFZKtRKBfmk6RkfzjRr_tFi2g1bNpjXHj_M9Q3CE5.YtQ_iGp0WYTXzWZed2zXoH0ZFnbtN1KXBOs0uNQ7qAV60c99gnX7xbgWNbV"
def b695:AX:=(fun p0=>QY [p0] [(AV.s [10])] "m_QpLSsSRa0.TN4scGke_aOkZrhNiiwRTL0g9Nm6GqH0KkcuJCqE2IwfHh5iPUWalFFrotKDRBn4iWNIGKyyTEuAev6Vs0pPa7UekL_Oharc5xHRSV3") l695_0
def b696:AX:=QY [] [(AV.s [43,32]),(AV.s [45,32]),(AV.s [61,32]),(AV.s [32])] "nc9Lon1HBaNGfaYx0Cn7mb4HgWOKPEk.cpV2RTPE_4TlKbs9lGy0GXwZsST7ui8k8I8ZDXVzbnSAqRVvtzp39S_vuYU9m2IS6NZ2tH"
def l697_0:AX:=QZ "0r8CgFszy6GysXzmN0WiRzulefKi0g1WSouHWwdB2gjM.Q8DOg0swyKYlymkkeDnvp17FVeyNPgIUz4A3k6ZbOW609i8RF4nRK7VdyEnHBa8xMGTZdCQ1MCD2s2AvK4KBnOgZKGbG11aRx_LOgzUjCs0.p0ueVDVatZNQET"
def b697:AX:=(fun p0=>QY [p0] [(AV.s [32])] "2peCV28_9h4.dMMFxjLki0vc7MTebxLhiNW9UUPlNjIfukHGlOkvZl75svFRAwhQ6_8bvgDimVqqZU6dL1Jd99PWW7.kbXcVUdVnMSTGbEvm4IUQ9Jv5YSw.Bhd0UM4NkIUux6uN9jSZxGfPV.pktV7bFdaVHIFr0QRkk") l697_0
def b698:AX:=QZ "9gEK_6dp9W_wJKvcM0pAgBw"
abbrev row693:AFx:=⟨1,26,[.cell 2 (some 5),.cell 3 (some 4)],b693,none,false⟩
abbrev row695:AFx:=⟨1,89,[.cell 2 (some 5),.cell 3 (some 4)],b695,none,false⟩
abbrev row696:AFx:=⟨1,20,[.t 2],b696,none,false⟩
abbrev row697:AFx:=⟨3,72,[.t 6,.t 7,.cell 8 (some 4)],b697,none,false⟩
abbrev row698:AFx:=⟨3,11,[.t 6],b698,none,false⟩
class Zbp (T:Tbl):Prop where
 h693:Tr T 693=some row693
 h695:Tr T 695=some row695
 h696:Tr T 696=some row696
 h697:Tr T 697=some row697
 h698:Tr T 698=some row698
attribute [simp] Zbp.h693 Zbp.h695 Zbp.h696 Zbp.h697 Zbp.h698
end
end Go.Ab