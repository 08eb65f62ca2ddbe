/-
  A calculus of values, boxes and code, and what functions of the program compute, proved in it.
  Conditions: none beyond those that the theorems state. (Part 10.)
-/
import Derived.Test.YtpkknnhpfhpbdaaGreatPart9

set_option linter.unusedSectionVars false
set_option linter.unusedVariables false
set_option linter.unusedSimpArgs false
set_option linter.unnecessarySimpa false
set_option linter.defProp false
set_option maxRecDepth 100000

namespace Go.Ab
section
def l379_0:AX:=QZ "cmYDOOU2.ggpCJKvvVhEdgTz8BV6xXar1NpuSdRRcdKRDvS1M0Iw7EhIpbQYw3fECpuUVfV"
def b379:AX:=(fun p0=>QY [p0] [] "0kW3pqYbYjowDjutC2Vkao2rREKrckU5AXZgNN2SF6Kj3re1MzvjYXxRl") l379_0
def l382_0:AX:=QZ "DYyZ4R8UoP5.W966ysF500xvVyCzekAHlW6lRFmWfk2BjCp8kPbtVtHPikConqCB68USFlO6a96SKRMUUABVspu2l_qb26li3Sa6f9iTy0rGwPfV"
def b382:AX:=(fun p0=>QY [p0] [] "1uGhkL28_DlkLKRzLJpSjtWniIFJ4wTlA9XyNXEwKwzDwUMASQInyMIaJo1gm.zyxRzJdzwQoO") l382_0
abbrev row379:AFx:=⟨3,40,[.t 6],b379,none,false⟩
abbrev row382:AFx:=⟨1,43,[.cell 2 (some 4)],b382,none,false⟩
class Ze9 (T:Tbl):Prop where
 h379:Tr T 379=some row379
 h382:Tr T 382=some row382
attribute [simp] Ze9.h379 Ze9.h382
end
section
def b245:AX:=QZ "2Aw49GP6ZfXZEOtbBi2d.3E1whQ0K"
abbrev row245:AFx:=⟨1,10,[.t 2],b245,none,false⟩
class Zc3 (T:Tbl):Prop where
 h245:Tr T 245=some row245
attribute [simp] Zc3.h245
end
section
def l244_0:AX:=QZ "Nf9BnAB9DjdhIzYhhjmFpyo0krnWRVjYHp3HR7f2NwYAT"
def l244_1:AX:=QZ "1URj3V4Si9SfdYe5ZhIzDGGGHfVrMrajoYLf7ZcGPq7mpvU"
def b244:AX:=(fun p0 p1=>QY [p0,p1] [(AV.i .i64 (-8))] "7Z60A.cqWbC31OatpOXZqcveXTf8NBnUhN7p8RYgqO6sT_RptgKxidBc_mhd5CS9X_5CxdoTYA6oSYmLJebt6HQEefOOQKFCeS2.LCL2cKG1Ak_at1YQxJp6DS0gWTSg1") l244_0 l244_1
abbrev row244:AFx:=⟨2,42,[.cell 4 (some 3),.t 5],b244,none,false⟩
class Zdo (T:Tbl):Prop where
 h244:Tr T 244=some row244
attribute [simp] Zdo.h244
end
section
def b465:AX:=QY [] [(AV.i .i64 4096)] "0fWdHd6lv2wPro5f9lke"
def b475:AX:=QZ "D1hJQy4pUIp2DolmJu3l84B9Lcb6369qCsGgBoQWQ2pvAdeArZ_GaKeikd2zfBN9IQYrWsJ.Y102yQP9y4rkjrU3zQjneGKiUZGB_Cxh5MkdeTxq4TeZnlTPmes2fGPU_8pO8Pi.tXUC9Y2_4YOoegNc6ZGACczC6hcvZ8TR59jR79XLmUgF_wLPEivomlFsdX7zprQ.mxL4yPe0kV"
def b476:AX:=QZ "9zswBL_s8JLy4jQfShkHj_of"
abbrev row465:AFx:=⟨1,6,[.t 2],b465,none,false⟩
abbrev row475:AFx:=⟨4,42,[.cell 8 (some 3),.t 9],b475,none,false⟩
abbrev row476:AFx:=⟨2,9,[.t 4],b476,none,false⟩
class Zcy (T:Tbl):Prop where
 h465:Tr T 465=some row465
 h475:Tr T 475=some row475
 h476:Tr T 476=some row476
attribute [simp] Zcy.h465 Zcy.h475 Zcy.h476
end
section
def l544_0:AX:=QZ "Iu6YVL_5x9rtBd9_BrnEBNqOQwfz3VYrkuPwGPThi69a9znFrSHZREtxttMrf_P7fLMGr5d73cC5uXVm9FW1U0PZlpPXTFC5sXLo8R6YcZwd9AStpAm89LaVcha70RDwXzinfV9MbwK4M0GAGGxjb.jQa_06.GbIkbkFY8dpd05EngFjU"
def b544:AX:=(fun p0=>QY [p0] [] "1ySLODlZszPmZmztNZBia4Fdxdf2qYpnQcgIPI7q6OleVG") l544_0
def l547_0:AX:=QZ "0755MPMFzpaNpGdX2MSAm90Ofqukho5ZeyJBMSQ3A9db_fzEe_AoNpaXBRjLxnR"
def b547:AX:=(fun p0=>QY [p0] [] "6E8M4upbNSNq1Y9ZgTuc8iFXzVV0K7cI") l547_0
def b558:AX:=QZ "1CDpVlwslzMHygTJcj40GWJygKM1sEb4imd7sJprS4fya9WBBk1gG4v2AiUHWnqbaUWG2ucUdhRpS5S9VnGuXBwF_.QMv6plKqy2Iny4Tc.IbIkUiHBv0UdVN8PS2RVInpyFG8tjQd7oqmO9gO2cr3AXzoXzhf61FZJepdbGvlKG7DnSbKLrDd2vUPX.0qW.1LwNB0zt7CymH8aISAIhcEvgLP.UwS0u1j01qnquP75ymq9l_1mj8nN4s1KzHrDXIZu"
abbrev row544:AFx:=⟨3,46,[.t 6,.t 7,.t 8],b544,none,false⟩
abbrev row547:AFx:=⟨2,26,[.t 4],b547,none,false⟩
abbrev row558:AFx:=⟨3,76,[.cell 6 (some 3),.t 7],b558,none,false⟩
class Zbb (T:Tbl):Prop where
 h544:Tr T 544=some row544
 h547:Tr T 547=some row547
 h558:Tr T 558=some row558
attribute [simp] Zbb.h544 Zbb.h547 Zbb.h558
end
section
def b189:AX:=QZ "0Otpw8Yz0l8sRpzOcPleDoVIiGYJnd3.2"
def b190:AX:=QZ "xvvpyHa_BWVqDKLvKfK_ciVLmbvt5WxmI.a45wrAVkcVBB0FPcIZ2EEEsvcp.NfwUbq7atIBodwZE"
def l181_0:AX:=QZ "07tbmrsiteWG0CjL0L6KlfWJ7F7kjb6tIEMOjr5LRdkRpA4iAR"
def b181:AX:=(fun p0=>QY [p0] [(AV.s [43,45,42,47,94,40,41,91,93,44,59,61])] "I8it5tOhgqRxYvoSxnAYALtemyXiFlMOQ.IH51Bq7T8dMezVnC3") l181_0
def b180:AX:=QZ "487LhKhYjoJFeHBQqvLfoxkW3vJqgvgy.NVKJhmgUVo1pqF7Lvx3XkiWWDlmr9x9an3J"
def b182:AX:=QZ "PC3zdVmQaG0AdWKYrLP6LfyZnu1LrSuONdRDvSXKFe"
def l168_0:AX:=QZ "2LjuUCGmF7OW6yhyZ4__KYw0gvU7VMuCc6k.ZTNRwB4YEdepe5kcnZ1cZKqfdx9jtwufBVtHYkK4tLniArkvgAuMSAFTaVZUFAgtw7LWcg0hxH80Ab7Ca1d28Bbt1KxhuYiKs9j0L03aTmyhXX30T_.c3V18Qkl_Lmqvm0HOxqqMxWoLyFCyMmBvLt65QCgsuTTWT1B82UTz2jRUOwMKXvpEGZafWJOh5pZ_xgM6hRq1VvBwHlxyH5hIOVM4TV4kttPuMAL3FErVGCbfj3W7nSIZAcfhKu0_shHny6DnMEPzwmrwyfQCYNJjqziAT7EJXkjSaxkFN3qSVPbfKDdiH5LBbSq1whbBoKa0zNYKVD7FNbhikD2lUrYB2kH3QpO1B6CedWjT_ds_jvygH_nQ1wmMXl0a61BPnS"
def b168:AX:=(fun p0=>QY [p0] [(AV.i .i64 (-1))] "xKFozPujkqfjFAPQzFzfzS2lZ0PH9WaYn9W1iBTBEAMmYM3omaTmrr7fb8x6HhKS5") l168_0
def b173:AX:=QZ "ZJfdCPP4ky46tMhWENHrZwH73nFPlvRkW0gYGK4nPDwzO6mrq9WIZf_oG5H6gKNmANDd4gemX00PxeOhpr7QLrlPSEF306a1e8iFfadXQKJ9mrnmTkS"
abbrev row189:AFx:=⟨1,9,[.t 2],b189,none,false⟩
abbrev row190:AFx:=⟨1,21,[.t 2],b190,none,false⟩
abbrev row181:AFx:=⟨1,20,[.t 2],b181,none,false⟩
abbrev row180:AFx:=⟨2,23,[.t 4],b180,none,false⟩
abbrev row182:AFx:=⟨1,7,[.t 2],b182,none,false⟩
abbrev row168:AFx:=⟨1,123,[.t 2,.t 3],b168,none,false⟩
abbrev row173:AFx:=⟨1,36,[.t 2],b173,none,false⟩
class Za7 (T:Tbl):Prop where
 h189:Tr T 189=some row189
 h190:Tr T 190=some row190
 h181:Tr T 181=some row181
 h180:Tr T 180=some row180
 h182:Tr T 182=some row182
 h168:Tr T 168=some row168
 h173:Tr T 173=some row173
attribute [simp] Za7.h189 Za7.h190 Za7.h181 Za7.h180 Za7.h182 Za7.h168 Za7.h173
end
section
def l528_0:AX:=QZ "3jTbV_42e3zsDn2c2_EFYSFVYDKwQJyFRLaYrMmP_myXk72uB.hh__DydOMdOfvw_6RJdZ_zQ"
def l528_1:AX:=QZ "0jVypFy6X3PF9mEbYfuNxsNYmdsHwxXK3VFkrQdtwNv105Qgla467TJDaJeGDgurpAjrYH7MV"
def b528:AX:=(fun p0 p1=>QY [p0,p1] [(AV.i .i64 (-2)),(AV.i .i64 (-1))] "1IQxeRI_WUVEhmQjET7Iem.OnnyPjXrDVk8A1EaPCGeYtf3G8aCibfAEJLcYuFzhH3X7K6t2cci8zWlaSx0b6bjnHPVVMUOc4SCDmDhxk03U9V3") l528_0 l528_1
def b538:AX:=QZ "c9Egf9NQ6SeSKMr2RvM_UlOWYEsL2cT"
def b539:AX:=(fun p0=>QY [p0] [] "0s_FLKBa4mV_H1q5SLDewAp9AyizdHMMsxGNoyWuJYD.fxpP.03z1nWrcI138BSbSDt9jse9bzOpV0") (QY [] [(AV.i .i64 (-8))] "tuBEkiFdu2L_xLLPDLV1xJ7dFrGnu8wr4v0lLCK6D5y9UaTyXhNtIsCFNJhfoxYvJecyHeumc2kQ0qMdXQU.lE.hqDlHbvxXqDrbFztHlZDaiPWHdf6a784Gqg2XRz3BQ7dLYr8rSOXuvQ1kBHRjiIRdCTEkODwDsyMNQShCngzyHH5ILDI9sU64Cz3kxA4Ut0MlfobFPCl1t6BrNE4YUrLYoNRvSHwIjUn0.FwA.u1eIu2xsJVVknJHNyURiDYnmRpRnFeMJM2ZO.r.PTH0ROO402ymv7v1BIFMnXk221ofTCF1esATrrR3CSMuce2iE6yam4E4mrWW0dNop1YuINP78rUKRz2XT3NfHzFj")
abbrev row528:AFx:=⟨1,70,[.t 2],b528,none,false⟩
abbrev row538:AFx:=⟨3,15,[.t 6],b538,none,false⟩
abbrev row539:AFx:=⟨4,125,[.t 8],b539,none,false⟩
class Zcg (T:Tbl):Prop where
 h528:Tr T 528=some row528
 h538:Tr T 538=some row538
 h539:Tr T 539=some row539
attribute [simp] Zcg.h528 Zcg.h538 Zcg.h539
end
end Go.Ab