/-
  A calculus of values, boxes and code, and what functions of the program compute, proved in it.
  Conditions: none beyond those that the theorems state. (Part 7.)
-/
import Derived.Test.YtmojeopgpabkhaaGreatDoorPart6

set_option linter.unusedSectionVars false
set_option linter.unusedVariables false
set_option linter.unusedSimpArgs false
set_option linter.unnecessarySimpa false
set_option linter.defProp false
set_option maxRecDepth 100000

namespace Go.Ab
section
def b76:AX:=QY [] [(AV.i .i64 (-1))] "4qsSzR3RRL2_VK9pW1etRxW8y7pGaiQFLs8HpbNUgWTb8xBhZ.R1b20XHQI9soG30ilw7mBdmkC2Or4BSXi.xdI0DiarZzpA6cqXUsMNVH72jg4ZH9Cyd_8gqQ50yFmzVk8ZawsXEewyLDkoiN9YyPB8cj3q3m24OqBDV8K72"
def l74_0:AX:=QZ "B8r8bvdw5F2iJRe0Bq1JV3WfdjoPI9W_YCcvOalRW6lC6NIrlJu8brSDsOjCyJV3VX611U760RvcwIFE3QLTiobqoX8_PvFyqvNNh8WLQAB4Q_"
def b74:AX:=(fun p0=>QY [p0] [(AV.i .i64 (-1))] "0lQaq9PmXx9.A5hLRlFXSDj6BH4M5CfOgSra_Q8Bk7IpbdWwY") l74_0
def b108:AX:=QZ "PsjyN2vVZtZ6ybYiXZ7xklZOlipV3A"
def b107:AX:=QZ "5itFc51glErOtwhLgR4lt9tu9XHjyfgldvhcoyt.Sd5"
def b75:AX:=QY [] [(AV.i .i64 (-8))] "AyPT9rBLN2OvYHZl54ZYznjHXITNksQNJKxKUBVVjkYS5g_pMYKNMjpTVPXAF8JO8pgYh1qqnr3l1JcWC4hu2rG0NWOG836C_G.PMqbHu7uezx5LujPCylYjahzXziUXa5RXM3LExTq5CRq8L.wRBVP0AyI_kUG64CoeE89sBO1Xu31rPb9fk5HWH_lskYIemhS4iR0oxhS_PCizow2h3e4gwBpYMneYUnH2cXgR_7cskKbKUwNQfogCOqXjMExcVtit.6"
def l46_0:AX:=QZ "_q2uKZqhSy.muysMAtICSK4koM.hI2nlbxjyLL0OS0XCepv05lnQJS9fBmP79VQMRjO0iEw1q3dZ_q33xL9rh4XxrC76.zpTEb"
def b46:AX:=(fun p0=>QY [p0] [] "RxkhLOZ5.DtBqnzwaNRGVSIXYIX5T8OSuHTrn7z0GUHd1") l46_0
abbrev row76:AFx:=⟨1,18,[.t 2],b76,none,false⟩
abbrev row74:AFx:=⟨1,34,[.t 2],b74,none,false⟩
abbrev row108:AFx:=⟨2,12,[.t 4],b108,none,false⟩
abbrev row107:AFx:=⟨1,14,[.t 2],b107,none,false⟩
abbrev row75:AFx:=⟨4,67,[.t 8],b75,none,false⟩
abbrev row46:AFx:=⟨4,35,[.t 8],b46,none,false⟩
class Zax (T:Tbl):Prop where
 h76:Tr T 76=some row76
 h74:Tr T 74=some row74
 h108:Tr T 108=some row108
 h107:Tr T 107=some row107
 h75:Tr T 75=some row75
 h46:Tr T 46=some row46
attribute [simp] Zax.h76 Zax.h74 Zax.h108 Zax.h107 Zax.h75 Zax.h46
end
section
def l10_0:AX:=QZ "0JlD9YW07PrqVIuTzt4MPhYFKqNRMckibA_POAKCsZCmtWEYr4t8SLiBHlMAenxA.sYc"
def b10:AX:=(fun p0=>QY [p0] [] "8umZbkNBmphtBaYnnAg_UNgLhObtJuRy") l10_0
abbrev row10:AFx:=⟨3,31,[.t 6],b10,none,false⟩
class Zd9 (T:Tbl):Prop where
 h10:Tr T 10=some row10
attribute [simp] Zd9.h10
section
variable{T:Tbl}[Zd9 T]{d:Option Nat}{st:St}{xs:List AV}{ps:List Opd}{e:Env}{h:Heap}{ol:List Heap}
@[simp] def x10:Zar (orc T) T 10 xs d st=cP T 10 false xs d st:=za9 Zd9.h10
end
end
section
def l13_0:AX:=QZ "6rcAbuRVgB2FUZMNar.I4HR5IBVvKchXi6Oj57VrlozW0Yva5MQmRIasBpVdh6gPWQGBiHINvOZkFrc"
def b13:AX:=(fun p0=>QY [p0] [] "2qp5Q4TgEDFexnQrKNju4H9sb3KI") l13_0
abbrev row13:AFx:=⟨1,31,[.t 2],b13,none,false⟩
class Ze9 (T:Tbl):Prop where
 h13:Tr T 13=some row13
attribute [simp] Ze9.h13
section
variable{T:Tbl}[Ze9 T]{d:Option Nat}{st:St}{xs:List AV}{ps:List Opd}{e:Env}{h:Heap}{ol:List Heap}
@[simp] def x13:Zar (orc T) T 13 xs d st=cP T 13 false xs d st:=za9 Ze9.h13
end
end
class Zka (T:Tbl):Prop where
section
def l109_0:AX:=QZ "0.MQX5BZoeMJ_qIX37Z_ktx.Kw4pEAkCGEQ15SP76uAd9sj4dQDEKNEa.yOSmdXYbfEssvVNvlQizuyyS0Q2_"
def l109_1:AX:=(fun p0=>QY [p0] [] "3l3vjX834GnX5ZESlITNdOgDBvENuDU6Um.AvX3OmiGu48BbgITuG93.nc") l109_0
def b109:AX:=(fun p0=>QY [p0] [] "G7.uUBGOG_cw9WdnP_Gx0rFCtm_7CX58YSdhp3lJPWRWZgrbLxA") l109_1
def b48:AX:=QZ "CU8ddMYHgSMWjKBsBDGCQs7ePnD3NrHRonoLzMvPKV41VzDO6Fz2tGAcF"
def b110:AX:=QZ "6NGNgmRjqcbKraMmMZ7QHbcAWhQs9vT0NL"
def b111:AX:=QZ "0Vvf.1uUSUw6kF4VAjmN9qb9.Mh8l8IGvxWK.RRegRWcxwIvTHsDCVP4jezbcRYCo226HYoIGtRgxzDlCcVnhtfG9EjwzAdGn4AXhMNyJHG7"
def b112:AX:=QZ "6tLYoddh1ADlO63n79WgW3l92AZs02CCHpwESrkNslzS40DoaBy81qm1BCGMESbfQsNUm9J2lAh8rRbxJ1"
def b78:AX:=QZ "gHWTRGyXjfT4cLNRoyGd_B7r7b6up7C8LZd5y456X06LS.JZ..9JU0F.z9ecfFuIIPtHSgAcASNnHTai6QOwk2UzRwt_Qh.qwC_y4QlIBb_mriMEX.ZtPuQ4V8MqVuUVjJi9SkEs1n5sTd.VPS91NxZ4pO7_TMzU3_BkOoN3cLWQgwlHPpd2oPGDejcLzaCfuoy1zdypPUkLCI"
def b77:AX:=QZ "sqPyma1EHKYpI6TXMrY4Q2TSvSjgor7JKFgzWKv7yQeXD8VXhMQ2AVmjfNHckmNg7Ava8txry7Ss7FLcKa2rid_QhK3zGaSjRUEGomD_00rVjRxInt04kRmxZmHGMga4pPeuBs_GJMRcu8zSPLShQqV.cCdSAZC6XKWIzGBThS_gqYAkt.Tj2pkoybEe0FrIDdzu4EK7kz4d_Am9BtRHoHNFOAnSLUB_UHpSJn3b6XqOmMRI62xSmnVK7Xki9R70ZuHjXffkx"
def b53:AX:=QZ "7R3Fuk0cvbHuo7itjukDiMIEMfR.RE1NEEPj2ekajlk4tNb"
def l47_0:AX:=QZ "x..uAyPZZV7pTCFqL7e3Hj8KPOTOcS8YUS080P.4esh..pzNE1oInmXzLCvITauDEmfKYa"
def l47_1:AX:=(fun p0=>QY [p0] [] "1kes.aPSdSfKxaKuUY6T78iD5nH1GmuNmge0uONn8dAxShtvbjTUlxr32iwseQPayjUHqCwfiD48jI2g6i3ZvmlOsoqYZ5bLhKyVUQ_HVh3wszmyWhaqzqFwcvGNodpBDYnJ9Q.n8qfHVNarqIghbJqPes3wF7ySnzTnmzqPPV4xufSmNH_uqwUalY9cJVD9Hd27t2l4QFcYd0PQBmgCjNpAli.mP0iteqK6AfB1npl3vOJoZuZIARdu7K0gH2oaVY2GZUBcJ7rezn_f9fD8mwGcIivRATq45cGNuX8hY_") l47_0
def b47:AX:=(fun p0=>QY [p0] [] "cc9dPTaeR7_ZsnBUUEHv52UulcYzhPqvh2LHpMpxP4cc3") l47_1
def b45:AX:=QZ "4YunuqhmXDvaXsrrk_keX0pqIk1IuzT7nap87KyxqtswNgix..RGx8AxSOfrleICCC4BfNq"
def b12:AX:=QZ "1t7y5Y49LnjgU7uDJvODIw_8r5FNIYfMa1Jk.x7qJ6Huisi5HeS_xJzuqhmCoQGiCTtEyR0gUSlTczjUbosxw23qAegwruN2MFlobuvNJVOMp_cu"
abbrev row109:AFx:=⟨2,40,[.t 4],b109,none,false⟩
abbrev row48:AFx:=⟨1,12,[.t 2],b48,none,false⟩
abbrev row110:AFx:=⟨2,11,[.t 4],b110,none,false⟩
abbrev row111:AFx:=⟨3,26,[.t 6],b111,none,true⟩
abbrev row112:AFx:=⟨4,24,[.t 8],b112,none,true⟩
abbrev row78:AFx:=⟨3,56,[.t 6],b78,none,true⟩
abbrev row77:AFx:=⟨2,69,[.t 4],b77,none,true⟩
abbrev row53:AFx:=⟨2,17,[.t 4],b53,none,false⟩
abbrev row47:AFx:=⟨2,91,[.t 4],b47,none,true⟩
abbrev row45:AFx:=⟨1,11,[.t 2],b45,none,false⟩
abbrev row12:AFx:=⟨2,27,[.t 4,.t 5],b12,none,false⟩
class Za4 (T:Tbl):Prop where
 h109:Tr T 109=some row109
 h48:Tr T 48=some row48
 h110:Tr T 110=some row110
 h111:Tr T 111=some row111
 h112:Tr T 112=some row112
 h78:Tr T 78=some row78
 h77:Tr T 77=some row77
 h53:Tr T 53=some row53
 h47:Tr T 47=some row47
 h45:Tr T 45=some row45
 h12:Tr T 12=some row12
attribute [simp] Za4.h109 Za4.h48 Za4.h110 Za4.h111 Za4.h112 Za4.h78 Za4.h77 Za4.h53 Za4.h47 Za4.h45 Za4.h12
section
variable{T:Tbl}[Za4 T]{d:Option Nat}{st:St}{xs:List AV}{ps:List Opd}{e:Env}{h:Heap}{ol:List Heap}
@[simp] def x12:Zar (orc T) T 12 xs d st=cP T 12 false xs d st:=za9 Za4.h12
end
end
end Go.Ab