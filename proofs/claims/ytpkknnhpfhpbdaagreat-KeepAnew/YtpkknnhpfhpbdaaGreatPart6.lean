/-
  A calculus of values, boxes and code, and what functions of the program compute, proved in it.
  Conditions: none beyond those that the theorems state. (Part 6.)
-/
import Derived.Test.YtpkknnhpfhpbdaaGreatPart5

set_option linter.unusedSectionVars false
set_option linter.unusedVariables false
set_option linter.unusedSimpArgs false
set_option linter.unnecessarySimpa false
set_option linter.defProp false
set_option maxRecDepth 100000

namespace Go.Ab
section
def l263_0:AX:=QZ "lWtyY.AeZo3erN0A3bgJ9TYjRFbrzQB7qlga5M1ajXnS"
def b263:AX:=(fun p0=>QY [p0] [] "KGNcr3nxnVOkeBRSvzlO6_tVd829ltjfD9.kXLSTqdE_T1WpKlojybAwv") l263_0
def l266_0:AX:=QZ "UQGM08vAA8kJK_DasXacAdqGoyGdV1T5cAzzIjMTux4a8w9y_Cq2a0BK6.2_kUT"
def b266:AX:=(fun p0=>QY [p0] [] "4i20n5UcHX5qxyqqHdZ7e.EzNIjLjz7v") l266_0
def l267_0:AX:=QZ "mO9YUHQAVmRS2dwWu.Ak4Yrp0AihLaYu2MB1wQ7m1RHQeP9iKoqH4WA8SK.5mOY9GkOZSI8STIS.22U"
def l267_1:AX:=(fun p0=>QY [p0] [] "kP.mTzeG9KjzR7qxeFcqzJ9ugtrdQoL7MU34nlxIAfhPt9ZKvZMSGL8RMHgaEe4GYu9_TOBbwoYeCQV") l267_0
def b267:AX:=(fun p0=>QY [p0] [] "0XqJI4YtO2yAkYoFxs2sBMauQx9WmCNgq1.CHCjoHHtk7TWNS_ujWM2HptsQBJ2MV88d3MJJ") l267_1
def l269_0:AX:=QZ "1KVtK2Bo9e1pGi3Xy42j_eJCmXvz9603S0RcEcQqh6fzCLctSEpgNdnZdA2dmUdM8L6T"
def b269:AX:=(fun p0=>QY [p0] [] "XWS.Tp1TstaDPdR3nTv7ljw04lwUJyaEhs3c") l269_0
def l271_0:AX:=QZ "7qB4_wfI3vFGexVDn_WIjYIHxIFPwxFy98If5pCgF1dTeuUsWmdknqgAMS"
def l271_1:AX:=QZ "XNd0XvaT4C4S9KR8HK2crOy3XYxP8nxSutYCUnbYwZp7LHat5oM9P_lhONVwQNqhiV11AKY5PtMMU.mo407peQqGGq9DE35FQAQ"
def l271_2:AX:=(fun p0=>QY [p0] [] "NZ70.a7sGFDwV6nnO2NYR_VLgzZsBMksJm4L.mRDSylAbk9Bt8Xd7n1B92i6ZEpgGcOrlpcCg8p0HGjOnnnOLFIS") l271_1
def b271:AX:=(fun p0 p1=>QY [p0,p1] [] "8e3JJsq_0qXaxu7skqBQ5i81ig7GkdWHxCGqkHP5LKC9j1pZHwNc7xQlEiO_p97SMeP8Dc7cu84JicuDCzdsNX0FH5g23DFeEOptyNNkLzcXaWSgwAFK") l271_0 l271_2
def l2263_0:AX:=QZ "lWtyY.AeZo3erN0A3bgJ9TYjRFbrzQB7qlga5M1ajXnS"
def b2263:AX:=(fun p0=>QY [p0] [] "KGNcr3nxnVOkeBRSvzlO6_tVd829ltjfD9.kXLSTqdE_T1WpKlojybAwv") l2263_0
def l2266_0:AX:=QZ "UQGM08vAA8kJK_DasXacAdqGoyGdV1T5cAzzIjMTux4a8w9y_Cq2a0BK6.2_kUT"
def b2266:AX:=(fun p0=>QY [p0] [] "4i20n5UcHX5qxyqqHdZ7e.EzNIjLjz7v") l2266_0
abbrev row263:AFx:=⟨1,20,[.t 2],b263,none,false⟩
abbrev row266:AFx:=⟨1,19,[.t 2],b266,none,false⟩
abbrev row267:AFx:=⟨1,47,[.t 2,.t 3],b267,none,false⟩
abbrev row269:AFx:=⟨2,22,[.t 4],b269,none,false⟩
abbrev row271:AFx:=⟨3,78,[.t 6,.t 7],b271,none,false⟩
abbrev row2263:AFx:=⟨1,20,[.t 2],b2263,(some [false]),false⟩
abbrev row2266:AFx:=⟨1,19,[.t 2],b2266,(some [false]),false⟩
class Zbt (T:Tbl):Prop where
 h263:Tr T 263=some row263
 h266:Tr T 266=some row266
 h267:Tr T 267=some row267
 h269:Tr T 269=some row269
 h271:Tr T 271=some row271
 h2263:Tr T 2263=some row2263
 h2266:Tr T 2266=some row2266
attribute [simp] Zbt.h263 Zbt.h266 Zbt.h267 Zbt.h269 Zbt.h271 Zbt.h2263 Zbt.h2266
end
section
def b268:AX:=QY [] [(AV.i .i64 (-1))] "16wzVtHAH4OFh7YGfhkxSCDJwZAtJ4R0wjC9ILCQ08"
abbrev row268:AFx:=⟨2,14,[.t 4,.t 5],b268,none,false⟩
class Zgo (T:Tbl):Prop where
 h268:Tr T 268=some row268
attribute [simp] Zgo.h268
end
section
def b185:AX:=QZ "0Otpw8Yz0l8sRpzOcPleDoVIiGYJnd3.2"
def b186:AX:=QZ "xvvpyHa_BWVqDKLvKfK_ciVLmbvt5WxmI.a45wrAVkcVBB0FPcIZ2EEEsvcp.NfwUbq7atIBodwZE"
def b177:AX:=QZ "oXG9QlkMpxz3LAV2Xu3MscqioS2WTwe3EFS9Sp0C61m4KATy5x89VMTNlAXNJCV_gVtijga"
def b188:AX:=QZ "487LhKhYjoJFeHBQqvLfoxkW3I4x.bvmxGSzG3gvsJfGlSLj_fvApsN4SuijipSZGs3N"
def b179:AX:=QZ "GrDWrqoU7t9pEFMDOM2vxmrSPuWcwcAEgL3ykJlFwPqgZS.ZDonklE"
def l178_0:AX:=QZ "iEKHwmklB2zx3Ka9IRGp9IChc4SBTZB1qFiUQPwlH01ibEs2V"
def b178:AX:=(fun p0=>QY [p0] [] "1x3y8WCUncWvP6ikA.firYlD") l178_0
def b172:AX:=QZ "Fir7794qlNNxSzwDY3.9GsVWIbgoZGkJwreMAlfHLbOikikP7VBnC4ppBuR3UTms1lGSK7kklcgPZ5B43OMIDMjBFrvsclE2zxgDtpda1hhoBgHVMJNS8NqOs_Rg"
abbrev row185:AFx:=⟨1,9,[.t 2],b185,none,false⟩
abbrev row186:AFx:=⟨1,21,[.t 2],b186,none,false⟩
abbrev row187:AFx:=⟨0,0,[],.prim prim187,none,false⟩
abbrev row177:AFx:=⟨1,12,[.t 2],b177,none,false⟩
abbrev row188:AFx:=⟨2,23,[.t 4],b188,none,false⟩
abbrev row179:AFx:=⟨1,8,[.t 2],b179,none,false⟩
abbrev row178:AFx:=⟨2,20,[.t 4],b178,none,false⟩
abbrev row172:AFx:=⟨1,38,[.t 2],b172,none,false⟩
class Zde (T:Tbl):Prop where
 h185:Tr T 185=some row185
 h186:Tr T 186=some row186
 h187:Tr T 187=some row187
 h177:Tr T 177=some row177
 h188:Tr T 188=some row188
 h179:Tr T 179=some row179
 h178:Tr T 178=some row178
 h172:Tr T 172=some row172
attribute [simp] Zde.h185 Zde.h186 Zde.h187 Zde.h177 Zde.h188 Zde.h179 Zde.h178 Zde.h172
section
variable{T:Tbl}[Zde T]{d:Option Nat}{st:St}{xs:List AV}{ps:List Opd}{e:Env}{h:Heap}{ol:List Heap}
def p187(xs:List AV):Za T 187 xs=prim187 xs:=zuo Zde.h187
end
end
section
def b536:AX:=QZ "_S6yffhGlde3uI7BQD2kn"
def b551:AX:=QZ "ZxRH_Xa..7DPP_HczYO1uZ5_0SQTCIMirmS.XXl5mWi63h0Wgyso29LJMOmP.JOcZLcx4VJmv4vYBy32tQoRUQDB2INay4L8xG_oqL.827zOhcBDf6Mvdzdy.sQIxk3ofUbh4.QJlGlJESnNO6XpkTsTefUQQIIIqoHKElz4reyuhLM9c67zRyom9amvl9ziCRzS4OxtSlQTDdWGAWAAKm9lNmMg5ulm_.ODGyljzxRshO395nWfLwWWkjV1Nu_ok"
def l559_0:AX:=QZ "1gizuPrijRM6qeH8gax8gyp38Jg8Kxg_sVIb2DUyiy35xPKeZgoP2kbR"
def b559:AX:=(fun p0=>QY [p0] [] "0MYHqGKFxH6TTpIxIpStzE2hXjxxlO1bMQGk2PuHG4oci6lVDiGEPUdBjCkYQjL0ZLuP1rSRUt66fwq..Z21VrLrZAmzmT7804z8MY3WvCfYMQ1gl7wjpouzSeNWKQl0jvj1Mi9jKVQR8w9") l559_0
def l560_0:AX:=QZ "R.vhRHaaU9q1KIKykZu7Y6nVyQ1MQgfglmiNWcKmfGHyhnHzhyCYMqUO9FHfC8fqYksjMJ_1bpRmtCfU"
def l560_1:AX:=(fun p0=>QY [p0] [] "5KOgxhDf3d_bdPEyTqniYpA99TI2D1E4PZqer9isAmG75U4uKjU") l560_0
def b560:AX:=(fun p0=>QY [p0] [] "3Jenr9HFjg4fA.gORwIQxB") l560_1
def l561_0:AX:=QZ "PJkBImhuRB1Ha4Wp5kb3zS0yP298UL.NSYc6iAYYdWgsFYP6Bir.L_lODQO8OMmk03iQUQ"
def b561:AX:=(fun p0=>QY [p0] [] "pCPPmub0yzfm1tu35LdWNb6JH") l561_0
def l562_0:AX:=QZ "T5yXUGJVpdTBev7gM54K9hSxFYv5235PLVZ0QcU3A7CxKXXh7tfc.6Q"
def b562:AX:=(fun p0=>QY [p0] [] "7VjU89WgTWKs8WozoKrAWkqgC4RblNOesk.jxFsuF6lyl5e78Bo") l562_0
abbrev row536:AFx:=⟨1,6,[.t 2],b536,none,false⟩
abbrev row551:AFx:=⟨1,55,[.t 2],b551,none,false⟩
abbrev row559:AFx:=⟨1,55,[.t 2],b559,none,false⟩
abbrev row560:AFx:=⟨1,29,[.t 2],b560,none,false⟩
abbrev row561:AFx:=⟨1,23,[.t 2],b561,none,false⟩
abbrev row562:AFx:=⟨1,18,[.cell 2 (some 3)],b562,none,false⟩
class Zal (T:Tbl):Prop where
 h536:Tr T 536=some row536
 h551:Tr T 551=some row551
 h559:Tr T 559=some row559
 h560:Tr T 560=some row560
 h561:Tr T 561=some row561
 h562:Tr T 562=some row562
attribute [simp] Zal.h536 Zal.h551 Zal.h559 Zal.h560 Zal.h561 Zal.h562
end
section
def b555:AX:=QZ "JJG7UX8BBPCh44mHHdPkupXyKiB73ZRXKaDw0K2ZqdKz7hvpkHdUnYg7uowaND8veVtBVJlH7PU4ZYrTF6gE"
abbrev row555:AFx:=⟨1,23,[.t 2],b555,none,false⟩
class Zgp (T:Tbl):Prop where
 h555:Tr T 555=some row555
attribute [simp] Zgp.h555
end
section
def b524:AX:=QZ "2_62IrWhkLK6IkDttEhDO9on2GNHO4kNRVc1uAKwydtswTSWwDP2pnPW6K6RYSBtD"
def b563:AX:=QZ "0LgtkmqFSPlJZ1og0a39TiJCJVR.YHTE1zHMToWE"
abbrev row524:AFx:=⟨1,20,[.t 2],b524,none,false⟩
abbrev row563:AFx:=⟨3,12,[.cell 6 (some 5)],b563,none,false⟩
class Zeu (T:Tbl):Prop where
 h524:Tr T 524=some row524
 h563:Tr T 563=some row563
attribute [simp] Zeu.h524 Zeu.h563
end
end Go.Ab