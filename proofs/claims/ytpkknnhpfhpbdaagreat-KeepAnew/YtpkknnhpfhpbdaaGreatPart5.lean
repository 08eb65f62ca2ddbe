/-
  A calculus of values, boxes and code, and what functions of the program compute, proved in it.
  Conditions: none beyond those that the theorems state. (Part 5.)
-/
import Derived.Test.YtpkknnhpfhpbdaaGreatPart4

set_option linter.unusedSectionVars false
set_option linter.unusedVariables false
set_option linter.unusedSimpArgs false
set_option linter.unnecessarySimpa false
set_option linter.defProp false
set_option maxRecDepth 100000

namespace Go.Ab
section
def b208:AX:=QZ "4t1tLeKXfK69kR6iNCB2YkqdQuX0_xXzpuOqQqcrbUhbzrxhguVJ5zEGwvmeDhHPbVyYHPPs3G4cmFncZSs9uW93sR8PqV.e4MKzKbWY8EmiOpnfOndlDYYAZPQfifNScc3QJcgiCdqUTvyppEDLPLT_mX6ZZadxSG"
def l219_0:AX:=QZ "WpJn4T6wtgnXUpFy8YilJew_AiwsvWcwH6FMU"
def b219:AX:=(fun p0=>QY [p0] [] "_02mxo1PBoQpWem5E1mXVxju3UxV4sdNKYXDOI") l219_0
def b220:AX:=QY [] [(AV.i .i64 (-8))] "2V1AQdNho2QG22Dk.O_gwgIw.taiOcdavX8.7U1uieJrvV1QRPpJI7ZJ0Y1jhLNl7hgWMuSELEIT2P8s7iFW7J6_UcUvmM.s6dCe67HAHjGjo4TeP9QEuZ3tKR4EsznoL7dnpjmHoEHMxgpo7Qu.bnUQm2.lo_yd1WNV.aBXzcih93S3gl7FNaqgWWioGLCga5xOtwrug_au72KU2DmMF9WCO.u"
abbrev row208:AFx:=⟨1,51,[.t 2],b208,none,false⟩
abbrev row219:AFx:=⟨2,15,[.t 4],b219,none,false⟩
abbrev row220:AFx:=⟨2,58,[.cell 4 (some 3),.t 5],b220,none,false⟩
class Zad (T:Tbl):Prop where
 h208:Tr T 208=some row208
 h219:Tr T 219=some row219
 h220:Tr T 220=some row220
attribute [simp] Zad.h208 Zad.h219 Zad.h220
end
section
def b223:AX:=QZ "H4nUG9PfQJre3xDwWs9WCs0RopwKcy"
abbrev row223:AFx:=⟨1,11,[.t 2],b223,none,false⟩
class Zap (T:Tbl):Prop where
 h223:Tr T 223=some row223
attribute [simp] Zap.h223
end
section
def b356:AX:=QZ "0YTZIzsGhanf1EE7u0lYB6FNvCvr5EMdGf4W6Zq1f6VvRAeaBPsXYz7wZqzF.mr9zTHGI66jh3"
abbrev row356:AFx:=⟨1,20,[.t 2],b356,none,false⟩
class Zc5 (T:Tbl):Prop where
 h356:Tr T 356=some row356
attribute [simp] Zc5.h356
end
section
def b421:AX:=QY [] [(AV.i .i64 (-1))] "0LG4BVtRes6ynwMaszzPS8"
def l430_0:AX:=QZ "Cv0X.1dD_0cKzCVtHA3PKwGfRPcCQBs9UUERLhaEWNW8xF.1DtVVY6V"
def l430_1:AX:=QZ "Ay1BFL0YvPwMlnaCY9LfC_7VET7cKHbG1BNGp.Kt09d8fWGFSy_Ec_57DQeD8EQIT"
def b430:AX:=(fun p0 p1=>QY [p0,p1] [(AV.i .i64 (-2)),(AV.i .i64 (-1))] "1Z7uAs.kPXmVtZP.6p6BjcoX_4Kqs42H4xP9S4twpvaByXttYtIzXMvNnPlw7c0") l430_0 l430_1
def b433:AX:=QZ "9Uzwu5yQzOTrDaTTOOIl7sGbyuofPxLYltQNfAx81n5njozKsQTOOv0tqjANAA17Vsui3OvKT3y81YZbm8NC"
def l434_0:AX:=QZ "585oLE7UKll9a23If0aOmv2anETOumspXOoT8Ghyx5PNjzclx.uN7fAxYV"
def b434:AX:=(fun p0=>QY [p0] [(AV.i .i64 (-8))] "ft77r_BZzOpQ8vhFXstr_OLtZ4KqAayrsKH.1EZP1NkH4QDVyjmnbCKNTQmmTsKqwrB5R8ahn_xyGLZs8ZJwWYSKc.0KJ1_BP3t3hy7GBxrdmHh8PDGh5aRxxVjPIHEBXeKXI3vA0j18rdVpTNlnLWL6fmBE91IkLTpZJFga1K8MXw20Kcfh7LX91V7IJRG.DbHmafH.s6.UJNWboEMGia5Rlp0usT7t6csfokQ.PhhHje5ondK2v.43H4S49V17KOuWfEm2TxUFzHDH9qyljZAZSJ7GgGGEOT4X6qmlBP6hYELXN61fgvBJUaPvjxY2b3ZAK4lDqVmOxqbJwJjA.UYGbR1SYG0DXUbVu") l434_0
def b435:AX:=QZ "xL6W6F28E04F_CblbEWfBrYkGqJJv"
def b437:AX:=QZ "9NMKlO7LSSzV2S7vZuC.yCZc08P3Il0"
def b438:AX:=QZ "2IvQ5y.jxuvpVYh0AJuql4nQ0L0vHm4UtvdD1j26tj4yWX9_aTI1XPJH"
def b439:AX:=QZ "8eRLJNvW2U6x7Z_IJyqhbMpvHpl5aY1m4rJ8s_KOgveTtdQHBv3OrL9IyeOCoB5fIV8e0vIWtxXW8APXMI3gzrT_8TZeAA14RJiF2Svdt_SDqZzX5p2eJ9.0e028qjSTBS"
abbrev row421:AFx:=⟨1,6,[.t 2],b421,none,false⟩
abbrev row430:AFx:=⟨1,38,[.t 2],b430,none,false⟩
abbrev row433:AFx:=⟨1,26,[.t 2],b433,none,false⟩
abbrev row434:AFx:=⟨2,92,[.t 4],b434,none,false⟩
abbrev row435:AFx:=⟨2,12,[.t 4],b435,none,false⟩
abbrev row437:AFx:=⟨1,10,[.cell 2 (some 3)],b437,none,false⟩
abbrev row438:AFx:=⟨1,20,[.t 2],b438,none,false⟩
abbrev row439:AFx:=⟨1,21,[.t 2],b439,none,false⟩
class Zah (T:Tbl):Prop where
 h421:Tr T 421=some row421
 h430:Tr T 430=some row430
 h433:Tr T 433=some row433
 h434:Tr T 434=some row434
 h435:Tr T 435=some row435
 h437:Tr T 437=some row437
 h438:Tr T 438=some row438
 h439:Tr T 439=some row439
attribute [simp] Zah.h421 Zah.h430 Zah.h433 Zah.h434 Zah.h435 Zah.h437 Zah.h438 Zah.h439
end
section
def b406:AX:=QY [] [(AV.raw (.pointer none)),(AV.i .i64 4096)] "KQLMEe0XUGvsbTvPVR0qXzLrKot"
def b411:AX:=QZ "9OSxlI4TZUGJhva2YY0h3l1Y8Oc28TIbzZ_oFBcACtvMYVcu"
def b426:AX:=QZ "3L3hnH.tMc9XEB_Jf980lU.Sm3QssKRRv2NVCg5"
def l413_0:AX:=QZ "_AL3AGnaKnf81nwYdr1couOj4qmeWGuctErwYhSkQv9z7TJb.ue1qs2GyuEL0qH01oBS2RUkkrT"
def b413:AX:=(fun p0=>QY [p0] [] "1UPE81vNJuUQDiDZfrNigM6uSp.JCwTFep8") l413_0
abbrev row406:AFx:=⟨1,8,[.t 2],b406,(some [false]),false⟩
abbrev row411:AFx:=⟨2,19,[.t 4],b411,(some [true,false]),false⟩
abbrev row426:AFx:=⟨2,20,[],b426,(some [true,false]),false⟩
abbrev row413:AFx:=⟨2,23,[.t 4,.t 5],b413,(some [true,false]),false⟩
class Zaf (T:Tbl):Prop where
 h406:Tr T 406=some row406
 h411:Tr T 411=some row411
 h426:Tr T 426=some row426
 h413:Tr T 413=some row413
attribute [simp] Zaf.h406 Zaf.h411 Zaf.h426 Zaf.h413
end
section
def b405:AX:=QZ "Q8BFcTSkIr8aX.mvlQDU6yVLDmfJhKUWyavdGVtt87WMiOK41"
def l420_0:AX:=QZ "UQGM08vAA8kJK_DasXacAdqGoyGdV1T5cAzzIjMTux4a8w9y_Cq2a0BK6.2_kUT"
def b420:AX:=(fun p0=>QY [p0] [] "4i20n5UcHX5qxyqqHdZ7e.EzNIjLjz7v") l420_0
abbrev row405:AFx:=⟨1,13,[.cell 2 (some 5)],b405,none,false⟩
abbrev row420:AFx:=⟨1,19,[.t 2],b420,none,false⟩
class Zbl (T:Tbl):Prop where
 h405:Tr T 405=some row405
 h420:Tr T 420=some row420
attribute [simp] Zbl.h405 Zbl.h420
end
section
def b384:AX:=QY [] [(AV.raw (.pointer none))] "O6mDCcu_ZNAb9TathIv.FlG5QWZBNReXmqdLW7LnGtEo4BTF2hEFFZ0nklhwz7aInmmL3FBM8VtDhAUlqFBupKxjZtuPRlLNu4pCkTYNm"
def b389:AX:=QZ "RKkkSZuCbH8u0ibbLvKF61CgOSHmt4wAP8NNLf4OYTMduIJOUnDKEU.adOwFXbSwWPT8ax6rqfh.QNfIIz.4V7aWAX.kEq4OwVjsuY2zwtTVe89ofpHyMy56.pXJ0"
def l407_0:AX:=QZ "5o9RCnLDM9YL3qI0ZzNNFluM9ZnB4Ho93lBTPEQip4Kfh18pHsyoAn_hFkqHLq_c5hHakFHHvt08rMcShRmU8t053n5IHkN5ES8zBkyVAk0IM6JBcSCpk..VQrUToa9PGGEWYpBhhe6dIHJC3LiyBViXcdBLPNYbVd9dmE58d3M2.vcvI0W1XVDmyUECcWKj6eELVHlw..ekkkhXToB8zHzQ"
def b407:AX:=(fun p0=>QY [p0] [] "G88znSqQYArbxZOvLEgsBz45xl1KtmcjThuR4TobDuQv26VJxqXpzrJvNvzmt06X4bP3GivK3t5VvIRb3O3KJXNYYoHmblYaQL_2JtVuS0vrH6Qqq4VITnJJCpjEZxAZA6nt3IjFGJm8YPxgahJflK") l407_0
def l409_0:AX:=QZ "Oy6kTYEya7LWrTfjYxrd6K7VxRmL.nCdj2L5YeQcEmvv2jdgI3aNmOlwQ0YTK76Q"
def b409:AX:=(fun p0=>QY [p0] [] "BPewpA06PDO3tLKEiXCK.7RgQB6qKlpnyTv1qh5TCvdYBySFQGDfOGj4CKC34lLICEEaK5xuSzCvFsT2RE") l409_0
def b422:AX:=QZ "0dUwrVrd5vYADxrRqsuT7yiL5VZ5ZsmtFdv9i0OH7MUA6cQ6rP7MQpefmbSRzcG3cEVzjOu4CQYiEyod769uqBUwV2lGas4BIuBYkdgzU10W6XDllcDXIqsWZBz8NVUIIFPY_QAl2NXRux_5BkOce0QtLE3wDAW_ljamE5A2bZ.5YTaZr4ojbhBMuDk128NFYsMPU6Cv9CWwtE3l4Ce39QPan2b5xbQLAJZC7BXwqY_PsEO3pS1n1p5_yw.BffskDoFZmSCjA04a3x7sd4soiiN4uO8KP6rkLg53DUf8MoG4IqTUVwb2yBzoBUoO_FuJsdRagU6h_U6cAdmk0oEmQLXJRJH_jg6Vs8dGBXFYJPoDv7iNNI7t1emfpManP7fKy0lhrLxQCGg_W0Ir_Ky3bImx2R8"
def b431:AX:=QZ "5VTLHgE6g34c8PCkF86iOZeag_PHn9NG7Lj7IwfEsSCDTvNEF9KBIqyfeWAGKvoa58I.TnUtYZtbNjY.a2vNytRj9o9m8UnQKHD0rvw_wkTjb3KFE9WmOASnHSNowkZ5prg_"
def b441:AX:=QZ "1jQpWITrHNIcwR9vTYQa5P7Y.R7ct"
def b442:AX:=QZ "z_89EhcefktuV7pupjMaphiO7"
def b443:AX:=QZ "1jQpWITrHNMw7Mzo11hr7JEeOhxdK"
def b444:AX:=QZ "3uha2OA8T7Xv4Hhtq1cumJL"
def b445:AX:=QZ "3uha2OA8Pmj1Cum4zL1JeJ."
def b446:AX:=QZ "QwJLpuQ.prWINE3jkj8n52oAT1GM6kcPBKS8"
def b447:AX:=QZ "21P0Ub1Z8yuHY2VH_.4PZ1vAfY.16UdKogaUt.G"
def b448:AX:=QZ "1jQpWITrHNMlCeWT9HQR5EbFyQ2cO"
abbrev row384:AFx:=⟨3,27,[.t 6,.cell 7 (some 4)],b384,none,false⟩
abbrev row389:AFx:=⟨3,25,[.t 6,.cell 7 (some 4)],b389,none,false⟩
abbrev row407:AFx:=⟨3,70,[.t 6,.cell 7 (some 4)],b407,(some [true,false,false]),false⟩
abbrev row409:AFx:=⟨2,36,[.t 4],b409,none,false⟩
abbrev row422:AFx:=⟨4,108,[.cell 8 (some 3),.t 9],b422,none,false⟩
abbrev row431:AFx:=⟨3,35,[.cell 6 (some 3)],b431,none,false⟩
abbrev row441:AFx:=⟨3,10,[.cell 6 (some 3)],b441,none,false⟩
abbrev row442:AFx:=⟨2,9,[.t 4],b442,(some [true,false]),false⟩
abbrev row443:AFx:=⟨3,10,[.cell 6 (some 3)],b443,none,false⟩
abbrev row444:AFx:=⟨2,7,[.cell 4 (some 3)],b444,none,false⟩
abbrev row445:AFx:=⟨2,7,[.cell 4 (some 3)],b445,none,false⟩
abbrev row446:AFx:=⟨3,13,[.cell 6 (some 3),.t 7],b446,none,false⟩
abbrev row447:AFx:=⟨3,13,[.cell 6 (some 3),.t 7],b447,none,false⟩
abbrev row448:AFx:=⟨3,10,[.cell 6 (some 3)],b448,none,false⟩
class Zas (T:Tbl):Prop where
 h384:Tr T 384=some row384
 h389:Tr T 389=some row389
 h407:Tr T 407=some row407
 h409:Tr T 409=some row409
 h422:Tr T 422=some row422
 h431:Tr T 431=some row431
 h441:Tr T 441=some row441
 h442:Tr T 442=some row442
 h443:Tr T 443=some row443
 h444:Tr T 444=some row444
 h445:Tr T 445=some row445
 h446:Tr T 446=some row446
 h447:Tr T 447=some row447
 h448:Tr T 448=some row448
attribute [simp] Zas.h384 Zas.h389 Zas.h407 Zas.h409 Zas.h422 Zas.h431 Zas.h441 Zas.h442 Zas.h443 Zas.h444 Zas.h445 Zas.h446 Zas.h447 Zas.h448
section
variable{T:Tbl}[Zas T]{d:Option Nat}{st:St}{xs:List AV}{ps:List Opd}{e:Env}{h:Heap}{ol:List Heap}
@[simp] def z446(xs:List AV):dI T 446 xs=dR (Za T 446 (xs.map (wkIf false))) xs:=zaeg Zas.h446
@[simp] def z447(xs:List AV):dI T 447 xs=dR (Za T 447 (xs.map (wkIf false))) xs:=zaeg Zas.h447
end
end
def meths1:List RV:=[.cell 1 (some 445),.cell 2 (some 444),.cell 3 (some 441),.cell 4 (some 448),.cell 5 (some 443),.cell 6 (some 447),.cell 7 (some 446),.cell 8 (some 442)]
class Zd7 (T:Tbl):Prop where
 h1:∃t,T 1000001=some ⟨t,0,meths1,.bad,none,false⟩
section
variable{T:Tbl}[Zd7 T]
def ze8(x:String×Nat):x∈Za3 T 1↔x∈[("Of",445),("Neg",444),("Add",441),("Sub",448),("Mul",443),("Quo",447),("Pow",446),("Fits",442)]:=by
 obtain⟨t,ht⟩:=Zd7.h1 (T:=T)
 rw[z2y ht]
 rfl
@[simp] def zaug:(("Of",445)∈Za3 T 1)=True:=by simp[ze8]
@[simp] def zarp:(("Neg",444)∈Za3 T 1)=True:=by simp[ze8]
@[simp] def zarq:(("Add",441)∈Za3 T 1)=True:=by simp[ze8]
@[simp] def zarr:(("Sub",448)∈Za3 T 1)=True:=by simp[ze8]
@[simp] def zars:(("Mul",443)∈Za3 T 1)=True:=by simp[ze8]
@[simp] def zart:(("Quo",447)∈Za3 T 1)=True:=by simp[ze8]
@[simp] def zaru:(("Pow",446)∈Za3 T 1)=True:=by simp[ze8]
@[simp] def zaok:(("Fits",442)∈Za3 T 1)=True:=by simp[ze8]
end
def isD(c:UInt8):Bool:=decide (48<=c.toNat)&&decide (c.toNat<=57)
def isL(c:UInt8):Bool:=decide (97<=c.toNat)&&decide (c.toNat<=122) || decide (65<=c.toNat)&&decide (c.toNat<=90) || decide (c.toNat=95)
def Zjw:List UInt8:=[43,45,42,47,94,40,41,91,93,44,59,61]
def isS(c:UInt8):Bool:=Zjw.contains c
def Zn(c:UInt8):Nat:=if isD c then 1 else if isL c then 2 else if isS c then 3 else 0
def Zbp(k:Nat)(c:UInt8):Bool:=decide (k=1)&&isD c || decide (k=2)&&(isL c || isD c)
def Za5(k:Nat):Nat:=if k=1 then 60 else if k=2 then 12 else 1
theorem zfj(k:Nat):1<=Za5 k:=by
 grind[Za5]
def isB(c:UInt8):Bool:=decide (c=32) || decide (c=9) || decide (c=10) || decide (c=13)
abbrev Wd:=Nat×List UInt8×Nat
def Zbz:Bool->List UInt8->Nat
 | _,[]=>0
 | note,c::r=>
  let note':=if c=35 then true else if c=10 then false else note
  if (note' || isB c)=true then 1+Zbz note' r else 0
theorem zts:∀(note:Bool) (l:List UInt8),Zbz note l<=l.length
 | _,[]=>Ye _
 | note,c::r=>by
  by_cases h:((if c=35 then true else if c=10 then false else note) || isB c)=true
  ·have:=zts (if c=35 then true else if c=10 then false else note) r;simp only[Zbz,h,if_true,Yr];omega
  ·simp only[Zbz,h,if_false,Yx,Yv]
def Zab(k:Nat)(r:List UInt8):Nat:=1+(r.takeWhile (Zbp k)).length
def Zei(l:List UInt8)(i:Nat)(acc:List Wd):Except Nat (List Wd):=
 match l with
 | []=>.ok acc
 | c::r=>
  if Zn c=0 then .error i
  else if Za5 (Zn c)<Zab (Zn c) r then .error (i+Za5 (Zn c))
  else Zei ((r.drop (Zab (Zn c) r-1)).drop (Zbz false (r.drop (Zab (Zn c) r-1)))) (i+Zab (Zn c) r+Zbz false (r.drop (Zab (Zn c) r-1)))
   (acc++[(Zn c,(c::r).take (Zab (Zn c) r),i)])
termination_by l.length
decreasing_by grind
def zh5(c:UInt8)(r:List UInt8)(i:Nat)(acc:List Wd):Zei (c::r) i acc =
  if Zn c=0 then .error i
  else if Za5 (Zn c)<Zab (Zn c) r then .error (i+Za5 (Zn c))
  else Zei ((r.drop (Zab (Zn c) r-1)).drop (Zbz false (r.drop (Zab (Zn c) r-1)))) (i+Zab (Zn c) r+Zbz false (r.drop (Zab (Zn c) r-1)))
   (acc++[(Zn c,(c::r).take (Zab (Zn c) r),i)]):=by rw[Zei]
def zhf(i:Nat)(acc:List Wd):Zei [] i acc=.ok acc:=by rw[Zei]
def Zd0(c:UInt8)(i:Nat)(acc:List Wd):List Wd:=
 match acc.getLast? with
 | some (k,t,a)=>if a+t.length=i/\Zbp k c=true then acc.dropLast++[(k,t++[c],a)] else acc++[(Zn c,[c],i)]
 | none=>acc++[(Zn c,[c],i)]
def Zga(acc:List Wd):Bool:=
 match acc.getLast? with
 | some (k,t,_)=>decide (k=0) || decide (Za5 k<t.length)
 | none=>false
def Zgd:List UInt8->Nat->Bool->List Wd->Except Nat (List Wd)
 | [],_,_,acc=>.ok acc
 | c::r,i,note,acc=>
  let note':=if c=35 then true else if c=10 then false else note
  if (note' || isB c)=true then Zgd r (i+1) note' acc
  else if Zga (Zd0 c i acc)=true then .error i
  else Zgd r (i+1) note' (Zd0 c i acc)
theorem zkz:∀(l:List UInt8) (i:Nat) (note:Bool) (acc:List Wd),Zgd l i note acc=Zgd (l.drop (Zbz note l)) (i+Zbz note l) false acc
 | [],_,_,_=>rfl
 | c::r,i,note,acc=>by
  by_cases h:((if c=35 then true else if c=10 then false else note) || isB c)=true
  ·have ih:=zkz r (i+1) (if c=35 then true else if c=10 then false else note) acc;simp only[Zgd,Zbz,h,if_true];rw[ih,Yba 1,Yea,Ya2 i 1,Yba 1]
  ·have h':=h;simp only[Yb1,not_or,Ycr]at h';obtain⟨h1,h2⟩:=h';have h3:note=false:=by
    by_cases h35:c=35
    ·simp[h35]at h1
    ·by_cases h10:c=10
     ·subst h10;simp[isB]at h2
     ·simpa[h35,h10]using h1
   subst h3;simp only[Zbz,h,if_false,Y6,Yad,Yx]
def z5j{k:Nat}{c:UInt8}(h:Zbp k c=true):(isL c=true\/isD c=true):=by
 grind[Zbp]
def zaga{c:UInt8}{n:Nat}(h:c.toNat≠n)(hn:n<256):c≠UInt8.ofNat n:=fun e=>h (by simp_all)
def zwh{c:UInt8}(h:isL c=true\/isD c=true):c≠35/\c≠10/\isB c=false:=by
 have h1:48<=c.toNat:=by
  grind[isL,isD]
 have e (n:Nat) (hn:n<48):c≠UInt8.ofNat n:=zaga (by omega) (by omega);refine⟨e 35 (by decide),e 10 (by decide),?_⟩;simp only[isB,Yci,decide_eq_false_iff_not];exact⟨⟨⟨e 32 (by decide),e 9 (by decide)⟩,e 10 (by decide)⟩,e 13 (by decide)⟩
theorem ztt(k a:Nat)(acc:List Wd)(hk:k≠0):∀(r t:List UInt8),t.length<=Za5 k ->
  Zgd r (a+t.length) false (acc++[(k,t,a)]) =
   if Za5 k<t.length+(r.takeWhile (Zbp k)).length then .error (a+Za5 k)
   else Zgd (r.drop (r.takeWhile (Zbp k)).length) (a+t.length+(r.takeWhile (Zbp k)).length) false (acc++[(k,t++r.takeWhile (Zbp k),a)])
 | [],t,ht=>by
  rw[if_neg (by simp_all)];simp
 | c::r,t,ht=>by
  by_cases hc:Zbp k c=true
  ·obtain⟨h1,h2,h3⟩:=zwh (z5j hc);rw[Yca hc];have hs:Zd0 c (a+t.length) (acc++[(k,t,a)])=acc++[(k,t++[c],a)]:=by
    simp[Zd0,hc]
   have hb:Zga (acc++[(k,t++[c],a)])=decide (Za5 k<t.length+1):=by
    simp[Zga,hk]
   conv=>lhs;unfold Zgd
   simp only[h1,h2,h3,if_false,Bool.or_self,Yx,hs,hb,decide_eq_true_eq];by_cases hm:Za5 k<t.length+1
   ·grind
   ·have ih:=ztt k a acc hk r (t++[c]) (by grind)
    grind
  grind[List.takeWhile_cons_of_neg]
def zqb(l:List UInt8):∀c r,l.drop (Zbz false l)=c::r->c≠35/\isB c=false:=by
 have key:∀(l:List UInt8) (note:Bool) c r,l.drop (Zbz note l)=c::r->c≠35/\isB c=false:=by
  intro l
  induction l with
  | nil=>grind
  | cons x l ih=>
   grind[Zbz]
 grind
theorem z11(p:UInt8->Bool):∀r:List UInt8,r.take (r.takeWhile p).length=r.takeWhile p
 | []=>rfl
 | c::r=>by
  by_cases h:p c=true
  ·rw[Yca h,Yr,Yd5,z11 p r]
  ·rw[Yc4 h];rfl
theorem z12(p:UInt8->Bool):∀r:List UInt8,r.drop (r.takeWhile p).length=r.dropWhile p
 | []=>rfl
 | c::r=>by
  by_cases h:p c=true
  ·rw[Yca h,Yr,Yea,z12 p r,List.dropWhile_cons_of_pos h]
  ·rw[Yc4 h,List.dropWhile_cons_of_neg h];rfl
def Zrc(acc:List Wd)(i:Nat)(l:List UInt8):Prop:=∀k t a,acc.getLast? = some (k,t,a)->a+t.length=i->∀c r,l=c::r->Zbp k c=false
def z13:∀(n:Nat) (l:List UInt8) (i:Nat) (acc:List Wd),l.length=n->Zrc acc i l->(∀c r,l=c::r->c≠35/\isB c=false) ->
  Zgd l i false acc=Zei l i acc:=by
 intro n
 induction n using Nat.strongRecOn with
 | _ n ih=>
  intro l i acc hl hf hp;cases l with
  | nil=>unfold Zei;rfl
  | cons c r=>
   obtain⟨h1,h2⟩:=hp c r rfl;have h3:c≠10:=by intro h;subst h;simp[isB]at h2
   have hs:Zd0 c i acc=acc++[(Zn c,[c],i)]:=by
    unfold Zd0;split
    ·rename_i k t a hlast;rw[if_neg]
     rintro⟨h4,h5⟩
     rw[hf k t a hlast h4 c r rfl]at h5
     grind
    ·rfl
   have hb:Zga (acc++[(Zn c,[c],i)])=decide (Zn c=0):=by
    grind[zfj,Zga]
   conv=>lhs;unfold Zgd
   conv=>rhs;unfold Zei
   simp only[h1,h2,h3,if_false,Bool.or_self,Yx,hs,hb,decide_eq_true_eq];by_cases hk:Zn c=0
   ·grind
   ·simp only[hk,if_false];have hmost:=zfj (Zn c);have hrun:=ztt (Zn c) i acc hk r [c] (by omega);simp only[Yr,Yah,Yap,List.singleton_append]at hrun;rw[hrun];unfold Zab;by_cases hm:Za5 (Zn c)<1+(List.takeWhile (Zbp (Zn c)) r).length
    ·rw[if_pos hm,if_pos hm]
    ·rw[if_neg hm,if_neg hm];obtain⟨x,hx⟩:∃x,x=(List.takeWhile (Zbp (Zn c)) r).length:=⟨_,rfl⟩;have htk:r.take x=List.takeWhile (Zbp (Zn c)) r:=by rw[hx,z11]
     rw[<-hx,zkz,Yba 1 x,Yd5,htk,Ya2 i 1 x,Yba 1 x];refine ih _ ?_ _ _ _ rfl ?_ ?_
     ·grind
     ·intro k t a hlast hat c' r' hl';simp only[List.getLast?_append,List.getLast?_singleton,Option.some_or,Option.some.injEq,Prod.mk.injEq]at hlast;obtain⟨rfl,rfl,rfl⟩:=hlast;simp only[Yr,<-hx]at hat
      grind[z12,List.head?_dropWhile_not]
     ·exact zqb _
def z14(l:List UInt8):Zgd l 0 false []=Zei (l.drop (Zbz false l)) (Zbz false l) []:=by
 rw[zkz,Yap];exact z13 _ _ _ _ rfl (fun _ _ _ h=>by cases h) (zqb l)
def prim187:List AV->Option AV
 | [.i .u8 n]=>if 0<=n/\n<256 then some (.b (isS (UInt8.ofNat n.toNat))) else none
 | _=>none
def zwi(c:UInt8):prim187 [u8 c.toNat]=some (.b (isS c)):=by
 have:=c.toNat_lt;simp only[prim187,u8];rw[if_pos ⟨by omega,by omega⟩];simp
def prim184:List AV->Option AV
 | [.s l,.s [c]]=>if l.length<=1000000 then some (.tup [.s (l.takeWhile (· != c)),.s ((l.dropWhile (· != c)).drop 1),.b (l.contains c)]) else none
 | _=>none
def textOf:List AV->Option (List UInt8)
 | [.s l]=>if l.length<=10000 then some l else none
 | _=>none
def prim183:List AV->Option AV
 | [.sl els .an,.s sep]=>if els.length<=1000/\sep.length<=100 then (els.mapM textOf).map fun ts=>.s (List.intercalate sep ts) else none
 | _=>none
def Zlm(l:List (List UInt8)):List (List AV):=l.map fun s=>[.s s]
class Zba (T:Tbl):Prop where
end Go.Ab