/-
  A calculus of values, boxes and code, and what functions of the program compute, proved in it.
  Conditions: none beyond those that the theorems state. (Part 6.)
-/
import Derived.Test.YtmojeopgpabkhaaGreatDoorPart5

set_option linter.unusedSectionVars false
set_option linter.unusedVariables false
set_option linter.unusedSimpArgs false
set_option linter.unnecessarySimpa false
set_option linter.defProp false
set_option maxRecDepth 100000

namespace Go.Ab
section
def b406:AX:=QY [] [(AV.raw (.pointer none)),(AV.i .i64 4096)] "GxK6LAjZKlsOTanei24jWe8Jx45"
def b411:AX:=QZ "2nS0N6IeIx7o9GdQuGjwd8fdaixMS0JFGienZy8CSyMqNm7L"
def b426:AX:=QZ "ejocZLTQi8drTOYk4Uv_RAFFpwFWvFW2zDXoN0"
def l413_0:AX:=QZ "0bq6jnzQtuDhveK.HlZgeAhHr5cZ_wdle3OdHC.a9Ai91SgAubYHZeKXdNY8SfyxPgZQXU_CYMc"
def b413:AX:=(fun p0=>QY [p0] [] "1q6Ac7SrstBYt3ZdbEijaV2zs8.mJ22t8.8") l413_0
abbrev row406:AFx:=⟨1,8,[.t 2],b406,(some [false]),false⟩
abbrev row411:AFx:=⟨2,19,[.t 4],b411,(some [true,false]),false⟩
abbrev row426:AFx:=⟨2,20,[],b426,(some [true,false]),false⟩
abbrev row413:AFx:=⟨2,23,[.t 4,.t 5],b413,(some [true,false]),false⟩
class Z3 (T:Tbl):Prop where
 h406:Tr T 406=some row406
 h411:Tr T 411=some row411
 h426:Tr T 426=some row426
 h413:Tr T 413=some row413
attribute [simp] Z3.h406 Z3.h411 Z3.h426 Z3.h413
end
section
def b405:AX:=QZ "HVCQFwXxnuiQs_.AWhARH8VJbPq1CSBkYLmaR1wsSfdBvMcRK"
def l420_0:AX:=QZ "OkWbbbopkLV6ikKrAHE6Wi.ZNLuxJVEMzmFBS2PzPhRTMbsbMu9BQeek3AG7i2d"
def b420:AX:=(fun p0=>QY [p0] [] "0gtSNVF4q5Hp.NH4774fsg7L3y3dYMTki") l420_0
abbrev row405:AFx:=⟨1,13,[.cell 2 (some 5)],b405,none,false⟩
abbrev row420:AFx:=⟨1,19,[.t 2],b420,none,false⟩
class Zak (T:Tbl):Prop where
 h405:Tr T 405=some row405
 h420:Tr T 420=some row420
attribute [simp] Zak.h405 Zak.h420
end
section
def b490:AX:=QZ "33G2JKqBN9jEH5B9HKe7EnfBS_ByEdLg2T0pjlBVqVLZAjNb_ReW.DJmY_fh2mu3s0yPzyvkvU3hLJchck"
def b489:AX:=QZ "R.VhcjGE9FfApF0wn10BjMONO7QVujvb_hhdtJLOqfJn_sSIyRw6W.wmFNQfmqdkpsTzXOCA.TcUuV0iA5TPML5Cl1SZ9aOiVruAS7XiOaFIkuCePMRQR_ynF570jEqLrD2tJRsmkqQCr_vRugpFspsjnusjhFq6SFrBaamv6z5dIt6nlJTXYvhBzqdIfO4hUsNBtftcaOE"
def b484:AX:=QZ "1_pJvxa8iivTpNPaMs88q.J.PdjXJpbHhcI3.Mmr6yfayYbE.7I_u63Sxg8LTIbcri15s2J88n4xvOcZMYXaV5_Gh70gEVtwK59LsthvFy5rY2WWMTBywgJMqy5o2rrTyLAhTwMTcMt47lkKDpbWNclOWuJ_Q_oG.IEpdqEp22M9nhGiuGCjtBcGnZAS9ShYLP46sKtUOFJk7203_QS2IIUQwfVagaEiOiFGrJKkf_ONGpcQbuk0aXoK3DAaoN3j.f9.gafm3LKfV_WFWoD.3n7aSqSBXGvBWSrOoq1OzWGEEukjgm"
def l473_0:AX:=QZ "1SXkS3fIGa4cuiNVqJCBL61sWUzLxmOtM3Y48D.inA7hSqNHR2tHqgsw6eMBv8CbSOq_DlUbftIIdU3e9bgvm_OGTJueawbl7H3i2Du6J1x4AuH8gPbQywvPTZ7jq2PUqt3ur4NCvk.TgNA8L.dsbxm_ebgsOOkmhSIkJ5zkTPir21ULnSZJAqODdw8e4AV0jyOoMEh66b7c_DLx78ClrR1Npa5z2N6hC4EUpBXNoFHt4t6apG_dhvMe"
def b473:AX:=(fun p0=>QY [p0] [] "0e9Krm4KIAyY2uJrRoNLH.o86EgwAbbAUsOWtavuD6_zKlBOxwyDwfEwRkMrsCbXwdVQlOS734efl9SB") l473_0
def b462:AX:=QY [] [(AV.raw (.pointer none))] "4xyowqgTHnzuLCkPUfys_7584d46iP_toy37ckfYBUpNGB7Ab7DmT42CHpfoHkIwo88vU8NUektA6WRVTbrOOjHl6aMI5P1alNma08k8Q4yD.jK4GJaaqBHDE27AOSLqyaO3q7_BFHa32sBNch"
abbrev row490:AFx:=⟨1,28,[.cell 2 (some 3)],b490,(some [true]),false⟩
abbrev row489:AFx:=⟨2,57,[.cell 4 (some 3)],b489,(some [true,false]),false⟩
abbrev row484:AFx:=⟨2,58,[.cell 4 (some 3),.t 5],b484,(some [true,false]),false⟩
abbrev row473:AFx:=⟨2,78,[.cell 4 (some 3),.cell 5 (some 4)],b473,(some [true,false]),false⟩
abbrev row462:AFx:=⟨4,40,[.cell 8 (some 3),.cell 9 (some 4)],b462,none,false⟩
class Zao (T:Tbl):Prop where
 h490:Tr T 490=some row490
 h489:Tr T 489=some row489
 h484:Tr T 484=some row484
 h473:Tr T 473=some row473
 h462:Tr T 462=some row462
attribute [simp] Zao.h490 Zao.h489 Zao.h484 Zao.h473 Zao.h462
end
section
def b384:AX:=QY [] [(AV.raw (.pointer none))] "cteeQnc76ogUMQ5VFaJ2QX2Ubx4JcuQDkrfx6uq_TsHujPh6wRtHJPWJaDY9Ee1bk52rhfA2xaK3ya42HfkGMdry0RjfpxOqTir.TWBt"
def l407_0:AX:=QZ "0TE.REZPXs4dEIZh__qCPfn9YfYOi44ewuglxSbxXi3lQzz9zTaFIa3tfY7_PrKR.EzynxpvV4vv0ONQtudc_rzh1f6IPTLZTOD8OwlCIWteldMVFnqnDdvamXfhTWhYXuCinH8tFldOtOYKSGdI.yFCaDhDXCCUPl7zQQsKR95V2YZVNjAWZF6ljHKWWsrGdrN.c5TbUzmWbJ7qAKUe"
def b407:AX:=(fun p0=>QY [p0] [] "NXYDs.SPWnH8UAl1m7_djFKsQqgpgc17m1gRlw88ch9D1zAvSto4OGzvsD4phuV_8gNM_NpF7Ixc_zKrtkGEi28V..Olih2ceAxf_nUOLR.ptT7noQNGsnfuSJppqKJT2.tXLkg5J36.liNlPpoSn0C") l407_0
def b422:AX:=QZ "PSj5HhoXJfWUnfcQBJVyNy14Z0t5y5Of.8j.R6WRjvEFn.vpn2Lg1NiCA2y9nxGiFXgv6Tq1BObjA39FrSRXxPYPkSr7r6rw0Wep86L8udpQYTKsZmm99N5VD_dzyeNRm85fYc_HxiAApsKkxW1gHAUR2eNxGD6Mm54yiL7KK2AF9QRM2ZIcupc49Xa.w1Aw4yZI8XSADGyLoq_ZyN147pw05_ncy9TSyvD6t7cJ5DkrrLcXrfj0gxhlbthVaUxpolaJy8JHXZ8hyMmqP1Rb_jiOPztWH6wVntW03WMmsdWPhEdbAI98vaYeglV4lD4DvJSSfgsPFf3QMzkSc0w3kNenR01J9q9Pgc2jwE4h5j_6JbfZDwYypmNa0al5exDP7v98ME1c90RRoTyIUh43"
def b431:AX:=QZ "3gqDEaaPRgA.4Q9sc8RT1.J2dEXgygEnkD8NlPiB4IZiNIJzSHYUTMOCh5a_VLcuOroALJ888g7aaCUS26shMwancgTQalL91e.WRf1nM2Ox4RM5sW70Dflm9hTiVLONR"
def b441:AX:=QZ "0k7w3i_4KyQs1fa2cyQAuty5RL8K9"
def b442:AX:=QZ "OdvHr5GuvZPhftv4o0FzAnDkW"
def b443:AX:=QZ "0k7w3i_4KyQs4fqPQdOMB8JxlQfRF"
def b444:AX:=QZ "0T_A9apV9OeduEEJos36Xga"
def b445:AX:=QZ "0T_A9apV9KpGz9A1uzef383"
def b446:AX:=QZ "1wXUWKGhS_9iU1G7Tn5eA8496MC8mzwHPeRw"
def b447:AX:=QZ "EgraUX_QtjDwpDZ6ypo4WSaR7mXz1n51iJadBI"
def b448:AX:=QZ "0k7w3i_4KyQs1fa2cyQCFB1ltQilB"
abbrev row384:AFx:=⟨3,27,[.t 6,.cell 7 (some 4)],b384,none,false⟩
abbrev row407:AFx:=⟨3,70,[.t 6,.cell 7 (some 4)],b407,(some [true,false,false]),false⟩
abbrev row422:AFx:=⟨4,108,[.cell 8 (some 3),.t 9],b422,none,false⟩
abbrev row431:AFx:=⟨3,35,[.cell 6 (some 3)],b431,none,false⟩
abbrev row441:AFx:=⟨3,10,[.cell 6 (some 3)],b441,none,false⟩
abbrev row442:AFx:=⟨2,9,[.t 4],b442,(some [true,false]),false⟩
abbrev row443:AFx:=⟨3,10,[.cell 6 (some 3)],b443,none,false⟩
abbrev row444:AFx:=⟨2,7,[.cell 4 (some 3)],b444,none,false⟩
abbrev row445:AFx:=⟨2,7,[.cell 4 (some 3)],b445,none,false⟩
abbrev row446:AFx:=⟨3,13,[.cell 6 (some 3),.t 7],b446,none,false⟩
abbrev row447:AFx:=⟨3,13,[.cell 6 (some 3),.t 7],b447,none,false⟩
abbrev row448:AFx:=⟨3,10,[.cell 6 (some 3)],b448,none,false⟩
class Zbf (T:Tbl):Prop where
 h384:Tr T 384=some row384
 h407:Tr T 407=some row407
 h422:Tr T 422=some row422
 h431:Tr T 431=some row431
 h441:Tr T 441=some row441
 h442:Tr T 442=some row442
 h443:Tr T 443=some row443
 h444:Tr T 444=some row444
 h445:Tr T 445=some row445
 h446:Tr T 446=some row446
 h447:Tr T 447=some row447
 h448:Tr T 448=some row448
attribute [simp] Zbf.h384 Zbf.h407 Zbf.h422 Zbf.h431 Zbf.h441 Zbf.h442 Zbf.h443 Zbf.h444 Zbf.h445 Zbf.h446 Zbf.h447 Zbf.h448
section
variable{T:Tbl}[Zbf T]{d:Option Nat}{st:St}{xs:List AV}{ps:List Opd}{e:Env}{h:Heap}{ol:List Heap}
@[simp] def z446(xs:List AV):dI T 446 xs=dR (Za T 446 (xs.map (wkIf false))) xs:=z25 Zbf.h446
@[simp] def z447(xs:List AV):dI T 447 xs=dR (Za T 447 (xs.map (wkIf false))) xs:=z25 Zbf.h447
end
end
def meths1:List RV:=[.cell 1 (some 445),.cell 2 (some 444),.cell 3 (some 441),.cell 4 (some 448),.cell 5 (some 443),.cell 6 (some 447),.cell 7 (some 446),.cell 8 (some 442)]
class Zgd (T:Tbl):Prop where
 h1:∃t,T 1000001=some ⟨t,0,meths1,.bad,none,false⟩
section
variable{T:Tbl}[Zgd T]
def ze2(x:String×Nat):x∈Zad T 1↔x∈[("Of",445),("Neg",444),("Add",441),("Sub",448),("Mul",443),("Quo",447),("Pow",446),("Fits",442)]:=by
 obtain⟨t,ht⟩:=Zgd.h1 (T:=T)
 rw[zts ht]
 rfl
@[simp] def zauy:(("Of",445)∈Zad T 1)=True:=by simp[ze2]
@[simp] def zar0:(("Neg",444)∈Zad T 1)=True:=by simp[ze2]
@[simp] def zar1:(("Add",441)∈Zad T 1)=True:=by simp[ze2]
@[simp] def zar2:(("Sub",448)∈Zad T 1)=True:=by simp[ze2]
@[simp] def zar3:(("Mul",443)∈Zad T 1)=True:=by simp[ze2]
@[simp] def zar4:(("Quo",447)∈Zad T 1)=True:=by simp[ze2]
@[simp] def zar5:(("Pow",446)∈Zad T 1)=True:=by simp[ze2]
@[simp] def zaop:(("Fits",442)∈Zad T 1)=True:=by simp[ze2]
end
section
def b380:AX:=QZ "dB5nJwggMICkjFlBWIUKy3o49O.1BvERK1f2ggFMNOfx1242OpojhCDp01notvkARBsI0tC"
def b383:AX:=QZ "HVCQFwXxnuiQs_.AWhAD7CC0HAKrvz.5U75iIb3q0GnzgLlNQ"
abbrev row380:AFx:=⟨3,25,[.t 6],b380,none,false⟩
abbrev row383:AFx:=⟨1,13,[.cell 2 (some 5)],b383,none,false⟩
class Zd8 (T:Tbl):Prop where
 h380:Tr T 380=some row380
 h383:Tr T 383=some row383
attribute [simp] Zd8.h380 Zd8.h383
end
section
def b129:AX:=QZ "14yR6kfBD6WGSXVCcU"
abbrev row129:AFx:=⟨1,6,[.t 2],b129,none,false⟩
class Zcs (T:Tbl):Prop where
 h129:Tr T 129=some row129
attribute [simp] Zcs.h129
end
end Go.Ab