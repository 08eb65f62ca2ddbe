/-
  A calculus of values, boxes and code, and what functions of the program compute, proved in it.
  Conditions: none beyond those that the theorems state. (Part 9.)
-/
import Derived.Test.YtmojeopgpabkhaaGreatDoorPart8

set_option linter.unusedSectionVars false
set_option linter.unusedVariables false
set_option linter.unusedSimpArgs false
set_option linter.unnecessarySimpa false
set_option linter.defProp false
set_option maxRecDepth 100000

namespace Go.Ab
section
def l388_0:AX:=QZ "STwc_ChlBAemb4on_SE7iVU3EboccVnZ5Ny_V3bZNuJJKyY1kpqzVKWFf5uiNKXAHpW8HBJ6JIFz0UPrnxVZcag4Y7re"
def b388:AX:=(fun p0=>QY [p0] [] "xG8kjn7u.WzofNx_yLMj.JBZHDX7.7uBimYnR9y2pR.Iq7Zxcn.peXzFBTJx_SRYpIPn1bUf.QCe8gWuncaiCdPwPojiCloQif.00ZzeUMmIsCYRzv787yjprlu2UCfbZ8UpgTEDfAl7Judkk2Pk9FxD.Jr") l388_0
def b408:AX:=
 (.seq
 (.reg [rg 4 (.xop (.box 4) [(.t 0)]),rg 5 (.xop (.box 5) [(.t 1)]),rg 6 (.xop (.box 5) [(.t 2)]),rg 8 (.mov (.c (.sl [] .nl))),rg 9 (.alloc [(.i .i64 0),(.i .i64 0),(.i .i64 0),(.i .i64 0)])])
 (.seq
 (.drawT [rg 18 (.load (some 5) (.t 5)),rg 19 (.call 405 [(.t 18)]),rg 20 (.load (some 5) (.t 6))]
 [rg 21 (.call 405 [(.t 20)]),so (.store 5 (.t 5) (.t 19)),so (.store 5 (.t 6) (.t 21))])
 (.seq
 (.reg [rg 23 (.fad 3 (.t 5)),rg 24 (.load none (.t 23)),rg 25 (.fad 3 (.t 6)),rg 26 (.load none (.t 25)),rg 27 (.call 423 [(.t 24),(.t 26)]),mv 22 27,rg 28 (.ext (.t 22) 0),rg 29 (.ext (.t 22) 1),mv 10 28,mv 11 29])
 (.seq
 (.reg [rg 31 (.fad 4 (.t 5)),rg 32 (.load none (.t 31)),rg 33 (.fad 4 (.t 6)),rg 34 (.load none (.t 33)),rg 35 (.call 423 [(.t 32),(.t 34)]),mv 30 35,rg 36 (.ext (.t 30) 0),rg 37 (.ext (.t 30) 1),mv 12 36,mv 13 37])
 (.seq
 (.seq
 (.reg [mv 38 11,rg 39 (.un .not (.t 38)),mv 40 39,gd 41 40 false (.mov (.t 13)),gd 42 40 false (.un .not (.t 41)),rg 43 (.pick (.t 40) (.c (.b true)) (.t 42))])
 (.cond (.t 43)
 (.seq
 (.reg [rg 44 (.build [(.i .i64 0),(.i .i64 0),(.i .i64 0),(.i .i64 0)] [(0,1,(.c (.i .i64 2)))]),rg 8 (.mov (.c (.sl [] .nl))),so (.store 4 (.t 9) (.t 44))])
 (.pre (.norm false [8,9]) .ret))
 .skip))
 (.seq
 (.reg [rg 14 (.alloc [(.i .i64 0)]),so (.store 1 (.t 14) (.c (.i .i64 0)))])
 (.seq
 (.reg [mv 45 3,rg 46 (.call 406 [(.t 45)]),rg 47 (.xop (.mkf 500424) [(.t 14)]),rg 48 (.build [(.raw (.pointer none)),(.raw .nilFunc)] [(0,1,(.t 46)),(1,1,(.t 47))]),rg 49 (.build [(.raw (.pointer none)),(.raw .nilFunc)] [(0,2,(.t 48))]),rg 15 (.alloc [(.raw (.pointer none)),(.raw .nilFunc)]),so (.store 2 (.t 15) (.t 49))])
 (.seq
 (.reg [rg 51 (.load (some 2) (.t 15)),rg 52 (.load (some 4) (.t 4)),rg 53 (.fad 0 (.t 5)),rg 54 (.load (some 3) (.t 53)),rg 55 (.fad 0 (.t 6)),rg 56 (.load (some 3) (.t 55)),rg 57 (.build [(.b false),(.sl [] .nl),(.sl [] .nl),(.b false),(.sl [] .nl),(.sl [] .nl)] [(0,3,(.t 54)),(3,3,(.t 56))]),mv 58 10,mv 59 12,rg 60 (.build [(.b false),(.sl [] .nl),(.sl [] .nl),(.b false),(.sl [] .nl),(.sl [] .nl),(.sl [] .nl),(.sl [] .nl)] [(0,6,(.t 57)),(6,1,(.t 58)),(7,1,(.t 59))]),rg 61 (.call 425 [(.t 51),(.t 52),(.t 60)]),mv 50 61,rg 62 (.ext (.t 50) 0),rg 63 (.ext (.t 50) 1),rg 17 (.alloc [(.i .i64 0),(.i .i64 0),(.i .i64 0),(.i .i64 0)]),mv 16 62,so (.store 4 (.t 17) (.t 63))])
 (.seq
 (.reg [rg 64 (.load none (.t 14)),rg 65 (.fad 2 (.t 17)),so (.store 1 (.t 65) (.t 64))])
 (.seq
 (.drawT [mv 66 16,rg 67 (.load (some 4) (.t 17)),mv 8 66]
 [so (.store 4 (.t 9) (.t 67))])
 (.pre (.norm false [8,9]) .ret)))))))))))
def l423_0:AX:=QZ "0kMIh5a.5FySycmxf4Wi8PtLS6BcY4a9TlHo_u3eIYTsEjnnqZBHtUQ5yfxuScsqYH9lm9WfWlNdayaUnETmaX1ze"
def b423:AX:=(fun p0=>QY [p0] [] "0Kg960lS1EVE2ZZGxTokWCbloYFs6HN.R6VV6e5zEETy8JzrgCtobFrGY5xYNz") l423_0
def b424:AX:=QZ "07pwhh"
def l425_0:AX:=QZ "1P9ySoI.4kEF4uzfPegnQVQlLN28Af9jUR9HhVtbwQiDUi.9GD3R5NCLRQ8xd2ud1lKZmcodhAwwYRrKxE.JN.S5sjtEs7EKJ21tLnY.5_iDIHdr9gzCA_ZRRXvhVuK2clTLkuZR2TJwTEUrYinM_wITuKC5zr8nvp8qOxNZwZmWcLn1kur2XQYy28G003Zf6wZnWbHKTfe.nDPaDpErpV1Verc"
def b425:AX:=(fun p0=>QY [p0] [] "CB0s5NmGDZPcBSSv6imSmK.D8Le.2Am8VVXp6iFFsLBIn6yjbCrjcI8GNhWzYKao0fnuOpEW9qZ79gRZpidxLM0XIJeF4jmwaMEXMxv4U6LpUhEMX08MpN0NGd_tJbTSO4FZRRjXPpOyECCJ.I1X4vV3g") l425_0
def b432:AX:=QZ "i0q8q__dWrwkvkKM7S1DhGkYdLIVjoKwvp2kgjk8tA_dBqw1Kl4E5q4cDk2hulGhkpU.aJKZMajXqqSc3mS9gF8WO7pvYfz1zEHHb.ty8AsGnP.1I1gNJLU2dZw_C1iV7EGMStR3P1wT6.pZY00.v9NupA8tblW0ivhKKagOiVF03jWbKNYdr3pcACc3mqfS1f1NmdgsBvpVCGw8gyr2njp7w5pjLRkZYj0reZWyivaRZUFJVIcDwKbC7jOEi11YGat_EvaBpE46kHnNkECfjDkyou8mm9xwS9W0MEhVoMkXUDCdmyhhH1Vgp9vG4xnB_KxQczuL.2dSJPGfvqxreMcxpP.EOMlNbkigtr7QYBKXHjwIdCHOr86ngbCj3l2y_JgktBIuu66Q_bHYEqygmw0vWnHD8Yofy.RO"
def b436:AX:=QZ "SBDg2s_vb8hjL4Er9ROn9na4dYWRdURhCSbQeItDfLvCfPIUkyCv9qVgR3GrToJEKn0eAlZIgSBPPGp9PAABjWYDEtXgetd615lwJx.RjCTmdDs98yKOGiqyi_SX0b5YsJlgdd.I"
def b449:AX:=QZ "3xR0XsqdwA5SCADaDfYrbbx6jdbjCt0GlvHgrpgSfNrbV5HYm19pzrudC"
def b450:AX:=
 (.seq
 (.reg [rg 2 (.xop (.box 2) [(.t 0)]),rg 3 (.xop (.box 6) [(.t 1)]),rg 4 (.mov (.c (.b false)))])
 (.seq
 (.seq
 (.reg [rg 5 (.fad 0 (.t 2)),rg 6 (.load none (.t 5)),rg 7 (.fad 0 (.t 3)),rg 8 (.load (some 3) (.t 7)),rg 9 (.call 411 [(.t 6),(.t 8)]),rg 10 (.un .not (.t 9))])
 (.cond (.t 10)
 (.seq
 (.reg [rg 4 (.mov (.c (.b false)))])
 (.pre (.norm false [4]) .ret))
 .skip))
 (.seq
 (.seq
 (.reg [rg 11 (.fad 0 (.t 2)),rg 12 (.load none (.t 11)),rg 13 (.fad 3 (.t 3)),rg 14 (.load (some 3) (.t 13)),rg 15 (.call 411 [(.t 12),(.t 14)]),rg 16 (.un .not (.t 15))])
 (.cond (.t 16)
 (.seq
 (.reg [rg 17 (.fad 1 (.t 2)),rg 18 (.load none (.t 17)),rg 19 (.inv "()" 500424 424 (.t 18) [])])
 (.seq
 (.reg [rg 4 (.mov (.c (.b false)))])
 (.pre (.norm false [4]) .ret)))
 .skip))
 (.seq
 (.reg [rg 4 (.mov (.c (.b true)))])
 (.pre (.norm false [4]) .ret)))))
def b451:AX:=QZ "BO8d7Mkqets4AgMymoB._5GvpWm1xg17fP6YUjty.C2Le2JuK0vs9C0h60Kz3pLoojxXwjwJHVJ"
def b452:AX:=QZ "kNiekoBtRc8KfQjL089XbDETcaZPeejmf9wvNtiXDTBa"
def b453:AX:=QZ "QJ4ac6JSy7eFfA2UGK8xLVDxaPB6hpRYf6RaO6"
def b454:AX:=QZ "0MojNuMV_KjFrZCp7xG_E2WUXXvbgvMZpC.gfbL6L2YXUTIQSIOze6HEDmMN.p1d6SNVUYvvnVM6Moqgdg_yhrTeU4bejWXa8bb4FpOHtWFdgqHBaoFBq_.xRjzz.KhznSMLJiAoUoi_p954Eag7GXZCxdd.paOJrFo2Z_g9jw2YA5hvNKtRHkFKwpBXl1Uqv456zLsIH2S6VIBUGGDnknx9QWPNKRy"
def b455:AX:=QZ "R26Uj0ywDHJkr.j0W1O1_DpeB50LTHnktIVrRE6a2TPdiJ7w8PI1WcmnUpCR9dujQtOuAM7hIGIRSyo0CLS991j62_lgiJn7g8toa451QdE5sG8uj2BnNHDEuPiMtyKynaaObAqtrLqOK37sx8NQ8zJkgtQtI65oKo27Z8OLqQ2UEL.N"
def b456:AX:=QZ "3xR0XsqdwA5SCADaDfYrbcC65JzjeC3pHQs1FYjj2G1YBidB1CxQ0BHgC"
abbrev row388:AFx:=⟨4,53,[.t 8,.t 9,.cell 10 (some 4)],b388,none,false⟩
abbrev row408:AFx:=⟨4,68,[.t 8,.cell 9 (some 4)],b408,none,false⟩
abbrev row423:AFx:=⟨2,32,[.t 4,.t 5],b423,none,false⟩
abbrev row424:AFx:=⟨1,1,[],b424,(some [true]),false⟩
abbrev row425:AFx:=⟨3,70,[.t 6,.cell 7 (some 4)],b425,(some [true,false,false]),false⟩
abbrev row432:AFx:=⟨4,108,[.cell 8 (some 6),.t 9],b432,none,false⟩
abbrev row436:AFx:=⟨3,35,[.cell 6 (some 6)],b436,none,false⟩
abbrev row449:AFx:=⟨3,18,[.cell 6 (some 6)],b449,none,false⟩
abbrev row450:AFx:=⟨2,20,[.t 4],b450,(some [true,false]),false⟩
abbrev row451:AFx:=⟨3,24,[.cell 6 (some 6)],b451,none,false⟩
abbrev row452:AFx:=⟨2,12,[.cell 4 (some 6)],b452,none,false⟩
abbrev row453:AFx:=⟨2,9,[.cell 4 (some 6)],b453,none,false⟩
abbrev row454:AFx:=⟨3,52,[.cell 6 (some 6),.t 7],b454,none,false⟩
abbrev row455:AFx:=⟨3,39,[.cell 6 (some 6),.t 7],b455,none,false⟩
abbrev row456:AFx:=⟨3,18,[.cell 6 (some 6)],b456,none,false⟩
class Z6 (T:Tbl):Prop where
 h388:Tr T 388=some row388
 h408:Tr T 408=some row408
 h423:Tr T 423=some row423
 h424:Tr T 424=some row424
 h425:Tr T 425=some row425
 h432:Tr T 432=some row432
 h436:Tr T 436=some row436
 h449:Tr T 449=some row449
 h450:Tr T 450=some row450
 h451:Tr T 451=some row451
 h452:Tr T 452=some row452
 h453:Tr T 453=some row453
 h454:Tr T 454=some row454
 h455:Tr T 455=some row455
 h456:Tr T 456=some row456
attribute [simp] Z6.h388 Z6.h408 Z6.h423 Z6.h424 Z6.h425 Z6.h432 Z6.h436 Z6.h449 Z6.h450 Z6.h451 Z6.h452 Z6.h453 Z6.h454 Z6.h455 Z6.h456
section
variable{T:Tbl}[Z6 T]{d:Option Nat}{st:St}{xs:List AV}{ps:List Opd}{e:Env}{h:Heap}{ol:List Heap}
@[simp] def z454(xs:List AV):dI T 454 xs=dR (Za T 454 (xs.map (wkIf false))) xs:=z25 Z6.h454
@[simp] def z455(xs:List AV):dI T 455 xs=dR (Za T 455 (xs.map (wkIf false))) xs:=z25 Z6.h455
end
end
def meths2:List RV:=[.cell 1 (some 453),.cell 2 (some 452),.cell 3 (some 449),.cell 4 (some 456),.cell 5 (some 451),.cell 6 (some 455),.cell 7 (some 454),.cell 8 (some 450)]
class Zfm (T:Tbl):Prop where
 h2:∃t,T 1000002=some ⟨t,0,meths2,.bad,none,false⟩
section
variable{T:Tbl}[Zfm T]
def ze3(x:String×Nat):x∈Zad T 2↔x∈[("Of",453),("Neg",452),("Add",449),("Sub",456),("Mul",451),("Quo",455),("Pow",454),("Fits",450)]:=by
 obtain⟨t,ht⟩:=Zfm.h2 (T:=T)
 rw[zts ht]
 rfl
@[simp] def zauz:(("Of",453)∈Zad T 2)=True:=by simp[ze3]
@[simp] def zar6:(("Neg",452)∈Zad T 2)=True:=by simp[ze3]
@[simp] def zar7:(("Add",449)∈Zad T 2)=True:=by simp[ze3]
@[simp] def zar8:(("Sub",456)∈Zad T 2)=True:=by simp[ze3]
@[simp] def zar9:(("Mul",451)∈Zad T 2)=True:=by simp[ze3]
@[simp] def zasa:(("Quo",455)∈Zad T 2)=True:=by simp[ze3]
@[simp] def zasb:(("Pow",454)∈Zad T 2)=True:=by simp[ze3]
@[simp] def zaoq:(("Fits",450)∈Zad T 2)=True:=by simp[ze3]
end
section
def b401:AX:=QZ "1GsDJ1bH88uXVuPxX30kIdisUbxJc7NAV16RnlYdxwUK_.FP_HUHCuy.uIFQxn7fdiZeDcQ72.y"
def l403_0:AX:=QZ "A.Dq.ATbRZM9TljFGldjWU9FeIhnaprqrUEnz8b.PgmL3XEoz2S5ixvPofiv6D1NntkjmOKyL5DGrKaX5piQnJoKYvRkISQFxVqF.u82x1KJpkMc"
def b403:AX:=
 (.seq
 (.reg [rg 3 (.xop (.box 4) [(.t 0)]),rg 4 (.xop (.box 5) [(.t 1)]),rg 6 (.alloc [(.sl [] .nl),(.sl [] .nl),(.sl [] .nl)]),rg 7 (.alloc [(.i .i64 0),(.i .i64 0),(.i .i64 0),(.i .i64 0)])])
 (.seq
 (.reg [rg 14 (.fad 1 (.t 3)),rg 15 (.load none (.t 14)),rg 16 (.len (.t 15)),rg 17 (.mm true [(.t 16),(.c (.i .i64 1))]),rg 18 (.load (some 4) (.t 3)),rg 19 (.load (some 5) (.t 4)),mv 20 2,rg 21 (.build [(.sl [] .nl),(.sl [] .nl),(.i .i64 0),(.i .i64 0),(.b false),(.sl [] .nl),(.sl [] .nl),(.sl [] .nl),(.sl [] .nl),(.i .i64 0)] [(0,4,(.t 18)),(4,5,(.t 19)),(9,1,(.t 20))]),rg 22 (.xop (.mkv 500416) [(.t 21)]),rg 23 (.call 415 [(.t 17),(.t 22)]),mv 13 23,rg 24 (.ext (.t 13) 0),rg 25 (.ext (.t 13) 1),rg 9 (.alloc [(.i .i64 0),(.i .i64 0),(.i .i64 0),(.i .i64 0)]),mv 8 24,so (.store 4 (.t 9) (.t 25))])
 (.seq
 (.seq
 (.reg [rg 26 (.load (some 4) (.t 9)),rg 27 (.build [(.i .i64 0),(.i .i64 0),(.i .i64 0),(.i .i64 0)] []),rg 28 (.eqs true [(0,.int),(1,.int),(2,.int),(3,.int)] (.t 26) (.t 27))])
 (.cond (.t 28)
 (.seq
 (.draw [⟨rg 29 (.build [(.sl [] .nl),(.sl [] .nl),(.sl [] .nl)] []),0,0⟩,⟨rg 30 (.load (some 4) (.t 9)),0,1⟩,⟨so (.store 3 (.t 6) (.t 29)),0,1⟩,⟨so (.store 4 (.t 7) (.t 30)),1,2⟩])
 (.pre (.norm false [6,7]) .ret))
 .skip))
 (.seq
 (.reg [rg 10 (.alloc [(.sl [] .nl),(.sl [] .nl),(.sl [] .nl)])])
 (.seq
 (.seq
 (.reg [mv 31 8,rg 32 (.len (.t 31)),rg 33 (.mov (.c (.i .i64 0)))])
 (.pre (.fld 10 0 0 3) (.pre (.fld 10 0 1 1) (.pre (.fld 10 0 2 1) (.lp 0 (.norm false [6,7,9,10,31,32,33]) l403_0 (.norm false [6,7,9,10]))))))
 (.seq
 (.draw [⟨rg 59 (.load (some 3) (.t 10)),0,0⟩,⟨rg 60 (.load (some 4) (.t 9)),0,1⟩,⟨so (.store 3 (.t 6) (.t 59)),0,1⟩,⟨so (.store 4 (.t 7) (.t 60)),1,2⟩])
 (.pre (.norm false [6,7]) .ret)))))))
def b404:AX:=
 (.seq
 (.reg [rg 3 (.xop (.box 4) [(.t 0)]),rg 4 (.xop (.box 5) [(.t 1)]),rg 6 (.alloc [(.sl [] .nl),(.sl [] .nl),(.sl [] .nl)]),rg 7 (.alloc [(.i .i64 0),(.i .i64 0),(.i .i64 0),(.i .i64 0)])])
 (.seq
 (.reg [rg 12 (.fad 3 (.t 4)),rg 13 (.load none (.t 12)),rg 14 (.len (.t 13)),mv 8 14])
 (.seq
 (.reg [mv 16 8,rg 17 (.bin .add (.c (.i .i64 1)) (.t 16)),rg 18 (.fad 4 (.t 4)),rg 19 (.load none (.t 18)),rg 20 (.len (.t 19)),rg 21 (.bin .add (.t 17) (.t 20)),rg 22 (.load (some 4) (.t 3)),rg 23 (.load (some 5) (.t 4)),mv 24 2,rg 25 (.build [(.sl [] .nl),(.sl [] .nl),(.i .i64 0),(.i .i64 0),(.b false),(.sl [] .nl),(.sl [] .nl),(.sl [] .nl),(.sl [] .nl),(.i .i64 0)] [(0,4,(.t 22)),(4,5,(.t 23)),(9,1,(.t 24))]),rg 26 (.xop (.mkv 500418) [(.t 25)]),rg 27 (.call 417 [(.t 21),(.t 26)]),mv 15 27,rg 28 (.ext (.t 15) 0),rg 29 (.ext (.t 15) 1),rg 10 (.alloc [(.i .i64 0),(.i .i64 0),(.i .i64 0),(.i .i64 0)]),mv 9 28,so (.store 4 (.t 10) (.t 29))])
 (.seq
 (.seq
 (.reg [rg 30 (.load (some 4) (.t 10)),rg 31 (.build [(.i .i64 0),(.i .i64 0),(.i .i64 0),(.i .i64 0)] []),rg 32 (.eqs true [(0,.int),(1,.int),(2,.int),(3,.int)] (.t 30) (.t 31))])
 (.cond (.t 32)
 (.seq
 (.draw [⟨rg 33 (.build [(.sl [] .nl),(.sl [] .nl),(.sl [] .nl)] []),0,0⟩,⟨rg 34 (.load (some 4) (.t 10)),0,1⟩,⟨so (.store 3 (.t 6) (.t 33)),0,1⟩,⟨so (.store 4 (.t 7) (.t 34)),1,2⟩])
 (.pre (.norm false [6,7]) .ret))
 .skip))
 (.seq
 (.reg [rg 35 (.fad 1 (.t 3)),rg 36 (.load none (.t 35)),rg 37 (.len (.t 36)),mv 11 37])
 (.seq
 (.draw [⟨mv 38 9,0,0⟩,⟨rg 39 (.iad 1 (.t 38) (.c (.i .i64 0))),0,0⟩,⟨rg 40 (.load none (.t 39)),0,0⟩,⟨mv 41 9,0,0⟩,⟨mv 42 8,0,0⟩,⟨rg 43 (.bin .add (.c (.i .i64 1)) (.t 42)),0,0⟩,⟨rg 44 (.slc 1 (.t 41) (some (.c (.i .i64 1))) (some (.t 43)) none),0,0⟩,⟨mv 45 11,0,0⟩,⟨rg 46 (.call 419 [(.t 44),(.t 45)]),0,0⟩,⟨mv 47 9,0,0⟩,⟨mv 48 8,0,0⟩,⟨rg 49 (.bin .add (.c (.i .i64 1)) (.t 48)),0,0⟩,⟨rg 50 (.slc 1 (.t 47) (some (.t 49)) none none),0,0⟩,⟨mv 51 11,0,0⟩,⟨rg 52 (.call 419 [(.t 50),(.t 51)]),0,0⟩,⟨rg 53 (.build [(.sl [] .nl),(.sl [] .nl),(.sl [] .nl)] [(0,1,(.t 40)),(1,1,(.t 46)),(2,1,(.t 52))]),0,0⟩,⟨rg 54 (.load (some 4) (.t 10)),0,1⟩,⟨so (.store 3 (.t 6) (.t 53)),0,1⟩,⟨so (.store 4 (.t 7) (.t 54)),1,2⟩])
 (.pre (.norm false [6,7]) .ret)))))))
def l415_0:AX:=
 (.note
 (.seq
 (.reg [rg 12 (.bin .lss (.t 11) (.t 10))])
 (.seq
 (.cond (.t 12)
 .skip
 (.exit 0))
 (.seq
 (.block 1
 (.seq
 (.reg [mv 13 11,mv 7 13])
 (.seq
 (.reg [mv 15 1,mv 16 7,rg 17 (.inv "()" 500416 416 (.t 15) [(.t 16)]),mv 14 17,rg 18 (.ext (.t 14) 0),rg 19 (.ext (.t 14) 1),rg 8 (.alloc [(.b false),(.sl [] .nl),(.sl [] .nl),(.sl [] .nl),(.sl [] .nl)]),rg 9 (.alloc [(.i .i64 0),(.i .i64 0),(.i .i64 0),(.i .i64 0)]),so (.store 5 (.t 8) (.t 18)),so (.store 4 (.t 9) (.t 19))])
 (.seq
 (.seq
 (.reg [rg 20 (.load (some 4) (.t 9)),rg 21 (.build [(.i .i64 0),(.i .i64 0),(.i .i64 0),(.i .i64 0)] []),rg 22 (.eqs true [(0,.int),(1,.int),(2,.int),(3,.int)] (.t 20) (.t 21))])
 (.cond (.t 22)
 (.seq
 (.drawT [rg 23 (.load (some 4) (.t 9)),rg 4 (.mov (.c (.sl [] .nl)))]
 [so (.store 4 (.t 5) (.t 23))])
 (.pre (.norm false [4,5]) .ret))
 .skip))
 (.reg [mv 24 6,rg 25 (.load (some 5) (.t 8)),rg 26 (.bsl 5 [(.b false),(.sl [] .nl),(.sl [] .nl),(.sl [] .nl),(.sl [] .nl)] 1 [(0,(.t 25))]),rg 27 (.app 5 (.t 24) (.t 26)),mv 6 27])))))
 (.reg [rg 28 (.bin .add (.t 11) (.c (.i .i64 1))),mv 11 28]))))
 (.norm false [1,5,6,10,11]))
def b415:AX:=(fun p0=>QY [p0] [] "1h_fvi9vw4B5hVMtjRT1wEVyvDGpXnJs4vP6LemRQYTq8Rkq7EnF8") l415_0
def b416:AX:=QZ "5tboMfrWe6wyIXhqo9fdaDJAcQatFyryHGGJTil8yUdmz4P4flufY_w9PScq7l6sg"
def l417_0:AX:=
 (.note
 (.seq
 (.reg [rg 12 (.bin .lss (.t 11) (.t 10))])
 (.seq
 (.cond (.t 12)
 .skip
 (.exit 0))
 (.seq
 (.block 1
 (.seq
 (.reg [mv 13 11,mv 7 13])
 (.seq
 (.reg [mv 15 1,mv 16 7,rg 17 (.inv "()" 500418 418 (.t 15) [(.t 16)]),mv 14 17,rg 18 (.ext (.t 14) 0),rg 19 (.ext (.t 14) 1),rg 9 (.alloc [(.i .i64 0),(.i .i64 0),(.i .i64 0),(.i .i64 0)]),mv 8 18,so (.store 4 (.t 9) (.t 19))])
 (.seq
 (.seq
 (.reg [rg 20 (.load (some 4) (.t 9)),rg 21 (.build [(.i .i64 0),(.i .i64 0),(.i .i64 0),(.i .i64 0)] []),rg 22 (.eqs true [(0,.int),(1,.int),(2,.int),(3,.int)] (.t 20) (.t 21))])
 (.cond (.t 22)
 (.seq
 (.drawT [rg 23 (.load (some 4) (.t 9)),rg 4 (.mov (.c (.sl [] .nl)))]
 [so (.store 4 (.t 5) (.t 23))])
 (.pre (.norm false [4,5]) .ret))
 .skip))
 (.reg [mv 24 6,mv 25 8,rg 26 (.bsl 1 [(.sl [] .nl)] 1 [(0,(.t 25))]),rg 27 (.app 1 (.t 24) (.t 26)),mv 6 27])))))
 (.reg [rg 28 (.bin .add (.t 11) (.c (.i .i64 1))),mv 11 28]))))
 (.norm false [1,5,6,10,11]))
def b417:AX:=(fun p0=>QY [p0] [] "DG6zdU_MLL1IWL7FA5qaG2_b2nR3bHMtTIfZ2W4K3lSq5OovNNcp") l417_0
def b418:AX:=QZ "4eHhhx.15cFNwWeWUo1s_jLiYLWUHmVeEojukt58bhl9IdcGgoCWdXFvKPuYu332wp6QHF_75U.ewW_OVzRdbypeP967ThkK2IpCWVutzGgHvIz290BATgvKuObpu_9U95XOF.TmtTrpHGjLjIPOVGB_jbzbwhvVx.1rynEBOfHEi8sb8OOw7IUgehpcFvOPxeCekyryLr587FB9WrPA0JzHpH"
def b419:AX:=QZ "D60JHksR.GfhvO4CXL.72KJBU0u1N5GQ1Jmzy4Ru"
def b429:AX:=QZ "a2yuzBtLrmdKf7wMd7sqn_IiTCjZcXen9BcedWgZ2fFPIOG"
abbrev row401:AFx:=⟨2,24,[.t 4],b401,none,false⟩
abbrev row403:AFx:=⟨3,61,[.cell 6 (some 3),.cell 7 (some 4)],b403,none,false⟩
abbrev row404:AFx:=⟨3,55,[.cell 6 (some 3),.cell 7 (some 4)],b404,none,false⟩
abbrev row415:AFx:=⟨2,31,[.t 4,.cell 5 (some 4)],b415,none,false⟩
abbrev row416:AFx:=⟨2,21,[.cell 4 (some 5),.cell 5 (some 4)],b416,none,false⟩
abbrev row417:AFx:=⟨2,31,[.t 4,.cell 5 (some 4)],b417,none,false⟩
abbrev row418:AFx:=⟨2,55,[.t 4,.cell 5 (some 4)],b418,none,false⟩
abbrev row419:AFx:=⟨2,12,[.t 4],b419,none,false⟩
abbrev row429:AFx:=⟨1,14,[.cell 2 (some 5)],b429,none,false⟩
class Zal (T:Tbl):Prop where
 h401:Tr T 401=some row401
 h403:Tr T 403=some row403
 h404:Tr T 404=some row404
 h415:Tr T 415=some row415
 h416:Tr T 416=some row416
 h417:Tr T 417=some row417
 h418:Tr T 418=some row418
 h419:Tr T 419=some row419
 h429:Tr T 429=some row429
attribute [simp] Zal.h401 Zal.h403 Zal.h404 Zal.h415 Zal.h416 Zal.h417 Zal.h418 Zal.h419 Zal.h429
end
class Zin (T:Tbl):Prop where
section
def b399:AX:=QY [] [(AV.s [53])] "Ixx.Qb2wlSmciHJ2IgeBls1t1OLx78XFxbO_FyIzEpvVzvyI5EN.0LpFWY7Iymn_hIgzE0RagVr2VivRsui5q.EcINqLL6QGiF_0jdOrcSPG74N6rcxrqLSWaZ0YIvGYsUKIom3K_Rj1gxriUVwgw49aMiqy5CZzkQ1PFDAJrAAjjWReoCiL2cjy0TmOqNeWoOBLA91krfF206PdHFdiaxs.IMEm4Edv1VnpO1WMd9PdYAthE5T4A3E5SN16j36dFYA4xpm6aEWZAvtPCys5BUmDDGY6qc53zjdaLtz5U4hLaBuu3Xwgt"
abbrev row399:AFx:=⟨0,57,[.t 0],b399,none,false⟩
class Zi5 (T:Tbl):Prop where
 h399:Tr T 399=some row399
attribute [simp] Zi5.h399
end
end Go.Ab