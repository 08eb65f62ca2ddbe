/-
  A calculus of values, boxes and code, and what functions of the program compute, proved in it.
  Conditions: none beyond those that the theorems state. (Part 5.)
-/
import Derived.Test.YtfgfjicelfagcabGreatDoorPart4
import Derived.Test.YtfgfjicelfagcabGreatDoorProg
import Derived.KernelRfl
import Derived.Shelf.RegionOpenPlain
import Derived.Lib.Strings
import Derived.Lib.Slices
import Derived.Lib.Walk
import Derived.Lib.Builder
import Derived.Lib.AppendStr
import Derived.Lib.UnsafeStr
import Derived.Lib.MakeNoZero
import Derived.WalkKit
import Derived.Laws.Externs
import Derived.Laws.IdiomCopy
import Derived.Laws.BitsLemmas
import GoSem.Claims
import Derived.Deep.LoopGhost
import Derived.ProofKit
import Derived.OpenShut
import Derived.Shelf.Strings.Builder1
import Derived.Shelf.Strings.Builder2
import Derived.Shelf.Strings.OnBuilder
import Derived.Deep.DeepCutAuto
import Derived.Deep.DeepFit
import Derived.Deep.CutBlock
import Derived.Lib.OthersKept
import Derived.Test.YtfgfjicelfagcabGreatDoorRows
import Derived.Test.YtfgfjicelfagcabGreatDoorCards
import Derived.Test.YtfgfjicelfagcabGreatDoorTie
import Derived.LaidMore
import Derived.Stop.Joined
import Derived.SevenTiedAt
import Derived.Lib.LaidU8

set_option linter.unusedSectionVars false
set_option linter.unusedVariables false
set_option linter.unusedSimpArgs false
set_option linter.unnecessarySimpa false

section
namespace Go.Proofs.YtfgfjicelfagcabGreatDoor
open Go Go.Ab
set_option maxRecDepth 100000
def nus:List (Nat×Nat):=[(10,33),(13,34),(16,18),(17,19),(43,158),(44,98),(46,56),(50,93),(52,42),(54,157),(68,121),(69,159),(70,113),(71,117),(74,77),(75,78),(76,89),(79,130),(80,129),(84,69),(86,99),(90,147),(101,148),(103,149),(105,180),(106,145),(107,110),(108,111),(113,156),(114,131),(118,166),(125,167),(126,168),(127,169),(128,170),(129,144),(168,155),(172,71),(173,128),(177,95),(178,96),(179,97),(180,177),(181,178),(182,179),(185,132),(186,133),(187,134),(188,135),(189,192),(190,193),(466,6),(468,8),(469,68),(477,22),(478,91),(479,40),(480,92),(481,94),(483,70),(485,46),(486,47),(487,48),(488,49),(491,21),(492,72),(493,45),(591,16),(659,14),(660,35),(661,66),(662,36),(663,67),(664,37),(665,9),(666,10),(667,41),(668,17),(669,3),(671,7),(672,38),(673,11),(674,13),(675,15),(680,12),(682,39),(2043,158)]
def nu(u:Nat):FuncId:=(nus.lookup u).getD 0
def row118:AFx:=⟨3,29,[.t 6,.t 7,.t 8],b118,none,false⟩
def row86:AFx:=⟨1,21,[.t 2],b86,none,false⟩
def row106:AFx:=⟨2,15,[.t 4],b106,none,false⟩
def row71:AFx:=⟨1,6,[.t 2],b71,none,false⟩
def row70:AFx:=⟨1,7,[.t 2],b70,none,false⟩
def row90:AFx:=⟨2,37,[.t 4,.t 5,.t 6],b90,none,false⟩
def row101:AFx:=⟨1,19,[.t 2],b101,none,false⟩
def row68:AFx:=⟨0,0,[],.prim prim68,none,false⟩
def row103:AFx:=⟨2,37,[.t 4],b103,none,false⟩
def row125:AFx:=⟨2,17,[.t 4],b125,none,false⟩
def row43:AFx:=⟨1,23,[.t 2],b43,none,false⟩
def row84:AFx:=⟨2,13,[.t 4],b84,none,false⟩
def row52:AFx:=⟨2,30,[.t 4],b52,none,false⟩
def row54:AFx:=⟨2,26,[.t 4],b54,none,false⟩
def row2043:AFx:=⟨1,23,[.t 2],b2043,(some [false]),false⟩
def row105:AFx:=⟨1,29,[.t 2],b105,(some [true]),false⟩
def row69:AFx:=⟨1,26,[.t 2],b69,none,false⟩
def row129:AFx:=⟨1,6,[.t 2],b129,none,false⟩
def row76:AFx:=⟨1,18,[.t 2],b76,none,false⟩
def row74:AFx:=⟨1,34,[.t 2],b74,none,false⟩
def row44:AFx:=⟨1,6,[.t 2],b44,none,false⟩
def row108:AFx:=⟨2,12,[.t 4],b108,none,false⟩
def row107:AFx:=⟨1,14,[.t 2],b107,none,false⟩
def row75:AFx:=⟨4,67,[.t 8],b75,none,false⟩
def row46:AFx:=⟨4,35,[.t 8],b46,none,false⟩
def row483:AFx:=⟨1,25,[.t 2],b483,none,false⟩
def row493:AFx:=⟨1,36,[.t 2],b493,none,false⟩
def row491:AFx:=⟨1,19,[.t 2],b491,none,false⟩
def row492:AFx:=⟨1,44,[.t 2],b492,none,false⟩
def row113:AFx:=⟨1,21,[.t 2],b113,none,false⟩
def row80:AFx:=⟨1,34,[.t 2],b80,none,false⟩
def row114:AFx:=⟨2,36,[.t 4,.t 5],b114,none,false⟩
def row16:AFx:=⟨2,55,[.t 4],b16,none,false⟩
def row10:AFx:=⟨3,31,[.t 6],b10,none,false⟩
def row79:AFx:=⟨4,94,[.t 8],b79,none,false⟩
def row50:AFx:=⟨4,35,[.t 8],b50,none,false⟩
def row13:AFx:=⟨1,31,[.t 2],b13,none,false⟩
def row17:AFx:=⟨1,31,[.t 2],b17,none,false⟩
def row485:AFx:=⟨3,39,[.t 6],b485,none,false⟩
def row486:AFx:=⟨1,12,[.t 2],b486,none,false⟩
def row487:AFx:=⟨2,22,[.t 4],b487,none,false⟩
def row488:AFx:=⟨5,32,[.cell 10 (some 4)],b488,none,false⟩
def row477:AFx:=⟨3,80,[.cell 6 (some 4)],b477,none,false⟩
def row185:AFx:=⟨1,9,[.t 2],b185,none,false⟩
def row186:AFx:=⟨1,21,[.t 2],b186,none,false⟩
def row187:AFx:=⟨0,0,[],.prim prim187,none,false⟩
def row177:AFx:=⟨1,12,[.t 2],b177,none,false⟩
def row188:AFx:=⟨2,23,[.t 4],b188,none,false⟩
def row179:AFx:=⟨1,8,[.t 2],b179,none,false⟩
def row178:AFx:=⟨2,20,[.t 4],b178,none,false⟩
def row172:AFx:=⟨1,38,[.t 2],b172,none,false⟩
def row189:AFx:=⟨1,9,[.t 2],b189,none,false⟩
def row190:AFx:=⟨1,21,[.t 2],b190,none,false⟩
def row181:AFx:=⟨1,20,[.t 2],b181,none,false⟩
def row180:AFx:=⟨2,23,[.t 4],b180,none,false⟩
def row182:AFx:=⟨1,7,[.t 2],b182,none,false⟩
def row168:AFx:=⟨1,123,[.t 2,.t 3],b168,none,false⟩
def row173:AFx:=⟨1,36,[.t 2],b173,none,false⟩
def row478:AFx:=⟨1,22,[.t 2],b478,none,false⟩
def row479:AFx:=⟨1,25,[.t 2],b479,none,false⟩
def row481:AFx:=⟨1,17,[.t 2],b481,none,false⟩
def row480:AFx:=⟨1,22,[.t 2],b480,none,false⟩
def row469:AFx:=⟨3,127,[.t 6,.cell 7 (some 3)],b469,none,false⟩
def row466:AFx:=⟨4,64,[.t 8],b466,none,false⟩
def row468:AFx:=⟨1,51,[.cell 2 (some 2)],b468,none,false⟩
def row659:AFx:=⟨1,29,[.t 2],b659,none,false⟩
def row660:AFx:=⟨1,10,[.t 2],b660,none,false⟩
def row661:AFx:=⟨2,30,[.t 4],b661,(some [false,true]),false⟩
def row662:AFx:=⟨1,39,[.t 2],b662,none,false⟩
def row663:AFx:=⟨2,39,[.t 4],b663,(some [true,false]),false⟩
def row664:AFx:=⟨2,36,[.t 4],b664,(some [true,false]),false⟩
def row665:AFx:=⟨1,36,[.t 2,.t 3],b665,none,false⟩
def row666:AFx:=⟨1,14,[.cell 2 (some 2),.t 3],b666,none,false⟩
def row667:AFx:=⟨3,30,[],b667,(some [false,false,true]),false⟩
def row668:AFx:=⟨1,46,[.t 2],b668,none,false⟩
def row672:AFx:=⟨3,52,[.t 6],b672,none,false⟩
def row673:AFx:=⟨1,41,[.t 2,.t 3],b673,none,false⟩
def row674:AFx:=⟨1,80,[.t 2],b674,none,false⟩
def row675:AFx:=⟨1,36,[.t 2],b675,none,false⟩
def row680:AFx:=⟨1,8,[.t 2],b680,none,false⟩
def row682:AFx:=⟨3,18,[.t 6],b682,none,false⟩
def row591:AFx:=⟨2,37,[.t 4],b591,none,false⟩
def row669:AFx:=⟨1,112,[.t 2],b669,none,false⟩
def row671:AFx:=⟨0,55,[.t 0],b671,none,false⟩
def RowOk(P:Program)(ν:Nat→FuncId)(τ:Nat→Nat)(u:Nat)(af:AFx):Prop:=
 match af.body.isPrim with
 | some f=>∀xs r,f xs=some r→PCall P (ν u) xs (·=r)
 | none=>if af.body.isBad=true then (∀m∈methsA af,methOf P af.np m.1=some (ν m.2))∧(af.res.isEmpty=true→af.np=ν af.nt) else resFn P (ν u)=some (erF ν τ af)
theorem ok_pr{P:Program}{ν:Nat→FuncId}{τ:Nat→Nat}{u:Nat}{af:AFx}{f:List AV→Option AV}(h0:af.body.isPrim=some f)(h:∀xs r,f xs=some r→PCall P (ν u) xs (·=r)):RowOk P ν τ u af:=by unfold RowOk;rw[h0];exact h
theorem ok_fn{P:Program}{ν:Nat→FuncId}{τ:Nat→Nat}{u:Nat}{af:AFx}(h0:af.body.isPrim=none)(h1:af.body.isBad=false)(h:resFn P (ν u)=some (erF ν τ af)):RowOk P ν τ u af:=by unfold RowOk;rw[h0];simp only[h1];exact h
theorem ok_cons{P:Program}{ν:Nat→FuncId}{τ:Nat→Nat}{u:Nat}{af:AFx}{l:List (Nat×AFx)}(h:RowOk P ν τ u af)(hl:∀p∈l,RowOk P ν τ p.1 p.2) :
  ∀p∈(u,af)::l,RowOk P ν τ p.1 p.2:=by
 intro p hp
 rcases List.mem_cons.1 hp with rfl | hp
 ·exact h
 ·exact hl p hp
theorem ok_lookup{P:Program}{ν:Nat→FuncId}{l:List (Nat×AFx)}(hl:∀p∈l,RowOk P ν (tyNum fun u=>l.lookup u) p.1 p.2):TOk P ν (fun u=>l.lookup u):=fun _ _ h=>hl _ (zcr h)
theorem sub_cons{l l2:List (Nat×AFx)}{u:Nat}{af:AFx}(h:l.lookup u=some af)(h2:∀p∈l2,l.lookup p.1=some p.2):∀p∈(u,af)::l2,l.lookup p.1=some p.2:=by
 intro p hp
 rcases List.mem_cons.1 hp with rfl | hp
 ·exact h
 ·exact h2 p hp
def gTab:List (Nat×AFx):=[(118,row118),(86,row86),(106,row106),(71,row71),(70,row70),(90,row90),(101,row101),(68,row68),(103,row103),(125,row125),(43,row43),(84,row84),(52,row52),(54,row54),(2043,row2043),(105,row105),(69,row69),(129,row129),(76,row76),(74,row74),(44,row44),(108,row108),(107,row107),(75,row75),(46,row46),(483,row483),(493,row493),(491,row491),(492,row492),(113,row113),(80,row80),(114,row114),(16,row16),(10,row10),(79,row79),(50,row50),(13,row13),(17,row17),(485,row485),(486,row486),(487,row487),(488,row488),(477,row477),(185,row185),(186,row186),(187,row187),(177,row177),(188,row188),(179,row179),(178,row178),(172,row172),(189,row189),(190,row190),(181,row181),(180,row180),(182,row182),(168,row168),(173,row173),(478,row478),(479,row479),(481,row481),(480,row480),(469,row469),(466,row466),(468,row468),(659,row659),(660,row660),(661,row661),(662,row662),(663,row663),(664,row664),(665,row665),(666,row666),(667,row667),(668,row668),(672,row672),(673,row673),(674,row674),(675,row675),(680,row680),(682,row682),(591,row591),(669,row669),(671,row671)]
def lTab:List (Nat×AFx):=[(86,row86),(106,row106),(71,row71),(68,row68),(43,row43),(84,row84),(52,row52),(54,row54),(2043,row2043),(105,row105),(69,row69),(129,row129),(76,row76),(74,row74),(44,row44),(108,row108),(107,row107),(75,row75),(46,row46),(483,row483),(493,row493),(491,row491),(492,row492),(113,row113),(80,row80),(114,row114),(16,row16),(10,row10),(79,row79),(50,row50),(13,row13),(17,row17),(485,row485),(486,row486),(487,row487),(488,row488),(477,row477),(185,row185),(186,row186),(187,row187),(177,row177),(188,row188),(179,row179),(178,row178),(172,row172),(189,row189),(190,row190),(181,row181),(180,row180),(182,row182),(168,row168),(173,row173),(478,row478),(479,row479),(481,row481),(480,row480),(469,row469),(466,row466),(468,row468),(659,row659),(660,row660),(661,row661),(662,row662),(663,row663),(664,row664),(665,row665),(666,row666),(667,row667),(668,row668),(672,row672),(673,row673),(674,row674),(675,row675),(680,row680),(682,row682),(591,row591),(669,row669),(671,row671)]
def tab:Tbl:=fun u=>gTab.lookup u
def tau_l:Nat→Nat:=tyNum fun u=>lTab.lookup u
theorem resl_86:resFn Tryz.prog (nu 86)=some (erF nu tau_l row86):=by kernel_rfl
theorem resl_106:resFn Tryz.prog (nu 106)=some (erF nu tau_l row106):=by kernel_rfl
theorem resl_71:resFn Tryz.prog (nu 71)=some (erF nu tau_l row71):=by kernel_rfl
theorem resl_43:resFn Tryz.prog (nu 43)=some (erF nu tau_l row43):=by kernel_rfl
theorem resl_84:resFn Tryz.prog (nu 84)=some (erF nu tau_l row84):=by kernel_rfl
theorem resl_52:resFn Tryz.prog (nu 52)=some (erF nu tau_l row52):=by kernel_rfl
theorem resl_54:resFn Tryz.prog (nu 54)=some (erF nu tau_l row54):=by kernel_rfl
theorem resl_2043:resFn Tryz.prog (nu 2043)=some (erF nu tau_l row2043):=by kernel_rfl
theorem resl_105:resFn Tryz.prog (nu 105)=some (erF nu tau_l row105):=by kernel_rfl
theorem resl_69:resFn Tryz.prog (nu 69)=some (erF nu tau_l row69):=by kernel_rfl
theorem resl_129:resFn Tryz.prog (nu 129)=some (erF nu tau_l row129):=by kernel_rfl
theorem resl_76:resFn Tryz.prog (nu 76)=some (erF nu tau_l row76):=by kernel_rfl
theorem resl_74:resFn Tryz.prog (nu 74)=some (erF nu tau_l row74):=by kernel_rfl
theorem resl_44:resFn Tryz.prog (nu 44)=some (erF nu tau_l row44):=by kernel_rfl
theorem resl_108:resFn Tryz.prog (nu 108)=some (erF nu tau_l row108):=by kernel_rfl
theorem resl_107:resFn Tryz.prog (nu 107)=some (erF nu tau_l row107):=by kernel_rfl
theorem resl_75:resFn Tryz.prog (nu 75)=some (erF nu tau_l row75):=by kernel_rfl
theorem resl_46:resFn Tryz.prog (nu 46)=some (erF nu tau_l row46):=by kernel_rfl
theorem resl_483:resFn Tryz.prog (nu 483)=some (erF nu tau_l row483):=by kernel_rfl
theorem resl_493:resFn Tryz.prog (nu 493)=some (erF nu tau_l row493):=by kernel_rfl
theorem resl_491:resFn Tryz.prog (nu 491)=some (erF nu tau_l row491):=by kernel_rfl
theorem resl_492:resFn Tryz.prog (nu 492)=some (erF nu tau_l row492):=by kernel_rfl
theorem resl_113:resFn Tryz.prog (nu 113)=some (erF nu tau_l row113):=by kernel_rfl
theorem resl_80:resFn Tryz.prog (nu 80)=some (erF nu tau_l row80):=by kernel_rfl
theorem resl_114:resFn Tryz.prog (nu 114)=some (erF nu tau_l row114):=by kernel_rfl
theorem resl_16:resFn Tryz.prog (nu 16)=some (erF nu tau_l row16):=by kernel_rfl
theorem resl_10:resFn Tryz.prog (nu 10)=some (erF nu tau_l row10):=by kernel_rfl
theorem resl_79:resFn Tryz.prog (nu 79)=some (erF nu tau_l row79):=by kernel_rfl
theorem resl_50:resFn Tryz.prog (nu 50)=some (erF nu tau_l row50):=by kernel_rfl
theorem resl_13:resFn Tryz.prog (nu 13)=some (erF nu tau_l row13):=by kernel_rfl
theorem resl_17:resFn Tryz.prog (nu 17)=some (erF nu tau_l row17):=by kernel_rfl
theorem resl_485:resFn Tryz.prog (nu 485)=some (erF nu tau_l row485):=by kernel_rfl
theorem resl_486:resFn Tryz.prog (nu 486)=some (erF nu tau_l row486):=by kernel_rfl
theorem resl_487:resFn Tryz.prog (nu 487)=some (erF nu tau_l row487):=by kernel_rfl
theorem resl_488:resFn Tryz.prog (nu 488)=some (erF nu tau_l row488):=by kernel_rfl
theorem resl_477:resFn Tryz.prog (nu 477)=some (erF nu tau_l row477):=by kernel_rfl
theorem resl_185:resFn Tryz.prog (nu 185)=some (erF nu tau_l row185):=by kernel_rfl
theorem resl_186:resFn Tryz.prog (nu 186)=some (erF nu tau_l row186):=by kernel_rfl
theorem resl_177:resFn Tryz.prog (nu 177)=some (erF nu tau_l row177):=by kernel_rfl
theorem resl_188:resFn Tryz.prog (nu 188)=some (erF nu tau_l row188):=by kernel_rfl
theorem resl_179:resFn Tryz.prog (nu 179)=some (erF nu tau_l row179):=by kernel_rfl
theorem resl_178:resFn Tryz.prog (nu 178)=some (erF nu tau_l row178):=by kernel_rfl
theorem resl_172:resFn Tryz.prog (nu 172)=some (erF nu tau_l row172):=by kernel_rfl
theorem resl_189:resFn Tryz.prog (nu 189)=some (erF nu tau_l row189):=by kernel_rfl
theorem resl_190:resFn Tryz.prog (nu 190)=some (erF nu tau_l row190):=by kernel_rfl
theorem resl_181:resFn Tryz.prog (nu 181)=some (erF nu tau_l row181):=by kernel_rfl
theorem resl_180:resFn Tryz.prog (nu 180)=some (erF nu tau_l row180):=by kernel_rfl
theorem resl_182:resFn Tryz.prog (nu 182)=some (erF nu tau_l row182):=by kernel_rfl
theorem resl_168:resFn Tryz.prog (nu 168)=some (erF nu tau_l row168):=by kernel_rfl
theorem resl_173:resFn Tryz.prog (nu 173)=some (erF nu tau_l row173):=by kernel_rfl
theorem resl_478:resFn Tryz.prog (nu 478)=some (erF nu tau_l row478):=by kernel_rfl
theorem resl_479:resFn Tryz.prog (nu 479)=some (erF nu tau_l row479):=by kernel_rfl
theorem resl_481:resFn Tryz.prog (nu 481)=some (erF nu tau_l row481):=by kernel_rfl
theorem resl_480:resFn Tryz.prog (nu 480)=some (erF nu tau_l row480):=by kernel_rfl
theorem resl_469:resFn Tryz.prog (nu 469)=some (erF nu tau_l row469):=by kernel_rfl
theorem resl_466:resFn Tryz.prog (nu 466)=some (erF nu tau_l row466):=by kernel_rfl
theorem resl_468:resFn Tryz.prog (nu 468)=some (erF nu tau_l row468):=by kernel_rfl
theorem resl_659:resFn Tryz.prog (nu 659)=some (erF nu tau_l row659):=by kernel_rfl
theorem resl_660:resFn Tryz.prog (nu 660)=some (erF nu tau_l row660):=by kernel_rfl
theorem resl_661:resFn Tryz.prog (nu 661)=some (erF nu tau_l row661):=by kernel_rfl
theorem resl_662:resFn Tryz.prog (nu 662)=some (erF nu tau_l row662):=by kernel_rfl
theorem resl_663:resFn Tryz.prog (nu 663)=some (erF nu tau_l row663):=by kernel_rfl
theorem resl_664:resFn Tryz.prog (nu 664)=some (erF nu tau_l row664):=by kernel_rfl
theorem resl_665:resFn Tryz.prog (nu 665)=some (erF nu tau_l row665):=by kernel_rfl
theorem resl_666:resFn Tryz.prog (nu 666)=some (erF nu tau_l row666):=by kernel_rfl
theorem resl_667:resFn Tryz.prog (nu 667)=some (erF nu tau_l row667):=by kernel_rfl
theorem resl_668:resFn Tryz.prog (nu 668)=some (erF nu tau_l row668):=by kernel_rfl
theorem resl_672:resFn Tryz.prog (nu 672)=some (erF nu tau_l row672):=by kernel_rfl
theorem resl_673:resFn Tryz.prog (nu 673)=some (erF nu tau_l row673):=by kernel_rfl
theorem resl_674:resFn Tryz.prog (nu 674)=some (erF nu tau_l row674):=by kernel_rfl
theorem resl_675:resFn Tryz.prog (nu 675)=some (erF nu tau_l row675):=by kernel_rfl
theorem resl_680:resFn Tryz.prog (nu 680)=some (erF nu tau_l row680):=by kernel_rfl
theorem resl_682:resFn Tryz.prog (nu 682)=some (erF nu tau_l row682):=by kernel_rfl
theorem resl_591:resFn Tryz.prog (nu 591)=some (erF nu tau_l row591):=by kernel_rfl
theorem resl_669:resFn Tryz.prog (nu 669)=some (erF nu tau_l row669):=by kernel_rfl
theorem resl_671:resFn Tryz.prog (nu 671)=some (erF nu tau_l row671):=by kernel_rfl
theorem lTab_ok(hp68:∀xs r,prim68 xs=some r→PCall Tryz.prog (nu 68) xs (·=r))(hp187:∀xs r,prim187 xs=some r→PCall Tryz.prog (nu 187) xs (·=r)):TOk Tryz.prog nu (fun u=>lTab.lookup u):=ok_lookup (ok_cons (ok_fn rfl rfl resl_86) (ok_cons (ok_fn rfl rfl resl_106) (ok_cons (ok_fn rfl rfl resl_71) (ok_cons (ok_pr rfl hp68) (ok_cons (ok_fn rfl rfl resl_43) (ok_cons (ok_fn rfl rfl resl_84) (ok_cons (ok_fn rfl rfl resl_52) (ok_cons (ok_fn rfl rfl resl_54) (ok_cons (ok_fn rfl rfl resl_2043) (ok_cons (ok_fn rfl rfl resl_105) (ok_cons (ok_fn rfl rfl resl_69) (ok_cons (ok_fn rfl rfl resl_129) (ok_cons (ok_fn rfl rfl resl_76) (ok_cons (ok_fn rfl rfl resl_74) (ok_cons (ok_fn rfl rfl resl_44) (ok_cons (ok_fn rfl rfl resl_108) (ok_cons (ok_fn rfl rfl resl_107) (ok_cons (ok_fn rfl rfl resl_75) (ok_cons (ok_fn rfl rfl resl_46) (ok_cons (ok_fn rfl rfl resl_483) (ok_cons (ok_fn rfl rfl resl_493) (ok_cons (ok_fn rfl rfl resl_491) (ok_cons (ok_fn rfl rfl resl_492) (ok_cons (ok_fn rfl rfl resl_113) (ok_cons (ok_fn rfl rfl resl_80) (ok_cons (ok_fn rfl rfl resl_114) (ok_cons (ok_fn rfl rfl resl_16) (ok_cons (ok_fn rfl rfl resl_10) (ok_cons (ok_fn rfl rfl resl_79) (ok_cons (ok_fn rfl rfl resl_50) (ok_cons (ok_fn rfl rfl resl_13) (ok_cons (ok_fn rfl rfl resl_17) (ok_cons (ok_fn rfl rfl resl_485) (ok_cons (ok_fn rfl rfl resl_486) (ok_cons (ok_fn rfl rfl resl_487) (ok_cons (ok_fn rfl rfl resl_488) (ok_cons (ok_fn rfl rfl resl_477) (ok_cons (ok_fn rfl rfl resl_185) (ok_cons (ok_fn rfl rfl resl_186) (ok_cons (ok_pr rfl hp187) (ok_cons (ok_fn rfl rfl resl_177) (ok_cons (ok_fn rfl rfl resl_188) (ok_cons (ok_fn rfl rfl resl_179) (ok_cons (ok_fn rfl rfl resl_178) (ok_cons (ok_fn rfl rfl resl_172) (ok_cons (ok_fn rfl rfl resl_189) (ok_cons (ok_fn rfl rfl resl_190) (ok_cons (ok_fn rfl rfl resl_181) (ok_cons (ok_fn rfl rfl resl_180) (ok_cons (ok_fn rfl rfl resl_182) (ok_cons (ok_fn rfl rfl resl_168) (ok_cons (ok_fn rfl rfl resl_173) (ok_cons (ok_fn rfl rfl resl_478) (ok_cons (ok_fn rfl rfl resl_479) (ok_cons (ok_fn rfl rfl resl_481) (ok_cons (ok_fn rfl rfl resl_480) (ok_cons (ok_fn rfl rfl resl_469) (ok_cons (ok_fn rfl rfl resl_466) (ok_cons (ok_fn rfl rfl resl_468) (ok_cons (ok_fn rfl rfl resl_659) (ok_cons (ok_fn rfl rfl resl_660) (ok_cons (ok_fn rfl rfl resl_661) (ok_cons (ok_fn rfl rfl resl_662) (ok_cons (ok_fn rfl rfl resl_663) (ok_cons (ok_fn rfl rfl resl_664) (ok_cons (ok_fn rfl rfl resl_665) (ok_cons (ok_fn rfl rfl resl_666) (ok_cons (ok_fn rfl rfl resl_667) (ok_cons (ok_fn rfl rfl resl_668) (ok_cons (ok_fn rfl rfl resl_672) (ok_cons (ok_fn rfl rfl resl_673) (ok_cons (ok_fn rfl rfl resl_674) (ok_cons (ok_fn rfl rfl resl_675) (ok_cons (ok_fn rfl rfl resl_680) (ok_cons (ok_fn rfl rfl resl_682) (ok_cons (ok_fn rfl rfl resl_591) (ok_cons (ok_fn rfl rfl resl_669) (ok_cons (ok_fn rfl rfl resl_671) (fun p hp=>by cases hp)))))))))))))))))))))))))))))))))))))))))))))))))))))))))))))))))))))))))))))))
theorem lTab_part:Part gTab lTab:=⟨sub_cons (by kernel_rfl) (sub_cons (by kernel_rfl) (sub_cons (by kernel_rfl) (sub_cons (by kernel_rfl) (sub_cons (by kernel_rfl) (sub_cons (by kernel_rfl) (sub_cons (by kernel_rfl) (sub_cons (by kernel_rfl) (sub_cons (by kernel_rfl) (sub_cons (by kernel_rfl) (sub_cons (by kernel_rfl) (sub_cons (by kernel_rfl) (sub_cons (by kernel_rfl) (sub_cons (by kernel_rfl) (sub_cons (by kernel_rfl) (sub_cons (by kernel_rfl) (sub_cons (by kernel_rfl) (sub_cons (by kernel_rfl) (sub_cons (by kernel_rfl) (sub_cons (by kernel_rfl) (sub_cons (by kernel_rfl) (sub_cons (by kernel_rfl) (sub_cons (by kernel_rfl) (sub_cons (by kernel_rfl) (sub_cons (by kernel_rfl) (sub_cons (by kernel_rfl) (sub_cons (by kernel_rfl) (sub_cons (by kernel_rfl) (sub_cons (by kernel_rfl) (sub_cons (by kernel_rfl) (sub_cons (by kernel_rfl) (sub_cons (by kernel_rfl) (sub_cons (by kernel_rfl) (sub_cons (by kernel_rfl) (sub_cons (by kernel_rfl) (sub_cons (by kernel_rfl) (sub_cons (by kernel_rfl) (sub_cons (by kernel_rfl) (sub_cons (by kernel_rfl) (sub_cons (by kernel_rfl) (sub_cons (by kernel_rfl) (sub_cons (by kernel_rfl) (sub_cons (by kernel_rfl) (sub_cons (by kernel_rfl) (sub_cons (by kernel_rfl) (sub_cons (by kernel_rfl) (sub_cons (by kernel_rfl) (sub_cons (by kernel_rfl) (sub_cons (by kernel_rfl) (sub_cons (by kernel_rfl) (sub_cons (by kernel_rfl) (sub_cons (by kernel_rfl) (sub_cons (by kernel_rfl) (sub_cons (by kernel_rfl) (sub_cons (by kernel_rfl) (sub_cons (by kernel_rfl) (sub_cons (by kernel_rfl) (sub_cons (by kernel_rfl) (sub_cons (by kernel_rfl) (sub_cons (by kernel_rfl) (sub_cons (by kernel_rfl) (sub_cons (by kernel_rfl) (sub_cons (by kernel_rfl) (sub_cons (by kernel_rfl) (sub_cons (by kernel_rfl) (sub_cons (by kernel_rfl) (sub_cons (by kernel_rfl) (sub_cons (by kernel_rfl) (sub_cons (by kernel_rfl) (sub_cons (by kernel_rfl) (sub_cons (by kernel_rfl) (sub_cons (by kernel_rfl) (sub_cons (by kernel_rfl) (sub_cons (by kernel_rfl) (sub_cons (by kernel_rfl) (sub_cons (by kernel_rfl) (sub_cons (by kernel_rfl) (sub_cons (by kernel_rfl) (fun p hp=>by cases hp)))))))))))))))))))))))))))))))))))))))))))))))))))))))))))))))))))))))))))))),by kernel_rfl⟩
def sTab:List (Nat×AFx):=[(118,row118),(86,row86),(106,row106),(71,row71),(70,row70),(90,row90),(101,row101),(103,row103),(125,row125)]
def tau_s:Nat→Nat:=tyNum fun u=>sTab.lookup u
theorem ress_118:resFn Tryz.prog (nu 118)=some (erF nu tau_s row118):=by kernel_rfl
theorem ress_86:resFn Tryz.prog (nu 86)=some (erF nu tau_s row86):=by kernel_rfl
theorem ress_106:resFn Tryz.prog (nu 106)=some (erF nu tau_s row106):=by kernel_rfl
theorem ress_71:resFn Tryz.prog (nu 71)=some (erF nu tau_s row71):=by kernel_rfl
theorem ress_70:resFn Tryz.prog (nu 70)=some (erF nu tau_s row70):=by kernel_rfl
theorem ress_90:resFn Tryz.prog (nu 90)=some (erF nu tau_s row90):=by kernel_rfl
theorem ress_101:resFn Tryz.prog (nu 101)=some (erF nu tau_s row101):=by kernel_rfl
theorem ress_103:resFn Tryz.prog (nu 103)=some (erF nu tau_s row103):=by kernel_rfl
theorem ress_125:resFn Tryz.prog (nu 125)=some (erF nu tau_s row125):=by kernel_rfl
theorem sTab_ok:TOk Tryz.prog nu (fun u=>sTab.lookup u):=ok_lookup (ok_cons (ok_fn rfl rfl ress_118) (ok_cons (ok_fn rfl rfl ress_86) (ok_cons (ok_fn rfl rfl ress_106) (ok_cons (ok_fn rfl rfl ress_71) (ok_cons (ok_fn rfl rfl ress_70) (ok_cons (ok_fn rfl rfl ress_90) (ok_cons (ok_fn rfl rfl ress_101) (ok_cons (ok_fn rfl rfl ress_103) (ok_cons (ok_fn rfl rfl ress_125) (fun p hp=>by cases hp))))))))))
theorem sTab_part:Part gTab sTab:=⟨sub_cons (by kernel_rfl) (sub_cons (by kernel_rfl) (sub_cons (by kernel_rfl) (sub_cons (by kernel_rfl) (sub_cons (by kernel_rfl) (sub_cons (by kernel_rfl) (sub_cons (by kernel_rfl) (sub_cons (by kernel_rfl) (sub_cons (by kernel_rfl) (fun p hp=>by cases hp))))))))),by kernel_rfl⟩
instance:CLimb tab where
 h118:=by kernel_rfl
instance:CNat tab where
 h118:=by kernel_rfl
 h86:=by kernel_rfl
 h106:=by kernel_rfl
 h71:=by kernel_rfl
 h70:=by kernel_rfl
instance:CProd tab where
 h118:=by kernel_rfl
 h86:=by kernel_rfl
 h106:=by kernel_rfl
 h71:=by kernel_rfl
 h70:=by kernel_rfl
instance:CTwos tab where
instance:CQuot tab where
 h90:=by kernel_rfl
instance:CQuotD tab where
instance:CDigits tab where
 h101:=by kernel_rfl
instance:CText tab where
 h68:=by kernel_rfl
instance:CTrim tab where
 h103:=by kernel_rfl
 h125:=by kernel_rfl
instance:CRef02 tab where
 h43:=by kernel_rfl
 h84:=by kernel_rfl
 h52:=by kernel_rfl
 h54:=by kernel_rfl
instance:CRef04 tab where
 h43:=by kernel_rfl
 h84:=by kernel_rfl
 h52:=by kernel_rfl
 h54:=by kernel_rfl
instance:CRef05 tab where
 h43:=by kernel_rfl
 h84:=by kernel_rfl
 h52:=by kernel_rfl
 h54:=by kernel_rfl
instance:CRef07 tab where
 h43:=by kernel_rfl
 h84:=by kernel_rfl
 h52:=by kernel_rfl
 h54:=by kernel_rfl
 h2043:=by kernel_rfl
 h105:=by kernel_rfl
 h69:=by kernel_rfl
instance:CLenD tab where
 h129:=by kernel_rfl
instance:CTree tab where
 h76:=by kernel_rfl
 h74:=by kernel_rfl
 h44:=by kernel_rfl
 h108:=by kernel_rfl
 h107:=by kernel_rfl
 h75:=by kernel_rfl
 h46:=by kernel_rfl
instance:CTree2 tab where
 h483:=by kernel_rfl
 h493:=by kernel_rfl
 h491:=by kernel_rfl
 h492:=by kernel_rfl
instance:CRef17 tab where
 h113:=by kernel_rfl
 h80:=by kernel_rfl
 h114:=by kernel_rfl
 h16:=by kernel_rfl
 h10:=by kernel_rfl
 h79:=by kernel_rfl
 h50:=by kernel_rfl
instance:CLaw17 tab where
 h13:=by kernel_rfl
 h17:=by kernel_rfl
instance:CCheck tab where
 h485:=by kernel_rfl
 h486:=by kernel_rfl
 h487:=by kernel_rfl
 h488:=by kernel_rfl
 h477:=by kernel_rfl
instance:CLex tab where
 h185:=by kernel_rfl
 h186:=by kernel_rfl
 h187:=by kernel_rfl
 h177:=by kernel_rfl
 h188:=by kernel_rfl
 h179:=by kernel_rfl
 h178:=by kernel_rfl
 h172:=by kernel_rfl
instance:CJoin tab where
instance:CRef16 tab where
 h189:=by kernel_rfl
 h190:=by kernel_rfl
 h181:=by kernel_rfl
 h180:=by kernel_rfl
 h182:=by kernel_rfl
 h168:=by kernel_rfl
 h173:=by kernel_rfl
instance:CRef19 tab where
 h478:=by kernel_rfl
 h479:=by kernel_rfl
 h481:=by kernel_rfl
 h480:=by kernel_rfl
 h469:=by kernel_rfl
 h466:=by kernel_rfl
instance:CLaw21 tab where
 h468:=by kernel_rfl
instance:CPlain tab where
 h659:=by kernel_rfl
 h660:=by kernel_rfl
 h661:=by kernel_rfl
 h662:=by kernel_rfl
 h663:=by kernel_rfl
 h664:=by kernel_rfl
 h665:=by kernel_rfl
 h666:=by kernel_rfl
 h667:=by kernel_rfl
 h668:=by kernel_rfl
instance:CRef22 tab where
 h672:=by kernel_rfl
 h673:=by kernel_rfl
 h674:=by kernel_rfl
 h675:=by kernel_rfl
instance:CFine tab where
 h680:=by kernel_rfl
 h682:=by kernel_rfl
instance:CSameI tab where
 h591:=by kernel_rfl
instance:CLaw22 tab where
 h669:=by kernel_rfl
 h671:=by kernel_rfl
end Go.Proofs.YtfgfjicelfagcabGreatDoor
end
section
namespace Go.Proofs
open Go.RowKit
theorem Tryz.sizeBuilder:(Tryz.prog.info? 204).map (·.size)=some 2:=by kernel_rfl
theorem Tryz.liesBuilder:liesAt Tryz.prog Tryz.prog.depth 204 (2/Tryz.prog.cellsOf 204) 0 204 1=true:=by kernel_rfl
theorem Tryz.infoByte:(Tryz.prog.info? 5).map (fun i=>(i.zero,i.size,i.bytes))=some (some (.int .u8 0),1,1):=by kernel_rfl
theorem Tryz.cellsByte:Tryz.prog.cellsOf 5=1:=by kernel_rfl
set_option maxHeartbeats 1000000 in
set_option maxRecDepth 100000 in
theorem Tryz.bString(B b:Nat)(l:List UInt8)(w:World)(h:Lib.IsBuilder 204 5 B b (Lib.byteCells l) w)(h0:l≠[]) :
  Calls Tryz.prog 124 #[.pointer (some ⟨b,0,none⟩)] w fun e w'=>e=.returned (.string ⟨l.toArray⟩)∧Below B w w':=by
 obtain⟨p,hB,v,hbk,hown,hne⟩:∃p,Lib.BuilderAt 204 5 B b p (Lib.byteCells l) w:=by
  rcases h with h | h
  ·exact⟨_,h⟩
  ·exact⟨_,h⟩
 have hl0:l.length≠0:=by simpa using h0
 rw[Lib.byteCells_length]at hown
 obtain⟨g,cap,cur,rfl,hbg,hg,hnc,hcm,hcs,htake⟩:∃g cap cur,v=.slice (some ⟨g,0,none⟩) l.length cap∧B≤g∧w.heap[g]? = some (.cells cur 5 (0,0))∧l.length≤cap∧cap≤maxLen∧cur.size=cap*1∧cur.toList.take (l.length*1)=Lib.byteCells l:=by
  rcases hown.2 with ⟨_,hz⟩ | ⟨g,cap,cur,hv,r⟩
  ·exact absurd hz hl0
  ·exact⟨g,cap,cur,hv,r⟩
 have c1:w.drew.cell? ⟨b,1,none⟩=some (.slice (some ⟨g,0,none⟩) l.length cap):=by
  have:w.drew.heap[b]? = some (.cells #[p,.slice (some ⟨g,0,none⟩) l.length cap] 204 (0,0)):=hbk
  rw[Lib.cell_of_heap this];rfl
 have hSD:(Builtin.unsafeSliceData_ #[202] 232 #[.slice (some ⟨g,0,none⟩) l.length cap]).run Tryz.prog w.drew=.ok (.pointer (some ⟨g,0,none⟩)) w.drew:=
  Lib.run_unsafeSliceData_row _ _ _ _ _ _ (by omega)
 have hUS:(Builtin.unsafeString_ #[232,3] 9 #[.pointer (some ⟨g,0,none⟩),.int .i64 l.length]).run Tryz.prog w.drew=.ok (.string ⟨l.toArray⟩) (w.drew.freeze ⟨g,0,none⟩ l.length):=by
  refine Lib.run_unsafeString_row w.drew 232 3 9 5 Tryz.underlying232 Tryz.cellsByte g cur.size (by have hg':w.drew.heap[g]? = some (.cells cur 5 (0,0)):=hg;simp[World.shape?,hg']) l h0 (by omega) (by unfold maxLen at hcm;omega) ?_
  intro j x hx
  have:=hown.cells (g:=g) rfl j (.int .u8 x.toNat) (by simp[Lib.byteCells,hx])
  exact this
 go_enter Tryz.func124,Tryz.ntmps124
 go_wp2
 go_region
 all_goals (go_wp2;go_ret;exact⟨rfl,Lib.below_freeze (Below.drew (Below.refl B w)) (p:=⟨g,0,none⟩) hbg _⟩)
set_option maxHeartbeats 1000000 in
set_option maxRecDepth 100000 in
theorem Tryz.bCheck_used(b:Nat)(w:World)(h0:w.cell? ⟨b,0,none⟩=some (.pointer (some ⟨b,0,none⟩))) :
  Calls Tryz.prog 150 #[.pointer (some ⟨b,0,none⟩)] w fun e w'=>e=.returned (.tuple #[])∧w'=w:=by
 obtain⟨j,hj,_⟩:=Option.map_eq_some_iff.1 Tryz.sizeBuilder
 go_enter Tryz.func150,Tryz.ntmps150
 go_wp2
 rw[Lib.run_neq_ptr_same w _ Tryz.underlying201 hj]
 go_wp2
 go_end0
 exact⟨rfl,rfl⟩
set_option maxHeartbeats 1000000 in
set_option maxRecDepth 100000 in
theorem Tryz.bCheck_fresh(b:Nat)(w:World)(h0:w.cell? ⟨b,0,none⟩=some (.pointer none))(hsh:w.shape? b=some (204,2))(hfz:w.frozen? ⟨b,0,none⟩=false) :
  Calls Tryz.prog 150 #[.pointer (some ⟨b,0,none⟩)] w fun e w'=>e=.returned (.tuple #[])∧w'=w.setCell ⟨b,0,none⟩ (.pointer (some ⟨b,0,none⟩)):=by
 obtain⟨j,hj,hjs⟩:=Option.map_eq_some_iff.1 Tryz.sizeBuilder
 go_enter Tryz.func150,Tryz.ntmps150
 go_wp2
 rw[Lib.run_to_unsafe w ⟨b,0,none⟩ Tryz.underlying201 Tryz.underlying257 hj (by rw[hjs];decide) hsh (Nat.zero_lt_succ 1)]
 simp only[Result.andThen]
 rw[Oper.upon_value]
 go_wp2
 rw[run_callFunc_extern Tryz.func171 (by kernel_rfl) (by kernel_rfl) (by kernel_rfl) (e:=Extern.AbiNoEscape.same) (by kernel_rfl)]
 rw[Lib.run_noEscape]
 simp only[Result.andThen]
 rw[Oper.upon_value]
 go_wp2
 rw[Lib.run_from_unsafe w ⟨b,0,none⟩ Tryz.underlying257 Tryz.underlying201 hj hsh Tryz.liesBuilder]
 simp only[Result.andThen]
 rw[Oper.upon_value]
 go_wp2
 go_end0
 exact⟨rfl,rfl⟩
theorem Tryz.bCheck(B b:Nat)(bs:List Value)(w:World)(h:Lib.IsBuilder 204 5 B b bs w) :
  Calls Tryz.prog 150 #[.pointer (some ⟨b,0,none⟩)] w fun e w'=>e=.returned (.tuple #[])∧(Lib.BuilderAt 204 5 B b (.pointer (some ⟨b,0,none⟩)) bs w'∧Below B w w'):=by
 rcases h with h | h
 ·refine(Tryz.bCheck_fresh b w h.cell0 h.shape h.frozen0).mono ?_
  rintro e w' ⟨rfl,rfl⟩
  exact⟨rfl,h.used _,(Below.refl B w).setCell (p:=⟨b,0,none⟩) h.1 _⟩
 ·refine(Tryz.bCheck_used b w h.cell0).mono ?_
  rintro e w' ⟨rfl,rfl⟩
  exact⟨rfl,h,Below.refl B _⟩
set_option maxHeartbeats 2000000 in
set_option maxRecDepth 100000 in
theorem Tryz.bWrite(B b:Nat)(bs:List Value)(s:ByteArray)(w:World)(h:Lib.IsBuilder 204 5 B b bs w)(hlen:bs.length+s.size≤140737488355328)(hBw:B≤w.heap.size) :
  Calls Tryz.prog 123 #[.pointer (some ⟨b,0,none⟩),.string s] w fun e w'=>e=.returned (.tuple #[.int .i64 s.size,.nilIface])∧(Lib.BuilderAt 204 5 B b (.pointer (some ⟨b,0,none⟩)) (bs++Lib.strCells s) w'∧Below B w w'):=by
 obtain⟨i0,hi,hz0,hz1,hz2⟩:=info_parts Tryz.infoByte
 go_enter Tryz.func123,Tryz.ntmps123
 go_wp2_with (go_at_call 150;refine(Tryz.bCheck B b bs _ h).mono ?_)
 rintro e w1 ⟨rfl,h1,hb1⟩
 obtain⟨hB,v,hbk,hown,hne⟩:=h1
 have c0:w1.cell? ⟨b,0,none⟩=some (.pointer (some ⟨b,0,none⟩)):=by rw[Lib.cell_of_heap hbk];rfl
 have c1:w1.cell? ⟨b,1,none⟩=some v:=by rw[Lib.cell_of_heap hbk];rfl
 go_wp2_with (at_builtin;refine Lib.wpList_append_own_string _ rfl _ _ 202 9 rfl B 5 i0 Tryz.underlying202 Tryz.underlying9 hi hz0 hz1 hz2 _ _ _ rfl hown s rfl ?c3 ?c4 ?c5 ?_)
 case c3=>unfold maxLen;omega
 case c4=>omega
 case c5=>have:=hb1.size;omega
 intro v' w2 hown' hgrow _
 have hlt:b<w1.heap.size:=by
  rcases Nat.lt_or_ge b w1.heap.size with h' | h'
  ·exact h'
  ·simp[Array.getElem?_eq_none h']at hbk
 have hb2:w2.heap[b]? = some (.cells #[.pointer (some ⟨b,0,none⟩),v] 204 (0,0)):=by
  rw[hgrow.block b hlt (fun e=>hne e.symm)]
  exact hbk
 have d0:w2.cell? ⟨b,0,none⟩=some (.pointer (some ⟨b,0,none⟩)):=by rw[Lib.cell_of_heap hb2];rfl
 have d1:w2.cell? ⟨b,1,none⟩=some v:=by rw[Lib.cell_of_heap hb2];rfl
 have f1:w2.frozen? ⟨b,1,none⟩=false:=Lib.frozen_of_heap hb2 1
 obtain⟨ao,n',cap,rfl⟩:∃ao n' cap,v'=.slice ao n' cap:=by
  rcases hown'.2 with ⟨hv,_⟩ | ⟨g,cap,cur,hv,_⟩
  ·exact⟨_,_,_,hv⟩
  ·exact⟨_,_,_,hv⟩
 go_wp2
 go_ret2
 refine⟨rfl,?_,?_⟩
 ·exact Lib.BuilderAt.put (T:=204) (e:=5) hB hb2 (bs':=bs++Lib.strCells s) (by simpa[Lib.strCells_length]using hown') (by decide)
 ·exact(hb1.grown hgrow (by have:=hb1.size;omega) (fun k hk=>(hown.lt k hk).1)).setCell (p:=⟨b,1,none⟩) hB _
end Go.Proofs
end
namespace Go.Ab
section
variable{T:Tbl}
theorem zsa(x0:Nat)(_hx0:x0<4294967296):∀y:Nat×Nat×List UInt8,(y.1≤9∧y.2.1<4294967296∧y.2.2.length=9-y.1∧digK y.1 y.2.1++y.2.2=digK 9 x0) →
  loopN T 0 0 (.norm false [3]) l101_0 ⟨[(0,u32 y.2.1),(3,.ptr (.loc 3) 1 9 0 0),(4,.i .i64 ((y.1:Int)-1))],[(.loc 3,⟨1,.str,9,[u8c (List.replicate y.1 0++y.2.2)]⟩)],3⟩ =
   some (.n,⟨[(3,.ptr (.loc 3) 1 9 0 0)],[(.loc 3,⟨1,.str,9,[u8c (digK 9 x0)]⟩)],3⟩):=by
 refine zan (fun y:Nat×Nat×List UInt8=>⟨[(0,u32 y.2.1),(3,.ptr (.loc 3) 1 9 0 0),(4,.i .i64 ((y.1:Int)-1))],[(.loc 3,⟨1,.str,9,[u8c (List.replicate y.1 0++y.2.2)]⟩)],3⟩) _ (fun y=>y.1) _ ?_
 rintro⟨k,x,m⟩ ⟨hk,hx,hm,hd⟩
 simp only at hk hx hm hd
 cases k with
 | zero=>
  right
  have hd:m=digK 9 x0:=by simpa only[zg1,List.nil_append]using hd
  subst hd
  generalize digK 9 x0=m
  constructor<;>simp -implicitDefEqProofs[l101_0]
 | succ j=>
  left
  have hw:IntKind.wrap .i64 ((j:Int)-1)=(j:Int)-1:=zac _ (by omega)
  have h1:(j:Int)<9:=by omega
  have h2:j≤8:=by omega
  have hd1:48+x%10<256:=by omega
  have hs:=(zxh (l:=List.replicate (j+1) 0++m) (j:=j) hd1 (by simp;omega)).trans (congrArg u8c (zu8 (j:=j) (m:=m) (UInt8.ofNat (48+x%10))))
  have m1:(48+x%10)%4294967296=48+x%10:=Nat.mod_eq_of_lt (by omega)
  have m2:(48+x%10)%256=48+x%10:=Nat.mod_eq_of_lt (by omega)
  have m3:x/10%4294967296=x/10:=Nat.mod_eq_of_lt (by omega)
  have hlen:j+1+m.length=9:=by omega
  refine⟨(j,x/10,UInt8.ofNat (48+x%10)::m),⟨by simp only;omega,by simp only;omega,by simp;omega,?_⟩,Nat.lt_succ_self j,?_,rfl⟩
  ·simp only
   rw[←hd,zda,List.append_assoc]
   rfl
  ·simp -implicitDefEqProofs[l101_0,hw,h1,h2,hs,m1,m2,m3,hlen]
end
section
variable{T:Tbl}[CDigits T]
theorem zl9(x:Nat)(hx:x<4294967296):callF T 101 [u32 x]=some (.s (digK 9 x)):=by
 have h:=zsa (T:=T) x hx (9,x,[]) ⟨Nat.le_refl _,hx,rfl,by simp⟩
 have e:u8c (List.replicate 9 0++[])=[u8 0,u8 0,u8 0,u8 0,u8 0,u8 0,u8 0,u8 0,u8 0]:=rfl
 simp only[e]at h
 rw[f101 _ rfl,b101]
 have h8:IntKind.wrap .i64 8=8:=by decide
 have hl9:=zdz 9 x
 generalize hm:digK 9 x=m at *
 have t9:List.take 9 ((u8c m).map fun c=>[c])=(u8c m).map fun c=>[c]:=List.take_of_length_le (by simp[hl9])
 have hr:=zu9 m
 simp at h
 simp -implicitDefEqProofs[h,hr,hl9,t9]
end
section
variable{T:Tbl}[CNat T][CProd T][CDigits T]
def stRi(l:List UInt8)(o:List UInt32)(i0 k:Nat):St:=
 ⟨[(0,.s l),(3,.ptr (.loc 3) 1 4 0 0),(5,.sl (u32s o) .an),(6,.i .i64 (i0+k:Nat)),(7,u32 (rd ((l.drop i0).take k))),(8,u32 (10^k)),(9,.i .i64 k)],[(.loc 3,⟨1,.str,4,[[.i .i64 0,.i .i64 0,.i .i64 0,.i .i64 0]]⟩)],3⟩
end
def pieces(n:Nat):List (List UInt8):=if h:n=0 then [] else digK 9 (n%1000000000)::pieces (n/1000000000)
termination_by n
decreasing_by exact Nat.div_lt_self (Nat.pos_of_ne_zero h) (by decide)
theorem zbi:pieces 0=[]:=by unfold pieces;simp
theorem zby{n:Nat}(h:n≠0):pieces n=digK 9 (n%1000000000)::pieces (n/1000000000):=by
 conv=>lhs;unfold pieces
 rw[dif_neg h]
def rowsS(l:List (List UInt8)):List (List AV):=l.map fun s=>[.s s]
@[simp] theorem zvz(l:List (List UInt8)):(rowsS l).length=l.length:=by simp[rowsS]
@[simp] theorem zvh(l:List (List UInt8)):wkL (rowsS l)=rowsS l:=by
 induction l with
 | nil=>rfl
 | cons x l ih=>simpa[rowsS,wkL,wkR]using ih
theorem ztp(l:List (List UInt8))(s:List UInt8):rowsS l++[[.s s]]=rowsS (l++[s]):=by simp[rowsS]
def txL:AX:=
 (.note
 (.seq
 (.seq
  (.reg [⟨(some 11),none,.mov (.t 0)⟩,
   ⟨(some 12),none,.call 70 [(.t 11)]⟩,
   ⟨(some 13),none,.un .not (.t 12)⟩])
  (.cond (.t 13)
  .skip
  (.exit 0)))
 (.block 1
  (.seq
  (.reg [⟨(some 15),none,.mov (.t 0)⟩,
   ⟨(some 16),none,.call 90 [(.t 15),(.c (u32 1000000000))]⟩,
   ⟨(some 14),none,.mov (.t 16)⟩,
   ⟨(some 17),none,.ext (.t 14) 0⟩,
   ⟨(some 18),none,.ext (.t 14) 1⟩,
   ⟨(some 19),none,.ext (.t 14) 2⟩,
   ⟨(some 4),none,.mov (.t 17)⟩,
   ⟨(some 5),none,.mov (.t 18)⟩,
   ⟨(some 6),none,.mov (.t 19)⟩])
  (.seq
   (.reg [⟨(some 20),none,.mov (.t 3)⟩,
    ⟨(some 21),none,.mov (.t 5)⟩,
    ⟨(some 22),none,.call 101 [(.t 21)]⟩,
    ⟨(some 23),none,.bsl 1 [(.s [])] 1 [(0,(.t 22))]⟩,
    ⟨(some 24),none,.app 1 (.t 20) (.t 23)⟩,
    ⟨(some 3),none,.mov (.t 24)⟩])
   (.reg [⟨(some 25),none,.mov (.t 4)⟩,
    ⟨(some 0),none,.mov (.t 25)⟩])))))
 (.norm false [0,3]))
def tx0:AX:=(.reg [⟨(some 2),none,.mov (.c (.s []))⟩])
def txA:AX:=
  (.seq
  (.reg [⟨(some 9),none,.mov (.t 0)⟩,
   ⟨(some 10),none,.call 70 [(.t 9)]⟩])
  (.cond (.t 10)
   (.seq
   (.reg [⟨(some 2),none,.mov (.c (.s [48]))⟩])
   (.pre (.norm false [2]) .ret))
   .skip))
def tx3:AX:=(.note (.reg [⟨(some 3),none,.mov (.c (.sl [] .nl))⟩]) (.nil 3 1))
def txP:AX:=(.lp 0 (.norm false [0,3]) txL (.norm false [3]))
section
variable{T:Tbl}
theorem zaad(x:AV):evX (orc T) T 0 tx0 ⟨argEnv [x],[],1⟩=some (.n,⟨[(2,.s []),(0,x)],[],1⟩):=by
 simp -implicitDefEqProofs[tx0]
end
section
variable{T:Tbl}[CNat T]
theorem z2b(a:List UInt32)(hl:a.length≤1000)(h0:val a=0):evX (orc T) T 0 txA ⟨[(2,.s []),(0,.sl (u32s a) .an)],[],1⟩=some (.r,⟨[(2,.s [48])],[],2⟩):=by
 have hz:=zi5 (T:=T) a (by omega)
 simp -implicitDefEqProofs[txA,hz,h0]
end
section
variable{T:Tbl}[CNat T]
theorem z2c(a:List UInt32)(hl:a.length≤1000)(h0:val a≠0):evX (orc T) T 0 txA ⟨[(2,.s []),(0,.sl (u32s a) .an)],[],1⟩ =
  some (.n,⟨[(10,.b false),(9,.sl (u32s a) .an),(2,.s []),(0,.sl (u32s a) .an)],[],1⟩):=by
 have hz:=zi5 (T:=T) a (by omega)
 simp -implicitDefEqProofs[txA,hz,h0]
end
section
variable{T:Tbl}[CNat T][CProd T][CTwos T][CQuot T][CDigits T]
def stTp(a:List UInt32)(l:List (List UInt8)):St:=⟨[(0,.sl (u32s a) .an),(3,.bs (.loc 3) 1 1 0 l.length)],[((.loc 3),⟨1,.own,1,rowsS l⟩)],3⟩
theorem zp7(l:List (List UInt8))(s:List UInt8):wkL (List.take l.length (rowsS l)++[[AV.s s]])=rowsS (l++[s]):=by
 rw[List.take_of_length_le (by simp),ztp,zvh]
end
section
variable{T:Tbl}[CNat T][CQuot T][CDigits T]
theorem zvi(N:Nat)(hN:N≤4294967295)(L:List (List UInt8)):∀y:List UInt32×List (List UInt8),(y.1.length≤1000∧y.2++pieces (val y.1)=L∧L.length=N) →
  loopN T 0 0 (Gh.norm false [3]) txL (stTp y.1 y.2)=some (.n,⟨[(3,.bs (.loc 3) 1 1 0 L.length)],[((.loc 3),⟨1,.own,1,rowsS L⟩)],3⟩):=by
 refine zan (fun y:List UInt32×List (List UInt8)=>stTp y.1 y.2) _ (fun y=>val y.1) _ ?_
 rintro⟨a,l⟩ ⟨ha,hL,hn⟩
 simp only at ha hL hn
 have hz:=zi5 (T:=T) a (by omega)
 by_cases h0:val a=0
 ·right
  rw[h0,zbi,List.append_nil]at hL
  subst hL
  constructor<;>simp -implicitDefEqProofs[txL,stTp,hz,h0]
 ·left
  have hq:=zsj (T:=T) a 1000000000 (by omega) (by omega) (by omega)
  have hn9:=zl9 (T:=T) (val a%1000000000) (by omega)
  have hlen:(ofN (val a/1000000000)).length≤a.length:=Nat.le_trans (zij (Nat.div_le_self _ _)) (zbs a)
  rw[zby h0]at hL
  have hll:l.length≤4294967295:=by have:=congrArg List.length hL;simp at this;omega
  refine⟨(ofN (val a/1000000000),l++[digK 9 (val a%1000000000)]),⟨by simp only;omega,by simp only[ze2,List.append_assoc,List.singleton_append];exact hL,hn⟩,?_,?_,rfl⟩
  ·simp only[ze2]
   exact Nat.div_lt_self (Nat.pos_of_ne_zero h0) (by decide)
  ·simp -implicitDefEqProofs[txL,stTp,hz,hq,hn9,h0,hll,zp7]
end
section
variable{T:Tbl}[CNat T][CProd T][CTwos T][CQuot T][CDigits T]
theorem zeq:∀k n,n<1000000000^k→(pieces n).length≤k
 | 0,n,h=>by
  have:n=0:=by omega
  subst this
  simp[zbi]
 | k+1,n,h=>by
  by_cases h0:n=0
  ·subst h0;simp[zbi]
  ·rw[zby h0]
   have:=zeq k (n/1000000000) (Nat.div_lt_of_lt_mul (by rw[Nat.mul_comm,←Nat.pow_succ];exact h))
   simp only[List.length_cons]
   omega
theorem zld(a:List UInt32):(pieces (val a)).length≤2*a.length:=by
 refine zeq _ _ (Nat.lt_of_lt_of_le (zk3 a) ?_)
 rw[Nat.pow_mul]
 exact Nat.pow_le_pow_left (by decide) _
theorem zm1:∀n,∀s∈pieces n,s.length=9:=by
 intro n
 induction n using Nat.strongRecOn with
 | _ n ih=>
  intro s hs
  by_cases h0:n=0
  ·subst h0;simp[zbi]at hs
  ·rw[zby h0]at hs
   rcases List.mem_cons.1 hs with rfl | hs
   ·exact zdz 9 _
   ·exact ih _ (Nat.div_lt_self (Nat.pos_of_ne_zero h0) (by decide)) s hs
theorem zim:∀(k n:Nat),n≠0→n<10^k→(digK k n).dropWhile (· == 48)=textN n
 | 0,n,h0,h=>by omega
 | k+1,n,h0,h=>by
  rw[zda]
  by_cases h1:n<10
  ·have e:n/10=0:=by omega
   have e2:n%10=n:=by omega
   have hz:∀j,(digK j 0).dropWhile (· == 48)=[]:=by
    intro j
    induction j with
    | zero=>rfl
    | succ j ih=>rw[zda,List.dropWhile_append,Nat.zero_div,ih];rfl
   rw[e,e2,List.dropWhile_append,hz,zdy h1]
   have:∀d,d<10→d≠0→List.dropWhile (fun x=>x == 48) [UInt8.ofNat (48+d)]=[UInt8.ofNat (48+d)]:=by decide
   simpa using this n h1 h0
  ·have ih:=zim k (n/10) (by omega) (Nat.div_lt_of_lt_mul (by rw[Nat.mul_comm,←Nat.pow_succ];exact h))
   have hne:textN (n/10)≠[]:=by
    unfold textN
    by_cases h2:n/10<10
    ·rw[zik h2];simp
    ·rw[zn5 h2];simp
   rw[List.dropWhile_append,ih,zk5 h1]
   rw[if_neg (by simpa using hne)]
theorem zob(j:Nat):∀(k n:Nat),digK (j+k) n=digK j (n/10^k)++digK k (n%10^k)
 | 0,n=>by simp[zg1]
 | k+1,n=>by
  rw[←Nat.add_assoc,zda,zob j k (n/10),zda,List.append_assoc]
  have e1:n/10/10^k=n/10^(k+1):=by rw[Nat.div_div_eq_div_mul,Nat.pow_succ,Nat.mul_comm]
  have e2:n/10%10^k=n%10^(k+1)/10:=by rw[Nat.pow_succ,Nat.mul_comm,Nat.mod_mul_right_div_self]
  have e3:n%10^(k+1)%10=n%10:=by rw[Nat.pow_succ,Nat.mod_mul_left_mod]
  rw[e1,e2,e3]
theorem zm2:∀n,(pieces n).reverse.flatten=digK (9*(pieces n).length) n:=by
 intro n
 induction n using Nat.strongRecOn with
 | _ n ih=>
  by_cases h0:n=0
  ·subst h0;simp[zbi,zg1]
  ·rw[zby h0,List.reverse_cons,List.flatten_append,ih _ (Nat.div_lt_self (Nat.pos_of_ne_zero h0) (by decide))]
   simp only[List.length_cons,List.flatten_cons,List.flatten_nil,List.append_nil]
   rw[show 9*((pieces (n/1000000000)).length+1)=9*(pieces (n/1000000000)).length+9 by omega,zob]
theorem ztq:∀n,n<10^(9*(pieces n).length):=by
 intro n
 induction n using Nat.strongRecOn with
 | _ n ih=>
  by_cases h0:n=0
  ·subst h0;simp[zbi]
  ·have h:=ih _ (Nat.div_lt_self (Nat.pos_of_ne_zero h0) (by decide:1<1000000000))
   rw[zby h0,List.length_cons,Nat.mul_add,Nat.pow_add]
   exact(Nat.div_lt_iff_lt_mul (by decide:0<10^(9*1))).1 h
theorem zm3(n:Nat)(h:n≠0):((pieces n).reverse.flatten).dropWhile (· == 48)=textN n:=by
 rw[zm2]
 exact zim _ n h (ztq n)
theorem zce:∀(l:List (List UInt8)),(∀s∈l,s.length=9)→l.flatten.length=9*l.length
 | [],_=>rfl
 | s::l,h=>by
  rw[List.flatten_cons,List.length_append,h s List.mem_cons_self,zce l fun s hs=>h s (List.mem_cons_of_mem _ hs),List.length_cons]
  omega
def stT3(a:List UInt32):St:=⟨[(3,.bs (.loc 3) 1 1 0 0),(3,.sl [] .nl),(10,.b false),(9,.sl (u32s a) .an),(2,.s []),(0,.sl (u32s a) .an)],[(.loc 3,⟨1,.own,1,[]⟩)],2⟩
end
section
variable{T:Tbl}
theorem zaae(a:List UInt32):evX (orc T) T 0 tx3 ⟨[(10,.b false),(9,.sl (u32s a) .an),(2,.s []),(0,.sl (u32s a) .an)],[],1⟩=some (.n,stT3 a):=by
 simp -implicitDefEqProofs[tx3,stT3]
end
section
variable{T:Tbl}[CNat T][CQuot T][CDigits T]
theorem zaaf(a:List UInt32)(hl:a.length≤1000):evX (orc T) T 0 txP (stT3 a) =
  some (.n,⟨[(3,.bs (.loc 3) 1 1 0 (pieces (val a)).length)],[((.loc 3),⟨1,.own,1,rowsS (pieces (val a))⟩)],3⟩):=by
 have hp:=zld a
 have h:=zvi (T:=T) (pieces (val a)).length (by omega) (pieces (val a)) (a,[]) ⟨by simpa using hl,rfl,rfl⟩
 unfold stTp at h
 simp[rowsS]at h
 simp -implicitDefEqProofs[stT3,txP,h,rowsS]
end
section
variable{T:Tbl}
theorem zpz(res:List UInt8):∀l:List UInt8,(l.length≤1000000∧l.dropWhile (· == 48)=res) →
  loopN T 0 0 (.norm false [0]) l125_0 ⟨[(0,.s l),(1,u8 48)],[],2⟩=some (.n,⟨[(0,.s res)],[],2⟩):=by
 refine zan (fun l:List UInt8=>⟨[(0,.s l),(1,u8 48)],[],2⟩) _ (fun l=>l.length) _ ?_
 rintro l ⟨hl,hr⟩
 cases l with
 | nil=>
  right
  simp at hr
  subst hr
  constructor<;>simp -implicitDefEqProofs[l125_0]
 | cons c r=>
  simp only[List.length_cons]at hl
  have h2:(0:Int)<(r.length:Int)+1:=by omega
  have h3:(1:Int)≤(r.length:Int)+1:=by omega
  by_cases hc:c=48
  ·left
   subst hc
   rw[List.dropWhile_cons_of_pos (by decide)]at hr
   exact⟨r,⟨by omega,hr⟩,Nat.lt_succ_self _,by simp -implicitDefEqProofs[l125_0,h2,h3],rfl⟩
  ·right
   rw[List.dropWhile_cons_of_neg (by simpa using hc)]at hr
   subst hr
   have hc':¬ c.toNat=48:=fun h=>hc (UInt8.toNat_inj.1 h)
   constructor<;>simp -implicitDefEqProofs[l125_0,h2,hc']
end
section
variable{T:Tbl}[CTrim T]
theorem zs6(l:List UInt8)(hl:l.length≤1000000):callF T 103 [.s l,.s [48]]=some (.s (l.dropWhile (· == 48))):=by
 have h:=zpz (T:=T) _ l ⟨hl,rfl⟩
 have h1:callF T 125 [.s l,u8 48]=some (.s (l.dropWhile (· == 48))):=by
  rw[f125 _ rfl,b125]
  simp -implicitDefEqProofs[h]
 obtain⟨Z,hZ⟩:∃Z,b103=(.seq
 (.reg [⟨(some 4),none,.mov (.c (.s []))⟩])
 (.seq
  (.seq
  (.reg [⟨(some 7),none,.mov (.t 0)⟩,
   ⟨(some 8),none,.bin .eql (.t 7) (.c (.s []))⟩,
   ⟨(some 9),none,.mov (.t 8)⟩,
   ⟨(some 10),(some (9,false)),.mov (.t 1)⟩,
   ⟨(some 11),(some (9,false)),.bin .eql (.t 10) (.c (.s []))⟩,
   ⟨(some 12),none,.pick (.t 9) (.c (.b true)) (.t 11)⟩])
  (.cond (.t 12)
   (.seq
   (.reg [⟨(some 13),none,.mov (.t 0)⟩,
    ⟨(some 4),none,.mov (.t 13)⟩])
   (.pre (.norm false [4]) .ret))
   .skip))
  (.seq
  (.seq
   (.reg [⟨(some 14),none,.mov (.t 1)⟩,
    ⟨(some 15),none,.lens (.t 14)⟩,
    ⟨(some 16),none,.bin .eql (.t 15) (.c (.i .i64 1))⟩,
    ⟨(some 17),none,.mov (.t 16)⟩,
    ⟨(some 18),(some (17,true)),.mov (.t 1)⟩,
    ⟨(some 19),(some (17,true)),.ixs (.t 18) (.c (.i .i64 0))⟩,
    ⟨(some 20),(some (17,true)),.bin .lss (.t 19) (.c (u8 128))⟩,
    ⟨(some 21),none,.pick (.t 17) (.t 20) (.c (.b false))⟩])
   (.cond (.t 21)
   (.seq
    (.reg [⟨(some 22),none,.mov (.t 0)⟩,
     ⟨(some 23),none,.mov (.t 1)⟩,
     ⟨(some 24),none,.ixs (.t 23) (.c (.i .i64 0))⟩,
     ⟨(some 25),none,.call 125 [(.t 22),(.t 24)]⟩,
     ⟨(some 4),none,.mov (.t 25)⟩])
    (.pre (.norm false [4]) .ret))
   .skip)) Z)):AX):=⟨_,rfl⟩
 rw[f103 _ rfl,hZ]
 by_cases h0:l=[]
 ·subst h0
  simp -implicitDefEqProofs
 ·simp -implicitDefEqProofs[h0,h1]
end
section
variable{P:Program}{ν:Nat→FuncId}{T:Tbl}
theorem zr8(hT:TOk P ν T)(hm:P.follows .mixedOrders=true){cx:Cx}(hP:cx.P=P)(hk:cx.clk0=1)(c:AX){code:Code}{nt:Nat}(hnt:cx.nt=nt)(hres:resCode P nt code=some (er ν (tyNum T) c)){st:St}{e:Ex}{st':St}
  (h:evX (orc T) T 0 c st=some (e,st')) {a:Act} {w:World} (hr:Rel cx st a w) {K:Exit→Act→World→Prop} (hK:∀a' w',Rel cx st' a' w'→K e.out a' w'):code.wp P K a w:=by
 obtain⟨L,h1,h2⟩:=zbh T 0 c st _ _ h
 obtain⟨n,hn⟩:=zl5 T h1
 have hev:=zam (GoodO.orcN hT hm n) (k:=0) (cx:=cx) hP hk c st e st' (h2 _ hn)
 subst hP hnt
 refine wp_mono (hev code hres hm a w hr) ?_
 rintro ex a' w' ⟨s,⟨rfl,rfl⟩,hr'⟩
 exact hK a' w' hr'
theorem zr9{nt:Nat}{w:World}{S:Nat→Nat→Prop}{cargs:Array Value}{args:List AV}(hl:cargs.size=args.length)(hn:args.length≤nt)
  (hC:∀(j:Nat) (v:Value) (c:AV),cargs[j]? = some v→args[j]? = some c→CP w S v c) (hS:∀k o,S k o→k<w.heap.size) :
  Rel ⟨P,nt,w,S,fun _=>none,1⟩ ⟨argEnv args,[],1⟩ { tmps:=cargs++Array.replicate (nt-cargs.size) undef,defers:=[] } w:=by
 refine⟨S,fun _=>none,by simp;omega,rfl,fun t=>?_,⟨⟨fun b bx hb=>(by simp at hb),fun g m hm=>(by cases hm),fun b bx b' bx' h1=>(by simp at h1),fun g g' k h1=>(by cases h1)⟩,
  Ext.refl _ _ _ _,⟨rfl,rfl,rfl,Nat.le_refl _,fun _ _ _=>rfl⟩,fun k o hs=>.inl hs,hS,fun g k hm=>(by cases hm)⟩⟩
 rw[zhs]
 cases ha:args[t]? with
 | none=>exact .p (.dead _)
 | some x=>
  have htl:=za6 ha
  have hv:cargs[t]? = some (cargs[t]'(by omega)):=Array.getElem?_eq_getElem _
  have e1:(cargs++Array.replicate (nt-cargs.size) undef).getD t undef=cargs[t]'(by omega):=by
   simp only[Array.getD_eq_getD_getElem?]
   rw[Array.getElem?_append_left (by omega),hv]
   rfl
  rw[e1]
  exact .p (hC t _ x hv ha)
theorem Rel.below{nt:Nat}{w0:World}{S:Nat→Nat→Prop}{st:St}{a:Act}{w:World}(h:Rel ⟨P,nt,w0,S,fun _=>none,1⟩ st a w):RowKit.Below w0.heap.size w0 w:=by
 obtain⟨S',M',hr⟩:=h
 exact⟨hr.wr.fr.os,hr.wr.fr.tape,hr.wr.fr.output,hr.wr.fr.size,fun k hk=>hr.wr.fr.block k hk fun⟨g,hg⟩=>(by cases hg)⟩
theorem Rel.strAt{cx:Cx}{st:St}{a:Act}{w:World}(h:Rel cx st a w){t:Nat}{l:List UInt8}(he:st.env.get t=.s l):a.tmps.getD t undef=.string ⟨l.toArray⟩:=by
 obtain⟨S',M',hr⟩:=h
 have:=hr.env t
 rw[he]at this
 generalize a.tmps.getD t undef=v at *
 cases this with
 | p h=>cases h;rfl
theorem Rel.strs{cx:Cx}{st:St}{a:Act}{w:World}(h:Rel cx st a w){t:Nat}{b:BId}{g n:Nat}{ls:List (List UInt8)}(hne:ls≠[])(he:st.env.get t=.bs b g 1 0 n)
  (hb:st.heap.lookup b=some ⟨g,.own,1,ls.map fun s=>[.s s]⟩):∃k arr e cap,a.tmps.getD t undef=.slice (some ⟨k,0,none⟩) n cap∧w.heap[k]? = some (.cells arr e (0,0))∧n≤cap∧cap≤maxLen∧cap≤arr.size ∧
   ∀(i:Nat) (s:List UInt8),ls[i]? = some s→arr[i]? = some (Value.string ⟨s.toArray⟩):=by
 obtain⟨S',M',hr⟩:=h
 have h1:=hr.env t
 rw[he]at h1
 obtain⟨_,_,m,hm,h2⟩:=hr.wr.heap.box b _ hb
 simp only at hm h2
 generalize a.tmps.getD t undef=v at *
 cases h1 with
 | p h=>cases h
 | bs _ _ _ _ _ _ hg hB h1=>
  unfold BsOk at hB
  rw[hm]at hB
  cases m with
  | none=>exact absurd (by simpa using h2.1) hne
  | some k=>
   obtain⟨arr,e,cap,hk,hv,c1,c2,c3⟩:=hB
   obtain⟨arr',e',hk',_,hcells,_⟩:=h2
   rw[hk]at hk'
   cases hk'
   refine⟨k,arr,e,cap,by rw[hv],hk,c1,c2,by omega,fun i s hi=>?_⟩
   obtain⟨u,hu,_,_,hc⟩:=hcells i [.s s] 0 (.s s) (by simp[hi]) rfl
   have:=hc (by simp)
   rw[Nat.mul_one,Nat.add_zero]at hu
   cases this
   exact hu
end
end Go.Ab
section
namespace Go.Proofs.YtfgfjicelfagcabGreatDoor
open Go Go.Ab Go.RowKit
theorem list_cons{α:Type}{n:Nat}{l:List α}(h:l.length=n+1):∃x t,l=x::t∧t.length=n:=by
 cases l with
 | nil=>simp at h
 | cons x t=>exact⟨x,t,rfl,by simpa using h⟩
set_option maxHeartbeats 2000000 in
set_option maxRecDepth 100000 in
theorem text_calls(hm:Tryz.prog.follows .mixedOrders=true)(a:List UInt32)(hl:a.length≤1000){w0:World}{S:Nat→Nat→Prop}{cargs:Array Value}(hsz:cargs.size=1)
  (hC:∀(j:Nat) (v:Value) (c:AV),cargs[j]? = some v→[AV.sl (u32s a) .an][j]? = some c→CP w0 S v c) (hS:∀k o,S k o→k<w0.heap.size) :
  Calls Tryz.prog 121 cargs w0 fun e w'=>e=.returned (.string ⟨(textN (val a)).toArray⟩)∧Below w0.heap.size w0 w':=by
 refine calls_of_wp Tryz.func121 rfl ?_
 have h0:=zr9 (P:=Tryz.prog) (nt:=40) (w:=w0) (S:=S) (cargs:=cargs) (args:=[AV.sl (u32s a) .an]) (by simpa using hsz) (by simp) hC hS
 refine wp_seq (zr8 sTab_ok hm (cx:=⟨Tryz.prog,40,w0,S,fun _=>none,1⟩) rfl rfl tx0 (nt:=40) rfl (by kernel_rfl) (sTab_part.ev (by kernel_rfl) (zaad (T:=tab) _)) h0 fun a1 w1 h1=>?_)
 refine wp_seq ?_
 by_cases hz:val a=0
 ·refine zr8 sTab_ok hm (cx:=⟨Tryz.prog,40,w0,S,fun _=>none,1⟩) rfl rfl txA (nt:=40) rfl (by kernel_rfl) (sTab_part.ev (by kernel_rfl) (z2b (T:=tab) a hl hz)) h1 fun a2 w2 h2=>?_
  have hv:=h2.strAt (t:=2) (l:=[48]) rfl
  have hb:=h2.below
  have ht:textN (val a)=[48]:=by rw[hz];exact zdy (by decide)
  obtain⟨_,_,hr2⟩:=h2
  refine(show bodyPost Tryz.prog Tryz.f121 (fun e w'=>e=.returned (.string ⟨(textN (val a)).toArray⟩)∧Below w0.heap.size w0 w') .ret a2 w2 from ?_)
  refine⟨hr2.defers,.string ⟨[48].toArray⟩,?_,by rw[ht],hb⟩
  rw[←hv]
  exact results_tmp rfl _ _ _
 ·refine zr8 sTab_ok hm (cx:=⟨Tryz.prog,40,w0,S,fun _=>none,1⟩) rfl rfl txA (nt:=40) rfl (by kernel_rfl) (sTab_part.ev (by kernel_rfl) (z2c (T:=tab) a hl hz)) h1 fun a2 w2 h2=>?_
  refine wp_seq (zr8 sTab_ok hm (cx:=⟨Tryz.prog,40,w0,S,fun _=>none,1⟩) rfl rfl tx3 (nt:=40) rfl (by kernel_rfl) (sTab_part.ev (by kernel_rfl) (zaae (T:=tab) a)) h2 fun a3 w3 h3=>?_)
  refine wp_seq (zr8 sTab_ok hm (cx:=⟨Tryz.prog,40,w0,S,fun _=>none,1⟩) rfl rfl txP (nt:=40) rfl (by kernel_rfl) (sTab_part.ev (by kernel_rfl) (zaaf (T:=tab) a hl)) h3 fun a4 w4 h4=>?_)
  have hb4:=h4.below
  have hne:pieces (val a)≠[]:=by rw[zby hz];simp
  obtain⟨k,arr,e,cap,hv,hk,hc1,hc2,hc3,hcells⟩:=h4.strs (t:=3) (ls:=pieces (val a)) hne rfl (by simp[rowsS])
  obtain⟨_,_,hr4⟩:=h4
  have hdf:=hr4.defers
  have hsz:=hr4.size
  have hpl:=zld a
  clear hr4 h0 h1 h2 h3
  change Code.wp _ _ _ a4 w4
  obtain⟨tm,df⟩:=a4
  obtain⟨l,rfl⟩:∃l:List Value,tm=l.toArray:=⟨tm.toList,by simp⟩
  simp only[List.size_toArray]at hsz
  simp only at hdf
  subst hdf
  obtain⟨x0,l0,rfl,s0⟩:=list_cons hsz
  obtain⟨x1,l1,rfl,s1⟩:=list_cons s0
  obtain⟨x2,l2,rfl,s2⟩:=list_cons s1
  obtain⟨x3,l3,rfl,s3⟩:=list_cons s2
  obtain⟨x4,l4,rfl,s4⟩:=list_cons s3
  obtain⟨x5,l5,rfl,s5⟩:=list_cons s4
  obtain⟨x6,l6,rfl,s6⟩:=list_cons s5
  obtain⟨x7,l7,rfl,s7⟩:=list_cons s6
  obtain⟨x8,l8,rfl,s8⟩:=list_cons s7
  obtain⟨x9,l9,rfl,s9⟩:=list_cons s8
  obtain⟨x10,l10,rfl,s10⟩:=list_cons s9
  obtain⟨x11,l11,rfl,s11⟩:=list_cons s10
  obtain⟨x12,l12,rfl,s12⟩:=list_cons s11
  obtain⟨x13,l13,rfl,s13⟩:=list_cons s12
  obtain⟨x14,l14,rfl,s14⟩:=list_cons s13
  obtain⟨x15,l15,rfl,s15⟩:=list_cons s14
  obtain⟨x16,l16,rfl,s16⟩:=list_cons s15
  obtain⟨x17,l17,rfl,s17⟩:=list_cons s16
  obtain⟨x18,l18,rfl,s18⟩:=list_cons s17
  obtain⟨x19,l19,rfl,s19⟩:=list_cons s18
  obtain⟨x20,l20,rfl,s20⟩:=list_cons s19
  obtain⟨x21,l21,rfl,s21⟩:=list_cons s20
  obtain⟨x22,l22,rfl,s22⟩:=list_cons s21
  obtain⟨x23,l23,rfl,s23⟩:=list_cons s22
  obtain⟨x24,l24,rfl,s24⟩:=list_cons s23
  obtain⟨x25,l25,rfl,s25⟩:=list_cons s24
  obtain⟨x26,l26,rfl,s26⟩:=list_cons s25
  obtain⟨x27,l27,rfl,s27⟩:=list_cons s26
  obtain⟨x28,l28,rfl,s28⟩:=list_cons s27
  obtain⟨x29,l29,rfl,s29⟩:=list_cons s28
  obtain⟨x30,l30,rfl,s30⟩:=list_cons s29
  obtain⟨x31,l31,rfl,s31⟩:=list_cons s30
  obtain⟨x32,l32,rfl,s32⟩:=list_cons s31
  obtain⟨x33,l33,rfl,s33⟩:=list_cons s32
  obtain⟨x34,l34,rfl,s34⟩:=list_cons s33
  obtain⟨x35,l35,rfl,s35⟩:=list_cons s34
  obtain⟨x36,l36,rfl,s36⟩:=list_cons s35
  obtain⟨x37,l37,rfl,s37⟩:=list_cons s36
  obtain⟨x38,l38,rfl,s38⟩:=list_cons s37
  obtain⟨x39,l39,rfl,s39⟩:=list_cons s38
  cases List.eq_nil_of_length_eq_zero s39
  have hx3:x3=.slice (some ⟨k,0,none⟩) (pieces (val a)).length cap:=hv
  subst hx3
  have hjoin:=zm3 (val a) hz
  have hall:=zm1 (val a)
  generalize pieces (val a)=ps at *
  have HC:Aside (∀(i:Nat) (s:List UInt8),ps[i]? = some s→arr[i]? = some (Value.string ⟨s.toArray⟩)):=hcells
  have HJ:Aside (List.dropWhile (fun x=>x == 48) ps.reverse.flatten=textN (val a)):=hjoin
  have HN:Aside (∀s∈ps,s.length=9):=hall
  have HB:Aside (Below w0.heap.size w0 w4):=hb4
  have HK:Aside (w4.heap[k]? = some (.cells arr e (0,0))):=hk
  have hk4:k<w4.heap.size:=by
   rcases Nat.lt_or_ge k w4.heap.size with h' | h'
   ·exact h'
   ·simp[Array.getElem?_eq_none h']at hk
  clear hcells hjoin hall hb4 hk
  go_wp2
  go_loopg [8] ps.length (fun g s8 wx=>s8=.int .i64 ((g:Int)-1)∧g≤ps.length∧Aside (Lib.IsBuilder 204 5 w4.heap.size w4.heap.size (Lib.byteCells (ps.drop g).reverse.flatten) wx∧Below w4.heap.size w4 wx))
  case atStart=>exact⟨rfl,Nat.le_refl _,by rw[List.drop_length];exact Lib.fresh_isBuilder 204 5 w4,(Below.refl _ _).alloc (Nat.le_refl _) _⟩
  case round=>
   obtain⟨rfl,hg,HW⟩:=hrel
   cases gk with
   | zero=>
    obtain⟨hBld,hBel⟩:=HW.out
    rw[List.drop_zero]at hBld
    have hne':ps.reverse.flatten≠[]:=by
     intro h
     have:=zce ps.reverse (fun s hs=>HN.out s (List.mem_reverse.1 hs))
     rw[h]at this
     simp at this
     exact hne (List.eq_nil_of_length_eq_zero (by omega))
    have HT:Aside (ps.reverse.flatten≠[]):=hne'
    clear hne'
    have hlenF:ps.reverse.flatten.length≤1000000:=by
     rw[zce ps.reverse (fun s hs=>HN.out s (List.mem_reverse.1 hs)),List.length_reverse]
     omega
    have hT:∀W:World,Calls Tryz.prog 149 #[.string ⟨ps.reverse.flatten.toArray⟩,.string ⟨#[48]⟩] W fun e w'=>e=.returned (.string ⟨(textN (val a)).toArray⟩)∧Below W.heap.size W w':=by
     intro W
     have h1:=zgm sTab_ok hm (u:=103) rfl rfl (sTab_part.call (by kernel_rfl) (zs6 (T:=tab) ps.reverse.flatten hlenF))
     rw[HJ.out]at h1
     refine(h1.2 W (fun _ _=>False) #[.string ⟨ps.reverse.flatten.toArray⟩,.string ⟨#[48]⟩] rfl (fun j v c hv hc=>?_) (fun _ _ h=>h.elim)).mono ?_
     ·match j,hv,hc with
      | 0,hv,hc=>cases hv;cases hc;exact .s _
      | 1,hv,hc=>cases hv;cases hc;exact .s _
     ·rintro e w' ⟨v,r,rfl,rfl,hb,hc⟩
      cases hc
      exact⟨rfl,hb⟩
    have HTT:=hT
    clear hT
    go_wp2_with (go_at_call 124;refine(Tryz.bString w4.heap.size w4.heap.size ps.reverse.flatten wr hBld HT.out).mono ?_)
    rintro e1 w5 ⟨rfl,hb5⟩
    go_wp2_with (go_at_call 149;refine(HTT w5).mono ?_)
    rintro e2 w6 ⟨rfl,hb6⟩
    go_wp2
    go_ret
    refine⟨rfl,?_⟩
    have hs1:=HB.out.size
    have hs5:=(hBel.trans hb5).size
    exact HB.out.trans (((hBel.trans hb5).mono hs1).trans (hb6.mono (by omega)))
   | succ j=>
    obtain⟨hBld,hBel⟩:=HW.out
    obtain⟨s,hs⟩:∃s,ps[j]? = some s:=⟨_,List.getElem?_eq_getElem (by omega)⟩
    have hcell:wr.cell? ⟨k,j,none⟩=some (.string ⟨s.toArray⟩):=by
     rw[hBel.cell (p:=⟨k,j,none⟩) hk4,Lib.cell_of_heap HK.out]
     exact HC.out j s hs
    have hs9:s.length=9:=HN.out s (List.mem_of_getElem? hs)
    have hflen:=zce (ps.drop (j+1)).reverse (fun s hs=>HN.out s (List.mem_of_mem_drop (List.mem_reverse.1 hs)))
    have HS:Aside (ps[j]? = some s):=hs
    clear hs
    rw[List.length_reverse,List.length_drop]at hflen
    have hbound:(Lib.byteCells (ps.drop (j+1)).reverse.flatten).length+(⟨s.toArray⟩:ByteArray).size≤140737488355328:=by
     rw[Lib.byteCells_length,hflen]
     show _+s.toArray.size≤_
     simp only[List.size_toArray]
     omega
    have HF:Aside ((Lib.byteCells (ps.drop (j+1)).reverse.flatten).length+(⟨s.toArray⟩:ByteArray).size≤140737488355328):=hbound
    clear hflen hbound
    go_wp2_with (go_at_call 123;refine(Tryz.bWrite w4.heap.size w4.heap.size _ ⟨s.toArray⟩ wr hBld HF.out hBel.size).mono ?_)
    rintro e1 w5 ⟨rfl,h5,hb5⟩
    go_wp2
    go_roundg j
    case measure=>omega
    case rel=>
     refine⟨by congr 1,by omega,?_,hBel.trans hb5⟩
     have e1:(ps.drop j).reverse.flatten=(ps.drop (j+1)).reverse.flatten++s:=by
      obtain⟨hj,he⟩:=List.getElem?_eq_some_iff.1 HS.out
      rw[List.drop_eq_getElem_cons hj,he]
      simp
     rw[e1,Lib.byteCells_append]
     exact .inr h5
theorem word_rows:∀(els:List (List AV)) (l:List UInt32),els.mapM wordOf=some l→els=u32s l
 | [],l,h=>by cases h;rfl
 | r::els,l,h=>by
  rw[List.mapM_cons]at h
  obtain⟨x,hx,h1⟩:=bind_some h
  obtain⟨y,hy,h2⟩:=bind_some h1
  cases h2
  rw[word_rows els y hy]
  unfold wordOf at hx
  split at hx
  ·split at hx
   ·cases hx
    rename_i n hn
    have:(w32 n.toNat).toNat=n.toNat:=za2 (by omega)
    simp only[u32s,List.map_cons,this,u32]
    rw[Int.toNat_of_nonneg hn.1]
   ·cases hx
  ·cases hx
theorem text_ok(hm:Tryz.prog.follows .mixedOrders=true):∀xs r,prim68 xs=some r→PCall Tryz.prog (nu 68) xs (·=r):=by
 intro xs r h
 unfold prim68 at h
 split at h
 ·split at h
  ·rename_i els hl
   cases hw:els.mapM wordOf with
   | none=>rw[hw]at h;cases h
   | some l=>
    rw[hw]at h
    cases h
    have he:=word_rows els l hw
    subst he
    rw[zgo]at hl
    refine⟨enters_of Tryz.func121 (by kernel_rfl) rfl,fun w S cargs hsz hC hS=>?_⟩
    refine(text_calls hm l hl (by simpa using hsz) hC hS).mono ?_
    rintro e w' ⟨rfl,hb⟩
    exact⟨_,_,rfl,rfl,hb,.s _⟩
  ·cases h
 ·cases h
#print axioms text_ok
end Go.Proofs.YtfgfjicelfagcabGreatDoor
end
namespace Go.Ab
section
open Go.ChangeShapes Go.WideShapes Go.ChangeAt Go.RowKit
theorem zis{H:Type}{enc:TypeId×Value→H}{P:Program}{f:Func}{s:ChangeSpec}{apart fresh handsOn again:Bool}{W W':World}{args:Array Value}{v:Value}{ds gs:List (DataW H)}{before pa pv:List MemPlace}
  (hW:DataW.Whole enc P f.params.toList s.vars apart W args.toList ds gs before)
  (hres:∀(b:Nat) (sp:Nat→Bool) (hd:Bool),DataW.TrodAll enc P W' b sp hd f.resultTypes.toList (v.resultList f.resultTypes.size) (s.fn H (ds++gs)).results [])
  (hargs:∀sp:Nat→Bool,(∀p∈before,sp p.block=true)→DataW.TrodAll enc P W' 0 sp true f.params.toList args.toList (s.fn H (ds++gs)).args pa)
  (hvars:∀sp:Nat→Bool,(∀p∈before,sp p.block=true)→DataW.TrodVars enc P W' sp s.vars (s.fn H (ds++gs)).vars pv)
  (hps:before=pa++pv) (hw:Below W.heap.size W W')
  (hok:∀(j:Nat) (t:TypeId) (r:Value),f.resultTypes[j]? = some t→(v.resultList f.resultTypes.size)[j]? = some r→Value.okWide P W' .any 0 t r) :
  s.post enc P f apart fresh handsOn again W args v W':=by
 have hold:∀p∈before,(fun b=>decide (b<W.heap.size)) p.block=true:=fun p hp=>by simpa using hW.lt p hp
 have hlt:∀p∈before,p.block<W.heap.size:=fun p hp=>hW.lt p hp
 refine⟨ds,gs,before,[],pa,pv,hW,hres _ _ _,hargs _ hold,hvars _ hold,World.keptBut_mono (fun p hp=>⟨hp,?_⟩) (hw.frame (·∈before)),fun _=>?_⟩
 ·grind
 ·obtain⟨_,_,_,_,_,hz,hn⟩:=hW
  refine⟨hok,_,_,([]++pa)++pv,⟨[]++pa,pv,trodAll_append (hargs _ (fun _ _=>rfl)) (hres _ _ _),hvars _ (fun _ _=>rfl),rfl,?_,?_⟩,?_⟩
  ·intro b off hp
   have hp':MemPlace.cell b off∈before:=by grind
   rw[hw.frozen (p:=⟨b,off,none⟩) (hlt _ hp')]
   exact hz b off hp'
  all_goals grind
end
section
open Go.ChangeShapes Go.WideShapes Go.ChangeAt Go.RowKit
inductive Ty where
 | int (k:IntKind)
 | bool
 | str
 | sl (r:Ty)
 | nil
 | cons (a:Ty) (r:Ty)
def Ty.z:Ty→Nat
 | .nil=>0
 | .cons a r=>a.z+r.z
 | _=>1
def Ok:Ty→List AV→Prop
 | .int k,cs=>∃n,cs=[.i k n]∧(Lit.int k n).wf=true
 | .bool,cs=>∃b,cs=[.b b]
 | .str,cs=>∃l,cs=[.s l]∧l.length≤maxLen
 | .sl r,cs=>∃els f,cs=[.sl els f]∧els.length≤maxLen∧(f=.nl∧els=[]∨f=.so)∧∀row∈els,Ok r row
 | .nil,cs=>cs=[]
 | .cons a r,cs=>∃c1 c2,cs=c1++c2∧Ok a c1∧Ok r c2
theorem Ok.len:∀{ty:Ty} {cs:List AV},Ok ty cs→cs.length=ty.z
 | .int _,_,⟨_,h,_⟩=>by rw[h];rfl
 | .bool,_,⟨_,h⟩=>by rw[h];rfl
 | .str,_,⟨_,h,_⟩=>by rw[h];rfl
 | .sl _,_,⟨_,_,h,_⟩=>by rw[h];rfl
 | .nil,_,h=>by rw[show _=[] from h];rfl
 | .cons _ _,_,⟨_,_,h,h1,h2⟩=>by rw[h,List.length_append,h1.len,h2.len];rfl
def RowC(w:World)(S:Nat→Nat→Prop)(cs:List Value)(xs:List AV):Prop:=
 xs.length=cs.length∧∀(j:Nat) (v:Value) (c:AV),cs[j]? = some v→xs[j]? = some c→CP w S v c∧v.oneCell'=true
section
variable{H:Type}{enc:TypeId×Value→H}{P:Program}{w:World}{base:Nat}{held:Bool}{S:Nat→Nat→Prop}
theorem RowC.nil:RowC w S [] []:=⟨rfl,fun j v c h=>by grind⟩
theorem RowC.one{v:Value}{c:AV}(h:CP w S v c)(h1:v.oneCell'=true):RowC w S [v] [c]:=by
 refine⟨rfl,fun j v' c' hv hc=>?_⟩
 grind
theorem RowC.append{cs cs':List Value}{xs xs':List AV}(h:RowC w S cs xs)(h':RowC w S cs' xs'):RowC w S (cs++cs') (xs++xs'):=by
 refine⟨by rw[List.length_append,List.length_append,h.1,h'.1],fun j v c hv hc=>?_⟩
 by_cases hj:j<cs.length
 ·rw[List.getElem?_append_left hj]at hv
  rw[List.getElem?_append_left (by rw[h.1];omega)]at hc
  exact h.2 j v c hv hc
 ·rw[List.getElem?_append_right (by omega)]at hv
  rw[List.getElem?_append_right (by rw[h.1];omega),h.1]at hc
  exact h'.2 _ v c hv hc
def fieldsTy(P:Program)(g:TypeId→Option Ty)(tot:Nat):Nat→List Field→Option Ty
 | off,[]=>if off=tot then some .nil else none
 | off,f::fs=>(g f.type).bind fun a=>if f.offset=off∧a.z=P.cellsOf f.type then (fieldsTy P g tot (off+a.z) fs).map (.cons a) else none
def repTy:Nat→Ty→Ty
 | 0,_=>.nil
 | n+1,a=>.cons a (repTy n a)
def tyOf(P:Program):Nat→TypeId→Option Ty
 | 0,_=>none
 | n+1,t=>
  match P.underlying t with
  | some .bool=>some .bool
  | some (.int k)=>some (.int k)
  | some .string=>some .str
  | some (.slice e)=>(tyOf P n e).bind fun r=>if r.z=P.cellsOf e∧0<r.z then some (.sl r) else none
  | some (.struct fs)=>fieldsTy P (tyOf P n) (P.cellsOf t) 0 fs.toList
  | some (.array k e)=>(tyOf P n e).bind fun a=>if a.z=P.cellsOf e∧k*a.z=P.cellsOf t then some (repTy k a) else none
  | _=>none
theorem zqy{α:Type}{Q:Nat→α→Prop}:∀(n:Nat),(∀i,i<n→∃x,Q i x)→∃l:List α,l.length=n∧∀i x,l[i]? = some x→Q i x
 | 0,_=>⟨[],rfl,fun i x h=>by grind⟩
 | n+1,h=>by
  obtain⟨l,hl,hq⟩:=zqy n fun i hi=>h i (by omega)
  obtain⟨x,hx⟩:=h n (by omega)
  refine⟨l++[x],by grind,fun i y hy=>?_⟩
  grind
def Places(S:Nat→Nat→Prop)(ps:List MemPlace):Prop:=∀k o,MemPlace.cell k o∈ps→S k o
theorem zfy{n:Nat}{g:TypeId→Option Ty}{cs:List Value}
  (ih:∀t cs x ty,DataW.trod enc P w base (fun _=>true) held n t cs=some x→g t=some ty→Places S x.2→∃xs,Ok ty xs∧RowC w S cs xs) :
  ∀(fs:List Field) (off:Nat) (ty:Ty) (ys:List (DataW H×List MemPlace)),
   ys.length=fs.length→(∀(i:Nat) (f:Field),fs[i]? = some f→DataW.trod enc P w base (fun _=>true) held n f.type ((cs.drop f.offset).take (P.cellsOf f.type))=ys[i]?) →
   fieldsTy P g cs.length off fs=some ty→Places S (ys.flatMap (·.2))→∃xs,Ok ty xs∧RowC w S (cs.drop off) xs
 | [],off,ty,ys,hl,hm,ht,hp=>by
  simp only[fieldsTy]at ht
  split at ht<;>cases ht
  rename_i ho
  exact⟨[],rfl,by rw[ho,List.drop_length];exact RowC.nil⟩
 | f::fs,off,ty,[],hl,hm,ht,hp=>by grind
 | f::fs,off,ty,y::ys1,hl,hm,ht,hp=>by
  obtain⟨a,ha,ht1⟩:=bind_some ht
  split at ht1
  ·rename_i hc
   obtain⟨ho,hz⟩:=hc
   obtain⟨r,hr,rfl⟩:=map_some ht1
   have hy:=hm 0 f rfl
   rw[ho,←hz]at hy
   obtain⟨xs1,ho1,hr1⟩:=ih _ _ _ _ hy ha fun k o h=>hp k o (by grind)
   obtain⟨xs2,ho2,hr2⟩:=zfy ih fs _ r ys1 (by grind) (fun i f' hf=>by simpa using hm (i+1) f' (by grind)) hr fun k o h=>hp k o (by
    grind)
   refine⟨xs1++xs2,⟨xs1,xs2,rfl,ho1,ho2⟩,?_⟩
   have e:cs.drop off=(cs.drop off).take a.z++cs.drop (off+a.z):=by rw[←List.drop_drop,List.take_append_drop]
   rw[e]
   exact hr1.append hr2
  grind
theorem zht{n:Nat}{e:TypeId}{r:Ty}(ih:∀cs x,DataW.trod enc P w base (fun _=>true) held n e cs=some x→Places S x.2→∃xs,Ok r xs∧RowC w S cs xs) :
  ∀(k:Nat) (cs:List Value) (ys:List (DataW H×List MemPlace)),ys.length=k→cs.length=k*r.z →
   (∀(i:Nat),i<k→DataW.trod enc P w base (fun _=>true) held n e ((cs.drop (i*r.z)).take r.z)=ys[i]?)→Places S (ys.flatMap (·.2))→∃xs,Ok (repTy k r) xs∧RowC w S cs xs
 | 0,cs,ys,hl,hc,hm,hp=>by
  rw[Nat.zero_mul,List.length_eq_zero_iff]at hc
  subst hc
  exact⟨[],rfl,RowC.nil⟩
 | k+1,cs,[],hl,hc,hm,hp=>by grind
 | k+1,cs,y::ys,hl,hc,hm,hp=>by
  have hy:=hm 0 (by omega)
  rw[Nat.zero_mul,List.drop_zero]at hy
  obtain⟨xs1,ho1,hr1⟩:=ih _ _ hy fun k o h=>hp k o (by grind)
  obtain⟨xs2,ho2,hr2⟩:=zht ih k (cs.drop r.z) ys (by grind) (by grind) (fun i hi=>by
   grind[List.drop_drop]) fun k o h=>hp k o (by
    grind)
  refine⟨xs1++xs2,⟨xs1,xs2,rfl,ho1,ho2⟩,?_⟩
  have e:cs=cs.take r.z++cs.drop r.z:=(List.take_append_drop ..).symm
  rw[e]
  exact hr1.append hr2
theorem zni{a:Addr}{m z:Nat}{cs:List Value}(h:w.cells? base (a.add m) z=some cs)(j:Nat)(hj:j<z):w.cell? ((a.add m).add j)=cs[j]? := (World.cells?_some h).2.2 j hj
theorem zqz{a:Addr}{v:Value}(h:w.cell? a=some v):a.spot=none:=by
 unfold World.cell? at h
 split at h
 all_goals simp_all
theorem zd7:∀(n m:Nat) (t:TypeId) (cs:List Value) (x:DataW H×List MemPlace) (ty:Ty),
  DataW.trod enc P w base (fun _=>true) held n t cs=some x→tyOf P m t=some ty→Places S x.2→∃xs,Ok ty xs∧RowC w S cs xs
 | 0,_,_,_,_,_,h,_,_=>by simp[DataW.trod]at h
 | n+1,0,_,_,_,_,_,ht,_=>by simp[tyOf]at ht
 | n+1,m+1,t,cs,x,ty,h,ht,hp=>by
  simp only[tyOf]at ht
  split at ht
  ·rename_i hu
   cases ht
   obtain⟨b,rfl,rfl⟩:=DataW.trod_bool hu h
   exact⟨[.b b],⟨b,rfl⟩,RowC.one (.b b) rfl⟩
  ·rename_i k hu
   cases ht
   obtain⟨z,rfl,rfl,hw⟩:=DataW.trod_int hu h
   exact⟨[.i k z],⟨z,rfl,hw⟩,RowC.one (.i k z) rfl⟩
  ·rename_i hu
   cases ht
   obtain⟨s,rfl,rfl,hs⟩:=DataW.trod_string hu h
   exact⟨[.s s.data.toList],⟨_,rfl,by simp_all⟩,RowC.one (.s s.data.toList) rfl⟩
  ·rename_i e hu
   obtain⟨r,hr,ht1⟩:=bind_some ht
   split at ht1
   ·rename_i hz
    cases ht1
    obtain⟨hz,hzp⟩:=hz
    rcases DataW.trod_slice hu h with ⟨rfl,rfl⟩ | ⟨a,len,cap,elems,rest,n',hn',rfl,rfl,hb,hl,hmx,hlen,hel,hsp,hns⟩
    ·exact⟨[.sl [] .nl],⟨[],.nl,rfl,Nat.zero_le _,.inl ⟨rfl,rfl⟩,fun row h=>by grind⟩,RowC.one (.slnil _ (.inl rfl)) rfl⟩
    ·obtain⟨hrl,hrest⟩:=hsp rfl
     have hall:∀i,i<cap→∃y cs',y∈elems++rest∧w.cells? base (a.add (i*P.cellsOf e)) (P.cellsOf e)=some cs'∧DataW.trod enc P w base (fun _=>true) held n e cs'=some y:=by
      intro i hi
      by_cases hil:i<len
      ·have h1:=hel i hil
       rw[List.getElem?_eq_getElem (by omega)]at h1
       obtain⟨cs',h2,h3⟩:=bind_some h1
       grind
      ·have h1:=hrest (i-len) (by omega)
       rw[List.getElem?_eq_getElem (by omega),show len+(i-len)=i by omega]at h1
       obtain⟨cs',h2,h3⟩:=bind_some h1
       grind
     by_cases hcap:cap=0
     ·have hl0:len=0:=by omega
      subst hcap
      subst hl0
      exact⟨[.sl [] .so],⟨[],.so,rfl,Nat.zero_le _,.inr rfl,fun row h=>by grind⟩,RowC.one (.slz a _ (.inl rfl)) rfl⟩
     ·have hspot:a.spot=none:=by
       obtain⟨y,cs',_,h2,_⟩:=hall 0 (by omega)
       have h3:=zni h2 0 (by omega)
       grind[World.cells?_some,zqz,Addr.add]
      obtain⟨blk,off,sp⟩:=a
      have hrows:∀i,i<len→∃xs,Ok r xs∧∃cs',w.cells? base ((⟨blk,off,none⟩:Addr).add (i*P.cellsOf e)) (P.cellsOf e)=some cs'∧RowC w S cs' xs:=by
       intro i hi
       obtain⟨y,cs',hy,h2,h3⟩:=hall i (by omega)
       obtain⟨xs,ho,hrc⟩:=zd7 n m e cs' y r h3 hr fun k o hk=>hp k o (by
        grind)
       grind
      obtain⟨els,hels,hq⟩:=zqy len hrows
      refine⟨[.sl els .so],⟨els,.so,rfl,by omega,.inr rfl,fun row hrow=>?_⟩,RowC.one ?_ rfl⟩
      ·grind[List.getElem?_of_mem]
      ·have hcell:∀i j,i<els.length→j<r.z→∃v,w.cell? ⟨blk,off+i*r.z+j,none⟩=some v∧v.oneCell'=true∧∀row c,els[i]? = some row→row[j]? = some c→CP w S v c:=by
        intro i j hi hj
        obtain⟨ho,cs',h2,hrc⟩:=hq i _ (List.getElem?_eq_getElem hi)
        have h3:=zni h2 j (by omega)
        have h4:=(World.cells?_some h2).2.1
        rw[zas,zas,←hz,List.getElem?_eq_getElem (by omega)]at h3
        have hlr:=ho.len
        have h5:=hrc.2 j _ _ (List.getElem?_eq_getElem (by omega)) (List.getElem?_eq_getElem (by omega))
        grind
       have hS:∀i j,i<els.length→j<r.z→S blk (off+i*r.z+j):=by
        intro i j hi hj
        refine hp _ _ ?_
        rw[List.mem_append]
        left
        unfold MemPlace.row
        rw[List.mem_map]
        refine⟨i*r.z+j,?_,by rw[Nat.add_assoc]⟩
        have h1:(i+1)*r.z≤(elems.length+rest.length)*r.z:=Nat.mul_le_mul_right _ (by omega)
        grind
       have:=CP.sl (w:=w) (S:=S) blk off r.z cap els .so (fun i j=>(w.cell? ⟨blk,off+i*r.z+j,none⟩).getD undef) (by simp) (by simp) (by omega) hmx
        (fun i row hrow=>(hq i row hrow).1.len) (fun i j hi hj=>?_) (fun i row j c hrow hc=>?_)
       ·grind
       ·grind
       ·have hi:=(List.getElem?_eq_some_iff.1 hrow).1
        have hj:=(List.getElem?_eq_some_iff.1 hc).1
        rw[(hq i row hrow).1.len]at hj
        grind
   grind
  ·rename_i fs hu
   obtain⟨xs,n',hn',rfl,hcl,hxl,hx⟩:=DataW.trod_struct hu h
   cases hn'
   rw[←hcl]at ht
   have:=zfy (S:=S) (g:=tyOf P m) (cs:=cs) (n:=n) (fun t cs x ty h1 h2 h3=>zd7 n m t cs x ty h1 h2 h3) fs.toList 0 ty xs (by omega) (fun i f hf=>hx i f (by grind)) ht hp
   grind
  ·rename_i k e hu
   obtain⟨r,hr,ht1⟩:=bind_some ht
   split at ht1
   ·rename_i hz
    cases ht1
    obtain⟨hz,hzt⟩:=hz
    obtain⟨xs,n',hn',rfl,hcl,hxl,hx⟩:=DataW.trod_array hu h
    cases hn'
    rw[←hz]at hx
    exact zht (S:=S) (n:=n) (e:=e) (r:=r) (fun cs x h1 h3=>zd7 n m e cs x r h1 hr h3) k cs xs hxl (by omega) hx hp
   grind
  grind
end
end
section
open Go.ChangeShapes Go.WideShapes Go.ChangeAt Go.RowKit
def isAgg(P:Program)(t:TypeId):Bool:=match P.underlying t with | some (.struct _)=>true | some (.array _ _)=>true | _=>false
def tysOf(P:Program)(m:Nat):List TypeId→Option (List (Bool×Ty))
 | []=>some []
 | t::ts=>(tyOf P m t).bind fun a=>(tysOf P m ts).map fun r=>(isAgg P t,a)::r
def OkArg:Bool×Ty→AV→Prop
 | (true,ty),x=>∃cs,x=.agg cs∧Ok ty cs
 | (false,ty),x=>Ok ty [x]
def OkArgs:List (Bool×Ty)→List AV→Prop
 | [],xs=>xs=[]
 | a::r,xs=>∃x ys,xs=x::ys∧OkArg a x∧OkArgs r ys
section
variable{H:Type}{enc:TypeId×Value→H}{P:Program}{w:World}{S:Nat→Nat→Prop}
theorem zt9{m:Nat}{t:TypeId}{v:Value}{d:DataW H}{p:List MemPlace}{ty:Ty}{base:Nat}(hA:DataW.Trod enc P w 0 (fun _=>true) true t v d p)(hT:tyOf P m t=some ty)
  (hval:Value.okWide P w .any base t v) (hp:Places S p):∃x,OkArg (isAgg P t,ty) x∧CP w S v x:=by
 obtain⟨fuel,hf⟩:=hA
 obtain⟨xs,ho,hrc⟩:=zd7 (S:=S) fuel m t _ _ ty hf hT hp
 have hlen:=ho.len
 cases hu:P.underlying t with
 | none=>cases m<;>simp[tyOf,hu]at hT
 | some desc=>
  have one:∀(hag:isAgg P t=false) (hz:ty.z=1) (hv:v.cells=#[v]),∃x,OkArg (isAgg P t,ty) x∧CP w S v x:=by
   intro hag hz hv
   rw[hag]
   match xs,hlen with
   | [x],_=>
    refine⟨x,ho,?_⟩
    have:=hrc.2 0 v x (by grind) rfl
    grind
   | [],h=>grind
   | _::_::_,h=>grind
  cases m with
  | zero=>simp[tyOf]at hT
  | succ m=>
  cases desc<;>simp only[tyOf,hu]at hT<;>try (cases hT;done)
  case struct fs=>
   have hag:isAgg P t=true:=by simp[isAgg,hu]
   rw[hag]
   unfold Value.okWide at hval
   rw[hu]at hval
   obtain⟨cs,rfl,hcs,_⟩:=hval
   refine⟨.agg xs,⟨xs,rfl,ho⟩,.agg cs xs ?_ ?_ ?_⟩
   ·have:=hrc.1
    simpa[Value.cells]using this.symm
   ·intro j u hu
    have hl:=hrc.1
    have hj:j<cs.size:=(Array.getElem?_eq_some_iff.1 hu).1
    have hj':j<xs.length:=by rw[hl];simpa[Value.cells]using hj
    exact(hrc.2 j u _ (by simpa[Value.cells]using hu) (List.getElem?_eq_getElem hj')).2
   ·intro j u c hu hc
    exact(hrc.2 j u c (by simpa[Value.cells]using hu) hc).1
  case array k e=>
   have hag:isAgg P t=true:=by simp[isAgg,hu]
   rw[hag]
   unfold Value.okWide at hval
   rw[hu]at hval
   obtain⟨cs,rfl,hcs,_⟩:=hval
   refine⟨.agg xs,⟨xs,rfl,ho⟩,.agg cs xs ?_ ?_ ?_⟩
   ·have:=hrc.1
    simpa[Value.cells]using this.symm
   ·intro j u hu
    have hl:=hrc.1
    have hj:j<cs.size:=(Array.getElem?_eq_some_iff.1 hu).1
    have hj':j<xs.length:=by rw[hl];simpa[Value.cells]using hj
    exact(hrc.2 j u _ (by simpa[Value.cells]using hu) (List.getElem?_eq_getElem hj')).2
   ·intro j u c hu hc
    exact(hrc.2 j u c (by simpa[Value.cells]using hu) hc).1
  case bool=>
   cases hT
   unfold Value.okWide Cell.okWide Cell.ok at hval
   refine one (by simp[isAgg,hu]) rfl ?_
   cases v<;>first | rfl | grind
  case int k=>
   cases hT
   unfold Value.okWide Cell.okWide Cell.ok at hval
   rw[hu]at hval
   refine one (by simp[isAgg,hu]) rfl ?_
   cases v<;>first | rfl | grind
  case string=>
   cases hT
   unfold Value.okWide Cell.okWide Cell.ok at hval
   rw[hu]at hval
   refine one (by simp[isAgg,hu]) rfl ?_
   cases v<;>first | rfl | grind
  case slice e=>
   obtain⟨r,hr,ht1⟩:=bind_some hT
   split at ht1<;>cases ht1
   unfold Value.okWide Cell.okWide Cell.ok at hval
   rw[hu]at hval
   refine one (by simp[isAgg,hu]) rfl ?_
   cases v<;>first | rfl | grind
theorem zj1{m base:Nat}:∀(ts:List TypeId) (vs:List Value) (ds:List (DataW H)) (p:List MemPlace) (tys:List (Bool×Ty)),DataW.TrodAll enc P w 0 (fun _=>true) true ts vs ds p→tysOf P m ts=some tys →
  (∀(j:Nat) t v,ts[j]? = some t→vs[j]? = some v→Value.okWide P w .any base t v)→Places S p →
  ∃xs,OkArgs tys xs∧vs.length=xs.length∧∀(j:Nat) (v:Value) (c:AV),vs[j]? = some v→xs[j]? = some c→CP w S v c
 | [],vs,ds,p,tys,hA,hT,hval,hp=>by
  obtain⟨rfl,_,_⟩:=trodAll_nil hA
  cases hT
  exact⟨[],rfl,rfl,fun j v c h=>by grind⟩
 | t::ts,vs,ds,p,tys,hA,hT,hval,hp=>by
  obtain⟨v,vs1,d,ds1,a,b,rfl,rfl,rfl,h1,h2⟩:=trodAll_cons hA
  obtain⟨ty,hty,hT1⟩:=bind_some hT
  obtain⟨r,hr,rfl⟩:=map_some hT1
  obtain⟨x,hx,hC⟩:=zt9 (S:=S) h1 hty (hval 0 t v rfl rfl) fun k o h=>hp k o (List.mem_append_left _ h)
  obtain⟨xs,ho,hl,hc⟩:=zj1 (m:=m) (base:=base) ts vs1 ds1 b r h2 hr (fun j t v ht hv=>hval (j+1) t v (by grind) (by grind)) fun k o h=>hp k o (List.mem_append_right _ h)
  refine⟨x::xs,⟨x,xs,rfl,hx,ho⟩,by grind,fun j u c hu hcc=>?_⟩
  grind
theorem znj(hl:laidOutB P=true){W W':World}(hb:Below W.heap.size W W'){sp:Nat→Bool}:∀(ts:List TypeId) (vs:List Value) (ds:List (DataW H)) (p:List MemPlace),
  (ts.all fun t=>P.readableRec t&&decide (t<P.types.size))=true→DataW.TrodAll enc P W 0 (fun _=>true) true ts vs ds p→(∀x∈p,x.block<W.heap.size)→(∀x∈p,sp x.block=true)→DataW.TrodAll enc P W' 0 sp true ts vs ds p
 | [],_,_,_,_,hA,_,_=>by
  obtain⟨rfl,rfl,rfl⟩:=trodAll_nil hA
  exact rfl
 | t::ts,vs,ds,p,hr,hA,hlt,hsp=>by
  obtain⟨v,vs1,d,ds1,a,b,rfl,rfl,rfl,h1,h2⟩:=trodAll_cons hA
  rw[List.all_cons,Bool.and_eq_true,Bool.and_eq_true,decide_eq_true_eq]at hr
  exact⟨a,b,WideElems.Trod_stays hl hr.1.1 hr.1.2 h1 (fun x hx=>hb.same (hlt x (List.mem_append_left _ hx))) (fun x hx=>hsp x (List.mem_append_left _ hx)),
   znj hl hb ts vs1 ds1 b hr.2 h2 (fun x hx=>hlt x (List.mem_append_right _ hx)) (fun x hx=>hsp x (List.mem_append_right _ hx)),rfl⟩
theorem zq0:∀(ts:List TypeId) (vs:List Value) (ds:List (DataW H)) (p:List MemPlace),DataW.TrodAll enc P w 0 (fun _=>true) true ts vs ds p→ds.length=ts.length
 | [],_,_,_,hA=>by
  obtain⟨rfl,rfl,rfl⟩:=trodAll_nil hA
  rfl
 | t::ts,vs,ds,p,hA=>by
  obtain⟨v,vs1,d,ds1,a,b,rfl,rfl,rfl,h1,h2⟩:=trodAll_cons hA
  simp[zq0 ts vs1 ds1 b h2]
theorem zua{f:FuncId}{fn:Func}{s:ChangeSpec}{m tb:Nat}{tys:List (Bool×Ty)}{fresh handsOn again:Bool}(hvars:s.vars=[])(hT:tysOf P m fn.params.toList=some tys)(hl:laidOutB P=true)
  (hread:(fn.params.toList.all fun t=>P.readableRec t&&decide (t<P.types.size))=true) (hr:fn.resultTypes=#[tb]) (hb:P.underlying tb=some .bool)
  (hfn:∀ds:List (DataW H),ds.length=fn.params.toList.length→s.fn H ds={ results:=[.lit (.bool true)],args:=ds })
  (hcall:∀xs,OkArgs tys xs→PCall P f xs (·=.b true)) {W:World} {args:Array Value} {ds gs:List (DataW H)} {before:List MemPlace} {base:Nat}
  (hval:∀(j:Nat) t v,fn.params[j]? = some t→args[j]? = some v→Value.okWide P W .any base t v) (hW:DataW.Whole enc P fn.params.toList s.vars false W args.toList ds gs before) :
  Calls P f args W fun e W'=>∃v,e=.returned v∧s.post enc P fn false fresh handsOn again W args v W':=by
 have hW':=hW
 obtain⟨p,q,hA,hV,rfl,hfz,hnd⟩:=hW
 rw[hvars]at hV
 obtain⟨rfl,rfl⟩:=trodVars_none hV
 have hlt:∀x∈p,x.block<W.heap.size:=fun x hx=>hW'.lt x (List.mem_append_left _ hx)
 obtain⟨xs,ho,hlen,hC⟩:=zj1 (S:=fun k o=>MemPlace.cell k o∈p) _ _ _ _ _ hA hT (fun j t v ht hv=>hval j t v (by grind) (by grind)) (fun k o h=>h)
 have hc:=(hcall xs ho).2 W (fun k o=>MemPlace.cell k o∈p) args (by omega) (fun j v c hv hc=>hC j v c (by grind) hc) (fun k o h=>hlt _ h)
 refine hc.mono fun e W' ⟨v,r,he,hrr,hbel,hCr⟩=>?_
 subst he hrr
 have hv:v=.bool true:=by cases hCr;rfl
 subst hv
 have hlf:=hfn ds (zq0 _ _ _ _ hA)
 refine⟨_,rfl,zis (pa:=p) (pv:=[]) hW' (fun b sp hd=>?_) (fun sp hsp=>?_) (fun sp _=>?_) rfl hbel (ok_one hr rfl (okWide_bool_mk hb _))⟩
 ·rw[List.append_nil,hlf,hr]
  exact trodAll_mk1 (shut_bool hb _)
 ·grind[znj]
 ·rw[List.append_nil,hlf,hvars]
  exact rfl
end
end
def sg(n:Bool)(k:Nat):Int:=if n then -(k:Int) else k
def wv(n:Bool)(a:List UInt32):Int:=sg n (val a)
abbrev wh(n:Bool)(a:List UInt32):AV:=.agg [.b n,.sl (u32s a) .an]
abbrev ez(z:Int):AV:=wh (decide (z<0)) (ofN z.natAbs)
def sgI(z:Int):Int:=if z<0 then -1 else if z=0 then 0 else 1
def textZ(z:Int):List UInt8:=if z<0 then 45::textN z.natAbs else textN z.natAbs
def readZ(l:List UInt8):Int:=sg (l.head? = some 45) (rd (if l.head? = some 45 then l.tail else l))
def wrongZ(l:List UInt8):Int:=wrongI (if l.head? = some 45 then l.tail else l)
def minus(l:List UInt8):Int:=if l.head? = some 45 then 1 else 0
theorem zny:∀(els:List (List AV)),(∀row∈els,Ok (.int .u32) row)→∃l:List UInt32,els=u32s l
 | [],_=>⟨[],rfl⟩
 | r::els,h=>by
  obtain⟨l,rfl⟩:=zny els fun row hr=>h row (List.mem_cons_of_mem _ hr)
  obtain⟨n,rfl,hw⟩:=h r List.mem_cons_self
  have h1:0≤n∧n<4294967296:=by
   simp[Lit.wf,IntKind.min,IntKind.max,IntKind.signed,IntKind.bits]at hw
   omega
  refine⟨w32 n.toNat::l,?_⟩
  have:(w32 n.toNat).toNat=n.toNat:=za2 (by omega)
  simp only[u32s,List.map_cons,this,u32]
  rw[Int.toNat_of_nonneg h1.1]
theorem zuj{P:Program}{ν:Nat→FuncId}{T:Tbl}(hT:TOk P ν T)(hm:P.follows .mixedOrders=true){u:Nat}{af:AFx}{xs ys:List AV}{r:AV}(hu:T u=some af)(hl:af.lent=none)(h:callF T u ys=some r)(hx:xs.map wkA=ys):PCall P (ν u) xs (·=r):=by
 subst hx
 have h1:=zgm hT hm hu hl h
 exact PCall.wk (ex:=false) h1
abbrev Fz:=Bool×List UInt32×List UInt32
abbrev celF(x:Fz):List AV:=[.b x.1,.sl (u32s x.2.1) .an,.sl (u32s x.2.2) .an]
abbrev efz(x:Fz):AV:=.agg (celF x)
def fv(x:Fz):Rat:=mkRat (wv x.1 x.2.1) (val x.2.2)
def fz(q:Rat):Fz:=(decide (q.num<0),ofN q.num.natAbs,ofN q.den)
def fsz(x:Fz):Nat:=max x.2.1.length x.2.2.length
def sz(q:Rat):Nat:=max (ofN q.num.natAbs).length (ofN q.den).length
def sgQ(q:Rat):Int:=sgI q.num
def rowF(l:List Fz):List (List AV):=l.map celF
@[simp] theorem z5g:rowF []=[]:=rfl
def matF(m:List (List Fz)):List (List AV):=m.map fun r=>[.sl (rowF r) .an]
@[simp] theorem z5h:matF []=[]:=rfl
abbrev tyF:Ty:=.cons .bool (.cons (.sl (.int .u32)) (.cons (.sl (.int .u32)) .nil))
theorem zo4{P:Program}{ν:Nat→FuncId}{l l':List (Nat×AFx)}(hT:TOk P ν fun u=>l'.lookup u)(hp:Part l l')(hm:P.follows .mixedOrders=true){u:Nat}{af:AFx}{xs ys:List AV}{r:AV}
  (hu:l'.lookup u=some af) (hl:af.lent=none) (h:callF (fun u=>l.lookup u) u ys=some r) (hx:xs.map wkA=ys):PCall P (ν u) xs (·=r):=
 zuj hT hm hu hl (hp.call (by rw[hu];rfl) h) hx
end Go.Ab
section
set_option linter.unusedVariables false
namespace Go.Proofs
open Go.Shelf Go.RowKit
variable{P:Program}{ρ:Ren}
structure JL (P:Program) (ρ:Ren):Prop extends Lays.n169 P ρ,Lays.n241 P ρ,Builder.Extra P ρ where
 f156:P.funcs[ρ.f 156]? = some (Body.n156 ρ)
 f165:P.funcs[ρ.f 165]? = some (Body.n165 ρ)
 f166:P.funcs[ρ.f 166]? = some (Body.n166 ρ)
 t4:P.underlying (ρ.t 4)=some (TypeDesc.bool)
 a4:∀w,(isAgg (ρ.t 4)).run P w=.ok false w
 z4:∀w,(Go.sizeOf (ρ.t 4)).run P w=.ok 1 w
 v4:∀w,(zeroValue (ρ.t 4)).run P w=.ok (Value.bool false) w
 t20:P.underlying (ρ.t 20)=some (TypeDesc.interface #[])
 a20:∀w,(isAgg (ρ.t 20)).run P w=.ok false w
 z20:∀w,(Go.sizeOf (ρ.t 20)).run P w=.ok 1 w
 v20:∀w,(zeroValue (ρ.t 20)).run P w=.ok (Value.nilIface) w
 t31:P.underlying (ρ.t 31)=some (TypeDesc.slice (ρ.t 9))
 a31:∀w,(isAgg (ρ.t 31)).run P w=.ok false w
 z31:∀w,(Go.sizeOf (ρ.t 31)).run P w=.ok 1 w
 v31:∀w,(zeroValue (ρ.t 31)).run P w=.ok (Value.slice none 0 0) w
 t75:P.underlying (ρ.t 75)=some (TypeDesc.interface #[("Error",ρ.t 80)])
 a75:∀w,(isAgg (ρ.t 75)).run P w=.ok false w
 z75:∀w,(Go.sizeOf (ρ.t 75)).run P w=.ok 1 w
 v75:∀w,(zeroValue (ρ.t 75)).run P w=.ok (Value.nilIface) w
 t76:P.underlying (ρ.t 76)=some (TypeDesc.tuple #[ρ.t 3,ρ.t 75])
 a76:∀w,(isAgg (ρ.t 76)).run P w=.ok false w
 z76:∀w,(Go.sizeOf (ρ.t 76)).run P w=.ok 1 w
 v76:∀w,(zeroValue (ρ.t 76)).run P w=.ok (Value.tuple #[Value.int IntKind.i64 0,Value.nilIface]) w
 t164:P.underlying (ρ.t 164)=some (TypeDesc.unsafePointer)
 a164:∀w,(isAgg (ρ.t 164)).run P w=.ok false w
 z164:∀w,(Go.sizeOf (ρ.t 164)).run P w=.ok 1 w
 v164:∀w,(zeroValue (ρ.t 164)).run P w=.ok (Value.pointer none) w
 e240:∀args w,(callFunc (ρ.f 240) args).run P w=.ok (.enter (ρ.f 240) args) w
 c240:∀(B b:Nat) (bs:List Value) (w:World),Lib.IsBuilder (ρ.t 72) (ρ.t 5) B b bs w →
  Calls P (ρ.f 240) #[.pointer (some ⟨b,0,none⟩)] w fun e w'=>e=.returned (.tuple #[])∧(Lib.BuilderAt (ρ.t 72) (ρ.t 5) B b (.pointer (some ⟨b,0,none⟩)) bs w'∧Below B w w')
 c240f:∀(b:Nat) (w:World),w.cell? ⟨b,0,none⟩=some (.pointer none)→w.shape? b=some ((ρ.t 72),2)→w.frozen? ⟨b,0,none⟩=false →
  Calls P (ρ.f 240) #[.pointer (some ⟨b,0,none⟩)] w fun e w'=>e=.returned (.tuple #[])∧w'=w.setCell ⟨b,0,none⟩ (.pointer (some ⟨b,0,none⟩))
theorem Jl.hid{p:Prop}(h:p):Hid p:=h
end Go.Proofs
end
section
namespace Go.Proofs
open Go.Shelf Go.RowKit Go.Ab
variable{P:Program}{ρ:Ren}
theorem one_arg{cargs:Array Value}(h:cargs.size=1):∃a,cargs=#[a]:=by
 obtain⟨l⟩:=cargs
 match l,h with
 | [a],_=>exact⟨a,rfl⟩
end Go.Proofs
end
section
namespace Go.Proofs.YtfgfjicelfagcabGreatDoor
open Go Go.Ab Go.RowKit
def signS:ByteArray:=⟨#[43,45,42,47,94,40,41,91,93,44,59,61]⟩
theorem signS_lt:∀(p:Nat) (h:p<signS.size),(signS[p]'h).toNat<128:=by decide
theorem sign_at(c:Nat)(hc:c<256):signB.contains (UInt8.ofNat c)=decide (∃p,∃h:p<signS.size,(signS[p]'h).toNat=c):=by
 rw[Bool.eq_iff_iff,decide_eq_true_iff]
 have:∀c,c<256→(signB.contains (UInt8.ofNat c)=true↔∃p,∃h:p<signS.size,(signS[p]'h).toNat=c):=by decide +kernel
 exact this c hc
set_option maxHeartbeats 1000000 in
set_option maxRecDepth 100000 in
theorem sign_calls(c:Nat)(hc:c<256)(w:World):Calls Tryz.prog 134 #[.int .u8 (c:Int)] w fun e w'=>e=.returned (.bool (signB.contains (UInt8.ofNat c)))∧Below w.heap.size w w':=by
 rw[sign_at c hc]
 go_enter Tryz.func134,Tryz.ntmps134
 go_wp2
 go_loopw [] (fun wr=>∃pos:Nat,wr.heap[w.heap.size]? = some (.stringIter signS pos)∧Below w.heap.size w wr∧∀j,j<pos→∀h:j<signS.size,(signS[j]'h).toNat≠c) (fun wr=>signS.size-wr.iterPos w.heap.size)
 case atStart=>
  refine⟨0,World.iter_heap w signS 0,?_,fun j hj=>absurd hj (Nat.not_lt_zero _)⟩
  exact(Below.refl _ w).alloc (Nat.le_refl _) _
 case round=>
  obtain⟨pos,hit,hbw,hne⟩:=hrel
  by_cases hp:pos<signS.size
  ·have hnx:∀ty,(Instr.next (.pointer (some ⟨w.heap.size,0,none⟩)) true ty).run Tryz.prog wr=_:=fun ty=>Lib.run_next_ascii_at wr w.heap.size signS pos ty hit hp (signS_lt pos hp)
   have hit2:=Lib.iterAt_heap wr w.heap.size signS pos (pos+1) hit
   have hbw2:=Lib.below_iterAt hbw (k:=w.heap.size) (Nat.le_refl _) signS (pos+1)
   obtain⟨x,hx⟩:∃x:Nat,(signS[pos]'hp).toNat=x:=⟨_,rfl⟩
   have hx1:=signS_lt pos hp
   rw[hx]at hnx hx1
   have hwr:IntKind.u8.wrap (x:Int)=(x:Int):=by rw[IntKind.wrap_u8];omega
   by_cases hxc:x=c
   ·subst hxc
    go_wp2
    go_ret
    exact⟨by rw[decide_eq_true ⟨pos,hp,hx⟩];rfl,hbw2⟩
   ·have hxc':¬ (x:Int)=(c:Int):=by omega
    go_wp2
    go_roundw
    case rel=>
     refine⟨pos+1,hit2,hbw2,fun j hj h=>?_⟩
     rcases Nat.lt_or_ge j pos with h1 | h1
     ·exact hne j h1 h
     ·obtain rfl:j=pos:=by omega
      rw[hx]
      exact hxc
    case measure=>
     simp only[World.iterPos,hit2,hit]
     omega
  ·have hnx:∀ty,(Instr.next (.pointer (some ⟨w.heap.size,0,none⟩)) true ty).run Tryz.prog wr=_:=fun ty=>Lib.run_next_end_at wr w.heap.size signS pos ty hit hp
   go_wp2
   go_ret
   have hno:¬ ∃p,∃h:p<signS.size,(signS[p]'h).toNat=c:=by
    rintro⟨p,h,hpc⟩
    exact hne p (by omega) h hpc
   exact⟨by rw[decide_eq_false hno];rfl,hbw⟩
theorem sign_ok:∀xs r,prim187 xs=some r→PCall Tryz.prog (nu 187) xs (·=r):=by
 have e:nu 187=134:=by kernel_rfl
 rw[e]
 intro xs r h
 unfold prim187 at h
 split at h
 ·rename_i n
  split at h
  ·rename_i hn
   cases h
   refine⟨enters_of Tryz.func134 (by kernel_rfl) rfl,fun w S cargs hsz hC hS=>?_⟩
   obtain⟨v0,rfl⟩:=one_arg hsz
   have c0:v0=.int .u8 n:=by
    have:=hC 0 _ _ rfl rfl
    cases this
    rfl
   subst c0
   obtain⟨c,rfl⟩:∃c:Nat,n=c:=⟨n.toNat,by omega⟩
   refine(sign_calls c (by omega) w).mono ?_
   rintro e w' ⟨rfl,hb⟩
   refine⟨_,_,rfl,?_,hb,.b _⟩
   rw[Int.toNat_natCast]
   rfl
  ·cases h
 ·cases h
abbrev tyW:Ty:=.cons (.int .i64) (.cons .str (.cons (.int .i64) .nil))
end Go.Proofs.YtfgfjicelfagcabGreatDoor
end
namespace Go.Ab
class CSpan (T:Tbl):Prop where
class CRow (T:Tbl):Prop where
class CCommon (T:Tbl):Prop where
end Go.Ab
section
namespace Go.Ab
end Go.Ab
end
section
namespace Go.Ab
end Go.Ab
end
namespace Go.Ab
class CFrac (T:Tbl):Prop where
class CWhole (T:Tbl):Prop where
end Go.Ab
section
namespace Go.Ab
end Go.Ab
end
section
namespace Go.Ab
end Go.Ab
end
namespace Go.Ab
def nrm(l:List Fz):List Fz:=l.map fun x=>fz (fv x)
def fzs(l:List Rat):List Fz:=l.map fz
@[simp] theorem z10:rowsT []=[]:=rfl
def textQ(q:Rat):List UInt8:=if q.den=1 then textZ q.num else textZ q.num++47::textN q.den
section
variable{T:Tbl}[CNat T][CProd T][CTwos T][CQuot T][CQuotD T][CText T][CWhole T][CCommon T][CFrac T][CJoin T][CRow T]
def stZe(n i:Nat):St:=⟨[(3,.bs (.loc 9) 1 3 0 n),(10,.i .i64 n),(11,.i .i64 i)],[(.loc 9,⟨1,.own,3,rowF (List.replicate i (fz 0))++List.replicate (n-i) [.b false,.sl [] .an,.sl [] .an]⟩)],3⟩
def stNm(l:List Fz)(i:Nat):St:=⟨[(3,.bs (.loc 3) 1 3 0 i),(6,.sl (rowF l) .an),(7,.i .i64 l.length),(8,.i .i64 i)],[(.loc 3,⟨1,.own,3,rowF (nrm (l.take i))⟩)],3⟩
def scl(c:Rat)(l:List Fz):List Fz:=l.map fun x=>fz (c*fv x)
def stSl(c:Fz)(l:List Fz)(i:Nat):St:=⟨[(2,.ptr (.loc 2) 1 3 0 0),(5,.bs (.loc 5) 2 3 0 i),(8,.sl (rowF l) .an),(9,.i .i64 l.length),(10,.i .i64 i)],[(.loc 2,⟨1,.str,3,[celF c]⟩),(.loc 5,⟨2,.own,3,rowF (scl (fv c) (l.take i))⟩)],4⟩
def dotQ:List Fz→List Fz→Rat
 | x::a,y::b=>fv x*fv y+dotQ a b
 | _,_=>0
def dotK(a b:List Fz)(i:Nat):Rat:=dotQ (a.take i) (b.take i)
abbrev nocell:List AV:=[.b false,.sl [] .an,.sl [] .an]
def stDt(a b:List Fz)(i:Nat):St:=⟨[(1,.sl (rowF b) .an),(4,.ptr (.loc 4) 1 3 0 0),(6,.ptr (.loc 6) 2 3 0 0),(16,.sl (rowF a) .an),(17,.i .i64 a.length),(18,.i .i64 i)],
 [(.loc 4,⟨1,.str,3,[nocell]⟩),(.loc 6,⟨2,.str,3,[celF (fz (dotK a b i))]⟩)],4⟩
def stSm(a b:List Fz)(i:Nat):St:=⟨[(0,.sl (rowF a) .an),(1,.sl (rowF b) .an),(12,.i .i64 a.length),(13,.i .i64 i)],[],2⟩
def txts(l:List Fz):List (List UInt8):=l.map fun x=>textQ (fv x)
def stTt(l:List Fz)(i:Nat):St:=⟨[(3,.bs (.loc 3) 1 1 0 i),(6,.sl (rowF l) .an),(7,.i .i64 l.length),(8,.i .i64 i)],[(.loc 3,⟨1,.own,1,rowsT (txts (l.take i))⟩)],3⟩
end
def mixP(c:Rat)(acc:List Rat)(r:List Fz):List Rat:=List.zipWith (fun q x=>q+c*fv x) acc r
def addP(acc:List Rat)(r:List Fz):List Rat:=List.zipWith (fun q x=>q+fv x) acc r
section
variable{T:Tbl}[CNat T][CProd T][CTwos T][CQuot T][CQuotD T][CText T][CWhole T][CCommon T][CFrac T][CJoin T][CRow T]
def stAi(k j n:Nat)(rest:List (List Fz))(r:List Fz)(L acc:List Rat)(i:Nat):St:=
 ⟨[(4,.bs (.fld (.loc 15) 3) 1 3 0 n),(17,.sl (matF rest) .an),(18,.i .i64 k),(19,.i .i64 j),(28,.sl (rowF r) .an),(29,.i .i64 n),(30,.i .i64 i)],
  [(.fld (.loc 15) 3,⟨1,.own,3,rowF (fzs (L.take i++acc.drop i))⟩)],3⟩
def stAo(n:Nat)(rest:List (List Fz))(acc:List Rat)(j:Nat):St:=
 ⟨[(4,.bs (.fld (.loc 15) 3) 1 3 0 n),(17,.sl (matF rest) .an),(18,.i .i64 rest.length),(19,.i .i64 j)],[(.fld (.loc 15) 3,⟨1,.own,3,rowF (fzs ((rest.take j).foldl addP acc))⟩)],3⟩
end
def mixF(p:List (Fz×List Fz))(acc:List Rat):List Rat:=p.foldl (fun a q=>mixP (fv q.1) a q.2) acc
section
variable{T:Tbl}[CNat T][CProd T][CTwos T][CQuot T][CQuotD T][CText T][CWhole T][CCommon T][CFrac T][CJoin T][CRow T]
def stMi(C:List Fz)(k j n:Nat)(l:List (List Fz))(r:List Fz)(L acc:List Rat)(i:Nat):St:=
 ⟨[(0,.sl (rowF C) .an),(10,.bs (.fld (.loc 40) 9) 1 3 0 n),(11,.i .i64 k),(41,.sl (matF l) .an),(42,.i .i64 j),(43,.i .i64 k),(54,.sl (rowF r) .an),(55,.i .i64 n),(56,.i .i64 i)],
  [(.fld (.loc 40) 9,⟨1,.own,3,rowF (fzs (L.take i++acc.drop i))⟩)],3⟩
def stMo(C:List Fz)(n:Nat)(l:List (List Fz))(acc:List Rat)(k:Nat):St:=
 ⟨[(0,.sl (rowF C) .an),(10,.bs (.fld (.loc 40) 9) 1 3 0 n),(41,.sl (matF l) .an),(42,.i .i64 l.length),(43,.i .i64 k)],[(.fld (.loc 40) 9,⟨1,.own,3,rowF (fzs (mixF ((C.zip l).take k) acc))⟩)],3⟩
def stMc(C:List Fz)(l:List (List Fz))(n i:Nat):St:=⟨[(0,.sl (rowF C) .an),(1,.sl (matF l) .an),(2,.i .i64 n),(28,.sl (matF l) .an),(29,.i .i64 l.length),(30,.i .i64 i)],[],2⟩
end
abbrev agS(t h:Fz)(y0 y1 f0 f1:List Fz):AV:=
 .agg [.b t.1,.sl (u32s t.2.1) .an,.sl (u32s t.2.2) .an,.b h.1,.sl (u32s h.2.1) .an,.sl (u32s h.2.2) .an,.sl (rowF y0) .an,.sl (rowF y1) .an,.sl (rowF f0) .an,.sl (rowF f1) .an]
def prodQ(l:List Fz):Rat:=l.foldl (fun p x=>p*fv x) 1
section
variable{T:Tbl}[CNat T][CProd T][CTwos T][CQuot T][CQuotD T][CText T][CWhole T][CCommon T][CFrac T][CJoin T][CRow T][CSpan T]
def stTm(l:List Fz)(i:Nat):St:=⟨[(2,.ptr (.loc 2) 1 3 0 0),(3,.ptr (.loc 3) 2 3 0 0),(7,.sl (rowF l) .an),(8,.i .i64 l.length),(9,.i .i64 i)],[(.loc 2,⟨1,.str,3,[nocell]⟩),(.loc 3,⟨2,.str,3,[celF (fz (prodQ (l.take i)))]⟩)],4⟩
def rightS(h:Fz)(y0 y1 f0 f1:List Fz):Bool:=decide (0<fv h)&&decide (y0.length≤300)&&decide (y1.length=y0.length)&&decide (f0.length=y0.length)&&decide (f1.length=y0.length)
end
theorem zo5(a b:List AV):wkR (a++b)=wkR a++wkR b:=by rw[zgd,zgd,zgd,List.map_append]
abbrev tyS:Ty:=.cons tyF (.cons tyF (.cons (.sl tyF) (.cons (.sl tyF) (.cons (.sl tyF) (.cons (.sl tyF) .nil)))))
class CRow5 (T:Tbl):Prop where
class CFrac5 (T:Tbl):Prop where
class CRef5 (T:Tbl):Prop where
end Go.Ab
section
namespace Go.Ab
end Go.Ab
end
namespace Go.Ab
class CRef11 (T:Tbl):Prop where
class CRef09 (T:Tbl):Prop where
class CRef06 (T:Tbl):Prop where
theorem zuw{left w:Nat}(h:left<10)(hw:w<4294967296):(left*4294967296+w)/10<4294967296∧(left*4294967296+w)%10<10:=by omega
section
variable{T:Tbl}[CRef07 T]
theorem zdr(a:List UInt32)(hl:a.length≤1000000):callH T 2043 [.sl (u32s a) .an] [] =
  some (.bs (.loc 22) 1 1 0 (ofN (val a)).length,[(.loc 22,⟨1,.own,1,u32s (ofN (val a))⟩)]):=by
 obtain⟨n,h1,h2,h3,h4⟩:=zel a
 have hr:=zc9 (T:=T) a (by omega) h1 h3 h4 a.length ⟨h1,Nat.le_refl _⟩
 rw[show l43_0=l2043_0 from rfl]at hr
 have hlen:(ofN (val a)).length=n:=by rw[←h2];simp;omega
 have hb:n≤4294967296:=by omega
 rw[f2043 _ _ rfl,b2043]
 simp -implicitDefEqProofs[hr,h1,h2,hb,hlen]
def stTen(N:Nat)(y:Nat×Nat×List UInt32)(P:List UInt32):St:=
 ⟨[(0,.bs (.bor 0) 0 1 0 N),(3,u64 y.2.1),(4,.i .i64 ((y.1:Int)-1))],[(.bor 0,⟨0,.own,1,u32s (P.take y.1++y.2.2)⟩)],4⟩
end
section
variable{T:Tbl}
theorem zux(a:List UInt32)(hl:a.length≤1000000):∀y:Nat×Nat×List UInt32,
  (y.1≤a.length∧y.2.1<10∧y.2.2.length=a.length-y.1∧val (a.drop y.1)=10*val y.2.2+y.2.1) →
  ∃r,(∃(c:Nat) (m:List UInt32),r=(Ex.n,(⟨[(3,u64 c)],[(.bor 0,⟨0,.own,1,u32s m⟩)],4⟩:St))∧c<10∧m.length=a.length∧val a=10*val m+c) ∧
   loopN T 1 0 (.norm false [3]) l105_0 (stTen a.length y a)=some r:=by
 refine zeh _ _ (fun y=>y.1) _ ?_
 rintro⟨k,c,m⟩ ⟨hk,hc,hm,hv⟩
 simp only at hk hc hm hv
 cases k with
 | zero=>
  right
  rw[List.drop_zero]at hv
  refine⟨_,⟨c,m,rfl,hc,by omega,hv⟩,?_,?_⟩<;>simp -implicitDefEqProofs[l105_0,stTen]
 | succ j=>
  left
  have hja:j<a.length:=by omega
  have hy:=ze8 (a[j]'hja)
  have hd:=List.drop_eq_getElem_cons hja
  have hw:IntKind.wrap .i64 ((j:Int)-1)=(j:Int)-1:=zac _ (by omega)
  have ht:a.take (j+1)=a.take j++[a[j]'hja]:=List.take_succ_eq_append_getElem hja
  have hg:(a.take (j+1)++m)[j]? = some (a[j]'hja):=by
   rw[ht,List.append_assoc,List.getElem?_append_right (by simp;omega)]
   simp[Nat.min_eq_left (Nat.le_of_lt hja)]
  have hset:∀w,(a.take (j+1)++m).set j w=a.take j++w::m:=by
   intro w
   rw[ht,List.append_assoc,List.set_append_right _ _ (by simp;omega)]
   simp[Nat.min_eq_left (Nat.le_of_lt hja)]
  have hlen:(a.take (j+1)++m).length=a.length:=by simp;omega
  obtain⟨s1,s2⟩:=zuw hc hy
  refine⟨(j,(c*4294967296+(a[j]'hja).toNat)%10,w32 ((c*4294967296+(a[j]'hja).toNat)/10)::m),⟨by simp only;omega,s2,by simp[hm];omega,?_⟩,Nat.lt_succ_self j,?_⟩
  ·simp only
   rw[hd,zbb,hv,zbb,za2 s1]
   generalize (a[j]'hja).toNat=w at *
   omega
  ·have m1:c*4294967296%18446744073709551616=c*4294967296:=Nat.mod_eq_of_lt (by omega)
   have m2:(a[j]'hja).toNat%18446744073709551616=(a[j]'hja).toNat:=Nat.mod_eq_of_lt (by omega)
   have m3:(c*4294967296+(a[j]'hja).toNat)%18446744073709551616=c*4294967296+(a[j]'hja).toNat:=Nat.mod_eq_of_lt (by omega)
   have m4:(c*4294967296+(a[j]'hja).toNat)/10%18446744073709551616=(c*4294967296+(a[j]'hja).toNat)/10:=Nat.mod_eq_of_lt (by omega)
   have m5:(c*4294967296+(a[j]'hja).toNat)/10%4294967296=(c*4294967296+(a[j]'hja).toNat)/10:=Nat.mod_eq_of_lt (by omega)
   simp -implicitDefEqProofs[l105_0,stTen,hja,hw,hg,hset,m1,m2,m3,m4,m5,znx _ _ _ s1]
end
section
variable{T:Tbl}[CRef07 T]
theorem zsl(a:List UInt32)(hl:a.length≤1000000):∃m:List UInt32,m.length=a.length∧val m=val a/10 ∧
  callH T 105 [.bs (.bor 0) 0 1 0 a.length] [(.bor 0,⟨0,.own,1,u32s a⟩)]=some (u64 (val a%10),[(.bor 0,⟨0,.own,1,u32s m⟩)]):=by
 obtain⟨_,⟨c,m,rfl,hc,hm,hv⟩,hr⟩:=zux (T:=T) a hl (a.length,0,[]) ⟨Nat.le_refl _,(by decide:0<10),by simp,by simp⟩
 have e1:val a%10=c:=by omega
 have hw:IntKind.wrap .i64 ((a.length:Int)-1)=(a.length:Int)-1:=zac _ (by omega)
 refine⟨m,hm,by omega,?_⟩
 unfold stTen at hr
 simp at hr
 rw[e1,f105 _ _ rfl,b105]
 simp -implicitDefEqProofs[hw,hr]
def stTx(b:BId)(x:List UInt32)(s:List UInt8):St:=⟨[(3,.bs b 1 1 0 x.length),(4,.s s)],[(b,⟨1,.own,1,u32s x⟩)],3⟩
theorem zxd(K:Nat)(hK:1≤K∧K≤100000)(res:List UInt8):∀y:BId×Nat×List UInt8,((y.1=.fld (.loc 7) 22∨y.1=.fld (.loc 24) 22)∧(ofN y.2.1).length≤1000∧y.2.2.length≤K∧y.2.1<10^(K-y.2.2.length)∧txN y.2.1 y.2.2=res) →
  loopN T 0 0 (.norm false [4]) l69_0 (stTx y.1 (ofN y.2.1) y.2.2)=some (.n,⟨[(4,.s res)],[],2⟩):=by
 refine zan (fun y:BId×Nat×List UInt8=>stTx y.1 (ofN y.2.1) y.2.2) _ (fun y=>y.2.1+if y.2.2=[] then 1 else 0) _ ?_
 rintro⟨b,n,s⟩ ⟨hb,hl,hs,hn,hres⟩
 simp only at hb hl hs hn hres
 by_cases h0:n=0∧s≠[]
 ·right
  obtain⟨rfl,hs0⟩:=h0
  have hr:res=s:=by rw[←hres];unfold txN;rw[if_pos ⟨rfl,hs0⟩]
  subst hr
  constructor<;>simp -implicitDefEqProofs[l69_0,stTx,hs0]
 ·left
  have hor:n=0→s=[]:=fun h=>Classical.byContradiction fun h2=>h0 ⟨h,h2⟩
  obtain⟨m,hm,hvm,hten⟩:=zsl (T:=T) (ofN n) (by omega)
  rw[ze2]at hvm hten
  have hno:=zdr (T:=T) m (by omega)
  rw[hvm]at hno
  have hd10:n%10<10:=Nat.mod_lt _ (by decide)
  have hdig:=zu6 (n%10) hd10
  have hstep:=zu5 n s ((Nat.eq_zero_or_pos n).elim (fun h=>.inr (hor h)) (fun h=>.inl (by omega)))
  have hol:(ofN (n/10)).length≤(ofN n).length:=zij (Nat.div_le_self _ _)
  have hk1:s.length<K:=by
   rcases Nat.lt_or_ge s.length K with h | h
   ·exact h
   ·rw[show K-s.length=0 by omega,Nat.pow_zero]at hn
    rw[hor (by omega)]at h
    simp at h
    omega
  have hk2:n/10<10^(K-(s.length+1)):=by
   refine Nat.div_lt_of_lt_mul ?_
   rw[Nat.mul_comm,←Nat.pow_succ,show (K-(s.length+1)).succ=K-s.length by omega]
   exact hn
  have hgo:¬ 0<(ofN n).length→s=[]:=by
   intro h
   exact hor (zii.1 (List.eq_nil_of_length_eq_zero (by omega)))
  obtain⟨d,hd⟩:∃d,d=n%10:=⟨_,rfl⟩
  obtain⟨q,hq⟩:∃q,q=n/10:=⟨_,rfl⟩
  rw[←hd]at hten hd10 hdig hstep
  rw[←hq]at hno hstep hol hk2
  refine⟨(.fld (.loc 24) 22,q,UInt8.ofNat (48+d)::s),⟨.inr rfl,by simp only;omega,by simp only[List.length_cons];omega,hk2,hstep.trans hres⟩,?_,?_,rfl⟩
  ·simp only[reduceCtorEq,if_false]
   rcases Nat.eq_zero_or_pos n with h1 | h1
   ·rw[if_pos (hor h1)];omega
   ·split<;>omega
  ·have m1:(d+1)%18446744073709551616=d+1:=Nat.mod_eq_of_lt (by omega)
   have m2:(d:Int)+1≤10:=by omega
   have m3:1+s.length≤9223372036854775807:=by omega
   have m4:List.take (ofN n).length m=m:=List.take_of_length_le (by omega)
   simp at hdig
   clear hd hq hn hk2 hvm
   rcases hb with rfl | rfl<;>by_cases hl0:0<(ofN n).length
   ·simp -implicitDefEqProofs[l69_0,stTx,hten,hno,hdig,m1,m2,m3,m4,hm,hl0]
   ·have:=hgo hl0
    subst this
    simp -implicitDefEqProofs[l69_0,stTx,hten,hno,hdig,m1,m2,m4,hm,hl0]
   ·simp -implicitDefEqProofs[l69_0,stTx,hten,hno,hdig,m1,m2,m3,m4,hm,hl0]
   ·have:=hgo hl0
    subst this
    simp -implicitDefEqProofs[l69_0,stTx,hten,hno,hdig,m1,m2,m4,hm,hl0]
theorem zph(a:List UInt32)(hl:a.length≤1000):callF T 69 [.sl (u32s a) .an]=some (.s (textN (val a))):=by
 have hno:=zdr (T:=T) a (by omega)
 have hla:=zbs a
 obtain⟨K,hK⟩:∃K,K=10000:=⟨_,rfl⟩
 have hv:val a<10^(K-0):=by
  have h1:=zk3 a
  have h2:4294967296^a.length≤(10^10)^a.length:=Nat.pow_le_pow_left (by decide) _
  rw[←Nat.pow_mul]at h2
  have h3:10^(10*a.length)≤10^(K-0):=Nat.pow_le_pow_right (by decide) (by omega)
  exact Nat.lt_of_lt_of_le h1 (Nat.le_trans h2 h3)
 have h:=zxd (T:=T) K ⟨by omega,by omega⟩ (textN (val a)) (.fld (.loc 7) 22,val a,[]) ⟨.inl rfl,by simp only;omega,Nat.zero_le _,hv,by unfold txN;simp⟩
 unfold stTx at h
 simp at h
 rw[f69 _ rfl,b69]
 simp -implicitDefEqProofs[hno,h]
end
section
variable{T:Tbl}
def stDw(Q:List UInt32)(o n s i:Nat):St:=⟨[(0,.bs (.bor 0) 0 1 o n),(1,.i .i64 s),(5,.i .i64 i)],[(.bor 0,⟨0,.own,1,u32s Q⟩)],4⟩
end
section
variable{T:Tbl}[CRef02 T][CRef04 T][CRef05 T][CRef07 T][CRef06 T]
def stLw(Q R:List UInt32)(o n o2 n2 c i:Nat):St:=⟨[(0,.bs (.bor 0) 0 1 o n),(1,.bs (.bor 1) 1 1 o2 n2),(4,u64 c),(5,.i .i64 i)],[(.bor 0,⟨0,.own,1,u32s Q⟩),(.bor 1,⟨1,.own,1,u32s R⟩)],6⟩
def nmX:BId:=.fld (.loc 12) 22
def nmY:BId:=.fld (.loc 14) 22
def nm2(f:Bool):BId×BId:=if f then (nmX,nmY) else (nmY,nmX)
def stGc(f:Bool)(P a S P2 b S2:List UInt32)(m n:Nat):St:=
 ⟨[(5,.bs (nm2 f).1 1 1 P.length a.length),(6,.bs (nm2 f).2 2 1 P2.length b.length),(7,.i .i64 m),(8,.i .i64 n)],[((nm2 f).1,⟨1,.own,1,u32s (P++(a++S))⟩),((nm2 f).2,⟨2,.own,1,u32s (P2++(b++S2))⟩)],4⟩
structure Gc where
 f:Bool
 P:List UInt32
 S:List UInt32
 P2:List UInt32
 S2:List UInt32
 X:Nat
 Y:Nat
end
class CRef08 (T:Tbl):Prop extends CRef07 T where
end Go.Ab
section
namespace Go.Ab
end Go.Ab
end
section
namespace Go.Ab
end Go.Ab
end
namespace Go.Ab
section
variable{T:Tbl}[CRef02 T][CRef04 T][CRef05 T][CRef07 T][CRef06 T][CRef08 T][CRef09 T][CRef11 T]
def stZ1(n i:Nat):St:=⟨[(0,.i .i64 n),(3,.bs (.loc 3) 1 3 0 i),(4,.i .i64 i)],[(.loc 3,⟨1,.own,3,rowF (List.replicate i (fz 0))⟩)],3⟩
def stN1(l:List Fz)(i:Nat):St:=⟨[(0,.sl (rowF l) .an),(3,.bs (.loc 3) 1 3 0 i),(4,.i .i64 i)],[(.loc 3,⟨1,.own,3,rowF (nrm (l.take i))⟩)],3⟩
def stS1(a b:List Fz)(i:Nat):St:=⟨[(0,.sl (rowF a) .an),(1,.sl (rowF b) .an),(5,.i .i64 i)],[],2⟩
def stA1(p q:List Rat)(i:Nat):St:=⟨[(0,.sl (rowF (fzs p)) .an),(1,.sl (rowF (fzs q)) .an),(5,.bs (.loc 5) 1 3 0 i),(6,.i .i64 i)],[(.loc 5,⟨1,.own,3,rowF (fzs ((addP p (fzs q)).take i))⟩)],3⟩
def stD1(p q:List Rat)(i:Nat):St:=⟨[(0,.sl (rowF (fzs p)) .an),(1,.sl (rowF (fzs q)) .an),(4,.ptr (.loc 4) 1 3 0 0),(5,.ptr (.loc 5) 2 3 0 0),(6,.i .i64 i)],
 [(.loc 4,⟨1,.str,3,[nocell]⟩),(.loc 5,⟨2,.str,3,[celF (fz (dotK (fzs p) (fzs q) i))]⟩)],4⟩
def longB(l:List Fz)(many words:Nat):Bool:=decide (many<l.length) || l.any fun x=>decide (words<fsz x)
def stL1(l:List Fz)(many words:Nat)(i:Nat):St:=⟨[(0,.sl (rowF l) .an),(1,.i .i64 many),(2,.i .i64 words),(7,.i .i64 i)],[],2⟩
end
def cap300(n:Int):Nat:=(min (max n 0) 300).toNat
section
variable{T:Tbl}[CNat T][CProd T][CTwos T][CQuot T][CQuotD T][CText T][CWhole T][CCommon T][CFrac T][CJoin T][CRow T]
def unitR(n i:Int):List Rat:=if 0≤i∧i<cap300 n then (List.replicate (cap300 n) 0).set i.toNat 1 else List.replicate (cap300 n) 0
end
section
variable{T:Tbl}[CRef02 T][CRef04 T][CRef05 T][CRef07 T][CRef06 T][CRef08 T][CRef09 T][CRef11 T]
def stZ1x(n:Int)(i:Nat):St:=⟨[(0,.i .i64 n),(3,.bs (.loc 3) 1 3 0 i),(4,.i .i64 i)],[(.loc 3,⟨1,.own,3,rowF (List.replicate i (fz 0))⟩)],3⟩
end
class CGrid (T:Tbl):Prop where
class CLaw09 (T:Tbl):Prop where
class CLaw11 (T:Tbl):Prop where
section
variable{T:Tbl}[CRef02 T][CRef04 T][CRef05 T][CRef07 T][CRef06 T][CRef08 T][CRef09 T][CRef11 T][CLaw09 T][CLaw11 T]
def stTo11(l:List Fz)(i:Nat):St:=⟨[(0,.sl (rowF l) .an),(3,.bs (.loc 3) 1 3 0 i),(4,.i .i64 i)],[((.loc 3),⟨1,.own,3,rowF (l.take i)⟩)],3⟩
def stOf11(l:List Fz)(i:Nat):St:=⟨[(0,.sl (rowF l) .an),(3,.bs (.loc 3) 1 3 0 i),(4,.i .i64 i)],[((.loc 3),⟨1,.own,3,rowF (l.take i)⟩)],3⟩
end
def widthM:List (List Fz)→Nat
 | []=>0
 | r::_=>r.length
def rightM(m:List (List Fz)):Bool:=m.all fun r=>decide (r.length=widthM m)
def colM(m:List (List Fz))(j:Nat):List Fz:=m.map fun r=>r.getD j (false,[],[])
def turnM(m:List (List Fz))(k:Nat):List (List Fz):=(List.range k).map fun j=>nrm (colM m j)
def scM(r:List Fz)(m:List (List Fz)):List (List Fz):=List.zipWith (fun x row=>scl (fv x) row) r m
def sumM:List (List Fz)→List Rat
 | []=>[]
 | r::m=>m.foldl addP (r.map fv)
def leftQ(r:List Fz)(m:List (List Fz)):List Rat:=sumM (scM r m)
def applyQ(m:List (List Fz))(c:List Fz):List Rat:=m.map fun r=>dotQ r c
section
variable{T:Tbl}[CNat T][CProd T][CTwos T][CQuot T][CQuotD T][CText T][CWhole T][CCommon T][CFrac T][CJoin T][CRow T][CGrid T]
def stGrR(m:List (List Fz))(i:Nat):St:=⟨[(0,.sl (matF m) .an),(5,.sl (matF m) .an),(6,.i .i64 m.length),(7,.i .i64 i)],[],2⟩
def stGrS(a b:List (List Fz))(i:Nat):St:=⟨[(1,.sl (matF b) .an),(12,.sl (matF a) .an),(13,.i .i64 a.length),(14,.i .i64 i)],[],2⟩
def idQ(k:Nat)(i:Nat):List (List Fz):=(List.range i).map fun j=>fzs ((List.replicate k 0).set j 1)
def stGrI(k:Nat)(i:Nat):St:=⟨[(0,.i .i64 k),(3,.bs (.loc 3) 1 1 0 i),(8,.i .i64 k),(9,.i .i64 i)],[((.loc 3),⟨1,.own,1,matF (idQ k i)⟩)],3⟩
def stGrT(m R:List (List Fz))(k j:Nat)(i:Nat):St:=⟨[(0,.sl (matF m) .an),(3,.bs (.loc 3) 1 1 0 j),(4,.i .i64 j),(5,.bs (.loc 5) 2 3 0 i),(12,.i .i64 k),(13,.i .i64 j),(16,.sl (matF m) .an),(17,.i .i64 m.length),(18,.i .i64 i)],[(.loc 3,⟨1,.own,1,matF R⟩),((.loc 5),⟨2,.own,3,rowF (nrm (colM (m.take i) j))⟩)],4⟩
def stTo12t(m:List (List Fz))(k:Nat)(i:Nat):St:=⟨[(0,.sl (matF m) .an),(3,.bs (.loc 3) 1 1 0 i),(12,.i .i64 k),(13,.i .i64 i)],[((.loc 3),⟨1,.own,1,matF (turnM m i)⟩)],3⟩
end
section
variable{T:Tbl}[CNat T][CProd T][CTwos T][CQuot T][CQuotD T][CText T][CWhole T][CCommon T][CFrac T][CJoin T][CRow T][CGrid T]
def stGrL(r:List Fz)(m:List (List Fz))(i:Nat):St:=⟨[(0,.sl (rowF r) .an),(6,.bs (.loc 6) 1 1 0 i),(19,.sl (matF m) .an),(20,.i .i64 m.length),(21,.i .i64 i)],[((.loc 6),⟨1,.own,1,matF (scM (r.take i) (m.take i))⟩)],3⟩
def stGrA(m:List (List Fz))(c:List Fz)(i:Nat):St:=⟨[(1,.sl (rowF c) .an),(6,.bs (.loc 6) 1 3 0 i),(21,.sl (matF m) .an),(22,.i .i64 m.length),(23,.i .i64 i)],[((.loc 6),⟨1,.own,3,rowF (fzs (applyQ (m.take i) c))⟩)],3⟩
def mulM(a b:List (List Fz)):List (List Fz):=a.map fun r=>fzs (leftQ r b)
def stGrM(a m:List (List Fz))(i:Nat):St:=⟨[(1,.sl (matF m) .an),(6,.bs (.loc 6) 1 1 0 i),(26,.sl (matF a) .an),(27,.i .i64 a.length),(28,.i .i64 i)],[((.loc 6),⟨1,.own,1,matF (mulM (a.take i) m)⟩)],3⟩
def addM(a b:List (List Fz)):List (List Fz):=List.zipWith (fun r s=>fzs (addP (r.map fv) s)) a b
def stGrP(a m:List (List Fz))(i:Nat):St:=⟨[(1,.sl (matF m) .an),(6,.bs (.loc 6) 1 1 0 i),(33,.sl (matF a) .an),(34,.i .i64 a.length),(35,.i .i64 i)],[((.loc 6),⟨1,.own,1,matF (addM (a.take i) (m.take i))⟩)],3⟩
end
def dotR:List Rat→List Rat→Rat
 | x::a,y::b=>x*y+dotR a b
 | _,_=>0
def valM(m:List (List Fz)):List (List Rat):=m.map fun r=>r.map fv
def fzM(L:List (List Rat)):List (List Fz):=L.map fzs
def widthQ:List (List Rat)→Nat
 | []=>0
 | r::_=>r.length
def rightQ(L:List (List Rat)):Bool:=L.all fun r=>decide (r.length=widthQ L)
def colQ(L:List (List Rat))(j:Nat):List Rat:=L.map fun p=>p.getD j 0
def turnQ(L:List (List Rat)):List (List Rat):=(List.range (widthQ L)).map (colQ L)
def applyR(L:List (List Rat))(c:List Rat):List Rat:=L.map fun p=>dotR p c
def leftR(r:List Rat)(L:List (List Rat)):List Rat:=applyR (turnQ L) r
class CFrac2 (T:Tbl):Prop where
def absQ(q:Rat):Rat:=if q<0 then -q else q
def sclR(c:Rat)(l:List Rat):List Rat:=l.map fun x=>c*x
def addR(a b:List Rat):List Rat:=List.zipWith (· + ·) a b
def maxStep(b x:Rat):Rat:=if b<absQ x then absQ x else b
def normR(l:List Rat):Rat:=l.foldl maxStep 0
def mixR:List (Rat×List Rat)→List Rat→List Rat
 | [],acc=>acc
 | p::l,acc=>mixR l (addR acc (sclR p.1 p.2))
class CPow (T:Tbl):Prop where
def sqC:List UInt32→Nat
 | []=>0
 | x::r=>4294967296*(x.toNat*val r)+4294967296*4294967296*sqC r
def sqD:List UInt32→Nat
 | []=>0
 | x::r=>x.toNat*x.toNat+4294967296*4294967296*sqD r
section
variable{T:Tbl}[CLimb T][CNat T][CProd T][CTwos T][CPow T]
def stSqA(a X:List UInt32)(i:Nat):St:=
 ⟨[(0,.sl (u32s a) .an),(3,.bs (.loc 14) 1 1 0 (2*a.length+1)),(15,.sl (u32s a) .an),(16,.i .i64 a.length),(17,.i .i64 i)],[(.loc 14,⟨1,.own,1,u32s (X++List.replicate (a.length+1-i) 0)⟩)],3⟩
def stSqD(a X:List UInt32)(U:List (List AV))(i:Nat):St:=
 ⟨[(6,.sl U .an),(7,.bs (.loc 38) 1 1 0 (2*a.length)),(39,.sl (u32s a) .an),(40,.i .i64 a.length),(41,.i .i64 i)],[(.loc 38,⟨1,.own,1,u32s (X++List.replicate (2*a.length-2*i) 0)⟩)],3⟩
end
class CLaw12 (T:Tbl):Prop where
class CRef12 (T:Tbl):Prop where
section
variable{T:Tbl}[CRef02 T][CRef04 T][CRef05 T][CRef07 T][CRef06 T][CRef08 T][CRef09 T][CRef11 T][CRef12 T]
def stR12(m:List (List Fz))(i:Nat):St:=⟨[(0,.sl (matF m) .an),(3,.i .i64 i)],[],2⟩
def stN12(m:List (List Fz))(i:Nat):St:=⟨[(0,.sl (matF m) .an),(3,.bs (.loc 3) 1 1 0 i),(4,.i .i64 i)],[((.loc 3),⟨1,.own,1,matF (fzM (valM (m.take i)))⟩)],3⟩
def stS12(a b:List (List Fz))(i:Nat):St:=⟨[(0,.sl (matF a) .an),(1,.sl (matF b) .an),(5,.i .i64 i)],[],2⟩
def stI12(n:Int)(k:Nat)(i:Nat):St:=⟨[(0,.i .i64 n),(3,.bs (.loc 3) 1 1 0 i),(4,.i .i64 i)],[((.loc 3),⟨1,.own,1,matF (idQ k i)⟩)],3⟩
def stT12i(L:List (List Rat))(R:List (List Fz))(j:Nat)(i:Nat):St:=⟨[(0,.sl (matF (fzM L)) .an),(3,.bs (.loc 3) 1 1 0 j),(4,.i .i64 j),(5,.bs (.loc 5) 2 3 0 i),(6,.i .i64 i)],[(.loc 3,⟨1,.own,1,matF R⟩),((.loc 5),⟨2,.own,3,rowF (fzs (colQ (L.take i) j))⟩)],4⟩
def stT12o(L:List (List Rat))(i:Nat):St:=⟨[(0,.sl (matF (fzM L)) .an),(3,.bs (.loc 3) 1 1 0 i),(4,.i .i64 i)],[((.loc 3),⟨1,.own,1,matF (fzM ((List.range i).map (colQ L)))⟩)],3⟩
def stA12(L:List (List Rat))(c:List Rat)(i:Nat):St:=⟨[(0,.sl (matF (fzM L)) .an),(1,.sl (rowF (fzs c)) .an),(5,.bs (.loc 5) 1 3 0 i),(6,.i .i64 i)],[((.loc 5),⟨1,.own,3,rowF (fzs (applyR (L.take i) c))⟩)],3⟩
def longM(m:List (List Fz))(many words:Nat):Bool:=decide (many<m.length) || m.any fun r=>longB r many words
def stL12(m:List (List Fz))(many words:Nat)(i:Nat):St:=⟨[(0,.sl (matF m) .an),(1,.i .i64 many),(2,.i .i64 words),(7,.i .i64 i)],[],2⟩
end
section
variable{T:Tbl}[CNat T][CProd T][CTwos T][CQuot T][CQuotD T][CText T][CWhole T][CCommon T][CFrac T][CJoin T][CRow T][CGrid T][CRef02 T][CRef04 T][CRef05 T][CRef07 T][CRef06 T][CRef08 T][CRef09 T][CRef11 T][CRef12 T][CLaw09 T][CLaw11 T][CLaw12 T]
def stTo12(m:List (List Fz))(i:Nat):St:=⟨[(0,.sl (matF m) .an),(3,.bs (.loc 3) 1 1 0 i),(4,.i .i64 i)],[((.loc 3),⟨1,.own,1,matF (m.take i)⟩)],3⟩
def stI12s(a b:List (List Fz))(i:Nat):St:=⟨[(0,.sl (matF a) .an),(1,.sl (matF b) .an),(5,.i .i64 i)],[],2⟩
end
class CPoly (T:Tbl):Prop where
def tlen(l:List Rat):Nat→Nat
 | 0=>0
 | n+1=>if l.getD n 0=0 then tlen l n else n+1
def trimR(l:List Rat):List Rat:=l.take (tlen l l.length)
section
variable{T:Tbl}[CNat T][CProd T][CTwos T][CQuot T][CQuotD T][CText T][CWhole T][CCommon T][CFrac T][CJoin T][CRow T][CPoly T]
def evlR:List Rat→Rat→Rat
 | [],_=>0
 | a::l,x=>evlR l x*x+a
def dif(l:List Rat):List Rat:=(List.range (l.length-1)).map fun(i:Nat)=>(((i:Int)+1:Int):Rat)*l.getD (i+1) 0
def stDf(l:List Fz)(i:Nat):St:=⟨[(0,.sl (rowF l) .an),(3,.bs (.loc 3) 1 3 0 i),(4,.i .i64 ((i:Int)+1))],[((.loc 3),⟨1,.own,3,rowF (fzs ((dif (l.map fv)).take i))⟩)],3⟩
end
def sizF(x:Fz):Nat:=blen (val x.2.1)+blen (val x.2.2)
def sizL(l:List Fz):Nat:=l.foldl (fun n x=>max n (sizF x)) 0
section
variable{T:Tbl}[CLimb T][CNat T][CProd T][CTwos T][CQuot T][CQuotD T][CText T][CWhole T][CCommon T][CFrac T][CFrac2 T][CFrac5 T][CPow T][CJoin T][CRow T][CRow5 T]
def bestI(b c:Rat)(i:Nat):Rat:=if i=0 then 0 else if i=1 then b else (if b<c then c else b)
def stMx(b c:Rat)(i:Nat):St:=⟨[(2,.ptr (.loc 2) 1 3 0 0),(3,.ptr (.loc 3) 2 3 0 0),(7,.sl [celF (fz b),celF (fz c)] .an),(8,.i .i64 2),(9,.i .i64 i)],
 [(.loc 2,⟨1,.str,3,[nocell]⟩),(.loc 3,⟨2,.str,3,[celF (fz (bestI b c i))]⟩)],4⟩
def stRn(l:List Fz)(i:Nat):St:=⟨[(2,.ptr (.loc 2) 1 3 0 0),(3,.ptr (.loc 3) 2 3 0 0),(7,.sl (rowF l) .an),(8,.i .i64 l.length),(9,.i .i64 i)],
 [(.loc 2,⟨1,.str,3,[nocell]⟩),(.loc 3,⟨2,.str,3,[celF (fz (normR ((l.map fv).take i)))]⟩)],4⟩
def stRs(l:List Fz)(i:Nat):St:=⟨[(3,.i .i64 (sizL (l.take i))),(6,.sl (rowF l) .an),(7,.i .i64 l.length),(8,.i .i64 i)],[],2⟩
end
section
variable{T:Tbl}[CRef02 T][CRef04 T][CRef05 T][CRef07 T][CRef06 T][CRef08 T][CRef09 T][CRef11 T][CRef5 T]
def stSc(c:Rat)(p:List Rat)(i:Nat):St:=⟨[(1,.sl (rowF (fzs p)) .an),(2,.ptr (.loc 2) 1 3 0 0),(5,.bs (.loc 5) 2 3 0 i),(6,.i .i64 i)],
 [(.loc 2,⟨1,.str,3,[celF (fz c)]⟩),(.loc 5,⟨2,.own,3,rowF (fzs ((sclR c p).take i))⟩)],4⟩
def stRx(p:List Rat)(i:Nat):St:=⟨[(0,.sl (rowF (fzs p)) .an),(2,.ptr (.loc 2) 1 3 0 0),(3,.ptr (.loc 3) 2 3 0 0),(4,.i .i64 i)],
 [(.loc 2,⟨1,.str,3,[nocell]⟩),(.loc 3,⟨2,.str,3,[celF (fz (normR (p.take i)))]⟩)],4⟩
end
structure Ins where
 op:Int
 a:Int
 b:Int
 n:Fz
abbrev celI(i:Ins):List AV:=[.i .i64 i.op,.i .i64 i.a,.i .i64 i.b,.b i.n.1,.sl (u32s i.n.2.1) .an,.sl (u32s i.n.2.2) .an]
def rowI(l:List Ins):List (List AV):=l.map celI
@[simp] theorem z5i:rowI []=[]:=rfl
structure Tp where
 code:List Ins
 outs:List Int
 dim:Int
 par:Int
abbrev etp(t:Tp):AV:=.agg [.sl (rowI t.code) .an,.sl (ints t.outs) .an,.i .i64 t.dim,.i .i64 t.par]
def rightF(x:Fz):Bool:=decide (x=fz (fv x))
def blankF(x:Fz):Bool:=!x.1&&x.2.1.isEmpty&&x.2.2.isEmpty
def readsI(i:Ins):List Int:=if i.op=6∨i.op=11 then [i.a] else if 7≤i.op∧i.op≤10 then [i.a,i.b] else []
def belowB(i m:Int):Bool:=decide (0≤i)&&decide (i<m)
def mayI(dim par p:Int)(i:Ins):Bool:=
 if i.op=1 then decide (i.a=0)&&decide (i.b=0)&&rightF i.n
 else blankF i.n&&(readsI i).all (fun r=>belowB r p) &&
  (if i.op=2 then decide (i.a=0)&&decide (i.b=0)
   else if i.op=3 then belowB i.a dim&&decide (i.b=0)
   else if i.op=4 then belowB i.a par&&decide (i.b=0)
   else if i.op=6 then decide (i.b=0)
   else if i.op=11 then decide (-8≤i.b)&&decide (i.b≤8)
   else decide ((readsI i).length=2))
def firstI(dim par:Int):Nat→List Ins→Int
 | _,[]=>-1
 | p,i::r=>if mayI dim par p i then firstI dim par (p+1) r else p
def wholeT(t:Tp):Bool:=belowB (t.dim-1) 6&&belowB t.par 7&&decide ((t.outs.length:Int)=t.dim)&&decide (t.code.length≤300)
def wrongT(t:Tp):Int:=
 if wholeT t=false then -2 else if firstI t.dim t.par 0 t.code≠-1 then firstI t.dim t.par 0 t.code
 else if (t.outs.all fun o=>belowB o t.code.length)=false then t.code.length else -1
def okT(t:Tp):Bool:=decide (wrongT t=-1)
structure OkTp (t:Tp):Prop where
 d1:1≤t.dim
 d2:t.dim≤6
 p1:0≤t.par
 p2:t.par≤6
 ol:(t.outs.length:Int)=t.dim
 cl:t.code.length≤300
 may:∀(k:Nat) (i:Ins),t.code[k]? = some i→mayI t.dim t.par k i=true
 outs:∀o∈t.outs,0≤o∧o<t.code.length
structure Po where
 t:Rat
 y:List Rat
 p:List Rat
structure PoF where
 t:Fz
 y:List Fz
 p:List Fz
def PoF.v(x:PoF):Po:=⟨fv x.t,x.y.map fv,x.p.map fv⟩
def Po.f(x:Po):PoF:=⟨fz x.t,fzs x.y,fzs x.p⟩
abbrev ept(x:PoF):AV:=.agg [.b x.t.1,.sl (u32s x.t.2.1) .an,.sl (u32s x.t.2.2) .an,.sl (rowF x.y) .an,.sl (rowF x.p) .an]
def gI(l:List Rat)(i:Int):Rat:=l.getD i.toNat 0
def powZ(x:Rat)(e:Int):Rat:=x^e
def valI(P:Po)(D:List Rat)(i:Ins):Rat×Bool:=
 if i.op=1 then (fv i.n,true)
 else if i.op=3 then (gI P.y i.a,true)
 else if i.op=4 then (gI P.p i.a,true)
 else if i.op=6 then (-gI D i.a,true)
 else if i.op=7 then (gI D i.a+gI D i.b,true)
 else if i.op=8 then (gI D i.a-gI D i.b,true)
 else if i.op=9 then (gI D i.a*gI D i.b,true)
 else if i.op=10 then (gI D i.a/gI D i.b,decide (gI D i.b≠0))
 else if i.op=11 then (if i.b<0∧gI D i.a=0 then (0,false) else (powZ (gI D i.a) i.b,true))
 else (P.t,true)
def sizQ(q:Rat):Nat:=sizF (fz q)
def runR(lim:Nat)(P:Po):List Ins→List Rat→List Rat×Nat×Nat
 | [],D=>(D,0,0)
 | i::r,D=>if (valI P D i).2=false then ([],3,D.length) else if lim<sizQ (valI P D i).1 then ([],6,D.length) else runR lim P r (D++[(valI P D i).1])
abbrev tyI:Ty:=.cons (.int .i64) (.cons (.int .i64) (.cons (.int .i64) (.cons tyF .nil)))
abbrev tyT:Ty:=.cons (.sl tyI) (.cons (.sl (.int .i64)) (.cons (.int .i64) (.cons (.int .i64) .nil)))
abbrev tyP:Ty:=.cons tyF (.cons (.sl tyF) (.cons (.sl tyF) .nil))
structure Nd where
 op:Int
 i:Int
 n:List UInt32
 deriving DecidableEq
abbrev celN(x:Nd):List AV:=[.i .i64 x.op,.i .i64 x.i,.sl (u32s x.n) .an]
def rowN(l:List Nd):List (List AV):=l.map celN
@[simp] theorem zxl(l:List Nd):(rowN l).length=l.length:=by simp[rowN]
@[simp] theorem zxm(l:List Nd):wkL (rowN l)=rowN l:=by rw[zb5];simp[rowN,wkR,wkA]
@[simp] theorem z5j(l:List Nd)(i:Nat)(h:i<(rowN l).length):(rowN l)[i]=celN (l[i]'(by simpa using h)):=by simp[rowN]
theorem zg5(l:List Nd)(x:Nd):rowN l++[celN x]=rowN (l++[x]):=by simp[rowN]
theorem zg6(l m:List Nd):rowN l++rowN m=rowN (l++m):=by simp[rowN]
@[simp] theorem z18(l:List Nd)(n:Nat):(rowN l).take n=rowN (l.take n):=by simp[rowN]
@[simp] theorem z5k:rowN []=[]:=rfl
theorem zg7{m:List Nd}{n:Nat}(h:m.length=n)(x:Nd):wkL (rowN (List.take n m)++[celN x])=rowN (m++[x]):=by
 rw[List.take_of_length_le (by omega),zg5,zxm]
@[simp] theorem z19(l:List Nd):Option.all (fun r:List AV=>decide (r.length=3)) (rowN l).head? = true:=by cases l<;>rfl
@[simp] theorem z2a(l:List Nd):rowZ 3 (rowN l)=true:=by cases l<;>rfl
@[simp] theorem zvy(l:List Nd):(rowN l).isEmpty=l.isEmpty:=by cases l<;>rfl
def rowC(l:List (List Nd)):List (List AV):=l.map fun c=>[.sl (rowN c) .an]
@[simp] theorem zcv(l:List (List Nd)):(rowC l).length=l.length:=by simp[rowC]
@[simp] theorem zmz(l:List (List Nd)):wkL (rowC l)=rowC l:=by rw[zb5];simp[rowC,wkR,wkA]
@[simp] theorem z5l(l:List (List Nd))(i:Nat)(h:i<(rowC l).length):(rowC l)[i]=[.sl (rowN (l[i]'(by simpa using h))) .an]:=by simp[rowC]
theorem zep(l:List (List Nd))(x:List Nd):rowC l++[[.sl (rowN x) .an]]=rowC (l++[x]):=by simp[rowC]
@[simp] theorem zvg:rowC []=[]:=rfl
def arN(op:Int):Int:=if 1≤op∧op≤5 then 0 else if op=6∨op=11 then 1 else if 7≤op∧op≤10 then 2 else -1
theorem zbc(op:Int):(arN op=0∧1≤op∧op≤5)∨(arN op=1∧(op=6∨op=11))∨(arN op=2∧7≤op∧op≤10)∨(arN op=-1∧(op<1∨11<op)):=by
 unfold arN
 split
 ·left;omega
 ·split
  ·right;left;omega
  ·split
   ·right;right;left;omega
   ·right;right;right;omega
def wrongL:Nat→Int→List Nd→Int
 | i,o,[]=>if o=1 then -1 else i
 | i,o,x::r=>if arN x.op<0∨o<arN x.op then i else wrongL (i+1) (o+1-arN x.op) r
def wrongN(l:List Nd):Int:=wrongL 0 0 l
def openN(o:Int)(l:List Nd):Int:=l.foldl (fun o x=>o+1-arN x.op) o
def goL:Nat→Int→List Nd→Option Nat×Int
 | _,o,[]=>(none,o)
 | i,o,x::r=>if arN x.op<0∨o<arN x.op then (some i,o) else goL (i+1) (o+1-arN x.op) r
theorem zg8:∀(l:List Nd) (i:Nat) (o:Int),wrongL i o l=match goL i o l with
  | (some k,_)=>(k:Int)
  | (none,p)=>if p=1 then -1 else i+l.length
 | [],i,o=>by simp[wrongL,goL]
 | x::r,i,o=>by
  unfold wrongL goL
  by_cases h:arN x.op<0∨o<arN x.op
  ·rw[if_pos h,if_pos h]
  ·rw[if_neg h,if_neg h,zg8 r (i+1) (o+1-arN x.op)]
   generalize goL (i+1) (o+1-arN x.op) r=G
   obtain⟨_ | k,p⟩:=G
   ·dsimp only
    by_cases hp:p=1
    ·rw[if_pos hp,if_pos hp]
    ·rw[if_neg hp,if_neg hp,List.length_cons];omega
   ·rfl
def wordsB(n:List UInt32):Bool:=decide (n=ofN (val n))&&decide ((textN (val n)).length≤60)
def belB(i m:Int):Bool:=decide (0≤i)&&decide (i<m)
def okN(dim pars lets:Int)(x:Nd):Bool:=
 if x.op=1 then decide (x.i=0)&&wordsB x.n
 else if x.n≠[]∨x.op<1∨11<x.op then false
 else if x.op=3 then belB x.i dim else if x.op=4 then belB x.i pars else if x.op=5 then belB x.i lets
 else if x.op=11 then decide (-8≤x.i)&&decide (x.i≤8)
 else decide (x.i=0)
def placeL(dim pars lets w:Int):Nat→List Nd→Int
 | _,[]=>w
 | i,x::r=>if (i:Int)=w∨okN dim pars lets x=false then i else placeL dim pars lets w (i+1) r
def findL(dim pars lets w:Int):Nat→List Nd→Option Nat
 | _,[]=>none
 | i,x::r=>if (i:Int)=w∨okN dim pars lets x=false then some i else findL dim pars lets w (i+1) r
theorem zd1(dim pars lets w:Int):∀(l:List Nd) (i:Nat),placeL dim pars lets w i l=match findL dim pars lets w i l with
  | some k=>(k:Int)
  | none=>w
 | [],i=>rfl
 | x::r,i=>by
  unfold placeL findL
  by_cases h:(i:Int)=w∨okN dim pars lets x=false
  ·rw[if_pos h,if_pos h]
  ·rw[if_neg h,if_neg h,zd1 dim pars lets w r (i+1)]
def placeN(dim pars lets:Int)(l:List Nd):Int:=placeL dim pars lets (wrongN l) 0 l
inductive Tre where
 | leaf (x:Nd)
 | un (x:Nd) (a:Tre)
 | bin (x:Nd) (a b:Tre)
def Tre.flat:Tre→List Nd
 | .leaf x=>[x]
 | .un x a=>a.flat++[x]
 | .bin x a b=>a.flat++(b.flat++[x])
def Tre.ok:Tre→Prop
 | .leaf x=>arN x.op=0
 | .un x a=>arN x.op=1∧a.ok
 | .bin x a b=>arN x.op=2∧a.ok∧b.ok
def Tre.deep:Tre→Nat
 | .leaf _=>1
 | .un _ a=>a.deep+1
 | .bin _ a b=>max a.deep b.deep+1
theorem Tre.flat_ne(t:Tre):t.flat≠[]:=by cases t<;>simp[Tre.flat]
theorem Tre.flat_pos(t:Tre):0<t.flat.length:=List.length_pos_iff.2 t.flat_ne
theorem Tre.deep_le:∀t:Tre,t.deep≤t.flat.length
 | .leaf _=>Nat.le_refl _
 | .un x a=>by
  have:=a.deep_le
  simp only[Tre.deep,Tre.flat,List.length_append,List.length_cons,List.length_nil];omega
 | .bin x a b=>by
  have:=a.deep_le
  have:=b.deep_le
  simp only[Tre.deep,Tre.flat,List.length_append,List.length_cons,List.length_nil];omega
def flats(s:List Tre):List Nd:=s.flatMap Tre.flat
theorem zcw:∀(l:List Nd) (i:Nat) (s:List Tre),(∀t∈s,t.ok)→wrongL i s.length l=-1→∃t:Tre,t.ok∧t.flat=flats s++l
 | [],i,s,hs,h=>by
  unfold wrongL at h
  by_cases h1:(s.length:Int)=1
  ·obtain⟨t,rfl⟩:=List.length_eq_one_iff.1 (show s.length=1 by omega)
   exact⟨t,hs t (by simp),by simp[flats]⟩
  ·rw[if_neg h1]at h;omega
 | x::r,i,s,hs,h=>by
  unfold wrongL at h
  by_cases h1:arN x.op<0∨(s.length:Int)<arN x.op
  ·rw[if_pos h1]at h;omega
  ·rw[if_neg h1]at h
   rcases zbc x.op with ⟨e,_⟩ | ⟨e,_⟩ | ⟨e,_⟩ | ⟨e,_⟩
   ·rw[e]at h
    obtain⟨t,h2,h3⟩:=zcw r (i+1) (s++[.leaf x]) (by
     intro t ht
     rcases List.mem_append.1 ht with ht | ht
     ·exact hs t ht
     ·rw[List.mem_singleton.1 ht];exact e) (by rw[←h];congr 1;simp)
    exact⟨t,h2,by rw[h3];simp[flats,Tre.flat]⟩
   ·rw[e]at h h1
    obtain⟨s',a,rfl⟩:=List.eq_nil_or_concat s |>.resolve_left (by rintro rfl;simp at h1)
    rw[List.concat_eq_append]at *
    obtain⟨t,h2,h3⟩:=zcw r (i+1) (s'++[.un x a]) (by
     intro t ht
     rcases List.mem_append.1 ht with ht | ht
     ·exact hs t (by simp[ht])
     ·rw[List.mem_singleton.1 ht];exact⟨e,hs a (by simp)⟩) (by rw[←h];congr 1;simp)
    exact⟨t,h2,by rw[h3];simp[flats,Tre.flat]⟩
   ·rw[e]at h h1
    obtain⟨s1,b,rfl⟩:=List.eq_nil_or_concat s |>.resolve_left (by rintro rfl;simp at h1)
    rw[List.concat_eq_append]at *
    obtain⟨s2,a,rfl⟩:=List.eq_nil_or_concat s1 |>.resolve_left (by rintro rfl;simp at h1)
    rw[List.concat_eq_append]at *
    obtain⟨t,h2,h3⟩:=zcw r (i+1) (s2++[.bin x a b]) (by
     intro t ht
     rcases List.mem_append.1 ht with ht | ht
     ·exact hs t (by simp[ht])
     ·rw[List.mem_singleton.1 ht];exact⟨e,hs a (by simp),hs b (by simp)⟩) (by rw[←h];congr 1;simp;omega)
    exact⟨t,h2,by rw[h3];simp[flats,Tre.flat]⟩
   ·omega
theorem zg9{l:List Nd}(h:wrongN l=-1):∃t:Tre,t.ok∧t.flat=l:=by
 obtain⟨t,h1,h2⟩:=zcw l 0 [] (by simp) h
 exact⟨t,h1,by simpa[flats]using h2⟩
theorem zcx:∀(t:Tre),t.ok→∀(i:Nat) (o:Int) (r:List Nd),0≤o→wrongL i o (t.flat++r)=wrongL (i+t.flat.length) (o+1) r
 | .leaf x,h,i,o,r,ho=>by
  have e:arN x.op=0:=h
  show wrongL i o (x::r)=_
  rw[wrongL,if_neg (by omega),e]
  simp[Tre.flat]
 | .un x a,h,i,o,r,ho=>by
  have e:arN x.op=1:=h.1
  rw[Tre.flat,List.append_assoc,zcx a h.2 i o _ ho]
  show wrongL _ _ (x::r)=_
  rw[wrongL,if_neg (by omega),e]
  congr 1
  ·simp;omega
  ·omega
 | .bin x a b,h,i,o,r,ho=>by
  have e:arN x.op=2:=h.1
  rw[Tre.flat,List.append_assoc,zcx a h.2.1 i o _ ho,List.append_assoc,zcx b h.2.2 _ _ _ (by omega)]
  show wrongL _ _ (x::r)=_
  rw[wrongL,if_neg (by omega),e]
  congr 1
  ·simp;omega
  ·omega
theorem zm0{t:Tre}(h:t.ok):wrongN t.flat=-1:=by
 have:=zcx t h 0 0 [] (by decide)
 rw[List.append_nil]at this
 unfold wrongN
 rw[this];rfl
theorem zck:∀(l:List Nd) (i:Nat) (o:Int),wrongL i o l=-1∨(i≤wrongL i o l∧wrongL i o l≤i+l.length)
 | [],i,o=>by
  unfold wrongL
  split
  ·left;rfl
  ·right;simp
 | x::r,i,o=>by
  unfold wrongL
  split
  ·right;simp;omega
  ·rcases zck r (i+1) (o+1-arN x.op) with h | h
   ·left;exact h
   ·right;simp only[List.length_cons];omega
theorem zha(dim pars lets w:Int):∀(l:List Nd) (i:Nat),placeL dim pars lets w i l<0→w<0∧∀x∈l,okN dim pars lets x=true
 | [],i,h=>⟨h,by simp⟩
 | x::r,i,h=>by
  unfold placeL at h
  split at h
  ·omega
  ·next h1=>
   obtain⟨h2,h3⟩:=zha dim pars lets w r (i+1) h
   refine⟨h2,fun y hy=>?_⟩
   rcases List.mem_cons.1 hy with rfl | hy
   ·cases hk:okN dim pars lets y with
    | true=>rfl
    | false=>exact absurd (.inr hk) h1
   ·exact h3 y hy
theorem zlb(dim pars lets w:Int):∀(l:List Nd) (i:Nat),placeL dim pars lets w i l=w∨(i≤placeL dim pars lets w i l∧placeL dim pars lets w i l<i+l.length)
 | [],i=>.inl rfl
 | x::r,i=>by
  unfold placeL
  split
  ·right;simp only[List.length_cons];omega
  ·rcases zlb dim pars lets w r (i+1) with h | h
   ·left;exact h
   ·right;simp only[List.length_cons];omega
theorem zhb{dim pars lets:Int}{l:List Nd}(h:placeN dim pars lets l<0):∃t:Tre,t.ok∧t.flat=l∧∀x∈l,okN dim pars lets x=true:=by
 obtain⟨h1,h2⟩:=zha dim pars lets _ l 0 h
 have h3:wrongN l=-1:=by
  rcases zck l 0 0 with h | h
  ·exact h
  ·unfold wrongN at h1;omega
 obtain⟨t,h4,h5⟩:=zg9 h3
 exact⟨t,h4,h5,h2⟩
theorem zlc(dim pars lets:Int)(l:List Nd):placeN dim pars lets l=-1∨(0≤placeN dim pars lets l∧placeN dim pars lets l≤l.length):=by
 unfold placeN
 rcases zlb dim pars lets (wrongN l) l 0 with h | h
 ·rw[h]
  unfold wrongN
  rcases zck l 0 0 with h | h<;>omega
 ·right;omega
theorem zil{a:List UInt32}:(ofN (val a)).length=a.length↔a=ofN (val a):=by
 constructor
 ·intro h
  obtain⟨n,h1,h2,_⟩:=zel a
  have h3:n=a.length:=by
   have:=congrArg List.length h2
   rw[List.length_take,h]at this
   omega
  rw[h3,List.take_length]at h2
  exact h2
 ·intro h;exact(congrArg List.length h).symm
structure Lt where
 name:List UInt8
 code:List Nd
abbrev celLt(x:Lt):List AV:=[.s x.name,.sl (rowN x.code) .an]
def rowLt(l:List Lt):List (List AV):=l.map celLt
@[simp] theorem zfb(l:List Lt):(rowLt l).length=l.length:=by simp[rowLt]
@[simp] theorem zva(l:List Lt):wkL (rowLt l)=rowLt l:=by rw[zb5];simp[rowLt,wkR,wkA]
@[simp] theorem z16(l:List Lt)(i:Nat)(h:i<(rowLt l).length):(rowLt l)[i]=celLt (l[i]'(by simpa using h)):=by simp[rowLt]
theorem zp3(l:List Lt)(x:Lt):rowLt l++[celLt x]=rowLt (l++[x]):=by simp[rowLt]
@[simp] theorem zta:rowLt []=[]:=rfl
structure Fd where
 lets:List Lt
 outs:List (List Nd)
abbrev efd(f:Fd):AV:=.agg [.sl (rowLt f.lets) .an,.sl (rowC f.outs) .an]
def codesD(f:Fd):List (List Nd):=f.lets.map (·.code)++f.outs
abbrev tyN:Ty:=.cons (.int .i64) (.cons (.int .i64) (.cons (.sl (.int .u32)) .nil))
abbrev tyL:Ty:=.cons .str (.cons (.sl tyN) .nil)
abbrev tyD:Ty:=.cons (.sl tyL) (.cons (.sl (.sl tyN)) .nil)
theorem z1v{cs:List AV}(h:Ok tyN cs):∃x:Nd,wkR cs=celN x:=by
 obtain⟨c1,c1',rfl,⟨a,rfl,_⟩,c2,c2',rfl,⟨b,rfl,_⟩,c3,c3',rfl,⟨els,f,rfl,_,_,he⟩,rfl⟩:=h
 obtain⟨l,rfl⟩:=zny els he
 exact⟨⟨a,b,l⟩,by simp[wkA,wkR]⟩
theorem zkv:∀(els:List (List AV)),(∀r∈els,Ok tyN r)→∃l:List Nd,wkL els=rowN l
 | [],_=>⟨[],rfl⟩
 | r::els,h=>by
  obtain⟨l,hl⟩:=zkv els fun r hr=>h r (List.mem_cons_of_mem _ hr)
  obtain⟨x,hx⟩:=z1v (h r List.mem_cons_self)
  refine⟨x::l,?_⟩
  simp only[wkL,hx,hl]
  rfl
theorem zh3{cs:List AV}(h:Ok (.sl tyN) cs):∃l:List Nd,wkR cs=[.sl (rowN l) .an]:=by
 obtain⟨els,f,rfl,_,_,he⟩:=h
 obtain⟨l,hl⟩:=zkv els he
 exact⟨l,by simp[wkR,wkA,hl]⟩
theorem zh4:∀(els:List (List AV)),(∀r∈els,Ok (.sl tyN) r)→∃l:List (List Nd),wkL els=rowC l
 | [],_=>⟨[],rfl⟩
 | r::els,h=>by
  obtain⟨l,hl⟩:=zh4 els fun r hr=>h r (List.mem_cons_of_mem _ hr)
  obtain⟨x,hx⟩:=zh3 (h r List.mem_cons_self)
  refine⟨x::l,?_⟩
  simp only[wkL,hx,hl]
  rfl
theorem zkw:∀(els:List (List AV)),(∀r∈els,Ok tyL r)→∃l:List Lt,wkL els=rowLt l
 | [],_=>⟨[],rfl⟩
 | r::els,h=>by
  obtain⟨l,hl⟩:=zkw els fun r hr=>h r (List.mem_cons_of_mem _ hr)
  obtain⟨c1,c1',hr,⟨s,rfl,_⟩,c2,c2',rfl,h2,rfl⟩:=h r List.mem_cons_self
  obtain⟨x,hx⟩:=zh3 h2
  refine⟨⟨s,x⟩::l,?_⟩
  subst hr
  simp only[wkL,zo5,hx,hl]
  rfl
theorem zr7{x:AV}(h:OkArg (true,tyD) x):∃f:Fd,wkA x=efd f:=by
 obtain⟨cs,rfl,c1,c1',rfl,⟨els,f,rfl,_,_,he⟩,c2,c2',rfl,⟨els2,f2,rfl,_,_,he2⟩,rfl⟩:=h
 obtain⟨l,hl⟩:=zkw els he
 obtain⟨m,hm⟩:=zh4 els2 he2
 refine⟨⟨l,m⟩,?_⟩
 simp[wkA,wkR,hl,hm]
abbrev tyIn:Ty:=.cons (.sl tyF) (.cons (.int .i64) .nil)
end Go.Ab
section
namespace Go.Proofs.YtfgfjicelfagcabGreatDoor
open Go Go.Ab Go.ChangeShapes Go.WideShapes Go.ChangeAt Go.RowKit
theorem Tryz.own:ownKnob Tryz.prog.godebug=none:=by kernel_rfl
theorem Tryz.laidOut:laidOutB Tryz.prog=true:=by kernel_rfl
theorem Tryz.mixed:Tryz.prog.follows .mixedOrders=true:=by kernel_rfl
theorem Tryz.rowed:mapsRowed Tryz.prog=true:=by kernel_rfl
theorem Tryz.heard:Tryz.prog.stopsHeard=true:=by kernel_rfl
theorem Tryz.enters:Tryz.prog.mayEnter=true:=by kernel_rfl
theorem Tryz.keys:Tryz.prog.plainKeys=Rows.plainOutsRow.plainKeys:=by kernel_rfl
theorem Tryz.lifts:Tryz.prog.liftsFinal=Rows.plainOutsRow.lifted:=by kernel_rfl
theorem Tryz.makes:Tryz.prog.make=some Rows.plainOutsRow.make:=by kernel_rfl
def laid2:List (String×DataW Unit):=[("unicode/utf8.acceptRanges",Rows.laid_unicode_utf8_acceptRanges),("unicode/utf8.first",Rows.laid_unicode_utf8_first)]
noncomputable def laidWorld(os:Os):World:=
 let put (h:Array Obj) (g:Nat) (cs:Array Value):Array Obj:=h.modify g fun
  | .cells _ t frozen=>.cells cs t frozen
  | o=>o
 let w0:=World.holding Tryz.prog os ⟨#[],#[],[]⟩
 let h1:=put w0.heap 1 (Lib.firstTab.map fun z=>Value.int .u8 z).toArray
 let h2:=put h1 2 ((List.range 16).flatMap fun i=>[Value.int .u8 (Lib.accLo i),Value.int .u8 (Lib.accHi i)]).toArray
 { w0 with heap:=h2 }
theorem laid_met(os:Os)(args:Array Value):laidMetH Tryz.prog laid2 ((laidWorld os).forCall (fun _ _=>0) ⟨#[],args,[]⟩).memory:=
 laidMetH_of_parts3 (fuel:=8) (laidMet_of_run' 8 (by kernel_rfl) (by kernel_rfl)) (by kernel_rfl) (by kernel_rfl)
theorem laid_shaped(os:Os):(laidWorld os).Shaped Tryz.prog:=World.shaped_of_RefB (by kernel_rfl) (by kernel_rfl)
theorem tab_all:TOk Tryz.prog nu (fun u=>lTab.lookup u):=lTab_ok (text_ok Tryz.mixed) (sign_ok)
end Go.Proofs.YtfgfjicelfagcabGreatDoor
end
namespace Go.Ab
section
variable{T:Tbl}[CTree T]
theorem ze1(op:Int):callF T 76 [.i .i64 op]=some (.i .i64 (arN op)):=by
 rw[f76 _ rfl,b76]
 by_cases h:1≤op∧op≤11
 ·rcases(show op=1∨op=2∨op=3∨op=4∨op=5∨op=6∨op=7∨op=8∨op=9∨op=10∨op=11 by omega) with rfl | rfl | rfl | rfl | rfl | rfl | rfl | rfl | rfl | rfl | rfl<;>simp -implicitDefEqProofs[arN]
 ·have e:arN op=-1:=by rcases zbc op with h1 | h1 | h1 | h1<;>omega
  have h1:op≠1:=by omega
  have h2:op≠2:=by omega
  have h3:op≠3:=by omega
  have h4:op≠4:=by omega
  have h5:op≠5:=by omega
  have h6:op≠6:=by omega
  have h7:op≠7:=by omega
  have h8:op≠8:=by omega
  have h9:op≠9:=by omega
  have h10:op≠10:=by omega
  have h11:op≠11:=by omega
  rw[e]
  simp -implicitDefEqProofs[h1,h2,h3,h4,h5,h6,h7,h8,h9,h10,h11]
def stWr(l:List Nd)(p:Nat×Int):St:=⟨[(0,.sl (rowN l) .an),(3,.i .i64 p.2),(7,.sl (rowN l) .an),(8,.i .i64 l.length),(9,.i .i64 p.1)],[],2⟩
theorem zgy(l:List Nd)(hl:l.length≤4294967296):∀p:Nat×Int,(p.1≤l.length∧0≤p.2∧p.2≤p.1)→loopN T 0 0 (.norm false [0,3]) l74_0 (stWr l p) =
  match goL p.1 p.2 (l.drop p.1) with
  | (some k,_)=>some (.r,⟨[(2,.i .i64 (k:Nat))],[],2⟩)
  | (none,o)=>some (.n,⟨[(0,.sl (rowN l) .an),(3,.i .i64 o)],[],2⟩):=by
 refine zan (stWr l) _ (fun p=>l.length-p.1) _ ?_
 rintro⟨i,o⟩ ⟨hi,ho,ho2⟩
 dsimp only at *
 by_cases h:i<l.length
 ·have hg:l[i]? = some (l[i]'h):=List.getElem?_eq_getElem h
  have hd:l.drop i=l[i]'h::l.drop (i+1):=List.drop_eq_getElem_cons h
  have ca:=ze1 (T:=T) (l[i]'h).op
  have h':(i:Int)<l.length:=by omega
  have hws:=zal h (by omega)
  rw[hd,goL]
  generalize hx:l[i]'h=x at *
  clear hd
  rcases zbc x.op with ⟨e,_⟩ | ⟨e,_⟩ | ⟨e,_⟩ | ⟨e,_⟩
  ·left
   rw[e]at ca ⊢
   have hw:IntKind.wrap .i64 (o+1)=o+1:=zac _ (by omega)
   refine⟨(i+1,o+1),⟨by omega,by omega,by dsimp only;omega⟩,by dsimp only;omega,?_,?_⟩
   ·unfold stWr
    simp -implicitDefEqProofs[l74_0,h,h',hg,hx,hws,ca,hw,ho]
   ·rw[if_neg (by omega)]
    simp
  ·rw[e]at ca ⊢
   by_cases hc:o<1
   ·right
    rw[if_pos (by omega)]
    unfold stWr
    constructor<;>simp -implicitDefEqProofs[l74_0,h,h',hg,hx,ca,hc]
   ·left
    have hw:IntKind.wrap .i64 o=o:=zac _ (by omega)
    refine⟨(i+1,o),⟨by omega,by omega,by dsimp only;omega⟩,by dsimp only;omega,?_,?_⟩
    ·unfold stWr
     simp -implicitDefEqProofs[l74_0,h,h',hg,hx,hws,ca,hw,hc]
    ·rw[if_neg (by omega)]
     simp
  ·rw[e]at ca ⊢
   by_cases hc:o<2
   ·right
    rw[if_pos (by omega)]
    unfold stWr
    constructor<;>simp -implicitDefEqProofs[l74_0,h,h',hg,hx,ca,hc]
   ·left
    have hw:IntKind.wrap .i64 (o + -1)=o-1:=zac _ (by omega)
    refine⟨(i+1,o-1),⟨by omega,by omega,by dsimp only;omega⟩,by dsimp only;omega,?_,?_⟩
    ·unfold stWr
     simp -implicitDefEqProofs[l74_0,h,h',hg,hx,hws,ca,hw,hc]
    ·rw[if_neg (by omega)]
     dsimp only
     rw[show o+1-2=o-1 by omega]
  ·right
   rw[e]at ca ⊢
   rw[if_pos (by omega)]
   unfold stWr
   constructor<;>simp -implicitDefEqProofs[l74_0,h,h',hg,hx,ca]
 ·have:i=l.length:=by omega
  subst this
  right
  rw[List.drop_length,goL]
  unfold stWr
  constructor<;>simp -implicitDefEqProofs[l74_0]
theorem zie(l:List Nd)(hl:l.length≤4294967296):callF T 74 [.sl (rowN l) .an]=some (.i .i64 (wrongN l)):=by
 have hlo:=zgy (T:=T) l hl (0,0) ⟨Nat.zero_le _,by decide,by decide⟩
 have hw:=zg8 l 0 0
 unfold wrongN
 rw[hw]
 unfold stWr at hlo
 simp only[List.drop_zero,Int.natCast_zero]at hlo
 rw[f74 _ rfl,b74]
 generalize goL 0 0 l=G at *
 obtain⟨_ | k,o⟩:=G
 ·dsimp only at hlo ⊢
  by_cases h:o=1
  ·subst h
   simp -implicitDefEqProofs[hlo]
  ·simp -implicitDefEqProofs[hlo,h]
 ·dsimp only at hlo ⊢
  simp -implicitDefEqProofs[hlo]
theorem zpv(l:List Nd)(hl:l.length≤4294967296):callF T 44 [.sl (rowN l) .an]=some (.b (decide (wrongN l=-1))):=by
 have c:=zie (T:=T) l hl
 have e:decide (wrongN l<0)=decide (wrongN l=-1):=by
  rcases zck l 0 0 with h | h
  ·unfold wrongN;rw[h];rfl
  ·have:¬ wrongN l<0:=by unfold wrongN;omega
   have h2:¬ wrongN l=-1:=by omega
   rw[decide_eq_false this,decide_eq_false h2]
 rw[f44 _ rfl,b44,←e]
 generalize wrongN l=w at *
 simp -implicitDefEqProofs[c]
theorem zdx(i m:Int):callF T 108 [.i .i64 i,.i .i64 m]=some (.b (belB i m)):=by
 rw[f108 _ rfl,b108]
 unfold belB
 by_cases h:0≤i
 ·by_cases h2:i<m<;>simp -implicitDefEqProofs[h,h2]
 ·simp -implicitDefEqProofs[h]
variable[CLimb T][CNat T][CText T][CLenD T]
theorem lenD(n:Nat)(h:(ofN n).length≤1000):callF T 129 [.sl (u32s (ofN n)) .an]=some (.i .i64 (textN n).length):=by
 have c:callF T 68 [.sl (u32s (ofN n)) .an]=some (.s (textN n)):=by
  rw[p68,zs9 _ (by omega),ze2]
 rw[f129 _ rfl,b129]
 generalize ofN n=N at *
 simp -implicitDefEqProofs[c]
theorem zk2(n:List UInt32)(hn:n.length≤1000):callF T 107 [.sl (u32s n) .an]=some (.b (wordsB n)):=by
 have c1:=zn1 (T:=T) n (by omega)
 unfold wordsB
 by_cases h:n=ofN (val n)
 ·have c2:=lenD (T:=T) (val n) (by rw[←h];exact hn)
  rw[←h]at c1 c2
  rw[decide_eq_true h]
  rw[f107 _ rfl,b107]
  generalize (textN (val n)).length=L at *
  by_cases h2:L≤60
  ·have h2':(L:Int)≤60:=by omega
   simp -implicitDefEqProofs[c1,c2,h2,h2']
  ·have h2':¬ (L:Int)≤60:=by omega
   simp -implicitDefEqProofs[c1,c2,h2,h2']
 ·have h2:¬ ((ofN (val n)).length:Int)=n.length:=fun hh=>h (zil.1 (by omega))
  have h3:¬ (ofN (val n)).length=n.length:=fun hh=>h (zil.1 hh)
  rw[decide_eq_false h]
  rw[f107 _ rfl,b107]
  generalize ofN (val n)=N at *
  simp -implicitDefEqProofs[c1,h2,h3]
theorem zpw(x:Nd)(dim pars lets:Int)(hn:x.n.length≤1000):callF T 75 [.agg (celN x),.i .i64 dim,.i .i64 pars,.i .i64 lets]=some (.b (okN dim pars lets x)):=by
 have c1:=zk2 (T:=T) x.n hn
 have c3:=zdx (T:=T) x.i dim
 have c4:=zdx (T:=T) x.i pars
 have c5:=zdx (T:=T) x.i lets
 have ca:=ze1 (T:=T) x.op
 obtain⟨op,i,n⟩:=x
 dsimp only at *
 rw[f75 _ rfl,b75]
 unfold okN
 dsimp only
 generalize wordsB n=W at *
 generalize belB i dim=B3 at *
 generalize belB i pars=B4 at *
 generalize belB i lets=B5 at *
 by_cases h1:op=1
 ·subst h1
  by_cases hi:i=0
  ·subst hi
   simp -implicitDefEqProofs[c1]
  ·simp -implicitDefEqProofs[hi]
 rw[if_neg h1]
 by_cases hne:n=[]
 ·subst hne
  by_cases h3:op=3
  ·subst h3;simp -implicitDefEqProofs[c3]
  by_cases h4:op=4
  ·subst h4;simp -implicitDefEqProofs[c4]
  by_cases h5:op=5
  ·subst h5;simp -implicitDefEqProofs[c5]
  by_cases h11:op=11
  ·subst h11
   by_cases ha:-8≤i
   ·by_cases hb:i≤8<;>simp -implicitDefEqProofs[ha,hb]
   ·simp -implicitDefEqProofs[ha]
  by_cases hi:i=0
  ·subst hi
   rcases zbc op with ⟨e,h⟩ | ⟨e,h⟩ | ⟨e,h⟩ | ⟨e,h⟩
   ·rw[e]at ca
    have g1:¬ op<1:=by omega
    have g2:¬ 11<op:=by omega
    simp -implicitDefEqProofs[h1,h3,h4,h5,h11,ca,g1,g2]
   ·rw[e]at ca
    have g1:¬ op<1:=by omega
    have g2:¬ 11<op:=by omega
    simp -implicitDefEqProofs[h1,h3,h4,h5,h11,ca,g1,g2]
   ·rw[e]at ca
    have g1:¬ op<1:=by omega
    have g2:¬ 11<op:=by omega
    simp -implicitDefEqProofs[h1,h3,h4,h5,h11,ca,g1,g2]
   ·rw[e]at ca
    simp -implicitDefEqProofs[h1,h3,h4,h5,h11,ca,h]
  ·have hb:(if (([]:List UInt32)≠[]∨op<1∨11<op) then false else if op=3 then B3 else if op=4 then B4 else if op=5 then B5 else if op=11 then decide (-8≤i)&&decide (i≤8) else decide (i=0))=false:=by
    split
    ·rfl
    ·exact decide_eq_false hi
   rw[hb]
   simp -implicitDefEqProofs[h1,h3,h4,h5,h11,hi]
 ·have hp:0<n.length:=List.length_pos_iff.2 hne
  rw[if_pos (.inl hne)]
  simp -implicitDefEqProofs[h1,hp,hne]
def stPl(l:List Nd)(dim pars lets w:Int)(i:Nat):St:=⟨[(1,.i .i64 dim),(2,.i .i64 pars),(3,.i .i64 lets),(9,.i .i64 w),(14,.sl (rowN l) .an),(15,.i .i64 l.length),(16,.i .i64 i)],[],2⟩
theorem zfg(l:List Nd)(dim pars lets w:Int)(hl:l.length≤4294967296)(hn:∀x∈l,x.n.length≤1000)(hw:w<0∨(w:Int)≤l.length):loopN T 0 0 (.norm false [9]) l46_0 (stPl l dim pars lets w 0) =
  match findL dim pars lets w 0 l with
  | some k=>some (.r,⟨[(8,.i .i64 (k:Nat))],[],2⟩)
  | none=>some (.n,⟨[(9,.i .i64 w)],[],2⟩):=by
 have e0:l.drop 0=l:=rfl
 rw[←e0]
 refine zaj (stPl l dim pars lets w) l.length (fun i=>match findL dim pars lets w i (l.drop i) with
  | some k=>some (.r,⟨[(8,.i .i64 (k:Nat))],[],2⟩)
  | none=>some (.n,⟨[(9,.i .i64 w)],[],2⟩)) (fun i hi=>?_) ?_
 ·have hg:l[i]? = some (l[i]'hi):=List.getElem?_eq_getElem hi
  have hd:l.drop i=l[i]'hi::l.drop (i+1):=List.drop_eq_getElem_cons hi
  have cn:=zpw (T:=T) (l[i]'hi) dim pars lets (hn _ (List.getElem_mem hi))
  have hi':(i:Int)<l.length:=by omega
  have hws:=zal hi (by omega)
  generalize hx:l[i]'hi=x at *
  rw[hd,findL]
  clear hd
  by_cases h1:(i:Int)=w
  ·right
   rw[if_pos (.inl h1)]
   subst h1
   unfold stPl
   constructor<;>simp -implicitDefEqProofs[l46_0,hi,hi',hg,hx]
  ·generalize okN dim pars lets x=B at *
   cases B with
   | false=>
    right
    rw[if_pos (.inr rfl)]
    unfold stPl
    constructor<;>simp -implicitDefEqProofs[l46_0,hi,hi',hg,hx,h1,cn]
   | true=>
    left
    refine⟨?_,by rw[if_neg (by simp[h1])]⟩
    unfold stPl
    simp -implicitDefEqProofs[l46_0,hi,hi',hg,hx,h1,cn,hws]
 ·rw[List.drop_length,findL]
  unfold stPl
  constructor<;>simp -implicitDefEqProofs[l46_0]
theorem zmv(l:List Nd)(dim pars lets:Int)(hl:l.length≤4294967296)(hn:∀x∈l,x.n.length≤1000):callF T 46 [.sl (rowN l) .an,.i .i64 dim,.i .i64 pars,.i .i64 lets]=some (.i .i64 (placeN dim pars lets l)):=by
 have cw:=zie (T:=T) l hl
 have hlo:=zfg (T:=T) l dim pars lets (wrongN l) hl hn (by
  rcases zck l 0 0 with h | h
  ·left;unfold wrongN;omega
  ·right;unfold wrongN;omega)
 unfold stPl at hlo
 simp only[Int.natCast_zero]at hlo
 have hf:=zd1 dim pars lets (wrongN l) l 0
 unfold placeN
 rw[hf]
 rw[f46 _ rfl,b46]
 generalize wrongN l=w at *
 generalize findL dim pars lets w 0 l=F at *
 cases F with
 | none=>
  dsimp only at hlo ⊢
  simp -implicitDefEqProofs[cw,hlo]
 | some k=>
  dsimp only at hlo ⊢
  simp -implicitDefEqProofs[cw,hlo]
end
def joinN(op:Int)(l:List (List Nd)):List Nd:=l.flatten++[⟨op,0,[]⟩]
def kNd(n:Int):List Nd:=[⟨1,0,if n=0 then [] else [w32 n.toNat]⟩]
def powN(a:List Nd)(e:Int):List Nd:=a++[⟨11,e,[]⟩]
def timesN(op:Int)(d o:List Nd)(first:Bool):List Nd:=if d=[] then [] else if first then joinN op [d,o] else joinN op [o,d]
def bothN(op:Int)(a b:List Nd):List Nd:=if b=[] then a else if a≠[] then joinN op [a,b] else if op=8 then joinN 6 [b] else b
def oneN(x:Nd)(a da:List Nd):List Nd:=
 if da=[]∨(x.op=11∧x.i=0) then [] else if x.op=6 then joinN 6 [da]
 else if 0<x.i then joinN 9 [joinN 9 [kNd x.i,powN a (x.i-1)],da]
 else joinN 6 [joinN 10 [joinN 9 [joinN 9 [kNd (-x.i),powN a x.i],da],a]]
def lowN(d b o:List Nd):List Nd:=if timesN 9 d o false=[] then [] else joinN 10 [timesN 9 d o false,joinN 9 [b,b]]
def twoN(op:Int)(a da b db:List Nd):List Nd:=
 if op=9 then bothN 7 (timesN 9 da b true) (timesN 9 db a false)
 else if op=10 then bothN 8 (timesN 10 da b true) (lowN db b a)
 else bothN op da db
def Tre.der(u:Nd):Tre→List Nd
 | .leaf x=>if x.op=u.op∧x.i=u.i then kNd 1 else []
 | .un x a=>oneN x a.flat (a.der u)
 | .bin x a b=>twoN x.op a.flat (a.der u) b.flat (b.der u)
def catN(a b:List Nd)(op i:Int):List Nd:=a++b++[⟨op,i,[]⟩]
def thin(w:Nat)(l:List Nd):Prop:=∀x∈l,x.n.length≤w
def pushT(s:List Tre)(x:Nd):List Tre:=
 if arN x.op=0 then .leaf x::s else
  match s with
  | []=>[]
  | a::s1=>if arN x.op=1 then .un x a::s1 else
   match s1 with
   | []=>[]
   | b::s2=>.bin x b a::s2
abbrev Pc:=List Nd×List Nd
def pcs(u:Nd)(s:List Tre):List Pc:=s.reverse.map fun t=>(t.flat,t.der u)
def lenP(l:List Pc):Nat:=(l.map fun p=>p.1.length).sum
def dps(l:List Nat):List (List AV):=l.map fun n=>[.i .i64 (n:Nat)]
@[simp] theorem zzb(l:List Nat):(dps l).length=l.length:=by simp[dps]
@[simp] theorem z11(l:List Nat):wkL (dps l)=dps l:=by rw[zb5];simp[dps,wkR,wkA]
@[simp] theorem zaab(l:List Nat)(i:Nat)(h:i<(dps l).length):(dps l)[i]=[.i .i64 (l[i]'(by simp_all):Nat)]:=by simp[dps]
@[simp] theorem z5e(l:List Nat)(n:Nat):(dps l).take n=dps (l.take n):=by simp[dps]
@[simp] theorem zxf:dps []=[]:=rfl
theorem zu2{m:List Nat}{n:Nat}(x:Nat):wkL (dps (List.take n m)++[[.i .i64 (x:Nat)]])=dps (List.take n m++[x]):=by
 grind[dps,z11]
def depE(s:List Nat)(x:Nd):List Nat:=if arN x.op=0 then 1::s else if arN x.op=1 then (s.headD 0+1)::s.tail else (max (s.headD 0) (s.tail.headD 0)+1)::s.tail.tail
def depS:List Nat→List Nd→List Nat
 | s,[]=>s
 | s,x::r=>depS (depE s x) r
def depN(l:List Nd):Nat:=if wrongN l=-1 then (depS [] l).headD 0 else 0
theorem zek:∀(t:Tre),t.ok→∀(s:List Nat) (r:List Nd),depS s (t.flat++r)=depS (t.deep::s) r
 | .leaf x,h,s,r=>by
  have e:arN x.op=0:=h
  show depS (depE s x) r=_
  unfold depE
  rw[if_pos e];rfl
 | .un x a,h,s,r=>by
  have e:arN x.op=1:=h.1
  rw[Tre.flat,List.append_assoc,zek a h.2]
  show depS (depE _ x) r=_
  unfold depE
  rw[if_neg (by omega),if_pos e];rfl
 | .bin x a b,h,s,r=>by
  have e:arN x.op=2:=h.1
  rw[Tre.flat,List.append_assoc,zek a h.2.1,List.append_assoc,zek b h.2.2]
  show depS (depE _ x) r=_
  unfold depE
  rw[if_neg (by omega),if_neg (by omega)]
  show depS ((max b.deep a.deep+1)::s) r=depS ((max a.deep b.deep+1)::s) r
  rw[Nat.max_comm]
theorem zs2{t:Tre}(h:t.ok):depN t.flat=t.deep:=by
 unfold depN
 rw[if_pos (zm0 h)]
 have:=zek t h [] []
 rw[List.append_nil]at this
 rw[this];rfl
theorem zgz{m:List (List Nd)}{n:Nat}(h:m.length=n)(x:List Nd):wkL (rowC (List.take n m)++[[.sl (rowN x) .an]])=rowC (m++[x]):=by
 rw[List.take_of_length_le (by omega),zep,zmz]
@[simp] theorem z12(l:List (List Nd))(n:Nat):(rowC l).take n=rowC (l.take n):=by simp[rowC]
section
variable{T:Tbl}[CTree T][CTree2 T]
theorem zg0(l:List Nd)(hl:l.length≤4294967295)(hn:thin 1000 l):callF T 483 [.sl (rowN l) .an]=some (.sl (rowN l) .an):=by
 have hlo:loopN T 0 0 (.norm false [3]) l483_0 ⟨[(3,.bs (.loc 3) 1 3 0 0),(6,.sl (rowN l) .an),(7,.i .i64 l.length),(8,.i .i64 0)],[(.loc 3,⟨1,.own,3,[]⟩)],3⟩ =
   some (.n,⟨[(3,.bs (.loc 3) 1 3 0 l.length)],[(.loc 3,⟨1,.own,3,rowN l⟩)],3⟩):=by
  have:=zae (T:=T) (k:=0) (id:=0) (g2:=.norm false [3]) (c:=l483_0) (fun i=>⟨[(3,.bs (.loc 3) 1 3 0 i),(6,.sl (rowN l) .an),(7,.i .i64 l.length),(8,.i .i64 (i:Int))],[(.loc 3,⟨1,.own,3,rowN (l.take i)⟩)],3⟩) l.length
   (some (.n,⟨[(3,.bs (.loc 3) 1 3 0 l.length)],[(.loc 3,⟨1,.own,3,rowN l⟩)],3⟩)) (fun i hi=>?_) ?_
  ·simp_all
  ·have hi':(i:Int)<l.length:=by omega
   have hws:=zal hi (by omega)
   have hs:l.take (i+1)=l.take i++[l[i]'hi]:=by simp_all
   have hp:=zg7 (n:=i) (show (l.take i).length=i by grind) (l[i]'hi)
   have hle:i≤(l.take i).length:=by grind
   have h32:i+1≤4294967296:=by omega
   have hth:=hn _ (List.getElem_mem hi)
   rw[hs]
   generalize hx:l[i]'hi=x at *
   generalize l.take i=m at *
   obtain⟨op,j,n⟩:=x
   dsimp only at hth
   have hn32:n.length≤4294967296:=by omega
   simp -implicitDefEqProofs[l483_0,hi,hi',hx,hws,hp,hle,h32,hn32]
  ·constructor<;>simp -implicitDefEqProofs[l483_0]
 rw[f483 _ rfl,b483]
 simp -implicitDefEqProofs[hlo]
def thinD(w n:Nat)(f:Fd):Prop:=∀c∈codesD f,c.length≤n∧thin w c
theorem zpx(f:Fd)(h1:f.lets.length≤100000)(h2:f.outs.length≤100000)(hn:thinD 1000 4294967295 f):callF T 493 [efd f]=some (.sl (rowC (codesD f)) .an):=by
 obtain⟨L,O⟩:=f
 dsimp only at h1 h2
 have hL:loopN T 0 0 (.norm false [1,3]) l493_0 ⟨[(1,.ptr (.loc 1) 1 2 0 0),(3,.bs (.loc 3) 2 1 0 0),(9,.sl (rowLt L) .an),(10,.i .i64 L.length),(11,.i .i64 0)],[(.loc 1,⟨1,.str,2,[[.sl (rowLt L) .an,.sl (rowC O) .an]]⟩),(.loc 3,⟨2,.own,1,[]⟩)],4⟩ =
   some (.n,⟨[(1,.ptr (.loc 1) 1 2 0 0),(3,.bs (.loc 3) 2 1 0 L.length)],[(.loc 1,⟨1,.str,2,[[.sl (rowLt L) .an,.sl (rowC O) .an]]⟩),(.loc 3,⟨2,.own,1,rowC (L.map (·.code))⟩)],4⟩):=by
  have:=zae (T:=T) (k:=0) (id:=0) (g2:=.norm false [1,3]) (c:=l493_0) (fun i=>⟨[(1,.ptr (.loc 1) 1 2 0 0),(3,.bs (.loc 3) 2 1 0 i),(9,.sl (rowLt L) .an),(10,.i .i64 L.length),(11,.i .i64 (i:Int))],[(.loc 1,⟨1,.str,2,[[.sl (rowLt L) .an,.sl (rowC O) .an]]⟩),(.loc 3,⟨2,.own,1,rowC ((L.take i).map (·.code))⟩)],4⟩) L.length
   (some (.n,⟨[(1,.ptr (.loc 1) 1 2 0 0),(3,.bs (.loc 3) 2 1 0 L.length)],[(.loc 1,⟨1,.str,2,[[.sl (rowLt L) .an,.sl (rowC O) .an]]⟩),(.loc 3,⟨2,.own,1,rowC (L.map (·.code))⟩)],4⟩)) (fun i hi=>?_) ?_
  ·simp_all
  ·have hi':(i:Int)<L.length:=by omega
   have hws:=zal hi (by omega)
   have hs:(L.take (i+1)).map (·.code)=(L.take i).map (·.code)++[(L[i]'hi).code]:=by grind[List.take_succ_eq_append_getElem]
   have hml:((L.take i).map (·.code)).length=i:=by grind
   have hp:=zgz (n:=i) hml (L[i]'hi).code
   have hle:i≤((L.take i).map (·.code)).length:=by omega
   have h32:i+1≤4294967296:=by omega
   obtain⟨hc1,hc2⟩:=hn (L[i]'hi).code (List.mem_append.2 (.inl (List.mem_map.2 ⟨_,List.getElem_mem hi,rfl⟩)))
   have cc:=zg0 (T:=T) (L[i]'hi).code hc1 hc2
   rw[hs]
   generalize hx:L[i]'hi=x at *
   generalize (L.take i).map (·.code)=m at *
   obtain⟨nm,code⟩:=x
   simp -implicitDefEqProofs[l493_0,hi,hi',hx,hws,hp,hle,h32,cc]
  ·constructor<;>simp -implicitDefEqProofs[l493_0]
 have hO:loopN T 0 2 (.norm false [3]) l493_1 ⟨[(3,.bs (.loc 3) 1 1 0 L.length),(23,.sl (rowC O) .an),(24,.i .i64 O.length),(25,.i .i64 0)],[(.loc 3,⟨1,.own,1,rowC (L.map (·.code))⟩)],3⟩ =
   some (.n,⟨[(3,.bs (.loc 3) 1 1 0 (L.length+O.length:Nat))],[(.loc 3,⟨1,.own,1,rowC (L.map (·.code)++O)⟩)],3⟩):=by
  have:=zae (T:=T) (k:=0) (id:=2) (g2:=.norm false [3]) (c:=l493_1) (fun i=>⟨[(3,.bs (.loc 3) 1 1 0 (L.length+i:Nat)),(23,.sl (rowC O) .an),(24,.i .i64 O.length),(25,.i .i64 (i:Int))],[(.loc 3,⟨1,.own,1,rowC (L.map (·.code)++O.take i)⟩)],3⟩) O.length
   (some (.n,⟨[(3,.bs (.loc 3) 1 1 0 (L.length+O.length:Nat))],[(.loc 3,⟨1,.own,1,rowC (L.map (·.code)++O)⟩)],3⟩)) (fun i hi=>?_) ?_
  ·grind
  ·have hi':(i:Int)<O.length:=by omega
   have hws:=zal hi (by omega)
   have hs:L.map (·.code)++O.take (i+1)=(L.map (·.code)++O.take i)++[O[i]'hi]:=by simp_all
   have hml:(L.map (·.code)++O.take i).length=L.length+i:=by grind
   have hp:=zgz hml (O[i]'hi)
   have hle:L.length+i≤(L.map (·.code)++O.take i).length:=by omega
   have h32:L.length+i+1≤4294967296:=by omega
   obtain⟨hc1,hc2⟩:=hn (O[i]'hi) (List.mem_append.2 (.inr (List.getElem_mem hi)))
   have cc:=zg0 (T:=T) (O[i]'hi) hc1 hc2
   have hw2:L.length+(i+1)=L.length+i+1:=by omega
   rw[hs,hw2]
   generalize hx:O[i]'hi=x at *
   generalize L.map (·.code)++O.take i=m at *
   simp -implicitDefEqProofs[l493_1,hi,hi',hx,hws,hp,hle,h32,cc]
  ·constructor<;>simp -implicitDefEqProofs[l493_1]
 unfold codesD
 have hM:(L.map (·.code)).length=L.length:=List.length_map _
 rw[f493 _ rfl,b493]
 simp -implicitDefEqProofs[hL,hO]
 grind
theorem zif{l:List (List Nd)}(i:Nat):((l.take i).map List.length).sum≤(l.map List.length).sum:=by
 grind[List.take_append_drop]
def sizeD(f:Fd):Nat:=((codesD f).map List.length).sum
theorem zs3(f:Fd)(h1:f.lets.length≤100000)(h2:f.outs.length≤100000)(hn:thinD 1000 4294967295 f)(hs:sizeD f≤4294967295):callF T 491 [efd f]=some (.i .i64 (sizeD f)):=by
 have c:=zpx (T:=T) f h1 h2 hn
 have hlen:(codesD f).length≤200000:=by grind[codesD]
 unfold sizeD at *
 obtain⟨L,O⟩:=f
 generalize codesD ⟨L,O⟩=M at *
 have hlo:loopN T 0 0 (.norm false [3]) l491_0 ⟨[(3,.i .i64 0),(7,.sl (rowC M) .an),(8,.i .i64 M.length),(9,.i .i64 0)],[],2⟩ =
   some (.n,⟨[(3,.i .i64 ((M.map List.length).sum:Nat))],[],2⟩):=by
  have:=zae (T:=T) (k:=0) (id:=0) (g2:=.norm false [3]) (c:=l491_0) (fun i=>⟨[(3,.i .i64 (((M.take i).map List.length).sum:Nat)),(7,.sl (rowC M) .an),(8,.i .i64 M.length),(9,.i .i64 (i:Int))],[],2⟩) M.length
   (some (.n,⟨[(3,.i .i64 ((M.map List.length).sum:Nat))],[],2⟩)) (fun i hi=>?_) ?_
  ·grind
  ·have hi':(i:Int)<M.length:=by omega
   have hws:=zal hi (by omega)
   have hs1:((M.take (i+1)).map List.length).sum=((M.take i).map List.length).sum+(M[i]'hi).length:=by grind[List.take_succ_eq_append_getElem]
   have hle:=zif (l:=M) (i+1)
   have hw:IntKind.wrap .i64 ((((M.take i).map List.length).sum:Nat)+(M[i]'hi).length)=((((M.take i).map List.length).sum+(M[i]'hi).length:Nat):Int):=by rw[zac _ (by omega)];omega
   rw[hs1]
   generalize hx:M[i]'hi=x at *
   generalize ((M.take i).map List.length).sum=k at *
   simp -implicitDefEqProofs[l491_0,hi,hi',hx,hws,hw]
  ·constructor<;>simp -implicitDefEqProofs[l491_0]
 rw[f491 _ rfl,b491]
 simp -implicitDefEqProofs[c,hlo]
def mxT(F:List Nat)(k:Nat):Nat→Nat
 | 0=>0
 | j+1=>max (mxT F k j) (F.getD (k-j-1) 0)
def stDi(l:List Nd)(F:List Nat)(i k a j:Nat):St:=⟨[(3,.bs (.loc 3) 1 1 0 (k-j)),(6,.i .i64 (mxT F k j:Nat)),(10,.sl (rowN l) .an),(11,.i .i64 l.length),(12,.i .i64 i),(18,.i .i64 a),(19,.i .i64 j)],[(.loc 3,⟨1,.own,1,dps F⟩)],3⟩
theorem zs4(F:List Nat)(k w:Nat)(h:∀n∈F,n≤w):∀j,mxT F k j≤w
 | 0=>Nat.zero_le _
 | j+1=>by
  have h1:=zs4 F k w h j
  have h2:F.getD (k-j-1) 0≤w:=by
   rw[List.getD_eq_getElem?_getD]
   cases hg:F[k-j-1]? with
   | none=>grind
   | some x=>exact h x (List.mem_of_getElem? hg)
  exact Nat.max_le.2 ⟨h1,h2⟩
theorem z13(l:List Nd)(F:List Nat)(i k a:Nat)(ha:a≤k)(hk:k≤F.length)(hF:∀n∈F,n≤100000)(hkk:k≤100000) :
  loopN T 0 2 (.norm false [3,6,10,11,12]) l492_0 (stDi l F i k a 0) =
   some (.n,⟨[(3,.bs (.loc 3) 1 1 0 (k-a)),(6,.i .i64 (mxT F k a:Nat)),(10,.sl (rowN l) .an),(11,.i .i64 l.length),(12,.i .i64 i)],[(.loc 3,⟨1,.own,1,dps F⟩)],3⟩):=by
 refine zae (T:=T) (stDi l F i k a) a _ (fun j hj=>?_) ?_
 ·have hq:k-j=(k-j-1)+1:=by omega
  have hq2:k-(j+1)=k-j-1:=by omega
  have hlt:k-j-1<F.length:=by omega
  have hg:F[k-j-1]? = some (F.getD (k-j-1) 0):=by grind
  have hge:F[k-j-1]'hlt=F.getD (k-j-1) 0:=by grind
  have hmx:=zs4 F k 100000 hF j
  have hws:=zal hj (by omega)
  have hj':(j:Int)<a:=by omega
  have hmm:mxT F k (j+1)=max (mxT F k j) (F.getD (k-j-1) 0):=rfl
  unfold stDi
  rw[hq2,hq,hmm]
  generalize F.getD (k-j-1) 0=v at *
  generalize mxT F k j=m at *
  clear hF
  generalize k-j-1=q at *
  have hw:IntKind.wrap .i64 (q:Int)=q:=zac _ (by omega)
  have h1:(q:Int)<(q:Int)+1:=by omega
  have h2:(q:Int)≤(q:Int)+1:=by omega
  clear hq hq2 hmm
  simp -implicitDefEqProofs[l492_0,hj',hge,hlt,hws,hw,h1,h2]
  omega
 ·unfold stDi
  constructor<;>simp -implicitDefEqProofs[l492_0]
theorem zjd{F:List Nat}{a:Nat}{r:List Nat}(h:F.take (a::r).length=(a::r).reverse):F.take r.length=r.reverse∧F.getD r.length 0=a∧r.length<F.length:=by
 grind[List.length_reverse,List.take_succ_eq_append_getElem,List.append_inj']
def stDo(l:List Nd)(F:List Nat)(k i:Nat):St:=⟨[(3,.bs (.loc 3) 1 1 0 k),(10,.sl (rowN l) .an),(11,.i .i64 l.length),(12,.i .i64 i)],[(.loc 3,⟨1,.own,1,dps F⟩)],3⟩
theorem zs5(l:List Nd)(hl:l.length≤50000)(F s:List Nat)(i:Nat)(hi:i<l.length)(h1:F.take s.length=s.reverse)(h2:s.length≤F.length)(h3:s.length≤i)(h4:∀n∈F,n≤i)(ha0:0≤arN (l[i]'hi).op)(ha:arN (l[i]'hi).op≤s.length) :
  ∃F':List Nat,(F'.take (depE s (l[i]'hi)).length=(depE s (l[i]'hi)).reverse∧(depE s (l[i]'hi)).length≤F'.length∧∀n∈F',n≤i+1)∧evX (orc T) T 0 l492_1 (stDo l F s.length i)=some (.n,stDo l F' (depE s (l[i]'hi)).length (i+1)):=by
 have ca:=ze1 (T:=T) (l[i]'hi).op
 have hi':(i:Int)<l.length:=by omega
 have hws:=zal hi (by omega)
 generalize hx:l[i]'hi=x at *
 obtain⟨a,hea⟩:∃a:Nat,arN x.op=a:=⟨(arN x.op).toNat,by omega⟩
 have hak:a≤s.length:=by omega
 have hin:=z13 (T:=T) l F i s.length a hak h2 (fun n hn=>Nat.le_trans (h4 n hn) (by omega)) (by omega)
 have hm1:mxT F s.length a≤i:=zs4 F s.length i h4 a
 -- the stack behind the node
 obtain⟨s',hs',hde⟩:∃s':List Nat,(F.take s'.length=s'.reverse∧s'.length=s.length-a)∧depE s x=(mxT F s.length a+1)::s':=by
  unfold depE
  rcases zbc x.op with ⟨e,_⟩ | ⟨e,_⟩ | ⟨e,_⟩ | ⟨e,_⟩
  ·have:a=0:=by omega
   subst this
   rw[if_pos e]
   exact⟨s,⟨h1,rfl⟩,rfl⟩
  ·have:a=1:=by omega
   subst this
   rw[if_neg (by omega),if_pos e]
   cases s with
   | nil=>grind
   | cons u r=>
    obtain⟨t1,t2,t3⟩:=zjd h1
    refine⟨r,⟨t1,by simp⟩,?_⟩
    show (u+1)::r=(max 0 (F.getD (r.length+1-0-1) 0)+1)::r
    grind
  ·have:a=2:=by omega
   subst this
   rw[if_neg (by omega),if_neg (by omega)]
   cases s with
   | nil=>grind
   | cons u r=>
    obtain⟨t1,t2,t3⟩:=zjd h1
    cases r with
    | nil=>grind
    | cons v q=>
     obtain⟨w1,w2,w3⟩:=zjd t1
     refine⟨q,⟨w1,by simp⟩,?_⟩
     show (max u v+1)::q=(max (max 0 (F.getD (q.length+1+1-0-1) 0)) (F.getD (q.length+1+1-1-1) 0)+1)::q
     grind
  omega
 rw[hde]
 generalize mxT F s.length a=v at *
 obtain⟨hs1,hs2⟩:=hs'
 have hle:s'.length≤F.length:=by omega
 refine⟨F.take s'.length++[v+1],⟨?_,?_,?_⟩,?_⟩
 ·rw[List.length_cons,List.take_of_length_le (by grind),hs1,List.reverse_cons]
 ·grind
 ·grind
 ·have hp:=zu2 (m:=F) (n:=s'.length) (v+1)
  rw[hea]at ca
  rw[←hs2]at hin
  have hwv:IntKind.wrap .i64 ((v:Int)+1)=((v+1:Nat):Int):=zac _ (by omega)
  have h32:s'.length+1≤4294967296:=by omega
  unfold stDi at hin
  unfold stDo
  simp only[mxT,Nat.sub_zero,Int.natCast_zero]at hin
  obtain⟨op,j,n⟩:=x
  simp -implicitDefEqProofs[l492_1,hi,hi',hx,hws,hle,h32,ca,hin,hwv]
  grind
theorem zn4(hl:True):∀(l:List Nd) (i:Nat) (s:List Nat),wrongL i s.length l=-1→(depS s l).length=1
 | [],i,s,h=>by
  unfold wrongL at h
  by_cases h1:(s.length:Int)=1
  ·show s.length=1;omega
  ·omega
 | x::r,i,s,h=>by
  unfold wrongL at h
  by_cases h1:arN x.op<0∨(s.length:Int)<arN x.op
  ·omega
  ·rw[if_neg h1]at h
   refine zn4 hl r (i+1) (depE s x) ?_
   rw[←h]
   congr 1
   unfold depE
   rcases zbc x.op with ⟨e,_⟩ | ⟨e,_⟩ | ⟨e,_⟩ | ⟨e,_⟩
   ·rw[if_pos e,e];simp
   ·rw[if_neg (by omega),if_pos e,e,List.length_cons,List.length_tail];omega
   ·rw[if_neg (by omega),if_neg (by omega),e,List.length_cons,List.length_tail,List.length_tail];omega
   ·omega
theorem zu3{s:List Nat}{x:Nd}(h0:0≤arN x.op)(h1:arN x.op≤s.length):((depE s x).length:Int)=s.length+1-arN x.op:=by
 grind[depE,zbc]
theorem zpy(l:List Nd)(hl:l.length≤50000):callF T 492 [.sl (rowN l) .an]=some (.i .i64 (depN l)):=by
 have c:=zpv (T:=T) l (by omega)
 by_cases hw:wrongN l=-1
 ·rw[decide_eq_true hw]at c
  have e:depN l=(depS [] l).headD 0:=by unfold depN;grind
  have hone:=zn4 trivial l 0 [] hw
  have hlo:∃r,(∃F:List Nat,F[0]? = some ((depS [] l).headD 0)∧r=(Ex.n,(⟨[(3,.bs (.loc 3) 1 1 0 1)],[(.loc 3,⟨1,.own,1,dps F⟩)],3⟩:St)))∧loopN T 0 0 (.norm false [3]) l492_1 (stDo l [] 0 0)=some r:=by
   refine zeh (fun p:Nat×List Nat×List Nat=>stDo l p.2.2 p.2.1.length p.1)
    (fun p=>p.1≤l.length∧p.2.2.take p.2.1.length=p.2.1.reverse∧p.2.1.length≤p.2.2.length∧p.2.1.length≤p.1∧(∀n∈p.2.2,n≤p.1)∧(∃j,wrongL j p.2.1.length (l.drop p.1)=-1)∧depS p.2.1 (l.drop p.1)=depS [] l)
    (fun p=>l.length-p.1) _ ?_ (0,[],[]) ⟨Nat.zero_le _,rfl,Nat.le_refl _,Nat.le_refl _,by simp,⟨0,hw⟩,rfl⟩
   rintro⟨i,s,F⟩ ⟨hi,h1,h2,h3,h4,⟨j,h5⟩,h6⟩
   by_cases hlt:i<l.length
   ·left
    have hd:l.drop i=l[i]'hlt::l.drop (i+1):=List.drop_eq_getElem_cons hlt
    rw[hd]at h5 h6
    have hc:¬ (arN (l[i]'hlt).op<0∨(s.length:Int)<arN (l[i]'hlt).op):=by
     grind[wrongL]
    unfold wrongL at h5
    have ha0:0≤arN (l[i]'hlt).op:=by omega
    have ha1:arN (l[i]'hlt).op≤s.length:=by omega
    obtain⟨F',⟨g1,g2,g3⟩,g4⟩:=zs5 (T:=T) l hl F s i hlt h1 h2 h3 h4 ha0 ha1
    have hln:=zu3 ha0 ha1
    refine⟨(i+1,depE s (l[i]'hlt),F'),⟨by omega,g1,g2,by grind,g3,⟨j+1,?_⟩,h6⟩,by omega,g4⟩
    grind
   ·right
    have hil:i=l.length:=by omega
    subst hil
    rw[List.drop_length]at h5 h6
    have hs:depS s []=s:=rfl
    rw[hs]at h6
    subst h6
    obtain⟨a,ha⟩:∃a,depS [] l=[a]:=List.length_eq_one_iff.1 hone
    rw[ha]at h1 h2 ⊢
    have hF0:F[0]? = some a:=by
     grind
    refine⟨_,⟨F,hF0,rfl⟩,?_⟩
    unfold stDo
    clear h4 h1
    constructor<;>simp -implicitDefEqProofs[l492_1]
  obtain⟨_,⟨F,hF,rfl⟩,hlo⟩:=hlo
  rw[e]
  unfold stDo at hlo
  simp only[Int.natCast_zero,zxf]at hlo
  obtain⟨hlt,hge⟩:=List.getElem?_eq_some_iff.1 hF
  rw[f492 _ rfl,b492]
  simp -implicitDefEqProofs[c,hlo,hge,hlt]
 ·rw[decide_eq_false hw]at c
  have e:depN l=0:=by unfold depN;grind
  rw[e,f492 _ rfl,b492]
  simp -implicitDefEqProofs[c]
end
section
variable{T:Tbl}[CJoin T][CLex T]
theorem zkx(c:UInt8):callF T 185 [u8 c.toNat]=some (.b (isD c)):=by
 rw[f185 _ rfl,b185]
 by_cases h1:48≤c.toNat
 ·simp -implicitDefEqProofs[isD,h1]
 ·simp -implicitDefEqProofs[isD,h1]
theorem zh6(c:UInt8):callF T 186 [u8 c.toNat]=some (.b (isL c)):=by
 rw[f186 _ rfl,b186]
 by_cases h1:97≤c.toNat<;>by_cases h2:c.toNat≤122<;>by_cases h3:65≤c.toNat<;>by_cases h4:c.toNat≤90<;>by_cases h5:c.toNat=95 <;>
  simp -implicitDefEqProofs[isL,h1,h2,h3,h4,h5]
theorem zun(c:UInt8):callF T 187 [u8 c.toNat]=some (.b (isS c)):=by rw[p187,zp5]
theorem zuo(c:UInt8):callF T 177 [u8 c.toNat]=some (.i .i64 (kindN c)):=by
 have h1:=zkx (T:=T) c
 have h2:=zh6 (T:=T) c
 have h3:=zun (T:=T) c
 rw[f177 _ rfl,b177]
 cases e1:isD c<;>cases e2:isL c<;>cases e3:isS c<;>simp -implicitDefEqProofs[kindN,h1,h2,h3,e1,e2,e3]
theorem zup(k:Nat)(c:UInt8):callF T 188 [.i .i64 k,u8 c.toNat]=some (.b (moreN k c)):=by
 have h1:=zkx (T:=T) c
 have h2:=zh6 (T:=T) c
 rw[f188 _ rfl,b188]
 by_cases k1:k=1
 ·subst k1
  cases e1:isD c<;>cases e2:isL c<;>simp -implicitDefEqProofs[moreN,h1,e1,e2]
 ·have k1':¬ (k:Int)=1:=by omega
  by_cases k2:k=2
  ·subst k2
   cases e1:isD c<;>cases e2:isL c<;>simp -implicitDefEqProofs[moreN,h1,h2,e1,e2]
  ·have k2':¬ (k:Int)=2:=by omega
   simp -implicitDefEqProofs[moreN,k1,k2,k1',k2']
theorem zuq(k:Nat):callF T 179 [.i .i64 k]=some (.i .i64 (mostN k)):=by
 rw[f179 _ rfl,b179]
 by_cases k1:k=1
 ·subst k1
  simp -implicitDefEqProofs[mostN]
 ·have k1':¬ (k:Int)=1:=by omega
  by_cases k2:k=2
  ·subst k2
   simp -implicitDefEqProofs[mostN]
  ·have k2':¬ (k:Int)=2:=by omega
   simp -implicitDefEqProofs[mostN,k1,k2,k1',k2']
theorem zpc(s:List UInt8)(hs:s.length≤1000000)(k F:Nat):∀n:Nat,(n≤s.length∧n+((s.drop n).takeWhile (moreN k)).length=F) →
  loopN T 0 0 (.norm false [5]) l178_0 ⟨[(0,.s s),(1,.i .i64 k),(5,.i .i64 n)],[],2⟩=some (.n,⟨[(5,.i .i64 F)],[],2⟩):=by
 refine zan (fun n:Nat=>⟨[(0,.s s),(1,.i .i64 k),(5,.i .i64 n)],[],2⟩) _ (fun n=>s.length-n) _ ?_
 rintro n ⟨hn,hF⟩
 by_cases h0:n<s.length
 ·have hd:=List.drop_eq_getElem_cons h0
  have hgo:=zup (T:=T) k (s[n]'h0)
  have hw:IntKind.wrap .i64 ((n:Int)+1)=((n+1:Nat):Int):=zac _ (by omega)
  by_cases hc:moreN k (s[n]'h0)=true
  ·left
   rw[hd,List.takeWhile_cons_of_pos hc]at hF
   refine⟨n+1,⟨h0,by grind⟩,by omega,?_,rfl⟩
   simp -implicitDefEqProofs[l178_0,h0,hgo,hc,hw]
  ·right
   rw[hd,List.takeWhile_cons_of_neg hc]at hF
   subst hF
   constructor<;>simp -implicitDefEqProofs[l178_0,h0,hgo,hc]
 ·right
  have:n=s.length:=by omega
  subst this
  rw[List.drop_length]at hF
  subst hF
  constructor<;>simp -implicitDefEqProofs[l178_0]
theorem zsb(c:UInt8)(r:List UInt8)(hs:r.length≤100000)(k:Nat):callF T 178 [.s (c::r),.i .i64 k]=some (.i .i64 (firstN k r)):=by
 have h:=zpc (T:=T) (c::r) (by grind) k (firstN k r) 1 ⟨by simp,rfl⟩
 rw[f178 _ rfl,b178]
 simp_all
theorem zgp(c:UInt8)(n:Nat)(hn:n<256):c=UInt8.ofNat n↔c.toNat=n:=by
 constructor
 ·simp_all
 ·intro h;subst h;simp
theorem zxb(c:UInt8):isB c=(decide (c.toNat=32) || decide (c.toNat=9) || decide (c.toNat=10) || decide (c.toNat=13)):=by
 have e (n:Nat) (hn:n<256):decide (c=UInt8.ofNat n)=decide (c.toNat=n):=decide_eq_decide.2 (zgp c n hn)
 unfold isB
 rw[show (32:UInt8)=UInt8.ofNat 32 from rfl,show (9:UInt8)=UInt8.ofNat 9 from rfl,show (10:UInt8)=UInt8.ofNat 10 from rfl,show (13:UInt8)=UInt8.ofNat 13 from rfl,e 32 (by decide),e 9 (by decide),e 10 (by decide),e 13 (by decide)]
def wdR(w:Wd):List AV:=[.i .i64 w.1,.s w.2.1,.i .i64 w.2.2]
def rowsW(l:List Wd):List (List AV):=l.map wdR
@[simp] theorem zc7(l:List Wd):(rowsW l).length=l.length:=by simp[rowsW]
@[simp] theorem zct(l:List Wd):wkL (rowsW l)=rowsW l:=by
 induction l with
 | nil=>rfl
 | cons x l ih=>simpa[rowsW,wdR,wkL,wkR]using ih
@[simp] theorem zei(l:List Wd):((rowsW l).flatMap fun r=>r.flatMap rfA)=[]:=by
 induction l with
 | nil=>rfl
 | cons x l ih=>
  have e:rowsW (x::l)=wdR x::rowsW l:=rfl
  rw[e,List.flatMap_cons,ih]
  simp[wdR,rfA]
theorem zh7(l:List Wd)(k a:Nat)(t:List UInt8):wkL (List.take l.length (rowsW l)++[[AV.i .i64 k,.s t,.i .i64 a]])=rowsW (l++[(k,t,a)]):=by
 rw[List.take_of_length_le (by simp),show rowsW l++[[AV.i .i64 k,.s t,.i .i64 a]]=rowsW (l++[(k,t,a)]) by simp[rowsW,wdR],zct]
def stScL(s:List UInt8)(i:Nat)(acc:List Wd):St:=
 ⟨[(0,.s s),(3,.ptr (.loc 3) 1 4 0 0),(4,.bs (.loc 4) 2 3 0 acc.length),(5,.i .i64 i)],[(.loc 3,⟨1,.str,4,[[.i .i64 0,.i .i64 0,.i .i64 0,.i .i64 0]]⟩),(.loc 4,⟨2,.own,3,rowsW acc⟩)],4⟩
def resSc:Except Nat (List Wd)→Option (Ex×St)
 | .ok ws=>some (.n,⟨[(3,.ptr (.loc 3) 1 4 0 0),(4,.bs (.loc 4) 2 3 0 ws.length)],[(.loc 3,⟨1,.str,4,[[.i .i64 0,.i .i64 0,.i .i64 0,.i .i64 0]]⟩),(.loc 4,⟨2,.own,3,rowsW ws⟩)],4⟩)
 | .error e=>some (.r,⟨[(2,.sl [] .an),(3,.ptr (.loc 3) 1 4 0 0)],[(.loc 3,⟨1,.str,4,[[.i .i64 1,.i .i64 0,.i .i64 0,.i .i64 e]]⟩)],3⟩)
def ansScan(r:Except Nat (List Wd)):AV:=
 match r with
 | .ok ws=>.tup [.sl (rowsW ws) .an,.agg [.i .i64 0,.i .i64 0,.i .i64 0,.i .i64 0]]
 | .error e=>.tup [.sl [] .an,.agg [.i .i64 1,.i .i64 0,.i .i64 0,.i .i64 e]]
def scanT(s:List UInt8):Except Nat (List Wd):=if 4000<s.length then .error 4000 else scanL (s.drop (skipC false s)) (skipC false s) []
def rightB(k:Int)(t:List UInt8):Bool:=
 match t with
 | []=>false
 | c::r=>decide (k≠0)&&decide ((kindN c:Int)=k)&&decide (firstN (kindN c) r=r.length+1)&&decide (r.length+1≤mostN (kindN c))
theorem zsc(k a:Int)(t:List UInt8)(ht:t.length≤100000):callF T 172 [.agg [.i .i64 k,.s t,.i .i64 a]]=some (.b (rightB k t)):=by
 rw[f172 _ rfl,b172]
 cases t with
 | nil=>simp -implicitDefEqProofs[rightB]
 | cons c r=>
  simp only[List.length_cons]at ht
  have hk:=zuo (T:=T) c
  have hf:=zsb (T:=T) c r (by omega) (kindN c)
  have hm:=zuq (T:=T) (kindN c)
  by_cases h0:k=0
  ·simp -implicitDefEqProofs[rightB,h0]
  ·by_cases h1:(kindN c:Int)=k
   ·subst h1
    have h0':¬ kindN c=0:=by omega
    by_cases h2:firstN (kindN c) r=r.length+1
    ·by_cases h3:r.length+1≤mostN (kindN c)
     ·have h3':(r.length:Int)+1≤(mostN (kindN c):Nat):=by omega
      simp -implicitDefEqProofs[rightB,h0',hk,hf,hm,h2,h3,h3']
     ·have h3':¬ (r.length:Int)+1≤(mostN (kindN c):Nat):=by omega
      simp -implicitDefEqProofs[rightB,h0',hk,hf,hm,h2,h3,h3']
    ·have h2':¬ ((firstN (kindN c) r:Nat):Int)=(r.length:Int)+1:=by omega
     simp -implicitDefEqProofs[rightB,h0',hk,hf,h2,h2']
   ·simp -implicitDefEqProofs[rightB,h0,hk,h1]
abbrev Wz:=Int×List UInt8×Int
def wzR(w:Wz):List AV:=[.i .i64 w.1,.s w.2.1,.i .i64 w.2.2]
def rowsZ(l:List Wz):List (List AV):=l.map wzR
def stTe(l:List Wz)(i:Nat)(b:BId):St:=
 ⟨[(3,.bs (.loc 3) 1 1 0 i),(6,.sl (rowsZ l) .an),(7,.i .i64 l.length),(8,.i .i64 i)],[(.loc 3,⟨1,.own,1,rowsT ((l.take i).map (·.2.1))⟩)],3⟩
end
def nameB(s:List UInt8):Bool:=rightB 2 s&&decide (s≠[116])&&decide (s≠[121])&&decide (s≠[112])&&decide (s≠[108,101,116])
def twB(l:List Lt)(nm:List UInt8):Bool:=l.any fun x=>decide (x.name=nm)
def ptA(dim pars lets:Int)(c:List Nd):Int:=if placeN dim pars lets c<0∧40<depN c then c.length else placeN dim pars lets c
def chkL(dim pars:Int)(L:List Lt):Nat→List Lt→Option (Int×Int×Int)
 | _,[]=>none
 | i,x::r=>if nameB x.name=false∨twB (L.take i) x.name=true then some ((i:Int)+1,1,0) else if 0≤ptA dim pars i x.code then some ((i:Int)+1,0,ptA dim pars i x.code) else chkL dim pars L (i+1) r
def chkO(dim pars:Int)(n:Nat):Nat→List (List Nd)→Option (Int×Int×Int)
 | _,[]=>none
 | i,c::r=>if 0≤ptA dim pars n c then some (((n+i:Nat):Int)+1,0,ptA dim pars n c) else chkO dim pars n (i+1) r
def whB(f:Fd)(dim pars:Int):Bool:=decide (1≤dim∧dim≤6∧0≤pars∧pars≤6∧(f.outs.length:Int)=dim∧f.lets.length≤10∧sizeD f≤300)
def chkD(f:Fd)(dim pars:Int):Option (Int×Int×Int):=
 if whB f dim pars=false then some (0,0,0) else match chkL dim pars f.lets 0 f.lets with
  | some q=>some q
  | none=>chkO dim pars f.lets.length 0 f.outs
theorem zdc{α:Type}{motive:List α→Prop}(nil:motive [])(append_singleton:∀(l:List α) (x:α),motive l→motive (l++[x]))(l:List α):motive l:=by
 have key:∀l:List α,motive l.reverse:=by
  intro l
  induction l with
  | nil=>exact nil
  | cons x l ih=>rw[List.reverse_cons];exact append_singleton _ x ih
 rw[←List.reverse_reverse l]
 exact key _
def inE(E:List (List Nd))(c:List Nd):List Nd:=c.flatMap fun x=>if x.op=5 then (E[x.i.toNat]?).getD [] else [x]
def tabE(L:List (List Nd)):List (List Nd):=L.foldl (fun E c=>E++[inE E c]) []
def refB(b:Nat)(c:List Nd):Prop:=∀x∈c,x.op=5→0≤x.i∧x.i<b
theorem zxi(E:List (List Nd)):inE E []=[]:=rfl
theorem zjf(E:List (List Nd))(x:Nd)(c:List Nd):inE E (x::c)=(if x.op=5 then (E[x.i.toNat]?).getD [] else [x])++inE E c:=by simp[inE]
theorem zg3(E:List (List Nd))(c d:List Nd):inE E (c++d)=inE E c++inE E d:=by simp[inE]
theorem zmx(E:List (List Nd))(x:Nd):inE E [x]=if x.op=5 then (E[x.i.toNat]?).getD [] else [x]:=by simp[inE]
theorem zth{E E':List (List Nd)}{b:Nat}{c:List Nd}(hc:refB b c)(h:∀i,i<b→E[i]? = E'[i]?):inE E c=inE E' c:=by
 induction c with
 | nil=>rfl
 | cons x c ih=>
  rw[zjf,zjf,ih fun y hy=>hc y (List.mem_cons_of_mem _ hy)]
  congr 1
  by_cases hx:x.op=5
  ·have:=hc x List.mem_cons_self hx
   rw[if_pos hx,if_pos hx,h _ (by omega)]
  ·rw[if_neg hx,if_neg hx]
theorem refB.mono{b b':Nat}{c:List Nd}(h:refB b c)(hb:b≤b'):refB b' c:=fun x hx ho=>by have:=h x hx ho;omega
def refT(L:List (List Nd)):Prop:=∀(i:Nat) (c:List Nd),L[i]? = some c→refB i c
theorem zeo(L:List (List Nd))(c:List Nd):tabE (L++[c])=tabE L++[inE (tabE L) c]:=by simp[tabE]
theorem zb8(L:List (List Nd)):(tabE L).length=L.length:=by
 induction L using zdc with
 | nil=>rfl
 | append_singleton L c ih=>rw[zeo];simp[ih]
theorem zn8{L:List (List Nd)}(hL:refT L):∀(i:Nat) (c:List Nd),L[i]? = some c→(tabE L)[i]? = some (inE (tabE L) c):=by
 induction L using zdc with
 | nil=>intro i c h;simp at h
 | append_singleton L c0 ih=>
  have hL':refT L:=fun i c h=>hL i c (by rw[List.getElem?_append_left (by have:=(List.getElem?_eq_some_iff.1 h).1;omega)];exact h)
  intro i c h
  have hr:=hL i c h
  rw[zeo]
  have key:∀d,refB L.length d→inE (tabE L) d=inE (tabE L++[inE (tabE L) c0]) d:=fun d hd=>zth hd fun j hj=>by
   rw[List.getElem?_append_left (by rw[zb8];exact hj)]
  rcases Nat.lt_trichotomy i L.length with h1 | h1 | h1
  ·rw[List.getElem?_append_left h1]at h
   rw[List.getElem?_append_left (by rw[zb8];exact h1),ih hL' i c h,key c (hr.mono (by omega))]
  ·subst h1
   simp at h
   subst h
   rw[List.getElem?_append_right (by rw[zb8];exact Nat.le_refl _),zb8,Nat.sub_self,←key c0 hr]
   rfl
  ·have:=(List.getElem?_eq_some_iff.1 h).1
   simp at this
   omega
def noLet(c:List Nd):Prop:=∀x∈c,x.op≠5
theorem zn9{w:Nat}{E:List (List Nd)}(hE:∀d∈E,thin w d){c:List Nd}(hc:thin w c):thin w (inE E c):=by
 induction c with
 | nil=>intro x hx;cases hx
 | cons y c ih=>
  rw[zjf]
  intro x hx
  rcases List.mem_append.1 hx with h | h
  ·by_cases ho:y.op=5
   ·rw[if_pos ho]at h
    cases he:E[y.i.toNat]? with
    | none=>rw[he]at h;cases h
    | some d=>rw[he]at h;exact hE d (List.mem_of_getElem? he) x h
   ·rw[if_neg ho,List.mem_singleton]at h
    rw[h];exact hc y List.mem_cons_self
  ·exact ih (fun z hz=>hc z (List.mem_cons_of_mem _ hz)) x h
theorem zti{w:Nat}{L:List (List Nd)}(hL:∀c∈L,thin w c):∀d∈tabE L,thin w d:=by
 induction L using zdc with
 | nil=>intro d hd;cases hd
 | append_singleton L c ih=>
  have ih:=ih fun d hd=>hL d (List.mem_append_left _ hd)
  rw[zeo]
  intro d hd
  rcases List.mem_append.1 hd with h | h
  ·exact ih d h
  ·rw[List.mem_singleton]at h
   rw[h];exact zn9 ih (hL c (by simp))
def szC(S:List Nat)(c:List Nd):Nat:=c.foldl (fun n x=>min (n+if x.op=5 then (S[x.i.toNat]?).getD 0 else 1) 1201) 0
def szT(L:List (List Nd)):List Nat:=L.foldl (fun S c=>S++[szC S c]) []
theorem zfk(L:List (List Nd))(c:List Nd):szT (L++[c])=szT L++[szC (szT L) c]:=by simp[szT]
theorem ze4(L:List (List Nd)):(szT L).length=L.length:=by
 induction L using zdc with
 | nil=>rfl
 | append_singleton L c ih=>rw[zfk];simp[ih]
theorem zjg(S:List Nat)(c:List Nd)(x:Nd):szC S (c++[x])=min (szC S c+if x.op=5 then (S[x.i.toNat]?).getD 0 else 1) 1201:=by simp[szC]
theorem ztj{S:List Nat}{E:List (List Nd)}(h:∀i:Nat,(S[i]?).getD 0=min ((E[i]?).getD []).length 1201)(c:List Nd):szC S c=min (inE E c).length 1201:=by
 induction c using zdc with
 | nil=>rfl
 | append_singleton c x ih=>
  rw[zjg,ih,zg3,zmx,List.length_append]
  by_cases ho:x.op=5
  ·rw[if_pos ho,if_pos ho,h];omega
  ·rw[if_neg ho,if_neg ho];simp;omega
theorem zxj(L:List (List Nd)):∀i:Nat,((szT L)[i]?).getD 0=min (((tabE L)[i]?).getD []).length 1201:=by
 induction L using zdc with
 | nil=>intro i;simp[szT,tabE]
 | append_singleton L c ih=>
  intro i
  rw[zfk,zeo]
  have h1:=ze4 L
  have h2:=zb8 L
  rcases Nat.lt_trichotomy i L.length with h | h | h
  ·rw[List.getElem?_append_left (by omega),List.getElem?_append_left (by omega)];exact ih i
  ·rw[List.getElem?_append_right (by omega),List.getElem?_append_right (by omega),h1,h2,h,Nat.sub_self]
   simp only[List.getElem?_cons_zero,Option.getD_some]
   exact ztj ih c
  ·rw[List.getElem?_eq_none (by simp;omega),List.getElem?_eq_none (by simp;omega)];rfl
theorem zoa(S:List Nat)(c:List Nd):szC S c≤1201:=by
 induction c using zdc with
 | nil=>exact Nat.zero_le _
 | append_singleton c x ih=>rw[zjg];omega
def allE(E:List (List Nd))(O:List (List Nd)):Nat:=(O.map fun c=>(inE E c).length).sum
theorem zxk{S:List Nat}{E:List (List Nd)}(h:∀i:Nat,(S[i]?).getD 0=min ((E[i]?).getD []).length 1201)(O:List (List Nd)):(O.map (szC S)).sum≤1200↔allE E O≤1200:=by
 unfold allE
 have key:∀O:List (List Nd),(O.map (szC S)).sum≤(O.map fun c=>(inE E c).length).sum∧((O.map (szC S)).sum≤1200→(O.map (szC S)).sum=(O.map fun c=>(inE E c).length).sum):=by
  intro O
  induction O with
  | nil=>exact⟨Nat.le_refl _,fun _=>rfl⟩
  | cons c O ih=>
   simp only[List.map_cons,List.sum_cons]
   have:=ztj h c
   refine⟨by omega,fun hh=>?_⟩
   have:=ih.2 (by omega)
   omega
 constructor
 ·intro hh
  rw[←(key O).2 hh];exact hh
 ·intro hh
  have:=(key O).1
  omega
abbrev mkP:AV:=.ptr (.bor 0) 0 2 0 0
def memR(E:List (List Nd))(D:List Nat):List (List AV):=D.map fun(i:Nat)=>[.i .i64 (i:Int),.sl (rowN ((E[i]?).getD [])) .an]
@[simp] theorem z99(E:List (List Nd))(D:List Nat):wkL (memR E D)=memR E D:=by rw[zb5];simp[memR,wkR,wkA]
theorem zsg(E:List (List Nd))(D:List Nat)(i:Nat):memR E D++[[.i .i64 (i:Int),.sl (rowN ((E[i]?).getD [])) .an]]=memR E (D++[i]):=by simp[memR]
theorem zc8(E:List (List Nd))(i:Nat):∀D:List Nat,findE .int (.i .i64 (i:Int)) (memR E D)=some (if i∈D then some (.sl (rowN ((E[i]?).getD [])) .an) else none)
 | []=>rfl
 | j::D=>by
  have ih:=zc8 E i D
  show (keyEq .int (.i .i64 (i:Int)) (.i .i64 (j:Int))).bind _=_
  rw[zr3,if_pos rfl,Option.bind_some]
  by_cases h:i=j
  ·subst h;simp
  ·have h2:((i:Int) == (j:Int))=false:=by
    rw[beq_eq_false_iff_ne]
    omega
   rw[h2]
   simp only[Bool.false_eq_true,if_false]
   show findE .int (.i .i64 (i:Int)) (memR E D)=_
   rw[ih]
   simp[h]
def plH(L:List Lt)(E:List (List Nd))(D:List Nat):Heap:=[(.bor 0,⟨0,.str,2,[[.sl (rowLt L) .an,.fnp 0 (.bor 1) 1 2 0 0]]⟩),(.bor 1,⟨1,.mp,2,memR E D⟩)]
theorem zus{k:KTy}{id:BId}{g:Nat}{i y:AV}{h:Heap}{clk:Nat}:mupdXV k (.fnp 0 id g 2 0 0) i y h clk =
  (mapAt h id g).bind fun bx=>if (keyEq k i i).isSome&&noRef i&&noRef y&&isNew (findE k i bx.els) then some (.dead,(id,⟨g,.mp,2,bx.els++[[i,y]]⟩)::h,clk) else none:=rfl
section
variable{T:Tbl}[CPlain T]
theorem zi6(L:List Lt)(E:List (List Nd))(D:List Nat)(i:Nat)(hi:i∈D):callH T 663 [mkP,.i .i64 (i:Int)] (plH L E D)=some (.sl (rowN ((E[i]?).getD [])) .an,plH L E D):=by
 have hf:=zc8 E i D
 rw[if_pos hi]at hf
 unfold plH
 rw[f663 _ _ rfl,b663]
 simp -implicitDefEqProofs[hf]
theorem zhf(L:List Lt)(E:List (List Nd))(D D1:List Nat)(i:Nat)(x:Lt)(hi:i∉D)(hi1:i∉D1)(hx:L[i]? = some x)
  (c:callH T 664 [mkP,.sl (rowN x.code) .an] (plH L E D)=some (.sl (rowN ((E[i]?).getD [])) .an,plH L E D1)) :
  callH T 663 [mkP,.i .i64 (i:Int)] (plH L E D)=some (.sl (rowN ((E[i]?).getD [])) .an,plH L E (D1++[i])):=by
 have hf:=zc8 E i D
 have hf1:=zc8 E i D1
 have hf2:=zc8 E i (D1++[i])
 rw[if_neg hi]at hf
 rw[if_neg hi1]at hf1
 rw[if_pos (by simp)]at hf2
 have hm:=zsg E D1 i
 obtain⟨hl,hge⟩:=List.getElem?_eq_some_iff.1 hx
 have hlt:(i:Int)<L.length:=by omega
 unfold plH at *
 rw[f663 _ _ rfl,b663]
 simp -implicitDefEqProofs[hf,hf1,hf2,hm,c,hl,hlt,hx,hge,genAt,zus]
end
def stPc(L:List Lt)(E:List (List Nd))(D:List Nat)(out c:List Nd)(i:Nat):St:=
 ⟨[(0,mkP),(5,.bs (.loc 5) 5 3 0 out.length),(8,.sl (rowN c) .an),(9,.i .i64 c.length),(10,.i .i64 i)],plH L E D++[(.loc 5,⟨5,.own,3,rowN out⟩)],7⟩
section
variable{T:Tbl}[CPlain T]
theorem zmc(L:List Lt)(E:List (List Nd))(D:List Nat)(out c:List Nd)(i:Nat)(x:Nd)(hx:c[i]? = some x)(ho:x.op≠5)(hn:x.n.length≤4294967296)(hc:c.length≤4294967296)(hl:out.length+1≤4294967296) :
  evX (orc T) T 2 l664_0 (stPc L E D out c i)=some (.n,stPc L E D (out++[x]) c (i+1)):=by
 obtain⟨hlt,hge⟩:=List.getElem?_eq_some_iff.1 hx
 have hlt':(i:Int)<c.length:=by omega
 have hws:=zal hlt hc
 have hs:=zg5 out x
 obtain⟨op,xi,n⟩:=x
 dsimp only at ho hn
 unfold stPc plH
 simp -implicitDefEqProofs[l664_0,hlt,hlt',hx,hge,hws,ho,hn,hs,hl,genAt]
theorem zgq(L:List Lt)(E:List (List Nd))(D D1:List Nat)(out c d:List Nd)(i:Nat)(x:Nd)(hx:c[i]? = some x)(ho:x.op=5)(hc:c.length≤4294967296)(hl:out.length+d.length≤4294967296)
  (hcl:callH T 663 [mkP,.i .i64 x.i] (plH L E D)=some (.sl (rowN d) .an,plH L E D1)) :
  evX (orc T) T 2 l664_0 (stPc L E D out c i)=some (.n,stPc L E D1 (out++d) c (i+1)):=by
 obtain⟨hlt,hge⟩:=List.getElem?_eq_some_iff.1 hx
 have hlt':(i:Int)<c.length:=by omega
 have hws:=zal hlt hc
 have hs:=zg6 out d
 obtain⟨op,xi,n⟩:=x
 dsimp only at ho hcl
 subst ho
 unfold stPc plH at *
 simp -implicitDefEqProofs[l664_0,hlt,hlt',hx,hge,hws,hcl,hs,hl,genAt]
end
theorem zmd(E:List (List Nd))(c:List Nd)(i:Nat):(inE E (c.take i)).length≤(inE E c).length:=by
 conv=>rhs;rw[←List.take_append_drop i c,zg3,List.length_append]
 omega
theorem zi7(E:List (List Nd))(c:List Nd)(i:Nat)(x:Nd)(hx:c[i]? = some x):inE E (c.take (i+1))=inE E (c.take i)++if x.op=5 then (E[x.i.toNat]?).getD [] else [x]:=by
 rw[List.take_add_one,hx,zg3]
 simp only[Option.toList_some,zmx]
section
variable{T:Tbl}[CPlain T]
theorem zej(L:List Lt)(E:List (List Nd))(b:Nat)
  (hlet:∀i,i<b→((E[i]?).getD []).length≤100000→∀D,∃D',callH T 663 [mkP,.i .i64 (i:Int)] (plH L E D)=some (.sl (rowN ((E[i]?).getD [])) .an,plH L E D')∧∀j∈D',j∈D∨j≤i)
  (c:List Nd) (hb:refB b c) (hl:c.length≤100000) (hn:thin 100000 c) (hN:(inE E c).length≤100000) (D:List Nat) :
  ∃D',callH T 664 [mkP,.sl (rowN c) .an] (plH L E D)=some (.sl (rowN (inE E c)) .an,plH L E D')∧∀j∈D',j∈D∨j<b:=by
 have hloop:∃r,(∃D',(∀j∈D',j∈D∨j<b)∧r=((.n,⟨[(5,.bs (.loc 5) 5 3 0 (inE E c).length)],plH L E D'++[(.loc 5,⟨5,.own,3,rowN (inE E c)⟩)],7⟩):Ex×St))∧loopN T 2 0 (.norm false [5]) l664_0 (stPc L E D [] c 0)=some r:=by
  refine zeh (fun q:Nat×List Nat=>stPc L E q.2 (inE E (c.take q.1)) c q.1) (fun q=>q.1≤c.length∧∀j∈q.2,j∈D∨j<b) (fun q=>c.length-q.1) _ ?_ (0,D) ⟨Nat.zero_le _,fun j hj=>.inl hj⟩
  rintro⟨i,D1⟩ ⟨hi,hD⟩
  dsimp only at *
  by_cases hlt:i<c.length
  ·left
   have hx:c[i]? = some (c[i]'hlt):=List.getElem?_eq_getElem hlt
   have hmem:=List.getElem_mem hlt
   generalize c[i]'hlt=x at *
   have hsucc:=zi7 E c i x hx
   have h1:=zmd E c (i+1)
   rw[hsucc,List.length_append]at h1
   by_cases ho:x.op=5
   ·rw[if_pos ho]at hsucc h1
    obtain⟨h0,hxb⟩:=hb x hmem ho
    have hxi:((x.i.toNat:Nat):Int)=x.i:=by omega
    obtain⟨D2,hc,hD2⟩:=hlet x.i.toNat (by omega) (by omega) D1
    rw[hxi]at hc
    refine⟨(i+1,D2),⟨hlt,fun j hj=>?_⟩,by dsimp only;omega,?_⟩
    ·rcases hD2 j hj with h | h
     ·exact hD j h
     ·exact .inr (by omega)
    ·rw[zgq L E D1 D2 _ c _ i x hx ho (by omega) (by omega) hc,hsucc]
   ·rw[if_neg ho]at hsucc h1
    simp only[List.length_cons,List.length_nil]at h1
    refine⟨(i+1,D1),⟨hlt,hD⟩,by dsimp only;omega,?_⟩
    rw[zmc L E D1 _ c i x hx ho (by have:=hn x hmem;omega) (by omega) (by omega),hsucc]
  ·right
   have hic:i=c.length:=by omega
   subst hic
   rw[List.take_length]
   refine⟨(.n,⟨[(5,.bs (.loc 5) 5 3 0 (inE E c).length)],plH L E D1++[(.loc 5,⟨5,.own,3,rowN (inE E c)⟩)],7⟩),⟨D1,hD,rfl⟩,?_⟩
   unfold stPc plH
   constructor<;>simp -implicitDefEqProofs[l664_0,genAt]
 obtain⟨r,⟨D',hD',rfl⟩,hr⟩:=hloop
 refine⟨D',?_,hD'⟩
 unfold stPc plH at *
 rw[f664 _ _ rfl,b664]
 simp -implicitDefEqProofs at hr
 simp -implicitDefEqProofs[hr,genAt]
theorem zi8(L:List Lt)(E:List (List Nd))(hE:E=tabE (L.map (·.code)))(hL:refT (L.map (·.code)))(hn:∀x∈L,x.code.length≤100000∧thin 100000 x.code) :
  ∀b,b≤L.length→∀i,i<b→((E[i]?).getD []).length≤100000→∀D,∃D',callH T 663 [mkP,.i .i64 (i:Int)] (plH L E D)=some (.sl (rowN ((E[i]?).getD [])) .an,plH L E D')∧∀j∈D',j∈D∨j≤i:=by
 intro b
 induction b with
 | zero=>intro _ i hi;omega
 | succ b ih=>
  intro hb i hi hlen D
  by_cases hib:i<b
  ·exact ih (by omega) i hib hlen D
  have hib':i=b:=by omega
  subst hib'
  by_cases hD:i∈D
  ·exact⟨D,zi6 L E D i hD,fun j hj=>.inl hj⟩
  have hx:L[i]? = some (L[i]'(by omega)):=List.getElem?_eq_getElem _
  have hmem:=List.getElem_mem (l:=L) (n:=i) (by omega)
  generalize L[i]'(by omega)=x at *
  have hxc:(L.map (·.code))[i]? = some x.code:=by rw[List.getElem?_map,hx];rfl
  have hEi:(E[i]?).getD []=inE E x.code:=by rw[hE,zn8 hL i x.code hxc];rfl
  rw[hEi]at hlen
  obtain⟨D1,hc,hD1⟩:=zej L E i (ih (by omega)) x.code (hL i x.code hxc) (hn x hmem).1 (hn x hmem).2 hlen D
  rw[←hEi]at hc
  have hi1:i∉D1:=fun h=>by
   rcases hD1 i h with h | h
   ·exact hD h
   ·omega
  refine⟨D1++[i],zhf L E D D1 i x hD hi1 hx hc,fun j hj=>?_⟩
  rcases List.mem_append.1 hj with h | h
  ·rcases hD1 j h with h | h
   ·exact .inl h
   ·exact .inr (by omega)
  ·rw[List.mem_singleton]at h
   exact .inr (by omega)
theorem zpd(L:List Lt)(hL:refT (L.map (·.code)))(hn:∀x∈L,x.code.length≤100000∧thin 100000 x.code)(c:List Nd)(hb:refB L.length c)(hl:c.length≤100000)(hc:thin 100000 c)
  (hN:(inE (tabE (L.map (·.code))) c).length≤100000) (D:List Nat) :
  ∃D',callH T 664 [mkP,.sl (rowN c) .an] (plH L (tabE (L.map (·.code))) D)=some (.sl (rowN (inE (tabE (L.map (·.code))) c)) .an,plH L (tabE (L.map (·.code))) D'):=by
 obtain⟨D',h,_⟩:=zej L (tabE (L.map (·.code))) L.length (zi8 (T:=T) L _ rfl hL hn L.length (Nat.le_refl _)) c hb hl hc hN D
 exact⟨D',h⟩
end
def natR(S:List Nat):List (List AV):=S.map fun(n:Nat)=>[.i .i64 (n:Int)]
@[simp] theorem zdv(S:List Nat):(natR S).length=S.length:=by simp[natR]
@[simp] theorem zaaa(S:List Nat):wkL (natR S)=natR S:=by rw[zb5];simp[natR,wkR,wkA]
@[simp] theorem natR_get?(S:List Nat)(i:Nat):(natR S)[i]? = (S[i]?).map fun(n:Nat)=>[.i .i64 (n:Int)]:=by simp[natR]
@[simp] theorem z5c(S:List Nat)(i:Nat)(h:i<(natR S).length):(natR S)[i]=[.i .i64 ((S[i]'(by simpa using h):Nat):Int)]:=by simp[natR]
@[simp] theorem zut:natR []=[]:=rfl
theorem zsh(S:List Nat)(n:Nat):natR S++[[.i .i64 (n:Int)]]=natR (S++[n]):=by simp[natR]
theorem zn2(S:List Nat)(i n:Nat):(natR S).set i [.i .i64 (n:Int)]=natR (S.set i n):=by simp[natR,List.map_set]
def stPs(S:List Nat)(n:Nat)(c:List Nd)(i:Nat):St:=
 ⟨[(1,.bs (.bor 0) 0 1 0 S.length),(5,.i .i64 (n:Int)),(8,.sl (rowN c) .an),(9,.i .i64 c.length),(10,.i .i64 (i:Int))],[(.bor 0,⟨0,.own,1,natR S⟩)],4⟩
section
variable{T:Tbl}[CPlain T]
theorem zh8(S:List Nat)(c:List Nd)(hS:∀n∈S,n≤1201)(hc:c.length≤4294967296)(hn:∀x∈c,x.n.length≤4294967296)(hb:refB S.length c) :
  callH T 661 [.sl (rowN c) .an,.bs (.bor 0) 0 1 0 S.length] [(.bor 0,⟨0,.own,1,natR S⟩)]=some (.i .i64 ((szC S c:Nat):Int),[(.bor 0,⟨0,.own,1,natR S⟩)]):=by
 have hloop:loopN T 1 0 (.norm false [5]) l661_0 (stPs S 0 c 0)=some (.n,⟨[(5,.i .i64 ((szC S c:Nat):Int))],[(.bor 0,⟨0,.own,1,natR S⟩)],4⟩):=by
  have:=zae (T:=T) (k:=1) (id:=0) (g2:=.norm false [5]) (c:=l661_0) (fun i=>stPs S (szC S (c.take i)) c i) c.length
   (some (.n,⟨[(5,.i .i64 ((szC S c:Nat):Int))],[(.bor 0,⟨0,.own,1,natR S⟩)],4⟩)) (fun i hi=>?_) ?_
  ·simpa[show szC S []=0 from rfl]using this
  ·obtain⟨x,hx,hmem⟩:∃x,c[i]? = some x∧x∈c:=⟨c[i]'hi,List.getElem?_eq_getElem hi,List.getElem_mem hi⟩
   obtain⟨_,hge⟩:=List.getElem?_eq_some_iff.1 hx
   have hsn:szC S (c.take (i+1))=min (szC S (c.take i)+if x.op=5 then (S[x.i.toNat]?).getD 0 else 1) 1201:=by
    rw[List.take_add_one,hx,Option.toList_some,zjg]
   have hle:=zoa S (c.take i)
   have hlt':(i:Int)<c.length:=by omega
   have hws:=zal hi hc
   have hnx:=hn _ hmem
   have hbx:=hb _ hmem
   obtain⟨op,xi,n⟩:=x
   dsimp only at hsn hnx hbx
   by_cases ho:op=5
   ·subst ho
    obtain⟨h0,h1⟩:=hbx rfl
    obtain⟨j,rfl⟩:∃j:Nat,xi=(j:Int):=⟨xi.toNat,by omega⟩
    have hj:j<S.length:=by omega
    have hjs:S[j]? = some (S[j]'hj):=List.getElem?_eq_getElem hj
    have hjm:=hS _ (List.getElem_mem hj)
    rw[if_pos rfl,Int.toNat_natCast,hjs,Option.getD_some]at hsn
    generalize hv:S[j]'hj=v at *
    generalize szC S (c.take i)=m at *
    have hw:IntKind.wrap .i64 ((m:Int)+(v:Int))=(m:Int)+(v:Int):=zac _ (by omega)
    rw[hsn]
    unfold stPs
    by_cases hmv:m+v≤1201
    ·have hmn:min (m+v) 1201=m+v:=by omega
     have hm2:¬ ((1201:Int)<(m:Int)+(v:Int)):=by omega
     simp -implicitDefEqProofs[l661_0,hi,hlt',hx,hge,hws,hj,hjs,hv,hw,h1,mm2,hmn,hm2]
    ·have hmn:min (m+v) 1201=1201:=by omega
     have hm2:((1201:Int)<(m:Int)+(v:Int)):=by omega
     simp -implicitDefEqProofs[l661_0,hi,hlt',hx,hge,hws,hj,hjs,hv,hw,h1,mm2,hmn,hm2]
   ·rw[if_neg ho]at hsn
    generalize szC S (c.take i)=m at *
    have hw:IntKind.wrap .i64 ((m:Int)+1)=(m:Int)+1:=zac _ (by omega)
    rw[hsn]
    unfold stPs
    by_cases hmv:m+1≤1201
    ·have hmn:min (m+1) 1201=m+1:=by omega
     have hm2:¬ ((1201:Int)<(m:Int)+1):=by omega
     simp -implicitDefEqProofs[l661_0,hi,hlt',hx,hge,hws,ho,hw,mm2,hmn,hm2,hnx]
    ·have hmn:min (m+1) 1201=1201:=by omega
     have hm2:((1201:Int)<(m:Int)+1):=by omega
     simp -implicitDefEqProofs[l661_0,hi,hlt',hx,hge,hws,ho,hw,mm2,hmn,hm2,hnx]
  ·rw[List.take_length]
   unfold stPs
   constructor<;>simp -implicitDefEqProofs[l661_0]
 unfold stPs at hloop
 rw[f661 _ _ rfl,b661]
 simp -implicitDefEqProofs at hloop
 simp -implicitDefEqProofs[hloop]
end
theorem zvv(L:List (List Nd)):∀n∈szT L,n≤1201:=by
 induction L using zdc with
 | nil=>intro n hn;cases hn
 | append_singleton L c ih=>
  rw[zfk]
  intro n hn
  rcases List.mem_append.1 hn with h | h
  ·exact ih n h
  ·rw[List.mem_singleton]at h
   rw[h];exact zoa _ _
def stPf(f:Fd)(i:Nat):St:=
 ⟨[(1,.ptr (.loc 1) 1 2 0 0),(3,.bs (.loc 3) 2 1 0 i),(10,.sl (rowLt f.lets) .an),(11,.i .i64 f.lets.length),(12,.i .i64 (i:Int))],
  [(.loc 1,⟨1,.str,2,[[.sl (rowLt f.lets) .an,.sl (rowC f.outs) .an]]⟩),(.loc 3,⟨2,.own,1,natR (szT ((f.lets.take i).map (·.code)))⟩)],4⟩
def stPg(S:List Nat)(O:List (List Nd))(i:Nat):St:=
 ⟨[(3,.bs (.loc 3) 1 1 0 S.length),(6,.i .i64 ((((O.take i).map (szC S)).sum:Nat):Int)),(25,.sl (rowC O) .an),(26,.i .i64 O.length),(27,.i .i64 (i:Int))],
  [(.loc 3,⟨1,.own,1,natR S⟩)],3⟩
section
variable{T:Tbl}[CPlain T]
theorem zme(f:Fd)(h1:f.lets.length≤100000)(hL:refT (f.lets.map (·.code)))(hn:∀x∈f.lets,x.code.length≤100000∧thin 100000 x.code) :
  loopN T 0 0 (.norm false [1,3]) l662_0 (stPf f 0)=some (.n,⟨[(1,.ptr (.loc 1) 1 2 0 0),(3,.bs (.loc 3) 2 1 0 f.lets.length)],
   [(.loc 1,⟨1,.str,2,[[.sl (rowLt f.lets) .an,.sl (rowC f.outs) .an]]⟩),(.loc 3,⟨2,.own,1,natR (szT (f.lets.map (·.code)))⟩)],4⟩):=by
 refine zae (T:=T) (k:=0) (id:=0) (g2:=.norm false [1,3]) (c:=l662_0) (fun i=>stPf f i) f.lets.length _ (fun i hi=>?_) ?_
 ·obtain⟨x,hx,hmem⟩:∃x,f.lets[i]? = some x∧x∈f.lets:=⟨f.lets[i]'hi,List.getElem?_eq_getElem hi,List.getElem_mem hi⟩
  obtain⟨_,hge⟩:=List.getElem?_eq_some_iff.1 hx
  have hlt':(i:Int)<f.lets.length:=by omega
  have hws:=zal hi (by omega)
  have hxc:(f.lets.map (·.code))[i]? = some x.code:=by rw[List.getElem?_map,hx];rfl
  have hlen:(szT ((f.lets.take i).map (·.code))).length=i:=by rw[ze4,List.length_map,List.length_take];omega
  have hsz:=zh8 (T:=T) (szT ((f.lets.take i).map (·.code))) x.code (zvv _) (by have:=(hn x hmem).1;omega) (fun y hy=>by have:=(hn x hmem).2 y hy;omega) (by rw[hlen];exact hL i x.code hxc)
  have hsn:szT ((f.lets.take (i+1)).map (·.code))=szT ((f.lets.take i).map (·.code))++[szC (szT ((f.lets.take i).map (·.code))) x.code]:=by
   rw[List.take_add_one,hx,Option.toList_some,List.map_append,List.map_singleton,zfk]
  have hap:=zsh (szT ((f.lets.take i).map (·.code))) (szC (szT ((f.lets.take i).map (·.code))) x.code)
  rw[hlen]at hsz
  rw[←hsn]at hap
  have hi32:i+1≤4294967296:=by omega
  have htk:(natR (szT ((f.lets.take i).map (·.code)))).take i=natR (szT ((f.lets.take i).map (·.code))):=List.take_of_length_le (by rw[zdv];omega)
  unfold stPf
  generalize szT ((f.lets.take (i+1)).map (·.code))=S1 at *
  generalize szT ((f.lets.take i).map (·.code))=S at *
  generalize szC S x.code=v at *
  obtain⟨L,O⟩:=f
  obtain⟨nm,code⟩:=x
  dsimp only at *
  simp -implicitDefEqProofs[l662_0,hi,hlt',hx,hge,hws,hsz,hap,hlen,hi32,htk]
 ·unfold stPf
  rw[List.take_length]
  constructor<;>simp -implicitDefEqProofs[l662_0]
theorem zmf(S:List Nat)(O:List (List Nd))(hS:∀n∈S,n≤1201)(h2:O.length≤100000)(hb:∀c∈O,refB S.length c∧c.length≤100000∧thin 100000 c) :
  loopN T 0 2 (.norm false [6]) l662_1 (stPg S O 0)=some (.n,⟨[(6,.i .i64 (((O.map (szC S)).sum:Nat):Int))],[],2⟩):=by
 refine zae (T:=T) (k:=0) (id:=2) (g2:=.norm false [6]) (c:=l662_1) (fun i=>stPg S O i) O.length _ (fun i hi=>?_) ?_
 ·obtain⟨c,hx,hmem⟩:∃c,O[i]? = some c∧c∈O:=⟨O[i]'hi,List.getElem?_eq_getElem hi,List.getElem_mem hi⟩
  obtain⟨_,hge⟩:=List.getElem?_eq_some_iff.1 hx
  have hlt':(i:Int)<O.length:=by omega
  have hws:=zal hi (by omega)
  obtain⟨b1,b2,b3⟩:=hb c hmem
  have hsz:=zh8 (T:=T) S c hS (by omega) (fun y hy=>by have:=b3 y hy;omega) b1
  have hsn:((O.take (i+1)).map (szC S)).sum=((O.take i).map (szC S)).sum+szC S c:=by
   rw[List.take_add_one,hx,Option.toList_some,List.map_append,List.map_singleton,List.sum_append]
   simp
  have hle:((O.take i).map (szC S)).sum≤1201*i:=by
   have key:∀l:List (List Nd),(l.map (szC S)).sum≤1201*l.length:=by
    intro l
    induction l with
    | nil=>simp
    | cons d l ih=>have:=zoa S d;simp only[List.map_cons,List.sum_cons,List.length_cons];omega
   have:=key (O.take i)
   rw[List.length_take]at this
   omega
  have hle2:=zoa S c
  unfold stPg
  rw[hsn]
  generalize ((O.take i).map (szC S)).sum=m at *
  generalize szC S c=v at *
  have hw:IntKind.wrap .i64 ((m:Int)+(v:Int))=(m:Int)+(v:Int):=zac _ (by omega)
  simp -implicitDefEqProofs[l662_1,hi,hlt',hx,hge,hws,hsz,hw]
 ·unfold stPg
  rw[List.take_length]
  constructor<;>simp -implicitDefEqProofs[l662_1]
theorem zpe(f:Fd)(h1:f.lets.length≤100000)(h2:f.outs.length≤100000)(hL:refT (f.lets.map (·.code)))(hn:∀x∈f.lets,x.code.length≤100000∧thin 100000 x.code)
  (hb:∀c∈f.outs,refB f.lets.length c∧c.length≤100000∧thin 100000 c) :
  callF T 662 [efd f]=some (.b (decide (allE (tabE (f.lets.map (·.code))) f.outs≤1200))):=by
 have l1:=zme (T:=T) f h1 hL hn
 have hlen:(szT (f.lets.map (·.code))).length=f.lets.length:=by rw[ze4,List.length_map]
 have l2:=zmf (T:=T) (szT (f.lets.map (·.code))) f.outs (zvv _) h2 (by rw[hlen];exact hb)
 have hfit:=zxk (zxj (f.lets.map (·.code))) f.outs
 rw[show decide (allE (tabE (f.lets.map (·.code))) f.outs≤1200)=decide ((((f.outs.map (szC (szT (f.lets.map (·.code))))).sum:Nat):Int)≤1200) from decide_eq_decide.2 (by omega)]
 unfold stPf at l1
 unfold stPg at l2
 rw[hlen]at l2
 rw[show szT ((f.lets.take 0).map (·.code))=[] from rfl]at l1
 rw[show (((f.outs.take 0).map (szC (szT (f.lets.map (·.code))))).sum:Nat)=0 from rfl]at l2
 generalize szT (f.lets.map (·.code))=S at *
 generalize (f.outs.map (szC S)).sum=m at *
 obtain⟨L,O⟩:=f
 dsimp only at *
 rw[f662 _ rfl,b662]
 simp -implicitDefEqProofs at l1 l2
 simp -implicitDefEqProofs[l1,l2]
end
theorem ztb{dim pars lets:Int}{c:List Nd}(h:ptA dim pars lets c<0):placeN dim pars lets c<0∧depN c≤40:=by
 unfold ptA at h
 by_cases h1:placeN dim pars lets c<0∧40<depN c
 ·rw[if_pos h1]at h;omega
 ·rw[if_neg h1]at h
  exact⟨h,by omega⟩
theorem zk6{dim pars:Int}{L:List Lt}:∀(l:List Lt) (i:Nat),chkL dim pars L i l=none→∀k x,l[k]? = some x→ptA dim pars ((i+k:Nat):Int) x.code<0
 | [],i,h,k,x,hk=>by simp at hk
 | y::r,i,h,k,x,hk=>by
  unfold chkL at h
  split at h
  ·cases h
  ·split at h
   ·cases h
   ·next h2=>
    cases k with
    | zero=>
     simp only[List.getElem?_cons_zero,Option.some.injEq]at hk
     subst hk
     rw[Nat.add_zero];omega
    | succ k=>
     rw[List.getElem?_cons_succ]at hk
     have:=zk6 r (i+1) h k x hk
     rwa [show i+1+k=i+(k+1) by omega]at this
theorem zk7{dim pars:Int}{n:Nat}:∀(l:List (List Nd)) (i:Nat),chkO dim pars n i l=none→∀c∈l,ptA dim pars n c<0
 | [],i,h,c,hc=>by simp at hc
 | y::r,i,h,c,hc=>by
  unfold chkO at h
  split at h
  ·cases h
  ·rcases List.mem_cons.1 hc with rfl | hc
   ·omega
   ·exact zk7 r (i+1) h c hc
structure FineD (f:Fd) (dim pars:Int):Prop where
 wh:1≤dim∧dim≤6∧0≤pars∧pars≤6∧(f.outs.length:Int)=dim∧f.lets.length≤10∧sizeD f≤300
 lets:∀k x,f.lets[k]? = some x→placeN dim pars (k:Nat) x.code<0
 outs:∀c∈f.outs,placeN dim pars f.lets.length c<0
theorem zem{f:Fd}{dim pars:Int}(h:chkD f dim pars=none):FineD f dim pars:=by
 unfold chkD at h
 cases hW:whB f dim pars with
 | false=>rw[hW,if_pos rfl]at h;cases h
 | true=>
  rw[hW,if_neg (by decide)]at h
  have hw:=by simpa[whB]using hW
  cases hL:chkL dim pars f.lets 0 f.lets with
  | some q=>rw[hL]at h;cases h
  | none=>
   rw[hL]at h
   refine⟨hw,fun k x hk=>?_,fun c hc=>(ztb (zk7 _ _ h c hc)).1⟩
   have:=zk6 _ _ hL k x hk
   rw[Nat.zero_add]at this
   exact(ztb this).1
theorem ztk{dim pars lets:Int}{x:Nd}(h:okN dim pars lets x=true)(ho:x.op=5):0≤x.i∧x.i<lets:=by
 unfold okN at h
 rw[ho,if_neg (by decide)]at h
 split at h
 ·cases h
 ·simpa[belB]using h
theorem FineD.refT{f:Fd}{dim pars:Int}(h:FineD f dim pars):refT (f.lets.map (·.code)):=by
 intro i c hc x hx ho
 rw[List.getElem?_map]at hc
 obtain⟨y,hy,rfl⟩:=Option.map_eq_some_iff.1 hc
 obtain⟨_,_,_,hok⟩:=zhb (h.lets i y hy)
 exact ztk (hok x hx) ho
theorem FineD.refB{f:Fd}{dim pars:Int}(h:FineD f dim pars):∀c∈f.outs,refB f.lets.length c:=by
 intro c hc x hx ho
 obtain⟨_,_,_,hok⟩:=zhb (h.outs c hc)
 exact ztk (hok x hx) ho
theorem ze5{l:List Nat}{n:Nat}(h:n∈l):n≤l.sum:=by
 induction l with
 | nil=>cases h
 | cons m l ih=>
  rw[List.sum_cons]
  rcases List.mem_cons.1 h with rfl | h
  ·omega
  ·have:=ih h;omega
theorem FineD.len{f:Fd}{dim pars:Int}(h:FineD f dim pars):∀c∈codesD f,c.length≤300:=by
 intro c hc
 have:=h.wh.2.2.2.2.2.2
 unfold sizeD at this
 have h2:c.length≤((codesD f).map List.length).sum:=ze5 (List.mem_map.2 ⟨c,hc,rfl⟩)
 omega
theorem zdk{f:Fd}{x:Lt}(h:x∈f.lets):x.code∈codesD f:=List.mem_append_left _ (List.mem_map.2 ⟨x,h,rfl⟩)
theorem zbx{f:Fd}{c:List Nd}(h:c∈f.outs):c∈codesD f:=List.mem_append_right _ h
def letsB(f:Fd):Bool:=decide (0<f.lets.length) || f.outs.any fun c=>c.any fun x=>decide (x.op=5)
abbrev tabF(f:Fd):List (List Nd):=tabE (f.lets.map (·.code))
def hasP(f:Fd):Bool:=decide (chkD f f.outs.length 6=none)&&decide (allE (tabF f) f.outs≤1200)
def outsP(f:Fd):List (List Nd):=f.outs.map (inE (tabF f))
class CEval2 (T:Tbl):Prop where
class CRun (T:Tbl):Prop where
def meths1:List RV:=[.cell 1 (some 445),.cell 2 (some 444),.cell 3 (some 441),.cell 4 (some 448),.cell 5 (some 443),.cell 6 (some 447),.cell 7 (some 446),.cell 8 (some 442)]
class CIfc (T:Tbl):Prop where
class CGauge (T:Tbl):Prop where
class CEval (T:Tbl):Prop where
class CTape (T:Tbl):Prop where
class CFrac3 (T:Tbl):Prop where
section
variable{T:Tbl}[CLimb T][CNat T][CProd T][CTwos T][CQuot T][CQuotD T][CWhole T][CCommon T][CFrac T][CFrac3 T]
def stPw(a:List UInt32)(k i:Nat):St:=⟨[(0,.sl (u32s a) .an),(5,.sl (u32s (ofN (val a^i))) .an),(7,.i .i64 k),(8,.i .i64 i)],[],2⟩
def powR(q:Rat)(e:Int):Rat×Bool:=if -8≤e∧e≤8∧¬ (e<0∧q=0) then (powZ q e,true) else (0,false)
end
@[simp] theorem z5d:ints []=[]:=rfl
section
variable{T:Tbl}[CLimb T][CNat T][CProd T][CTwos T][CQuot T][CQuotD T][CWhole T][CCommon T][CFrac T][CFrac3 T][CTape T]
def stMy(t:Tp)(p:Nat)(x:Ins)(i:Nat):St:=
 ⟨[(1,.i .i64 p),(2,.ptr (.loc 2) 1 4 0 0),(5,.ptr (.loc 5) 2 6 0 0),(30,.sl (ints (readsI x)) .an),(31,.i .i64 (readsI x).length),(32,.i .i64 i)],
  [(.loc 2,⟨1,.str,4,[[.sl (rowI t.code) .an,.sl (ints t.outs) .an,.i .i64 t.dim,.i .i64 t.par]]⟩),(.loc 5,⟨2,.str,6,[celI x]⟩)],4⟩
end
section
variable{T:Tbl}[CLimb T][CNat T][CProd T][CTwos T][CQuot T][CQuotD T][CWhole T][CCommon T][CFrac T][CFrac3 T][CTape T]
structure Small (t:Tp):Prop where
 code:t.code.length≤4294967296
 outs:t.outs.length≤4294967296
 ns:∀i∈t.code,fsz i.n≤10000
 d1:-9223372036854775808≤t.dim
 d2:t.dim<9223372036854775808
def bxT(t:Tp):Box:=⟨1,.str,4,[[.sl (rowI t.code) .an,.sl (ints t.outs) .an,.i .i64 t.dim,.i .i64 t.par]]⟩
def stW1(t:Tp)(i:Nat):St:=⟨[(1,.ptr (.loc 1) 1 4 0 0),(11,.i .i64 t.code.length),(12,.i .i64 i)],[(.loc 1,bxT t)],3⟩
def stW2(t:Tp)(i:Nat):St:=⟨[(1,.ptr (.loc 1) 1 4 0 0),(22,.sl (ints t.outs) .an),(23,.i .i64 t.outs.length),(24,.i .i64 i)],[(.loc 1,bxT t)],3⟩
end
def limI(n:Int):Int:=if n<0 then 0 else if 4096<n then 4096 else n
abbrev bxG(g:Nat)(s p L:Int):Box:=⟨g,.str,3,[[.i .i64 s,.i .i64 p,.i .i64 L]]⟩
def cntS(s:Int):Int:=IntKind.wrap .i64 (s+1)
def cntP(p:Int)(x:Fz):Int:=if p<(sizF x:Int) then (sizF x:Int) else p
section
variable{T:Tbl}[CLimb T][CNat T][CProd T][CTwos T][CQuot T][CQuotD T][CWhole T][CCommon T][CFrac T][CFrac3 T][CFrac5 T][CPow T][CTape T][CGauge T][CEval T]
def stEn(l:List Fz)(i:Nat):St:=⟨[(3,.bs (.loc 3) 1 3 0 i),(6,.sl (rowF l) .an),(7,.i .i64 l.length),(8,.i .i64 i)],[(.loc 3,⟨1,.own,3,rowF (nrm (l.take i))⟩)],3⟩
structure PoS (x:PoF) (B:Nat):Prop where
 t:fsz x.t≤B
 y:∀u∈x.y,fsz u≤B
 p:∀u∈x.p,fsz u≤B
 yl:x.y.length≤1000
 pl:x.p.length≤1000
end
abbrev mD:AV:=.agg [.dead]
structure PvS (P:Po) (B:Nat):Prop where
 t:sz P.t≤B
 y:∀q∈P.y,sz q≤B
 p:∀q∈P.p,sz q≤B
def runG(lim:Nat)(P:Po):List Ins→List Rat→Int→Int→Int×Int
 | [],_,s,p=>(s,p)
 | i::r,D,s,p=>if (valI P D i).2=false then (s,p) else if lim<sizQ (valI P D i).1 then (cntS s,cntP p (fz (valI P D i).1)) else runG lim P r (D++[(valI P D i).1]) (cntS s) (cntP p (fz (valI P D i).1))
abbrev bxM:Box:=⟨3,.str,1,[[.ptr (.bor 0) 0 3 0 0]]⟩
abbrev bxP(g:Nat)(x:PoF):Box:=⟨g,.str,5,[[.b x.t.1,.sl (u32s x.t.2.1) .an,.sl (u32s x.t.2.2) .an,.sl (rowF x.y) .an,.sl (rowF x.p) .an]]⟩
abbrev bxF(g:Nat)(a b c d:Int):Box:=⟨g,.str,4,[[.i .i64 a,.i .i64 b,.i .i64 c,.i .i64 d]]⟩
def stRun(Q:PoF)(L:Int)(code:List Ins)(i:Nat)(D:List Fz)(s p:Int)(kd:Kind):St:=
 ⟨[(3,.ptr (.loc 3) 3 1 0 0),(5,.ptr (.loc 5) 4 5 0 0),(7,.ptr (.loc 7) 5 4 0 0),(8,.bs (.loc 8) 6 3 0 i),(34,.sl (rowI code) .an),(35,.i .i64 code.length),(36,.i .i64 i)],
  [(.bor 0,bxG 0 s p L),(.loc 3,bxM),(.loc 5,bxP 4 Q),(.loc 7,bxF 5 0 0 0 0),(.loc 8,⟨6,kd,3,rowF D⟩)],8⟩
def endN(n:Nat)(D:List Fz)(s p L:Int)(kd:Kind):Ex×St:=(.n,⟨[(7,.ptr (.loc 7) 3 4 0 0),(8,.bs (.loc 8) 4 3 0 n)],[(.bor 0,bxG 0 s p L),(.loc 7,bxF 3 0 0 0 0),(.loc 8,⟨4,kd,3,rowF D⟩)],6⟩)
def endR(kind at_ s p L:Int):Ex×St:=(.r,⟨[(6,.sl [] .an),(7,.ptr (.loc 7) 3 4 0 0)],[(.bor 0,bxG 0 s p L),(.loc 7,bxF 3 kind 0 0 at_)],5⟩)
section
variable{T:Tbl}[CLimb T][CNat T][CProd T][CTwos T][CQuot T][CQuotD T][CWhole T][CCommon T][CFrac T][CFrac3 T][CFrac5 T][CPow T][CTape T][CGauge T][CEval T][CRun T][CIfc T]
def kdE(kd:Kind)(l:List Ins):Kind:=if l=[] then kd else .sh
def endRun(lim:Nat)(P:Po)(code l:List Ins)(D:List Rat)(s p:Int)(kd:Kind):Ex×St:=
 if (runR lim P l D).2.1=0 then endN code.length (fzs (runR lim P l D).1) (runG lim P l D s p).1 (runG lim P l D s p).2 lim (kdE kd l)
 else endR (runR lim P l D).2.1 (runR lim P l D).2.2 (runG lim P l D s p).1 (runG lim P l D s p).2 lim
end
def leafV(P:Po)(ls:List Rat)(x:Nd):Rat:=if x.op=1 then ((val x.n:Nat):Rat) else if x.op=3 then gI P.y x.i else if x.op=4 then gI P.p x.i else if x.op=5 then gI ls x.i else P.t
def unV(x:Nd)(a:Rat):Rat×Bool:=if x.op=6 then (-a,true) else powR a x.i
def biV(op:Int)(a b:Rat):Rat×Bool:=if op=7 then (a+b,true) else if op=8 then (a-b,true) else if op=9 then (a*b,true) else (a/b,decide (b≠0))
def finV(lim:Nat)(v:Rat×Bool)(i:Nat):Rat×Nat×Nat:=if v.2=false then (0,3,i) else if lim<sizQ v.1 then (0,6,i) else (v.1,0,0)
def stepV(P:Po)(ls:List Rat)(s:List Rat)(x:Nd):(Rat×Bool)×List Rat:=
 if arN x.op=0 then ((leafV P ls x,true),s) else if arN x.op=1 then (unV x (s.headD 0),s.tail) else (biV x.op (s.tail.headD 0) (s.headD 0),s.tail.tail)
def walkR(lim:Nat)(P:Po)(ls:List Rat):Nat→List Rat→List Nd→Rat×Nat×Nat
 | _,s,[]=>(s.headD 0,0,0)
 | i,s,x::r=>if (finV lim (stepV P ls s x).1 i).2.1≠0 then finV lim (stepV P ls s x).1 i else walkR lim P ls (i+1) ((stepV P ls s x).1.1::(stepV P ls s x).2) r
def evT(lim:Nat)(P:Po)(ls:List Rat):Tre→Nat→Rat×Nat×Nat
 | .leaf x,i=>finV lim (leafV P ls x,true) i
 | .un x a,i=>if (evT lim P ls a i).2.1≠0 then evT lim P ls a i else finV lim (unV x (evT lim P ls a i).1) (i+a.flat.length)
 | .bin x a b,i=>if (evT lim P ls a i).2.1≠0 then evT lim P ls a i else if (evT lim P ls b (i+a.flat.length)).2.1≠0 then evT lim P ls b (i+a.flat.length)
   else finV lim (biV x.op (evT lim P ls a i).1 (evT lim P ls b (i+a.flat.length)).1) (i+a.flat.length+b.flat.length)
def walkG(lim:Nat)(P:Po)(ls:List Rat):List Rat→List Nd→Int→Int→Int×Int
 | _,[],c,p=>(c,p)
 | s,x::r,c,p=>if (stepV P ls s x).1.2=false then (c,p) else if lim<sizQ (stepV P ls s x).1.1 then (cntS c,cntP p (fz (stepV P ls s x).1.1))
   else walkG lim P ls ((stepV P ls s x).1.1::(stepV P ls s x).2) r (cntS c) (cntP p (fz (stepV P ls s x).1.1))
abbrev hpA(gk:Nat)(Q:PoF)(LS:List Fz)(s p L seen:Int)(F:List Fz)(m:Nat):Heap:=
 [(.bor 0,⟨0,.str,9,[[.b Q.t.1,.sl (u32s Q.t.2.1) .an,.sl (u32s Q.t.2.2) .an,.sl (rowF Q.y) .an,.sl (rowF Q.p) .an,.sl (rowF LS) .an,.ptr (.bor 1) 1 3 0 0,.i .i64 seen,.bs (.bor 2) gk 3 0 m]]⟩),(.bor 1,bxG 1 s p L),(.bor 2,⟨gk,.own,3,rowF F⟩)]
abbrev wP:AV:=.ptr (.bor 0) 0 9 0 0
abbrev bx4A(z:Fz):Box:=⟨7,.str,3,[[.b z.1,.sl (u32s z.2.1) .an,.sl (u32s z.2.2) .an]]⟩
abbrev bx5A(a b c d:Int):Box:=⟨8,.str,4,[[.i .i64 a,.i .i64 b,.i .i64 c,.i .i64 d]]⟩
abbrev hqA(gk:Nat)(Q:PoF)(LS:List Fz)(s p L seen:Int)(F:List Fz)(m:Nat)(z:Fz)(a b c d:Int):Heap:=
 [(.bor 0,⟨0,.str,9,[[.b Q.t.1,.sl (u32s Q.t.2.1) .an,.sl (u32s Q.t.2.2) .an,.sl (rowF Q.y) .an,.sl (rowF Q.p) .an,.sl (rowF LS) .an,.ptr (.bor 1) 1 3 0 0,.i .i64 seen,.bs (.bor 2) gk 3 0 m]]⟩),(.bor 1,bxG 1 s p L),(.bor 2,⟨gk,.own,3,rowF F⟩),(.loc 4,bx4A z),(.loc 5,bx5A a b c d)]
def stWA(gk:Nat)(Q:PoF)(LS:List Fz)(s p L seen:Int)(F:List Fz)(m:Nat)(code:List Nd)(i:Nat):St:=
 ⟨[(0,wP),(4,.ptr (.loc 4) 7 3 0 0),(5,.ptr (.loc 5) 8 4 0 0),(18,.sl (rowN code) .an),(19,.i .i64 code.length),(20,.i .i64 i)],hqA gk Q LS s p L seen F m (false,[],[]) 0 0 0 0,10⟩
def endWA(gk:Nat)(Q:PoF)(LS:List Fz)(s p L seen:Int)(F:List Fz)(m:Nat):Ex×St:=
 (.n,⟨[(0,wP),(4,.ptr (.loc 4) 7 3 0 0),(5,.ptr (.loc 5) 8 4 0 0)],hqA gk Q LS s p L seen F m (false,[],[]) 0 0 0 0,10⟩)
def endSA(gk:Nat)(Q:PoF)(LS:List Fz)(s p L seen:Int)(F:List Fz)(m:Nat)(kind at_:Int):Ex×St:=
 (.r,⟨[(4,.ptr (.loc 4) 7 3 0 0),(5,.ptr (.loc 5) 8 4 0 0)],hqA gk Q LS s p L seen F m (fz 0) kind 0 0 at_,10⟩)
section
variable{T:Tbl}[CLimb T][CNat T][CProd T][CTwos T][CQuot T][CQuotD T][CWhole T][CCommon T][CFrac T][CFrac2 T][CFrac3 T][CFrac5 T][CPow T][CTape T][CGauge T][CEval T][CEval2 T][CTree T][CText T][CLenD T]
def endQA(P:Po)(lim:Nat)(ls:List Rat)(n:Nat)(R:Rat×Nat×Nat)(r:Ex×St):Prop:=
 (R.2.1=0∧∃gk s p F,(gk=2∨gk=6)∧F[0]? = some (fz R.1)∧F.length≤5000∧r=endWA gk P.f (fzs ls) s p lim n F 1) ∨
 (R.2.1≠0∧∃gk s p seen F m,(gk=2∨gk=6)∧r=endSA gk P.f (fzs ls) s p lim seen F m R.2.1 R.2.2)
end
end Go.Ab
section
namespace Go.Ab
end Go.Ab
end
namespace Go.Ab
abbrev flt4(a b c d:Int):AV:=.agg [.i .i64 a,.i .i64 b,.i .i64 c,.i .i64 d]
section
variable{T:Tbl}[CTree T][CTree2 T][CText T][CLenD T][CLimb T][CNat T][CJoin T][CLex T][CCheck T]
theorem zo6(s:List UInt8)(hs:s.length≤100000):callF T 486 [.s s]=some (.b (nameB s)):=by
 have c:=zsc (T:=T) 2 0 s hs
 unfold nameB
 rw[f486 _ rfl,b486]
 generalize rightB 2 s=B at *
 by_cases h1:s=[116]
 ·subst h1;cases B<;>simp -implicitDefEqProofs
 by_cases h2:s=[121]
 ·subst h2;cases B<;>simp -implicitDefEqProofs
 by_cases h3:s=[112]
 ·subst h3;cases B<;>simp -implicitDefEqProofs
 by_cases h4:s=[108,101,116]
 ·subst h4;cases B<;>simp -implicitDefEqProofs
 cases B<;>simp -implicitDefEqProofs[c,h1,h2,h3,h4]
theorem zl6(L:List Lt)(i:Nat)(hi:i<L.length)(hL:L.length≤100000):callF T 487 [.sl (rowLt L) .an,.i .i64 i]=some (.b (twB (L.take i) (L[i]'hi).name)):=by
 have hlo:loopN T 0 0 (.norm false []) l487_0 ⟨[(0,.sl (rowLt L) .an),(1,.i .i64 i),(6,.i .i64 i),(7,.i .i64 ((0:Nat):Int))],[],2⟩ =
   if twB ((L.take i).drop 0) (L[i]'hi).name=true then some (.r,⟨[(4,.b true)],[],2⟩) else some (.n,⟨[],[],2⟩):=by
  refine zaj (fun k=>⟨[(0,.sl (rowLt L) .an),(1,.i .i64 i),(6,.i .i64 i),(7,.i .i64 ((k:Nat):Int))],[],2⟩) i
   (fun k=>if twB ((L.take i).drop k) (L[i]'hi).name=true then some (.r,_) else some (.n,_)) (fun k hk=>?_) ?_
  ·have hk1:k<L.length:=by omega
   have hg:L[k]? = some (L[k]'hk1):=List.getElem?_eq_getElem hk1
   have hgi:L[i]? = some (L[i]'hi):=List.getElem?_eq_getElem hi
   have hk2:k<(L.take i).length:=by rw[List.length_take];omega
   have hd:(L.take i).drop k=(L.take i)[k]'hk2::(L.take i).drop (k+1):=List.drop_eq_getElem_cons hk2
   have hx2:(L.take i)[k]'hk2=L[k]'hk1:=by simp
   rw[hx2]at hd
   have hws:=zal hk (by omega)
   have hk':(k:Int)<i:=by omega
   have hi':(i:Int)<L.length:=by omega
   have hk1':(k:Int)<L.length:=by omega
   generalize hx:L[k]'hk1=x at *
   generalize hy:L[i]'hi=y at *
   obtain⟨xn,xc⟩:=x
   obtain⟨yn,yc⟩:=y
   by_cases hc:xn=yn
   ·right
    rw[if_pos (by rw[hd];simp[twB,hc])]
    clear hd
    constructor<;>simp -implicitDefEqProofs[l487_0,hk,hk',hk1,hk1',hi,hi',hg,hgi,hx,hy,hc]
   ·left
    refine⟨?_,by rw[hd];simp[twB,hc]⟩
    clear hd
    simp -implicitDefEqProofs[l487_0,hk,hk',hk1,hk1',hi,hi',hg,hgi,hx,hy,hc,hws]
  ·rw[List.drop_of_length_le (by rw[List.length_take];omega)]
   simp only[twB,List.any_nil,Bool.false_eq_true,if_false]
   constructor<;>simp -implicitDefEqProofs[l487_0]
 rw[List.drop_zero]at hlo
 simp only[Int.natCast_zero]at hlo
 rw[f487 _ rfl,b487]
 generalize twB (L.take i) (L[i]'hi).name=B at *
 cases B with
 | true=>
  rw[if_pos rfl]at hlo
  simp -implicitDefEqProofs[hlo]
 | false=>
  rw[if_neg (by decide)]at hlo
  simp -implicitDefEqProofs[hlo]
theorem zh5(c:List Nd)(num dim pars lets:Int)(hl:c.length≤50000)(hn:thin 1000 c):callF T 488 [.sl (rowN c) .an,.i .i64 num,.i .i64 dim,.i .i64 pars,.i .i64 lets] =
  some (if 0≤ptA dim pars lets c then flt4 2 num 0 (ptA dim pars lets c) else flt4 0 0 0 0):=by
 have c1:=zmv (T:=T) c dim pars lets (by omega) hn
 have c2:=zpy (T:=T) c hl
 have hp:=zlc dim pars lets c
 unfold ptA
 rw[f488 _ rfl,b488]
 generalize depN c=d at *
 generalize placeN dim pars lets c=p at *
 by_cases h:p<0
 ·by_cases hd:40<d
  ·have hd':(40:Int)<d:=by omega
   have hnl:¬ (c.length:Int)<0:=by omega
   have h0:(0:Int)≤c.length:=by omega
   rw[if_pos (show p<0∧40<d from ⟨h,hd⟩),if_pos h0]
   simp -implicitDefEqProofs[c1,c2,h,hd,hd',hnl]
  ·have hd':¬ (40:Int)<d:=by omega
   have h0:¬ 0≤p:=by omega
   rw[if_neg (show ¬ (p<0∧40<d) from fun hh=>hd hh.2),if_neg h0]
   simp -implicitDefEqProofs[c1,c2,h,hd,hd']
 ·have h0:0≤p:=by omega
  rw[if_neg (show ¬ (p<0∧40<d) from fun hh=>h hh.1),if_pos h0]
  simp -implicitDefEqProofs[c1,c2,h]
theorem zl7(f:Fd)(dim pars:Int)(h1:f.lets.length≤100000)(h2:f.outs.length≤100000)(hn:thinD 1000 50000 f)(hs:sizeD f≤4294967295):callF T 485 [efd f,.i .i64 dim,.i .i64 pars]=some (.b (whB f dim pars)):=by
 have c:=zs3 (T:=T) f h1 h2 (fun c hc=>⟨Nat.le_trans (hn c hc).1 (by decide),(hn c hc).2⟩) hs
 unfold whB
 generalize sizeD f=S at *
 obtain⟨L,O⟩:=f
 dsimp only at *
 rw[f485 _ rfl,b485]
 by_cases g1:1≤dim
 ·by_cases g2:dim≤6
  ·by_cases g3:0≤pars
   ·by_cases g4:pars≤6
    ·by_cases g5:(O.length:Int)=dim
     ·by_cases g6:L.length≤10
      ·have g6':(L.length:Int)≤10:=by omega
       by_cases g7:S≤300
       ·have g7':(S:Int)≤300:=by omega
        simp -implicitDefEqProofs[g1,g2,g3,g4,g5,g6,g6',g7,g7',c]
       ·have g7':¬ (S:Int)≤300:=by omega
        simp -implicitDefEqProofs[g1,g2,g3,g4,g5,g6,g6',g7,g7',c]
      ·have g6':¬ (L.length:Int)≤10:=by omega
       simp -implicitDefEqProofs[g1,g2,g3,g4,g5,g6,g6',c]
     ·simp -implicitDefEqProofs[g1,g2,g3,g4,g5,c]
    ·simp -implicitDefEqProofs[g1,g2,g3,g4,c]
   ·simp -implicitDefEqProofs[g1,g2,g3,c]
  ·simp -implicitDefEqProofs[g1,g2,c]
 ·simp -implicitDefEqProofs[g1,c]
end
abbrev bxFd(g:Nat)(f:Fd):Box:=⟨g,.str,2,[[.sl (rowLt f.lets) .an,.sl (rowC f.outs) .an]]⟩
def fltC(q:Option (Int×Int×Int)):AV:=match q with
 | some (a,b,c)=>flt4 2 a b c
 | none=>flt4 0 0 0 0
def endC(a b c:Int):Option (Ex×St):=some (.r,⟨[(6,.ptr (.loc 6) 1 4 0 0)],[(.loc 6,⟨1,.str,4,[[.i .i64 2,.i .i64 a,.i .i64 b,.i .i64 c]]⟩)],3⟩)
section
variable{T:Tbl}[CTree T][CTree2 T][CText T][CLenD T][CLimb T][CNat T][CJoin T][CLex T][CCheck T]
def stCL(f:Fd)(dim pars:Int)(i:Nat):St:=⟨[(1,.i .i64 dim),(2,.i .i64 pars),(3,.ptr (.loc 3) 1 2 0 0),(6,.ptr (.loc 6) 2 4 0 0),(20,.sl (rowLt f.lets) .an),(21,.i .i64 f.lets.length),(22,.i .i64 i)],[(.loc 3,bxFd 1 f),(.loc 6,⟨2,.str,4,[[.i .i64 0,.i .i64 0,.i .i64 0,.i .i64 0]]⟩)],4⟩
theorem zo7(f:Fd)(dim pars:Int)(h1:f.lets.length≤10)(hn:thinD 1000 50000 f)(hs:∀x∈f.lets,x.name.length≤100000) :
  loopN T 0 0 (.norm false [1,2,3,6]) l477_0 (stCL f dim pars 0)=match chkL dim pars f.lets 0 f.lets with
   | some (a,b,c)=>endC a b c
   | none=>some (.n,⟨[(1,.i .i64 dim),(2,.i .i64 pars),(3,.ptr (.loc 3) 1 2 0 0),(6,.ptr (.loc 6) 2 4 0 0)],[(.loc 3,bxFd 1 f),(.loc 6,⟨2,.str,4,[[.i .i64 0,.i .i64 0,.i .i64 0,.i .i64 0]]⟩)],4⟩):=by
 have:=zaj (T:=T) (k:=0) (id:=0) (g2:=.norm false [1,2,3,6]) (c:=l477_0) (stCL f dim pars) f.lets.length
  (fun i=>match chkL dim pars f.lets i (f.lets.drop i) with
   | some (a,b,c)=>endC a b c
   | none=>some (.n,⟨[(1,.i .i64 dim),(2,.i .i64 pars),(3,.ptr (.loc 3) 1 2 0 0),(6,.ptr (.loc 6) 2 4 0 0)],[(.loc 3,bxFd 1 f),(.loc 6,⟨2,.str,4,[[.i .i64 0,.i .i64 0,.i .i64 0,.i .i64 0]]⟩)],4⟩)) (fun i hi=>?_) ?_
 ·simpa using this
 ·have hg:f.lets[i]? = some (f.lets[i]'hi):=List.getElem?_eq_getElem hi
  have hd:f.lets.drop i=f.lets[i]'hi::f.lets.drop (i+1):=List.drop_eq_getElem_cons hi
  have hi':(i:Int)<f.lets.length:=by omega
  have hws:=zal hi (by omega)
  have hw1:IntKind.wrap .i64 ((i:Int)+1)=(i:Int)+1:=zac _ (by omega)
  obtain⟨hc1,hc2⟩:=hn (f.lets[i]'hi).code (List.mem_append.2 (.inl (List.mem_map.2 ⟨_,List.getElem_mem hi,rfl⟩)))
  have k1:=zo6 (T:=T) (f.lets[i]'hi).name (hs _ (List.getElem_mem hi))
  have k2:=zl6 (T:=T) f.lets i hi (by omega)
  have k3:=zh5 (T:=T) (f.lets[i]'hi).code ((i:Int)+1) dim pars i hc1 hc2
  have hp0:ptA dim pars i (f.lets[i]'hi).code<0∨0≤ptA dim pars i (f.lets[i]'hi).code:=by omega
  rw[hd,chkL]
  obtain⟨L,O⟩:=f
  dsimp only at *
  clear hd hn hs hc1 hc2
  generalize hx:L[i]'hi=x at *
  obtain⟨nm,code⟩:=x
  dsimp only at *
  unfold stCL bxFd endC
  dsimp only
  rw[hws]at hw1
  generalize ptA dim pars i code=p at *
  generalize twB (L.take i) nm=B at *
  cases hA:nameB nm with
  | false=>
   right
   rw[hA]at k1
   rw[if_pos (.inl rfl)]
   constructor<;>simp -implicitDefEqProofs[l477_0,hi,hi',hg,hx,k1,hws]
  | true=>
   rw[hA]at k1
   cases B with
   | true=>
    right
    rw[if_pos (.inr rfl)]
    constructor<;>simp -implicitDefEqProofs[l477_0,hi,hi',hg,hx,k1,k2,hws]
   | false=>
    rw[if_neg (by simp)]
    rcases hp0 with hp0 | hp0
    ·left
     have hp1:¬ 0≤p:=by omega
     rw[if_neg hp1]at k3 ⊢
     refine⟨?_,rfl⟩
     simp -implicitDefEqProofs[l477_0,hi,hi',hg,hx,k1,k2,k3,hws]
    ·right
     rw[if_pos hp0]at k3 ⊢
     constructor<;>simp -implicitDefEqProofs[l477_0,hi,hi',hg,hx,k1,k2,k3,hws]
 ·rw[List.drop_length,chkL]
  unfold stCL bxFd
  constructor<;>simp -implicitDefEqProofs[l477_0]
def stCO(f:Fd)(dim pars:Int)(i:Nat):St:=⟨[(1,.i .i64 dim),(2,.i .i64 pars),(3,.ptr (.loc 3) 1 2 0 0),(6,.ptr (.loc 6) 2 4 0 0),(54,.sl (rowC f.outs) .an),(55,.i .i64 f.outs.length),(56,.i .i64 i)],[(.loc 3,bxFd 1 f),(.loc 6,⟨2,.str,4,[[.i .i64 0,.i .i64 0,.i .i64 0,.i .i64 0]]⟩)],4⟩
theorem zo8(f:Fd)(dim pars:Int)(h1:f.lets.length≤10)(h2:f.outs.length≤10)(hn:thinD 1000 50000 f) :
  loopN T 0 2 (.norm false [6]) l477_1 (stCO f dim pars 0)=match chkO dim pars f.lets.length 0 f.outs with
   | some (a,b,c)=>endC a b c
   | none=>some (.n,⟨[(6,.ptr (.loc 6) 1 4 0 0)],[(.loc 6,⟨1,.str,4,[[.i .i64 0,.i .i64 0,.i .i64 0,.i .i64 0]]⟩)],3⟩):=by
 have:=zaj (T:=T) (k:=0) (id:=2) (g2:=.norm false [6]) (c:=l477_1) (stCO f dim pars) f.outs.length
  (fun i=>match chkO dim pars f.lets.length i (f.outs.drop i) with
   | some (a,b,c)=>endC a b c
   | none=>some (.n,⟨[(6,.ptr (.loc 6) 1 4 0 0)],[(.loc 6,⟨1,.str,4,[[.i .i64 0,.i .i64 0,.i .i64 0,.i .i64 0]]⟩)],3⟩)) (fun i hi=>?_) ?_
 ·simpa using this
 ·have hg:f.outs[i]? = some (f.outs[i]'hi):=List.getElem?_eq_getElem hi
  have hd:f.outs.drop i=f.outs[i]'hi::f.outs.drop (i+1):=List.drop_eq_getElem_cons hi
  have hi':(i:Int)<f.outs.length:=by omega
  have hws:=zal hi (by omega)
  have hw1:IntKind.wrap .i64 ((f.lets.length:Int)+i)=(f.lets.length:Int)+i:=zac _ (by omega)
  have hw2:IntKind.wrap .i64 ((f.lets.length:Int)+i+1)=(f.lets.length:Int)+i+1:=zac _ (by omega)
  have hw3:(((f.lets.length+i:Nat):Int)+1)=(f.lets.length:Int)+i+1:=by omega
  obtain⟨hc1,hc2⟩:=hn (f.outs[i]'hi) (List.mem_append.2 (.inr (List.getElem_mem hi)))
  have k3:=zh5 (T:=T) (f.outs[i]'hi) ((f.lets.length:Int)+i+1) dim pars f.lets.length hc1 hc2
  have hp0:ptA dim pars f.lets.length (f.outs[i]'hi)<0∨0≤ptA dim pars f.lets.length (f.outs[i]'hi):=by omega
  rw[hd,chkO,hw3]
  obtain⟨L,O⟩:=f
  dsimp only at *
  clear hd hn hc1 hc2 hw3
  generalize hx:O[i]'hi=x at *
  unfold stCO bxFd endC
  dsimp only
  generalize ptA dim pars L.length x=p at *
  rcases hp0 with hp0 | hp0
  ·left
   have hp1:¬ 0≤p:=by omega
   rw[if_neg hp1]at k3 ⊢
   refine⟨?_,rfl⟩
   simp -implicitDefEqProofs[l477_1,hi,hi',hg,hx,k3,hws,hw1,hw2]
  ·right
   rw[if_pos hp0]at k3 ⊢
   constructor<;>simp -implicitDefEqProofs[l477_1,hi,hi',hg,hx,k3,hws,hw1,hw2]
 ·rw[List.drop_length,chkO]
  unfold stCO bxFd
  constructor<;>simp -implicitDefEqProofs[l477_1]
theorem zl8(f:Fd)(dim pars:Int)(h1:f.lets.length≤100000)(h2:f.outs.length≤100000)(hn:thinD 1000 50000 f)(hz:sizeD f≤4294967295)(hs:∀x∈f.lets,x.name.length≤100000) :
  callF T 477 [efd f,.i .i64 dim,.i .i64 pars]=some (fltC (chkD f dim pars)):=by
 have c:=zl7 (T:=T) f dim pars h1 h2 hn hz
 unfold chkD
 cases hW:whB f dim pars with
 | false=>
  rw[hW]at c
  rw[if_pos rfl]
  unfold fltC
  obtain⟨L,O⟩:=f
  dsimp only at *
  rw[f477 _ rfl,b477]
  simp -implicitDefEqProofs[c]
 | true=>
  rw[hW]at c
  rw[if_neg (by decide)]
  have hW2:(1≤dim∧dim≤6∧0≤pars∧pars≤6∧(f.outs.length:Int)=dim∧f.lets.length≤10∧sizeD f≤300):=by simpa[whB]using hW
  have a1:=zo7 (T:=T) f dim pars hW2.2.2.2.2.2.1 hn hs
  have a2:=zo8 (T:=T) f dim pars hW2.2.2.2.2.2.1 (by omega) hn
  generalize chkL dim pars f.lets 0 f.lets=X at *
  generalize chkO dim pars f.lets.length 0 f.outs=Y at *
  unfold stCL bxFd endC at a1
  unfold stCO bxFd endC at a2
  simp only[Int.natCast_zero]at a1 a2
  obtain⟨L,O⟩:=f
  dsimp only at *
  clear hW2 hn hs hz
  rw[f477 _ rfl,b477]
  obtain _ | ⟨x1,x2,x3⟩:=X
  ·dsimp only at a1 ⊢
   obtain _ | ⟨y1,y2,y3⟩:=Y
   ·dsimp only at a2
    unfold fltC
    simp -implicitDefEqProofs[c,a1,a2]
   ·dsimp only at a2
    unfold fltC
    simp -implicitDefEqProofs[c,a1,a2]
  ·dsimp only at a1 ⊢
   unfold fltC
   simp -implicitDefEqProofs[c,a1]
end
def stPo(L:List Lt)(E:List (List Nd))(D:List Nat)(O:List (List Nd))(i:Nat):St:=
 ⟨[(4,.ptr (.loc 20) 1 2 0 0),(5,.bs (.loc 5) 3 1 0 i),(22,.sl (rowC O) .an),(23,.i .i64 O.length),(24,.i .i64 (i:Int))],
  [(.loc 20,⟨1,.str,2,[[.sl (rowLt L) .an,.fnp 0 (.loc 18) 2 2 0 0]]⟩),(.loc 18,⟨2,.mp,2,memR E D⟩),(.loc 5,⟨3,.own,1,rowC ((O.take i).map (inE E))⟩)],5⟩
section
variable{T:Tbl}[CPlain T]
theorem zfd(L:List Lt)(E:List (List Nd))(D D1:List Nat)(O:List (List Nd))(i:Nat)(c:List Nd)(hx:O[i]? = some c)(hO:O.length≤100000)
  (hc:callH T 664 [mkP,.sl (rowN c) .an] (plH L E D)=some (.sl (rowN (inE E c)) .an,plH L E D1)) :
  evX (orc T) T 0 l665_0 (stPo L E D O i)=some (.n,stPo L E D1 O (i+1)):=by
 obtain⟨hi,hge⟩:=List.getElem?_eq_some_iff.1 hx
 have hlt':(i:Int)<O.length:=by omega
 have hws:=zal hi (by omega)
 have hi32:i+1≤4294967296:=by omega
 have hsn:(O.take (i+1)).map (inE E)=(O.take i).map (inE E)++[inE E c]:=by rw[List.take_add_one,hx,Option.toList_some,List.map_append,List.map_singleton]
 have hap:=zep ((O.take i).map (inE E)) (inE E c)
 have hlen:((O.take i).map (inE E)).length=i:=by rw[List.length_map,List.length_take];omega
 have htk:(rowC ((O.take i).map (inE E))).take i=rowC ((O.take i).map (inE E)):=List.take_of_length_le (by rw[zcv];omega)
 rw[←hsn]at hap
 unfold stPo plH at *
 generalize (O.take (i+1)).map (inE E)=R1 at *
 generalize (O.take i).map (inE E)=R at *
 generalize inE E c=v at *
 simp -implicitDefEqProofs[l665_0,hi,hlt',hx,hge,hws,hc,hap,hlen,hi32,htk,genAt]
theorem zgr(L:List Lt)(O:List (List Nd))(hO:O.length≤100000)(hL:refT (L.map (·.code)))(hn:∀x∈L,x.code.length≤100000∧thin 100000 x.code)
  (hb:∀c∈O,refB L.length c∧c.length≤100000∧thin 100000 c∧(inE (tabE (L.map (·.code))) c).length≤100000) :
  loopN T 0 0 (.norm false [5]) l665_0 (stPo L (tabE (L.map (·.code))) [] O 0)=some (.n,⟨[(5,.bs (.loc 5) 1 1 0 O.length)],[(.loc 5,⟨1,.own,1,rowC (O.map (inE (tabE (L.map (·.code)))))⟩)],3⟩):=by
 have:=zeh (T:=T) (k:=0) (id:=0) (g2:=.norm false [5]) (c:=l665_0) (fun q:Nat×List Nat=>stPo L (tabE (L.map (·.code))) q.2 O q.1) (fun q=>q.1≤O.length) (fun q=>O.length-q.1)
  (fun r=>r=((.n,⟨[(5,.bs (.loc 5) 1 1 0 O.length)],[(.loc 5,⟨1,.own,1,rowC (O.map (inE (tabE (L.map (·.code)))))⟩)],3⟩):Ex×St)) (fun q hq=>?_) (0,[]) (Nat.zero_le _)
 ·obtain⟨r,rfl,h⟩:=this
  exact h
 ·obtain⟨i,D⟩:=q
  dsimp only at *
  by_cases hi:i<O.length
  ·left
   obtain⟨c,hx,hmem⟩:∃c,O[i]? = some c∧c∈O:=⟨O[i]'hi,List.getElem?_eq_getElem hi,List.getElem_mem hi⟩
   obtain⟨b1,b2,b3,b4⟩:=hb c hmem
   obtain⟨D1,hc⟩:=zpd (T:=T) L hL hn c b1 b2 b3 b4 D
   exact⟨(i+1,D1),hi,by dsimp only;omega,zfd L _ D D1 O i c hx hO hc⟩
  ·right
   have hio:i=O.length:=by omega
   subst hio
   refine⟨_,rfl,?_⟩
   unfold stPo
   rw[List.take_length]
   constructor<;>simp -implicitDefEqProofs[l665_0]
variable[CTree T][CTree2 T][CText T][CLenD T][CLimb T][CNat T][CJoin T][CLex T][CCheck T]
theorem zky(f:Fd)(h1:f.lets.length≤100000)(h2:f.outs.length≤100000)(hn:thinD 1000 50000 f)(hz:sizeD f≤4294967295)(hs:∀x∈f.lets,x.name.length≤100000) :
  callF T 660 [efd f]=some (.b (decide (chkD f f.outs.length 6=none))):=by
 have c:=zl8 (T:=T) f f.outs.length 6 h1 h2 hn hz hs
 generalize chkD f f.outs.length 6=q at *
 obtain⟨L,O⟩:=f
 dsimp only at *
 clear hn hz hs
 unfold fltC at c
 rw[f660 _ rfl,b660]
 cases q with
 | none=>simp -implicitDefEqProofs[c]
 | some q=>
  obtain⟨q1,q2,q3⟩:=q
  simp -implicitDefEqProofs[c]
theorem zey(f:Fd)(h1:f.lets.length≤100000)(h2:f.outs.length≤100000)(hn:thinD 1000 50000 f)(hz:sizeD f≤4294967295)(hs:∀x∈f.lets,x.name.length≤100000) :
  callF T 665 [efd f]=some (.tup [.sl (rowC (if hasP f then outsP f else [])) .an,.b (hasP f)]):=by
 have cm:=zky (T:=T) f h1 h2 hn hz hs
 unfold hasP
 by_cases hq:chkD f f.outs.length 6=none
 ·have hF:=zem hq
  have hlL:∀x∈f.lets,x.code.length≤100000∧thin 100000 x.code:=fun x hx=>by
   have:=hn x.code (zdk hx)
   exact⟨by omega,fun y hy=>by have:=this.2 y hy;omega⟩
  have hlO:∀c∈f.outs,refB f.lets.length c∧c.length≤100000∧thin 100000 c:=fun c hc=>by
   have:=hn c (zbx hc)
   exact⟨hF.refB c hc,by omega,fun y hy=>by have:=this.2 y hy;omega⟩
  have cf:=zpe (T:=T) f h1 h2 hF.refT hlL hlO
  rw[decide_eq_true hq]at cm ⊢
  by_cases hA:allE (tabF f) f.outs≤1200
  ·have cl:=zgr (T:=T) f.lets f.outs h2 hF.refT hlL fun c hc=>by
    obtain⟨b1,b2,b3⟩:=hlO c hc
    refine⟨b1,b2,b3,?_⟩
    have:(inE (tabF f) c).length≤allE (tabF f) f.outs:=ze5 (List.mem_map.2 ⟨c,hc,rfl⟩)
    exact Nat.le_trans this (by omega)
   rw[decide_eq_true hA]at cf ⊢
   unfold outsP
   unfold stPo at cl
   obtain⟨L,O⟩:=f
   dsimp only[tabF]at *
   generalize tabE (L.map (·.code))=E at *
   have htk:(O.map (inE E)).take O.length=O.map (inE E):=List.take_of_length_le (by simp)
   clear hn hz hs hF hlL hlO hq hA
   rw[f665 _ rfl,b665]
   simp -implicitDefEqProofs[memR]at cl
   simp -implicitDefEqProofs[cm,cf,cl,htk]
  ·rw[decide_eq_false hA]at cf ⊢
   obtain⟨L,O⟩:=f
   dsimp only at *
   clear hn hz hs hF hlL hlO hq hA
   rw[f665 _ rfl,b665]
   simp -implicitDefEqProofs[cm,cf]
 ·rw[decide_eq_false hq]at cm ⊢
  obtain⟨L,O⟩:=f
  dsimp only at *
  clear hn hz hs hq
  rw[f665 _ rfl,b665]
  simp -implicitDefEqProofs[cm]
theorem zmg(f:Fd)(h1:f.lets.length≤100000)(h2:f.outs.length≤100000)(hn:thinD 1000 50000 f)(hz:sizeD f≤4294967295)(hs:∀x∈f.lets,x.name.length≤100000) :
  callF T 666 [efd f]=some (.tup [efd ⟨[],if hasP f then outsP f else []⟩,.b (hasP f)]):=by
 have c:=zey (T:=T) f h1 h2 hn hz hs
 generalize (if hasP f then outsP f else [])=R at *
 generalize hasP f=b at *
 obtain⟨L,O⟩:=f
 dsimp only at *
 clear hn hz hs
 rw[f666 _ rfl,b666]
 simp -implicitDefEqProofs[c]
end
end Go.Ab